import PyProof.Rows.All
import Wide.All
import OpenK.AllK
import Wide.FinOn
import HandS.ForMost
import HandS.Wide
import HandS.IsInst
import HandS.TupAny
import HandS.TupMul
import HandS.Zip
import HandS.Style
import HandS.Conv
import HandS.Deep
import KE.GoesEnum
import KE.GoesMore
import HandS.More
import PySem.Challenge.RW_bigcorners_k34_whole_runs_by_the_text_al
set_option Elab.async false
set_option linter.all false
set_option maxRecDepth 100000
set_option maxHeartbeats 4000000
set_option autoImplicit false
namespace L3
open PySem L2

inductive D where
  | non
  | bl (b : Bool)
  | int (i : Int)
  | str (s : Str)
  | tup (ds : List D)
  | lst (ds : List D)
  | dk (ks : List Key) (ds : List D)
  | dt (ks : List (List Key)) (ds : List D)
  | ins (c : Nat) (ns : List Str) (ds : List D)
  | ty (n : String)
  | cls (c : Nat)
inductive O where
  | s (d : D)
  | lst (os : List O)
  | dk (ks : List Key) (os : List O)
  | dt (ks : List (List Key)) (os : List O)
  | ins (c : Nat) (ns : List Str) (os : List O)

abbrev Fp := List Addr

def Ex (H H' : Hp) : Prop := ∀ a o, H a = some o → H' a = some o
theorem Ex.refl (H : Hp) : Ex H H := fun _ _ h => h
theorem Ex.trans {H H1 H2 : Hp} (a : Ex H H1) (b : Ex H1 H2) : Ex H H2 := fun x o h => b x o (a x o h)
theorem Ex.sqT {K : PySem.W.Frag} {H H' : Hp} {a : Addr} {xs : List V} (e : Ex H H') (h : SqT K H a xs) : SqT K H' a xs := by
  rcases h with (h | ⟨o, h⟩) | h
  · exact .inl (.inl (e _ _ h))
  · exact .inl (.inr ⟨o, e _ _ h⟩)
  · exact .inr h
theorem Ex.sqL {K : PySem.W.Frag} {H H' : Hp} {a : Addr} {xs : List V} (e : Ex H H') (h : SqL K H a xs) : SqL K H' a xs := by
  rcases h with (h | ⟨o, h⟩) | h
  · exact .inl (.inl (e _ _ h))
  · exact .inl (.inr ⟨o, e _ _ h⟩)
  · exact .inr h
theorem Ex.keep {H H' : Hp} (e : Ex H H') {a : Addr} (h : H a ≠ none) : H' a = H a := by
  cases q : H a with
  | none => exact absurd q h
  | some o => exact e a o q
theorem Ex.dom {H H' : Hp} (e : Ex H H') {a : Addr} (h : H a ≠ none) : H' a ≠ none := by rw [e.keep h]; exact h

mutual
def RpD (K : PySem.W.Frag) (cl : Nat → Addr) (F : Hp) : D → V → Prop
  | .non, v => v = .non
  | .bl b, v => v = .bl b
  | .int i, v => v = .int i
  | .str s, v => v = .str s
  | .tup ds, v => ∃ a xs, v = .ref a ∧ SqT K F a xs ∧ RpDs K cl F ds xs
  | .lst ds, v => ∃ a xs, v = .ref a ∧ SqL K F a xs ∧ RpDs K cl F ds xs
  | .dk ks ds, v => ∃ a xs, v = .ref a ∧ F a = some (.dK (ks.zip xs)) ∧ ks.length = xs.length ∧ RpDs K cl F ds xs
  | .dt ks ds, v => ∃ a xs, v = .ref a ∧ F a = some (.dT (ks.zip xs)) ∧ ks.length = xs.length ∧ RpDs K cl F ds xs
  | .ins c ns ds, v => ∃ a dx xs, v = .ref a ∧ F a = some (.ins (cl c) dx (ns.zip xs)) ∧ ns.length = xs.length ∧ RpDs K cl F ds xs
  | .ty n, v => v = .ty n
  | .cls c, v => v = .ref (cl c)
def RpDs (K : PySem.W.Frag) (cl : Nat → Addr) (F : Hp) : List D → List V → Prop
  | [], vs => vs = []
  | d :: ds, vs => ∃ v r, vs = v :: r ∧ RpD K cl F d v ∧ RpDs K cl F ds r
end
mutual
def RpO (K : PySem.W.Frag) (cl : Nat → Addr) (F H : Hp) : O → V → Fp → Prop
  | .s d, v, fp => fp = [] ∧ RpD K cl F d v
  | .lst os, v, fp => ∃ a xs f, v = .ref a ∧ fp = a :: f ∧ H a = some (.lst xs) ∧ RpOs K cl F H os xs f
  | .dk ks os, v, fp => ∃ a xs f, v = .ref a ∧ fp = a :: f ∧ H a = some (.dK (ks.zip xs)) ∧ ks.length = xs.length ∧ RpOs K cl F H os xs f
  | .dt ks os, v, fp => ∃ a xs f, v = .ref a ∧ fp = a :: f ∧ H a = some (.dT (ks.zip xs)) ∧ ks.length = xs.length ∧ RpOs K cl F H os xs f
  | .ins c ns os, v, fp => ∃ a dx xs f, v = .ref a ∧ fp = a :: f ∧ H a = some (.ins (cl c) dx (ns.zip xs)) ∧ ns.length = xs.length ∧ RpOs K cl F H os xs f
def RpOs (K : PySem.W.Frag) (cl : Nat → Addr) (F H : Hp) : List O → List V → Fp → Prop
  | [], vs, fp => vs = [] ∧ fp = []
  | o :: os, vs, fp => ∃ v r f g, vs = v :: r ∧ fp = f ++ g ∧ RpO K cl F H o v f ∧ RpOs K cl F H os r g
end

section
variable {K : PySem.W.Frag} {cl : Nat → Addr} {F F' H H' : Hp}
mutual
theorem RpD.mono (eF : Ex F F') : ∀ (d : D) (v : V), RpD K cl F d v → RpD K cl F' d v
  | .non, _, h => h
  | .bl _, _, h => h
  | .int _, _, h => h
  | .str _, _, h => h
  | .ty _, _, h => h
  | .cls _, _, h => h
  | .tup ds, v, h => by
    obtain ⟨a, xs, e1, q, r⟩ := h
    exact ⟨a, xs, e1, eF.sqT q, RpDs.mono eF ds xs r⟩
  | .lst ds, v, h => by
    obtain ⟨a, xs, e1, q, r⟩ := h
    exact ⟨a, xs, e1, eF.sqL q, RpDs.mono eF ds xs r⟩
  | .dk ks ds, v, h => by
    obtain ⟨a, xs, e1, q, l, r⟩ := h
    exact ⟨a, xs, e1, eF _ _ q, l, RpDs.mono eF ds xs r⟩
  | .dt ks ds, v, h => by
    obtain ⟨a, xs, e1, q, l, r⟩ := h
    exact ⟨a, xs, e1, eF _ _ q, l, RpDs.mono eF ds xs r⟩
  | .ins c ks ds, v, h => by
    obtain ⟨a, dx, xs, e1, q, l, r⟩ := h
    exact ⟨a, dx, xs, e1, eF _ _ q, l, RpDs.mono eF ds xs r⟩
theorem RpDs.mono (eF : Ex F F') : ∀ (ds : List D) (vs : List V), RpDs K cl F ds vs → RpDs K cl F' ds vs
  | [], _, h => h
  | d :: ds, vs, h => by
    obtain ⟨v, r, e1, h1, h2⟩ := h
    exact ⟨v, r, e1, RpD.mono eF d v h1, RpDs.mono eF ds r h2⟩
end
mutual
theorem RpO.mono (eF : Ex F F') : ∀ (o : O) (v : V) (fp : Fp), (∀ a ∈ fp, H' a = H a) → RpO K cl F H o v fp → RpO K cl F' H' o v fp
  | .s d, v, fp, _, h => ⟨h.1, h.2.mono eF d v⟩
  | .lst os, v, fp, k, h => by
    obtain ⟨a, xs, f, e1, rfl, q, r⟩ := h
    exact ⟨a, xs, f, e1, rfl, (k a (by simp)).trans q, RpOs.mono eF os xs f (fun b hb => k b (by simp [hb])) r⟩
  | .dk ks os, v, fp, k, h => by
    obtain ⟨a, xs, f, e1, rfl, q, l, r⟩ := h
    exact ⟨a, xs, f, e1, rfl, (k a (by simp)).trans q, l, RpOs.mono eF os xs f (fun b hb => k b (by simp [hb])) r⟩
  | .dt ks os, v, fp, k, h => by
    obtain ⟨a, xs, f, e1, rfl, q, l, r⟩ := h
    exact ⟨a, xs, f, e1, rfl, (k a (by simp)).trans q, l, RpOs.mono eF os xs f (fun b hb => k b (by simp [hb])) r⟩
  | .ins c ks os, v, fp, k, h => by
    obtain ⟨a, dx, xs, f, e1, rfl, q, l, r⟩ := h
    exact ⟨a, dx, xs, f, e1, rfl, (k a (by simp)).trans q, l, RpOs.mono eF os xs f (fun b hb => k b (by simp [hb])) r⟩
theorem RpOs.mono (eF : Ex F F') : ∀ (os : List O) (vs : List V) (fp : Fp), (∀ a ∈ fp, H' a = H a) → RpOs K cl F H os vs fp → RpOs K cl F' H' os vs fp
  | [], _, _, _, h => h
  | o :: os, vs, fp, k, h => by
    obtain ⟨v, r, f, g, e1, rfl, h1, h2⟩ := h
    exact ⟨v, r, f, g, e1, rfl, RpO.mono eF o v f (fun b hb => k b (by simp [hb])) h1, RpOs.mono eF os r g (fun b hb => k b (by simp [hb])) h2⟩
end
theorem RpO.inH_ : True := trivial
mutual
theorem RpO.inH : ∀ (o : O) (v : V) (fp : Fp), RpO K cl F H o v fp → ∀ a ∈ fp, H a ≠ none
  | .s d, v, fp, h, a, ha => by rw [h.1] at ha; simp at ha
  | .lst os, v, fp, h, a, ha => by
    obtain ⟨b, xs, f, e1, rfl, q, r⟩ := h
    rcases List.mem_cons.mp ha with rfl | ha
    · rw [q]; simp
    · exact RpOs.inH os xs f r a ha
  | .dk ks os, v, fp, h, a, ha => by
    obtain ⟨b, xs, f, e1, rfl, q, l, r⟩ := h
    rcases List.mem_cons.mp ha with rfl | ha
    · rw [q]; simp
    · exact RpOs.inH os xs f r a ha
  | .dt ks os, v, fp, h, a, ha => by
    obtain ⟨b, xs, f, e1, rfl, q, l, r⟩ := h
    rcases List.mem_cons.mp ha with rfl | ha
    · rw [q]; simp
    · exact RpOs.inH os xs f r a ha
  | .ins c ks os, v, fp, h, a, ha => by
    obtain ⟨b, dx, xs, f, e1, rfl, q, l, r⟩ := h
    rcases List.mem_cons.mp ha with rfl | ha
    · rw [q]; simp
    · exact RpOs.inH os xs f r a ha
theorem RpOs.inH : ∀ (os : List O) (vs : List V) (fp : Fp), RpOs K cl F H os vs fp → ∀ a ∈ fp, H a ≠ none
  | [], _, _, h, a, ha => by rw [h.2] at ha; simp at ha
  | d :: ds, vs, fp, h, a, ha => by
    obtain ⟨v, r, f, g, e1, rfl, h1, h2⟩ := h
    rcases List.mem_append.mp ha with ha | ha
    · exact RpO.inH d v f h1 a ha
    · exact RpOs.inH ds r g h2 a ha
end
theorem RpOs.length : ∀ {ds : List O} {xs : List V} {fp : Fp}, RpOs K cl F H ds xs fp → xs.length = ds.length
  | [], xs, fp, r => by rw [r.1]; rfl
  | d :: ds, xs, fp, r => by
    obtain ⟨v, r', f1, g1, rfl, rfl, h1, h2⟩ := r
    simp [h2.length]
theorem RpDs.length : ∀ {ds : List D} {xs : List V}, RpDs K cl F ds xs → xs.length = ds.length
  | [], xs, r => by rw [show xs = [] from r]; rfl
  | d :: ds, xs, r => by
    obtain ⟨v, r', rfl, h1, h2⟩ := r
    simp [h2.length]
theorem RpDs.get : ∀ {ds : List D} {xs : List V} {i : Nat} {d : D}, RpDs K cl F ds xs → ds[i]? = some d → ∃ v, xs[i]? = some v ∧ RpD K cl F d v
  | [], xs, i, d, _, h => by simp at h
  | d1 :: ds, xs, 0, d, r, h => by
    obtain ⟨v, r', rfl, h1, h2⟩ := r
    simp at h
    subst h
    exact ⟨v, rfl, h1⟩
  | d1 :: ds, xs, i + 1, d, r, h => by
    obtain ⟨v, r', rfl, h1, h2⟩ := r
    obtain ⟨v2, e2, r2⟩ := RpDs.get h2 (by simpa using h)
    exact ⟨v2, by simpa using e2, r2⟩
theorem RpOs.get : ∀ {ds : List O} {xs : List V} {fp : Fp} {i : Nat} {d : O}, RpOs K cl F H ds xs fp → ds[i]? = some d →
    ∃ v g, xs[i]? = some v ∧ RpO K cl F H d v g ∧ ∀ a ∈ g, a ∈ fp
  | [], xs, fp, i, d, _, h => by simp at h
  | d1 :: ds, xs, fp, 0, d, r, h => by
    obtain ⟨v, r', f1, g1, rfl, rfl, h1, h2⟩ := r
    simp at h
    subst h
    exact ⟨v, f1, rfl, h1, fun a ha => List.mem_append_left _ ha⟩
  | d1 :: ds, xs, fp, i + 1, d, r, h => by
    obtain ⟨v, r', f1, g1, rfl, rfl, h1, h2⟩ := r
    obtain ⟨v2, g2, e2, r2, s2⟩ := RpOs.get h2 (by simpa using h)
    exact ⟨v2, g2, by simpa using e2, r2, fun a ha => List.mem_append_right _ (s2 a ha)⟩
theorem RpDs.append : ∀ {ds es : List D} {xs ys : List V}, RpDs K cl F ds xs → RpDs K cl F es ys → RpDs K cl F (ds ++ es) (xs ++ ys)
  | [], es, xs, ys, r, q => by rw [show xs = [] from r]; exact q
  | d :: ds, es, xs, ys, r, q => by
    obtain ⟨v, r', rfl, h1, h2⟩ := r
    exact ⟨v, r' ++ ys, rfl, h1, h2.append q⟩
theorem RpOs.append : ∀ {ds es : List O} {xs ys : List V} {f g : Fp}, RpOs K cl F H ds xs f → RpOs K cl F H es ys g → RpOs K cl F H (ds ++ es) (xs ++ ys) (f ++ g)
  | [], es, xs, ys, f, g, r, q => by rw [r.1, r.2]; exact q
  | d :: ds, es, xs, ys, f, g, r, q => by
    obtain ⟨v, r', f1, g1, rfl, rfl, h1, h2⟩ := r
    exact ⟨v, r' ++ ys, f1, g1 ++ g, rfl, by simp, h1, h2.append q⟩
theorem RpDs.os : ∀ {ds : List D} {xs : List V}, RpDs K cl F ds xs → RpOs K cl F H (ds.map O.s) xs []
  | [], xs, r => ⟨r, rfl⟩
  | d :: ds, xs, r => by
    obtain ⟨v, r', rfl, h1, h2⟩ := r
    exact ⟨v, r', [], [], rfl, rfl, ⟨rfl, h1⟩, h2.os⟩

mutual
def O.d : O → D
  | .s d => d
  | .lst os => .lst (O.ds os)
  | .dk ks os => .dk ks (O.ds os)
  | .dt ks os => .dt ks (O.ds os)
  | .ins c ns os => .ins c ns (O.ds os)
def O.ds : List O → List D
  | [] => []
  | o :: os => o.d :: O.ds os
end
theorem O.ds_map : ∀ os : List O, O.ds os = os.map O.d
  | [] => rfl
  | o :: os => by rw [List.map_cons, ← O.ds_map os]; rfl
theorem O.ds_s (ds : List D) : O.ds (ds.map O.s) = ds := by
  rw [O.ds_map, List.map_map]
  induction ds with
  | nil => rfl
  | cons d ds ih => rw [List.map_cons, ih]; rfl
mutual
theorem RpO.settle (eF : Ex F F') : ∀ (o : O) (v : V) (fp : Fp), (∀ a ∈ fp, F' a = H a) → RpO K cl F H o v fp → RpD K cl F' o.d v
  | .s d, v, fp, _, h => h.2.mono eF d v
  | .lst os, v, fp, k, h => by
    obtain ⟨a, xs, f, e1, rfl, q, r⟩ := h
    exact ⟨a, xs, e1, .inl (.inl ((k a (by simp)).trans q)), RpOs.settle eF os xs f (fun b hb => k b (by simp [hb])) r⟩
  | .dk ks os, v, fp, k, h => by
    obtain ⟨a, xs, f, e1, rfl, q, l, r⟩ := h
    exact ⟨a, xs, e1, (k a (by simp)).trans q, l, RpOs.settle eF os xs f (fun b hb => k b (by simp [hb])) r⟩
  | .dt ks os, v, fp, k, h => by
    obtain ⟨a, xs, f, e1, rfl, q, l, r⟩ := h
    exact ⟨a, xs, e1, (k a (by simp)).trans q, l, RpOs.settle eF os xs f (fun b hb => k b (by simp [hb])) r⟩
  | .ins c ks os, v, fp, k, h => by
    obtain ⟨a, dx, xs, f, e1, rfl, q, l, r⟩ := h
    exact ⟨a, dx, xs, e1, (k a (by simp)).trans q, l, RpOs.settle eF os xs f (fun b hb => k b (by simp [hb])) r⟩
theorem RpOs.settle (eF : Ex F F') : ∀ (os : List O) (vs : List V) (fp : Fp), (∀ a ∈ fp, F' a = H a) → RpOs K cl F H os vs fp → RpDs K cl F' (O.ds os) vs
  | [], _, _, _, h => h.1
  | o :: os, vs, fp, k, h => by
    obtain ⟨v, r, f, g, e1, rfl, h1, h2⟩ := h
    exact ⟨v, r, e1, RpO.settle eF o v f (fun b hb => k b (by simp [hb])) h1, RpOs.settle eF os r g (fun b hb => k b (by simp [hb])) h2⟩
end
theorem RpO.rd (e : Ex F H) {o : O} {v : V} {fp : Fp} (h : RpO K cl F H o v fp) : RpD K cl H o.d v := RpO.settle e o v fp (fun _ _ => rfl) h
theorem RpOs.rd (e : Ex F H) {o : List O} {v : List V} {fp : Fp} (h : RpOs K cl F H o v fp) : RpDs K cl H (O.ds o) v := RpOs.settle e o v fp (fun _ _ => rfl) h
end
end L3
namespace L3
open PySem L2

abbrev Env := List (Option O)

structure Cn where
  K : PySem.W.Frag
  cl : Nat → Addr
  F0 : Hp
  H0 : Hp
  io : Fp
  IO : List Nat
  vs : L2.St
  n : Nat

structure Mo where
  F : Hp
  H : Hp
  env : Env
  fps : List Fp
  σ : L2.St

def SlotOk (K : PySem.W.Frag) (cl : Nat → Addr) (F H : Hp) (o : Option O) (s : Option V) (f : Fp) : Prop :=
  match o with
  | none => f = []
  | some d => ∃ v, s = some v ∧ RpO K cl F H d v f

structure Sta (C : Cn) (m : Mo) : Prop where
  ln : m.env.length = C.n
  l1 : m.σ.length = m.env.length
  l2 : m.fps.length = m.env.length
  sl : ∀ (i : Nat) (o : Option O) (s : Option V) (f : Fp), m.env[i]? = some o → m.σ[i]? = some s → m.fps[i]? = some f → SlotOk C.K C.cl m.F m.H o s f
  ex : Ex m.F m.H
  exF : Ex C.F0 m.F
  newF : ∀ a, m.F a ≠ none → C.F0 a = none → C.H0 a = none ∨ a ∈ C.io
  nd : ∀ (i : Nat) (f : Fp), m.fps[i]? = some f → f.Nodup
  dj : ∀ (i j : Nat) (f g : Fp) (a : Addr), i ≠ j → m.fps[i]? = some f → m.fps[j]? = some g → a ∈ f → a ∉ g
  df : ∀ a ∈ m.fps.flatten, m.F a = none
  own : ∀ a ∈ m.fps.flatten, C.H0 a = none ∨ a ∈ C.io
  frame : ∀ b o, C.H0 b = some o → b ∉ C.io → m.H b = some o
  dom : ∀ b, C.H0 b ≠ none → m.H b ≠ none
  pin : ∀ i ∈ C.IO, m.σ[i]? = C.vs[i]?

structure Step (T : List Nat) (m m' : Mo) : Prop where
  exF : Ex m.F m'.F
  keep : ∀ b o, m.H b = some o → b ∉ m.fps.flatten → m'.H b = some o
  dom : ∀ b, m.H b ≠ none → m'.H b ≠ none
  newF : ∀ a, m'.F a ≠ none → m.F a = none → m.H a = none ∨ a ∈ m.fps.flatten
  newO : ∀ a ∈ m'.fps.flatten, m.H a = none ∨ a ∈ m.fps.flatten
  len : m'.env.length = m.env.length
  unt : ∀ i, i ∉ T → m'.env[i]? = m.env[i]? ∧ m'.fps[i]? = m.fps[i]? ∧ m'.σ[i]? = m.σ[i]? ∧ ∀ f, m.fps[i]? = some f → ∀ a ∈ f, m'.H a = m.H a

theorem Step.refl (T : List Nat) (m : Mo) : Step T m m :=
  ⟨Ex.refl _, fun _ _ h _ => h, fun _ h => h, fun a h h' => absurd h' h, fun a h => .inr h, rfl, fun _ _ => ⟨rfl, rfl, rfl, fun _ _ _ _ => rfl⟩⟩
theorem Step.trans {T1 T2 : List Nat} {m m1 m2 : Mo} (s : Step T1 m m1) (t : Step T2 m1 m2) : Step (T1 ++ T2) m m2 where
  exF := s.exF.trans t.exF
  keep := fun b o h n => t.keep b o (s.keep b o h n) fun q => by
    rcases s.newO b q with z | z
    · rw [h] at z; cases z
    · exact n z
  dom := fun b h => t.dom b (s.dom b h)
  newF := fun a h n => by
    by_cases q : m1.F a = none
    · rcases t.newF a h q with z | z
      · exact .inl (Classical.byContradiction fun w => s.dom a w z)
      · exact s.newO a z
    · exact s.newF a q n
  newO := fun a h => by
    rcases t.newO a h with z | z
    · exact .inl (Classical.byContradiction fun w => s.dom a w z)
    · exact s.newO a z
  len := t.len.trans s.len
  unt := fun i h => by
    obtain ⟨a1, a2, a3, a4⟩ := s.unt i (fun z => h (by simp [z]))
    obtain ⟨b1, b2, b3, b4⟩ := t.unt i (fun z => h (by simp [z]))
    exact ⟨b1.trans a1, b2.trans a2, b3.trans a3, fun f hf a ha => (b4 f (a2.trans hf) a ha).trans (a4 f hf a ha)⟩
theorem Step.wk {T T' : List Nat} {m m' : Mo} (s : Step T m m') (h : ∀ i ∈ T, i ∈ T') : Step T' m m' :=
  ⟨s.exF, s.keep, s.dom, s.newF, s.newO, s.len, fun i hi => s.unt i fun z => hi (h i z)⟩

theorem Sta.slot {C : Cn} {m : Mo} (S : Sta C m) {x : Nat} {d : O} (h : m.env[x]? = some (some d)) : ∃ v f, m.σ[x]? = some (some v) ∧ m.fps[x]? = some f ∧ RpO C.K C.cl m.F m.H d v f := by
  have h1 : x < m.env.length := (List.getElem?_eq_some_iff.mp h).1
  have h2 : x < m.σ.length := by rw [S.l1]; exact h1
  have h3 : x < m.fps.length := by rw [S.l2]; exact h1
  obtain ⟨v, e, r⟩ := S.sl x _ _ _ h (List.getElem?_eq_getElem h2) (List.getElem?_eq_getElem h3)
  exact ⟨v, _, by rw [List.getElem?_eq_getElem h2, e], List.getElem?_eq_getElem h3, r⟩
theorem Sta.slotF {C : Cn} {m : Mo} (S : Sta C m) {x : Nat} {f : Fp} (h : m.fps[x]? = some f) : ∃ o s, m.env[x]? = some o ∧ m.σ[x]? = some s ∧ SlotOk C.K C.cl m.F m.H o s f := by
  have h3 : x < m.fps.length := (List.getElem?_eq_some_iff.mp h).1
  have h1 : x < m.env.length := by rw [← S.l2]; exact h3
  have h2 : x < m.σ.length := by rw [S.l1]; exact h1
  exact ⟨_, _, List.getElem?_eq_getElem h1, List.getElem?_eq_getElem h2, S.sl x _ _ _ (List.getElem?_eq_getElem h1) (List.getElem?_eq_getElem h2) h⟩
theorem mem_fps {m : Mo} {i : Nat} {f : Fp} (h : m.fps[i]? = some f) {a : Addr} (ha : a ∈ f) : a ∈ m.fps.flatten := List.mem_flatten.mpr ⟨f, List.mem_of_getElem? h, ha⟩
theorem Sta.inH {C : Cn} {m : Mo} (S : Sta C m) : ∀ a ∈ m.fps.flatten, m.H a ≠ none := by
  intro a ha
  obtain ⟨f, hf, haf⟩ := List.mem_flatten.mp ha
  obtain ⟨i, hi, e⟩ := List.mem_iff_getElem.mp hf
  have e1 : m.fps[i]? = some f := by rw [List.getElem?_eq_getElem hi, e]
  obtain ⟨o, s, h1, h2, q⟩ := S.slotF e1
  cases o with
  | none => rw [show f = [] from q] at haf; simp at haf
  | some d =>
    obtain ⟨v, _, r⟩ := q
    exact r.inH d v f a haf

structure Gro (m m' : Mo) : Prop where
  env : m'.env = m.env
  fps : m'.fps = m.fps
  σ : m'.σ = m.σ
  exF : Ex m.F m'.F
  exH : Ex m.H m'.H
  ex : Ex m'.F m'.H
  newF : ∀ a, m'.F a ≠ none → m.F a = none → m.H a = none
theorem Gro.refl {C : Cn} {m : Mo} (S : Sta C m) : Gro m m := ⟨rfl, rfl, rfl, Ex.refl _, Ex.refl _, S.ex, fun a h h' => absurd h' h⟩
theorem Gro.trans {m m1 m2 : Mo} (g : Gro m m1) (h : Gro m1 m2) : Gro m m2 :=
  ⟨h.env.trans g.env, h.fps.trans g.fps, h.σ.trans g.σ, g.exF.trans h.exF, g.exH.trans h.exH, h.ex, fun a n z => by
    by_cases q : m1.F a = none
    · have := h.newF a n q
      exact Classical.byContradiction fun w => g.exH.dom w this
    · exact g.newF a q z⟩
theorem Gro.step {C : Cn} {m m' : Mo} (S : Sta C m) (g : Gro m m') : Step [] m m' where
  exF := g.exF
  keep := fun b o h _ => g.exH b o h
  dom := fun b h => g.exH.dom h
  newF := fun a h n => .inl (g.newF a h n)
  newO := fun a h => .inr (by rw [g.fps] at h; exact h)
  len := by rw [g.env]
  unt := fun i _ => ⟨by rw [g.env], by rw [g.fps], by rw [g.σ], fun f hf a ha => g.exH.keep (S.inH a (mem_fps hf ha))⟩
theorem Sta.gro {C : Cn} {m m' : Mo} (S : Sta C m) (g : Gro m m') : Sta C m' where
  ln := by rw [g.env]; exact S.ln
  l1 := by rw [g.σ, g.env]; exact S.l1
  l2 := by rw [g.fps, g.env]; exact S.l2
  sl := fun i o s f h1 h2 h3 => by
    rw [g.env] at h1; rw [g.σ] at h2; rw [g.fps] at h3
    have q := S.sl i o s f h1 h2 h3
    cases o with
    | none => exact q
    | some d =>
      obtain ⟨v, e, r⟩ := q
      exact ⟨v, e, r.mono g.exF d v f (fun a ha => g.exH.keep (S.inH a (mem_fps h3 ha)))⟩
  ex := g.ex
  exF := S.exF.trans g.exF
  newF := fun a h n => by
    by_cases q : m.F a = none
    · have z := g.newF a h q
      exact .inl (Classical.byContradiction fun w => S.dom a w z)
    · exact S.newF a q n
  nd := by rw [g.fps]; exact S.nd
  dj := by rw [g.fps]; exact S.dj
  df := fun a ha => by
    rw [g.fps] at ha
    exact Classical.byContradiction fun w => S.inH a ha (g.newF a w (S.df a ha))
  own := fun a ha => by rw [g.fps] at ha; exact S.own a ha
  frame := fun b o h n => g.exH b o (S.frame b o h n)
  dom := fun b h => g.exH.dom (S.dom b h)
  pin := fun i hi => by rw [g.σ]; exact S.pin i hi

inductive Stp where
  | attr (f : Str)
  | idx (n : Nat)
  | key (k : Key)
inductive Rt where
  | val (d : D)
  | own (o : O)
  | bor (x : Nat) (p : List Stp) (o : O)
  | sl (x : Nat)

def lk {α : Type} : List Str → List α → Str → Option α
  | n :: ns, d :: ds, f => if n = f then some d else lk ns ds f
  | _, _, _ => none
def lkK {α κ : Type} [DecidableEq κ] : List κ → List α → κ → Option α
  | n :: ns, d :: ds, f => if n = f then some d else lkK ns ds f
  | _, _, _ => none

inductive Sub (cl : Nat → Addr) (H : Hp) : Stp → O → Addr → O → V → Prop where
  | idx {n : Nat} {ds : List O} {a : Addr} {xs : List V} {d : O} {v : V} : H a = some (.lst xs) → ds[n]? = some d → xs[n]? = some v → Sub cl H (.idx n) (.lst ds) a d v
  | attr {f : Str} {c : Nat} {ns : List Str} {ds : List O} {a dx : Addr} {xs : List V} {d : O} {v : V} : H a = some (.ins (cl c) dx (ns.zip xs)) → lk ns ds f = some d → lk ns xs f = some v → ns.length = xs.length → Sub cl H (.attr f) (.ins c ns ds) a d v
  | key {k : Key} {ks : List Key} {ds : List O} {a : Addr} {xs : List V} {d : O} {v : V} : H a = some (.dK (ks.zip xs)) → lkK ks ds k = some d → lkK ks xs k = some v → ks.length = xs.length → Sub cl H (.key k) (.dk ks ds) a d v
def At (cl : Nat → Addr) (H : Hp) : List Stp → O → V → O → V → Prop
  | [], d0, v0, d, v => d = d0 ∧ v = v0
  | s :: p, d0, v0, d, v => ∃ a d1 v1, v0 = .ref a ∧ Sub cl H s d0 a d1 v1 ∧ At cl H p d1 v1 d v

def RtOk (C : Cn) (m : Mo) (av : Addr → Prop) : Rt → V → Prop
  | .val d, v => RpD C.K C.cl m.F d v
  | .own d, v => ∃ fp : Fp, RpO C.K C.cl m.F m.H d v fp ∧ fp.Nodup ∧ ∀ a ∈ fp, m.F a = none ∧ a ∉ m.fps.flatten ∧ (C.H0 a = none ∨ a ∈ C.io) ∧ ¬ av a
  | .bor x p d, v => ∃ d0 v0, m.env[x]? = some (some d0) ∧ m.σ[x]? = some (some v0) ∧ At C.cl m.H p d0 v0 d v
  | .sl x, v => m.σ[x]? = some (some v)

def Rt.hot (T : List Nat) : Rt → Bool
  | .bor x _ _ => T.contains x
  | _ => false
def Rt.isSl : Rt → Bool
  | .sl _ => true
  | _ => false
def Rt.d : Rt → D
  | .val d => d
  | .own d => d.d
  | .bor _ _ d => d.d
  | .sl _ => .ty ""

theorem lk_zip : ∀ {ns : List Str} {xs : List V} {f : Str}, (ns.zip xs).lookup f = lk ns xs f
  | [], _, f => by simp [lk]
  | n :: ns, [], f => by simp [lk]
  | n :: ns, x :: xs, f => by
    show ((n, x) :: ns.zip xs).lookup f = _
    rw [List.lookup_cons]
    unfold lk
    by_cases e : n = f
    · subst e; simp
    · rw [if_neg e, show (f == n) = false from by simpa using fun h => e h.symm]
      exact lk_zip
section
variable {K : PySem.W.Frag} {cl : Nat → Addr} {F H : Hp}
theorem lk_rp {f : Str} : ∀ {ns : List Str} {ds : List O} {xs : List V} {fp : Fp} {d : O}, RpOs K cl F H ds xs fp → lk ns ds f = some d →
    ∃ v g, lk ns xs f = some v ∧ RpO K cl F H d v g ∧ ∀ a ∈ g, a ∈ fp
  | [], ds, xs, fp, d, _, h => by simp [lk] at h
  | n :: ns, [], xs, fp, d, _, h => by simp [lk] at h
  | n :: ns, d1 :: ds, xs, fp, d, r, h => by
    obtain ⟨v, r', f1, g1, rfl, rfl, h1, h2⟩ := r
    unfold lk at h ⊢
    by_cases e : n = f
    · rw [if_pos e] at h ⊢
      cases h
      exact ⟨v, f1, rfl, h1, fun a ha => List.mem_append_left _ ha⟩
    · rw [if_neg e] at h ⊢
      obtain ⟨v2, g2, e2, r2, s2⟩ := lk_rp h2 h
      exact ⟨v2, g2, e2, r2, fun a ha => List.mem_append_right _ (s2 a ha)⟩
theorem lk_rpD {f : Str} : ∀ {ns : List Str} {ds : List D} {xs : List V} {d : D}, RpDs K cl F ds xs → lk ns ds f = some d → ∃ v, lk ns xs f = some v ∧ RpD K cl F d v
  | [], ds, xs, d, _, h => by simp [lk] at h
  | n :: ns, [], xs, d, _, h => by simp [lk] at h
  | n :: ns, d1 :: ds, xs, d, r, h => by
    obtain ⟨v, r', rfl, h1, h2⟩ := r
    unfold lk at h ⊢
    by_cases e : n = f
    · rw [if_pos e] at h ⊢
      cases h
      exact ⟨v, rfl, h1⟩
    · rw [if_neg e] at h ⊢
      exact lk_rpD h2 h
theorem lkK_rp {κ : Type} [DecidableEq κ] {f : κ} : ∀ {ns : List κ} {ds : List O} {xs : List V} {fp : Fp} {d : O}, RpOs K cl F H ds xs fp → lkK ns ds f = some d →
    ∃ v g, lkK ns xs f = some v ∧ RpO K cl F H d v g ∧ ∀ a ∈ g, a ∈ fp
  | [], ds, xs, fp, d, _, h => by simp [lkK] at h
  | n :: ns, [], xs, fp, d, _, h => by simp [lkK] at h
  | n :: ns, d1 :: ds, xs, fp, d, r, h => by
    obtain ⟨v, r', f1, g1, rfl, rfl, h1, h2⟩ := r
    unfold lkK at h ⊢
    by_cases e : n = f
    · rw [if_pos e] at h ⊢
      cases h
      exact ⟨v, f1, rfl, h1, fun a ha => List.mem_append_left _ ha⟩
    · rw [if_neg e] at h ⊢
      obtain ⟨v2, g2, e2, r2, s2⟩ := lkK_rp h2 h
      exact ⟨v2, g2, e2, r2, fun a ha => List.mem_append_right _ (s2 a ha)⟩
theorem lkK_rpD {κ : Type} [DecidableEq κ] {f : κ} : ∀ {ns : List κ} {ds : List D} {xs : List V}, RpDs K cl F ds xs → (∀ d, lkK ns ds f = some d → ∃ v, lkK ns xs f = some v ∧ RpD K cl F d v) ∧ (lkK ns ds f = none → lkK ns xs f = none)
  | [], ds, xs, _ => by simp [lkK]
  | n :: ns, [], xs, h => by rw [show xs = [] from h]; simp [lkK]
  | n :: ns, d1 :: ds, xs, r => by
    obtain ⟨v, r', rfl, h1, h2⟩ := r
    unfold lkK
    by_cases e : n = f
    · rw [if_pos e, if_pos e]
      exact ⟨fun d h => ⟨v, rfl, by cases h; exact h1⟩, fun h => nomatch h⟩
    · rw [if_neg e, if_neg e]
      exact lkK_rpD h2
theorem lkK_val {κ : Type} [DecidableEq κ] {f : κ} : ∀ {ns : List κ} {xs : List V}, valV (ns.zip xs) f = lkK ns xs f
  | [], xs => by simp [lkK, valV]
  | n :: ns, [] => by simp [lkK, valV]
  | n :: ns, x :: xs => by
    have ih := lkK_val (f := f) (ns := ns) (xs := xs)
    unfold valV at ih ⊢
    unfold lkK
    by_cases e : n = f
    · simp [e]
    · simp [e, ih]
theorem zip_inj {α β : Type} : ∀ {ns : List α} {xs ys : List β}, ns.length = xs.length → ns.length = ys.length → ns.zip xs = ns.zip ys → xs = ys
  | [], xs, ys, h1, h2, _ => by
    rw [List.length_nil] at h1 h2
    rw [List.eq_nil_of_length_eq_zero h1.symm, List.eq_nil_of_length_eq_zero h2.symm]
  | n :: ns, [], ys, h1, _, _ => by simp at h1
  | n :: ns, x :: xs, [], _, h2, _ => by simp at h2
  | n :: ns, x :: xs, y :: ys, h1, h2, h => by
    simp only [List.zip_cons_cons, List.cons.injEq, Prod.mk.injEq, true_and] at h
    rw [h.1, zip_inj (by simpa using h1) (by simpa using h2) h.2]
theorem Sub.rp {s : Stp} {d0 d : O} {a : Addr} {v : V} {f0 : Fp} (r : RpO K cl F H d0 (.ref a) f0) (h : Sub cl H s d0 a d v) :
    ∃ f, RpO K cl F H d v f ∧ a ∈ f0 ∧ ∀ b ∈ f, b ∈ f0 := by
  cases h with
  | idx q e1 e2 =>
    obtain ⟨a', xs', f, e, rfl, q', rl⟩ := r
    cases e
    rw [q] at q'
    cases q'
    obtain ⟨v2, g, e3, r2, s⟩ := rl.get e1
    rw [e2] at e3
    cases e3
    exact ⟨g, r2, by simp, fun b hb => List.mem_cons_of_mem _ (s b hb)⟩
  | attr q e1 e2 l =>
    obtain ⟨a', dx', xs', f, e, rfl, q', l', rl⟩ := r
    cases e
    rw [q] at q'
    have q'' := Option.some.inj q'
    injection q'' with _ _ q''
    obtain rfl := zip_inj l l' q''
    obtain ⟨v2, g, e3, r2, s⟩ := lk_rp rl e1
    rw [e2] at e3
    cases e3
    exact ⟨g, r2, by simp, fun b hb => List.mem_cons_of_mem _ (s b hb)⟩
  | key q e1 e2 l =>
    obtain ⟨a', xs', f, e, rfl, q', l', rl⟩ := r
    cases e
    rw [q] at q'
    have q'' := Option.some.inj q'
    injection q'' with q''
    obtain rfl := zip_inj l l' q''
    obtain ⟨v2, g, e3, r2, s⟩ := lkK_rp rl e1
    rw [e2] at e3
    cases e3
    exact ⟨g, r2, by simp, fun b hb => List.mem_cons_of_mem _ (s b hb)⟩
theorem Sub.mono {H' : Hp} {s : Stp} {d0 d : O} {a : Addr} {v : V} (k : H' a = H a) (h : Sub cl H s d0 a d v) : Sub cl H' s d0 a d v := by
  cases h with
  | idx q e1 e2 => exact .idx (k.trans q) e1 e2
  | attr q e1 e2 l => exact .attr (k.trans q) e1 e2 l
  | key q e1 e2 l => exact .key (k.trans q) e1 e2 l
theorem At.rp : ∀ {p : List Stp} {d0 : O} {v0 : V} {f0 : Fp} {d : O} {v : V}, RpO K cl F H d0 v0 f0 → At cl H p d0 v0 d v → ∃ f, RpO K cl F H d v f ∧ ∀ a ∈ f, a ∈ f0
  | [], d0, v0, f0, d, v, r, h => by
    obtain ⟨rfl, rfl⟩ := h
    exact ⟨f0, r, fun _ h => h⟩
  | s :: p, d0, v0, f0, d, v, r, h => by
    obtain ⟨a, d1, v1, rfl, q, h⟩ := h
    obtain ⟨f, r1, _, s1⟩ := q.rp r
    obtain ⟨f2, r2, s2⟩ := At.rp r1 h
    exact ⟨f2, r2, fun b hb => s1 b (s2 b hb)⟩
theorem At.mono {H' : Hp} : ∀ {p : List Stp} {d0 : O} {v0 : V} {f0 : Fp} {d : O} {v : V}, RpO K cl F H d0 v0 f0 → (∀ a ∈ f0, H' a = H a) → At cl H p d0 v0 d v → At cl H' p d0 v0 d v
  | [], d0, v0, f0, d, v, r, k, h => h
  | s :: p, d0, v0, f0, d, v, r, k, h => by
    obtain ⟨a, d1, v1, rfl, q, h⟩ := h
    obtain ⟨f, r1, ha, s1⟩ := q.rp r
    exact ⟨a, d1, v1, rfl, q.mono (k a ha), At.mono r1 (fun b hb => k b (s1 b hb)) h⟩
theorem At.snoc {s : Stp} {d2 : O} {v2 : V} {a : Addr} : ∀ {p : List Stp} {d0 : O} {v0 : V} {d : O}, At cl H p d0 v0 d (.ref a) → Sub cl H s d a d2 v2 → At cl H (p ++ [s]) d0 v0 d2 v2
  | [], d0, v0, d, h, q => by
    obtain ⟨rfl, e⟩ := h
    exact ⟨a, d2, v2, e.symm, q, rfl, rfl⟩
  | t :: p, d0, v0, d, h, q => by
    obtain ⟨b, d1, v1, rfl, q1, h⟩ := h
    exact ⟨b, d1, v1, rfl, q1, At.snoc h q⟩
end

theorem RtOk.step {C : Cn} {T : List Nat} {m m' : Mo} {r : Rt} {v : V} {av : Addr → Prop} (S : Sta C m) (h : RtOk C m av r v) (t : Step T m m') (c : r.hot T = false) (hσ : m'.σ = m.σ) : RtOk C m' av r v := by
  cases r with
  | val d => exact RpD.mono t.exF d v h
  | own d =>
    obtain ⟨fp, r, nd, k⟩ := h
    refine ⟨fp, r.mono t.exF d v fp (fun a ha => ?_), nd, fun a ha => ?_⟩
    · obtain ⟨_, k2, _⟩ := k a ha
      cases q : m.H a with
      | none => exact absurd q (r.inH d v fp a ha)
      | some o => exact t.keep a o q k2
    · obtain ⟨k1, k2, k3⟩ := k a ha
      have hH := r.inH d v fp a ha
      refine ⟨?_, fun z => ?_, k3⟩
      · exact Classical.byContradiction fun w => (t.newF a w k1).elim hH k2
      · exact (t.newO a z).elim hH k2
  | bor x p d =>
    obtain ⟨d0, v0, e1, e2, h⟩ := h
    have hx : x ∉ T := by simpa [Rt.hot] using c
    obtain ⟨u1, u2, u3, u4⟩ := t.unt x hx
    obtain ⟨v1, f, s1, s2, r⟩ := S.slot e1
    rw [e2] at s1
    cases s1
    exact ⟨d0, v0, u1.trans e1, u3.trans e2, At.mono r (u4 f s2) h⟩
  | sl x => exact (by rw [hσ]; exact h : m'.σ[x]? = some (some v))
theorem RtOk.av {C : Cn} {m : Mo} {r : Rt} {v : V} {av av' : Addr → Prop} (h : RtOk C m av r v) (k : ∀ a, av' a → av a) : RtOk C m av' r v := by
  cases r with
  | val d => exact h
  | own d =>
    obtain ⟨fp, r, nd, q⟩ := h
    exact ⟨fp, r, nd, fun a ha => let ⟨q1, q2, q3, q4⟩ := q a ha; ⟨q1, q2, q3, fun z => q4 (k a z)⟩⟩
  | bor x p d => exact h
  | sl x => exact h
theorem RtOk.rd {C : Cn} {m : Mo} {r : Rt} {v : V} {av : Addr → Prop} (S : Sta C m) (h : RtOk C m av r v) (hr : r.isSl = false := by rfl) : RpD C.K C.cl m.H r.d v := by
  cases r with
  | val d => exact RpD.mono S.ex d v h
  | own d =>
    obtain ⟨fp, r, _⟩ := h
    exact r.rd S.ex
  | bor x p d =>
    obtain ⟨d0, v0, e1, e2, h⟩ := h
    obtain ⟨v1, f, s1, s2, r⟩ := S.slot e1
    rw [e2] at s1
    cases s1
    obtain ⟨g, r2, _⟩ := At.rp r h
    exact r2.rd S.ex
  | sl x => cases hr

inductive Rs (α : Type) where
  | ok (a : α) (env : Env)
  | exc (c : Nat) (ds : List D) (env : Env)
  | bad
abbrev ME := Env → Rs Rt
abbrev MT := Env → Rs Bool
abbrev MA := Env → Rs (List Rt)
inductive Fl where
  | nx
  | ret (r : Rt)
  | brk
  | cont
abbrev MS := Env → Rs Fl

def Rs.bind {α β : Type} (r : Rs α) (f : α → Env → Rs β) : Rs β :=
  match r with
  | .ok a e => f a e
  | .exc c ds e => .exc c ds e
  | .bad => .bad

def ExcOk (C : Cn) (E : XK) (m : Mo) (c : Nat) (ds : List D) (env : Env) : Prop := ∀ m' : Mo, m'.env = env → Sta C m' → ∀ (T : List Nat), Step T m m' →
  ∀ dd : Option Addr, (ds = [] → dd = none) → (∀ d, ds = [d] → ∃ a f v, dd = some a ∧ m'.H a = some (.xd [(f, v)]) ∧ RpD C.K C.cl m'.F d v) → E (.ref (C.cl c)) dd m'.H

def Want {α : Type} (C : Cn) (E : XK) (m : Mo) (r : Rs α) (W : α → Env → Prop) : Prop :=
  match r with
  | .ok a e => W a e
  | .exc c ds e => ExcOk C E m c ds e
  | .bad => False

def Old (m : Mo) : Addr → Prop := fun a => m.H a ≠ none ∧ a ∉ m.fps.flatten

def rdE (C : Cn) (E : XK) (T : List Nat) (f : ME) : TE := fun σ H Q => ∃ m : Mo, m.H = H ∧ m.σ = σ ∧ Sta C m ∧
  Want C E m (f m.env) fun r env' => ∀ v m', m'.env = env' → m'.σ = σ → Sta C m' → Step T m m' → RtOk C m' (Old m) r v → Q v m'.H
def rdT (C : Cn) (E : XK) (T : List Nat) (f : MT) : TT := fun σ H Q => ∃ m : Mo, m.H = H ∧ m.σ = σ ∧ Sta C m ∧
  Want C E m (f m.env) fun b env' => ∀ m', m'.env = env' → m'.σ = σ → Sta C m' → Step T m m' → Q b m'.H
inductive RtsOk (C : Cn) (m : Mo) : List Rt → List V → Prop where
  | nil : RtsOk C m [] []
  | cons {r : Rt} {v : V} {rs : List Rt} {vs : List V} {av : Addr → Prop} : RtOk C m av r v → RtsOk C m rs vs → RtsOk C m (r :: rs) (v :: vs)
def rdA (C : Cn) (E : XK) (T : List Nat) (f : MA) : TA := fun σ H Q => ∃ m : Mo, m.H = H ∧ m.σ = σ ∧ Sta C m ∧
  Want C E m (f m.env) fun rs env' => ∀ vs m', m'.env = env' → m'.σ = σ → Sta C m' → Step T m m' → RtsOk C m' rs vs → Q vs m'.H
def FlOk (C : Cn) (m : Mo) (D : Ends) (fl : Fl) : Prop :=
  match fl with
  | .nx => D.nx m.σ m.H
  | .brk => D.bk m.σ m.H
  | .cont => D.ct m.σ m.H
  | .ret r => ∀ v av, RtOk C m av r v → D.rt v m.H
def rdS (C : Cn) (E : XK) (T : List Nat) (f : MS) : TS := fun D σ H => ∃ m : Mo, m.H = H ∧ m.σ = σ ∧ Sta C m ∧
  Want C E m (f m.env) fun fl env' => ∀ m', m'.env = env' → Sta C m' → Step T m m' → FlOk C m' D fl
end L3
namespace L3
open PySem L2

theorem PE.wk {X : Cx} {e : Expr} {t t' : TE} (h : PE X e t) (w : ∀ σ H Q, t' σ H Q → t σ H Q) : PE X e t' := ⟨fun pins s σ H Q I q => h.run pins s σ H Q I (w σ H Q q)⟩
theorem PT.wk {X : Cx} {e : Expr} {t t' : TT} (h : PT X e t) (w : ∀ σ H Q, t' σ H Q → t σ H Q) : PT X e t' := ⟨fun pins s σ H Q I q => h.run pins s σ H Q I (w σ H Q q)⟩
theorem PW.wk {X : Cx} {e : Expr} {t t' : TT} (h : PW X e t) (w : ∀ σ H Q, t' σ H Q → t σ H Q) : PW X e t' := ⟨fun wh pins s σ H Q I q => h.run wh pins s σ H Q I (w σ H Q q)⟩
theorem PA.wk {X : Cx} {e : List Expr} {t t' : TA} (h : PA X e t) (w : ∀ σ H Q, t' σ H Q → t σ H Q) : PA X e t' := ⟨fun p pins s σ H Q I q => h.run p pins s σ H Q I (w σ H Q q)⟩
theorem PS.wk {X : Cx} {e : Stmt} {t t' : TS} (h : PS X e t) (w : ∀ D σ H, t' D σ H → t D σ H) : PS X e t' := ⟨fun pins s σ H D I q => h.run pins s σ H D I (w D σ H q)⟩
theorem PSs.wk {X : Cx} {e : List Stmt} {t t' : TS} (h : PSs X e t) (w : ∀ D σ H, t' D σ H → t D σ H) : PSs X e t' := ⟨fun pins s σ H D I q => h.run pins s σ H D I (w D σ H q)⟩

theorem ExcOk.step {C : Cn} {E : XK} {m m1 : Mo} {c : Nat} {ds : List D} {env : Env} {T : List Nat} (h : ExcOk C E m c ds env) (s : Step T m m1) : ExcOk C E m1 c ds env :=
  fun m' he S' T' s' dd h1 h2 => h m' he S' _ (s.trans s') dd h1 h2
theorem Want.mono {α : Type} {C : Cn} {E : XK} {m m1 : Mo} {r : Rs α} {W W' : α → Env → Prop} {T : List Nat} (h : Want C E m r W) (s : Step T m m1) (k : ∀ a e, W a e → W' a e) : Want C E m1 r W' := by
  cases r with
  | ok a e => exact k a e h
  | exc c ds e => exact ExcOk.step h s
  | bad => exact h
theorem Want.imp {α : Type} {C : Cn} {E : XK} {m : Mo} {r : Rs α} {W W' : α → Env → Prop} (h : Want C E m r W) (k : ∀ a e, W a e → W' a e) : Want C E m r W' := by
  cases r with
  | ok a e => exact k a e h
  | exc c ds e => exact h
  | bad => exact h
theorem Want.bind {α β : Type} {C : Cn} {E : XK} {m : Mo} {r : Rs α} {f : α → Env → Rs β} {W : β → Env → Prop} (h : Want C E m (r.bind f) W) : Want C E m r fun a e => Want C E m (f a e) W := by
  cases r with
  | ok a e => exact h
  | exc c ds e => exact h
  | bad => exact h

def O.rt (x : Nat) : O → Rt
  | .s d => .val d
  | o => .bor x [] o
def mVar (i : Nat) : ME := fun env => match env[i]? with
  | some (some o) => .ok (o.rt i) env
  | _ => .bad
def mC (d : D) : ME := fun env => .ok (.val d) env

section
variable {X : Cx} {C : Cn} {E : XK} {e a b : Expr} {pos : Pos}
theorem rt_ok {m : Mo} {i : Nat} {o : O} {v : V} {f : Fp} {av : Addr → Prop} (S : Sta C m) (h : m.env[i]? = some (some o)) (hs : m.σ[i]? = some (some v)) (r : RpO C.K C.cl m.F m.H o v f) : RtOk C m av (o.rt i) v := by
  cases o with
  | s d => exact r.2
  | lst os => exact ⟨_, _, h, hs, rfl, rfl⟩
  | dk ks os => exact ⟨_, _, h, hs, rfl, rfl⟩
  | dt ks os => exact ⟨_, _, h, hs, rfl, rfl⟩
  | ins c ns os => exact ⟨_, _, h, hs, rfl, rfl⟩
theorem e_var (i : Nat) {x : Str} (hN : X.N[i]? = some x := by rfl) (hv : Vis X.env.scope x := by first | exact Or.inl rfl | exact Or.inr (Or.inl rfl) | exact Or.inr (Or.inr rfl)) (hd : (x == ("__debug__" : Str)) = false := by decide)
    (hcd : (x == ("__classdict__" : Str)) = false := by decide) : PE X (.Name x pos) (rdE C E [] (mVar i)) :=
  PE.wk (pv i hN hv hd hcd) fun σ H Q ⟨m, e1, e2, S, w⟩ => by
    subst e1 e2
    unfold mVar at w
    cases h : m.env[i]? with
    | none => rw [h] at w; exact w.elim
    | some o =>
      cases o with
      | none => rw [h] at w; exact w.elim
      | some o =>
        rw [h] at w
        obtain ⟨v, f, s1, s2, r⟩ := S.slot h
        exact ⟨v, s1, w v m rfl rfl S (Step.refl _ _) (rt_ok S h s1 r)⟩
def mSlot (i : Nat) : ME := fun env => match env[i]? with
  | some (some _) => .ok (.sl i) env
  | _ => .bad
theorem e_slot (i : Nat) {x : Str} (hN : X.N[i]? = some x := by rfl) (hv : Vis X.env.scope x := by first | exact Or.inl rfl | exact Or.inr (Or.inl rfl) | exact Or.inr (Or.inr rfl)) (hd : (x == ("__debug__" : Str)) = false := by decide)
    (hcd : (x == ("__classdict__" : Str)) = false := by decide) : PE X (.Name x pos) (rdE C E [] (mSlot i)) :=
  PE.wk (pv i hN hv hd hcd) fun σ H Q ⟨m, e1, e2, S, w⟩ => by
    subst e1 e2
    unfold mSlot at w
    cases h : m.env[i]? with
    | none => rw [h] at w; exact w.elim
    | some o =>
      cases o with
      | none => rw [h] at w; exact w.elim
      | some o =>
        rw [h] at w
        obtain ⟨v, f, s1, s2, r⟩ := S.slot h
        exact ⟨v, s1, w v m rfl rfl S (Step.refl _ _) s1⟩
theorem e_const {v : V} {d : D} {e : Expr} (h : PE X e (tC v)) (r : ∀ F : Hp, RpD C.K C.cl F d v) : PE X e (rdE C E [] (mC d)) :=
  PE.wk h fun σ H Q ⟨m, e1, e2, S, w⟩ => by
    subst e1 e2
    exact w v m rfl rfl S (Step.refl _ _) (r _)
theorem e_int {i : Int} {j : Nat} : PE X (.Constant (.int i) j pos) (rdE C E [] (mC (.int i))) := e_const pe_int fun _ => rfl
theorem e_bl {i : Bool} {j : Nat} : PE X (.Constant (.bool i) j pos) (rdE C E [] (mC (.bl i))) := e_const pe_bl fun _ => rfl
theorem e_non {j : Nat} : PE X (.Constant .none j pos) (rdE C E [] (mC .non)) := e_const pe_non fun _ => rfl
theorem e_str {s : Str} {j : Nat} : PE X (.Constant (.str s) j pos) (rdE C E [] (mC (.str s))) := e_const pe_str fun _ => rfl
theorem e_gint {i : Int} {x : Str} (hg : Gl X x) (hm : ∃ t, X.mg x = some (.int i t)) (hd : (x == ("__debug__" : Str)) = false := by decide) : PE X (.Name x pos) (rdE C E [] (mC (.int i))) :=
  let ⟨t, h⟩ := hm; e_const (pe_glob hg h (v := .int i) ⟨t, rfl⟩ hd) fun _ => rfl
theorem e_gstr {s : Str} {x : Str} (hg : Gl X x) (hm : ∃ t, X.mg x = some (.str s t)) (hd : (x == ("__debug__" : Str)) = false := by decide) : PE X (.Name x pos) (rdE C E [] (mC (.str s))) :=
  let ⟨t, h⟩ := hm; e_const (pe_glob hg h (v := .str s) ⟨t, rfl⟩ hd) fun _ => rfl

def Loc1 (C : Cn) (r : V → Hp → VK → Prop) (g : Rt → Option Rt) : Prop := ∀ (m : Mo) (x : V) (rx ry : Rt) (av : Addr → Prop) (Q : VK), Sta C m → RtOk C m av rx x → g rx = some ry →
  (∀ y m', Gro m m' → RtOk C m' (fun a => m.H a ≠ none) ry y → Q y m'.H) → r x m.H Q
def Loc2 (C : Cn) (r : R2) (g : Rt → Rt → Option Rt) : Prop := ∀ (m : Mo) (x y : V) (rx ry rz : Rt) (av av' : Addr → Prop) (Q : VK), Sta C m → RtOk C m av rx x → RtOk C m av' ry y → g rx ry = some rz →
  (∀ z m', Gro m m' → RtOk C m' (fun a => m.H a ≠ none) rz z → Q z m'.H) → r x y m.H Q
def LocN (C : Cn) (r : List V → Hp → VK → Prop) (g : List Rt → Option Rt) : Prop := ∀ (m : Mo) (xs : List V) (rs : List Rt) (ry : Rt) (Q : VK), Sta C m → RtsOk C m rs xs → g rs = some ry →
  (∀ y m', Gro m m' → RtOk C m' (fun a => m.H a ≠ none) ry y → Q y m'.H) → r xs m.H Q

def ofO {α : Type} (o : Option α) (env : Env) : Rs α := match o with
  | some a => .ok a env
  | none => .bad
def m1 (g : Rt → Option Rt) (f : ME) : ME := fun env => (f env).bind fun r e => ofO (g r) e
def m2 (g : Rt → Rt → Option Rt) (T : List Nat) (f1 f2 : ME) : ME := fun env => (f1 env).bind fun r1 e1 => if r1.hot T then .bad else (f2 e1).bind fun r2 e2 => ofO (g r1 r2) e2
def mNil : MA := fun env => .ok [] env
def mCons (T : List Nat) (f : ME) (fs : MA) : MA := fun env => (f env).bind fun r e1 => if r.hot T then .bad else (fs e1).bind fun rs e2 => .ok (r :: rs) e2
def mN (g : List Rt → Option Rt) (f : MA) : ME := fun env => (f env).bind fun r e => ofO (g r) e

theorem step_nil {T : List Nat} {m m1 m2 : Mo} (S : Sta C m1) (s : Step T m m1) (g : Gro m1 m2) : Step T m m2 := by
  have := s.trans (g.step S)
  simpa using this
theorem old_new {T : List Nat} {m m1 : Mo} (s : Step T m m1) : ∀ a, Old m a → m1.H a ≠ none := fun a h => s.dom a h.1

theorem rd1 {r : V → Hp → VK → Prop} {g : Rt → Option Rt} {T : List Nat} {f : ME} {σ : L2.St} {H : Hp} {Q : VK} (L : Loc1 C r g) (h : rdE C E T (m1 g f) σ H Q) : rdE C E T f σ H fun x H1 => r x H1 Q := by
  obtain ⟨m, e1, e2, S, w⟩ := h
  refine ⟨m, e1, e2, S, Want.imp w.bind fun rx env w => ?_⟩
  intro v m' e3 e4 S' s ok
  cases hg : g rx with
  | none => rw [hg] at w; exact w.elim
  | some ry =>
    rw [hg] at w
    refine L m' v rx ry _ Q S' ok hg fun y m2 G ok2 => ?_
    exact w y m2 (G.env.trans e3) (G.σ.trans e4) (S'.gro G) (step_nil S' s G) (ok2.av (old_new s))
theorem rd2 {r : R2} {g : Rt → Rt → Option Rt} {T1 T2 : List Nat} {f1 f2 : ME} {σ : L2.St} {H : Hp} {Q : VK} (L : Loc2 C r g) (h : rdE C E (T1 ++ T2) (m2 g T2 f1 f2) σ H Q) :
    rdE C E T1 f1 σ H fun x H1 => rdE C E T2 f2 σ H1 fun y H2 => r x y H2 Q := by
  obtain ⟨m, e1, e2, S, w⟩ := h
  refine ⟨m, e1, e2, S, Want.imp w.bind fun rx env w => ?_⟩
  intro v m' e3 e4 S' s ok
  by_cases hh : rx.hot T2 = true
  · rw [if_pos hh] at w; exact w.elim
  rw [if_neg hh] at w
  refine ⟨m', rfl, e4, S', ?_⟩
  rw [e3]
  refine Want.mono w.bind s fun ry env2 w => ?_
  intro v2 m2 e5 e6 S2 s2 ok2
  cases hg : g rx ry with
  | none => rw [hg] at w; exact w.elim
  | some rz =>
    rw [hg] at w
    refine L m2 v v2 rx ry rz _ _ Q S2 (ok.step S' s2 (by simpa using hh) (e6.trans e4.symm)) ok2 hg fun y m3 G ok3 => ?_
    exact w y m3 (G.env.trans e5) (G.σ.trans e6) (S2.gro G) (step_nil S2 (s.trans s2) G) (ok3.av (old_new (s.trans s2)))
theorem RtsOk.step {m m' : Mo} {T : List Nat} {rs : List Rt} {vs : List V} (S : Sta C m) (h : RtsOk C m rs vs) (t : Step T m m') (c : rs.all (fun r => !r.hot T) = true) (hσ : m'.σ = m.σ) : RtsOk C m' rs vs := by
  induction h with
  | nil => exact .nil
  | cons r _ ih =>
    rw [List.all_cons, Bool.and_eq_true] at c
    exact .cons (r.step S t (by simpa using c.1) hσ) (ih c.2)
theorem rdNil {σ : L2.St} {H : Hp} {Q : List V → Hp → Prop} (h : rdA C E [] mNil σ H Q) : tNil σ H Q := by
  obtain ⟨m, e1, e2, S, w⟩ := h
  subst e1
  exact w [] m rfl e2 S (Step.refl _ _) .nil
theorem rdCons {T1 T2 : List Nat} {f : ME} {fs : MA} {σ : L2.St} {H : Hp} {Q : List V → Hp → Prop} (h : rdA C E (T1 ++ T2) (mCons T2 f fs) σ H Q) : tCons (rdE C E T1 f) (rdA C E T2 fs) σ H Q := by
  obtain ⟨m, e1, e2, S, w⟩ := h
  refine ⟨m, e1, e2, S, Want.imp w.bind fun rx env w => ?_⟩
  intro v m' e3 e4 S' s ok
  by_cases hh : rx.hot T2 = true
  · rw [if_pos hh] at w; exact w.elim
  rw [if_neg hh] at w
  refine ⟨m', rfl, e4, S', ?_⟩
  rw [e3]
  refine Want.mono w.bind s fun ry env2 w => ?_
  intro v2 m2 e5 e6 S2 s2 ok2
  exact w (v :: v2) m2 e5 e6 S2 (s.trans s2) (.cons (ok.step S' s2 (by simpa using hh) (e6.trans e4.symm)) ok2)
theorem rdN {r : List V → Hp → VK → Prop} {g : List Rt → Option Rt} {T : List Nat} {f : MA} {σ : L2.St} {H : Hp} {Q : VK} (L : LocN C r g) (h : rdE C E T (mN g f) σ H Q) : rdA C E T f σ H fun x H1 => r x H1 Q := by
  obtain ⟨m, e1, e2, S, w⟩ := h
  refine ⟨m, e1, e2, S, Want.imp w.bind fun rx env w => ?_⟩
  intro v m' e3 e4 S' s ok
  cases hg : g rx with
  | none => rw [hg] at w; exact w.elim
  | some ry =>
    rw [hg] at w
    refine L m' v rx ry Q S' ok hg fun y m2 G ok2 => ?_
    exact w y m2 (G.env.trans e3) (G.σ.trans e4) (S'.gro G) (step_nil S' s G) (ok2.av (old_new s))

variable {T T1 T2 T3 : List Nat} {f f1 f2 : ME} {fs : MA} {es : List Expr}
theorem a_nil : PA X [] (rdA C E [] mNil) := PA.wk pa_nil fun _ _ _ h => rdNil h
theorem a_cons (h : PE X e (rdE C E T1 f)) (hs : PA X es (rdA C E T2 fs)) (hst : starEach (e :: es) X.env = (false, eval e X.env) :: starEach es X.env := by rfl) : PA X (e :: es) (rdA C E (T1 ++ T2) (mCons T2 f fs)) :=
  PA.wk (pa_cons h hs hst) fun _ _ _ h => rdCons h
theorem e_op {op : Operator} {r : R2} {g : Rt → Rt → Option Rt} (ho : OpR X (binaryOp op) r) (L : Loc2 C r g) (ha : PE X a (rdE C E T1 f1)) (hb : PE X b (rdE C E T2 f2)) : PE X (.BinOp a op b pos) (rdE C E (T1 ++ T2) (m2 g T2 f1 f2)) :=
  PE.wk (pe_op ho ha hb) fun _ _ _ h => rd2 L h
theorem e_un {op : UnaryOp} {r : V → Hp → VK → Prop} {g : Rt → Option Rt} (ho : UnR X (unaryOp op) r) (L : Loc1 C r g) (ha : PE X a (rdE C E T1 f1)) : PE X (.UnaryOp op a pos) (rdE C E T1 (m1 g f1)) :=
  PE.wk (pe_un ho ha) fun _ _ _ h => rd1 L h
theorem e_cmp {op : CmpOp} {r : R2} {g : Rt → Rt → Option Rt} (ho : OpR X (compareOp op) r) (L : Loc2 C r g) (ha : PE X a (rdE C E T1 f1)) (hb : PE X b (rdE C E T2 f2)) (hm : behindInMarks op b = false := by first | exact nomark _ | rfl) :
    PE X (.Compare a [op] [b] pos) (rdE C E (T1 ++ T2) (m2 g T2 f1 f2)) :=
  PE.wk (pe_cmpR ho ha hb hm) fun _ _ _ h => rd2 L h
theorem e_ix {r : R2} {g : Rt → Rt → Option Rt} (ho : IxR X r) (L : Loc2 C r g) (ha : PE X a (rdE C E T1 f1)) (hb : PE X b (rdE C E T2 f2)) (hs : PlainIx b) : PE X (.Subscript a b pos) (rdE C E (T1 ++ T2) (m2 g T2 f1 f2)) :=
  PE.wk (pe_ix ho ha hb hs) fun _ _ _ h => rd2 L h
theorem e_cb {r : List V → Hp → VK → Prop} {g : List Rt → Option Rt} (L : LocN C r g) (h : PE X e (tCB r (rdA C E T fs))) : PE X e (rdE C E T (mN g fs)) :=
  PE.wk h fun _ _ _ h => rdN L h

def toB : Rt → Option Bool
  | .val (.bl b) => some b
  | _ => none
def mTest (f : ME) : MT := fun env => (f env).bind fun r e => ofO (toB r) e
theorem rdTest {σ : L2.St} {H : Hp} {Q : Bool → Hp → Prop} (h : rdT C E T (mTest f) σ H Q) : rdE C E T f σ H fun x H1 => ∃ k, x = .bl k ∧ Q k H1 := by
  obtain ⟨m, e1, e2, S, w⟩ := h
  refine ⟨m, e1, e2, S, Want.imp w.bind fun rx env w => ?_⟩
  intro v m' e3 e4 S' s ok
  cases rx with
  | val d =>
    cases d with
    | bl k => exact ⟨k, ok, w m' e3 e4 S' s⟩
    | _ => exact w.elim
  | own o => exact w.elim
  | sl x => exact w.elim
  | bor x p o => exact w.elim
theorem t_cmp {op : CmpOp} {r : R2} {g : Rt → Rt → Option Rt} (ho : OpR X (compareOp op) r) (L : Loc2 C r g) (ha : PE X a (rdE C E T1 f1)) (hb : PE X b (rdE C E T2 f2)) (hm : behindInMarks op b = false := by first | exact nomark _ | rfl) :
    PT X (.Compare a [op] [b] pos) (rdT C E (T1 ++ T2) (mTest (m2 g T2 f1 f2))) :=
  PT.wk (pt_cmpR ho ha hb hm) fun σ H Q h => rd2 (Q := fun x H' => ∃ k, x = .bl k ∧ Q k H') L (rdTest h)
theorem t_val (ha : PE X a (rdE C E T1 f1)) (he : ∀ whole, isTrue a X.env whole = (do let v ← whole; standAt a.pos; holding [v] (truthy v)) := by intro _; rfl) : PT X a (rdT C E T1 (mTest f1)) :=
  PT.wk (pt_val ha he) fun σ H Q h => rdTest h

def tmAnd (t1 t2 : MT) : MT := fun env => (t1 env).bind fun b e => if b = true then t2 e else .ok false e
def tmOr (t1 t2 : MT) : MT := fun env => (t1 env).bind fun b e => if b = true then .ok true e else t2 e
def tmNot (t1 : MT) : MT := fun env => (t1 env).bind fun b e => .ok (!b) e
variable {t t1 t2 : MT} {rest : List Expr}
theorem w_and1 (ha : PT X a (rdT C E T1 t1)) : PW X (.BoolOp .And [a] pos) (rdT C E T1 t1) := pw_and1 ha
theorem w_or1 (ha : PT X a (rdT C E T1 t1)) : PW X (.BoolOp .Or [a] pos) (rdT C E T1 t1) := pw_or1 ha
theorem Step.inl {m m' : Mo} (s : Step T1 m m') : Step (T1 ++ T2) m m' := s.wk fun i h => List.mem_append_left _ h
theorem w_and (ha : PT X a (rdT C E T1 t1)) (hb : PW X (.BoolOp .And (b :: rest) pos) (rdT C E T2 t2)) : PW X (.BoolOp .And (a :: b :: rest) pos) (rdT C E (T1 ++ T2) (tmAnd t1 t2)) :=
  PW.wk (pw_and ha hb) fun σ H Q ⟨m, e1, e2, S, w⟩ => ⟨m, e1, e2, S, Want.imp w.bind fun k env w => fun m' e3 e4 S' s => by
    cases k with
    | true =>
      refine ⟨m', rfl, e4, S', ?_⟩
      rw [e3]
      exact Want.mono w s fun k2 env2 w m2 e5 e6 S2 s2 => w m2 e5 e6 S2 (s.trans s2)
    | false => exact w m' e3 e4 S' s.inl⟩
theorem w_or (ha : PT X a (rdT C E T1 t1)) (hb : PW X (.BoolOp .Or (b :: rest) pos) (rdT C E T2 t2)) : PW X (.BoolOp .Or (a :: b :: rest) pos) (rdT C E (T1 ++ T2) (tmOr t1 t2)) :=
  PW.wk (pw_or ha hb) fun σ H Q ⟨m, e1, e2, S, w⟩ => ⟨m, e1, e2, S, Want.imp w.bind fun k env w => fun m' e3 e4 S' s => by
    cases k with
    | false =>
      refine ⟨m', rfl, e4, S', ?_⟩
      rw [e3]
      exact Want.mono w s fun k2 env2 w m2 e5 e6 S2 s2 => w m2 e5 e6 S2 (s.trans s2)
    | true => exact w m' e3 e4 S' s.inl⟩
theorem t_w (h : PW X a (rdT C E T1 t1)) : PT X a (rdT C E T1 t1) := h.pt
theorem t_not (ha : PT X a (rdT C E T1 t1)) : PT X (.UnaryOp .Not a pos) (rdT C E T1 (tmNot t1)) :=
  PT.wk (pt_not ha) fun σ H Q ⟨m, e1, e2, S, w⟩ => ⟨m, e1, e2, S, Want.imp w.bind fun k env w => fun m' e3 e4 S' s => w m' e3 e4 S' s⟩
def mAnd (f1 f2 : ME) : ME := fun env => (f1 env).bind fun r e => match toB r with
  | some true => f2 e
  | some false => .ok (.val (.bl false)) e
  | none => .bad
def mOr (f1 f2 : ME) : ME := fun env => (f1 env).bind fun r e => match toB r with
  | some false => f2 e
  | some true => .ok (.val (.bl true)) e
  | none => .bad
theorem old_step {m m' : Mo} {T : List Nat} (s : Step T m m') {r : Rt} {v : V} {m2 : Mo} (h : RtOk C m2 (Old m') r v) : RtOk C m2 (Old m) r v :=
  h.av fun a ha => ⟨s.dom a ha.1, fun z => (s.newO a z).elim ha.1 ha.2⟩
theorem e_and (ha : PE X a (rdE C E T1 f1)) (hb : PE X (.BoolOp .And (b :: rest) pos) (rdE C E T2 f2)) : PE X (.BoolOp .And (a :: b :: rest) pos) (rdE C E (T1 ++ T2) (mAnd f1 f2)) :=
  PE.wk (pe_and ha hb) fun σ H Q ⟨m, e1, e2, S, w⟩ => ⟨m, e1, e2, S, Want.imp w.bind fun r env w => fun v m' e3 e4 S' s ok => by
    cases r with
    | val d =>
      cases d with
      | bl k =>
        refine ⟨k, ok, ?_⟩
        cases k with
        | true =>
          refine ⟨m', rfl, e4, S', ?_⟩
          rw [e3]
          exact Want.mono w s fun k2 env2 w v2 m2 e5 e6 S2 s2 ok2 => w v2 m2 e5 e6 S2 (s.trans s2) (old_step s ok2)
        | false => exact w _ m' e3 e4 S' s.inl rfl
      | _ => exact w.elim
    | own o => exact w.elim
    | sl x => exact w.elim
    | bor x p o => exact w.elim⟩
theorem e_or (ha : PE X a (rdE C E T1 f1)) (hb : PE X (.BoolOp .Or (b :: rest) pos) (rdE C E T2 f2)) : PE X (.BoolOp .Or (a :: b :: rest) pos) (rdE C E (T1 ++ T2) (mOr f1 f2)) :=
  PE.wk (pe_or ha hb) fun σ H Q ⟨m, e1, e2, S, w⟩ => ⟨m, e1, e2, S, Want.imp w.bind fun r env w => fun v m' e3 e4 S' s ok => by
    cases r with
    | val d =>
      cases d with
      | bl k =>
        refine ⟨k, ok, ?_⟩
        cases k with
        | false =>
          refine ⟨m', rfl, e4, S', ?_⟩
          rw [e3]
          exact Want.mono w s fun k2 env2 w v2 m2 e5 e6 S2 s2 ok2 => w v2 m2 e5 e6 S2 (s.trans s2) (old_step s ok2)
        | true => exact w _ m' e3 e4 S' s.inl rfl
      | _ => exact w.elim
    | own o => exact w.elim
    | sl x => exact w.elim
    | bor x p o => exact w.elim⟩
theorem e_one {op : BoolOp} (h : PE X a (rdE C E T1 f1)) : PE X (.BoolOp op [a] pos) (rdE C E T1 f1) := pe_one h
def mNot (f1 : ME) : ME := fun env => (f1 env).bind fun r e => match toB r with
  | some k => .ok (.val (.bl (!k))) e
  | none => .bad
theorem e_not (ha : PE X a (rdE C E T1 f1)) : PE X (.UnaryOp .Not a pos) (rdE C E T1 (mNot f1)) :=
  PE.wk (pe_not ha) fun σ H Q ⟨m, e1, e2, S, w⟩ => ⟨m, e1, e2, S, Want.imp w.bind fun r env w => fun v m' e3 e4 S' s ok => by
    cases r with
    | val d =>
      cases d with
      | bl k => exact ⟨k, ok, w _ m' e3 e4 S' s rfl⟩
      | _ => exact w.elim
    | own o => exact w.elim
    | sl x => exact w.elim
    | bor x p o => exact w.elim⟩
def mIf (t : MT) (f1 f2 : ME) : ME := fun env => (t env).bind fun b e => if b = true then f1 e else f2 e
theorem e_if {c : Expr} (hc : PT X c (rdT C E T1 t)) (ha : PE X a (rdE C E T2 f1)) (hb : PE X b (rdE C E T3 f2)) : PE X (.IfExp c a b pos) (rdE C E (T1 ++ (T2 ++ T3)) (mIf t f1 f2)) :=
  PE.wk (pe_ifExp hc ha hb) fun σ H Q ⟨m, e1, e2, S, w⟩ => ⟨m, e1, e2, S, Want.imp w.bind fun k env w => fun m' e3 e4 S' s => by
    cases k with
    | true =>
      refine ⟨m', rfl, e4, S', ?_⟩
      rw [e3]
      exact Want.mono w s fun k2 env2 w v2 m2 e5 e6 S2 s2 ok2 => w v2 m2 e5 e6 S2 ((s.trans s2).wk (by simp +contextual [or_imp])) (old_step s ok2)
    | false =>
      refine ⟨m', rfl, e4, S', ?_⟩
      rw [e3]
      exact Want.mono w s fun k2 env2 w v2 m2 e5 e6 S2 s2 ok2 => w v2 m2 e5 e6 S2 ((s.trans s2).wk (by simp +contextual [or_imp])) (old_step s ok2)⟩
end
end L3
namespace L3
open PySem L2

section
variable {C : Cn}
def gI (g : Int → Int → D) : Rt → Rt → Option Rt
  | .val (.int i), .val (.int j) => some (.val (g i j))
  | _, _ => none
def gIc (c : Int → Int → Bool) (g : Int → Int → D) : Rt → Rt → Option Rt
  | .val (.int i), .val (.int j) => if c i j = true then some (.val (g i j)) else none
  | _, _ => none
theorem gI_some {g : Int → Int → D} {rx ry rz : Rt} (h : gI g rx ry = some rz) : ∃ i j, rx = .val (.int i) ∧ ry = .val (.int j) ∧ rz = .val (g i j) := by
  unfold gI at h
  split at h
  · exact ⟨_, _, rfl, rfl, (Option.some.inj h).symm⟩
  · cases h
theorem gIc_some {c : Int → Int → Bool} {g : Int → Int → D} {rx ry rz : Rt} (h : gIc c g rx ry = some rz) : ∃ i j, rx = .val (.int i) ∧ ry = .val (.int j) ∧ c i j = true ∧ rz = .val (g i j) := by
  unfold gIc at h
  split at h
  · split at h
    · rename_i q
      exact ⟨_, _, rfl, rfl, q, (Option.some.inj h).symm⟩
    · cases h
  · cases h
theorem loc_I0 {g : Int → Int → V} {gd : Int → Int → D} (hr : ∀ F i j, RpD C.K C.cl F (gd i j) (g i j)) : Loc2 C (rI0 g) (gI gd) := by
  intro m x y rx ry rz av av' Q S h1 h2 h k
  obtain ⟨i, j, rfl, rfl, rfl⟩ := gI_some h
  exact ⟨i, j, h1, h2, k _ m (Gro.refl S) (hr _ _ _)⟩
theorem loc_Ic {c : Int → Int → Prop} {cd : Int → Int → Bool} {g : Int → Int → V} {gd : Int → Int → D} (hc : ∀ i j, cd i j = true → c i j) (hr : ∀ F i j, RpD C.K C.cl F (gd i j) (g i j)) : Loc2 C (rI c g) (gIc cd gd) := by
  intro m x y rx ry rz av av' Q S h1 h2 h k
  obtain ⟨i, j, rfl, rfl, q, rfl⟩ := gIc_some h
  exact ⟨i, j, h1, h2, hc i j q, k _ m (Gro.refl S) (hr _ _ _)⟩
theorem loc_sub : Loc2 C (rI0 fun i j => .int (i - j)) (gI fun i j => .int (i - j)) := loc_I0 fun _ _ _ => rfl
theorem loc_lt : Loc2 C (rI0 fun i j => .bl (decide (i < j))) (gI fun i j => .bl (decide (i < j))) := loc_I0 fun _ _ _ => rfl
theorem loc_le : Loc2 C (rI0 fun i j => .bl (decide (i ≤ j))) (gI fun i j => .bl (decide (i ≤ j))) := loc_I0 fun _ _ _ => rfl
theorem loc_gt : Loc2 C (rI0 fun i j => .bl (decide (j < i))) (gI fun i j => .bl (decide (j < i))) := loc_I0 fun _ _ _ => rfl
theorem loc_ge : Loc2 C (rI0 fun i j => .bl (decide (j ≤ i))) (gI fun i j => .bl (decide (j ≤ i))) := loc_I0 fun _ _ _ => rfl
def cMul (i j : Int) : Bool := decide (i.natAbs.log2 + j.natAbs.log2 < 1000000)
def cDiv (_ j : Int) : Bool := decide (0 < j ∧ j < 1073741824)
def cMod (_ j : Int) : Bool := decide (0 < j)
def cPow (i j : Int) : Bool := decide (0 ≤ j ∧ j ≤ 1000000 ∧ i.natAbs < 2 ^ 64)
theorem loc_mulI : Loc2 C (rI CMulW fun i j => .int (i * j)) (gIc cMul fun i j => .int (i * j)) := loc_Ic (fun _ _ h => by simpa [cMul, cDiv, cMod, cPow, CMulW, CDiv, CPow] using h) fun _ _ _ => rfl
theorem loc_fdiv : Loc2 C (rI CDiv fun i j => .int (i / j)) (gIc cDiv fun i j => .int (i / j)) := loc_Ic (fun _ _ h => by simpa [cMul, cDiv, cMod, cPow, CMulW, CDiv, CPow] using h) fun _ _ _ => rfl
theorem loc_mod : Loc2 C (rI (fun _ j => 0 < j) fun i j => .int (i % j)) (gIc cMod fun i j => .int (i % j)) := loc_Ic (fun _ _ h => by simpa [cMul, cDiv, cMod, cPow, CMulW, CDiv, CPow] using h) fun _ _ _ => rfl
theorem loc_pow : Loc2 C (rI CPow fun i j => .int (i ^ j.toNat)) (gIc cPow fun i j => .int (i ^ j.toNat)) := loc_Ic (fun _ _ h => by simpa [cMul, cDiv, cMod, cPow, CMulW, CDiv, CPow] using h) fun _ _ _ => rfl
def gNeg : Rt → Option Rt
  | .val (.int i) => some (.val (.int (-i)))
  | _ => none
theorem loc_neg : Loc1 C (rU fun i => .int (-i)) gNeg := by
  intro m x rx ry av Q S h1 h k
  unfold gNeg at h
  split at h
  · cases h
    exact ⟨_, h1, k _ m (Gro.refl S) rfl⟩
  · cases h

mutual
def D.py : D → Option PyData
  | .non => some .none
  | .bl b => some (.bool b)
  | .int i => some (.int i)
  | .str s => some (.str s)
  | .tup ds => (D.pys ds).map PyData.tuple
  | .lst ds => (D.pys ds).map PyData.list
  | _ => none
def D.pys : List D → Option (List PyData)
  | [] => some []
  | d :: ds => match d.py, D.pys ds with
    | some p, some ps => some (p :: ps)
    | _, _ => none
end
mutual
theorem RpD.dp {K : PySem.W.Frag} {cl : Nat → Addr} {H : Hp} : ∀ (d : D) (v : V) (p : PyData), RpD K cl H d v → d.py = some p → Dp K H v p
  | .non, v, p, h, e => by cases e; rw [show v = .non from h]; exact .non
  | .bl b, v, p, h, e => by cases e; rw [show v = .bl b from h]; exact .bl b
  | .int b, v, p, h, e => by cases e; rw [show v = .int b from h]; exact .int b
  | .str b, v, p, h, e => by cases e; rw [show v = .str b from h]; exact .str b
  | .tup ds, v, p, h, e => by
    unfold D.py at e
    cases q : D.pys ds with
    | none => rw [q] at e; cases e
    | some ps =>
      rw [q] at e; cases e
      obtain ⟨a, xs, rfl, h1, h2⟩ := h
      exact .tup h1 (RpDs.dp ds xs ps h2 q)
  | .lst ds, v, p, h, e => by
    unfold D.py at e
    cases q : D.pys ds with
    | none => rw [q] at e; cases e
    | some ps =>
      rw [q] at e; cases e
      obtain ⟨a, xs, rfl, h1, h2⟩ := h
      exact .lst h1 (RpDs.dp ds xs ps h2 q)
  | .dk _ _, v, p, h, e => by cases e
  | .dt _ _, v, p, h, e => by cases e
  | .ins _ _ _, v, p, h, e => by cases e
  | .ty _, v, p, h, e => by cases e
  | .cls _, v, p, h, e => by cases e
theorem RpDs.dp {K : PySem.W.Frag} {cl : Nat → Addr} {H : Hp} : ∀ (ds : List D) (vs : List V) (ps : List PyData), RpDs K cl H ds vs → D.pys ds = some ps → DpAll K H vs ps
  | [], vs, ps, h, e => by cases e; rw [show vs = [] from h]; exact .nil
  | d :: ds, vs, ps, h, e => by
    obtain ⟨v, r, rfl, h1, h2⟩ := h
    unfold D.pys at e
    split at e
    · rename_i p q e1 e2
      cases e
      exact .cons (RpD.dp d v p h1 e1) (RpDs.dp ds r q h2 e2)
    · cases e
end
def eqD (d e : D) : Option Bool := match d.py, e.py with
  | some p, some q => if SeqAt.shaped p = true ∧ SeqAt.shaped q = true then some (PyData.eqv p q) else none
  | _, _ => none
def gEq (rx ry : Rt) : Option Rt := (if rx.isSl = true ∨ ry.isSl = true then none else eqD rx.d ry.d).map fun b => .val (.bl b)
def gNe (rx ry : Rt) : Option Rt := (if rx.isSl = true ∨ ry.isSl = true then none else eqD rx.d ry.d).map fun b => .val (.bl (!b))
theorem eqD_some {d e : D} {b : Bool} (h : eqD d e = some b) : ∃ p q, d.py = some p ∧ e.py = some q ∧ SeqAt.shaped p = true ∧ SeqAt.shaped q = true ∧ b = PyData.eqv p q := by
  unfold eqD at h
  split at h
  · rename_i p q e1 e2
    split at h
    · rename_i z
      exact ⟨p, q, e1, e2, z.1, z.2, (Option.some.inj h).symm⟩
    · cases h
  · cases h
theorem loc_eq : Loc2 C (rEqD C.K) gEq := by
  intro m x y rx ry rz av av' Q S h1 h2 h k
  unfold gEq at h
  by_cases hs : rx.isSl = true ∨ ry.isSl = true
  · rw [if_pos hs] at h; cases h
  rw [if_neg hs] at h
  cases e : eqD rx.d ry.d with
  | none => rw [e] at h; cases h
  | some b =>
    rw [e] at h; cases h
    obtain ⟨p, q, e1, e2, z1, z2, rfl⟩ := eqD_some e
    exact ⟨p, q, RpD.dp _ _ _ (h1.rd S (by cases q : rx.isSl <;> simp_all)) e1, RpD.dp _ _ _ (h2.rd S (by cases q : ry.isSl <;> simp_all)) e2, z1, z2, k _ m (Gro.refl S) rfl⟩
theorem loc_ne : Loc2 C (rNeD C.K) gNe := by
  intro m x y rx ry rz av av' Q S h1 h2 h k
  unfold gNe at h
  by_cases hs : rx.isSl = true ∨ ry.isSl = true
  · rw [if_pos hs] at h; cases h
  rw [if_neg hs] at h
  cases e : eqD rx.d ry.d with
  | none => rw [e] at h; cases h
  | some b =>
    rw [e] at h; cases h
    obtain ⟨p, q, e1, e2, z1, z2, rfl⟩ := eqD_some e
    exact ⟨p, q, RpD.dp _ _ _ (h1.rd S (by cases q : rx.isSl <;> simp_all)) e1, RpD.dp _ _ _ (h2.rd S (by cases q : ry.isSl <;> simp_all)) e2, z1, z2, k _ m (Gro.refl S) rfl⟩
def D.isN : D → Bool
  | .non => true
  | _ => false
theorem RpD.isN {K : PySem.W.Frag} {cl : Nat → Addr} {H : Hp} {d : D} {v : V} (h : RpD K cl H d v) : decide (v = .non) = d.isN := by
  cases d with
  | non => rw [show v = .non from h]; rfl
  | bl b => rw [show v = .bl b from h]; rfl
  | int b => rw [show v = .int b from h]; rfl
  | str b => rw [show v = .str b from h]; rfl
  | tup ds => obtain ⟨a, xs, rfl, _⟩ := h; rfl
  | lst ds => obtain ⟨a, xs, rfl, _⟩ := h; rfl
  | dk ks ds => obtain ⟨a, xs, rfl, _⟩ := h; rfl
  | dt ks ds => obtain ⟨a, xs, rfl, _⟩ := h; rfl
  | ins ks ns ds => obtain ⟨a, dx, xs, rfl, _⟩ := h; rfl
  | ty b => rw [show v = .ty b from h]; rfl
  | cls b => rw [show v = .ref _ from h]; rfl
def gIs (n : Bool) (rx ry : Rt) : Option Rt := match ry with
  | .val .non => if rx.isSl = true then none else some (.val (.bl (rx.d.isN != n)))
  | _ => none
theorem loc_is : Loc2 C (fun x y H Q => y = .non ∧ Q (.bl (decide (x = .non))) H) (gIs false) := by
  intro m x y rx ry rz av av' Q S h1 h2 h k
  unfold gIs at h
  split at h
  · split at h
    · cases h
    rename_i hs
    cases h
    refine ⟨h2, ?_⟩
    rw [(h1.rd S (by simpa using hs)).isN]
    exact k _ m (Gro.refl S) (by show V.bl _ = V.bl _; simp)
  · cases h
theorem loc_isNot : Loc2 C (fun x y H Q => y = .non ∧ Q (.bl (!decide (x = .non))) H) (gIs true) := by
  intro m x y rx ry rz av av' Q S h1 h2 h k
  unfold gIs at h
  split at h
  · split at h
    · cases h
    rename_i hs
    cases h
    refine ⟨h2, ?_⟩
    rw [(h1.rd S (by simpa using hs)).isN]
    exact k _ m (Gro.refl S) (by show V.bl _ = V.bl _; simp)
  · cases h

def leaves : List O → Option (List D)
  | [] => some []
  | .s d :: os => (leaves os).map (d :: ·)
  | _ :: _ => none
theorem leaves_map (ds : List D) : leaves (ds.map O.s) = some ds := by
  induction ds with
  | nil => rfl
  | cons d ds ih => rw [List.map_cons]; unfold leaves; rw [ih]; rfl
theorem leaves_some : ∀ {os : List O} {ds : List D}, leaves os = some ds → os = ds.map O.s
  | [], ds, h => by cases h; rfl
  | .s d :: os, ds, h => by
    unfold leaves at h
    cases e : leaves os with
    | none => rw [e] at h; cases h
    | some r => rw [e] at h; cases h; rw [List.map_cons, leaves_some e]
  | .lst _ :: _, ds, h => by cases h
  | .dk _ _ :: _, ds, h => by cases h
  | .dt _ _ :: _, ds, h => by cases h
  | .ins _ _ _ :: _, ds, h => by cases h
theorem RpOs.leaves {K : PySem.W.Frag} {cl : Nat → Addr} {F H : Hp} : ∀ {ds : List D} {xs : List V} {fp : Fp}, RpOs K cl F H (ds.map O.s) xs fp → fp = [] ∧ RpDs K cl F ds xs
  | [], xs, fp, h => ⟨h.2, h.1⟩
  | d :: ds, xs, fp, h => by
    obtain ⟨v, r, f, g, rfl, rfl, ⟨rfl, h1⟩, h2⟩ := h
    obtain ⟨rfl, h3⟩ := RpOs.leaves h2
    exact ⟨rfl, v, r, rfl, h1, h3⟩
def Rt.items : Rt → Option (Bool × List D)
  | .val (.tup ds) => some (false, ds)
  | .val (.lst ds) => some (true, ds)
  | .own (.lst os) => (leaves os).map fun ds => (true, ds)
  | .bor _ _ (.lst os) => (leaves os).map fun ds => (true, ds)
  | _ => none
theorem RtOk.bor {m : Mo} {x : Nat} {p : List Stp} {o : O} {v : V} {av : Addr → Prop} (S : Sta C m) (h : RtOk C m av (.bor x p o) v) : ∃ f, RpO C.K C.cl m.F m.H o v f := by
  obtain ⟨d0, v0, e1, e2, h⟩ := h
  obtain ⟨v1, f, s1, s2, r⟩ := S.slot e1
  rw [e2] at s1
  cases s1
  obtain ⟨g, r2, _⟩ := At.rp r h
  exact ⟨g, r2⟩
theorem RtOk.items {m : Mo} {r : Rt} {v : V} {av : Addr → Prop} {b : Bool} {ds : List D} (S : Sta C m) (h : RtOk C m av r v) (e : r.items = some (b, ds)) :
    ∃ a xs, v = .ref a ∧ RpDs C.K C.cl m.F ds xs ∧ (if b = true then SqL C.K m.H a xs else SqT C.K m.H a xs) := by
  unfold Rt.items at e
  split at e
  · cases e
    obtain ⟨a, xs, rfl, h1, h2⟩ := h
    exact ⟨a, xs, rfl, h2, by rw [if_neg (by decide)]; exact S.ex.sqT h1⟩
  · cases e
    obtain ⟨a, xs, rfl, h1, h2⟩ := h
    exact ⟨a, xs, rfl, h2, by rw [if_pos rfl]; exact S.ex.sqL h1⟩
  · rename_i os
    cases q : leaves os with
    | none => rw [q] at e; cases e
    | some es =>
      rw [q] at e; cases e
      obtain rfl := leaves_some q
      obtain ⟨fp, ⟨a, xs, f, rfl, _, h1, h2⟩, _⟩ := h
      exact ⟨a, xs, rfl, (RpOs.leaves h2).2, by rw [if_pos rfl]; exact .inl (.inl h1)⟩
  · rename_i x p os
    cases q : leaves os with
    | none => rw [q] at e; cases e
    | some es =>
      rw [q] at e; cases e
      obtain rfl := leaves_some q
      obtain ⟨fp, a, xs, f, rfl, _, h1, h2⟩ := h.bor S
      exact ⟨a, xs, rfl, (RpOs.leaves h2).2, by rw [if_pos rfl]; exact .inl (.inl h1)⟩
  · cases e
def Rt.len : Rt → Option Nat
  | .val (.tup ds) => some ds.length
  | .val (.lst ds) => some ds.length
  | .val (.str s) => if s.length ≤ 16777216 then some s.length else none
  | .own (.lst os) => some os.length
  | .bor _ _ (.lst os) => some os.length
  | _ => none
def gLen : List Rt → Option Rt
  | [r] => r.len.map fun n => .val (.int n)
  | _ => none
theorem RtsOk.one {m : Mo} {r : Rt} {xs : List V} (h : RtsOk C m [r] xs) : ∃ x av, xs = [x] ∧ RtOk C m av r x := by
  cases h with
  | cons h t => cases t; exact ⟨_, _, rfl, h⟩
theorem RtsOk.two {m : Mo} {r s : Rt} {xs : List V} (h : RtsOk C m [r, s] xs) : ∃ x y av av', xs = [x, y] ∧ RtOk C m av r x ∧ RtOk C m av' s y := by
  cases h with
  | cons h t =>
    obtain ⟨y, av, rfl, h2⟩ := t.one
    exact ⟨_, _, _, _, rfl, h, h2⟩
theorem sizeLine_is : sizeLine = 16777216 := sizeLine_eq
theorem loc_len : LocN C (fun xs H Q => ∃ x n, xs = [x] ∧ LenV C.K x H n ∧ Q (.int n) H) gLen := by
  intro m xs rs ry Q S h e k
  unfold gLen at e
  split at e
  · rename_i r
    obtain ⟨x, av, rfl, hx⟩ := h.one
    replace h := hx
    cases q : r.len with
    | none => rw [q] at e; cases e
    | some n =>
      rw [q] at e; cases e
      refine ⟨x, n, rfl, ?_, k _ m (Gro.refl S) rfl⟩
      unfold Rt.len at q
      split at q
      · cases q
        obtain ⟨a, xs, rfl, h1, h2⟩ := h
        exact .inr ⟨xs, S.ex.sqT h1, h2.length.symm⟩
      · cases q
        obtain ⟨a, xs, rfl, h1, h2⟩ := h
        exact .inl ⟨xs, S.ex.sqL h1, h2.length.symm⟩
      · rename_i s
        split at q
        · rename_i z
          cases q
          rw [show x = .str s from h]
          exact ⟨by rw [sizeLine_is]; exact z, rfl⟩
        · cases q
      · cases q
        obtain ⟨fp, ⟨a, xs, f, rfl, _, h1, h2⟩, _⟩ := h
        exact .inl ⟨xs, .inl (.inl h1), h2.length.symm⟩
      · cases q
        obtain ⟨fp, a, xs, f, rfl, _, h1, h2⟩ := h.bor S
        exact .inl ⟨xs, .inl (.inl h1), h2.length.symm⟩
      · cases q
  · cases e
def D.flat : D → Bool
  | .non => true
  | .bl _ => true
  | .int _ => true
  | .str _ => true
  | _ => false
def D.v : D → V
  | .bl b => .bl b
  | .int i => .int i
  | .str s => .str s
  | _ => .non
theorem RpD.flat {K : PySem.W.Frag} {cl : Nat → Addr} {H : Hp} {d : D} {v : V} (h : RpD K cl H d v) (f : d.flat = true) : v = d.v ∧ flatV v = true := by
  cases d with
  | non => rw [show v = .non from h]; exact ⟨rfl, rfl⟩
  | bl b => rw [show v = .bl b from h]; exact ⟨rfl, rfl⟩
  | int b => rw [show v = .int b from h]; exact ⟨rfl, rfl⟩
  | str b => rw [show v = .str b from h]; exact ⟨rfl, rfl⟩
  | _ => cases f
theorem RpDs.flat {K : PySem.W.Frag} {cl : Nat → Addr} {H : Hp} : ∀ {ds : List D} {vs : List V}, RpDs K cl H ds vs → ds.all D.flat = true → vs = ds.map D.v ∧ vs.all flatV = true
  | [], vs, h, _ => by rw [show vs = [] from h]; exact ⟨rfl, rfl⟩
  | d :: ds, vs, h, f => by
    obtain ⟨v, r, rfl, h1, h2⟩ := h
    rw [List.all_cons, Bool.and_eq_true] at f
    obtain ⟨e1, e2⟩ := h1.flat f.1
    obtain ⟨e3, e4⟩ := h2.flat f.2
    exact ⟨by rw [e1, e3]; rfl, by rw [List.all_cons, e2, e4]; rfl⟩
def inD (x : D) (ds : List D) : Bool := ds.any fun y => eqV y.v x.v
def gIn (neg : Bool) (rx ry : Rt) : Option Rt := match rx, ry.items with
  | .val d, some (_, ds) => if d.flat = true ∧ ds.all D.flat = true then some (.val (.bl (inD d ds != neg))) else none
  | _, _ => none
theorem loc_in {neg : Bool} : Loc2 C (rIn C.K neg) (gIn neg) := by
  intro m x y rx ry rz av av' Q S h1 h2 h k
  unfold gIn at h
  split at h
  · rename_i d b ds e
    split at h
    · rename_i z
      cases h
      obtain ⟨a, xs, rfl, h3, h4⟩ := h2.items S e
      obtain ⟨e1, e2⟩ := RpD.flat (K := C.K) (cl := C.cl) (H := m.F) h1 z.1
      obtain ⟨e3, e4⟩ := h3.flat z.2
      refine ⟨a, xs, rfl, ?_, e2, e4, k _ m (Gro.refl S) ?_⟩
      · cases b with
        | true => rw [if_pos rfl] at h4; exact .inl h4
        | false => rw [if_neg (by decide)] at h4; exact .inr h4
      · show V.bl _ = V.bl _
        have e5 : inV x xs = inD d ds := by
          unfold inV inD
          rw [e3, e1, List.any_map]
          rfl
        cases neg with
        | true => rw [if_pos rfl, e5]; simp
        | false => rw [if_neg (by decide), e5]; simp
    · cases h
  · cases h
theorem gro_new {m : Mo} {p : Addr} {o : HO} (S : Sta C m) (hp : m.H p = none) : Gro m { m with F := upd m.F p o, H := upd m.H p o } where
  env := rfl
  fps := rfl
  σ := rfl
  exF := fun a u h => by
    have : a ≠ p := fun z => by subst z; rw [S.ex a u h] at hp; cases hp
    show upd m.F p o a = _
    rw [upd_ne this]; exact h
  exH := fun a u h => by show upd m.H p o a = _; rw [upd_ne (ne_of_none h hp)]; exact h
  ex := fun a u h => by
    have h' : upd m.F p o a = some u := h
    show upd m.H p o a = some u
    by_cases e : a = p
    · subst e; rw [upd_same] at h' ⊢; exact h'
    · rw [upd_ne e] at h' ⊢; exact S.ex a u h'
  newF := fun a h n => by
    have h' : upd m.F p o a ≠ none := h
    by_cases e : a = p
    · subst e; exact hp
    · rw [upd_ne e] at h'; exact absurd n h'
theorem gro_own {m : Mo} {p : Addr} {o : HO} (S : Sta C m) (hp : m.H p = none) : Gro m { m with H := upd m.H p o } where
  env := rfl
  fps := rfl
  σ := rfl
  exF := Ex.refl _
  exH := fun a u h => by show upd m.H p o a = _; rw [upd_ne (ne_of_none h hp)]; exact h
  ex := fun a u h => by show upd m.H p o a = _; rw [upd_ne (ne_of_none (S.ex a u h) hp)]; exact S.ex a u h
  newF := fun a h n => absurd n h
theorem Sta.fNone {m : Mo} (S : Sta C m) {p : Addr} (hp : m.H p = none) : m.F p = none := by
  cases q : m.F p with
  | none => rfl
  | some o => rw [S.ex p o q] at hp; cases hp
theorem Sta.h0None {m : Mo} (S : Sta C m) {p : Addr} (hp : m.H p = none) : C.H0 p = none := Classical.byContradiction fun w => S.dom p w hp
theorem own_lst {m : Mo} {p : Addr} {xs : List V} {ds : List D} {av : Addr → Prop} (S : Sta C m) (hp : m.H p = none) (r : RpDs C.K C.cl m.F ds xs) (hav : ¬ av p) :
    RtOk C { m with H := upd m.H p (.lst xs) } av (.own (.lst (ds.map O.s))) (.ref p) := by
  refine ⟨[p], ⟨p, xs, [], rfl, rfl, upd_same, r.os⟩, by simp, fun a ha => ?_⟩
  obtain rfl : a = p := by simpa using ha
  exact ⟨S.fNone hp, fun z => S.inH a z hp, .inl (S.h0None hp), hav⟩
def vals : List Rt → Option (List D)
  | [] => some []
  | .val d :: rs => (vals rs).map (d :: ·)
  | _ :: _ => none
theorem RtsOk.vals {m : Mo} : ∀ {rs : List Rt} {xs : List V} {ds : List D}, RtsOk C m rs xs → L3.vals rs = some ds → RpDs C.K C.cl m.F ds xs
  | [], xs, ds, h, e => by cases e; cases h; rfl
  | .val d :: rs, xs, ds, h, e => by
    unfold L3.vals at e
    cases q : L3.vals rs with
    | none => rw [q] at e; cases e
    | some r =>
      rw [q] at e; cases e
      cases h with
      | cons h t => exact ⟨_, _, rfl, h, RtsOk.vals t q⟩
  | .own _ :: _, xs, ds, h, e => by cases e
  | .bor _ _ _ :: _, xs, ds, h, e => by cases e
  | .sl _ :: _, xs, ds, h, e => by cases e
def gTup (rs : List Rt) : Option Rt := (vals rs).bind fun ds => if ds.length ≤ 16777216 then some (.val (.tup ds)) else none
def gLst (rs : List Rt) : Option Rt := (vals rs).bind fun ds => if ds.length ≤ 16777216 then some (.own (.lst (ds.map O.s))) else none
theorem loc_tup : LocN C (fun xs H Q => xs.length ≤ sizeLine ∧ ∀ p, H p = none → Q (.ref p) (upd H p (.tup xs))) gTup := by
  intro m xs rs ry Q S h e k
  unfold gTup at e
  cases q : vals rs with
  | none => rw [q] at e; cases e
  | some ds =>
    rw [q] at e
    simp only [Option.bind_some] at e
    split at e
    · rename_i z
      cases e
      have r := h.vals q
      refine ⟨by rw [r.length, sizeLine_is]; exact z, fun p hp => ?_⟩
      exact k _ _ (gro_new S hp) ⟨p, xs, rfl, .inl (.inl upd_same), r.mono (gro_new S hp).exF _ _⟩
    · cases e
theorem loc_lst : LocN C (fun xs H Q => xs.length ≤ sizeLine ∧ ∀ p, H p = none → Q (.ref p) (upd H p (.lst xs))) gLst := by
  intro m xs rs ry Q S h e k
  unfold gLst at e
  cases q : vals rs with
  | none => rw [q] at e; cases e
  | some ds =>
    rw [q] at e
    simp only [Option.bind_some] at e
    split at e
    · rename_i z
      cases e
      have r := h.vals q
      refine ⟨by rw [r.length, sizeLine_is]; exact z, fun p hp => ?_⟩
      exact k _ _ (gro_own S hp) (own_lst S hp r (fun z => z hp))
    · cases e
section
variable {X : Cx} {E : XK} {e a b : Expr} {pos : Pos} {T T1 T2 : List Nat} {fs : MA} {es : List Expr} {f f1 f2 : ME}
theorem e_tup {k : Nat} (h : PA X es (rdA C E T fs)) : PE X (.Tuple es k pos) (rdE C E T (mN gTup fs)) := PE.wk (pe_tup h) fun _ _ _ h => rdN loc_tup h
theorem e_lst (h : PA X es (rdA C E T fs)) : PE X (.List es pos) (rdE C E T (mN gLst fs)) := PE.wk (pe_lst h) fun _ _ _ h => rdN loc_lst h
end
def intsOf : List D → Option (List Int)
  | [] => some []
  | .int i :: ds => (intsOf ds).map (i :: ·)
  | _ :: _ => none
def blsOf : List D → Option (List Bool)
  | [] => some []
  | .bl i :: ds => (blsOf ds).map (i :: ·)
  | _ :: _ => none
theorem RpDs.toInts {K : PySem.W.Frag} {cl : Nat → Addr} {H : Hp} : ∀ {ds : List D} {vs : List V} {ns : List Int}, RpDs K cl H ds vs → intsOf ds = some ns → vs = ns.map V.int
  | [], vs, ns, h, e => by cases e; exact h
  | .int i :: ds, vs, ns, h, e => by
    obtain ⟨v, r, rfl, h1, h2⟩ := h
    unfold intsOf at e
    cases q : intsOf ds with
    | none => rw [q] at e; cases e
    | some r' => rw [q] at e; cases e; rw [RpDs.toInts h2 q, show v = .int i from h1]; rfl
  | .non :: ds, vs, ns, h, e => by cases e
  | .bl _ :: ds, vs, ns, h, e => by cases e
  | .str _ :: ds, vs, ns, h, e => by cases e
  | .tup _ :: ds, vs, ns, h, e => by cases e
  | .lst _ :: ds, vs, ns, h, e => by cases e
  | .dk _ _ :: ds, vs, ns, h, e => by cases e
  | .dt _ _ :: ds, vs, ns, h, e => by cases e
  | .ins _ _ _ :: ds, vs, ns, h, e => by cases e
  | .ty _ :: ds, vs, ns, h, e => by cases e
  | .cls _ :: ds, vs, ns, h, e => by cases e
theorem RpDs.toBls {K : PySem.W.Frag} {cl : Nat → Addr} {H : Hp} : ∀ {ds : List D} {vs : List V} {ns : List Bool}, RpDs K cl H ds vs → blsOf ds = some ns → vs = ns.map V.bl
  | [], vs, ns, h, e => by cases e; exact h
  | .bl i :: ds, vs, ns, h, e => by
    obtain ⟨v, r, rfl, h1, h2⟩ := h
    unfold blsOf at e
    cases q : blsOf ds with
    | none => rw [q] at e; cases e
    | some r' => rw [q] at e; cases e; rw [RpDs.toBls h2 q, show v = .bl i from h1]; rfl
  | .non :: ds, vs, ns, h, e => by cases e
  | .int _ :: ds, vs, ns, h, e => by cases e
  | .str _ :: ds, vs, ns, h, e => by cases e
  | .tup _ :: ds, vs, ns, h, e => by cases e
  | .lst _ :: ds, vs, ns, h, e => by cases e
  | .dk _ _ :: ds, vs, ns, h, e => by cases e
  | .dt _ _ :: ds, vs, ns, h, e => by cases e
  | .ins _ _ _ :: ds, vs, ns, h, e => by cases e
  | .ty _ :: ds, vs, ns, h, e => by cases e
  | .cls _ :: ds, vs, ns, h, e => by cases e
theorem ints_map (ns : List Int) : intsOf (ns.map D.int) = some ns := by
  induction ns with
  | nil => rfl
  | cons d ds ih => rw [List.map_cons]; unfold intsOf; rw [ih]; rfl
theorem bls_map (ns : List Bool) : blsOf (ns.map D.bl) = some ns := by
  induction ns with
  | nil => rfl
  | cons d ds ih => rw [List.map_cons]; unfold blsOf; rw [ih]; rfl
def gSum : List Rt → Option Rt
  | [r] => match r.items with
    | some (true, ds) => (intsOf ds).map fun ns => .val (.int ns.sum)
    | _ => none
  | _ => none
theorem loc_sum : LocN C (rSum C.K) gSum := by
  intro m xs rs ry Q S h e k
  unfold gSum at e
  split at e
  · rename_i r
    obtain ⟨x, av, rfl, hx⟩ := h.one
    replace h := hx
    split at e
    · rename_i ds q
      obtain ⟨a, xs, rfl, h1, h2⟩ := h.items S q
      rw [if_pos rfl] at h2
      cases z : intsOf ds with
      | none => rw [z] at e; cases e
      | some ns =>
        rw [z] at e; cases e
        refine ⟨a, ns, rfl, by rw [← h1.toInts z]; exact h2, k _ m (Gro.refl S) rfl⟩
    · cases e
  · cases e
def gAll : List Rt → Option Rt
  | [r] => match r.items with
    | some (true, ds) => (blsOf ds).map fun ns => .val (.bl (ns.all id))
    | _ => none
  | _ => none
def gAny : List Rt → Option Rt
  | [r] => match r.items with
    | some (true, ds) => (blsOf ds).map fun ns => .val (.bl (ns.any id))
    | _ => none
  | _ => none
theorem loc_all : LocN C (rAll C.K) gAll := by
  intro m xs rs ry Q S h e k
  unfold gAll at e
  split at e
  · rename_i r
    obtain ⟨x, av, rfl, hx⟩ := h.one
    replace h := hx
    split at e
    · rename_i ds q
      obtain ⟨a, xs, rfl, h1, h2⟩ := h.items S q
      rw [if_pos rfl] at h2
      cases z : blsOf ds with
      | none => rw [z] at e; cases e
      | some ns =>
        rw [z] at e; cases e
        refine ⟨a, ns, rfl, by rw [← h1.toBls z]; exact h2, k _ m (Gro.refl S) rfl⟩
    · cases e
  · cases e
theorem loc_any : LocN C (rAny C.K) gAny := by
  intro m xs rs ry Q S h e k
  unfold gAny at e
  split at e
  · rename_i r
    obtain ⟨x, av, rfl, hx⟩ := h.one
    replace h := hx
    split at e
    · rename_i ds q
      obtain ⟨a, xs, rfl, h1, h2⟩ := h.items S q
      rw [if_pos rfl] at h2
      cases z : blsOf ds with
      | none => rw [z] at e; cases e
      | some ns =>
        rw [z] at e; cases e
        refine ⟨a, ns, rfl, by rw [← h1.toBls z]; exact h2, k _ m (Gro.refl S) rfl⟩
    · cases e
  · cases e
def gTupleOf : List Rt → Option Rt
  | [r] => match r.items with
    | some (_, ds) => some (.val (.tup ds))
    | _ => none
  | _ => none
theorem loc_tupleOf : LocN C (fun xs H Q => ∃ p ys, xs = [.ref p] ∧ ((SqL C.K H p ys ∧ ∀ l, H l = none → Q (.ref l) (upd H l (.tup ys))) ∨ (SqT C.K H p ys ∧ Q (.ref p) H))) gTupleOf := by
  intro m xs rs ry Q S h e k
  unfold gTupleOf at e
  split at e
  · rename_i r
    obtain ⟨x, av, rfl, hx⟩ := h.one
    replace h := hx
    split at e
    · rename_i b ds q
      cases e
      obtain ⟨a, xs, rfl, h1, h2⟩ := h.items S q
      refine ⟨a, xs, rfl, ?_⟩
      cases b with
      | true =>
        rw [if_pos rfl] at h2
        exact .inl ⟨h2, fun p hp => k _ _ (gro_new S hp) ⟨p, xs, rfl, .inl (.inl upd_same), h1.mono (gro_new S hp).exF _ _⟩⟩
      | false =>
        rw [if_neg (by decide)] at h2
        refine .inr ⟨h2, k _ m (Gro.refl S) ?_⟩
        unfold Rt.items at q
        split at q
        · cases q; exact h
        · cases q
        · rename_i os; cases z : leaves os <;> (rw [z] at q; cases q)
        · rename_i os; cases z : leaves os <;> (rw [z] at q; cases q)
        · cases q
    · cases e
  · cases e
def gListOf : List Rt → Option Rt
  | [r] => match r.items with
    | some (_, ds) => some (.own (.lst (ds.map O.s)))
    | _ => none
  | _ => none
theorem loc_listOf : LocN C (fun xs H Q => ∃ p ys, xs = [.ref p] ∧ (SqL C.K H p ys ∨ SqT C.K H p ys) ∧ ∀ l, H l = none → Q (.ref l) (upd H l (.lst ys))) gListOf := by
  intro m xs rs ry Q S h e k
  unfold gListOf at e
  split at e
  · rename_i r
    obtain ⟨x, av, rfl, hx⟩ := h.one
    replace h := hx
    split at e
    · rename_i b ds q
      cases e
      obtain ⟨a, xs, rfl, h1, h2⟩ := h.items S q
      refine ⟨a, xs, rfl, ?_, fun p hp => k _ _ (gro_own S hp) (own_lst S hp h1 (fun z => z hp))⟩
      cases b with
      | true => rw [if_pos rfl] at h2; exact .inl h2
      | false => rw [if_neg (by decide)] at h2; exact .inr h2
    · cases e
  · cases e
def gAbs : List Rt → Option Rt
  | [.val (.int i)] => some (.val (.int (if i < 0 then -i else i)))
  | _ => none
theorem loc_abs : LocN C (fun xs H Q => ∃ i, xs = [.int i] ∧ Q (.int (if i < 0 then -i else i)) H) gAbs := by
  intro m xs rs ry Q S h e k
  unfold gAbs at e
  split at e
  · cases e
    obtain ⟨x, av, rfl, hx⟩ := h.one
    replace h := hx
    exact ⟨_, by rw [show x = _ from h], k _ m (Gro.refl S) rfl⟩
  · cases e
def gInt : List Rt → Option Rt
  | [.val (.int i)] => some (.val (.int i))
  | [.val (.bl b)] => some (.val (.int (if b then 1 else 0)))
  | _ => none
theorem loc_int : LocN C (fun xs H Q => (∃ i, xs = [.int i] ∧ Q (.int i) H) ∨ ∃ k, xs = [.bl k] ∧ Q (.int (if k then 1 else 0)) H) gInt := by
  intro m xs rs ry Q S h e k
  unfold gInt at e
  split at e
  · cases e
    obtain ⟨x, av, rfl, hx⟩ := h.one
    replace h := hx
    exact .inl ⟨_, by rw [show x = _ from h], k _ m (Gro.refl S) rfl⟩
  · cases e
    obtain ⟨x, av, rfl, hx⟩ := h.one
    replace h := hx
    exact .inr ⟨_, by rw [show x = _ from h], k _ m (Gro.refl S) rfl⟩
  · cases e
def gMax2 : List Rt → Option Rt
  | [.val (.int i), .val (.int j)] => some (.val (.int (if j > i then j else i)))
  | _ => none
def gMin2 : List Rt → Option Rt
  | [.val (.int i), .val (.int j)] => some (.val (.int (if j < i then j else i)))
  | _ => none
theorem loc_max2 : LocN C (fun xs H Q => ∃ i j, xs = [.int i, .int j] ∧ Q (.int (if j > i then j else i)) H) gMax2 := by
  intro m xs rs ry Q S h e k
  unfold gMax2 at e
  split at e
  · cases e
    obtain ⟨x, y, av, av', rfl, hx, h'⟩ := h.two
    replace h := hx
    exact ⟨_, _, by rw [show x = _ from h, show y = _ from h'], k _ m (Gro.refl S) rfl⟩
  · cases e
theorem loc_min2 : LocN C (fun xs H Q => ∃ i j, xs = [.int i, .int j] ∧ Q (.int (if j < i then j else i)) H) gMin2 := by
  intro m xs rs ry Q S h e k
  unfold gMin2 at e
  split at e
  · cases e
    obtain ⟨x, y, av, av', rfl, hx, h'⟩ := h.two
    replace h := hx
    exact ⟨_, _, by rw [show x = _ from h, show y = _ from h'], k _ m (Gro.refl S) rfl⟩
  · cases e
end
end L3
namespace L3
open PySem L2

section
variable {C : Cn}
theorem atI_some {α : Type} {xs : List α} {i : Int} {x : α} (h : atI xs i = some x) : ∃ j, ixN xs.length i = some j ∧ xs[j]? = some x := by
  unfold atI at h
  cases e : ixN xs.length i with
  | none => rw [e] at h; cases h
  | some j => rw [e] at h; exact ⟨j, rfl, h⟩
theorem RpDs.atI {K : PySem.W.Frag} {cl : Nat → Addr} {H : Hp} {ds : List D} {vs : List V} {i : Int} {d : D} (h : RpDs K cl H ds vs) (e : L2.atI ds i = some d) : ∃ v, L2.atI vs i = some v ∧ RpD K cl H d v := by
  obtain ⟨j, e1, e2⟩ := atI_some e
  obtain ⟨v, e3, r⟩ := h.get e2
  refine ⟨v, ?_, r⟩
  unfold L2.atI
  rw [h.length, e1]
  exact e3
theorem RpOs.atI {K : PySem.W.Frag} {cl : Nat → Addr} {F H : Hp} {ds : List O} {vs : List V} {fp : Fp} {i : Int} {d : O} (h : RpOs K cl F H ds vs fp) (e : L2.atI ds i = some d) :
    ∃ j v g, ixN ds.length i = some j ∧ ds[j]? = some d ∧ vs[j]? = some v ∧ L2.atI vs i = some v ∧ RpO K cl F H d v g := by
  obtain ⟨j, e1, e2⟩ := atI_some e
  obtain ⟨v, g, e3, r, _⟩ := h.get e2
  refine ⟨j, v, g, e1, e2, e3, ?_, r⟩
  unfold L2.atI
  rw [h.length, e1]
  exact e3
def O.at (x : Nat) (p : List Stp) : O → Rt
  | .s d => .val d
  | o => .bor x p o
def gIx : Rt → Rt → Option Rt
  | .val (.tup ds), .val (.int i) => (atI ds i).map .val
  | .val (.lst ds), .val (.int i) => (atI ds i).map .val
  | .val (.str s), .val (.int i) => if s.length ≤ 16777216 then (atI s.cps.toList i).map fun c => .val (.str ⟨#[c]⟩) else none
  | .own (.lst os), .val (.int i) => match atI os i with
    | some (.s d) => some (.val d)
    | _ => none
  | .bor x p (.lst os), .val (.int i) => match ixN os.length i with
    | some n => (os[n]?).map fun o => o.at x (p ++ [.idx n])
    | none => none
  | _, _ => none
theorem loc_ix : Loc2 C (rIx C.K) gIx := by
  intro m x y rx ry rz av av' Q S h1 h2 h k
  unfold gIx at h
  split at h
  · rename_i ds i
    cases e : atI ds i with
    | none => rw [e] at h; cases h
    | some d =>
      rw [e] at h; cases h
      obtain ⟨a, xs, rfl, q, r⟩ := h1
      obtain ⟨v, e1, r1⟩ := r.atI e
      exact .inr (.inl ⟨a, xs, i, v, rfl, h2, S.ex.sqT q, e1, k _ m (Gro.refl S) r1⟩)
  · rename_i ds i
    cases e : atI ds i with
    | none => rw [e] at h; cases h
    | some d =>
      rw [e] at h; cases h
      obtain ⟨a, xs, rfl, q, r⟩ := h1
      obtain ⟨v, e1, r1⟩ := r.atI e
      exact .inl ⟨a, xs, i, v, rfl, h2, S.ex.sqL q, e1, k _ m (Gro.refl S) r1⟩
  · rename_i s i
    split at h
    · rename_i z
      cases e : atI s.cps.toList i with
      | none => rw [e] at h; cases h
      | some c =>
        rw [e] at h; cases h
        exact .inr (.inr ⟨s, i, c, h1, h2, by rw [sizeLine_is]; exact z, e, k _ m (Gro.refl S) rfl⟩)
    · cases h
  · rename_i os i
    split at h
    · rename_i d e
      cases h
      obtain ⟨fp, ⟨a, xs, f, rfl, rfl, q, r⟩, _⟩ := h1
      obtain ⟨j, v, g, e1, e2, e3, e4, r1⟩ := r.atI e
      exact .inl ⟨a, xs, i, v, rfl, h2, .inl (.inl q), e4, k _ m (Gro.refl S) r1.2⟩
    · cases h
  · rename_i x0 p os i
    split at h
    · rename_i n e
      cases e2 : os[n]? with
      | none => rw [e2] at h; cases h
      | some o =>
        rw [e2] at h
        have h := Option.some.inj h
        have h1' := h1
        obtain ⟨d0, v0, z1, z2, z3⟩ := h1
        obtain ⟨fp, a, xs, f, rfl, rfl, q, r⟩ := h1'.bor S
        have e' : atI os i = some o := by unfold atI; rw [e]; exact e2
        obtain ⟨j, v, g, e1, e5, e3, e4, r1⟩ := r.atI e'
        rw [e] at e1; cases e1
        refine .inl ⟨a, xs, i, v, rfl, h2, .inl (.inl q), e4, k _ m (Gro.refl S) ?_⟩
        have nb : ∀ av, RtOk C m av (.bor x0 (p ++ [.idx n]) o) v := fun av => ⟨d0, v0, z1, z2, At.snoc z3 (.idx q e5 e3)⟩
        rw [← h]
        cases o with
        | s d => exact r1.2
        | lst _ => exact nb _
        | dk _ _ => exact nb _
        | dt _ _ => exact nb _
        | ins _ _ _ => exact nb _
    · cases h
  · cases h

def gAttr (cs : List Nat) (f : Str) : Rt → Option Rt
  | .val (.ins c ns ds) => if c ∈ cs then (lk ns ds f).map .val else none
  | .own (.ins c ns os) => if c ∈ cs then (match lk ns os f with
    | some (.s d) => some (.val d)
    | _ => none) else none
  | .bor x p (.ins c ns os) => if c ∈ cs then (lk ns os f).map fun o => o.at x (p ++ [.attr f]) else none
  | _ => none
section
variable {X : Cx} {E : XK} {e a b : Expr} {pos : Pos} {T T1 T2 T3 : List Nat} {fs : MA} {es : List Expr} {f f1 f2 : ME}
theorem loc_attr {cs : List Nat} {n : Str} (hc : ∀ c ∈ cs, Cls C.K (C.cl c) ∧ NoAttr C.K (C.cl c) n) :
    Loc1 C (fun x H Q => ∃ a C' dx fs v, x = .ref a ∧ H a = some (.ins C' dx fs) ∧ Cls C.K C' ∧ NoAttr C.K C' n ∧ fs.lookup n = some v ∧ Q v H) (gAttr cs n) := by
  intro m x rx ry av Q S h1 h k
  unfold gAttr at h
  split at h
  · rename_i c ns ds
    split at h
    · rename_i hm
      cases e : lk ns ds n with
      | none => rw [e] at h; cases h
      | some d =>
        rw [e] at h; cases h
        obtain ⟨a, dx, xs, rfl, q, l, r⟩ := h1
        obtain ⟨v, e1, r1⟩ := lk_rpD r e
        exact ⟨a, _, dx, _, v, rfl, S.ex _ _ q, (hc c hm).1, (hc c hm).2, by rw [lk_zip]; exact e1, k _ m (Gro.refl S) r1⟩
    · cases h
  · rename_i c ns os
    split at h
    · rename_i hm
      split at h
      · rename_i d e
        cases h
        obtain ⟨fp, ⟨a, dx, xs, f, rfl, rfl, q, l, r⟩, _⟩ := h1
        obtain ⟨v, g, e1, r1, _⟩ := lk_rp r e
        exact ⟨a, _, dx, _, v, rfl, q, (hc c hm).1, (hc c hm).2, by rw [lk_zip]; exact e1, k _ m (Gro.refl S) r1.2⟩
      · cases h
    · cases h
  · rename_i x0 p c ns os
    split at h
    · rename_i hm
      cases e : lk ns os n with
      | none => rw [e] at h; cases h
      | some o =>
        rw [e] at h
        have h := Option.some.inj h
        have h1' := h1
        obtain ⟨d0, v0, z1, z2, z3⟩ := h1
        obtain ⟨fp, a, dx, xs, f, rfl, rfl, q, l, r⟩ := h1'.bor S
        obtain ⟨v, g, e1, r1, _⟩ := lk_rp r e
        refine ⟨a, _, dx, _, v, rfl, q, (hc c hm).1, (hc c hm).2, by rw [lk_zip]; exact e1, k _ m (Gro.refl S) ?_⟩
        have nb : ∀ av, RtOk C m av (.bor x0 (p ++ [.attr n]) o) v := fun av => ⟨d0, v0, z1, z2, At.snoc z3 (.attr q e e1 l)⟩
        rw [← h]
        cases o with
        | s d => exact r1.2
        | lst _ => exact nb _
        | dk _ _ => exact nb _
        | dt _ _ => exact nb _
        | ins _ _ _ => exact nb _
    · cases h
  · cases h
theorem e_attr {cs : List Nat} {n : Str} (hK : X.K = C.K) (hc : ∀ c ∈ cs, Cls C.K (C.cl c) ∧ NoAttr C.K (C.cl c) n) (ha : PE X a (rdE C E T f)) (hb : attributeBase a n X.env (eval a X.env) = eval a X.env) :
    PE X (.Attribute a n pos) (rdE C E T (m1 (gAttr cs n) f)) :=
  PE.wk (pe_fld ha hb) fun _ _ _ h => by
    unfold tFld
    rw [hK]
    exact rd1 (loc_attr hc) h
def cut {α : Type} (xs : List α) (lo hi : Option Int) : List α := (xs.drop (HT.sIx xs.length 0 lo)).take (HT.sIx xs.length xs.length hi - HT.sIx xs.length 0 lo)
theorem RpDs.drop {K : PySem.W.Frag} {cl : Nat → Addr} {H : Hp} : ∀ (n : Nat) {ds : List D} {vs : List V}, RpDs K cl H ds vs → RpDs K cl H (ds.drop n) (vs.drop n)
  | 0, _, _, h => h
  | n + 1, [], vs, h => by rw [show vs = [] from h]; exact rfl
  | n + 1, d :: ds, vs, h => by
    obtain ⟨v, r, rfl, h1, h2⟩ := h
    exact RpDs.drop n h2
theorem RpDs.take {K : PySem.W.Frag} {cl : Nat → Addr} {H : Hp} : ∀ (n : Nat) {ds : List D} {vs : List V}, RpDs K cl H ds vs → RpDs K cl H (ds.take n) (vs.take n)
  | 0, _, _, h => rfl
  | n + 1, [], vs, h => by rw [show vs = [] from h]; exact rfl
  | n + 1, d :: ds, vs, h => by
    obtain ⟨v, r, rfl, h1, h2⟩ := h
    exact ⟨v, _, rfl, h1, RpDs.take n h2⟩
theorem RpDs.cut {K : PySem.W.Frag} {cl : Nat → Addr} {H : Hp} {ds : List D} {vs : List V} (h : RpDs K cl H ds vs) (lo hi : Option Int) : RpDs K cl H (L3.cut ds lo hi) (cutV vs lo hi) := by
  unfold L3.cut cutV
  rw [h.length]
  exact (h.drop _).take _
theorem cut_whole {α : Type} {xs : List α} {lo hi : Option Int} (h : HT.sIx xs.length 0 lo = 0 ∧ HT.sIx xs.length xs.length hi = xs.length) : cut xs lo hi = xs := by
  unfold cut
  rw [h.1, h.2]
  simp
def gSl (lo hi : Option Int) (r : Rt) : Option Rt := match r with
  | .val (.str s) => if s.length ≤ 16777216 then some (.val (.str (cutS s lo hi))) else none
  | r => match r.items with
    | some (true, ds) => some (.own (.lst ((cut ds lo hi).map O.s)))
    | some (false, ds) => some (.val (.tup (cut ds lo hi)))
    | none => none
def rSlX (K : PySem.W.Frag) : V → Option Int → Option Int → Hp → VK → Prop := fun x lo hi H Q => rSlA K x lo hi H Q ∨ rSlL K x lo hi H Q ∨ rSlS x lo hi H Q
theorem sl_all {X : Cx} : SlR X (rSlX X.K) := SlR.or sl_tupA (SlR.or sl_list sl_str)
theorem loc_sl {lo hi : Option Int} : Loc1 C (fun x H Q => rSlX C.K x lo hi H Q) (gSl lo hi) := by
  intro m x rx ry av Q S h1 h k
  unfold gSl at h
  split at h
  · rename_i s
    split at h
    · rename_i z
      cases h
      exact .inr (.inr ⟨s, h1, by rw [sizeLine_is]; exact z, k _ m (Gro.refl S) rfl⟩)
    · cases h
  · split at h
    · rename_i ds e
      cases h
      obtain ⟨a, xs, rfl, r, q⟩ := h1.items S e
      rw [if_pos rfl] at q
      exact .inr (.inl ⟨a, xs, rfl, q, fun p hp => k _ _ (gro_own S hp) (own_lst S hp (r.cut lo hi) (fun z => z hp))⟩)
    · rename_i ds e
      cases h
      have h1' := h1
      obtain ⟨a, xs, rfl, r, q⟩ := h1.items S e
      rw [if_neg (by decide)] at q
      refine .inl ⟨a, xs, rfl, q, fun hw => ?_, fun _ p hp => k _ _ (gro_new S hp) ⟨p, _, rfl, .inl (.inl upd_same), (r.cut lo hi).mono (gro_new S hp).exF _ _⟩⟩
      rw [r.length] at hw
      refine k _ m (Gro.refl S) ?_
      rw [cut_whole hw]
      unfold Rt.items at e
      split at e
      · cases e; exact h1'
      · cases e
      · rename_i os _; cases z : leaves os <;> (rw [z] at e; cases e)
      · rename_i os _; cases z : leaves os <;> (rw [z] at e; cases e)
      · cases e
    · cases h
abbrev MO := Env → Rs (Option Int)
def rdO (C : Cn) (E : XK) (T : List Nat) (f : MO) : TO := fun σ H Q => ∃ m : Mo, m.H = H ∧ m.σ = σ ∧ Sta C m ∧
  Want C E m (f m.env) fun o env' => ∀ m', m'.env = env' → m'.σ = σ → Sta C m' → Step T m m' → Q o m'.H
def oNone : MO := fun env => .ok none env
def oSome (f : ME) : MO := fun env => (f env).bind fun r e => match r with
  | .val (.int i) => .ok (some i) e
  | _ => .bad
theorem PO.wk {X : Cx} {e : Option Expr} {t t' : TO} (h : PO X e t) (w : ∀ σ H Q, t' σ H Q → t σ H Q) : PO X e t' := ⟨fun pins s σ H Q I q => h.run pins s σ H Q I (w σ H Q q)⟩
theorem o_none : PO X none (rdO C E [] oNone) := PO.wk po_none fun σ H Q ⟨m, e1, e2, S, w⟩ => by subst e1; exact w m rfl e2 S (Step.refl _ _)
theorem o_some (h : PE X e (rdE C E T f)) : PO X (some e) (rdO C E T (oSome f)) := PO.wk (po_some h) fun σ H Q ⟨m, e1, e2, S, w⟩ => ⟨m, e1, e2, S, Want.imp w.bind fun r env w => fun v m' e3 e4 S' s ok => by
  cases r with
  | val d =>
    cases d with
    | int i => exact ⟨i, ok, w m' e3 e4 S' s⟩
    | _ => exact w.elim
  | own o => exact w.elim
  | sl x => exact w.elim
  | bor x p o => exact w.elim⟩
def mSl (T : List Nat) (f : ME) (l h : MO) : ME := fun env => (f env).bind fun r e1 => if r.hot T then .bad else (l e1).bind fun lo e2 => (h e2).bind fun hi e3 => ofO (gSl lo hi r) e3
theorem e_sl {lo hi : Option Expr} {p2 : Pos} {l h : MO} (hK : X.K = C.K) (ha : PE X a (rdE C E T1 f)) (hl : PO X lo (rdO C E T2 l)) (hh : PO X hi (rdO C E T3 h)) :
    PE X (.Subscript a (.Slice lo hi none p2) pos) (rdE C E (T1 ++ (T2 ++ T3)) (mSl (T2 ++ T3) f l h)) :=
  PE.wk (pe_slice sl_all ha hl hh) fun σ H Q ⟨m, e1, e2, S, w⟩ => ⟨m, e1, e2, S, Want.imp w.bind fun r env w => fun v m' e3 e4 S' s ok => by
    by_cases hhot : r.hot (T2 ++ T3) = true
    · rw [if_pos hhot] at w; exact w.elim
    rw [if_neg hhot] at w
    refine ⟨m', rfl, e4, S', ?_⟩
    rw [e3]
    refine Want.mono w.bind s fun lo' env2 w m2 e5 e6 S2 s2 => ⟨m2, rfl, e6, S2, ?_⟩
    rw [e5]
    refine Want.mono w.bind (s.trans s2) fun hi' env3 w m3 e7 e8 S3 s3 => ?_
    rw [hK]
    cases hg : gSl lo' hi' r with
    | none => rw [hg] at w; exact w.elim
    | some ry =>
      rw [hg] at w
      refine loc_sl m3 v r ry _ Q S3 (ok.step S' (s2.trans s3) (by simpa using hhot) (e8.trans e4.symm)) hg fun y m4 G ok4 => ?_
      have s4 := s.trans (s2.trans s3)
      exact w y m4 (G.env.trans e7) (G.σ.trans e8) (S3.gro G) (step_nil S3 s4 G) (ok4.av (old_new s4))⟩

def D.tn : D → String
  | .non => "NoneType"
  | .bl _ => "bool"
  | .int _ => "int"
  | .str _ => "str"
  | .tup _ => "tuple"
  | .lst _ => "list"
  | .dk _ _ => "dict"
  | .dt _ _ => "dict"
  | _ => ""
def D.plain : D → Bool
  | .ins _ _ _ => false
  | .ty _ => false
  | .cls _ => false
  | _ => true
theorem RpD.tyx {K : PySem.W.Frag} {cl : Nat → Addr} {H : Hp} {d : D} {v : V} (h : RpD K cl H d v) (hp : d.plain = true) : TyX K H v (.type d.tn) := by
  cases d with
  | non => rw [show v = .non from h]; exact .base .non
  | bl b => rw [show v = .bl b from h]; exact .base (.bl b)
  | int b => rw [show v = .int b from h]; exact .base (.int b)
  | str b => rw [show v = .str b from h]; exact .base (.str b)
  | tup ds =>
    obtain ⟨a, xs, rfl, q, _⟩ := h
    rcases q with (q | ⟨o, q⟩) | ⟨o, its, n, q, c, _⟩
    · exact .base (.tup q)
    · exact .fTuple q
    · exact .kTuple q c
  | lst ds =>
    obtain ⟨a, xs, rfl, q, _⟩ := h
    rcases q with (q | ⟨o, q⟩) | ⟨o, its, n, q, c, _⟩
    · exact .base (.lst q)
    · exact .base (.frz q)
    · exact .kList q c
  | dk ks ds => obtain ⟨a, xs, rfl, q, _⟩ := h; exact .base (.dK q)
  | dt ks ds => obtain ⟨a, xs, rfl, q, _⟩ := h; exact .base (.dT q)
  | ins c ns ds => cases hp
  | ty b => cases hp
  | cls b => cases hp
def gIsi : List Rt → Option Rt
  | [r, .val (.ty n)] => if r.isSl = true ∨ r.d.plain = false then none else (kitB r.d.tn n).map fun b => .val (.bl b)
  | _ => none
theorem loc_isi : LocN C (rIsi C.K) gIsi := by
  intro m xs rs ry Q S h e k
  unfold gIsi at e
  split at e
  · rename_i r n
    obtain ⟨x, y, av, av', rfl, h1, h2⟩ := h.two
    split at e
    · cases e
    · rename_i hs
      cases q : kitB r.d.tn n with
      | none => rw [q] at e; cases e
      | some b =>
        rw [q] at e; cases e
        have h2' : y = .ty n := h2
        subst h2'
        exact ⟨x, .ty n, _, _, b, rfl, .ty n, (h1.rd S (by cases z : r.isSl <;> simp_all)).tyx (by cases z : r.d.plain <;> simp_all), kit_ty q, k _ m (Gro.refl S) rfl⟩
  · cases e
theorem e_ty {x : Str} {n : String} (hg : Gl X x) (hm : X.mg x = none) (hv : bootBuiltins x = some (.type n)) (hn : x ≠ "__name__" := by decide) (hd : (x == ("__debug__" : Str)) = false := by decide) :
    PE X (.Name x pos) (rdE C E [] (mC (.ty n))) := e_const (pe_bltn hg hm hv (v := .ty n) rfl hn hd) fun _ => rfl
def tyns : List D → Option (List String)
  | [] => some []
  | .ty n :: ds => (tyns ds).map (n :: ·)
  | _ :: _ => none
def kitBs (t : String) : List String → Option Bool
  | [] => some false
  | n :: ns => match kitB t n with
    | some true => some true
    | some false => kitBs t ns
    | none => none
theorem kitBs_any {K : PySem.W.Frag} {t : String} : ∀ {ns : List String} {b : Bool}, kitBs t ns = some b → PySem.W.kitAny K (.type t) (ns.map Value.type) = some b
  | [], b, h => by cases h; rfl
  | n :: ns, b, h => by
    unfold kitBs at h
    rw [List.map_cons]
    unfold PySem.W.kitAny
    split at h
    · rename_i q; cases h; rw [kit_ty q]
    · rename_i q; rw [kit_ty q]; exact kitBs_any h
    · cases h
theorem RpDs.tyns {K : PySem.W.Frag} {cl : Nat → Addr} {H : Hp} : ∀ {ds : List D} {vs : List V} {ns : List String}, RpDs K cl H ds vs → L3.tyns ds = some ns → vs = ns.map V.ty ∧ Paired ClsV vs (ns.map Value.type)
  | [], vs, ns, h, e => by cases e; rw [show vs = [] from h]; exact ⟨rfl, .nil⟩
  | d :: ds, vs, ns, h, e => by
    obtain ⟨v, r, rfl, h1, h2⟩ := h
    cases d <;> try cases e
    rename_i n
    have e : (L3.tyns ds).map (n :: ·) = some ns := e
    cases q : L3.tyns ds with
    | none => rw [q] at e; cases e
    | some r' =>
      rw [q] at e; cases e
      obtain ⟨e1, e2⟩ := RpDs.tyns h2 q
      rw [show v = .ty n from h1, e1]
      exact ⟨rfl, .cons (.ty n) (by rw [← e1]; exact e2)⟩
def mStl (f : ME) : ME := fun env => (f env).bind fun r e => match r with
  | .own o => .ok (.val o.d) e
  | r => .ok r e
theorem settle_ok {m : Mo} {o : O} {v : V} {av : Addr → Prop} (S : Sta C m) (h : RtOk C m av (.own o) v) (hav : ∀ a, m.H a ≠ none → a ∉ m.fps.flatten → ¬ av a → True) :
    ∃ (F' : Hp) (fp : Fp), (∀ a ∈ fp, ¬ av a) ∧ (∀ a, F' a ≠ none → m.F a = none → a ∈ fp) ∧ Sta C { m with F := F' } ∧ Ex m.F F' ∧ RpD C.K C.cl F' o.d v := by
  obtain ⟨fp, r, nd, k⟩ := h
  refine ⟨fun a => if a ∈ fp then m.H a else m.F a, fp, fun a ha => (k a ha).2.2.2, fun a h n => ?_, ?_, ?_, ?_⟩
  · by_cases q : a ∈ fp
    · exact q
    · exact absurd n (by simpa [q] using h)
  · have hF : ∀ a, a ∉ fp → (if a ∈ fp then m.H a else m.F a) = m.F a := fun a q => if_neg q
    have eF : Ex m.F (fun a => if a ∈ fp then m.H a else m.F a) := fun a u hu => by
      by_cases q : a ∈ fp
      · rw [(k a q).1] at hu; cases hu
      · show (if a ∈ fp then m.H a else m.F a) = _; rw [if_neg q]; exact hu
    refine ⟨S.ln, S.l1, S.l2, fun i o' s f h1 h2 h3 => ?_, fun a u hu => ?_, S.exF.trans eF, fun a h n => ?_, S.nd, S.dj, fun a ha => ?_, S.own, S.frame, S.dom, S.pin⟩
    · have q := S.sl i o' s f h1 h2 h3
      cases o' with
      | none => exact q
      | some d =>
        obtain ⟨v, e, r⟩ := q
        exact ⟨v, e, r.mono eF d v f (fun _ _ => rfl)⟩
    · have hu' : (if a ∈ fp then m.H a else m.F a) = some u := hu
      by_cases q : a ∈ fp
      · rw [if_pos q] at hu'; exact hu'
      · rw [if_neg q] at hu'; exact S.ex a u hu'
    · have h' : (if a ∈ fp then m.H a else m.F a) ≠ none := h
      by_cases q : a ∈ fp
      · exact (k a q).2.2.1
      · rw [if_neg q] at h'; exact S.newF a h' n
    · have q : a ∉ fp := fun q => (k a q).2.1 ha
      show (if a ∈ fp then m.H a else m.F a) = none
      rw [if_neg q]; exact S.df a ha
  · intro a u hu
    by_cases q : a ∈ fp
    · rw [(k a q).1] at hu; cases hu
    · show (if a ∈ fp then m.H a else m.F a) = _; rw [if_neg q]; exact hu
  · exact r.settle (fun a u hu => by
      by_cases q : a ∈ fp
      · rw [(k a q).1] at hu; cases hu
      · show (if a ∈ fp then m.H a else m.F a) = _; rw [if_neg q]; exact hu) o v fp (fun a ha => if_pos ha)
theorem e_stl (h : PE X e (rdE C E T f)) : PE X e (rdE C E T (mStl f)) :=
  PE.wk h fun σ H Q ⟨m, e1, e2, S, w⟩ => ⟨m, e1, e2, S, Want.imp w.bind fun r env w => fun v m' e3 e4 S' s ok => by
    cases r with
    | own o =>
      obtain ⟨F', fp, k1, k2, S2, eF, r⟩ := settle_ok S' ok fun _ _ _ _ => trivial
      refine w v { m' with F := F' } e3 e4 S2 ⟨s.exF.trans eF, s.keep, s.dom, fun a h n => ?_, s.newO, s.len, s.unt⟩ r
      by_cases q : m'.F a = none
      · have z := k1 a (k2 a h q)
        by_cases y : m.H a = none
        · exact .inl y
        · exact .inr (Classical.byContradiction fun w => z ⟨y, w⟩)
      · exact s.newF a q n
    | val d => exact w v m' e3 e4 S' s ok
    | sl x => exact w v m' e3 e4 S' s ok
    | bor x p o => exact w v m' e3 e4 S' s ok⟩
end
end
end L3
namespace L3
open PySem L2

def Mo.put (m : Mo) (F H : Hp) (i : Nat) (o : O) (v : V) (fp : Fp) : Mo := { F := F, H := H, env := m.env.set i (some o), fps := m.fps.set i fp, σ := m.σ.set i (some v) }
theorem mem_flat_set {fps : List Fp} {i : Nat} {fp : Fp} {a : Addr} (h : a ∈ (fps.set i fp).flatten) : a ∈ fp ∨ ∃ j f, j ≠ i ∧ fps[j]? = some f ∧ a ∈ f := by
  obtain ⟨f, hf, ha⟩ := List.mem_flatten.mp h
  obtain ⟨j, e⟩ := List.mem_iff_getElem?.mp hf
  by_cases q : j = i
  · subst q
    rw [List.getElem?_set] at e
    simp at e
    obtain ⟨_, rfl⟩ := e
    exact .inl ha
  · rw [List.getElem?_set_ne (fun z => q z.symm)] at e
    exact .inr ⟨j, f, q, e, ha⟩
theorem put {C : Cn} {T : List Nat} {m0 m : Mo} {i : Nat} {f0 fp' : Fp} {F' H' : Hp} {o' : O} {v' : V} (s : Step T m0 m) (S : Sta C m) (hf : m.fps[i]? = some f0)
    (exF : Ex m.F F') (ex : Ex F' H') (keep : ∀ b o, m.H b = some o → b ∉ f0 → H' b = some o) (dom : ∀ b, m.H b ≠ none → H' b ≠ none) (newF : ∀ a, F' a ≠ none → m.F a = none → m.H a = none ∨ a ∈ f0)
    (r : RpO C.K C.cl F' H' o' v' fp') (nd : fp'.Nodup) (fF : ∀ a ∈ fp', F' a = none)
    (newO : ∀ a ∈ fp', m.H a = none ∨ a ∈ f0 ∨ ((∀ (j : Nat) (f : Fp), m.fps[j]? = some f → a ∉ f) ∧ (m0.H a = none ∨ a ∈ m0.fps.flatten) ∧ (C.H0 a = none ∨ a ∈ C.io)))
    (pin : i ∈ C.IO → m.σ[i]? = some (some v')) : Sta C (m.put F' H' i o' v' fp') ∧ Step (T ++ [i]) m0 (m.put F' H' i o' v' fp') := by
  have hi : i < m.fps.length := (List.getElem?_eq_some_iff.mp hf).1
  have hiE : i < m.env.length := by rw [← S.l2]; exact hi
  have hiS : i < m.σ.length := by rw [S.l1]; exact hiE
  -- the other slots' objects
  have oth : ∀ (j : Nat) (f : Fp) (a : Addr), j ≠ i → m.fps[j]? = some f → a ∈ f → H' a = m.H a ∧ F' a = none ∧ a ∉ fp' := by
    intro j f a hj e ha
    have n0 : a ∉ f0 := S.dj j i f f0 a hj e hf ha
    have hH := S.inH a (mem_fps e ha)
    refine ⟨?_, ?_, fun z => ?_⟩
    · cases q : m.H a with
      | none => exact absurd q hH
      | some o => exact keep a o q n0
    · exact Classical.byContradiction fun w => (newF a w (S.df a (mem_fps e ha))).elim hH n0
    · rcases newO a z with y | y | y
      · exact hH y
      · exact n0 y
      · exact y.1 j f e ha
  have n0io : ∀ b o, C.H0 b = some o → b ∉ C.io → b ∉ f0 := fun b o h1 h2 h3 => by
    rcases S.own b (mem_fps hf h3) with z | z
    · rw [h1] at z; cases z
    · exact h2 z
  refine ⟨⟨?_, ?_, ?_, ?_, ex, S.exF.trans exF, ?_, ?_, ?_, ?_, ?_, ?_, ?_, ?_⟩, ?_⟩
  · show (m.env.set i _).length = _
    rw [List.length_set]; exact S.ln
  · show (m.σ.set i _).length = (m.env.set i _).length
    rw [List.length_set, List.length_set]; exact S.l1
  · show (m.fps.set i _).length = (m.env.set i _).length
    rw [List.length_set, List.length_set]; exact S.l2
  · intro j o s f h1 h2 h3
    have h1 : (m.env.set i (some o'))[j]? = some o := h1
    have h2 : (m.σ.set i (some v'))[j]? = some s := h2
    have h3 : (m.fps.set i fp')[j]? = some f := h3
    by_cases q : j = i
    · subst q
      rw [List.getElem?_set_self hiE] at h1
      rw [List.getElem?_set_self hiS] at h2
      rw [List.getElem?_set_self hi] at h3
      cases h1; cases h2; cases h3
      exact ⟨v', rfl, r⟩
    · rw [List.getElem?_set_ne (fun z => q z.symm)] at h1 h2 h3
      have w := S.sl j o s f h1 h2 h3
      cases o with
      | none => exact w
      | some d =>
        obtain ⟨v, e, r⟩ := w
        exact ⟨v, e, r.mono exF d v f (fun a ha => (oth j f a q h3 ha).1)⟩
  · intro a h n
    by_cases q : m.F a = none
    · rcases newF a h q with z | z
      · exact .inl (S.h0None z)
      · exact S.own a (mem_fps hf z)
    · exact S.newF a q n
  · intro j f h
    have h : (m.fps.set i fp')[j]? = some f := h
    by_cases q : j = i
    · subst q
      rw [List.getElem?_set_self hi] at h; cases h; exact nd
    · rw [List.getElem?_set_ne (fun z => q z.symm)] at h; exact S.nd j f h
  · intro j k f g a hjk p1 p2 ha hb
    have h1 : (m.fps.set i fp')[j]? = some f := p1
    have h2 : (m.fps.set i fp')[k]? = some g := p2
    clear p1 p2
    by_cases q : j = i
    · subst q
      rw [List.getElem?_set_self hi] at h1; cases h1
      rw [List.getElem?_set_ne hjk] at h2
      exact (oth k g a (fun z => hjk z.symm) h2 hb).2.2 ha
    · rw [List.getElem?_set_ne (fun z => q z.symm)] at h1
      by_cases q2 : k = i
      · subst q2
        rw [List.getElem?_set_self hi] at h2; cases h2
        exact (oth j f a q h1 ha).2.2 hb
      · rw [List.getElem?_set_ne (fun z => q2 z.symm)] at h2
        exact S.dj j k f g a hjk h1 h2 ha hb
  · intro a ha
    rcases mem_flat_set ha with z | ⟨j, f, q, e, z⟩
    · exact fF a z
    · exact (oth j f a q e z).2.1
  · intro a ha
    rcases mem_flat_set ha with z | ⟨j, f, q, e, z⟩
    · rcases newO a z with y | y | y
      · exact .inl (S.h0None y)
      · exact S.own a (mem_fps hf y)
      · exact y.2.2
    · exact S.own a (mem_fps e z)
  · intro b o h1 h2
    exact keep b o (S.frame b o h1 h2) (n0io b o h1 h2)
  · intro b h
    exact dom b (S.dom b h)
  · intro j hj
    show (m.σ.set i (some v'))[j]? = _
    by_cases q : j = i
    · subst q
      rw [List.getElem?_set_self hiS, ← pin hj]; exact S.pin j hj
    · rw [List.getElem?_set_ne (fun z => q z.symm)]; exact S.pin j hj
  · have f0in : ∀ a ∈ f0, m0.H a = none ∨ a ∈ m0.fps.flatten := fun a ha => s.newO a (mem_fps hf ha)
    refine ⟨s.exF.trans exF, fun b o h n => ?_, fun b h => dom b (s.dom b h), fun a h n => ?_, fun a ha => ?_, ?_, fun j hj => ?_⟩
    · refine keep b o (s.keep b o h n) fun z => ?_
      rcases f0in b z with y | y
      · rw [h] at y; cases y
      · exact n y
    · by_cases q : m.F a = none
      · rcases newF a h q with z | z
        · exact .inl (Classical.byContradiction fun w => s.dom a w z)
        · exact f0in a z
      · exact s.newF a q n
    · rcases mem_flat_set ha with z | ⟨j, f, q, e, z⟩
      · rcases newO a z with y | y | y
        · exact .inl (Classical.byContradiction fun w => s.dom a w y)
        · exact f0in a y
        · exact y.2.1
      · exact s.newO a (mem_fps e z)
    · show (m.env.set i _).length = _
      rw [List.length_set]; exact s.len
    · have hj1 : j ∉ T := fun z => hj (by simp [z])
      have hj2 : j ≠ i := fun z => hj (by simp [z])
      obtain ⟨u1, u2, u3, u4⟩ := s.unt j hj1
      show (m.env.set i _)[j]? = _ ∧ (m.fps.set i _)[j]? = _ ∧ (m.σ.set i _)[j]? = _ ∧ _
      rw [List.getElem?_set_ne hj2.symm, List.getElem?_set_ne hj2.symm, List.getElem?_set_ne hj2.symm]
      exact ⟨u1, u2, u3, fun f hf2 a ha => ((oth j f a hj2 (u2.trans hf2) ha).1).trans (u4 f hf2 a ha)⟩

section
variable {X : Cx} {C : Cn} {E : XK} {e a b : Expr} {pos : Pos} {T T1 T2 T3 : List Nat} {fs : MA} {es : List Expr} {f f1 f2 : ME} {st : Stmt} {sts : List Stmt} {g g1 g2 : MS} {t : MT}
def msNil : MS := fun env => .ok .nx env
def msSeq (g1 g2 : MS) : MS := fun env => (g1 env).bind fun fl e => match fl with
  | .nx => g2 e
  | fl => .ok fl e
theorem s_nil : PSs X [] (rdS C E [] msNil) := PSs.wk pss_nil fun D σ H ⟨m, e1, e2, S, w⟩ => by
  subst e1 e2
  exact w m rfl S (Step.refl _ _)
theorem seq_rd {D : Ends} {σ : L2.St} {H : Hp} (h : rdS C E (T1 ++ T2) (msSeq g1 g2) D σ H) : rdS C E T1 g1 { D with nx := rdS C E T2 g2 D } σ H := by
  obtain ⟨m, e1, e2, S, w⟩ := h
  refine ⟨m, e1, e2, S, Want.imp w.bind fun fl env w => fun m' e3 S' s => ?_⟩
  cases fl with
  | nx =>
    refine ⟨m', rfl, rfl, S', ?_⟩
    rw [e3]
    exact Want.mono w s fun fl2 env2 w m2 e5 S2 s2 => w m2 e5 S2 (s.trans s2)
  | ret r => exact w m' e3 S' s.inl
  | brk => exact w m' e3 S' s.inl
  | cont => exact w m' e3 S' s.inl
theorem s_cons (h1 : PS X st (rdS C E T1 g1)) (h2 : PSs X sts (rdS C E T2 g2)) : PSs X (st :: sts) (rdS C E (T1 ++ T2) (msSeq g1 g2)) := PSs.wk (pss_cons h1 h2) fun D σ H h => seq_rd h
theorem s_one (h1 : PS X st (rdS C E T1 g1)) : PSs X [st] (rdS C E T1 g1) := pss_one h1
def msExpr (f : ME) : MS := fun env => (f env).bind fun _ e => .ok .nx e
theorem s_expr (h : PE X e (rdE C E T f)) (hs : swapsWith e none pos.line X.env = pure false := by rfl) : PS X (.Expr e pos) (rdS C E T (msExpr f)) := PS.wk (ps_expr h hs) fun D σ H ⟨m, e1, e2, S, w⟩ =>
  ⟨m, e1, e2, S, Want.imp w.bind fun r env w => fun v m' e3 e4 S' s ok => by
    have := w m' e3 S' s
    rw [← e4]; exact this⟩
theorem s_pass : PS X (.Pass pos) (rdS C E [] msNil) := PS.wk ps_pass fun D σ H ⟨m, e1, e2, S, w⟩ => by
  subst e1 e2
  exact w m rfl S (Step.refl _ _)
def msBrk : MS := fun env => .ok .brk env
def msCont : MS := fun env => .ok .cont env
theorem s_brk : PS X (.Break pos) (rdS C E [] msBrk) := PS.wk ps_break fun D σ H ⟨m, e1, e2, S, w⟩ => by
  subst e1 e2
  exact w m rfl S (Step.refl _ _)
theorem s_cont : PS X (.Continue pos) (rdS C E [] msCont) := PS.wk ps_continue fun D σ H ⟨m, e1, e2, S, w⟩ => by
  subst e1 e2
  exact w m rfl S (Step.refl _ _)
def msRet (f : ME) : MS := fun env => (f env).bind fun r e => .ok (.ret r) e
theorem s_ret (h : PE X e (rdE C E T f)) : PS X (.Return (some e) pos) (rdS C E T (msRet f)) := PS.wk (ps_ret h) fun D σ H ⟨m, e1, e2, S, w⟩ =>
  ⟨m, e1, e2, S, Want.imp w.bind fun r env w => fun v m' e3 e4 S' s ok => w m' e3 S' s v _ ok⟩
def msBad : MS := fun _ => .bad
theorem s_bad : PS X st (rdS C E [] msBad) := PS.wk ps_never fun D σ H ⟨m, e1, e2, S, w⟩ => w.elim
def msIf (t : MT) (g1 g2 : MS) : MS := fun env => (t env).bind fun b e => if b = true then g1 e else g2 e
theorem s_if {c : Expr} {xs ys : List Stmt} (hc : PT X c (rdT C E T1 t)) (h1 : PSs X xs (rdS C E T2 g1)) (h2 : PSs X ys (rdS C E T3 g2)) : PS X (.If c xs ys pos) (rdS C E (T1 ++ (T2 ++ T3)) (msIf t g1 g2)) :=
  PS.wk (ps_if hc h1 h2) fun D σ H ⟨m, e1, e2, S, w⟩ => ⟨m, e1, e2, S, Want.imp w.bind fun b env w => fun m' e3 e4 S' s => by
    cases b with
    | true =>
      rw [if_pos rfl]
      refine ⟨m', rfl, e4, S', ?_⟩
      rw [e3]
      exact Want.mono w s fun fl env2 w m2 e5 S2 s2 => w m2 e5 S2 ((s.trans s2).wk (by simp +contextual [or_imp]))
    | false =>
      rw [if_neg Bool.false_ne_true]
      refine ⟨m', rfl, e4, S', ?_⟩
      rw [e3]
      exact Want.mono w s fun fl env2 w m2 e5 S2 s2 => w m2 e5 S2 ((s.trans s2).wk (by simp +contextual [or_imp]))⟩
def Rt.o : Rt → Option O
  | .val d => some (.s d)
  | .own o => some o
  | _ => none
def msSet (i : Nat) (f : ME) : MS := fun env => (f env).bind fun r e => match r.o with
  | some o => .ok .nx (e.set i (some o))
  | none => .bad
theorem store_rd {m0 m : Mo} {i : Nat} {r : Rt} {o : O} {v : V} (s : Step T m0 m) (S : Sta C m) (ok : RtOk C m (Old m0) r v) (ho : r.o = some o) (hi : i < m.env.length) (hIO : i ∉ C.IO) :
    ∃ fp, Sta C (m.put m.F m.H i o v fp) ∧ Step (T ++ [i]) m0 (m.put m.F m.H i o v fp) := by
  have hi' : i < m.fps.length := by rw [S.l2]; exact hi
  have hf := List.getElem?_eq_getElem hi'
  cases r with
  | val d =>
    cases ho
    exact ⟨[], put s S hf (Ex.refl _) S.ex (fun _ _ h _ => h) (fun _ h => h) (fun a h n => absurd n h) ⟨rfl, ok⟩ List.nodup_nil (fun a h => by simp at h) (fun a h => by simp at h) fun z => absurd z hIO⟩
  | own o' =>
    cases ho
    obtain ⟨fp, r, nd, k⟩ := ok
    refine ⟨fp, put s S hf (Ex.refl _) S.ex (fun _ _ h _ => h) (fun _ h => h) (fun a h n => absurd n h) r nd (fun a h => (k a h).1) (fun a h => .inr (.inr ⟨fun j f e z => (k a h).2.1 (mem_fps e z), ?_, (k a h).2.2.1⟩)) fun z => absurd z hIO⟩
    have q := (k a h).2.2.2
    by_cases y : m0.H a = none
    · exact .inl y
    · exact .inr (Classical.byContradiction fun w => q ⟨y, w⟩)
  | bor x p o' => cases ho
  | sl x => cases ho
theorem s_set (i : Nat) {x : Str} {pos' : Pos} (hN : X.N.Nodup) (hi : X.N[i]? = some x) (hx : Loc X.env.scope x) (he : PE X e (rdE C E T f)) (hIO : i ∉ C.IO := by decide) (hlen : i < C.n := by decide)
    (hs : swapsWith e (some (.Name x pos')) pos.line X.env = pure false := by rfl) (hf : X.fn x = true ∨ X.env.scope.names.lookup x = some .local := by first | exact .inl rfl | exact .inr rfl | assumption) :
    PS X (.Assign [.Name x pos'] e pos) (rdS C E (T ++ [i]) (msSet i f)) := PS.wk (ps_set hN hi hx he hs hf) fun D σ H ⟨m, e1, e2, S, w⟩ =>
  ⟨m, e1, e2, S, Want.imp w.bind fun r env w => fun v m' e3 e4 S' s ok => by
    cases ho : r.o with
    | none => rw [ho] at w; exact w.elim
    | some o =>
      rw [ho] at w
      obtain ⟨fp, S2, s2⟩ := store_rd (i := i) s S' ok ho (by rw [S'.ln]; exact hlen) hIO
      have := w _ (by show m'.env.set i (some o) = _; rw [e3]) S2 s2
      show D.nx (σ.set i (some v)) m'.H
      rw [← e4]
      exact this⟩
end
end L3
namespace L3
open PySem L2

inductive Rr where
  | ok (r : O) (outs : List O)
  | exc (c : Nat) (ds : List D) (outs : List O)
  | bad
structure GPost (F H : Hp) (fp : Fp) (F' H' : Hp) : Prop where
  exF : Ex F F'
  ex : Ex F' H'
  keep : ∀ b o, H b = some o → b ∉ fp → H' b = some o
  dom : ∀ b, H b ≠ none → H' b ≠ none
  newF : ∀ a, F' a ≠ none → F a = none → H a = none ∨ a ∈ fp
structure GOuts (K : PySem.W.Frag) (cl : Nat → Addr) (H : Hp) (fp : Fp) (F' H' : Hp) (vs : List V) (outs : List O) (fr fp' : Fp) : Prop where
  rp : RpOs K cl F' H' outs vs fp'
  nd : (fr ++ fp').Nodup
  fF : ∀ a ∈ fr ++ fp', F' a = none
  newO : ∀ a ∈ fr ++ fp', H a = none ∨ a ∈ fp
def spG (K : PySem.W.Frag) (cl : Nat → Addr) (n : Nat) (f : List O → Rr) : Sp := fun vs H Q E => ∃ (F : Hp) (os : List O) (fp : Fp), os.length = n ∧ Ex F H ∧ RpOs K cl F H os vs fp ∧ fp.Nodup ∧ (∀ a ∈ fp, F a = none) ∧
  match f os with
  | .ok r outs => ∀ v F' H' fr fp', GPost F H fp F' H' → RpO K cl F' H' r v fr → GOuts K cl H fp F' H' vs outs fr fp' → Q v H'
  | .exc c ds outs => ∀ F' H' dd fp', GPost F H fp F' H' → GOuts K cl H fp F' H' vs outs [] fp' →
      (ds = [] → dd = none) → (∀ d, ds = [d] → ∃ a f v, dd = some a ∧ H' a = some (.xd [(f, v)]) ∧ RpD K cl F' d v) → E (.ref (cl c)) dd H'
  | .bad => False
theorem spG_imp {K : PySem.W.Frag} {cl : Nat → Addr} {n : Nat} {f g : List O → Rr} (h : ∀ os, os.length = n → g os = .bad ∨ f os = g os) : ∀ vs H Q E, spG K cl n g vs H Q E → spG K cl n f vs H Q E := by
  rintro vs H Q E ⟨F, os, fp, hl, ex, r, nd, fF, w⟩
  refine ⟨F, os, fp, hl, ex, r, nd, fF, ?_⟩
  rcases h os hl with e | e
  · rw [e] at w; exact w.elim
  · rw [e]; exact w
theorem spG_len {K : PySem.W.Frag} {cl : Nat → Addr} {n : Nat} {f : List O → Rr} {vs : List V} {H : Hp} {Q : VK} {E : XK} (h : spG K cl n f vs H Q E) : vs.length = n := by
  obtain ⟨F, os, fp, hl, ex, r, _⟩ := h
  rw [r.length]; exact hl

def O.only : O → Option O
  | .s d => some (.s d)
  | _ => none
def outsFrom (IO : List Nat) : Nat → List O → Env → Option (List O)
  | _, [], _ => some []
  | i, o :: os, e :: env => (if i ∈ IO then e else o.only).bind fun o' => (outsFrom IO (i + 1) os env).map (o' :: ·)
  | _, _ :: _, [] => none
def retO (n : Nat) : Fl → Option O
  | .nx => some (.s .non)
  | .ret (.val d) => some (.s d)
  | .ret (.own o) => some o
  | .ret (.bor x [] o) => if n ≤ x then some o else none
  | _ => none
def runDef (IO : List Nat) (k : Nat) (body : MS) (os : List O) : Rr :=
  match body (os.map some ++ List.replicate k none) with
  | .ok fl env' => match outsFrom IO 0 os env', retO os.length fl with
    | some outs, some r => .ok r outs
    | _, _ => .bad
  | .exc c ds env' => match outsFrom IO 0 os env' with
    | some outs => .exc c ds outs
    | none => .bad
  | .bad => .bad
section
variable {K : PySem.W.Frag} {cl : Nat → Addr}
theorem RpOs.split {F H : Hp} : ∀ {os : List O} {vs : List V} {fp : Fp}, RpOs K cl F H os vs fp → ∃ fps : List Fp, fps.length = os.length ∧ fps.flatten = fp ∧
    ∀ (i : Nat) (o : O) (v : V) (f : Fp), os[i]? = some o → vs[i]? = some v → fps[i]? = some f → RpO K cl F H o v f
  | [], vs, fp, h => ⟨[], rfl, h.2.symm, fun i o v f h1 => by simp at h1⟩
  | o :: os, vs, fp, h => by
    obtain ⟨v, r, f, g, rfl, rfl, h1, h2⟩ := h
    obtain ⟨fps, l, e, k⟩ := h2.split
    refine ⟨f :: fps, by simp [l], by simp [e], fun i o' v' f' a1 a2 a3 => ?_⟩
    cases i with
    | zero => simp at a1 a2 a3; subst a1 a2 a3; exact h1
    | succ i => exact k i o' v' f' (by simpa using a1) (by simpa using a2) (by simpa using a3)
theorem nodup_flat {fps : List Fp} (h : fps.flatten.Nodup) : (∀ (i : Nat) (f : Fp), fps[i]? = some f → f.Nodup) ∧ ∀ (i j : Nat) (f g : Fp) (a : Addr), i ≠ j → fps[i]? = some f → fps[j]? = some g → a ∈ f → a ∉ g := by
  induction fps with
  | nil => exact ⟨fun i f h => by simp at h, fun i j f g a _ h => by simp at h⟩
  | cons f fps ih =>
    rw [List.flatten_cons, List.nodup_append] at h
    obtain ⟨h1, h2, h3⟩ := h
    obtain ⟨i1, i2⟩ := ih h2
    refine ⟨fun i g e => ?_, fun i j g g' a hij e1 e2 ha hb => ?_⟩
    · cases i with
      | zero => simp at e; subst e; exact h1
      | succ i => exact i1 i g (by simpa using e)
    · cases i with
      | zero =>
        simp at e1; subst e1
        cases j with
        | zero => exact hij rfl
        | succ j =>
          have e2' : fps[j]? = some g' := by simpa using e2
          exact h3 a ha a (List.mem_flatten.mpr ⟨g', List.mem_of_getElem? e2', hb⟩) rfl
      | succ i =>
        have e1' : fps[i]? = some g := by simpa using e1
        cases j with
        | zero =>
          simp at e2; subst e2
          exact h3 a hb a (List.mem_flatten.mpr ⟨g, List.mem_of_getElem? e1', ha⟩) rfl
        | succ j => exact i2 i j g g' a (by omega) e1' (by simpa using e2) ha hb
theorem outs_ok {C : Cn} {m : Mo} (S : Sta C m) : ∀ {os : List O} {i : Nat} {vs : List V} {outs : List O} {env : Env} {F0 H0 : Hp} {fp0 : Fp}, outsFrom C.IO i os env = some outs → env = m.env.drop i → (∀ j, C.vs[i + j]? = (vs.map some)[j]? ∨ vs.length ≤ j) →
    RpOs C.K C.cl F0 H0 os vs fp0 → Ex F0 m.F → ∃ fps : List Fp, fps.length = os.length ∧ RpOs C.K C.cl m.F m.H outs vs fps.flatten ∧ ∀ (j : Nat) (f : Fp), fps[j]? = some f → f = [] ∨ (i + j ∈ C.IO ∧ m.fps[i + j]? = some f)
  | [], i, vs, outs, env, F0, H0, fp0, h, _, _, r, _ => by
    cases h
    exact ⟨[], rfl, ⟨r.1, rfl⟩, fun j f h => by simp at h⟩
  | o :: os, i, vs, outs, [], F0, H0, fp0, h, _, _, r, _ => by cases h
  | o :: os, i, vs, outs, e :: env, F0, H0, fp0, h, he, hv, r, eF => by
    unfold outsFrom at h
    obtain ⟨v, vr, f, g, rfl, rfl, r1, r2⟩ := r
    have he1 : m.env[i]? = some e := by
      have := congrArg (fun l => l[0]?) he
      simp at this
      rw [← this]
    have he2 : env = m.env.drop (i + 1) := by
      have := congrArg List.tail he
      simp at this
      exact this
    cases q : (if i ∈ C.IO then e else o.only) with
    | none => rw [q] at h; cases h
    | some o' =>
      rw [q] at h
      cases q2 : outsFrom C.IO (i + 1) os env with
      | none => rw [q2] at h; cases h
      | some outs' =>
        rw [q2] at h
        cases h
        obtain ⟨fps, l, rr, k⟩ := outs_ok S q2 he2 (fun j => by
          rcases hv (j + 1) with z | z
          · left; rw [show i + 1 + j = i + (j + 1) from by omega, z]; simp
          · right; simpa using z) r2 eF
        by_cases hio : i ∈ C.IO
        · rw [if_pos hio] at q
          subst q
          obtain ⟨v', f', s1, s2, s3⟩ := S.slot he1
          have p := S.pin i hio
          have hv0 : C.vs[i]? = some (some v) := by
            rcases hv 0 with z | z
            · simpa using z
            · simp at z
          rw [s1, hv0] at p
          cases p
          refine ⟨f' :: fps, by simp [l], ⟨_, _, f', fps.flatten, rfl, by simp, s3, rr⟩, fun j f2 h2 => ?_⟩
          cases j with
          | zero => simp at h2; subst h2; exact .inr ⟨hio, s2⟩
          | succ j =>
            rcases k j f2 (by simpa using h2) with z | ⟨z1, z2⟩
            · exact .inl z
            · exact .inr ⟨by rw [show i + (j + 1) = i + 1 + j from by omega]; exact z1, by rw [show i + (j + 1) = i + 1 + j from by omega]; exact z2⟩
        · rw [if_neg hio] at q
          cases o with
          | s d =>
            cases q
            refine ⟨[] :: fps, by simp [l], ⟨_, _, [], fps.flatten, rfl, by simp, ⟨rfl, r1.2.mono eF d v⟩, rr⟩, fun j f2 h2 => ?_⟩
            cases j with
            | zero => simp at h2; subst h2; exact .inl rfl
            | succ j =>
              rcases k j f2 (by simpa using h2) with z | ⟨z1, z2⟩
              · exact .inl z
              · exact .inr ⟨by rw [show i + (j + 1) = i + 1 + j from by omega]; exact z1, by rw [show i + (j + 1) = i + 1 + j from by omega]; exact z2⟩
          | _ => cases q
theorem flat_nodup {m : Mo} {C : Cn} (S : Sta C m) : ∀ {fps : List Fp} {i : Nat}, (∀ (j : Nat) (f : Fp), fps[j]? = some f → f = [] ∨ (i + j ∈ C.IO ∧ m.fps[i + j]? = some f)) → fps.flatten.Nodup ∧ ∀ a ∈ fps.flatten, ∃ j f, i ≤ j ∧ j < i + fps.length ∧ m.fps[j]? = some f ∧ a ∈ f
  | [], i, _ => ⟨by simp, fun a h => by simp at h⟩
  | f :: fps, i, h => by
    obtain ⟨n, k⟩ := flat_nodup S (fps := fps) (i := i + 1) (fun j g e => by
      rcases h (j + 1) g (by simpa using e) with z | ⟨z1, z2⟩
      · exact .inl z
      · exact .inr ⟨by rw [show i + 1 + j = i + (j + 1) from by omega]; exact z1, by rw [show i + 1 + j = i + (j + 1) from by omega]; exact z2⟩)
    rw [List.flatten_cons, List.nodup_append]
    rcases h 0 f (by simp) with z | ⟨z1, z2⟩
    · subst z
      refine ⟨⟨by simp, n, fun a ha => by simp at ha⟩, fun a ha => ?_⟩
      obtain ⟨j, g, l1, l2, e, hg⟩ := k a (by simpa using ha)
      exact ⟨j, g, by omega, by simp; omega, e, hg⟩
    · refine ⟨⟨S.nd _ _ z2, n, fun a ha b hb e => ?_⟩, fun a ha => ?_⟩
      · subst e
        obtain ⟨j, g, l1, l2, e, hg⟩ := k a hb
        exact S.dj i j f g a (by omega) (by simpa using z2) e ha hg
      · rcases List.mem_append.mp ha with ha | ha
        · exact ⟨i, f, by omega, by simp, by simpa using z2, ha⟩
        · obtain ⟨j, g, l1, l2, e, hg⟩ := k a ha
          exact ⟨j, g, by omega, by simp; omega, e, hg⟩

variable {P : Program} {w : World} {mg : Str → Option Value} {base : Heap}
theorem start_is (N : List Str) (vs : List V) : start N vs = vs.map some ++ List.replicate (N.length - vs.length) none := rfl
theorem first_ok {N : List Str} {IO : List Nat} {F H : Hp} {os : List O} {vs : List V} {fp : Fp} (ex : Ex F H) (r : RpOs K cl F H os vs fp) (nd : fp.Nodup) (fF : ∀ a ∈ fp, F a = none) (hn : os.length ≤ N.length) :
    ∃ fps, Sta ⟨K, cl, F, H, fp, IO, start N vs, N.length⟩ ⟨F, H, os.map some ++ List.replicate (N.length - os.length) none, fps, start N vs⟩ ∧ fps.flatten = fp := by
  obtain ⟨fps, l, e, k⟩ := r.split
  obtain ⟨n1, n2⟩ := nodup_flat (fps := fps) (by rw [e]; exact nd)
  have lv : vs.length = os.length := r.length
  have ef : (fps ++ List.replicate (N.length - os.length) ([] : Fp)).flatten = fp := by
    rw [List.flatten_append, e]
    have : (List.replicate (N.length - os.length) ([] : Fp)).flatten = [] := by simp
    rw [this, List.append_nil]
  have get : ∀ {i : Nat} {f : Fp}, (fps ++ List.replicate (N.length - os.length) ([] : Fp))[i]? = some f → (i < os.length ∧ fps[i]? = some f) ∨ f = [] := by
    intro i f h
    by_cases hi : i < fps.length
    · rw [List.getElem?_append_left hi] at h; exact .inl ⟨by omega, h⟩
    · rw [List.getElem?_append_right (by omega), List.getElem?_replicate] at h
      split at h
      · cases h; exact .inr rfl
      · cases h
  refine ⟨fps ++ List.replicate (N.length - os.length) [], ⟨?_, ?_, ?_, fun i o s f h1 h2 h3 => ?_, ex, Ex.refl _, fun a h n => absurd n h, fun i f h => ?_, fun i j f g a hij h1 h2 ha hb => ?_, fun a ha => ?_, fun a ha => ?_, fun b o h _ => h, fun b h => h, fun i _ => rfl⟩, ef⟩
  · show (os.map some ++ List.replicate (N.length - os.length) none).length = N.length
    simp; omega
  · show (start N vs).length = (os.map some ++ List.replicate (N.length - os.length) none).length
    simp [start_is]; omega
  · show (fps ++ List.replicate (N.length - os.length) ([] : Fp)).length = (os.map some ++ List.replicate (N.length - os.length) none).length
    simp; omega
  · have h1 : (os.map some ++ List.replicate (N.length - os.length) (none : Option O))[i]? = some o := h1
    have h2 : (start N vs)[i]? = some s := h2
    have h3 : (fps ++ List.replicate (N.length - os.length) ([] : Fp))[i]? = some f := h3
    by_cases hi : i < os.length
    · rw [List.getElem?_append_left (by simpa using hi)] at h1
      rw [List.getElem?_append_left (by omega)] at h3
      rw [start_is, List.getElem?_append_left (by simp; omega)] at h2
      rw [List.getElem?_map] at h1 h2
      cases q1 : os[i]? with
      | none => rw [q1] at h1; cases h1
      | some o' =>
        rw [q1] at h1; cases h1
        cases q2 : vs[i]? with
        | none => rw [q2] at h2; cases h2
        | some v => rw [q2] at h2; cases h2; exact ⟨v, rfl, k i o' v f q1 q2 h3⟩
    · rw [List.getElem?_append_right (by simp; omega), List.getElem?_replicate] at h1
      split at h1
      · cases h1
        rcases get h3 with ⟨z, _⟩ | z
        · exact absurd z hi
        · exact z
      · cases h1
  · rcases get h with ⟨_, z⟩ | z
    · exact n1 i f z
    · subst z; exact List.nodup_nil
  · rcases get h1 with ⟨_, z⟩ | z
    · rcases get h2 with ⟨_, z'⟩ | z'
      · exact n2 i j f g a hij z z' ha hb
      · subst z'; simp at hb
    · subst z; simp at ha
  · exact fF a (by rw [← ef]; exact ha)
  · exact .inr (show a ∈ fp by rw [← ef]; exact ha)
theorem fn_def {x qual : Str} {st : Stmt} {f : Addr} {fd : FuncData} {N ps : List Str} {k : Nat} {IO : List Nat} {body : MS} (F : Fun K x qual st f fd) (S : FnScope N ps (defScope st)) (hN : ps.length ≤ N.length)
    (hb : ∀ (cdv : Value) (A : Around) (outer : List PySem.Env) (s : Shared) (H : Hp) (E : XK) (C : Cn), C.K = K → C.cl = cl → C.IO = IO → C.n = N.length → Room k (A.deeper (PyProof.Rows.envOfC qual (defScope st) s.heap.objs.size f cdv)) →
      ∃ T, PSs (cxOf CX0 P w K mg base N qual (defScope st) f cdv A outer s H E).nox (defBody st) (rdS C E T body)) :
    FnOk P w K mg base CX0 (k + 1) f fd ps (spG K cl ps.length (runDef IO (N.length - ps.length) body)) := by
  refine F.ok S (fun vs H Q E h => spG_len h) (fun cdv A outer s H vs Q E hr h => ?_)
  obtain ⟨F0, os, fp, hl, ex, r, nd, fF, wt⟩ := h
  have lv : vs.length = os.length := r.length
  obtain ⟨fps, S0, ef⟩ := first_ok (N := N) (IO := IO) ex r nd fF (by omega)
  obtain ⟨T, hps⟩ := hb cdv A outer s H E ⟨K, cl, F0, H, fp, IO, start N vs, N.length⟩ rfl rfl rfl rfl hr
  refine ⟨_, hps, ⟨_, rfl, rfl, S0, ?_⟩⟩
  show Want _ E _ (body (os.map some ++ List.replicate (N.length - os.length) none)) _
  unfold runDef at wt
  rw [hl] at wt ⊢
  cases hbody : body (os.map some ++ List.replicate (N.length - ps.length) none) with
  | bad => rw [hbody] at wt; exact wt.elim
  | exc c ds env' =>
    rw [hbody] at wt
    dsimp only at wt
    cases ho : outsFrom IO 0 os env' with
    | none => rw [ho] at wt; exact wt.elim
    | some outs =>
      rw [ho] at wt
      intro m' he S' T' s' dd h1 h2
      obtain ⟨gps, l, rr, kk⟩ := outs_ok S' (i := 0) (vs := vs) ho (by simp [he]) (fun j => by
        by_cases hj : j < vs.length
        · left; show (start N vs)[0 + j]? = _; rw [start_is, Nat.zero_add, List.getElem?_append_left (by simpa using hj)]
        · right; omega) r s'.exF
      obtain ⟨gn, gk⟩ := flat_nodup S' kk
      refine wt m'.F m'.H dd gps.flatten ⟨s'.exF, S'.ex, fun b o h n => s'.keep b o h (by rw [ef]; exact n), s'.dom, fun a h n => ?_⟩ ⟨rr, by simpa using gn, fun a ha => ?_, fun a ha => ?_⟩ h1 h2
      · have := s'.newF a h n; rw [ef] at this; exact this
      · obtain ⟨j, g, _, _, e, hg⟩ := gk a (by simpa using ha)
        exact S'.df a (mem_fps e hg)
      · obtain ⟨j, g, _, _, e, hg⟩ := gk a (by simpa using ha)
        have := s'.newO a (mem_fps e hg); rw [ef] at this; exact this
  | ok fl env' =>
    rw [hbody] at wt
    dsimp only at wt
    cases ho : outsFrom IO 0 os env' with
    | none => rw [ho] at wt; exact wt.elim
    | some outs =>
      rw [ho] at wt
      cases hr : retO ps.length fl with
      | none => rw [hr] at wt; exact wt.elim
      | some ro =>
        rw [hr] at wt
        dsimp only at wt
        intro m' he S' s'
        obtain ⟨gps, l, rr, kk⟩ := outs_ok S' (i := 0) (vs := vs) ho (by simp [he]) (fun j => by
          by_cases hj : j < vs.length
          · left; show (start N vs)[0 + j]? = _; rw [start_is, Nat.zero_add, List.getElem?_append_left (by simpa using hj)]
          · right; omega) r s'.exF
        obtain ⟨gn, gk⟩ := flat_nodup S' kk
        have post : GPost F0 H fp m'.F m'.H := ⟨s'.exF, S'.ex, fun b o h n => s'.keep b o h (by rw [ef]; exact n), s'.dom, fun a h n => by have := s'.newF a h n; rw [ef] at this; exact this⟩
        have inn : ∀ a ∈ gps.flatten, m'.F a = none ∧ (H a = none ∨ a ∈ fp) := fun a ha => by
          obtain ⟨j, g, _, _, e, hg⟩ := gk a ha
          refine ⟨S'.df a (mem_fps e hg), ?_⟩
          have := s'.newO a (mem_fps e hg); rw [ef] at this; exact this
        cases fl with
        | brk => cases hr
        | cont => cases hr
        | nx =>
          cases hr
          exact wt .non m'.F m'.H [] gps.flatten post ⟨rfl, rfl⟩ ⟨rr, by simpa using gn, fun a ha => (inn a (by simpa using ha)).1, fun a ha => (inn a (by simpa using ha)).2⟩
        | ret rt =>
          intro v av ok
          cases rt with
          | val d =>
            cases hr
            exact wt v m'.F m'.H [] gps.flatten post ⟨rfl, ok⟩ ⟨rr, by simpa using gn, fun a ha => (inn a (by simpa using ha)).1, fun a ha => (inn a (by simpa using ha)).2⟩
          | own o =>
            cases hr
            obtain ⟨fr, r2, nd2, k2⟩ := ok
            refine wt v m'.F m'.H fr gps.flatten post r2 ⟨rr, ?_, fun a ha => ?_, fun a ha => ?_⟩
            · rw [List.nodup_append]
              refine ⟨nd2, gn, fun a ha b hb e => ?_⟩
              subst e
              obtain ⟨j, g, _, _, e, hg⟩ := gk a hb
              exact (k2 a ha).2.1 (mem_fps e hg)
            · rcases List.mem_append.mp ha with ha | ha
              · exact (k2 a ha).1
              · exact (inn a ha).1
            · rcases List.mem_append.mp ha with ha | ha
              · exact (k2 a ha).2.2.1
              · exact (inn a ha).2
          | sl x => cases hr
          | bor x p o =>
            cases p with
            | cons _ _ => cases hr
            | nil =>
              have hr : (if ps.length ≤ x then some o else none) = some ro := hr
              have hx : ps.length ≤ x := Classical.byContradiction fun hx => by rw [if_neg hx] at hr; cases hr
              rw [if_pos hx] at hr
              cases hr
              obtain ⟨d0, v0, a1, a2, a3, a4⟩ := ok
              subst a3 a4
              obtain ⟨v1, fr, b1, b2, b3⟩ := S'.slot a1
              rw [a2] at b1; cases b1
              refine wt v m'.F m'.H fr gps.flatten post b3 ⟨rr, ?_, fun a ha => ?_, fun a ha => ?_⟩
              · rw [List.nodup_append]
                refine ⟨S'.nd x fr b2, gn, fun a ha b hb e => ?_⟩
                subst e
                obtain ⟨j, g, j1, j2, e, hg⟩ := gk a hb
                exact S'.dj x j fr g a (by omega) b2 e ha hg
              · rcases List.mem_append.mp ha with ha | ha
                · exact S'.df a (mem_fps b2 ha)
                · exact (inn a ha).1
              · rcases List.mem_append.mp ha with ha | ha
                · have := s'.newO a (mem_fps b2 ha); rw [ef] at this; exact this
                · exact (inn a ha).2
end
end L3
namespace L3
open PySem L2

def Mo.fg (m : Mo) (x : Nat) : Mo := { m with env := m.env.set x none, fps := m.fps.set x [] }
theorem forget {C : Cn} {T : List Nat} {m0 m : Mo} (s : Step T m0 m) (S : Sta C m) (x : Nat) : Sta C (m.fg x) ∧ Step (T ++ [x]) m0 (m.fg x) := by
  have sub : ∀ {j : Nat} {f : Fp}, (m.fps.set x [])[j]? = some f → (j = x ∧ f = []) ∨ (j ≠ x ∧ m.fps[j]? = some f) := by
    intro j f h
    by_cases q : j = x
    · subst q
      rw [List.getElem?_set] at h
      simp at h
      exact .inl ⟨rfl, h.2⟩
    · rw [List.getElem?_set_ne (fun z => q z.symm)] at h
      exact .inr ⟨q, h⟩
  have inf : ∀ {a : Addr}, a ∈ (m.fps.set x []).flatten → a ∈ m.fps.flatten := by
    intro a ha
    rcases mem_flat_set ha with z | ⟨j, f, _, e, z⟩
    · simp at z
    · exact mem_fps e z
  refine ⟨⟨?_, ?_, ?_, fun j o sv f h1 h2 h3 => ?_, S.ex, S.exF, S.newF, fun j f h => ?_, fun j k f g a hjk p1 p2 ha hb => ?_, fun a ha => S.df a (inf ha), fun a ha => S.own a (inf ha), S.frame, S.dom, S.pin⟩, ⟨s.exF, s.keep, s.dom, s.newF, fun a ha => s.newO a (inf ha), ?_, fun j hj => ?_⟩⟩
  · show (m.env.set x none).length = _
    rw [List.length_set]; exact S.ln
  · show m.σ.length = (m.env.set x none).length
    rw [List.length_set]; exact S.l1
  · show (m.fps.set x []).length = (m.env.set x none).length
    rw [List.length_set, List.length_set]; exact S.l2
  · have h1 : (m.env.set x none)[j]? = some o := h1
    have h2 : m.σ[j]? = some sv := h2
    rcases sub h3 with ⟨rfl, rfl⟩ | ⟨q, e⟩
    · rw [List.getElem?_set] at h1
      simp at h1
      rw [← h1.2]
      exact rfl
    · rw [List.getElem?_set_ne (fun z => q z.symm)] at h1
      exact S.sl j o sv f h1 h2 e
  · rcases sub h with ⟨_, rfl⟩ | ⟨q, e⟩
    · exact List.nodup_nil
    · exact S.nd j f e
  · rcases sub p1 with ⟨_, rfl⟩ | ⟨q, e⟩
    · simp at ha
    · rcases sub p2 with ⟨_, rfl⟩ | ⟨q2, e2⟩
      · simp at hb
      · exact S.dj j k f g a hjk e e2 ha hb
  · show (m.env.set x none).length = _
    rw [List.length_set]; exact s.len
  · have hj1 : j ∉ T := fun z => hj (by simp [z])
    have hj2 : j ≠ x := fun z => hj (by simp [z])
    obtain ⟨u1, u2, u3, u4⟩ := s.unt j hj1
    show (m.env.set x none)[j]? = _ ∧ (m.fps.set x [])[j]? = _ ∧ _
    rw [List.getElem?_set_ne hj2.symm, List.getElem?_set_ne hj2.symm]
    exact ⟨u1, u2, u3, u4⟩
theorem chg {C : Cn} {T : List Nat} {m0 m : Mo} {fp : Fp} {F' H' : Hp} (s : Step T m0 m) (S : Sta C m) (G : GPost m.F m.H fp F' H') (d : ∀ a ∈ fp, a ∉ m.fps.flatten)
    (n0 : ∀ a ∈ fp, m0.H a = none ∨ a ∈ m0.fps.flatten) (own : ∀ a ∈ fp, C.H0 a = none ∨ a ∈ C.io) : Sta C { m with F := F', H := H' } ∧ Step T m0 { m with F := F', H := H' } := by
  have kp : ∀ a ∈ m.fps.flatten, H' a = m.H a := fun a ha => by
    cases q : m.H a with
    | none => exact absurd q (S.inH a ha)
    | some o => exact G.keep a o q fun z => d a z ha
  refine ⟨⟨S.ln, S.l1, S.l2, fun i o sv f h1 h2 h3 => ?_, G.ex, S.exF.trans G.exF, fun a h n => ?_, S.nd, S.dj, fun a ha => ?_, S.own, fun b o h n => ?_, fun b h => G.dom b (S.dom b h), S.pin⟩,
    ⟨s.exF.trans G.exF, fun b o h n => ?_, fun b h => G.dom b (s.dom b h), fun a h n => ?_, s.newO, s.len, fun i hi => ?_⟩⟩
  · have w := S.sl i o sv f h1 h2 h3
    cases o with
    | none => exact w
    | some o' =>
      obtain ⟨v, e, r⟩ := w
      exact ⟨v, e, r.mono G.exF o' v f (fun a ha => kp a (mem_fps h3 ha))⟩
  · by_cases q : m.F a = none
    · rcases G.newF a h q with z | z
      · exact .inl (S.h0None z)
      · exact own a z
    · exact S.newF a q n
  · exact Classical.byContradiction fun w => (G.newF a w (S.df a ha)).elim (S.inH a ha) fun z => d a z ha
  · refine G.keep b o (S.frame b o h n) fun z => ?_
    rcases own b z with y | y
    · rw [h] at y; cases y
    · exact n y
  · refine G.keep b o (s.keep b o h n) fun z => ?_
    rcases n0 b z with y | y
    · rw [h] at y; cases y
    · exact n y
  · by_cases q : m.F a = none
    · rcases G.newF a h q with z | z
      · exact .inl (Classical.byContradiction fun w => s.dom a w z)
      · exact n0 a z
    · exact s.newF a q n
  · obtain ⟨u1, u2, u3, u4⟩ := s.unt i hi
    exact ⟨u1, u2, u3, fun f hf a ha => (kp a (mem_fps (u2.trans hf) ha)).trans (u4 f hf a ha)⟩

def argO (env : Env) : Rt → Option O
  | .val d => some (.s d)
  | .sl x => (env[x]?).join
  | _ => none
def argsO (env : Env) : List Rt → Option (List O)
  | [] => some []
  | r :: rs => (argO env r).bind fun o => (argsO env rs).map (o :: ·)
def slots : List Rt → List Nat
  | [] => []
  | .sl x :: rs => x :: slots rs
  | _ :: rs => slots rs
def putOuts : Env → List Rt → List O → Env
  | e, .sl x :: rs, o :: os => putOuts (e.set x (some o)) rs os
  | e, _ :: rs, _ :: os => putOuts e rs os
  | e, _, _ => e
theorem set_same {σ : L2.St} {x : Nat} {v : V} (h : σ[x]? = some (some v)) : σ.set x (some v) = σ := by
  obtain ⟨h1, h2⟩ := List.getElem?_eq_some_iff.mp h
  rw [← h2]; exact List.set_getElem_self h1
section
variable {C : Cn} {m : Mo}
theorem args_ok (S : Sta C m) : ∀ {rs : List Rt} {vs : List V} {os : List O}, RtsOk C m rs vs → argsO m.env rs = some os → ∃ fp, RpOs C.K C.cl m.F m.H os vs fp ∧
    (∀ a ∈ fp, ∃ x f, x ∈ slots rs ∧ m.fps[x]? = some f ∧ a ∈ f) ∧ ((slots rs).Nodup → fp.Nodup) ∧ ∀ x ∈ slots rs, x < m.env.length
  | [], vs, os, h, e => by
    cases e; cases h
    exact ⟨[], ⟨rfl, rfl⟩, fun a h => by simp at h, fun _ => List.nodup_nil, fun x h => by simp [slots] at h⟩
  | r :: rs, vs, os, h, e => by
    cases h with
    | cons h1 h2 =>
      rename_i v vs av
      unfold argsO at e
      cases q : argO m.env r with
      | none => rw [q] at e; cases e
      | some o =>
        rw [q] at e
        cases q2 : argsO m.env rs with
        | none => rw [q2] at e; cases e
        | some os' =>
          rw [q2] at e; cases e
          obtain ⟨fp, r1, r2, r3, r4⟩ := args_ok S h2 q2
          cases r with
          | val d =>
            cases q
            exact ⟨fp, ⟨v, vs, [], fp, rfl, rfl, ⟨rfl, h1⟩, r1⟩, r2, r3, r4⟩
          | own o => cases q
          | bor x p o => cases q
          | sl x =>
            have q : (m.env[x]?).join = some o := q
            cases q3 : m.env[x]? with
            | none => rw [q3] at q; cases q
            | some eo =>
              rw [q3] at q
              have q : eo = some o := q
              subst q
              obtain ⟨v', f, s1, s2, s3⟩ := S.slot q3
              have h1' : m.σ[x]? = some (some v) := h1
              rw [h1'] at s1; cases s1
              refine ⟨f ++ fp, ⟨v, vs, f, fp, rfl, rfl, s3, r1⟩, fun a ha => ?_, fun hn => ?_, fun y hy => ?_⟩
              · rcases List.mem_append.mp ha with z | z
                · exact ⟨x, f, by simp [slots], s2, z⟩
                · obtain ⟨y, g, a1, a2, a3⟩ := r2 a z
                  exact ⟨y, g, by simp [slots, a1], a2, a3⟩
              · have hn : (x :: slots rs).Nodup := hn
                rw [List.nodup_cons] at hn
                rw [List.nodup_append]
                refine ⟨S.nd x f s2, r3 hn.2, fun a ha b hb e => ?_⟩
                subst e
                obtain ⟨y, g, a1, a2, a3⟩ := r2 a hb
                exact S.dj x y f g a (fun z => hn.1 (by rw [z]; exact a1)) s2 a2 ha a3
              · have hy : y ∈ x :: slots rs := hy
                rcases List.mem_cons.mp hy with z | z
                · subst z; exact (List.getElem?_eq_some_iff.mp q3).1
                · exact r4 y z
def fgs (m : Mo) : List Nat → Mo
  | [] => m
  | x :: xs => fgs (m.fg x) xs
theorem fgs_ok {m0 : Mo} : ∀ {xs : List Nat} {m : Mo} {T : List Nat}, Step T m0 m → Sta C m → Sta C (fgs m xs) ∧ Step (T ++ xs) m0 (fgs m xs) ∧ (fgs m xs).F = m.F ∧ (fgs m xs).H = m.H ∧ (fgs m xs).σ = m.σ ∧
    (∀ a, a ∈ (fgs m xs).fps.flatten → ∃ j f, j ∉ xs ∧ m.fps[j]? = some f ∧ a ∈ f) ∧ (∀ x ∈ xs, x < m.env.length → (fgs m xs).fps[x]? = some [])
  | [], m, T, s, S => ⟨S, by rw [List.append_nil]; exact s, rfl, rfl, rfl, fun a ha => by
      obtain ⟨f, hf, haf⟩ := List.mem_flatten.mp ha
      obtain ⟨j, e⟩ := List.mem_iff_getElem?.mp hf
      exact ⟨j, f, by simp, e, haf⟩, fun x h => by simp at h⟩
  | x :: xs, m, T, s, S => by
    obtain ⟨S1, s1⟩ := forget s S x
    obtain ⟨S2, s2, e1, e2, e3, k, k2⟩ := fgs_ok (xs := xs) s1 S1
    refine ⟨S2, by rw [List.append_assoc] at s2; exact s2, e1, e2, e3, fun a ha => ?_, fun y hy hl => ?_⟩
    · obtain ⟨j, f, j1, j2, j3⟩ := k a ha
      have j2 : (m.fps.set x [])[j]? = some f := j2
      by_cases q : j = x
      · subst q
        rw [List.getElem?_set] at j2
        simp at j2
        rw [j2.2] at j3; simp at j3
      · rw [List.getElem?_set_ne (fun z => q z.symm)] at j2
        exact ⟨j, f, by simp [q, j1], j2, j3⟩
    · by_cases q : y ∈ xs
      · exact k2 y q (by show y < (m.env.set x none).length; rw [List.length_set]; exact hl)
      · have hyx : y = x := by simpa [q] using hy
        subst hyx
        have z : ∀ {zs : List Nat} {m : Mo}, y ∉ zs → m.fps[y]? = some [] → (fgs m zs).fps[y]? = some [] := by
          intro zs
          induction zs with
          | nil => intro m _ h; exact h
          | cons z zs ih =>
            intro m hn h
            refine ih (fun q => hn (by simp [q])) ?_
            show (m.fps.set z [])[y]? = _
            rw [List.getElem?_set_ne (fun q => hn (by simp [q]))]; exact h
        show (fgs (m.fg y) xs).fps[y]? = _
        refine z q ?_
        show (m.fps.set y [])[y]? = _
        rw [List.getElem?_set_self (by rw [S.l2]; exact hl)]
theorem puts_ok {m0 : Mo} {σ : L2.St} : ∀ {rs : List Rt} {vs : List V} {outs : List O} {fp : Fp} {m : Mo} {T : List Nat}, Step T m0 m → Sta C m → m.σ = σ → RpOs C.K C.cl m.F m.H outs vs fp → (∀ (i : Nat) (r : Rt) (v : V), rs[i]? = some r → vs[i]? = some v → ∀ x, r = .sl x → σ[x]? = some (some v)) →
    fp.Nodup → (∀ a ∈ fp, m.F a = none ∧ a ∉ m.fps.flatten ∧ (m0.H a = none ∨ a ∈ m0.fps.flatten) ∧ (C.H0 a = none ∨ a ∈ C.io)) → (slots rs).Nodup → (∀ x ∈ slots rs, m.fps[x]? = some []) → rs.length = outs.length →
    ∃ m', Sta C m' ∧ Step (T ++ slots rs) m0 m' ∧ m'.F = m.F ∧ m'.H = m.H ∧ m'.σ = σ ∧ m'.env = putOuts m.env rs outs ∧ ∀ a ∈ m'.fps.flatten, a ∈ m.fps.flatten ∨ a ∈ fp
  | [], vs, outs, fp, m, T, s, S, hσ, r, hv, nd, hk, hn, h0, hl => by
    have : outs = [] := List.eq_nil_of_length_eq_zero hl.symm
    subst this
    exact ⟨m, S, by simpa [slots] using s, rfl, rfl, hσ, rfl, fun a ha => .inl ha⟩
  | r0 :: rs, vs, [], fp, m, T, s, S, hσ, r, hv, nd, hk, hn, h0, hl => by simp at hl
  | r0 :: rs, vs, o :: outs, fp, m, T, s, S, hσ, r, hv, nd, hk, hn, h0, hl => by
    obtain ⟨v, vr, f, g, rfl, rfl, r1, r2⟩ := r
    rw [List.nodup_append] at nd
    have skip : slots (r0 :: rs) = slots rs → putOuts m.env (r0 :: rs) (o :: outs) = putOuts m.env rs outs →
        ∃ m', Sta C m' ∧ Step (T ++ slots (r0 :: rs)) m0 m' ∧ m'.F = m.F ∧ m'.H = m.H ∧ m'.σ = σ ∧ m'.env = putOuts m.env (r0 :: rs) (o :: outs) ∧ ∀ a ∈ m'.fps.flatten, a ∈ m.fps.flatten ∨ a ∈ f ++ g := fun e1 e2 => by
      obtain ⟨m', p1, p2, p3, p4, p5, p6, p7⟩ := puts_ok (rs := rs) s S hσ r2 (fun i r v a b => hv (i + 1) r v (by simpa using a) (by simpa using b)) nd.2.1 (fun a ha => hk a (by simp [ha])) (by rw [e1] at hn; exact hn) (by rw [e1] at h0; exact h0) (by simpa using hl)
      exact ⟨m', p1, by rw [e1]; exact p2, p3, p4, p5, by rw [e2]; exact p6, fun a ha => (p7 a ha).imp id fun z => by simp [z]⟩
    cases r0 with
    | val d => exact skip rfl rfl
    | own d => exact skip rfl rfl
    | bor x p d => exact skip rfl rfl
    | sl x =>
      have hn : (x :: slots rs).Nodup := hn
      rw [List.nodup_cons] at hn
      have hx : m.fps[x]? = some [] := h0 x (by simp [slots])
      have hvx : m.σ[x]? = some (some v) := by rw [hσ]; exact hv 0 (.sl x) v (by simp) (by simp) x rfl
      obtain ⟨S1, s1⟩ := put (o' := o) (v' := v) (fp' := f) s S hx (Ex.refl _) S.ex (fun _ _ h _ => h) (fun _ h => h) (fun a h n => absurd n h) r1 nd.1 (fun a ha => (hk a (by simp [ha])).1)
        (fun a ha => .inr (.inr ⟨fun j f' e z => (hk a (by simp [ha])).2.1 (mem_fps e z), (hk a (by simp [ha])).2.2.1, (hk a (by simp [ha])).2.2.2⟩)) (fun _ => hvx)
      have hk2 : ∀ a ∈ g, (m.put m.F m.H x o v f).F a = none ∧ a ∉ (m.put m.F m.H x o v f).fps.flatten ∧ (m0.H a = none ∨ a ∈ m0.fps.flatten) ∧ (C.H0 a = none ∨ a ∈ C.io) := fun a ha => by
        obtain ⟨k1, k2, k3, k4⟩ := hk a (by simp [ha])
        refine ⟨k1, fun z => ?_, k3, k4⟩
        rcases mem_flat_set z with y | ⟨j, f', _, e, y⟩
        · exact nd.2.2 a y a ha rfl
        · exact k2 (mem_fps e y)
      obtain ⟨m', p1, p2, p3, p4, p5, p6, p7⟩ := puts_ok (rs := rs) s1 S1 (by show m.σ.set x _ = _; rw [set_same hvx]; exact hσ) r2 (fun i r v a b => hv (i + 1) r v (by simpa using a) (by simpa using b)) nd.2.1 hk2 hn.2
        (fun y hy => by show (m.fps.set x f)[y]? = _; rw [List.getElem?_set_ne (fun q => hn.1 (by rw [q]; exact hy))]; exact h0 y (by simp [slots, hy])) (by simpa using hl)
      refine ⟨m', p1, by simpa [slots] using p2, p3, p4, p5, p6, fun a ha => ?_⟩
      rcases p7 a ha with z | z
      · rcases mem_flat_set z with y | ⟨j, f', _, e, y⟩
        · exact .inr (by simp [y])
        · exact .inl (mem_fps e y)
      · exact .inr (by simp [z])
theorem RtsOk.sls : ∀ {rs : List Rt} {vs : List V}, RtsOk C m rs vs → ∀ (i : Nat) (r : Rt) (v : V), rs[i]? = some r → vs[i]? = some v → ∀ x, r = .sl x → m.σ[x]? = some (some v)
  | [], vs, h, i, r, v, h1, h2, x, e => by simp at h1
  | r0 :: rs, vs, h, i, r, v, h1, h2, x, e => by
    cases h with
    | cons a b =>
      cases i with
      | zero => simp at h1 h2; subst h1 h2 e; exact a
      | succ i => exact RtsOk.sls b i r v (by simpa using h1) (by simpa using h2) x e
end
theorem call_ok {C : Cn} {T Sl : List Nat} {m0 m : Mo} {rs : List Rt} {vs : List V} {os outs : List O} {fp fr fp' : Fp} {F' H' : Hp} (s : Step T m0 m) (S : Sta C m) (ok : RtsOk C m rs vs)
    (hfp : ∀ a ∈ fp, ∃ x f, x ∈ slots rs ∧ m.fps[x]? = some f ∧ a ∈ f) (hsl : ∀ x ∈ slots rs, x < m.env.length) (hn : (slots rs).Nodup) (hS : ∀ x ∈ slots rs, x ∈ Sl) (G : GPost m.F m.H fp F' H') (Go : GOuts C.K C.cl m.H fp F' H' vs outs fr fp')
    (hl : rs.length = outs.length) : ∃ m', Sta C m' ∧ Step (T ++ Sl) m0 m' ∧ m'.F = F' ∧ m'.H = H' ∧ m'.σ = m.σ ∧ m'.env = putOuts m.env rs outs ∧ ∀ a ∈ fr, a ∉ m'.fps.flatten ∧ (m0.H a = none ∨ a ∈ m0.fps.flatten) ∧ (C.H0 a = none ∨ a ∈ C.io) := by
  obtain ⟨S1, s1, e1, e2, e3, k, k2⟩ := fgs_ok (xs := slots rs) s S
  have fpm : ∀ a ∈ fp, m0.H a = none ∨ a ∈ m0.fps.flatten := fun a ha => by
    obtain ⟨x, f, _, a2, a3⟩ := hfp a ha
    exact s.newO a (mem_fps a2 a3)
  have fpo : ∀ a ∈ fp, C.H0 a = none ∨ a ∈ C.io := fun a ha => by
    obtain ⟨x, f, _, a2, a3⟩ := hfp a ha
    exact S.own a (mem_fps a2 a3)
  obtain ⟨S2, s2⟩ := chg (fp := fp) (F' := F') (H' := H') s1 S1 (by rw [e1, e2]; exact G) (fun a ha z => by
    obtain ⟨x, f, a1, a2, a3⟩ := hfp a ha
    obtain ⟨j, g, j1, j2, j3⟩ := k a z
    exact S.dj x j f g a (fun q => j1 (by rw [← q]; exact a1)) a2 j2 a3 j3) fpm fpo
  have nw : ∀ a ∈ fr ++ fp', a ∉ (fgs m (slots rs)).fps.flatten ∧ (m0.H a = none ∨ a ∈ m0.fps.flatten) ∧ (C.H0 a = none ∨ a ∈ C.io) := fun a ha => by
    refine ⟨fun z => ?_, ?_, ?_⟩
    · obtain ⟨j, g, j1, j2, j3⟩ := k a z
      rcases Go.newO a ha with y | y
      · exact S.inH a (mem_fps j2 j3) y
      · obtain ⟨x, f, a1, a2, a3⟩ := hfp a y
        exact S.dj x j f g a (fun q => j1 (by rw [← q]; exact a1)) a2 j2 a3 j3
    · rcases Go.newO a ha with y | y
      · exact .inl (Classical.byContradiction fun w => s.dom a w y)
      · exact fpm a y
    · rcases Go.newO a ha with y | y
      · exact .inl (S.h0None y)
      · exact fpo a y
  have nd := Go.nd
  rw [List.nodup_append] at nd
  obtain ⟨m', p1, p2, p3, p4, p5, p6, p7⟩ := puts_ok (rs := rs) (vs := vs) (outs := outs) (fp := fp') (σ := m.σ) s2 S2 e3 Go.rp ok.sls nd.2.1 (fun a ha => ⟨Go.fF a (by simp [ha]), nw a (by simp [ha])⟩) hn (fun x hx => k2 x hx (hsl x hx)) hl
  have envq : ∀ {xs : List Nat} {m : Mo} {rs : List Rt} {outs : List O}, (∀ x ∈ xs, x ∈ slots rs) → rs.length = outs.length → (slots rs).Nodup → putOuts (fgs m xs).env rs outs = putOuts m.env rs outs := by
    intro xs
    induction xs with
    | nil => intro m rs outs _ _ _; rfl
    | cons x xs ih =>
      intro m rs outs h1 h2 h3
      show putOuts (fgs (m.fg x) xs).env rs outs = _
      rw [ih (fun y hy => h1 y (by simp [hy])) h2 h3]
      have z : ∀ {rs : List Rt} {outs : List O} {e : Env} {y : Option O}, x ∈ slots rs → rs.length = outs.length → putOuts (e.set x y) rs outs = putOuts e rs outs := by
        intro rs
        induction rs with
        | nil => intro outs e y h; simp [slots] at h
        | cons r rs ih2 =>
          intro outs e y h hl
          cases outs with
          | nil => simp at hl
          | cons o outs =>
            cases r with
            | sl x' =>
              show putOuts ((e.set x y).set x' (some o)) rs outs = putOuts (e.set x' (some o)) rs outs
              by_cases q : x = x'
              · subst q; rw [List.set_set]
              · rw [List.set_comm _ _ q]
                have h : x ∈ x' :: slots rs := h
                exact ih2 ((List.mem_cons.mp h).resolve_left q) (by simpa using hl)
            | val d => exact ih2 h (by simpa using hl)
            | own d => exact ih2 h (by simpa using hl)
            | bor a b d => exact ih2 h (by simpa using hl)
      exact z (h1 x (by simp)) h2
  refine ⟨m', p1, p2.wk (fun i hi => ?_), p3, p4, p5, ?_, fun a ha => ⟨fun z => ?_, (nw a (by simp [ha])).2⟩⟩
  · simp only [List.mem_append] at hi ⊢
    rcases hi with (z | z) | z
    · exact .inl z
    · exact .inr (hS i z)
    · exact .inr (hS i z)
  · rw [p6]
    exact envq (fun x hx => hx) hl hn
  · rcases p7 a z with y | y
    · exact (nw a (by simp [ha])).1 y
    · exact nd.2.2 a ha a y rfl

def O.rr : O → Rt
  | .s d => .val d
  | o => .own o
def mCall (Sl : List Nat) (n : Nat) (fn : List O → Rr) (fs : MA) : ME := fun env => (fs env).bind fun rs e =>
  match argsO e rs with
  | some os => if rs.length = n ∧ (slots rs).Nodup ∧ (∀ x ∈ slots rs, x ∈ Sl) then
      (match fn os with
      | .ok r outs => if outs.length = n then .ok r.rr (putOuts e rs outs) else .bad
      | .exc c ds outs => if outs.length = n then .exc c ds (putOuts e rs outs) else .bad
      | .bad => .bad) else .bad
  | none => .bad
theorem argsO_len {e : Env} : ∀ {rs : List Rt} {os : List O}, argsO e rs = some os → os.length = rs.length
  | [], os, h => by cases h; rfl
  | r :: rs, os, h => by
    unfold argsO at h
    cases q : argO e r with
    | none => rw [q] at h; cases h
    | some o =>
      rw [q] at h
      cases q2 : argsO e rs with
      | none => rw [q2] at h; cases h
      | some os' => rw [q2] at h; cases h; simp [argsO_len q2]
section
variable {X : Cx} {C : Cn} {E : XK} {e a b : Expr} {pos : Pos} {T T1 T2 T3 Sl : List Nat} {fs : MA} {es : List Expr} {f f1 f2 : ME} {n : Nat} {fn : List O → Rr}
theorem call_core {σ : L2.St} {Q : VK} {m m' : Mo} {rs : List Rt} {vs : List V} (s : Step T m m') (S' : Sta C m') (ok : RtsOk C m' rs vs) (e4 : m'.σ = σ)
    (w : Want C E m (match argsO m'.env rs with
      | some os => if rs.length = n ∧ (slots rs).Nodup ∧ (∀ x ∈ slots rs, x ∈ Sl) then
          (match fn os with
          | .ok r outs => if outs.length = n then Rs.ok r.rr (putOuts m'.env rs outs) else .bad
          | .exc c ds outs => if outs.length = n then .exc c ds (putOuts m'.env rs outs) else .bad
          | .bad => .bad) else .bad
      | none => .bad) fun r env' => ∀ v m', m'.env = env' → m'.σ = σ → Sta C m' → Step (T ++ Sl) m m' → RtOk C m' (Old m) r v → Q v m'.H) : spG C.K C.cl n fn vs m'.H Q E := by
  cases ho : argsO m'.env rs with
  | none => rw [ho] at w; exact w.elim
  | some os =>
    rw [ho] at w
    dsimp only at w
    by_cases hc : rs.length = n ∧ (slots rs).Nodup ∧ (∀ x ∈ slots rs, x ∈ Sl)
    · rw [if_pos hc] at w
      obtain ⟨c1, c2, c3⟩ := hc
      obtain ⟨fp, r1, r2, r3, r4⟩ := args_ok S' ok ho
      refine ⟨m'.F, os, fp, (argsO_len ho).trans c1, S'.ex, r1, r3 c2, fun a ha => ?_, ?_⟩
      · obtain ⟨x, f, _, a2, a3⟩ := r2 a ha
        exact S'.df a (mem_fps a2 a3)
      · cases hf : fn os with
        | bad => rw [hf] at w; exact w.elim
        | ok r outs =>
          rw [hf] at w
          dsimp only at w ⊢
          by_cases hl : outs.length = n
          · rw [if_pos hl] at w
            intro v F' H' fr fp' G rr Go
            obtain ⟨m2, S2, s2, q1, q2, q3, q4, q5⟩ := call_ok (os := os) s S' ok r2 r4 c2 c3 G Go (by rw [c1, hl])
            have q := w v m2 q4 (q3.trans e4) S2 s2
            subst q1 q2
            refine q ?_
            have own : RtOk C m2 (Old m) (.own r) v := by
              have nd := Go.nd
              rw [List.nodup_append] at nd
              refine ⟨fr, rr, nd.1, fun a ha => ⟨Go.fF a (by simp [ha]), (q5 a ha).1, (q5 a ha).2.2, fun z => ?_⟩⟩
              rcases (q5 a ha).2.1 with y | y
              · exact z.1 y
              · exact z.2 y
            cases r with
            | s d => exact rr.2
            | lst _ => exact own
            | dk _ _ => exact own
            | dt _ _ => exact own
            | ins _ _ _ => exact own
          · rw [if_neg hl] at w; exact w.elim
        | exc c ds outs =>
          rw [hf] at w
          dsimp only at w ⊢
          by_cases hl : outs.length = n
          · rw [if_pos hl] at w
            intro F' H' dd fp' G Go h1 h2
            obtain ⟨m2, S2, s2, q1, q2, q3, q4, q5⟩ := call_ok (os := os) s S' ok r2 r4 c2 c3 G Go (by rw [c1, hl])
            subst q1 q2
            exact w m2 q4 S2 _ s2 dd h1 h2
          · rw [if_neg hl] at w; exact w.elim
    · rw [if_neg hc] at w; exact w.elim
theorem rdCall {σ : L2.St} {H : Hp} {Q : VK} (h : rdE C E (T ++ Sl) (mCall Sl n fn fs) σ H Q) : rdA C E T fs σ H fun vs H1 => spG C.K C.cl n fn vs H1 Q E := by
  obtain ⟨m, e1, e2, S, w⟩ := h
  refine ⟨m, e1, e2, S, Want.imp w.bind fun rs env w => fun vs m' e3 e4 S' s ok => ?_⟩
  subst e3
  exact call_core s S' ok e4 w
theorem passN {X : Cx} {E : XK} : Passes CX0 X E := fun _ _ _ _ _ _ _ h => h.elim
theorem e_call {CX : CXT} {k : Nat} {fa : Addr} {fd : FuncData} {ps : List Str} {x : Str} {p : Pos} (Sl : List Nat) (hK : X.K = C.K) (F : FnOk X.prog X.w X.K X.mg X.base CX k fa fd ps (spG C.K C.cl n fn)) (hr : Room k X.A) (hg : Gl X x) (hm : X.mg x = some (.ref fa)) (hk : PySem.W.keepIn X.K (.ref fa) = true)
    (hb : Binds X.K fd ps []) (hx : Passes CX X E) (ha : PA X (e :: es) (rdA C E T fs)) (hst : starEach (e :: es) X.env = (false, eval e X.env) :: starEach es X.env := by rfl) (hpl : ((backTo pos (starEach es X.env)).any fun x => x.1) = false := by rfl)
    (hdb : (x == ("__debug__" : Str)) = false := by decide) (hsw : True := trivial) : PE X (.Call (.Name x p) (e :: es) [] pos) (rdE C E (T ++ Sl) (mCall Sl n fn fs)) :=
  PE.wk (pe_call (dvs := []) F hr hg hm hk hb .nil hx ha hdb hst hpl) fun σ H Q h => by
    show rdA C E T fs σ H fun vs H1 => spG C.K C.cl n fn (vs ++ []) H1 Q E
    simp only [List.append_nil]
    exact rdCall h
end
end L3
namespace L3
open PySem L2

structure Src where
  items : List D
  dep : Option Nat
abbrev MI := Env → Rs Src
def JOk (C : Cn) (src : Src) (m : Mo) (J : It) : Prop := ∀ (m2 : Mo) (T : List Nat), Sta C m2 → Step T m m2 → m2.σ.length = m2.σ.length → (∀ x, src.dep = some x → x ∉ T) → ∀ i : Nat,
  (∀ d, src.items[i]? = some d → J.go i m2.H ∧ ∀ x H', J.yld i m2.H x H' → ∃ m3, m3.H = H' ∧ Gro m2 m3 ∧ RpD C.K C.cl m3.F d x) ∧ (src.items.length = i → J.stop i m2.H)
def rdI (C : Cn) (E : XK) (T : List Nat) (f : MI) : TI := fun σ H R => ∃ m : Mo, m.H = H ∧ m.σ = σ ∧ Sta C m ∧
  Want C E m (f m.env) fun src env' => ∀ J m', m'.env = env' → m'.σ = σ → Sta C m' → Step T m m' → JOk C src m' J → R J m'.H
theorem PI.wk {X : Cx} {tg e : Expr} {t t' : TI} (h : PI X tg e t) (w : ∀ σ H R, t' σ H R → t σ H R) : PI X tg e t' := ⟨fun pins s σ H R I q => h.run pins s σ H R I (w σ H R q)⟩

section
variable {X : Cx} {C : Cn} {E : XK} {e a b tg : Expr} {pos : Pos} {T T1 T2 T3 : List Nat} {fs : MA} {es : List Expr} {f f1 f2 : ME} {g : MS} {t : MT}
def srcOf (tup : Bool) : Rt → Option Src
  | .val (.tup ds) => if tup = true then some ⟨ds, none⟩ else none
  | .val (.lst ds) => if tup = true then none else some ⟨ds, none⟩
  | .bor x _ (.lst os) => if tup = true then none else (leaves os).map fun ds => ⟨ds, some x⟩
  | _ => none
def iSeq (tup : Bool) (f : ME) : MI := fun env => (f env).bind fun r e => ofO (srcOf tup r) e
theorem get_none {α : Type} {xs : List α} {i : Nat} (h : xs.length ≤ i) : xs[i]? = none := List.getElem?_eq_none h
theorem seq_items {m : Mo} {r : Rt} {src : Src} {tup : Bool} {v : V} {av : Addr → Prop} (S : Sta C m) (ok : RtOk C m av r v) (h : srcOf tup r = some src) :
    ∃ a, v = .ref a ∧ ∃ xs, (∀ (m2 : Mo) (T : List Nat), Sta C m2 → Step T m m2 → (∀ x, src.dep = some x → x ∉ T) → (if tup = true then SqT C.K m2.H a xs else SqL C.K m2.H a xs) ∧ RpDs C.K C.cl m2.F src.items xs) := by
  unfold srcOf at h
  split at h
  · split at h
    · cases h
      rename_i ht
      obtain ⟨a, xs, rfl, q, rr⟩ := ok
      exact ⟨a, rfl, xs, fun m2 T S2 s2 _ => ⟨by rw [if_pos ht]; exact S2.ex.sqT (s2.exF.sqT q), rr.mono s2.exF _ _⟩⟩
    · cases h
  · split at h
    · cases h
    · cases h
      rename_i ht
      obtain ⟨a, xs, rfl, q, rr⟩ := ok
      exact ⟨a, rfl, xs, fun m2 T S2 s2 _ => ⟨by rw [if_neg ht]; exact S2.ex.sqL (s2.exF.sqL q), rr.mono s2.exF _ _⟩⟩
  · rename_i x p os
    split at h
    · cases h
    · rename_i ht
      cases q : leaves os with
      | none => rw [q] at h; cases h
      | some ds =>
        rw [q] at h
        cases h
        obtain rfl := leaves_some q
        obtain ⟨d0, v0, e1, e2, e3⟩ := ok
        obtain ⟨v1, f0, s1, s2, s3⟩ := S.slot e1
        rw [e2] at s1; cases s1
        obtain ⟨g, rr, gs⟩ := At.rp s3 e3
        obtain ⟨a, xs, fl, rfl, rfl, q1, q2⟩ := rr
        refine ⟨a, rfl, xs, fun m2 T S2 st hd => ?_⟩
        have hx := hd x rfl
        obtain ⟨_, _, _, u4⟩ := st.unt x hx
        refine ⟨?_, (RpOs.leaves q2).2.mono st.exF _ _⟩
        rw [if_neg ht]
        exact .inl (.inl ((u4 f0 s2 a (gs a (by simp))).trans q1))
  · cases h
theorem j_list {m : Mo} {a : Addr} {src : Src} (h : ∃ xs, ∀ (m2 : Mo) (T : List Nat), Sta C m2 → Step T m m2 → (∀ x, src.dep = some x → x ∉ T) → SqL C.K m2.H a xs ∧ RpDs C.K C.cl m2.F src.items xs) (hi : ∀ H ys zs, SqL C.K H a ys → SqL C.K H a zs → True) : JOk C src m (Itl C.K a) := by
  obtain ⟨xs, h⟩ := h
  intro m2 T S2 s2 _ hd i
  obtain ⟨q, r⟩ := h m2 T S2 s2 hd
  refine ⟨fun d hd => ?_, fun hl => ⟨xs, q, by rw [r.length]; exact Nat.le_of_eq hl⟩⟩
  obtain ⟨v, e, rv⟩ := r.get hd
  refine ⟨⟨xs, v, q, e⟩, fun x H' ⟨e1, e2⟩ => ⟨m2, e1.symm, Gro.refl S2, ?_⟩⟩
  have := e2 xs q
  rw [e] at this; cases this
  exact rv
theorem j_tup {m : Mo} {a : Addr} {src : Src} (h : ∃ xs, ∀ (m2 : Mo) (T : List Nat), Sta C m2 → Step T m m2 → (∀ x, src.dep = some x → x ∉ T) → SqT C.K m2.H a xs ∧ RpDs C.K C.cl m2.F src.items xs) : JOk C src m (Itt C.K a) := by
  obtain ⟨xs, h⟩ := h
  intro m2 T S2 s2 _ hd i
  obtain ⟨q, r⟩ := h m2 T S2 s2 hd
  refine ⟨fun d hd => ?_, fun hl => ⟨xs, q, by rw [r.length]; exact Nat.le_of_eq hl⟩⟩
  obtain ⟨v, e, rv⟩ := r.get hd
  refine ⟨⟨xs, v, q, e⟩, fun x H' ⟨e1, e2⟩ => ⟨m2, e1.symm, Gro.refl S2, ?_⟩⟩
  have := e2 xs q
  rw [e] at this; cases this
  exact rv
theorem i_list (hK : X.K = C.K) (h : PE X e (rdE C E T f)) : PI X tg e (rdI C E T (iSeq false f)) := PI.wk (pi_list h) fun σ H R ⟨m, e1, e2, S, w⟩ => ⟨m, e1, e2, S, Want.imp w.bind fun r env w => fun v m' e3 e4 S' s ok => by
  cases hs : srcOf false r with
  | none => rw [hs] at w; exact w.elim
  | some src =>
    rw [hs] at w
    obtain ⟨a, rfl, xs, k⟩ := seq_items S' ok hs
    rw [hK]
    refine ⟨a, rfl, ⟨xs, ?_⟩, w _ m' e3 e4 S' s (j_list ⟨xs, fun m2 T S2 s2 hd => ?_⟩ fun _ _ _ _ _ => trivial)⟩
    · have := (k m' [] S' (Step.refl _ _) (fun _ _ => by simp)).1
      rw [if_neg (by decide)] at this; exact this
    · have := k m2 T S2 s2 hd
      rw [if_neg (by decide)] at this; exact this⟩
theorem i_tup (hK : X.K = C.K) (h : PE X e (rdE C E T f)) : PI X tg e (rdI C E T (iSeq true f)) := PI.wk (pi_tup h) fun σ H R ⟨m, e1, e2, S, w⟩ => ⟨m, e1, e2, S, Want.imp w.bind fun r env w => fun v m' e3 e4 S' s ok => by
  cases hs : srcOf true r with
  | none => rw [hs] at w; exact w.elim
  | some src =>
    rw [hs] at w
    obtain ⟨a, rfl, xs, k⟩ := seq_items S' ok hs
    rw [hK]
    refine ⟨a, rfl, ⟨xs, ?_⟩, w _ m' e3 e4 S' s (j_tup ⟨xs, fun m2 T S2 s2 hd => ?_⟩)⟩
    · have := (k m' [] S' (Step.refl _ _) (fun _ _ => by simp)).1
      rw [if_pos rfl] at this; exact this
    · have := k m2 T S2 s2 hd
      rw [if_pos rfl] at this; exact this⟩
def rngD (lo : Int) (n : Nat) : List D := (List.range n).map fun (i : Nat) => D.int (lo + (i : Int))
theorem j_rng {m : Mo} {lo : Int} {n : Nat} : JOk C ⟨rngD lo n, none⟩ m (Itr lo n) := by
  intro m2 T S2 s2 _ hd i
  refine ⟨fun d h => ?_, fun hl => ?_⟩
  · have hi : i < n := by
      have := (List.getElem?_eq_some_iff.mp h).1
      simpa [rngD] using this
    have e : d = .int (lo + i) := by
      have h : (rngD lo n)[i]? = some d := h
      rw [rngD, List.getElem?_map, List.getElem?_range hi] at h
      exact (Option.some.inj h).symm
    subst e
    exact ⟨hi, fun x H' ⟨e1, e2⟩ => ⟨m2, e1.symm, Gro.refl S2, e2⟩⟩
  · have h2 : (rngD lo n).length ≤ i := Nat.le_of_eq hl
    show n ≤ i
    simpa [rngD] using h2
def iRg1 (fs : MA) : MI := fun env => (fs env).bind fun rs e => match rs with
  | [.val (.int j)] => if -(2 ^ 62) ≤ j ∧ j < 2 ^ 62 then .ok ⟨rngD 0 j.toNat, none⟩ e else .bad
  | _ => .bad
def iRg2 (fs : MA) : MI := fun env => (fs env).bind fun rs e => match rs with
  | [.val (.int i), .val (.int j)] => if -(2 ^ 62) ≤ i ∧ i < 2 ^ 62 ∧ -(2 ^ 62) ≤ j ∧ j < 2 ^ 62 then .ok ⟨rngD i (j - i).toNat, none⟩ e else .bad
  | _ => .bad
theorem i_rg1 (h : PI X tg e (iRng1 (rdA C E T fs))) : PI X tg e (rdI C E T (iRg1 fs)) :=
  PI.wk h fun σ H R ⟨m, e1, e2, S, w⟩ => ⟨m, e1, e2, S, Want.imp w.bind fun rs env w => fun vs m' e3 e4 S' s ok => by
    split at w
    · rename_i j
      obtain ⟨x, av, rfl, hx⟩ := ok.one
      split at w
      · rename_i z
        have hx : x = .int j := hx
        subst hx
        exact ⟨j, rfl, z.1, z.2, w _ m' e3 e4 S' s j_rng⟩
      · exact w.elim
    · exact w.elim⟩
theorem i_rg2 (h : PI X tg e (iRng2 (rdA C E T fs))) : PI X tg e (rdI C E T (iRg2 fs)) :=
  PI.wk h fun σ H R ⟨m, e1, e2, S, w⟩ => ⟨m, e1, e2, S, Want.imp w.bind fun rs env w => fun vs m' e3 e4 S' s ok => by
    split at w
    · rename_i i j
      obtain ⟨x, y, av, av', rfl, hx, hy⟩ := ok.two
      split at w
      · rename_i z
        have hx : x = .int i := hx
        have hy : y = .int j := hy
        subst hx hy
        exact ⟨i, j, rfl, z, w _ m' e3 e4 S' s j_rng⟩
      · exact w.elim
    · exact w.elim⟩
def setT (is : List Nat) (d : D) (env : Env) : Option Env := match is with
  | [i] => some (env.set i (some (.s d)))
  | _ => none
def setTs : List Nat → List D → Env → Option Env
  | [], [], env => some env
  | i :: is, d :: ds, env => setTs is ds (env.set i (some (.s d)))
  | _, _, _ => none
def setTup (is : List Nat) (d : D) (env : Env) : Option Env := match d with
  | .tup ds => setTs is ds env
  | _ => none
def TgOk (C : Cn) (g : TG) (Tt : List Nat) (set : D → Env → Option Env) : Prop := ∀ (m : Mo) (d : D) (x : V) (env' : Env) (Q : L2.St → Hp → Prop), Sta C m → RpD C.K C.cl m.F d x → set d m.env = some env' →
  (∀ m', m'.env = env' → m'.H = m.H → Sta C m' → (∀ (T : List Nat) (m0 : Mo), Step T m0 m → Step (T ++ Tt) m0 m') → Q m'.σ m'.H) → g x m.σ m.H Q
theorem put_val {m : Mo} {i : Nat} {d : D} {v : V} (S : Sta C m) (ok : RpD C.K C.cl m.F d v) (hi : i < C.n) (hIO : i ∉ C.IO) :
    Sta C (m.put m.F m.H i (.s d) v []) ∧ ∀ (T : List Nat) (m0 : Mo), Step T m0 m → Step (T ++ [i]) m0 (m.put m.F m.H i (.s d) v []) := by
  have hi' : i < m.fps.length := by rw [S.l2, S.ln]; exact hi
  have hf := List.getElem?_eq_getElem hi'
  have p := fun (T : List Nat) (m0 : Mo) (s : Step T m0 m) => put (o' := .s d) (v' := v) (fp' := []) s S hf (Ex.refl _) S.ex (fun _ _ h _ => h) (fun _ h => h) (fun a h n => absurd n h) ⟨rfl, ok⟩ List.nodup_nil (fun a h => by simp at h) (fun a h => by simp at h) fun z => absurd z hIO
  exact ⟨(p [] m (Step.refl _ _)).1, fun T m0 s => (p T m0 s).2⟩
theorem tg_name {i : Nat} (hi : i < C.n) (hIO : i ∉ C.IO) : TgOk C (gName i) [i] (setT [i]) := by
  intro m d x env' Q S ok h k
  have h : some (m.env.set i (some (.s d))) = some env' := h
  cases h
  obtain ⟨S2, s2⟩ := put_val (i := i) S ok hi hIO
  exact k (m.put m.F m.H i (.s d) x []) rfl rfl S2 s2
theorem tg_names : ∀ {is : List Nat} {gs : TGs}, gs = is.foldr (fun i gs => gCons (gName i) gs) gNil → (∀ i ∈ is, i < C.n ∧ i ∉ C.IO) → ∀ (m : Mo) (ds : List D) (xs : List V) (env' : Env) (Q : L2.St → Hp → Prop), Sta C m → RpDs C.K C.cl m.F ds xs → setTs is ds m.env = some env' →
    (∀ m', m'.env = env' → m'.H = m.H → Sta C m' → (∀ (T : List Nat) (m0 : Mo), Step T m0 m → Step (T ++ is) m0 m') → Q m'.σ m'.H) → gs xs m.σ m.H Q
  | [], gs, hg, hi, m, ds, xs, env', Q, S, r, h, k => by
    subst hg
    cases ds with
    | nil =>
      have h : some m.env = some env' := h
      cases h
      exact ⟨r, k m rfl rfl S fun T m0 s => by rw [List.append_nil]; exact s⟩
    | cons d ds => cases h
  | i :: is, gs, hg, hi, m, ds, xs, env', Q, S, r, h, k => by
    subst hg
    cases ds with
    | nil => cases h
    | cons d ds =>
      obtain ⟨v, vr, rfl, r1, r2⟩ := r
      have h : setTs is ds (m.env.set i (some (.s d))) = some env' := h
      obtain ⟨S2, s2⟩ := put_val (i := i) S r1 (hi i (by simp)).1 (hi i (by simp)).2
      refine ⟨v, vr, rfl, tg_names (is := is) rfl (fun j hj => hi j (by simp [hj])) _ ds vr env' Q S2 r2 h fun m' a1 a2 a3 a4 => k m' a1 a2 a3 fun T m0 s => ?_⟩
      have := a4 _ m0 (s2 T m0 s)
      simpa using this
theorem tg_tup {is : List Nat} {n : Nat} (hn : n = is.length) (hi : ∀ i ∈ is, i < C.n ∧ i ∉ C.IO) : TgOk C (L2.gTup C.K n (is.foldr (fun i gs => gCons (gName i) gs) gNil)) is (setTup is) := by
  intro m d x env' Q S ok h k
  unfold setTup at h
  split at h
  · rename_i ds
    obtain ⟨a, xs, rfl, q, r⟩ := ok
    have len : ∀ (is : List Nat) (ds : List D) (e : Env), setTs is ds e = some env' → ds.length = is.length := by
      intro is
      induction is with
      | nil => intro ds e h; cases ds with
        | nil => rfl
        | cons d ds => cases h
      | cons i is ih => intro ds e h; cases ds with
        | nil => cases h
        | cons d ds => simp [ih ds _ h]
    exact ⟨a, xs, rfl, S.ex.sqT q, by rw [r.length, len is ds _ h, hn], tg_names rfl hi m ds xs env' Q S r h k⟩
  · cases h
def msAsgT (set : D → Env → Option Env) (f : ME) : MS := fun env => (f env).bind fun r e => match r with
  | .val d => ofO ((set d e).map fun _ => Fl.nx) ((set d e).getD e)
  | _ => .bad
theorem s_asgT {set : D → Env → Option Env} {tg' : Expr} {gt : TG} {Tt : List Nat} (hg : TgOk C gt Tt set) (h : PS X (.Assign [tg'] e pos) (tAsg (rdE C E T f) gt)) : PS X (.Assign [tg'] e pos) (rdS C E (T ++ Tt) (msAsgT set f)) :=
  PS.wk h fun D σ H ⟨m, e1, e2, S, w⟩ => ⟨m, e1, e2, S, Want.imp w.bind fun r env w => fun v m' e3 e4 S' s ok => by
    cases r with
    | val d =>
      dsimp only at w
      cases hs : set d env with
      | none => rw [hs] at w; exact w.elim
      | some env' =>
        rw [hs] at w
        rw [← e4]
        exact hg m' d v env' D.nx S' ok (by rw [e3]; exact hs) fun m2 a1 a2 a3 a4 => w m2 a1 a3 (a4 _ _ s)
    | own o => exact w.elim
    | sl x => exact w.elim
    | bor x p o => exact w.elim⟩
def forL (set : D → Env → Option Env) (g : MS) : List D → Env → Rs Fl
  | [], e => .ok .nx e
  | d :: ds, e => match set d e with
    | none => .bad
    | some e1 => (g e1).bind fun fl e2 => match fl with
      | .brk => .ok .nx e2
      | .ret r => .ok (.ret r) e2
      | _ => forL set g ds e2
def Src.hot (s : Src) (T : List Nat) : Bool := match s.dep with
  | some x => T.contains x
  | none => false
def msFor (Tb : List Nat) (set : D → Env → Option Env) (fi : MI) (g : MS) : MS := fun env => (fi env).bind fun src e => if src.hot Tb then .bad else forL set g src.items e
theorem for_rd {set : D → Env → Option Env} {gt : TG} {Tt : List Nat} {fi : MI} {D : Ends} {σ : L2.St} {H : Hp} (hg : TgOk C gt Tt set) (h : rdS C E (T1 ++ (Tt ++ T2)) (msFor (Tt ++ T2) set fi g) D σ H) :
    tFor (rdI C E T1 fi) gt (rdS C E T2 g) D σ H := by
  obtain ⟨m, e1, e2, S, w⟩ := h
  refine ⟨m, e1, e2, S, Want.imp w.bind fun src env w => fun J m' e3 e4 S' s jok => ?_⟩
  by_cases hh : src.hot (Tt ++ T2) = true
  · rw [if_pos hh] at w; exact w.elim
  rw [if_neg hh] at w
  have hdep : ∀ x, src.dep = some x → x ∉ Tt ++ T2 := fun x hx => by
    intro z
    apply hh
    unfold Src.hot
    rw [hx]
    simpa using z
  subst e3
  refine ⟨fun i n σ' H' => n = src.items.length - i ∧ i ≤ src.items.length ∧ ∃ m2 : Mo, m2.H = H' ∧ m2.σ = σ' ∧ Sta C m2 ∧ Step (Tt ++ T2) m' m2 ∧
    Want C E m2 (forL set g (src.items.drop i) m2.env) fun fl env' => ∀ m3, m3.env = env' → Sta C m3 → Step (Tt ++ T2) m' m3 → FlOk C m3 D fl, ⟨_, rfl, Nat.zero_le _, m', rfl, e4, S', Step.refl _ _, ?_⟩, ?_⟩
  · rw [List.drop_zero]
    exact Want.mono w s fun fl env' w m3 a1 a2 a3 => w m3 a1 a2 (s.trans a3)
  · rintro i n σ' H' ⟨rfl, hi, m2, rfl, rfl, S2, s2, w2⟩
    obtain ⟨j1, j2⟩ := jok m2 (Tt ++ T2) S2 s2 rfl hdep i
    by_cases hlt : i < src.items.length
    · obtain ⟨go, yl⟩ := j1 src.items[i] (List.getElem?_eq_getElem hlt)
      rw [List.drop_eq_getElem_cons hlt] at w2
      unfold forL at w2
      refine .inr ⟨go, fun σ' H' => ∃ m3 : Mo, m3.H = H' ∧ m3.σ = σ' ∧ Sta C m3 ∧ Step (Tt ++ T2) m' m3 ∧
        Want C E m3 (forL set g (src.items.drop (i + 1)) m3.env) fun fl env' => ∀ m4, m4.env = env' → Sta C m4 → Step (Tt ++ T2) m' m4 → FlOk C m4 D fl, fun σ' H' q => ⟨_, by omega, rfl, hlt, q⟩, fun x H' y => ?_⟩
      obtain ⟨m3, rfl, G, rx⟩ := yl x H' y
      have s3 : Step (Tt ++ T2) m' m3 := step_nil S2 s2 G
      have S3 := S2.gro G
      cases hs : set src.items[i] m2.env with
      | none => rw [hs] at w2; exact w2.elim
      | some e1' =>
        rw [hs] at w2
        have w2 := Want.bind w2
        rw [← G.σ]
        refine hg m3 _ x e1' _ S3 rx (by rw [G.env]; exact hs) fun m4 a1 a2 a3 a4 => ?_
        have s4 : Step (Tt ++ T2) m' m4 := (a4 _ _ s3).wk (by simp +contextual [or_imp])
        have s24 : Step Tt m2 m4 := by have := a4 _ _ (G.step S2); simpa using this
        refine ⟨m4, rfl, rfl, a3, ?_⟩
        rw [a1]
        refine Want.mono w2 s24 fun fl env' w m5 b1 b2 b3 => ?_
        have s5 : Step (Tt ++ T2) m' m5 := (s4.trans b3).wk (by simp +contextual [or_imp])
        subst b1
        have s25 := s24.trans b3
        cases fl with
        | nx => exact ⟨m5, rfl, rfl, b2, s5, Want.mono w s25 fun _ _ w => w⟩
        | cont => exact ⟨m5, rfl, rfl, b2, s5, Want.mono w s25 fun _ _ w => w⟩
        | brk => exact w m5 rfl b2 s5
        | ret r => exact w m5 rfl b2 s5
    · have e : i = src.items.length := by omega
      subst e
      rw [List.drop_length] at w2
      exact .inl ⟨j2 rfl, w2 m2 rfl S2 s2⟩
theorem s_for {set : D → Env → Option Env} {gt : TG} {Tt : List Nat} {fi : MI} {body : List Stmt} (hp : PassesOwn (model X.prog X.w) X.A X.env X.xe) (hc : X.calm = true) (hg : TgOk C gt Tt set) (hi : PI X tg e (rdI C E T1 fi)) (ht : PG X tg gt) (hb : PSs X body (rdS C E T2 g))
    (hs : ∀ x, foldedSetIterable e X.env x = pure x := by intro _; rfl) : PS X (.For tg e body [] pos) (rdS C E (T1 ++ (Tt ++ T2)) (msFor (Tt ++ T2) set fi g)) :=
  PS.wk (ps_for hp hc hi ht hb hs) fun D σ H h => for_rd hg h
def whileN (t : MT) (g : MS) : Nat → Env → Rs Fl
  | 0, _ => .bad
  | n + 1, e => (t e).bind fun b e1 => if b = true then (g e1).bind fun fl e2 => match fl with
      | .brk => .ok .nx e2
      | .ret r => .ok (.ret r) e2
      | _ => whileN t g n e2 else .ok .nx e1
open Classical in
noncomputable def msWhile (t : MT) (g : MS) : MS := fun env => if h : ∃ n r, whileN t g n env = r ∧ r ≠ .bad then whileN t g (Classical.choose h) env else .bad
theorem while_rd {D : Ends} {σ : L2.St} {H : Hp} (h : rdS C E (T1 ++ T2) (msWhile t g) D σ H) : tWhile (rdT C E T1 t) (rdS C E T2 g) D σ H := by
  obtain ⟨m, e1, e2, S, w⟩ := h
  unfold msWhile at w
  by_cases hh : ∃ n r, whileN t g n m.env = r ∧ r ≠ .bad
  · rw [dif_pos hh] at w
    generalize Classical.choose hh = n0 at w
    refine ⟨fun n σ' H' => ∃ m2 : Mo, m2.H = H' ∧ m2.σ = σ' ∧ Sta C m2 ∧ Step (T1 ++ T2) m m2 ∧
      Want C E m2 (whileN t g n m2.env) fun fl env' => ∀ m3, m3.env = env' → Sta C m3 → Step (T1 ++ T2) m m3 → FlOk C m3 D fl, ⟨n0, m, e1, e2, S, Step.refl _ _, w⟩, ?_⟩
    rintro n σ' H' ⟨m2, rfl, rfl, S2, s2, w2⟩
    cases n with
    | zero => exact w2.elim
    | succ n =>
      unfold whileN at w2
      refine ⟨m2, rfl, rfl, S2, Want.imp w2.bind fun b env w m3 a1 a2 a3 a4 => ?_⟩
      have s3 : Step (T1 ++ T2) m m3 := (s2.trans a4).wk (by simp +contextual [or_imp])
      subst a1
      cases b with
      | true =>
        dsimp only
        rw [if_pos rfl] at w ⊢
        refine ⟨fun σ' H' => ∃ m2 : Mo, m2.H = H' ∧ m2.σ = σ' ∧ Sta C m2 ∧ Step (T1 ++ T2) m m2 ∧
          Want C E m2 (whileN t g n m2.env) fun fl env' => ∀ m3, m3.env = env' → Sta C m3 → Step (T1 ++ T2) m m3 → FlOk C m3 D fl, fun σ' H' q => ⟨n, by omega, q⟩, m3, rfl, a2, a3, ?_⟩
        refine Want.mono w.bind a4 fun fl env' w m4 b1 b2 b3 => ?_
        subst b1
        have s4 : Step (T1 ++ T2) m m4 := (s3.trans b3).wk (by simp +contextual [or_imp])
        have s24 := a4.trans b3
        cases fl with
        | nx => exact ⟨m4, rfl, rfl, b2, s4, Want.mono w s24 fun _ _ w => w⟩
        | cont => exact ⟨m4, rfl, rfl, b2, s4, Want.mono w s24 fun _ _ w => w⟩
        | brk => exact w m4 rfl b2 s4
        | ret r => exact w m4 rfl b2 s4
      | false =>
        dsimp only
        rw [if_neg Bool.false_ne_true] at w ⊢
        have := w m3 rfl a3 s3
        rw [← a2]; exact this
  · rw [dif_neg hh] at w; exact w.elim
theorem s_while {c : Expr} {body : List Stmt} (hp : PassesOwn (model X.prog X.w) X.A X.env X.xe) (hc : PT X c (rdT C E T1 t)) (hb : PSs X body (rdS C E T2 g)) : PS X (.While c body [] pos) (rdS C E (T1 ++ T2) (msWhile t g)) :=
  PS.wk (ps_while hp hc hb) fun D σ H h => while_rd h
theorem whileN_more {n : Nat} : ∀ {e : Env}, whileN t g n e ≠ .bad → whileN t g (n + 1) e = whileN t g n e := by
  induction n with
  | zero => intro e h; exact absurd rfl h
  | succ n ih =>
    intro e h
    unfold whileN at h
    show (t e).bind _ = _
    conv => rhs; unfold whileN
    cases q : t e with
    | bad => rfl
    | exc c ds e => rfl
    | ok b e1 =>
      rw [q] at h
      have h : (if b = true then (g e1).bind fun fl e2 => match fl with | .brk => .ok .nx e2 | .ret r => .ok (.ret r) e2 | _ => whileN t g n e2 else Rs.ok Fl.nx e1) ≠ .bad := h
      show (if b = true then (g e1).bind fun fl e2 => match fl with | .brk => .ok .nx e2 | .ret r => .ok (.ret r) e2 | _ => whileN t g (n + 1) e2 else Rs.ok Fl.nx e1) = if b = true then (g e1).bind fun fl e2 => match fl with | .brk => .ok .nx e2 | .ret r => .ok (.ret r) e2 | _ => whileN t g n e2 else Rs.ok Fl.nx e1
      cases b with
      | false => rfl
      | true =>
        rw [if_pos rfl] at h ⊢
        rw [if_pos rfl]
        cases q2 : g e1 with
        | bad => rfl
        | exc c ds e => rfl
        | ok fl e2 =>
          rw [q2] at h
          cases fl with
          | nx => exact ih h
          | cont => exact ih h
          | brk => rfl
          | ret r => rfl
theorem whileN_le {n k : Nat} {e : Env} (h : whileN t g n e ≠ .bad) : whileN t g (n + k) e = whileN t g n e := by
  induction k with
  | zero => rfl
  | succ k ih => rw [← Nat.add_assoc, whileN_more (by rw [ih]; exact h), ih]
theorem msWhile_is {n : Nat} {e : Env} {r : Rs Fl} (h : whileN t g n e = r) (hr : r ≠ .bad) : msWhile t g e = r := by
  unfold msWhile
  have hh : ∃ n r, whileN t g n e = r ∧ r ≠ .bad := ⟨n, r, h, hr⟩
  rw [dif_pos hh]
  obtain ⟨r', q1, q2⟩ := Classical.choose_spec hh
  have a := whileN_le (k := n) (show whileN t g (Classical.choose hh) e ≠ .bad by rw [q1]; exact q2)
  have b := whileN_le (k := Classical.choose hh) (show whileN t g n e ≠ .bad by rw [h]; exact hr)
  rw [Nat.add_comm] at a
  rw [← a, b, h]
end
end L3
namespace L3
open PySem L2

def setLk {α : Type} : List Str → List α → Str → α → List α
  | n :: ns, d :: ds, f, y => if n = f then y :: ds else d :: setLk ns ds f y
  | _, ds, _, _ => ds
def setLkK {α κ : Type} [DecidableEq κ] : List κ → List α → κ → α → List α
  | n :: ns, d :: ds, f, y => if n = f then y :: ds else d :: setLkK ns ds f y
  | _, ds, _, _ => ds
def setAt : List Stp → O → O → Option O
  | [], _, y => some y
  | .idx n :: p, .lst os, y => (os[n]?).bind fun o => (setAt p o y).map fun o' => .lst (os.set n o')
  | .attr f :: p, .ins c ns os, y => (lk ns os f).bind fun o => (setAt p o y).map fun o' => .ins c ns (setLk ns os f o')
  | .key k :: p, .dk ks os, y => (lkK ks os k).bind fun o => (setAt p o y).map fun o' => .dk ks (setLkK ks os k o')
  | _, _, _ => none
section
variable {K : PySem.W.Frag} {cl : Nat → Addr} {F F' H H' : Hp}
theorem RpOs.setI (eF : Ex F F') : ∀ {os : List O} {vs : List V} {fp : Fp} {n : Nat} {o : O} {v : V}, RpOs K cl F H os vs fp → os[n]? = some o → vs[n]? = some v → ∃ l g r, fp = l ++ g ++ r ∧ RpO K cl F H o v g ∧
    ∀ o' g', (∀ a ∈ l ++ r, H' a = H a) → RpO K cl F' H' o' v g' → RpOs K cl F' H' (os.set n o') vs (l ++ g' ++ r)
  | [], vs, fp, n, o, v, _, h, _ => by simp at h
  | o0 :: os, vs, fp, 0, o, v, r, h, h2 => by
    obtain ⟨v', vr, f, g, rfl, rfl, r1, r2⟩ := r
    simp at h h2
    subst h h2
    exact ⟨[], f, g, by simp, r1, fun o' g' k r' => ⟨v', vr, g', g, rfl, by simp, r', r2.mono eF _ _ _ (fun a ha => k a (by simp [ha]))⟩⟩
  | o0 :: os, vs, fp, n + 1, o, v, r, h, h2 => by
    obtain ⟨v', vr, f, g, rfl, rfl, r1, r2⟩ := r
    obtain ⟨l, g0, rr, e, r3, k⟩ := RpOs.setI eF r2 (by simpa using h) (by simpa using h2)
    subst e
    refine ⟨f ++ l, g0, rr, by simp, r3, fun o' g' q r' => ⟨v', vr, f, l ++ g' ++ rr, rfl, by simp, r1.mono eF _ _ _ (fun a ha => q a (by simp [ha])), k o' g' (fun a ha => q a (by
      rcases List.mem_append.mp ha with z | z
      · simp [z]
      · simp [z])) r'⟩⟩
theorem RpOs.setL (eF : Ex F F') : ∀ {ns : List Str} {os : List O} {vs : List V} {fp : Fp} {f : Str} {o : O} {v : V}, RpOs K cl F H os vs fp → lk ns os f = some o → lk ns vs f = some v → ∃ l g r, fp = l ++ g ++ r ∧ RpO K cl F H o v g ∧
    ∀ o' g', (∀ a ∈ l ++ r, H' a = H a) → RpO K cl F' H' o' v g' → RpOs K cl F' H' (setLk ns os f o') vs (l ++ g' ++ r)
  | [], os, vs, fp, f, o, v, _, h, _ => by simp [lk] at h
  | n :: ns, [], vs, fp, f, o, v, _, h, _ => by simp [lk] at h
  | n :: ns, o0 :: os, vs, fp, f, o, v, r, h, h2 => by
    obtain ⟨v', vr, f1, g, rfl, rfl, r1, r2⟩ := r
    unfold lk at h h2
    unfold setLk
    by_cases e : n = f
    · rw [if_pos e] at h h2
      cases h; cases h2
      simp only [if_pos e]
      exact ⟨[], f1, g, by simp, r1, fun o' g' k r' => ⟨_, vr, g', g, rfl, by simp, r', r2.mono eF _ _ _ (fun a ha => k a (by simp [ha]))⟩⟩
    · rw [if_neg e] at h h2
      simp only [if_neg e]
      obtain ⟨l, g0, rr, e, r3, k⟩ := RpOs.setL eF r2 h h2
      subst e
      refine ⟨f1 ++ l, g0, rr, by simp, r3, fun o' g' q r' => ⟨v', vr, f1, l ++ g' ++ rr, rfl, by simp, r1.mono eF _ _ _ (fun a ha => q a (by simp [ha])), k o' g' (fun a ha => q a (by
        rcases List.mem_append.mp ha with z | z
        · simp [z]
        · simp [z])) r'⟩⟩
theorem RpOs.setK {κ : Type} [DecidableEq κ] (eF : Ex F F') : ∀ {ns : List κ} {os : List O} {vs : List V} {fp : Fp} {f : κ} {o : O} {v : V}, RpOs K cl F H os vs fp → lkK ns os f = some o → lkK ns vs f = some v → ∃ l g r, fp = l ++ g ++ r ∧ RpO K cl F H o v g ∧
    ∀ o' g', (∀ a ∈ l ++ r, H' a = H a) → RpO K cl F' H' o' v g' → RpOs K cl F' H' (setLkK ns os f o') vs (l ++ g' ++ r)
  | [], os, vs, fp, f, o, v, _, h, _ => by simp [lkK] at h
  | n :: ns, [], vs, fp, f, o, v, _, h, _ => by simp [lkK] at h
  | n :: ns, o0 :: os, vs, fp, f, o, v, r, h, h2 => by
    obtain ⟨v', vr, f1, g, rfl, rfl, r1, r2⟩ := r
    unfold lkK at h h2
    unfold setLkK
    by_cases e : n = f
    · rw [if_pos e] at h h2
      cases h; cases h2
      simp only [if_pos e]
      exact ⟨[], f1, g, by simp, r1, fun o' g' k r' => ⟨_, vr, g', g, rfl, by simp, r', r2.mono eF _ _ _ (fun a ha => k a (by simp [ha]))⟩⟩
    · rw [if_neg e] at h h2
      simp only [if_neg e]
      obtain ⟨l, g0, rr, e, r3, k⟩ := RpOs.setK eF r2 h h2
      subst e
      refine ⟨f1 ++ l, g0, rr, by simp, r3, fun o' g' q r' => ⟨v', vr, f1, l ++ g' ++ rr, rfl, by simp, r1.mono eF _ _ _ (fun a ha => q a (by simp [ha])), k o' g' (fun a ha => q a (by
        rcases List.mem_append.mp ha with z | z
        · simp [z]
        · simp [z])) r'⟩⟩
theorem At.set (eF : Ex F F') : ∀ {p : List Stp} {d0 : O} {v0 : V} {f0 : Fp} {d : O} {v : V}, RpO K cl F H d0 v0 f0 → At cl H p d0 v0 d v → ∃ l g r, f0 = l ++ g ++ r ∧ RpO K cl F H d v g ∧
    ∀ d' g', (∀ a ∈ l ++ r, H' a = H a) → RpO K cl F' H' d' v g' → ∃ d0', setAt p d0 d' = some d0' ∧ RpO K cl F' H' d0' v0 (l ++ g' ++ r)
  | [], d0, v0, f0, d, v, r, h => by
    obtain ⟨rfl, rfl⟩ := h
    exact ⟨[], f0, [], by simp, r, fun d' g' _ r' => ⟨d', rfl, by simpa using r'⟩⟩
  | s :: p, d0, v0, f0, d, v, r, h => by
    obtain ⟨a, d1, v1, rfl, q, h⟩ := h
    cases q with
    | @idx n ds _ xs _ _ q e1 e2 =>
      obtain ⟨a', xs', f, e, rfl, q', rl⟩ := r
      cases e
      rw [q] at q'
      cases q'
      obtain ⟨l1, g1, r1, e3, r2, k1⟩ := RpOs.setI (H' := H') eF rl e1 e2
      subst e3
      obtain ⟨l2, g2, r3, e4, r4, k2⟩ := At.set eF r2 h
      subst e4
      refine ⟨a :: (l1 ++ l2), g2, r3 ++ r1, by simp, r4, fun d' g' k r' => ?_⟩
      obtain ⟨d0', s1, s2⟩ := k2 d' g' (fun b hb => k b (by rcases List.mem_append.mp hb with z | z <;> simp [z])) r'
      refine ⟨.lst (ds.set n d0'), by unfold setAt; rw [e1, Option.bind_some, s1]; rfl, a, xs, l1 ++ (l2 ++ g' ++ r3) ++ r1, rfl, by simp, (k a (by simp)).trans q, ?_⟩
      have := k1 d0' _ (fun b hb => k b (by rcases List.mem_append.mp hb with z | z <;> simp [z])) s2
      simpa using this
    | @attr fn c ns ds _ dx xs _ _ q e1 e2 l =>
      obtain ⟨a', dx', xs', f, e, rfl, q', l', rl⟩ := r
      cases e
      rw [q] at q'
      have q'' := Option.some.inj q'
      injection q'' with _ _ q''
      obtain rfl := zip_inj l l' q''
      obtain ⟨l1, g1, r1, e3, r2, k1⟩ := RpOs.setL (H' := H') eF rl e1 e2
      subst e3
      obtain ⟨l2, g2, r3, e4, r4, k2⟩ := At.set eF r2 h
      subst e4
      refine ⟨a :: (l1 ++ l2), g2, r3 ++ r1, by simp, r4, fun d' g' k r' => ?_⟩
      obtain ⟨d0', s1, s2⟩ := k2 d' g' (fun b hb => k b (by rcases List.mem_append.mp hb with z | z <;> simp [z])) r'
      refine ⟨.ins c ns (setLk ns ds fn d0'), by unfold setAt; rw [e1, Option.bind_some, s1]; rfl, a, dx, xs, l1 ++ (l2 ++ g' ++ r3) ++ r1, rfl, by simp, (k a (by simp)).trans q, l, ?_⟩
      have := k1 d0' _ (fun b hb => k b (by rcases List.mem_append.mp hb with z | z <;> simp [z])) s2
      simpa using this
    | @key fn ns ds _ xs _ _ q e1 e2 l =>
      obtain ⟨a', xs', f, e, rfl, q', l', rl⟩ := r
      cases e
      rw [q] at q'
      have q'' := Option.some.inj q'
      injection q'' with q''
      obtain rfl := zip_inj l l' q''
      obtain ⟨l1, g1, r1, e3, r2, k1⟩ := RpOs.setK (H' := H') eF rl e1 e2
      subst e3
      obtain ⟨l2, g2, r3, e4, r4, k2⟩ := At.set eF r2 h
      subst e4
      refine ⟨a :: (l1 ++ l2), g2, r3 ++ r1, by simp, r4, fun d' g' k r' => ?_⟩
      obtain ⟨d0', s1, s2⟩ := k2 d' g' (fun b hb => k b (by rcases List.mem_append.mp hb with z | z <;> simp [z])) r'
      refine ⟨.dk ns (setLkK ns ds fn d0'), by unfold setAt; rw [e1, Option.bind_some, s1]; rfl, a, xs, l1 ++ (l2 ++ g' ++ r3) ++ r1, rfl, by simp, (k a (by simp)).trans q, l, ?_⟩
      have := k1 d0' _ (fun b hb => k b (by rcases List.mem_append.mp hb with z | z <;> simp [z])) s2
      simpa using this
end
def poke (x : Nat) (p : List Stp) (o' : O) (env : Env) : Option Env := match env[x]? with
  | some (some o0) => (setAt p o0 o').map fun o0' => env.set x (some o0')
  | _ => none
theorem poke_ok {C : Cn} {T : List Nat} {m0 m : Mo} {x : Nat} {p : List Stp} {o o' : O} {a : Addr} {ho : HO} {av : Addr → Prop} (s : Step T m0 m) (S : Sta C m) (ok : RtOk C m av (.bor x p o) (.ref a))
    (h : ∀ f, RpO C.K C.cl m.F m.H o (.ref a) (a :: f) → a ∉ f → (a :: f).Nodup → (∀ b ∈ a :: f, b ∈ m.fps.flatten) → ∃ f', RpO C.K C.cl m.F (upd m.H a ho) o' (.ref a) (a :: f') ∧ (a :: f').Nodup ∧
      ∀ b ∈ f', b ∈ f ∨ (b ∉ m.fps.flatten ∧ m.F b = none ∧ (m0.H b = none ∨ b ∈ m0.fps.flatten) ∧ (C.H0 b = none ∨ b ∈ C.io)))
    (hn : ∃ f, RpO C.K C.cl m.F m.H o (.ref a) (a :: f)) :
    ∃ env', poke x p o' m.env = some env' ∧ ∃ m', m'.env = env' ∧ m'.F = m.F ∧ m'.H = upd m.H a ho ∧ m'.σ = m.σ ∧ Sta C m' ∧ Step (T ++ [x]) m0 m' ∧ ∀ b, b ∈ m'.fps.flatten → b ∈ m.fps.flatten ∨ (m.F b = none ∧ (m0.H b = none ∨ b ∈ m0.fps.flatten)) := by
  obtain ⟨o0, v0, e1, e2, e3⟩ := ok
  obtain ⟨v1, f0, s1, s2, s3⟩ := S.slot e1
  rw [e2] at s1; cases s1
  obtain ⟨l, g, r, ef, rg, k⟩ := At.set (H' := upd m.H a ho) (Ex.refl m.F) s3 e3
  obtain ⟨fq, hq⟩ := hn
  have uniq : ∃ f, g = a :: f := by
    cases o with
    | s d => obtain ⟨e, _⟩ := hq; cases e
    | lst os => obtain ⟨b, xs, f, e, rfl, _⟩ := rg; cases e; exact ⟨f, rfl⟩
    | dk ks os => obtain ⟨b, xs, f, e, rfl, _⟩ := rg; cases e; exact ⟨f, rfl⟩
    | dt ks os => obtain ⟨b, xs, f, e, rfl, _⟩ := rg; cases e; exact ⟨f, rfl⟩
    | ins c ns os => obtain ⟨b, dx, xs, f, e, rfl, _⟩ := rg; cases e; exact ⟨f, rfl⟩
  obtain ⟨f, rfl⟩ := uniq
  have nd := S.nd x f0 s2
  rw [ef] at nd
  have nd2 : (l ++ ((a :: f) ++ r)).Nodup := by simpa using nd
  rw [List.nodup_append] at nd2
  obtain ⟨nl, nfr, dl⟩ := nd2
  rw [List.nodup_append] at nfr
  obtain ⟨nf, nr, dr⟩ := nfr
  have inx : ∀ b ∈ l ++ (a :: f) ++ r, b ∈ m.fps.flatten := fun b hb => mem_fps s2 (by rw [ef]; exact hb)
  obtain ⟨f', q1, q2, q3⟩ := h f rg (List.nodup_cons.mp nf).1 nf (fun b hb => inx b (by simp at hb ⊢; rcases hb with z | z <;> simp [z]))
  have al : a ∉ l := fun z => dl a z a (by simp) rfl
  have ar : a ∉ r := fun z => dr a (by simp) a z rfl
  obtain ⟨d0', t1, t2⟩ := k o' (a :: f') (fun b hb => upd_ne (fun z => by
    subst z
    rcases List.mem_append.mp hb with y | y
    · exact al y
    · exact ar y)) q1
  have hold : ∀ b ∈ f', b ∉ l ∧ b ∉ r := fun b hb => by
    rcases q3 b hb with z | z
    · exact ⟨fun y => dl b y b (by simp [z]) rfl, fun y => dr b (by simp [z]) b y rfl⟩
    · exact ⟨fun y => z.1 (inx b (by simp [y])), fun y => z.1 (inx b (by simp [y]))⟩
  have nd' : (l ++ (a :: f') ++ r).Nodup := by
    have : (l ++ ((a :: f') ++ r)).Nodup := by
      rw [List.nodup_append]
      refine ⟨nl, ?_, fun b hb c hc e => ?_⟩
      · rw [List.nodup_append]
        refine ⟨q2, nr, fun b hb c hc e => ?_⟩
        subst e
        rcases List.mem_cons.mp hb with z | z
        · subst z; exact ar hc
        · exact (hold b z).2 hc
      · subst e
        rcases List.mem_append.mp hc with z | z
        · rcases List.mem_cons.mp z with y | y
          · subst y; exact al hb
          · exact (hold b y).1 hb
        · exact dl b hb b (by simp [z]) rfl
    simpa using this
  have hHa : m.H a ≠ none := S.inH a (inx a (by simp))
  obtain ⟨S2, s4⟩ := put (i := x) (o' := d0') (v' := v0) (fp' := l ++ (a :: f') ++ r) (F' := m.F) (H' := upd m.H a ho) s S s2 (Ex.refl _)
    (fun b u hb => by
      have : b ≠ a := fun z => by subst z; rw [S.df b (inx b (by simp))] at hb; cases hb
      rw [upd_ne this]; exact S.ex b u hb)
    (fun b u hb n => by rw [upd_ne (fun z => n (by rw [ef, z]; simp))]; exact hb)
    (fun b hb => by
      by_cases z : b = a
      · subst z; rw [upd_same]; simp
      · rw [upd_ne z]; exact hb)
    (fun b h n => absurd n h) t2 nd'
    (fun b hb => by
      simp only [List.mem_append, List.mem_cons] at hb
      rcases hb with (z | z | z) | z
      · exact S.df b (inx b (by simp [z]))
      · subst z; exact S.df b (inx b (by simp))
      · rcases q3 b z with y | y
        · exact S.df b (inx b (by simp [y]))
        · exact y.2.1
      · exact S.df b (inx b (by simp [z])))
    (fun b hb => by
      simp only [List.mem_append, List.mem_cons] at hb
      rcases hb with (z | z | z) | z
      · exact .inr (.inl (by rw [ef]; simp [z]))
      · exact .inr (.inl (by rw [ef]; simp [z]))
      · rcases q3 b z with y | y
        · exact .inr (.inl (by rw [ef]; simp [y]))
        · exact .inr (.inr ⟨fun j f e z => y.1 (mem_fps e z), y.2.2⟩)
      · exact .inr (.inl (by rw [ef]; simp [z])))
    (fun _ => e2)
  refine ⟨m.env.set x (some d0'), by unfold poke; rw [e1]; dsimp only; rw [t1]; rfl, m.put m.F (upd m.H a ho) x d0' v0 (l ++ a :: f' ++ r), rfl, rfl, rfl, set_same e2, S2, s4, fun b hb => ?_⟩
  rcases mem_flat_set hb with z | ⟨j, f, _, e, z⟩
  · simp only [List.mem_append, List.mem_cons] at z
    rcases z with (z | z | z) | z
    · exact .inl (inx b (by simp [z]))
    · exact .inl (inx b (by simp [z]))
    · rcases q3 b z with y | y
      · exact .inl (inx b (by simp [y]))
      · exact .inr ⟨y.2.1, y.2.2.1⟩
    · exact .inl (inx b (by simp [z]))
  · exact .inl (mem_fps e z)

section
variable {X : Cx} {C : Cn} {E : XK} {e a b : Expr} {pos : Pos} {T T1 T2 T3 : List Nat} {fs : MA} {es : List Expr} {f f1 f2 : ME} {g : MS}
def rdA1 (C : Cn) (E : XK) (T : List Nat) (f : ME) : TA := fun σ H Q => rdE C E T f σ H fun v H1 => Q [v] H1
theorem a_one (h : PE X e (rdE C E T f)) (hst : starEach [e] X.env = (false, eval e X.env) :: starEach [] X.env := by rfl) : PA X [e] (rdA1 C E T f) := PA.wk (pa_cons h pa_nil hst) fun σ H Q h => h
theorem new_o {m0 m : Mo} {r : Rt} {o : O} {v : V} (S : Sta C m) (ok : RtOk C m (Old m0) r v) (h : r.o = some o) : ∃ fp, RpO C.K C.cl m.F m.H o v fp ∧ fp.Nodup ∧ ∀ b ∈ fp, b ∉ m.fps.flatten ∧ m.F b = none ∧ (m0.H b = none ∨ b ∈ m0.fps.flatten) ∧ (C.H0 b = none ∨ b ∈ C.io) := by
  cases r with
  | val d => cases h; exact ⟨[], ⟨rfl, ok⟩, List.nodup_nil, fun b hb => by simp at hb⟩
  | own o' =>
    cases h
    obtain ⟨fp, r, nd, k⟩ := ok
    refine ⟨fp, r, nd, fun b hb => ?_⟩
    obtain ⟨k1, k2, k3, k4⟩ := k b hb
    refine ⟨k2, k1, ?_, k3⟩
    by_cases y : m0.H b = none
    · exact .inl y
    · exact .inr (Classical.byContradiction fun w => k4 ⟨y, w⟩)
  | bor x p o' => cases h
  | sl x => cases h
theorem RpO.upd {K : PySem.W.Frag} {cl : Nat → Addr} {F H : Hp} {a : Addr} {ho : HO} {o : O} {v : V} {fp : Fp} (h : RpO K cl F H o v fp) (n : a ∉ fp) : RpO K cl F (L2.upd H a ho) o v fp := h.mono (Ex.refl _) o v fp fun b hb => upd_ne (fun z => n (by rw [← z]; exact hb))
theorem RpOs.upd {K : PySem.W.Frag} {cl : Nat → Addr} {F H : Hp} {a : Addr} {ho : HO} {o : List O} {v : List V} {fp : Fp} (h : RpOs K cl F H o v fp) (n : a ∉ fp) : RpOs K cl F (L2.upd H a ho) o v fp := h.mono (Ex.refl _) o v fp fun b hb => upd_ne (fun z => n (by rw [← z]; exact hb))
def mAppend (Tx T2 : List Nat) (f f2 : ME) : ME := fun env => (f env).bind fun r e1 => match r with
  | .bor x p (.lst os) => if x ∈ T2 then .bad else (f2 e1).bind fun y e2 => match y.o with
    | some oy => if os.length < 16777216 ∧ x ∈ Tx then (match poke x p (.lst (os ++ [oy])) e2 with
      | some e3 => .ok (.val .non) e3
      | none => .bad) else .bad
    | none => .bad
  | _ => .bad
theorem e_append (Tx : List Nat) (hK : X.K = C.K) (h : PE X e (tBM X.K "list" rAppend (rdE C E T1 f1) (rdA1 C E T2 f2))) : PE X e (rdE C E (T1 ++ (T2 ++ Tx)) (mAppend Tx T2 f1 f2)) :=
  PE.wk h fun σ H Q ⟨m, e1, e2, S, w⟩ => ⟨m, e1, e2, S, Want.imp w.bind fun r env w => fun v m' e3 e4 S' s ok => by
    subst e3
    split at w
    · rename_i x p os
      by_cases hh : x ∈ T2
      · rw [if_pos hh] at w; exact w.elim
      rw [if_neg hh] at w
      obtain ⟨f0, a, xs, fl, rfl, rfl, hl, rr⟩ := ok.bor S'
      rw [hK]
      refine ⟨.inl ⟨rfl, xs, .inl (.inl hl)⟩, m', rfl, e4, S', Want.mono w.bind s fun y env2 w vy m2 a1 a2 S2 s2 ok2 => ?_⟩
      subst a1
      have ok' := ok.step S' s2 (by simpa [Rt.hot] using hh) (a2.trans e4.symm)
      obtain ⟨f2, a', xs', fl2, e, rfl, hl2, rr2⟩ := ok'.bor S2
      cases e
      cases ho : y.o with
      | none => rw [ho] at w; exact w.elim
      | some oy =>
        rw [ho] at w
        dsimp only at w
        by_cases hz : os.length < 16777216 ∧ x ∈ Tx
        · rw [if_pos hz] at w
          obtain ⟨fy, ry, ny, ky⟩ := new_o S2 (old_step s ok2) ho
          obtain ⟨env', hp, m3, b1, b2, b3, b4, S3, s3, b5⟩ := poke_ok (ho := .lst (xs' ++ [vy])) (o' := .lst (os ++ [oy])) (s.trans s2) S2 ok' (fun fr hr na nd inx => by
            obtain ⟨a2, xs2, f4, e, e', hl4, rr4⟩ := hr
            cases e; cases e'
            rw [hl2] at hl4; cases hl4
            have nay : a ∉ fy := fun z => (ky a z).1 (inx a (by simp))
            refine ⟨fr ++ fy, ⟨a, _, _, rfl, rfl, upd_same, (rr4.upd na).append ⟨vy, [], fy, [], rfl, by simp, ry.upd nay, rfl, rfl⟩⟩, ?_, fun b hb => ?_⟩
            · rw [List.nodup_cons] at nd ⊢
              refine ⟨fun z => ?_, ?_⟩
              · rcases List.mem_append.mp z with y | y
                · exact nd.1 y
                · exact nay y
              · rw [List.nodup_append]
                refine ⟨nd.2, ny, fun b hb c hc e => ?_⟩
                subst e
                exact (ky b hc).1 (inx b (by simp [hb]))
            · rcases List.mem_append.mp hb with y | y
              · exact .inl y
              · exact .inr (ky b y)) ⟨fl2, a, xs', fl2, rfl, rfl, hl2, rr2⟩
          rw [hp] at w
          refine ⟨a, xs', vy, rfl, rfl, hl2, by rw [rr2.length, sizeLine_is]; exact hz.1, ?_⟩
          have := w .non m3 b1 (b4.trans a2) S3 (s3.wk (fun i hi => by
            simp only [List.mem_append] at hi ⊢
            rcases hi with (z | z) | z
            · exact .inl z
            · exact .inr (.inl z)
            · have : i = x := by simpa using z
              exact .inr (.inr (by rw [this]; exact hz.2)))) rfl
          rw [b3] at this
          exact this
        · rw [if_neg hz] at w; exact w.elim
    · exact w.elim⟩
end
end L3
namespace L3
open PySem L2

theorem poke_put {C : Cn} {T : List Nat} {m0 m : Mo} {x : Nat} {p : List Stp} {o o' oy : O} {a : Addr} {ho : HO} {vy : V} {fy : Fp} {av : Addr → Prop} (s : Step T m0 m) (S : Sta C m) (ok : RtOk C m av (.bor x p o) (.ref a))
    (ry : RpO C.K C.cl m.F m.H oy vy fy) (ny : fy.Nodup) (ky : ∀ b ∈ fy, b ∉ m.fps.flatten ∧ m.F b = none ∧ (m0.H b = none ∨ b ∈ m0.fps.flatten) ∧ (C.H0 b = none ∨ b ∈ C.io))
    (h : ∀ f, RpO C.K C.cl m.F m.H o (.ref a) (a :: f) → ∃ l g r, f = l ++ g ++ r ∧ ∀ H', (∀ b ∈ l ++ r, H' b = m.H b) → H' a = some ho → RpO C.K C.cl m.F H' oy vy fy → RpO C.K C.cl m.F H' o' (.ref a) (a :: (l ++ fy ++ r)))
    (hn : ∃ f, RpO C.K C.cl m.F m.H o (.ref a) (a :: f)) :
    ∃ env', poke x p o' m.env = some env' ∧ ∃ m', m'.env = env' ∧ m'.F = m.F ∧ m'.H = upd m.H a ho ∧ m'.σ = m.σ ∧ Sta C m' ∧ Step (T ++ [x]) m0 m' ∧ ∀ b, b ∈ m'.fps.flatten → b ∈ m.fps.flatten ∨ (m.F b = none ∧ (m0.H b = none ∨ b ∈ m0.fps.flatten)) :=
  poke_ok s S ok (fun f hr na nd inx => by
    obtain ⟨l, g, r, rfl, k⟩ := h f hr
    have nay : a ∉ fy := fun z => (ky a z).1 (inx a (by simp))
    rw [List.nodup_cons] at nd
    have nd2 : (l ++ (g ++ r)).Nodup := by simpa using nd.2
    rw [List.nodup_append] at nd2
    obtain ⟨nl, ngr, dl⟩ := nd2
    rw [List.nodup_append] at ngr
    refine ⟨l ++ fy ++ r, k _ (fun b hb => upd_ne fun z => na (by
      subst z
      simp only [List.mem_append] at hb ⊢
      rcases hb with z | z
      · exact .inl (.inl z)
      · exact .inr z)) upd_same (ry.upd nay), ?_, fun b hb => ?_⟩
    · rw [List.nodup_cons]
      refine ⟨fun z => ?_, ?_⟩
      · simp only [List.mem_append] at z
        rcases z with (z | z) | z
        · exact na (by simp [z])
        · exact nay z
        · exact na (by simp [z])
      · have : (l ++ (fy ++ r)).Nodup := by
          rw [List.nodup_append]
          refine ⟨nl, ?_, fun b hb c hc e => ?_⟩
          · rw [List.nodup_append]
            refine ⟨ny, ngr.2.1, fun b hb c hc e => ?_⟩
            subst e
            exact (ky b hb).1 (inx b (by simp [hc]))
          · subst e
            rcases List.mem_append.mp hc with z | z
            · exact (ky b z).1 (inx b (by simp [hb]))
            · exact dl b hb b (by simp [z]) rfl
        simpa using this
    · simp only [List.mem_append] at hb
      rcases hb with (z | z) | z
      · exact .inl (by simp [z])
      · exact .inr (ky b z)
      · exact .inl (by simp [z])) hn
section
variable {K : PySem.W.Frag} {cl : Nat → Addr} {F H : Hp}
theorem RpOs.setV : ∀ {os : List O} {vs : List V} {fp : Fp} {n : Nat}, RpOs K cl F H os vs fp → n < os.length → ∃ l g r, fp = l ++ g ++ r ∧ ∀ H' oy vy fy, (∀ b ∈ l ++ r, H' b = H b) → RpO K cl F H' oy vy fy → RpOs K cl F H' (os.set n oy) (vs.set n vy) (l ++ fy ++ r)
  | [], vs, fp, n, _, h => by simp at h
  | o :: os, vs, fp, 0, r, h => by
    obtain ⟨v, vr, f, g, rfl, rfl, r1, r2⟩ := r
    exact ⟨[], f, g, by simp, fun H' oy vy fy k r' => ⟨vy, vr, fy, g, rfl, by simp, r', r2.mono (Ex.refl _) _ _ _ (fun b hb => k b (by simp [hb]))⟩⟩
  | o :: os, vs, fp, n + 1, r, h => by
    obtain ⟨v, vr, f, g, rfl, rfl, r1, r2⟩ := r
    obtain ⟨l, g0, rr, e, k⟩ := RpOs.setV r2 (by simpa using h)
    subst e
    exact ⟨f ++ l, g0, rr, by simp, fun H' oy vy fy q r' => ⟨v, _, f, l ++ fy ++ rr, rfl, by simp, r1.mono (Ex.refl _) _ _ _ (fun b hb => q b (by simp [hb])), k H' oy vy fy (fun b hb => q b (by
      rcases List.mem_append.mp hb with z | z
      · simp [z]
      · simp [z])) r'⟩⟩
end
def putNs : List Str → Str → List Str
  | [], f => [f]
  | n :: ns, f => if n = f then n :: ns else n :: putNs ns f
def putL {α : Type} : List Str → List α → Str → α → List α
  | [], _, _, y => [y]
  | n :: ns, d :: ds, f, y => if n = f then y :: ds else d :: putL ns ds f y
  | _ :: _, [], _, y => [y]
theorem putF_zip {f : Str} {v : V} : ∀ {ns : List Str} {xs : List V}, ns.length = xs.length → putF f v (ns.zip xs) = (putNs ns f).zip (putL ns xs f v) ∧ (putNs ns f).length = (putL ns xs f v).length ∧ (putNs ns f).length ≤ ns.length + 1
  | [], [], _ => ⟨rfl, rfl, Nat.le_refl _⟩
  | [], x :: xs, h => by simp at h
  | n :: ns, [], h => by simp at h
  | n :: ns, x :: xs, h => by
    have h : ns.length = xs.length := by simpa using h
    obtain ⟨i1, i2, i3⟩ := putF_zip (f := f) (v := v) h
    show (if n = f then (n, v) :: ns.zip xs else (n, x) :: putF f v (ns.zip xs)) = _ ∧ _
    unfold putNs putL
    by_cases e : n = f
    · simp only [if_pos e]
      exact ⟨rfl, by simpa using h, by simp⟩
    · simp only [if_neg e]
      exact ⟨by rw [i1]; rfl, by simpa using i2, by simpa using i3⟩
theorem RpOs.putV {K : PySem.W.Frag} {cl : Nat → Addr} {F H : Hp} {n : Str} : ∀ {ns : List Str} {os : List O} {vs : List V} {fp : Fp}, RpOs K cl F H os vs fp → ns.length = os.length → ∃ l g r, fp = l ++ g ++ r ∧ ∀ H' oy vy fy, (∀ b ∈ l ++ r, H' b = H b) → RpO K cl F H' oy vy fy → RpOs K cl F H' (putL ns os n oy) (putL ns vs n vy) (l ++ fy ++ r)
  | [], [], vs, fp, r, _ => by
    obtain ⟨rfl, rfl⟩ := r
    exact ⟨[], [], [], rfl, fun H' oy vy fy k r' => ⟨vy, [], fy, [], rfl, by simp, r', rfl, rfl⟩⟩
  | [], o :: os, vs, fp, r, h => by simp at h
  | m :: ns, [], vs, fp, r, h => by simp at h
  | m :: ns, o :: os, vs, fp, r, h => by
    obtain ⟨v, vr, f, g, rfl, rfl, r1, r2⟩ := r
    by_cases e : m = n
    · refine ⟨[], f, g, by simp, fun H' oy vy fy k r' => ?_⟩
      unfold putL
      simp only [if_pos e]
      exact ⟨vy, vr, fy, g, rfl, by simp, r', r2.mono (Ex.refl _) _ _ _ (fun b hb => k b (by simp [hb]))⟩
    · obtain ⟨l, g0, rr, e2, k⟩ := RpOs.putV (n := n) r2 (by simpa using h)
      subst e2
      refine ⟨f ++ l, g0, rr, by simp, fun H' oy vy fy q r' => ?_⟩
      unfold putL
      simp only [if_neg e]
      exact ⟨v, _, f, l ++ fy ++ rr, rfl, by simp, r1.mono (Ex.refl _) _ _ _ (fun b hb => q b (by simp [hb])), k H' oy vy fy (fun b hb => q b (by
        rcases List.mem_append.mp hb with z | z
        · simp [z]
        · simp [z])) r'⟩
section
variable {X : Cx} {C : Cn} {E : XK} {e a b : Expr} {st : Stmt} {pos : Pos} {T T1 T2 T3 : List Nat} {fs : MA} {es : List Expr} {f f1 f2 f3 : ME} {g : MS}
theorem mem3 {T1 T2 T3 Tx : List Nat} {x : Nat} (hx : x ∈ Tx) : ∀ i ∈ T1 ++ (T2 ++ T3) ++ [x], i ∈ T1 ++ (T2 ++ (T3 ++ Tx)) := fun i hi => by
  simp only [List.mem_append] at hi ⊢
  rcases hi with (z | z | z) | z
  · exact .inl z
  · exact .inr (.inl z)
  · exact .inr (.inr (.inl z))
  · have : i = x := by simpa using z
    exact .inr (.inr (.inr (by rw [this]; exact hx)))
theorem Rt.o_hot {r : Rt} {o : O} (h : r.o = some o) (T : List Nat) : r.hot T = false := by
  cases r with
  | val d => rfl
  | own o' => rfl
  | bor x p o' => cases h
  | sl x => cases h
def msSetIx (Tx T2 T3 : List Nat) (fe fo fi : ME) : MS := fun env => (fe env).bind fun y e1 => match y.o with
  | some oy => (fo e1).bind fun r e2 => (match r with
    | .bor x p (.lst os) => if x ∈ T3 then .bad else (fi e2).bind fun ri e3 => (match ri with
      | .val (.int i) => (match ixN os.length i with
        | some j => if x ∈ Tx then (match poke x p (.lst (os.set j oy)) e3 with
          | some e4 => .ok .nx e4
          | none => .bad) else .bad
        | none => .bad)
      | _ => .bad)
    | _ => .bad)
  | none => .bad
theorem s_setIx (Tx : List Nat) {tg : Expr} (h : PS X (.Assign [tg] e pos) (tAsg (rdE C E T1 f1) (gSub (rdE C E T2 f2) (rdE C E T3 f3) rSetL))) : PS X (.Assign [tg] e pos) (rdS C E (T1 ++ (T2 ++ (T3 ++ Tx))) (msSetIx Tx T2 T3 f1 f2 f3)) :=
  PS.wk h fun D σ H ⟨m, e1, e2, S, w⟩ => ⟨m, e1, e2, S, Want.imp w.bind fun y env w => fun vy m1 e3 e4 S1 s1 oky => by
    subst e3
    cases ho : y.o with
    | none => rw [ho] at w; exact w.elim
    | some oy =>
      rw [ho] at w
      refine ⟨m1, rfl, e4, S1, Want.mono w.bind s1 fun r env2 w vr m2 a1 a2 S2 s2 okr => ?_⟩
      subst a1
      have oky2 := oky.step S1 s2 (Rt.o_hot ho _) (a2.trans e4.symm)
      split at w
      · rename_i x p os
        by_cases hh : x ∈ T3
        · rw [if_pos hh] at w; exact w.elim
        rw [if_neg hh] at w
        refine ⟨m2, rfl, a2, S2, Want.mono w.bind (s1.trans s2) fun ri env3 w vi m3 b1 b2 S3 s3 oki => ?_⟩
        subst b1
        split at w
        · rename_i i
          split at w
          · rename_i j hj
            by_cases hx : x ∈ Tx
            · rw [if_pos hx] at w
              have okr3 := okr.step S2 s3 (by simpa [Rt.hot] using hh) (b2.trans a2.symm)
              have oky3 := oky2.step S2 s3 (Rt.o_hot ho _) (b2.trans a2.symm)
              have s13 := s1.trans (s2.trans s3)
              obtain ⟨fy, ry, ny, ky⟩ := new_o S3 oky3 ho
              obtain ⟨f0, a, xs, fl, rfl, rfl, hl, rr⟩ := okr3.bor S3
              obtain ⟨env', hp, m4, c1, c2, c3, c4, S4, s4, c5⟩ := poke_put (ho := .lst (xs.set j vy)) (o' := .lst (os.set j oy)) s13 S3 okr3 ry ny ky (fun fr hr => by
                obtain ⟨a2, xs2, f4, e, e', hl4, rr4⟩ := hr
                cases e; cases e'
                rw [hl] at hl4; cases hl4
                obtain ⟨l, g0, r0, e5, k⟩ := rr4.setV (n := j) (ixN_seq hj).2.1
                exact ⟨l, g0, r0, e5, fun H' h1 h2 h3 => ⟨a, _, _, rfl, rfl, h2, k H' oy vy fy h1 h3⟩⟩) ⟨fl, a, xs, fl, rfl, rfl, hl, rr⟩
              rw [hp] at w
              refine ⟨a, xs, i, j, rfl, oki, hl, by rw [rr.length]; exact hj, ?_⟩
              have := w m4 c1 S4 (s4.wk (mem3 hx))
              have q : D.nx m4.σ m4.H := this
              rw [c3, c4, b2] at q
              exact q
            · rw [if_neg hx] at w; exact w.elim
          · exact w.elim
        · exact w.elim
      · exact w.elim⟩
def msSetAttr (Tx T2 : List Nat) (cs : List Nat) (n : Str) (fe fo : ME) : MS := fun env => (fe env).bind fun y e1 => match y.o with
  | some oy => (fo e1).bind fun r e2 => (match r with
    | .bor x p (.ins c ns os) => if c ∈ cs ∧ x ∈ Tx ∧ ns.length < 1000 ∧ ns.length = os.length then (match poke x p (.ins c (putNs ns n) (putL ns os n oy)) e2 with
      | some e4 => .ok .nx e4
      | none => .bad) else .bad
    | _ => .bad)
  | none => .bad
theorem s_setAttr (Tx : List Nat) {cs : List Nat} {n : Str} {tg : Expr} (hK : X.K = C.K) (hc : ∀ c ∈ cs, Cls C.K (C.cl c) ∧ NoAttr C.K (C.cl c) n) (h : PS X (.Assign [tg] e pos) (sFld X.K (rdE C E T2 f2) (rdE C E T1 f1) n)) :
    PS X (.Assign [tg] e pos) (rdS C E (T1 ++ (T2 ++ ([] ++ Tx))) (msSetAttr Tx T2 cs n f1 f2)) :=
  PS.wk h fun D σ H ⟨m, e1, e2, S, w⟩ => ⟨m, e1, e2, S, Want.imp w.bind fun y env w => fun vy m1 e3 e4 S1 s1 oky => by
    subst e3
    cases ho : y.o with
    | none => rw [ho] at w; exact w.elim
    | some oy =>
      rw [ho] at w
      refine ⟨m1, rfl, e4, S1, Want.mono w.bind s1 fun r env2 w vr m2 a1 a2 S2 s2 okr => ?_⟩
      subst a1
      have oky2 := oky.step S1 s2 (Rt.o_hot ho _) (a2.trans e4.symm)
      split at w
      · rename_i x p c ns os
        by_cases hx : c ∈ cs ∧ x ∈ Tx ∧ ns.length < 1000 ∧ ns.length = os.length
        · rw [if_pos hx] at w
          obtain ⟨hcc, hx, hns, hno⟩ := hx
          have s13 := s1.trans s2
          obtain ⟨fy, ry, ny, ky⟩ := new_o S2 oky2 ho
          obtain ⟨f0, a, dx, xs, fl, rfl, rfl, hl, hlen, rr⟩ := okr.bor S2
          obtain ⟨p1, p2, p3⟩ := putF_zip (f := n) (v := vy) hlen
          obtain ⟨env', hp, m4, c1, c2, c3, c4, S4, s4, c5⟩ := poke_put (ho := .ins (C.cl c) dx ((putNs ns n).zip (putL ns xs n vy))) (o' := .ins c (putNs ns n) (putL ns os n oy)) s13 S2 okr ry ny ky (fun fr hr => by
            obtain ⟨a2, dx2, xs2, f4, e, e', hl4, hl5, rr4⟩ := hr
            cases e; cases e'
            rw [hl] at hl4
            have q'' := Option.some.inj hl4
            injection q'' with _ qd q''
            obtain rfl := zip_inj hlen hl5 q''
            subst qd
            obtain ⟨l, g0, r0, e5, k⟩ := rr4.putV (n := n) (ns := ns) hno
            exact ⟨l, g0, r0, e5, fun H' h1 h2 h3 => ⟨a, dx, _, _, rfl, rfl, h2, p2, k H' oy vy fy h1 h3⟩⟩) ⟨fl, a, dx, xs, fl, rfl, rfl, hl, hlen, rr⟩
          rw [hp] at w
          rw [hK]
          refine ⟨a, _, dx, _, rfl, hl, (hc c hcc).1, (hc c hcc).2, by rw [List.length_zip, ← hlen]; simpa using hns, ?_⟩
          rw [p1]
          have := w m4 c1 S4 (s4.wk fun i hi => by
            simp only [List.mem_append, List.nil_append] at hi ⊢
            rcases hi with (z | z) | z
            · exact .inl z
            · exact .inr (.inl z)
            · have : i = x := by simpa using z
              exact .inr (.inr (by rw [this]; exact hx)))
          have q : D.nx m4.σ m4.H := this
          rw [c3, c4, a2] at q
          exact q
        · rw [if_neg hx] at w; exact w.elim
      · exact w.elim⟩
def hasNo (cs : List Nat) (mn : Str) (env : Env) : Rt → Bool
  | .val (.ins c ns ds) => decide (c ∈ cs) && (lk ns ds mn).isNone
  | .sl x => match env[x]? with
    | some (some (.ins c ns os)) => decide (c ∈ cs) && (lk ns os mn).isNone
    | some (some (.s (.ins c ns ds))) => decide (c ∈ cs) && (lk ns ds mn).isNone
    | _ => false
  | _ => false
theorem lk_none {α β : Type} {f : Str} : ∀ {ns : List Str} {ds : List α} {xs : List β}, ds.length = xs.length → lk ns ds f = none → lk ns xs f = none
  | [], ds, xs, _, _ => by simp [lk]
  | n :: ns, [], xs, h, _ => by
    have : xs = [] := List.eq_nil_of_length_eq_zero h.symm
    subst this; simp [lk]
  | n :: ns, d :: ds, [], h, _ => by simp at h
  | n :: ns, d :: ds, x :: xs, h, h2 => by
    unfold lk at h2 ⊢
    by_cases e : n = f
    · rw [if_pos e] at h2; cases h2
    · rw [if_neg e] at h2 ⊢
      exact lk_none (by simpa using h) h2
def mMeth (Sl T2 : List Nat) (c : Nat) (mn : Str) (n : Nat) (fn : List O → Rr) (fo : ME) (fs : MA) : ME := fun env => (fo env).bind fun r e1 =>
  if hasNo [c] mn e1 r = true then mCall Sl n fn (fun e => (fs e).bind fun rs e2 => .ok (r :: rs) e2) e1 else .bad
theorem rdMeth {Sl : List Nat} {c n : Nat} {mn : Str} {fn : List O → Rr} {fo : ME} {σ : L2.St} {H : Hp} {Q : VK} (h : rdE C E (T1 ++ (T2 ++ Sl)) (mMeth Sl T2 c mn n fn fo fs) σ H Q) :
    tMeth (C.cl c) mn (spG C.K C.cl n fn) [] E (rdE C E T1 fo) (rdA C E T2 fs) σ H Q := by
  obtain ⟨m, e1, e2, S, w⟩ := h
  refine ⟨m, e1, e2, S, Want.imp w.bind fun r env w => fun v m1 e3 e4 S1 s1 ok => ?_⟩
  subst e3
  by_cases hh : hasNo [c] mn m1.env r = true
  · rw [if_pos hh] at w
    -- the receiver
    have rc : r.hot T2 = false ∧ ∃ a dx fs, v = .ref a ∧ m1.H a = some (.ins (C.cl c) dx fs) ∧ fs.lookup mn = none := by
      unfold hasNo at hh
      split at hh
      · rename_i c' ns ds
        rw [Bool.and_eq_true] at hh
        have hc' : c' = c := by simpa using hh.1
        subst hc'
        obtain ⟨a, dx, xs, rfl, q, l, rr⟩ := ok
        exact ⟨rfl, a, dx, _, rfl, S1.ex _ _ q, by rw [lk_zip]; exact lk_none rr.length.symm (by simpa using hh.2)⟩
      · rename_i x
        split at hh
        · rename_i c' ns os he
          rw [Bool.and_eq_true] at hh
          have hc' : c' = c := by simpa using hh.1
          subst hc'
          obtain ⟨v', f', s1', s2, s3⟩ := S1.slot he
          have ok : m1.σ[x]? = some (some v) := ok
          rw [ok] at s1'; cases s1'
          obtain ⟨a, dx, xs, f, rfl, rfl, q, l, rr⟩ := s3
          exact ⟨rfl, a, dx, _, rfl, q, by rw [lk_zip]; exact lk_none rr.length.symm (by simpa using hh.2)⟩
        · rename_i c' ns ds he
          rw [Bool.and_eq_true] at hh
          have hc' : c' = c := by simpa using hh.1
          subst hc'
          obtain ⟨v', f', s1', s2, s3⟩ := S1.slot he
          have ok : m1.σ[x]? = some (some v) := ok
          rw [ok] at s1'; cases s1'
          obtain ⟨rfl, a, dx, xs, rfl, q, l, rr⟩ := s3
          exact ⟨rfl, a, dx, _, rfl, S1.ex _ _ q, by rw [lk_zip]; exact lk_none rr.length.symm (by simpa using hh.2)⟩
        · cases hh
      · cases hh
    obtain ⟨hot, a, dx, fs', rfl, q1, q2⟩ := rc
    refine ⟨a, dx, fs', rfl, q1, q2, ?_⟩
    have w1 : Want C E m ((fs m1.env).bind fun rs e2 => Rs.ok (r :: rs) e2) _ := w.bind
    refine ⟨m1, rfl, e4, S1, Want.mono w1.bind s1 fun rs0 env w => fun vs m2 f1 f2 S2 s2 ok2 => ?_⟩
    subst f1
    have okr := ok.step S1 s2 hot (f2.trans e4.symm)
    simp only [List.append_nil]
    have s12 := s1.trans s2
    refine call_core (T := T1 ++ T2) (Sl := Sl) s12 S2 (.cons okr ok2) f2 ?_
    have e : T1 ++ T2 ++ Sl = T1 ++ (T2 ++ Sl) := List.append_assoc _ _ _
    rw [e]
    exact w
  · rw [if_neg hh] at w; exact w.elim
end
end L3
namespace L3
open PySem L2
section
variable {X : Cx} {C : Cn} {E : XK} {e a b o : Expr} {pos : Pos} {T T1 T2 T3 Sl : List Nat} {fs : MA} {es : List Expr} {f fo f1 f2 : ME} {n : Nat} {fn : List O → Rr}
theorem e_call0 {CX : CXT} {k : Nat} {fa : Addr} {fd : FuncData} {ps : List Str} {x : Str} {p : Pos} (Sl : List Nat) (hK : X.K = C.K) (F : FnOk X.prog X.w X.K X.mg X.base CX k fa fd ps (spG C.K C.cl n fn)) (hr : Room k X.A) (hg : Gl X x) (hm : X.mg x = some (.ref fa)) (hk : PySem.W.keepIn X.K (.ref fa) = true)
    (hb : Binds X.K fd ps []) (hx : Passes CX X E)
    (hdb : (x == ("__debug__" : Str)) = false := by decide) : PE X (.Call (.Name x p) [] [] pos) (rdE C E ([] ++ Sl) (mCall Sl n fn mNil)) :=
  PE.wk (pe_call0 (dvs := []) F hr hg hm hk hb .nil hx hdb) fun σ H Q h => by
    show tNil σ H fun vs H1 => spG C.K C.cl n fn (vs ++ []) H1 Q E
    simp only [List.append_nil]
    exact rdNil (rdCall h)
theorem e_mth {CX : CXT} {k : Nat} {fa : Addr} {fd : FuncData} {ps : List Str} {m : Str} {apos : Pos} {pl : Sem Bool} (Sl : List Nat) (c : Nat) (hc : Cls X.K (C.cl c)) (hm : Meth X.K (C.cl c) m fa) (F : FnOk X.prog X.w X.K X.mg X.base CX k fa fd ps (spG C.K C.cl n fn)) (hr : Room k X.A)
    (hb : Binds X.K fd ps []) (hx : Passes CX X E) (he : PE X o (rdE C E T1 fo)) (ha : PA X (e :: es) (rdA C E T2 fs)) (hst : starEach (e :: es) X.env = (false, eval e X.env) :: starEach es X.env := by rfl) (hpl : (backTo pos (starEach es X.env)).any (·.1) = false := by rfl)
    (ht : eval (.Call (.Attribute o m apos) (e :: es) [] pos) X.env = (do
      let ov ← eval o X.env
      standAt apos.atName
      let (f, first) ← holding [ov] (getMethod ov m pl)
      callWith pos f first (backTo pos (starEach (e :: es) X.env)) (backToKw pos (keywordEach [] X.env))) := by rfl) :
    PE X (.Call (.Attribute o m apos) (e :: es) [] pos) (rdE C E (T1 ++ (T2 ++ Sl)) (mMeth Sl T2 c m n fn fo fs)) :=
  PE.wk (pe_meth (dvs := []) (pl := pl) he hc hm F hr hb .nil hx ha hst hpl ht) fun σ H Q h => rdMeth h
theorem e_mth0 {CX : CXT} {k : Nat} {fa : Addr} {fd : FuncData} {ps : List Str} {m : Str} {apos : Pos} {pl : Sem Bool} (Sl : List Nat) (c : Nat) (hc : Cls X.K (C.cl c)) (hm : Meth X.K (C.cl c) m fa) (F : FnOk X.prog X.w X.K X.mg X.base CX k fa fd ps (spG C.K C.cl n fn)) (hr : Room k X.A)
    (hb : Binds X.K fd ps []) (hx : Passes CX X E) (he : PE X o (rdE C E T1 fo))
    (ht : eval (.Call (.Attribute o m apos) [] [] pos) X.env = (do
      let ov ← eval o X.env
      standAt apos.atName
      let (f, first) ← holding [ov] (getMethod ov m pl)
      callWith pos f first (backTo pos (starEach [] X.env)) (backToKw pos (keywordEach [] X.env))) := by rfl) :
    PE X (.Call (.Attribute o m apos) [] [] pos) (rdE C E (T1 ++ ([] ++ Sl)) (mMeth Sl [] c m n fn fo mNil)) :=
  PE.wk (pe_meth0 (dvs := []) (pl := pl) he hc hm F hr hb .nil hx ht) fun σ H Q h => by
    obtain ⟨m0, e1, e2, S, w⟩ := rdMeth h
    refine ⟨m0, e1, e2, S, Want.imp w fun r env w v m' e3 e4 S' s ok => ?_⟩
    obtain ⟨a, dx, fs, q1, q2, q3, q4⟩ := w v m' e3 e4 S' s ok
    exact ⟨a, dx, fs, q1, q2, q3, rdNil q4⟩
def mMake (Sl : List Nat) (c n : Nat) (fn : List O → Rr) (fs : MA) : ME := fun env => (fs env).bind fun rs e =>
  match argsO e rs with
  | some os => if rs.length + 1 = n ∧ (slots rs).Nodup ∧ (∀ x ∈ slots rs, x ∈ Sl) then
      (match fn (.ins c [] [] :: os) with
      | .ok (.s .non) (self :: outs) => if outs.length + 1 = n then .ok self.rr (putOuts e rs outs) else .bad
      | .exc c ds (_ :: outs) => if outs.length + 1 = n then .exc c ds (putOuts e rs outs) else .bad
      | _ => .bad) else .bad
  | none => .bad
theorem make_post {m1 : Mo} {x dx : Addr} {ob1 ob2 : HO} {F' H' : Hp} {fp : Fp} (h1 : m1.H x = none) (h2 : m1.H dx = none) (G : GPost m1.F (upd (upd m1.H dx ob1) x ob2) (x :: fp) F' H') : GPost m1.F m1.H fp F' H' := by
  have ne : ∀ b o, m1.H b = some o → (upd (upd m1.H dx ob1) x ob2) b = some o ∧ b ≠ x := fun b o h => by
    have a1 : b ≠ x := fun z => by subst z; rw [h1] at h; cases h
    have a2 : b ≠ dx := fun z => by subst z; rw [h2] at h; cases h
    exact ⟨by rw [upd_ne a1, upd_ne a2]; exact h, a1⟩
  refine ⟨G.exF, G.ex, fun b o h n => ?_, fun b h => ?_, fun a h n => ?_⟩
  · obtain ⟨q1, q2⟩ := ne b o h
    exact G.keep b o q1 (fun z => (List.mem_cons.mp z).elim q2 n)
  · cases q : m1.H b with
    | none => exact absurd q h
    | some o => exact G.dom b (by rw [(ne b o q).1]; exact fun z => nomatch z)
  · cases q : m1.H a with
    | none => exact .inl rfl
    | some o =>
      obtain ⟨q1, q2⟩ := ne a o q
      rcases G.newF a h n with z | z
      · rw [q1] at z; cases z
      · exact .inr ((List.mem_cons.mp z).resolve_left q2)
theorem rdMake {c : Nat} {σ : L2.St} {H : Hp} {Q : VK} (h : rdE C E (T ++ Sl) (mMake Sl c n fn fs) σ H Q) : tMake (C.cl c) (spG C.K C.cl n fn) [] E (rdA C E T fs) σ H Q := by
  obtain ⟨m, e1, e2, S, w⟩ := h
  refine ⟨m, e1, e2, S, Want.imp w.bind fun rs env w => fun vs m' e3 e4 S' s ok => ?_⟩
  subst e3
  intro x dx hx hdx hne
  cases ho : argsO m'.env rs with
  | none => rw [ho] at w; exact w.elim
  | some os =>
    rw [ho] at w
    dsimp only at w
    by_cases hc : rs.length + 1 = n ∧ (slots rs).Nodup ∧ (∀ x ∈ slots rs, x ∈ Sl)
    · rw [if_pos hc] at w
      obtain ⟨c1, c2, c3⟩ := hc
      obtain ⟨fp, r1, r2, r3, r4⟩ := args_ok S' ok ho
      have hm : ∀ b o, m'.H b = some o → (upd (upd m'.H dx (.own x)) x (.ins (C.cl c) dx [])) b = some o := fun b o h => by
        have a1 : b ≠ x := fun z => by subst z; rw [hx] at h; cases h
        have a2 : b ≠ dx := fun z => by subst z; rw [hdx] at h; cases h
        rw [upd_ne a1, upd_ne a2]; exact h
      have fpi : ∀ a ∈ fp, a ∈ m'.fps.flatten := fun a ha => by
        obtain ⟨y, f, _, a2, a3⟩ := r2 a ha
        exact mem_fps a2 a3
      have xfp : x ∉ fp := fun z => S'.inH x (fpi x z) hx
      simp only [List.append_nil]
      refine ⟨m'.F, .ins c [] [] :: os, x :: fp, by rw [List.length_cons, argsO_len ho, c1], fun b o h => hm b o (S'.ex b o h), ?_, ?_, fun a ha => ?_, ?_⟩
      · refine ⟨_, _, [x], fp, rfl, rfl, ⟨x, dx, [], [], rfl, rfl, upd_same, rfl, rfl, rfl⟩, ?_⟩
        refine r1.mono (Ex.refl _) _ _ _ (fun b hb => ?_)
        cases q : m'.H b with
        | none => exact absurd q (S'.inH b (fpi b hb))
        | some o => exact hm b o q
      · exact List.nodup_cons.mpr ⟨xfp, r3 c2⟩
      · rcases List.mem_cons.mp ha with z | z
        · subst z; exact S'.fNone hx
        · exact S'.df a (fpi a z)
      · have tail : ∀ {F' H' : Hp} {fr fp' : Fp} {self : O} {outs : List O}, GPost m'.F (upd (upd m'.H dx (.own x)) x (.ins (C.cl c) dx [])) (x :: fp) F' H' → GOuts C.K C.cl (upd (upd m'.H dx (.own x)) x (.ins (C.cl c) dx [])) (x :: fp) F' H' (.ref x :: vs) (self :: outs) fr fp' →
            ∃ f g, RpO C.K C.cl F' H' self (.ref x) f ∧ GPost m'.F m'.H fp F' H' ∧ GOuts C.K C.cl m'.H fp F' H' vs outs f g := by
          intro F' H' fr fp' self outs G Go
          obtain ⟨v, r, f, g, ev, rfl, q1, q2⟩ := Go.rp
          cases ev
          have nd := Go.nd
          rw [List.nodup_append] at nd
          refine ⟨f, g, q1, make_post hx hdx G, q2, nd.2.1, fun a ha => Go.fF a (List.mem_append_right _ ha), fun a ha => ?_⟩
          cases q : m'.H a with
          | none => exact .inl rfl
          | some ob =>
            rcases Go.newO a (List.mem_append_right _ ha) with z | z
            · rw [hm a ob q] at z; cases z
            · exact .inr ((List.mem_cons.mp z).resolve_left fun y => by subst y; rw [hx] at q; cases q)
        cases hf : fn (.ins c [] [] :: os) with
        | bad => rw [hf] at w; exact w.elim
        | ok r outs0 =>
          rw [hf] at w
          split at w
          · rename_i self outs heq
            cases heq
            by_cases hl : outs.length + 1 = n
            · rw [if_pos hl] at w
              dsimp only
              intro v F' H' fr fp' G rr Go
              refine ⟨rr.2, ?_⟩
              obtain ⟨f, g, rr2, G2, Go2⟩ := tail G Go
              obtain ⟨m2, S2, s2, q1, q2, q3, q4, q5⟩ := call_ok (os := os) s S' ok r2 r4 c2 c3 G2 Go2 (by omega)
              have q := w (.ref x) m2 q4 (q3.trans e4) S2 s2
              subst q1 q2
              refine q ?_
              have own : RtOk C m2 (Old m) (.own self) (.ref x) := by
                have nd := Go2.nd
                rw [List.nodup_append] at nd
                refine ⟨f, rr2, nd.1, fun a ha => ⟨Go2.fF a (by simp [ha]), (q5 a ha).1, (q5 a ha).2.2, fun z => ?_⟩⟩
                rcases (q5 a ha).2.1 with y | y
                · exact z.1 y
                · exact z.2 y
              cases self with
              | s d => exact rr2.2
              | lst _ => exact own
              | dk _ _ => exact own
              | dt _ _ => exact own
              | ins _ _ _ => exact own
            · rw [if_neg hl] at w; exact w.elim
          · rename_i heq; cases heq
          · exact w.elim
        | exc c' ds outs0 =>
          rw [hf] at w
          split at w
          · rename_i heq; cases heq
          · rename_i c2' ds2 x0 outs heq
            cases heq
            by_cases hl : outs.length + 1 = n
            · rw [if_pos hl] at w
              dsimp only
              intro F' H' dd fp' G Go h1 h2
              obtain ⟨f, g, rr2, G2, Go2⟩ := tail G Go
              obtain ⟨m2, S2, s2, q1, q2, q3, q4, q5⟩ := call_ok (os := os) s S' ok r2 r4 c2 c3 G2 Go2 (by omega)
              subst q1 q2
              exact w m2 q4 S2 _ s2 dd h1 h2
            · rw [if_neg hl] at w; exact w.elim
          · exact w.elim
    · rw [if_neg hc] at w; exact w.elim
theorem e_make {CX : CXT} {k : Nat} {fa : Addr} {fd : FuncData} {ps : List Str} {x : Str} {p : Pos} (Sl : List Nat) (c : Nat) (M : Mk X.K (C.cl c) fa) (F : FnOk X.prog X.w X.K X.mg X.base CX k fa fd ps (spG C.K C.cl n fn)) (hr : Room (k + 1) X.A) (hg : Gl X x) (hm : X.mg x = some (.ref (C.cl c)))
    (hb : Binds X.K fd ps []) (hx : Passes CX X E) (ha : PA X (e :: es) (rdA C E T fs)) (hdb : (x == ("__debug__" : Str)) = false := by decide) (he : starEach (e :: es) X.env = (false, eval e X.env) :: starEach es X.env := by rfl) (hpl : (backTo pos (starEach es X.env)).any (·.1) = false := by rfl) :
    PE X (.Call (.Name x p) (e :: es) [] pos) (rdE C E (T ++ Sl) (mMake Sl c n fn fs)) :=
  PE.wk (pe_make (dvs := []) M F hr hg hm hb .nil hx ha hdb he hpl) fun σ H Q h => rdMake h
end
end L3
namespace L3
open PySem L2
section
variable {X : Cx} {C : Cn} {E : XK} {e a b o : Expr} {pos : Pos} {T T1 T2 T3 Sl : List Nat} {fs : MA} {es : List Expr} {f fo f1 f2 : ME} {n : Nat} {fn : List O → Rr}
def roRun (n : Nat) (fn : List O → Rr) (rs : List Rt) (e : Env) : Rs Rt :=
  if rs.length = n ∧ rs.all (fun r => !r.isSl) = true then (match fn (rs.map fun r => .s r.d) with
    | .ok (.s d) _ => if d.flat = true then .ok (.val d) e else .bad
    | .exc c ds _ => if ds.all D.flat = true then .exc c ds e else .bad
    | _ => .bad) else .bad
theorem RtsOk.rds {m : Mo} (S : Sta C m) : ∀ {rs : List Rt} {vs : List V}, RtsOk C m rs vs → rs.all (fun r => !r.isSl) = true → RpOs C.K C.cl m.H m.H (rs.map fun r => .s r.d) vs []
  | [], vs, h, _ => by cases h; exact ⟨rfl, rfl⟩
  | r :: rs, vs, h, q => by
    cases h with
    | cons h t =>
      rw [List.all_cons, Bool.and_eq_true] at q
      exact ⟨_, _, [], [], rfl, rfl, ⟨rfl, h.rd S (by simpa using q.1)⟩, t.rds S q.2⟩
theorem flat_any {K : PySem.W.Frag} {cl : Nat → Addr} {F F' : Hp} {d : D} {v : V} (h : RpD K cl F d v) (hf : d.flat = true) : RpD K cl F' d v := by
  cases d with
  | non => exact h
  | bl b => exact h
  | int b => exact h
  | str b => exact h
  | _ => cases hf
theorem ro_core {σ : L2.St} {Q : VK} {m m' : Mo} {rs : List Rt} {vs : List V} (s : Step T m m') (S' : Sta C m') (ok : RtsOk C m' rs vs) (e4 : m'.σ = σ)
    (w : Want C E m (roRun n fn rs m'.env) fun r env' => ∀ v m', m'.env = env' → m'.σ = σ → Sta C m' → Step T m m' → RtOk C m' (Old m) r v → Q v m'.H) : spG C.K C.cl n fn vs m'.H Q E := by
  unfold roRun at w
  by_cases hc : rs.length = n ∧ rs.all (fun r => !r.isSl) = true
  · rw [if_pos hc] at w
    refine ⟨m'.H, rs.map fun r => .s r.d, [], by simp [hc.1], Ex.refl _, ok.rds S' hc.2, List.nodup_nil, fun a ha => by simp at ha, ?_⟩
    have gro : ∀ {F' H' : Hp}, GPost m'.H m'.H [] F' H' → Gro m' { m' with H := H' } := fun {F' H'} G =>
      ⟨rfl, rfl, rfl, Ex.refl _, fun b o h => G.keep b o h (by simp), fun b o h => G.keep b o (S'.ex b o h) (by simp), fun a h n => absurd n h⟩
    cases hf : fn (rs.map fun r => .s r.d) with
    | bad => rw [hf] at w; exact w.elim
    | ok r outs =>
      rw [hf] at w
      cases r with
      | s d =>
        dsimp only at w ⊢
        by_cases hd : d.flat = true
        · rw [if_pos hd] at w
          intro v F' H' fr fp' G rr Go
          exact w v { m' with H := H' } rfl e4 (S'.gro (gro G)) (step_nil S' s (gro G)) (flat_any rr.2 hd)
        · rw [if_neg hd] at w; exact w.elim
      | lst _ => exact w.elim
      | dk _ _ => exact w.elim
      | dt _ _ => exact w.elim
      | ins _ _ _ => exact w.elim
    | exc c ds outs =>
      rw [hf] at w
      dsimp only at w ⊢
      by_cases hd : ds.all D.flat = true
      · rw [if_pos hd] at w
        intro F' H' dd fp' G Go h1 h2
        refine w { m' with H := H' } rfl (S'.gro (gro G)) _ (step_nil S' s (gro G)) dd h1 fun d hds => ?_
        obtain ⟨a, f, v, q1, q2, q3⟩ := h2 d hds
        subst hds
        exact ⟨a, f, v, q1, q2, flat_any q3 (by simpa using hd)⟩
      · rw [if_neg hd] at w; exact w.elim
  · rw [if_neg hc] at w; exact w.elim
def mRo (n : Nat) (fn : List O → Rr) (fs : MA) : ME := fun env => (fs env).bind fun rs e => roRun n fn rs e
theorem rdRo {σ : L2.St} {H : Hp} {Q : VK} (h : rdE C E T (mRo n fn fs) σ H Q) : rdA C E T fs σ H fun vs H1 => spG C.K C.cl n fn vs H1 Q E := by
  obtain ⟨m, e1, e2, S, w⟩ := h
  refine ⟨m, e1, e2, S, Want.imp w.bind fun rs env w => fun vs m' e3 e4 S' s ok => ?_⟩
  subst e3
  exact ro_core s S' ok e4 w
theorem e_ro {CX : CXT} {k : Nat} {fa : Addr} {fd : FuncData} {ps : List Str} {x : Str} {p : Pos} (F : FnOk X.prog X.w X.K X.mg X.base CX k fa fd ps (spG C.K C.cl n fn)) (hr : Room k X.A) (hg : Gl X x) (hm : X.mg x = some (.ref fa)) (hk : PySem.W.keepIn X.K (.ref fa) = true)
    (hb : Binds X.K fd ps []) (hx : Passes CX X E) (ha : PA X (e :: es) (rdA C E T fs)) (hst : starEach (e :: es) X.env = (false, eval e X.env) :: starEach es X.env := by rfl) (hpl : ((backTo pos (starEach es X.env)).any fun x => x.1) = false := by rfl)
    (hdb : (x == ("__debug__" : Str)) = false := by decide) : PE X (.Call (.Name x p) (e :: es) [] pos) (rdE C E T (mRo n fn fs)) :=
  PE.wk (pe_call (dvs := []) F hr hg hm hk hb .nil hx ha hdb hst hpl) fun σ H Q h => by
    show rdA C E T fs σ H fun vs H1 => spG C.K C.cl n fn (vs ++ []) H1 Q E
    simp only [List.append_nil]
    exact rdRo h
def roHas (c : Nat) (mn : Str) : D → Bool
  | .ins c' ns ds => decide (c' = c) && (lk ns ds mn).isNone
  | _ => false
def mMethR (T2 : List Nat) (c : Nat) (mn : Str) (n : Nat) (fn : List O → Rr) (fo : ME) (fs : MA) : ME := fun env => (fo env).bind fun r e1 =>
  if r.isSl = false ∧ r.hot T2 = false ∧ roHas c mn r.d = true then (fs e1).bind fun rs e2 => roRun n fn (r :: rs) e2 else .bad
theorem rdMethR {c : Nat} {mn : Str} {σ : L2.St} {H : Hp} {Q : VK} (h : rdE C E (T1 ++ T2) (mMethR T2 c mn n fn fo fs) σ H Q) :
    tMeth (C.cl c) mn (spG C.K C.cl n fn) [] E (rdE C E T1 fo) (rdA C E T2 fs) σ H Q := by
  obtain ⟨m, e1, e2, S, w⟩ := h
  refine ⟨m, e1, e2, S, Want.imp w.bind fun r env w => fun v m1 e3 e4 S1 s1 ok => ?_⟩
  subst e3
  by_cases hh : r.isSl = false ∧ r.hot T2 = false ∧ roHas c mn r.d = true
  · rw [if_pos hh] at w
    obtain ⟨h1, h2, h3⟩ := hh
    have rd := ok.rd S1 h1
    have rc : ∃ a dx fs, v = .ref a ∧ m1.H a = some (.ins (C.cl c) dx fs) ∧ fs.lookup mn = none := by
      unfold roHas at h3
      split at h3
      · rename_i c' ns ds hd
        rw [hd] at rd
        rw [Bool.and_eq_true] at h3
        have hc' : c' = c := by simpa using h3.1
        subst hc'
        obtain ⟨a, dx, xs, rfl, q, l, rr⟩ := rd
        exact ⟨a, dx, _, rfl, q, by rw [lk_zip]; exact lk_none rr.length.symm (by simpa using h3.2)⟩
      · cases h3
    obtain ⟨a, dx, fs', rfl, q1, q2⟩ := rc
    refine ⟨a, dx, fs', rfl, q1, q2, ?_⟩
    refine ⟨m1, rfl, e4, S1, Want.mono w.bind s1 fun rs0 env w => fun vs m2 f1 f2 S2 s2 ok2 => ?_⟩
    subst f1
    have okr := ok.step S1 s2 h2 (f2.trans e4.symm)
    simp only [List.append_nil]
    exact ro_core (T := T1 ++ T2) (s1.trans s2) S2 (.cons okr ok2) f2 w
  · rw [if_neg hh] at w; exact w.elim
theorem e_mthR {CX : CXT} {k : Nat} {fa : Addr} {fd : FuncData} {ps : List Str} {m : Str} {apos : Pos} {pl : Sem Bool} (c : Nat) (hc : Cls X.K (C.cl c)) (hm : Meth X.K (C.cl c) m fa) (F : FnOk X.prog X.w X.K X.mg X.base CX k fa fd ps (spG C.K C.cl n fn)) (hr : Room k X.A)
    (hb : Binds X.K fd ps []) (hx : Passes CX X E) (he : PE X o (rdE C E T1 fo)) (ha : PA X (e :: es) (rdA C E T2 fs)) (hst : starEach (e :: es) X.env = (false, eval e X.env) :: starEach es X.env := by rfl) (hpl : (backTo pos (starEach es X.env)).any (·.1) = false := by rfl)
    (ht : eval (.Call (.Attribute o m apos) (e :: es) [] pos) X.env = (do
      let ov ← eval o X.env
      standAt apos.atName
      let (f, first) ← holding [ov] (getMethod ov m pl)
      callWith pos f first (backTo pos (starEach (e :: es) X.env)) (backToKw pos (keywordEach [] X.env))) := by rfl) :
    PE X (.Call (.Attribute o m apos) (e :: es) [] pos) (rdE C E (T1 ++ T2) (mMethR T2 c m n fn fo fs)) :=
  PE.wk (pe_meth (dvs := []) (pl := pl) he hc hm F hr hb .nil hx ha hst hpl ht) fun σ H Q h => rdMethR h
theorem e_mthR0 {CX : CXT} {k : Nat} {fa : Addr} {fd : FuncData} {ps : List Str} {m : Str} {apos : Pos} {pl : Sem Bool} (c : Nat) (hc : Cls X.K (C.cl c)) (hm : Meth X.K (C.cl c) m fa) (F : FnOk X.prog X.w X.K X.mg X.base CX k fa fd ps (spG C.K C.cl n fn)) (hr : Room k X.A)
    (hb : Binds X.K fd ps []) (hx : Passes CX X E) (he : PE X o (rdE C E T1 fo))
    (ht : eval (.Call (.Attribute o m apos) [] [] pos) X.env = (do
      let ov ← eval o X.env
      standAt apos.atName
      let (f, first) ← holding [ov] (getMethod ov m pl)
      callWith pos f first (backTo pos (starEach [] X.env)) (backToKw pos (keywordEach [] X.env))) := by rfl) :
    PE X (.Call (.Attribute o m apos) [] [] pos) (rdE C E (T1 ++ []) (mMethR [] c m n fn fo mNil)) :=
  PE.wk (pe_meth0 (dvs := []) (pl := pl) he hc hm F hr hb .nil hx ht) fun σ H Q h => by
    obtain ⟨m0, e1, e2, S, w⟩ := rdMethR h
    refine ⟨m0, e1, e2, S, Want.imp w fun r env w v m' e3 e4 S' s ok => ?_⟩
    obtain ⟨a, dx, fs, q1, q2, q3, q4⟩ := w v m' e3 e4 S' s ok
    exact ⟨a, dx, fs, q1, q2, q3, rdNil q4⟩
end
def RtFp (C : Cn) (m : Mo) (m0 : Mo) (r : Rt) (v : V) (fp : Fp) : Prop :=
  match r with
  | .own o => RpO C.K C.cl m.F m.H o v fp ∧ fp.Nodup ∧ ∀ a ∈ fp, m.F a = none ∧ a ∉ m.fps.flatten ∧ (C.H0 a = none ∨ a ∈ C.io) ∧ ¬ Old m0 a
  | r => fp = [] ∧ RtOk C m (Old m0) r v
inductive RtsD (C : Cn) (m m0 : Mo) : List Rt → List V → Fp → Prop where
  | nil : RtsD C m m0 [] [] []
  | cons {r : Rt} {v : V} {rs : List Rt} {vs : List V} {f g : Fp} : RtFp C m m0 r v f → RtsD C m m0 rs vs g → (∀ a ∈ f, a ∉ g) → RtsD C m m0 (r :: rs) (v :: vs) (f ++ g)
theorem RtFp.of {C : Cn} {m m0 : Mo} {r : Rt} {v : V} (h : RtOk C m (Old m0) r v) : ∃ f, RtFp C m m0 r v f := by
  cases r with
  | own o => exact h
  | val d => exact ⟨[], rfl, h⟩
  | bor x p o => exact ⟨[], rfl, h⟩
  | sl x => exact ⟨[], rfl, h⟩
theorem RtFp.ok {C : Cn} {m m0 : Mo} {r : Rt} {v : V} {f : Fp} (h : RtFp C m m0 r v f) : RtOk C m (Old m0) r v := by
  cases r with
  | own o => exact ⟨f, h⟩
  | val d => exact h.2
  | bor x p o => exact h.2
  | sl x => exact h.2
def rdD (C : Cn) (E : XK) (T : List Nat) (f : MA) : TA := fun σ H Q => ∃ m : Mo, m.H = H ∧ m.σ = σ ∧ Sta C m ∧
  Want C E m (f m.env) fun rs env' => ∀ vs m' fp, m'.env = env' → m'.σ = σ → Sta C m' → Step T m m' → RtsD C m' m rs vs fp → Q vs m'.H
theorem RtFp.step {C : Cn} {T : List Nat} {m0 m m' : Mo} {r : Rt} {v : V} {f : Fp} (S : Sta C m) (h : RtFp C m m0 r v f) (t : Step T m m') (c : r.hot T = false) (hσ : m'.σ = m.σ) : RtFp C m' m0 r v f := by
  cases r with
  | own o =>
    obtain ⟨r, nd, k⟩ := h
    refine ⟨r.mono t.exF o v f (fun a ha => ?_), nd, fun a ha => ?_⟩
    · obtain ⟨_, k2, _⟩ := k a ha
      cases q : m.H a with
      | none => exact absurd q (r.inH o v f a ha)
      | some o => exact t.keep a o q k2
    · obtain ⟨k1, k2, k3⟩ := k a ha
      have hH := r.inH o v f a ha
      refine ⟨?_, fun z => ?_, k3⟩
      · exact Classical.byContradiction fun w => (t.newF a w k1).elim hH k2
      · exact (t.newO a z).elim hH k2
  | val d => exact ⟨h.1, h.2.step S t c hσ⟩
  | bor x p o => exact ⟨h.1, h.2.step S t c hσ⟩
  | sl x => exact ⟨h.1, h.2.step S t c hσ⟩
section
variable {X : Cx} {C : Cn} {E : XK} {e a b o : Expr} {pos : Pos} {T T1 T2 T3 Sl : List Nat} {fs : MA} {es : List Expr} {f fo f1 f2 : ME} {n : Nat} {fn : List O → Rr}
theorem rdNilD {σ : L2.St} {H : Hp} {Q : List V → Hp → Prop} (h : rdD C E [] mNil σ H Q) : tNil σ H Q := by
  obtain ⟨m, e1, e2, S, w⟩ := h
  subst e1
  exact w [] m [] rfl e2 S (Step.refl _ _) .nil
theorem old_trans {T : List Nat} {m m' : Mo} (s : Step T m m') {a : Addr} (h : Old m a) : Old m' a := ⟨s.dom a h.1, fun z => (s.newO a z).elim h.1 h.2⟩
theorem RtFp.old {m m0 m1 : Mo} {r : Rt} {v : V} {f : Fp} (h : RtFp C m m1 r v f) (k : ∀ a, Old m0 a → Old m1 a) : RtFp C m m0 r v f := by
  cases r with
  | own o => exact ⟨h.1, h.2.1, fun a ha => let ⟨q1, q2, q3, q4⟩ := h.2.2 a ha; ⟨q1, q2, q3, fun z => q4 (k a z)⟩⟩
  | val d => exact ⟨h.1, h.2.av k⟩
  | bor x p o => exact ⟨h.1, h.2.av k⟩
  | sl x => exact ⟨h.1, h.2.av k⟩
theorem RtsD.old {m m0 m1 : Mo} {rs : List Rt} {vs : List V} {f : Fp} (h : RtsD C m m1 rs vs f) (k : ∀ a, Old m0 a → Old m1 a) : RtsD C m m0 rs vs f := by
  induction h with
  | nil => exact .nil
  | cons a _ c ih => exact .cons (a.old k) ih c
theorem RtsD.notOld {m m0 : Mo} {rs : List Rt} {vs : List V} {f : Fp} (h : RtsD C m m0 rs vs f) : ∀ a ∈ f, ¬ Old m0 a := by
  induction h with
  | nil => intro a ha; simp at ha
  | cons a _ _ ih =>
    rename_i r v rs vs f g _ _
    intro b hb
    rcases List.mem_append.mp hb with z | z
    · cases r with
      | own o => exact (a.2.2 b z).2.2.2
      | val d => rw [a.1] at z; simp at z
      | bor x p o => rw [a.1] at z; simp at z
      | sl x => rw [a.1] at z; simp at z
    · exact ih b z
theorem rdConsD {σ : L2.St} {H : Hp} {Q : List V → Hp → Prop} (h : rdD C E (T1 ++ T2) (mCons T2 f fs) σ H Q) : tCons (rdE C E T1 f) (rdD C E T2 fs) σ H Q := by
  obtain ⟨m, e1, e2, S, w⟩ := h
  refine ⟨m, e1, e2, S, Want.imp w.bind fun rx env w => ?_⟩
  intro v m' e3 e4 S' s ok
  by_cases hh : rx.hot T2 = true
  · rw [if_pos hh] at w; exact w.elim
  rw [if_neg hh] at w
  obtain ⟨fr, ok⟩ := RtFp.of ok
  refine ⟨m', rfl, e4, S', ?_⟩
  rw [e3]
  refine Want.mono w.bind s fun ry env2 w => ?_
  intro v2 m2 fp e5 e6 S2 s2 ok2
  refine w (v :: v2) m2 (fr ++ fp) e5 e6 S2 (s.trans s2) (.cons (ok.step S' s2 (by simpa using hh) (e6.trans e4.symm)) (ok2.old fun a ha => old_trans s ha) fun a ha hb => ?_)
  -- what came later is not what was
  refine ok2.notOld a hb ?_
  cases rx with
  | own o => exact ⟨ok.1.inH o v fr a ha, (ok.2.2 a ha).2.1⟩
  | val d => rw [ok.1] at ha; simp at ha
  | bor x p o => rw [ok.1] at ha; simp at ha
  | sl x => rw [ok.1] at ha; simp at ha
theorem d_nil : PA X [] (rdD C E [] mNil) := PA.wk pa_nil fun _ _ _ h => rdNilD h
theorem d_cons (h : PE X e (rdE C E T1 f)) (hs : PA X es (rdD C E T2 fs)) (hst : starEach (e :: es) X.env = (false, eval e X.env) :: starEach es X.env := by rfl) : PA X (e :: es) (rdD C E (T1 ++ T2) (mCons T2 f fs)) :=
  PA.wk (pa_cons h hs hst) fun _ _ _ h => rdConsD h
end
end L3
namespace L3
open PySem L2
theorem RtsD.os {C : Cn} {m m0 : Mo} {rs : List Rt} {vs : List V} {fp : Fp} {os : List O} (h : RtsD C m m0 rs vs fp) : (rs.mapM Rt.o) = some os → RpOs C.K C.cl m.F m.H os vs fp ∧ fp.Nodup ∧ ∀ a ∈ fp, m.F a = none ∧ a ∉ m.fps.flatten ∧ (C.H0 a = none ∨ a ∈ C.io) ∧ ¬ Old m0 a := by
  induction h generalizing os with
  | nil => intro e; cases e; exact ⟨⟨rfl, rfl⟩, List.nodup_nil, fun a ha => by simp at ha⟩
  | cons a _ c ih =>
    rename_i r v rs vs f g _
    intro e
    rw [List.mapM_cons] at e
    cases ho : r.o with
    | none => rw [ho] at e; cases e
    | some o =>
      rw [ho] at e
      cases hr : rs.mapM Rt.o with
      | none => rw [hr] at e; cases e
      | some os' =>
        rw [hr] at e; cases e
        obtain ⟨i1, i2, i3⟩ := ih hr
        have key : RpO C.K C.cl m.F m.H o v f ∧ f.Nodup ∧ ∀ a ∈ f, m.F a = none ∧ a ∉ m.fps.flatten ∧ (C.H0 a = none ∨ a ∈ C.io) ∧ ¬ Old m0 a := by
          cases r with
          | own o' => cases ho; exact a
          | val d => cases ho; obtain ⟨rfl, a⟩ := a; exact ⟨⟨rfl, a⟩, List.nodup_nil, fun b hb => by simp at hb⟩
          | bor x p o' => cases ho
          | sl x => cases ho
        refine ⟨⟨v, vs, f, g, rfl, rfl, key.1, i1⟩, ?_, fun b hb => ?_⟩
        · rw [List.nodup_append]
          exact ⟨key.2.1, i2, fun x hx y hy e => c x hx (by rw [e]; exact hy)⟩
        · rcases List.mem_append.mp hb with z | z
          · exact key.2.2 b z
          · exact i3 b z
def mLstD (fs : MA) : ME := fun env => (fs env).bind fun rs e => match rs.mapM Rt.o with
  | some os => if os.length ≤ 16777216 then .ok (.own (.lst os)) e else .bad
  | none => .bad
section
variable {X : Cx} {C : Cn} {E : XK} {e a b o : Expr} {pos : Pos} {T T1 T2 T3 Sl : List Nat} {fs : MA} {es : List Expr} {f fo f1 f2 f3 : ME} {n : Nat} {fn : List O → Rr} {st : Stmt}
theorem e_lstD (h : PA X es (rdD C E T fs)) : PE X (.List es pos) (rdE C E T (mLstD fs)) := PE.wk (pe_lst h) fun σ H Q ⟨m, e1, e2, S, w⟩ =>
  ⟨m, e1, e2, S, Want.imp w.bind fun rs env w => fun vs m' fp e3 e4 S' s ok => by
    cases hm : rs.mapM Rt.o with
    | none => rw [hm] at w; exact w.elim
    | some os =>
      rw [hm] at w
      dsimp only at w
      by_cases hz : os.length ≤ 16777216
      · rw [if_pos hz] at w
        obtain ⟨r, nd, k⟩ := ok.os hm
        refine ⟨by rw [r.length, sizeLine_is]; exact hz, fun p hp => ?_⟩
        have G := gro_own (o := .lst vs) S' hp
        have pf : p ∉ fp := fun z => r.inH os vs fp p z hp
        refine w (.ref p) { m' with H := upd m'.H p (.lst vs) } (e3 : _ = env) e4 (S'.gro G) (step_nil S' s G) ⟨p :: fp, ⟨p, vs, fp, rfl, rfl, upd_same, r.upd pf⟩, List.nodup_cons.mpr ⟨pf, nd⟩, fun b hb => ?_⟩
        rcases List.mem_cons.mp hb with z | z
        · subst z
          exact ⟨S'.fNone hp, fun z => S'.inH b z hp, .inl (S'.h0None hp), fun z => s.dom b z.1 hp⟩
        · exact k b z
      · rw [if_neg hz] at w; exact w.elim⟩
def storeL : List Nat → List Rt → Env → Option Env
  | [], [], e => some e
  | i :: is, r :: rs, e => match r.o with
    | some o => storeL is rs (e.set i (some o))
    | none => none
  | _, _, _ => none
def setL : L2.St → List Nat → List V → L2.St
  | σ, i :: is, v :: vs => setL (σ.set i (some v)) is vs
  | σ, _, _ => σ
theorem RtFp.put {m m0 : Mo} {r : Rt} {v w : V} {f g : Fp} {i : Nat} {o : O} (h : RtFp C m m0 r v g) (hr : ∃ o, r.o = some o) (d : ∀ a ∈ f, a ∉ g) : RtFp C (m.put m.F m.H i o w f) m0 r v g := by
  cases r with
  | own o' =>
    refine ⟨h.1, h.2.1, fun a ha => ?_⟩
    obtain ⟨k1, k2, k3⟩ := h.2.2 a ha
    refine ⟨k1, fun z => ?_, k3⟩
    rcases mem_flat_set z with y | ⟨j, f', _, e, y⟩
    · exact d a y ha
    · exact k2 (mem_fps e y)
  | val d' => exact h
  | bor x p o' => obtain ⟨_, z⟩ := hr; cases z
  | sl x => obtain ⟨_, z⟩ := hr; cases z
theorem RtsD.put {m m0 : Mo} {rs : List Rt} {vs : List V} {w : V} {f g : Fp} {i : Nat} {o : O} (h : RtsD C m m0 rs vs g) : (∀ r ∈ rs, ∃ o, r.o = some o) → (∀ a ∈ f, a ∉ g) → RtsD C (m.put m.F m.H i o w f) m0 rs vs g := by
  induction h with
  | nil => intro _ _; exact .nil
  | cons a _ c ih =>
    intro h1 h2
    exact .cons (a.put (h1 _ (by simp)) fun b hb z => h2 b hb (by simp [z])) (ih (fun r hr => h1 r (by simp [hr])) fun b hb z => h2 b hb (by simp [z])) c
theorem storeL_o : ∀ {is : List Nat} {rs : List Rt} {e e' : Env}, storeL is rs e = some e' → ∀ r ∈ rs, ∃ o, r.o = some o
  | [], [], e, e', _ => fun r hr => by simp at hr
  | [], _ :: _, e, e', h => by cases h
  | _ :: _, [], e, e', h => by cases h
  | i :: is, r :: rs, e, e', h => by
    unfold storeL at h
    cases ho : r.o with
    | none => rw [ho] at h; cases h
    | some o =>
      rw [ho] at h
      intro r' hr'
      rcases List.mem_cons.mp hr' with z | z
      · rw [z]; exact ⟨o, ho⟩
      · exact storeL_o h r' z
theorem stores {m0 : Mo} : ∀ {is : List Nat} {m : Mo} {T : List Nat} {rs : List Rt} {vs : List V} {fp : Fp} {env' : Env}, Step T m0 m → Sta C m → RtsD C m m0 rs vs fp → storeL is rs m.env = some env' → (∀ i ∈ is, i < C.n ∧ i ∉ C.IO) →
    vs.length = is.length ∧ ∃ m', m'.env = env' ∧ m'.H = m.H ∧ m'.σ = setL m.σ is vs ∧ Sta C m' ∧ Step (T ++ is) m0 m'
  | [], m, T, rs, vs, fp, env', s, S, ok, h, hi => by
    cases ok with
    | nil =>
      have h : some m.env = some env' := h
      cases h
      exact ⟨rfl, m, rfl, rfl, rfl, S, by simpa using s⟩
    | cons _ _ _ => cases h
  | i :: is, m, T, rs, vs, fp, env', s, S, ok, h, hi => by
    cases ok with
    | nil => cases h
    | cons a b c =>
      rename_i r v rs vs f g
      have hall := storeL_o h
      unfold storeL at h
      cases ho : r.o with
      | none => rw [ho] at h; cases h
      | some o =>
        rw [ho] at h
        have h : storeL is rs (m.env.set i (some o)) = some env' := h
        obtain ⟨hn, hIO⟩ := hi i (by simp)
        have hi' : i < m.fps.length := by rw [S.l2, S.ln]; exact hn
        have hf := List.getElem?_eq_getElem hi'
        have key : RpO C.K C.cl m.F m.H o v f ∧ f.Nodup ∧ ∀ a ∈ f, m.F a = none ∧ a ∉ m.fps.flatten ∧ (C.H0 a = none ∨ a ∈ C.io) ∧ ¬ Old m0 a := by
          cases r with
          | own o' => cases ho; exact a
          | val d => cases ho; obtain ⟨rfl, a⟩ := a; exact ⟨⟨rfl, a⟩, List.nodup_nil, fun b hb => by simp at hb⟩
          | bor x p o' => cases ho
          | sl x => cases ho
        obtain ⟨S2, s2⟩ := put (i := i) (v' := v) s S hf (Ex.refl _) S.ex (fun _ _ h _ => h) (fun _ h => h) (fun a h n => absurd n h) key.1 key.2.1 (fun a h => (key.2.2 a h).1) (fun a h => .inr (.inr ⟨fun j f' e z => (key.2.2 a h).2.1 (mem_fps e z), by
          have q := (key.2.2 a h).2.2.2
          by_cases y : m0.H a = none
          · exact .inl y
          · exact .inr (Classical.byContradiction fun w => q ⟨y, w⟩), (key.2.2 a h).2.2.1⟩)) fun z => absurd z hIO
        obtain ⟨l, m', p1, p2, p3, p4, p5⟩ := stores (is := is) s2 S2 (b.put (fun r' hr' => hall r' (by simp [hr'])) c) h (fun j hj => hi j (by simp [hj]))
        exact ⟨by simp [l], m', p1, p2, p3, p4, by simpa using p5⟩
def msPar (is : List Nat) (fs : MA) : MS := fun env => (fs env).bind fun rs e => match storeL is rs e with
  | some e' => .ok .nx e'
  | none => .bad
theorem par_rd {is : List Nat} {D : Ends} {σ : L2.St} {H : Hp} (hi : ∀ i ∈ is, i < C.n ∧ i ∉ C.IO) (h : rdS C E (T ++ is) (msPar is fs) D σ H) : rdD C E T fs σ H fun vs H1 => vs.length = is.length ∧ D.nx (setL σ is vs) H1 := by
  obtain ⟨m, e1, e2, S, w⟩ := h
  refine ⟨m, e1, e2, S, Want.imp w.bind fun rs env w => fun vs m' fp e3 e4 S' s ok => ?_⟩
  subst e3
  cases hs : storeL is rs m'.env with
  | none => rw [hs] at w; exact w.elim
  | some env' =>
    rw [hs] at w
    obtain ⟨l, m2, p1, p2, p3, p4, p5⟩ := stores (T := T) s S' ok hs hi
    refine ⟨l, ?_⟩
    have := w m2 p1 p4 p5
    rw [← e4, ← p2, ← p3]
    exact this
theorem s_par2 {i j : Nat} (hi : ∀ x ∈ [i, j], x < C.n ∧ x ∉ C.IO) (h : PS X st (tPar i j (rdD C E T fs))) : PS X st (rdS C E (T ++ [i, j]) (msPar [i, j] fs)) := PS.wk h fun D σ H h => by
  obtain ⟨m, e1, e2, S, w⟩ := par_rd hi h
  refine ⟨m, e1, e2, S, Want.imp w fun rs env w => fun vs m' fp e3 e4 S' s ok => ?_⟩
  obtain ⟨l, q⟩ := w vs m' fp e3 e4 S' s ok
  match vs, l, q with
  | [v, w], _, q => exact ⟨v, w, rfl, q⟩
theorem s_par3 {i j k : Nat} (hi : ∀ x ∈ [i, j, k], x < C.n ∧ x ∉ C.IO) (h : PS X st (tPar3 i j k (rdD C E T fs))) : PS X st (rdS C E (T ++ [i, j, k]) (msPar [i, j, k] fs)) := PS.wk h fun D σ H h => by
  obtain ⟨m, e1, e2, S, w⟩ := par_rd hi h
  refine ⟨m, e1, e2, S, Want.imp w fun rs env w => fun vs m' fp e3 e4 S' s ok => ?_⟩
  obtain ⟨l, q⟩ := w vs m' fp e3 e4 S' s ok
  match vs, l, q with
  | [u, v, w], _, q => exact ⟨u, v, w, rfl, q⟩
theorem sets_names : ∀ {is : List Nat} {vs : List V} {σ : L2.St} {H : Hp} {Q : L2.St → Hp → Prop}, vs.length = is.length → Q (setL σ is vs) H → (is.foldr (fun i gs => gCons (gName i) gs) gNil) vs σ H Q
  | [], vs, σ, H, Q, l, q => by
    have : vs = [] := List.eq_nil_of_length_eq_zero l
    subst this
    exact ⟨rfl, q⟩
  | i :: is, [], σ, H, Q, l, q => by simp at l
  | i :: is, v :: vs, σ, H, Q, l, q => ⟨v, vs, rfl, sets_names (is := is) (by simpa using l) q⟩
theorem RtFp.gro {m m' m0 : Mo} {r : Rt} {v : V} {f : Fp} (S : Sta C m) (h : RtFp C m m0 r v f) (g : Gro m m') : RtFp C m' m0 r v f :=
  h.step S (g.step S) (by cases r <;> simp [Rt.hot]) g.σ
theorem RtsD.gro {m m' m0 : Mo} {rs : List Rt} {vs : List V} {f : Fp} (S : Sta C m) (h : RtsD C m m0 rs vs f) (g : Gro m m') : RtsD C m' m0 rs vs f := by
  induction h with
  | nil => exact .nil
  | cons a _ c ih => exact .cons (a.gro S g) ih c
theorem s_parN {is : List Nat} {k : Nat} (hk : k = is.length) (hz : is.length ≤ 1000) (hi : ∀ i ∈ is, i < C.n ∧ i ∉ C.IO) (h : PS X st (tAsg (tTup (rdD C E T fs)) (L2.gTup C.K k (is.foldr (fun i gs => gCons (gName i) gs) gNil)))) : PS X st (rdS C E (T ++ is) (msPar is fs)) := PS.wk h fun D σ H h => by
  obtain ⟨m, e1, e2, S, w⟩ := h
  refine ⟨m, e1, e2, S, Want.imp w.bind fun rs env w => fun vs m' fp e3 e4 S' s ok => ?_⟩
  subst e3
  cases hs : storeL is rs m'.env with
  | none => rw [hs] at w; exact w.elim
  | some env' =>
    rw [hs] at w
    have l0 := (stores (T := T) s S' ok hs hi).1
    refine ⟨by rw [l0, sizeLine_is]; omega, fun p hp => ?_⟩
    have G := gro_own (o := .tup vs) S' hp
    obtain ⟨l, m2, p1, p2, p3, p4, p5⟩ := stores (T := T) (m := { m' with H := upd m'.H p (.tup vs) }) (step_nil S' s G) (S'.gro G) (ok.gro S' G) hs hi
    refine ⟨p, vs, rfl, .inl (.inl upd_same), by rw [l, hk], sets_names l ?_⟩
    have := w m2 p1 p4 p5
    have q : D.nx m2.σ m2.H := this
    rw [p2, p3] at q
    rw [← e4]
    exact q
def msAug (i : Nat) (g : Rt → Rt → Option Rt) (f : ME) : MS := fun env => match env[i]? with
  | some (some (.s d)) => (f env).bind fun r e => match (g (.val d) r).bind Rt.o with
    | some o => .ok .nx (e.set i (some o))
    | none => .bad
  | _ => .bad
theorem s_aug (i : Nat) {g : Rt → Rt → Option Rt} {ti : TIp} (L : Loc2 C ti g) (hi : i < C.n) (hIO : i ∉ C.IO) (h : PS X st (tAug i (rdE C E T f) ti)) : PS X st (rdS C E (T ++ [i]) (msAug i g f)) := PS.wk h fun D σ H ⟨m, e1, e2, S, w⟩ => by
  subst e1 e2
  unfold msAug at w
  cases he : m.env[i]? with
  | none => rw [he] at w; exact w.elim
  | some oo =>
    cases oo with
    | none => rw [he] at w; exact w.elim
    | some o0 =>
      cases o0 with
      | s d =>
        rw [he] at w
        obtain ⟨v, f0, s1, s2, rfl, r⟩ := S.slot he
        refine ⟨v, s1, m, rfl, rfl, S, Want.imp w.bind fun ry env w => fun y m' e3 e4 S' s ok => ?_⟩
        subst e3
        cases hg : g (.val d) ry with
        | none => rw [hg] at w; exact w.elim
        | some rz =>
          rw [hg] at w
          refine L m' v y (.val d) ry rz (fun _ => True) _ _ S' (RpD.mono s.exF _ _ r) ok hg fun z m2 G ok2 => ?_
          simp only [Option.bind_some] at w
          cases ho : rz.o with
          | none => rw [ho] at w; exact w.elim
          | some o =>
            rw [ho] at w
            obtain ⟨fp, S3, s3⟩ := store_rd (i := i) (step_nil S' s G) (S'.gro G) (ok2.av (old_new s)) ho (by rw [(S'.gro G).ln]; exact hi) hIO
            have := w _ (by show m2.env.set i (some o) = _; rw [G.env]) S3 s3
            have q : D.nx (m2.σ.set i (some z)) m2.H := this
            rw [G.σ, e4] at q
            exact q
      | lst _ => rw [he] at w; exact w.elim
      | dk _ _ => rw [he] at w; exact w.elim
      | dt _ _ => rw [he] at w; exact w.elim
      | ins _ _ _ => rw [he] at w; exact w.elim
end
end L3
namespace L3
open PySem L2
def wipeE : Env → List Nat → Env
  | e, [] => e
  | e, v :: vs => wipeE (e.set v none) vs
def Mo.reset (m : Mo) (vs : List Nat) (σ' : L2.St) : Mo := { fgs m vs with σ := σ' }
theorem fgs_env : ∀ {vs : List Nat} {m : Mo}, (fgs m vs).env = wipeE m.env vs
  | [], m => rfl
  | v :: vs, m => fgs_env (vs := vs) (m := m.fg v)
theorem wipeE_none : ∀ {vs : List Nat} {e : Env} {i : Nat}, i ∈ vs → i < e.length → (wipeE e vs)[i]? = some none
  | [], e, i, h, _ => by simp at h
  | v :: vs, e, i, h, hl => by
    show (wipeE (e.set v none) vs)[i]? = some none
    by_cases q : i ∈ vs
    · exact wipeE_none q (by rw [List.length_set]; exact hl)
    · have hv : i = v := (List.mem_cons.mp h).resolve_right q
      subst hv
      have z : ∀ {vs : List Nat} {e : Env}, i ∉ vs → e[i]? = some none → (wipeE e vs)[i]? = some none := by
        intro vs
        induction vs with
        | nil => intro e _ h; exact h
        | cons v vs ih =>
          intro e hn h
          refine ih (fun q => hn (by simp [q])) ?_
          rw [List.getElem?_set_ne (fun q => hn (by simp [q]))]; exact h
      exact z q (by rw [List.getElem?_set_self hl])
theorem Sta.resig {C : Cn} {m : Mo} {σ' : L2.St} (S : Sta C m) (hl : σ'.length = m.σ.length) (h : ∀ i : Nat, σ'[i]? = m.σ[i]? ∨ m.env[i]? = some none) (hp : ∀ i ∈ C.IO, σ'[i]? = m.σ[i]?) : Sta C { m with σ := σ' } :=
  ⟨S.ln, by show σ'.length = _; rw [hl]; exact S.l1, S.l2, fun i o s f h1 h2 h3 => by
    rcases h i with e | e
    · exact S.sl i o s f h1 (by rw [← e]; exact h2) h3
    · have h1 : m.env[i]? = some o := h1
      rw [e] at h1; cases h1
      obtain ⟨o', s', q1, q2, q3⟩ := S.slotF h3
      rw [e] at q1; cases q1
      exact q3, S.ex, S.exF, S.newF, S.nd, S.dj, S.df, S.own, S.frame, S.dom, fun i hi => by show σ'[i]? = _; rw [hp i hi]; exact S.pin i hi⟩
theorem Step.resig {m0 m : Mo} {T : List Nat} {σ' : L2.St} (s : Step T m0 m) (h : ∀ i : Nat, i ∉ T → σ'[i]? = m.σ[i]?) : Step T m0 { m with σ := σ' } :=
  ⟨s.exF, s.keep, s.dom, s.newF, s.newO, s.len, fun i hi => by
    obtain ⟨u1, u2, u3, u4⟩ := s.unt i hi
    exact ⟨u1, u2, (h i hi).trans u3, u4⟩⟩
theorem reset_ok {C : Cn} {T : List Nat} {m0 m : Mo} {vs : List Nat} {σ' : L2.St} (s : Step T m0 m) (S : Sta C m) (hvs : ∀ v ∈ vs, v ∉ C.IO) (hl : σ'.length = m.σ.length) (h : ∀ j, j ∉ vs → σ'[j]? = m.σ[j]?) :
    Sta C (m.reset vs σ') ∧ Step (T ++ vs) m0 (m.reset vs σ') ∧ (m.reset vs σ').F = m.F ∧ (m.reset vs σ').H = m.H ∧ (m.reset vs σ').env = wipeE m.env vs ∧ ∀ a ∈ (m.reset vs σ').fps.flatten, a ∈ m.fps.flatten := by
  obtain ⟨S1, s1, e1, e2, e3, k, _⟩ := fgs_ok (xs := vs) s S
  have q1 : ∀ i : Nat, σ'[i]? = (fgs m vs).σ[i]? ∨ (fgs m vs).env[i]? = some none := fun i => by
    by_cases q : i ∈ vs
    · by_cases hi : i < m.env.length
      · right; rw [fgs_env]; exact wipeE_none q hi
      · left
        rw [e3, List.getElem?_eq_none (by rw [hl, S.l1]; omega), List.getElem?_eq_none (by rw [S.l1]; omega)]
    · left; rw [e3]; exact h i q
  exact ⟨S1.resig (by rw [hl, e3]) q1 (fun i hi => by rw [e3]; exact h i fun z => hvs i z hi), s1.resig (fun i hi => by rw [e3]; exact h i fun z => hi (by simp [z])), e1, e2, fgs_env, fun a ha => by
    obtain ⟨j, f, _, e, z⟩ := k a ha
    exact mem_fps e z⟩
theorem Sta.junk {C : Cn} {m : Mo} {d : Addr} {o : HO} (S : Sta C m) (hF : m.F d = none) (hp : d ∉ m.fps.flatten) (h0 : C.H0 d = none) : Sta C { m with H := upd m.H d o } :=
  ⟨S.ln, S.l1, S.l2, fun i oo s f h1 h2 h3 => by
    have q := S.sl i oo s f h1 h2 h3
    cases oo with
    | none => exact q
    | some t =>
      obtain ⟨v, e, r⟩ := q
      exact ⟨v, e, r.upd fun z => hp (mem_fps h3 z)⟩, fun a u h => by
    show upd m.H d o a = _
    rw [upd_ne (fun z => by subst z; rw [hF] at h; cases h)]; exact S.ex a u h, S.exF, S.newF, S.nd, S.dj, S.df, S.own, fun b u h n => by
    show upd m.H d o b = _
    rw [upd_ne (fun z => by subst z; rw [h0] at h; cases h)]; exact S.frame b u h n, fun b h => by
    show upd m.H d o b ≠ _
    rw [upd_ne (fun z => by subst z; exact h h0)]; exact S.dom b h, S.pin⟩
theorem Step.junk {C : Cn} {T : List Nat} {m0 m : Mo} {d : Addr} {o : HO} (S0 : Sta C m0) (s : Step T m0 m) (h0 : m0.H d = none) : Step T m0 { m with H := upd m.H d o } :=
  ⟨s.exF, fun b u h n => by
    show upd m.H d o b = _
    rw [upd_ne (fun z => by subst z; rw [h0] at h; cases h)]; exact s.keep b u h n, fun b h => by
    show upd m.H d o b ≠ _
    rw [upd_ne (fun z => by subst z; exact h h0)]; exact s.dom b h, s.newF, s.newO, s.len, fun i hi => by
    obtain ⟨u1, u2, u3, u4⟩ := s.unt i hi
    refine ⟨u1, u2, u3, fun f hf a ha => ?_⟩
    show upd m.H d o a = _
    rw [upd_ne (fun z => by subst z; exact S0.inH a (mem_fps hf ha) h0)]; exact u4 f hf a ha⟩
theorem wipe_get {σ : L2.St} : ∀ {vs : List Nat} {i : Nat}, i ∉ vs → (wipe σ vs)[i]? = σ[i]?
  | [], i, _ => rfl
  | v :: vs, i, h => by
    show ((wipe σ vs).set v none)[i]? = _
    rw [List.getElem?_set_ne (fun z => h (by simp [z]))]
    exact wipe_get fun z => h (by simp [z])
theorem wipe_in {σ : L2.St} : ∀ {vs : List Nat} {i : Nat}, i ∈ vs → i < σ.length → (wipe σ vs)[i]? = some none
  | [], i, h, _ => by simp at h
  | v :: vs, i, h, hl => by
    show ((wipe σ vs).set v none)[i]? = _
    by_cases q : v = i
    · subst q; rw [List.getElem?_set_self (by rw [wipe_length]; exact hl)]
    · rw [List.getElem?_set_ne q]
      exact wipe_in ((List.mem_cons.mp h).resolve_left fun z => q z.symm) hl
theorem wipe_ext {σ σ' : L2.St} {vs : List Nat} (hl : σ'.length = σ.length) (h : ∀ j, j ∉ vs → σ'[j]? = σ[j]?) : wipe σ' vs = wipe σ vs := by
  apply List.ext_getElem?
  intro i
  by_cases q : i ∈ vs
  · by_cases z : i < σ.length
    · rw [wipe_in q z, wipe_in q (by rw [hl]; exact z)]
    · rw [List.getElem?_eq_none (by rw [wipe_length, hl]; omega), List.getElem?_eq_none (by rw [wipe_length]; omega)]
  · rw [wipe_get q, wipe_get q, h i q]
def lcL (vs : List Nat) (set : D → Env → Option Env) (t : MT) (f : ME) : List D → Env → Rs (List D)
  | [], e => .ok [] e
  | d :: ds, e => match set d (wipeE e vs) with
    | none => .bad
    | some e1 => (t e1).bind fun b e2 => if b = true then (f e2).bind fun r e3 => (match r with
      | .val y => (lcL vs set t f ds e3).bind fun ys e4 => .ok (y :: ys) e4
      | _ => .bad) else lcL vs set t f ds e2
def mLc (Tb vs : List Nat) (set : D → Env → Option Env) (fi : MI) (t : MT) (f : ME) : ME := fun env => (fi env).bind fun src e => if src.hot Tb then .bad else if src.items.length ≤ 16777216 then
  (lcL vs set t f src.items e).bind fun ys e2 => .ok (.own (.lst (ys.map O.s))) (wipeE e2 vs) else .bad
def mYes : MT := fun env => .ok true env
section
variable {X : Cx} {C : Cn} {E : XK} {e a b tg : Expr} {pos : Pos} {T T1 T2 T3 Tt vs : List Nat} {fs : MA} {es : List Expr} {f f1 f2 : ME} {g : MS} {t : MT} {st : Stmt}
theorem PTs.wk {es : List Expr} {t t' : TT} (h : PTs X es t) (w : ∀ σ H Q, t' σ H Q → t σ H Q) : PTs X es t' := ⟨fun pins s σ H Q I q => h.run pins s σ H Q I (w σ H Q q)⟩
theorem ts_nil : PTs X [] (rdT C E [] mYes) := PTs.wk pts_nil fun σ H Q ⟨m, e1, e2, S, w⟩ => by
  subst e1
  exact w m rfl e2 S (Step.refl _ _)
theorem ts_one (h : PT X e (rdT C E T t)) : PTs X [e] (rdT C E T t) := pts_one h
theorem rdLc {set : D → Env → Option Env} {gt : TG} {fi : MI} {σ : L2.St} {H : Hp} {Q : VK} (hg : TgOk C gt Tt set) (hTt : ∀ i ∈ Tt, i ∈ vs) (hvs : ∀ i ∈ vs, i ∉ C.IO)
    (h : rdE C E (T1 ++ (vs ++ (Tt ++ (T2 ++ T3)))) (mLc (vs ++ (Tt ++ (T2 ++ T3))) vs set fi t f) σ H Q) : tLc (rdI C E T1 fi) gt (rdT C E T2 t) (rdE C E T3 f) vs σ H Q := by
  obtain ⟨m, e1, e2, S, w⟩ := h
  refine ⟨m, e1, e2, S, Want.imp w.bind fun src env w => fun J m1 e3 e4 S1 s1 jok => ?_⟩
  generalize hTb : vs ++ (Tt ++ (T2 ++ T3)) = Tb at w
  have tbv : ∀ i ∈ vs, i ∈ Tb := fun i hi => by rw [← hTb]; simp [hi]
  by_cases hh : src.hot Tb = true
  · rw [if_pos hh] at w; exact w.elim
  rw [if_neg hh] at w
  by_cases hz : src.items.length ≤ 16777216
  rotate_left
  · rw [if_neg hz] at w; exact w.elim
  rw [if_pos hz] at w
  have w := Want.bind w
  have hdep : ∀ x, src.dep = some x → x ∉ Tb := fun x hx z => hh (by unfold Src.hot; rw [hx]; simpa using z)
  subst e3
  intro d hd
  have dF : m1.F d = none := S1.fNone hd
  have d0 : C.H0 d = none := S1.h0None hd
  -- what stays true between the turns
  refine ⟨fun i n H' => n = src.items.length - i ∧ i ≤ src.items.length ∧ ∃ (m2 : Mo) (ds : List D) (xs : List V), m2.H = H' ∧ m2.σ.length = σ.length ∧ (∀ j, j ∉ vs → m2.σ[j]? = σ[j]?) ∧ Sta C m2 ∧ Step Tb m1 m2 ∧ m2.H d = some (.lst xs) ∧ m2.F d = none ∧ d ∉ m2.fps.flatten ∧
    RpDs C.K C.cl m2.F ds xs ∧ ds.length ≤ i ∧ Want C E m (lcL vs set t f (src.items.drop i) m2.env) fun ys env' => ∀ (m3 : Mo) (xs' : List V), m3.env = env' → m3.σ.length = σ.length → (∀ j, j ∉ vs → m3.σ[j]? = σ[j]?) → Sta C m3 → Step Tb m1 m3 → m3.H d = some (.lst xs') → m3.F d = none → d ∉ m3.fps.flatten →
      RpDs C.K C.cl m3.F (ds ++ ys) xs' → Q (.ref d) m3.H, ⟨_, rfl, Nat.zero_le _, { m1 with H := upd m1.H d (.lst []) }, [], [], rfl, by rw [← e4], fun j _ => by rw [← e4], S1.gro (gro_own S1 hd), ((gro_own S1 hd).step S1).wk (by simp), upd_same, dF, fun z => S1.inH d z hd, rfl, Nat.le_refl _, ?_⟩, ?_⟩
  · rw [List.drop_zero]
    refine Want.imp w fun ys env' w m3 xs' a1 a2 a3 a4 a5 a6 a7 a8 a9 => ?_
    -- the end
    obtain ⟨S4, s4, b1, b2, b3, b4⟩ := reset_ok (σ' := σ) a5 a4 hvs (by rw [a2]) (fun j hj => (a3 j hj).symm)
    rw [List.nil_append] at a9
    have s5 : Step (T1 ++ Tb) m (m3.reset vs σ) := (s1.trans s4).wk fun i hi => by
      simp only [List.mem_append] at hi ⊢
      rcases hi with z | z | z
      · exact .inl z
      · exact .inr z
      · exact .inr (tbv i z)
    have := w (.ref d) (m3.reset vs σ) (by rw [b3, a1]) rfl S4 (hTb ▸ s5) ⟨[d], ⟨d, xs', [], rfl, rfl, by rw [b2]; exact a6, by rw [b1]; exact a9.os⟩, by simp, fun a ha => by
      have ha : a = d := by simpa using ha
      subst ha
      exact ⟨by rw [b1]; exact a7, fun z => a8 (b4 a z), .inl d0, fun z => s1.dom a z.1 hd⟩⟩
    rw [b2] at this
    exact this
  · rintro i n H' ⟨rfl, hi, m2, ds, xs, rfl, hl, hσ, S2, s2, hD, hF, hp, r2, hds, w2⟩
    have hdepJ : ∀ x, src.dep = some x → x ∉ Tb := hdep
    obtain ⟨j1, j2⟩ := jok m2 Tb S2 s2 rfl hdepJ i
    by_cases hlt : i < src.items.length
    · obtain ⟨go, yl⟩ := j1 src.items[i] (List.getElem?_eq_getElem hlt)
      rw [List.drop_eq_getElem_cons hlt] at w2
      unfold lcL at w2
      refine .inr ⟨go, fun H' => ∃ (m3 : Mo) (ds : List D) (xs : List V), m3.H = H' ∧ m3.σ.length = σ.length ∧ (∀ j, j ∉ vs → m3.σ[j]? = σ[j]?) ∧ Sta C m3 ∧ Step Tb m1 m3 ∧ m3.H d = some (.lst xs) ∧ m3.F d = none ∧ d ∉ m3.fps.flatten ∧
        RpDs C.K C.cl m3.F ds xs ∧ ds.length ≤ i + 1 ∧ Want C E m (lcL vs set t f (src.items.drop (i + 1)) m3.env) fun ys env' => ∀ (m3 : Mo) (xs' : List V), m3.env = env' → m3.σ.length = σ.length → (∀ j, j ∉ vs → m3.σ[j]? = σ[j]?) → Sta C m3 → Step Tb m1 m3 → m3.H d = some (.lst xs') → m3.F d = none → d ∉ m3.fps.flatten →
          RpDs C.K C.cl m3.F (ds ++ ys) xs' → Q (.ref d) m3.H, fun H' q => ⟨_, by omega, rfl, hlt, q⟩, fun x H' y => ?_⟩
      obtain ⟨m3, rfl, G, rx⟩ := yl x H' y
      have s3 : Step Tb m1 m3 := step_nil S2 s2 G
      have S3 := S2.gro G
      have wl : (wipe σ vs).length = m3.σ.length := by rw [wipe_length, G.σ, hl]
      obtain ⟨S4, s4, b1, b2, b3, b4⟩ := reset_ok (σ' := wipe σ vs) s3 S3 hvs wl (fun j hj => by rw [wipe_get hj, G.σ]; exact (hσ j hj).symm)
      have s4 : Step Tb m1 (m3.reset vs (wipe σ vs)) := s4.wk fun i hi => (List.mem_append.mp hi).elim id (tbv i)
      have s24 : Step vs m2 (m3.reset vs (wipe σ vs)) := by
        have := (reset_ok (σ' := wipe σ vs) (G.step S2) S3 hvs wl (fun j hj => by rw [wipe_get hj, G.σ]; exact (hσ j hj).symm)).2.1
        simpa using this
      cases hs : set src.items[i] (wipeE m2.env vs) with
      | none => rw [hs] at w2; exact w2.elim
      | some e1' =>
        rw [hs] at w2
        have w2 := Want.bind w2
        have dne : m2.H d ≠ none := by rw [hD]; exact fun z => nomatch z
        rw [← b2]
        refine hg (m3.reset vs (wipe σ vs)) _ x e1' _ S4 (by rw [b1]; exact rx) (by rw [b3, G.env]; exact hs) fun m4 a1 a2 a3 a4 => ?_
        have s5 : Step (Tb ++ Tt) m1 m4 := a4 _ _ s4
        have s5 : Step Tb m1 m4 := s5.wk fun i hi => (List.mem_append.mp hi).elim id fun z => tbv i (hTt i z)
        have s25 : Step (vs ++ Tt) m2 m4 := a4 _ _ s24
        have sig4 : m4.σ.length = σ.length ∧ ∀ j, j ∉ vs → m4.σ[j]? = σ[j]? := by
          have q := a4 [] _ (Step.refl [] (m3.reset vs (wipe σ vs)))
          refine ⟨?_, fun j hj => ?_⟩
          · rw [a3.l1, q.len, ← S4.l1]; exact wipe_length σ vs
          · rw [(q.unt j (by simpa using fun z => hj (hTt j z))).2.2.1]
            show (wipe σ vs)[j]? = _
            exact wipe_get hj
        refine ⟨wipe_ext sig4.1 sig4.2, m4, rfl, rfl, a3, ?_⟩
        rw [a1]
        refine Want.mono w2 (s1.trans s5) fun b env' w m5 c1 c2 S5 s6 => ?_
        subst c1
        have s7 : Step Tb m1 m5 := (s5.trans s6).wk fun i hi => (List.mem_append.mp hi).elim id fun z => by rw [← hTb]; simp [z]
        have s27 := s25.trans s6
        have d7 : m5.H d = some (.lst xs) := s27.keep d _ hD hp
        have F7 : m5.F d = none := Classical.byContradiction fun z => (s27.newF d z hF).elim dne hp
        have p7 : d ∉ m5.fps.flatten := fun z => (s27.newO d z).elim dne hp
        cases b with
        | false =>
          dsimp only
          rw [if_neg Bool.false_ne_true] at w ⊢
          exact ⟨m5, ds, xs, rfl, by rw [c2]; exact sig4.1, by rw [c2]; exact sig4.2, S5, s7, d7, F7, p7, r2.mono s27.exF _ _, by omega, w⟩
        | true =>
          dsimp only
          rw [if_pos rfl] at w ⊢
          refine ⟨m5, rfl, c2, S5, ?_⟩
          refine Want.mono w.bind (s1.trans s7) fun r env2 w v m6 c3 c4 S6 s8 ok => ?_
          subst c3
          have s9 : Step Tb m1 m6 := (s7.trans s8).wk fun i hi => (List.mem_append.mp hi).elim id fun z => by rw [← hTb]; simp [z]
          have s29 := s27.trans s8
          have d9 : m6.H d = some (.lst xs) := s29.keep d _ hD hp
          have F9 : m6.F d = none := Classical.byContradiction fun z => (s29.newF d z hF).elim dne hp
          have p9 : d ∉ m6.fps.flatten := fun z => (s29.newO d z).elim dne hp
          split at w
          · rename_i yd
            have rl := r2.length
            have r9 : RpDs C.K C.cl m6.F (ds ++ [yd]) (xs ++ [v]) := by
              have := r2.mono s29.exF
              exact RpDs.append this ⟨v, [], rfl, ok, rfl⟩
            refine ⟨xs, d9, by rw [sizeLine_is, rl]; omega, { m6 with H := upd m6.H d (.lst (xs ++ [v])) }, ds ++ [yd], xs ++ [v], rfl, by show m6.σ.length = _; rw [c4]; exact sig4.1, by show ∀ j, j ∉ vs → m6.σ[j]? = _; rw [c4]; exact sig4.2, S6.junk F9 p9 d0, Step.junk S1 s9 hd, upd_same, F9, p9, r9, by simp; omega, ?_⟩
            refine Want.imp w.bind fun ys env' w m8 xs' a1 a2 a3 a4 a5 a6 a7 a8 a9 => ?_
            exact w m8 xs' a1 a2 a3 a4 a5 a6 a7 a8 (by rw [List.append_assoc] at a9; exact a9)
          · exact w.elim
    · have e : i = src.items.length := by omega
      subst e
      rw [List.drop_length] at w2
      refine .inl ⟨j2 rfl, w2 m2 xs rfl hl hσ S2 s2 hD hF hp (by rw [List.append_nil]; exact r2)⟩
end
end L3
namespace L3
open PySem PySem.Spec PyProof.Rows L2
def SqB (t : Bool) (K : PySem.W.Frag) (H : Hp) (a : Addr) (xs : List V) : Prop := if t = true then SqT K H a xs else SqL K H a xs
def IsB (t : Bool) (h : Heap) (a : Addr) (its : Array Value) : Prop := if t = true then h.IsTuple a its else h.IsList a its
def ItB (t : Bool) (h : Heap) (it a : Addr) (i : Nat) : Prop := if t = true then h.IsTupleIter it a i else h.IsListIter it a i
theorem ItB.obj {t : Bool} {h : Heap} {it a : Addr} {i : Nat} (x : ItB t h it a i) : ∃ o, h.get? it = some o ∧ o.data = .fields #[.ref a, .int i 0] ∧ o.cls = .type (if t = true then "tuple_iterator" else "list_iterator") := by
  cases t with
  | true => obtain ⟨o, e, c, d⟩ := x; exact ⟨o, e, d, c⟩
  | false => obtain ⟨o, e, c, d⟩ := x; exact ⟨o, e, d, c⟩
theorem ItB.at {t : Bool} {h h' : Heap} {it a : Addr} {i : Nat} (x : ItB t h it a i) (k : ∀ o, h.get? it = some o → h'.get? it = some o) : ItB t h' it a i := by
  cases t with
  | true => obtain ⟨o, e, c, d⟩ := x; exact ⟨o, k o e, c, d⟩
  | false => obtain ⟨o, e, c, d⟩ := x; exact ⟨o, k o e, c, d⟩
theorem IsB.obj {t : Bool} {h : Heap} {a : Addr} {its : Array Value} (x : IsB t h a its) : ∃ o, h.get? a = some o ∧ (∃ n, o.data = .seq its n) ∧ o.cls = .type (if t = true then "tuple" else "list") := by
  cases t with
  | true => obtain ⟨o, e, c, d⟩ := x; exact ⟨o, e, d, c⟩
  | false => obtain ⟨o, e, c, d⟩ := x; exact ⟨o, e, d, c⟩
theorem ItB.ne {t t' : Bool} {h : Heap} {it a b : Addr} {i : Nat} {its : Array Value} (x : ItB t h it a i) (y : IsB t' h b its) : b ≠ it := fun e => by
  subst e
  obtain ⟨o, e1, d1, _⟩ := x.obj
  obtain ⟨o', e2, ⟨n, d2⟩, _⟩ := y.obj
  rw [e1] at e2; cases e2
  rw [d1] at d2; cases d2
def drawsB {prog : Program} {w : World} {A : Around} (hh : A.handled = none) (t : Bool) (it a : Addr) (hne : a ≠ it) (its : Array Value) : Draws prog w A it [it, a] its.size (fun i v => its[i]? = some v) (fun i h => ItB t h it a i ∧ IsB t h a its) := by
  cases t with
  | true => exact Draws.tuple hh it a hne its
  | false => exact Draws.list hh it a hne its
theorem beginsB (t : Bool) (a : Addr) (its : Array Value) : Begins (.ref a) { cls := .type (if t = true then "tuple_iterator" else "list_iterator"), data := .fields #[.ref a, .int 0 0] } fun h => IsB t h a its := by
  cases t with
  | true => exact begins_tuple a its
  | false => exact begins_list a its
theorem seqB {X : Cx} {pins : List (Addr × Obj)} {σ : L2.St} {H : Hp} {s : Shared} {t : Bool} {a : Addr} {xs : List V} (I : Inv X pins σ H s) (h : SqB t X.K H a xs) : ∃ its : List Value, Vals xs its ∧ IsB t s.heap a its.toArray := by
  cases t with
  | true => obtain ⟨its, r, p, _⟩ := I.tuple h; exact ⟨its, r, p⟩
  | false => obtain ⟨its, r, p, _⟩ := I.list h; exact ⟨its, r, p.isList⟩
theorem seqB_inj {X : Cx} {pins : List (Addr × Obj)} {σ : L2.St} {H : Hp} {s : Shared} {t : Bool} {a : Addr} {xs ys : List V} (I : Inv X pins σ H s) (h : SqB t X.K H a xs) (h' : SqB t X.K H a ys) : xs = ys := by
  cases t with
  | true => exact I.tuple_inj h h'
  | false => exact I.list_inj h h'

def IteG (K : PySem.W.Frag) (t : Bool) (a : Addr) : It :=
  ⟨fun i H => ∃ (xs : List V) (x : V), SqB t K H a xs ∧ xs[i]? = some x, fun i H v H' => ∃ T x, v = .ref T ∧ H T = none ∧ H' = upd H T (.tup [.int (i : Nat), x]) ∧ ∀ xs, SqB t K H a xs → xs[i]? = some x, fun i H => ∃ xs : List V, SqB t K H a xs ∧ xs.length = i⟩
theorem turn_enumG {P : Program} {w : World} {K : PySem.W.Frag} {t : Bool} {elts : List Expr} {kk : Nat} {tpos : Pos} (a e it : Addr) :
    Turn P w K (.Tuple elts kk tpos) (IteG K t a) [e, it] e (fun i h => (∃ old, IsEnum h e it ((i : Nat) : Int) old) ∧ ItB t h it a i ∧ e ≠ it) where
  mem := by simp
  obj := fun i h st b hb => by
    obtain ⟨⟨old, he⟩, hit, _⟩ := st
    obtain ⟨o, ho, hd, hc⟩ := hit.obj
    have e' : b = e ∨ b = it := by simpa using hb
    rcases e' with z | z
    · rw [z]; exact ⟨_, he, fun v q => nomatch q⟩
    · rw [z]; exact ⟨o, ho, fun v q => by rw [hd] at q; cases q⟩
  keep := fun i h h' st k => let ⟨⟨old, he⟩, hi, hne⟩ := st; ⟨⟨old, k e (by simp) _ he⟩, hi.at fun o q => k it (by simp) o q, hne⟩
  item := by
    intro X hP hw hK hc i pins s σ H E I hf st hg
    subst hP hw hK
    obtain ⟨⟨old, he⟩, hit, hne⟩ := st
    obtain ⟨xs, x, hq, hx⟩ := hg
    obtain ⟨its, rv, p⟩ := seqB I hq
    obtain ⟨u, hu, ru⟩ := rv.get hx
    have hel : e < s.heap.objs.size := Heap.lt_size he
    have hil : it < s.heap.objs.size := by obtain ⟨_, q, _⟩ := hit.obj; exact Heap.lt_size q
    have nai := hit.ne p
    have hlt : i < its.toArray.size := by
      have := (List.getElem?_eq_some_iff.mp hu).1
      simpa using this
    have hea : e ≠ a := fun z => by
      subst z
      obtain ⟨o', e2, ⟨n, d2⟩, _⟩ := p.obj
      rw [he] at e2; cases e2
      cases d2
    refine wpAny_pyNext_enum_itemC (drawsB (show X.A.in1.handled = none from I.ok.hd hc) t it a nai its.toArray) he ⟨hit, p⟩ hlt hne (by simp [hne, hea]) fun x' h' tk hP ho hit' hT hsz hk => ?_
    have hx' : x' = u := by
      have q : its.toArray[i]? = some x' := hP
      rw [List.getElem?_toArray, hu] at q
      exact (Option.some.inj q).symm
    subst hx'
    refine ⟨_, rfl, wpAny_letOwnedTupleGo_enum (s := { s with heap := h', toks := tk + 1 }) ho fun h'' he' sb => ?_⟩
    have hT2 : h''.get? s.heap.objs.size = some { cls := .type "tuple", data := .seq #[.int i tk, x'] } := (sb.2 _ (Nat.ne_of_gt hel)).trans hT
    have new : ObjOk X.prog X.w (upd H s.heap.objs.size (.tup [.int (i : Nat), x])) h'' s.heap.objs.size (.tup [.int (i : Nat), x]) :=
      ⟨by show 2 ≤ sizeLine; decide, [.int i tk, x'], .cons ⟨_, rfl⟩ (.cons ru .nil), ⟨_, hT2, rfl, _, rfl⟩⟩
    have I1 : Inv X pins σ (upd H s.heap.objs.size (.tup [.int (i : Nat), x])) { s with heap := h'', toks := tk + 1 } :=
      I.turnedNew (ch := [e, it]) (fun b ob hb q => (sb.2 b (fun z => hb (by simp [z]))).trans (hk b ob (fun z => hb (by simp [z])) (fun z => hb (by simp [z])) q)) hf (Nat.le_refl _) new
    refine ⟨.ref s.heap.objs.size, _, I1, rfl, ⟨_, x, rfl, I.hok.fresh (Nat.le_refl _), rfl, fun ys hy => by rw [seqB_inj I hy hq]; exact hx⟩, ⟨⟨x', ?_⟩, hit'.1.at fun o q => (sb.2 it (Ne.symm hne)).trans q, hne⟩, fun b hb => ?_⟩
    · have e1 : ((i + 1 : Nat) : Int) = (i : Int) + 1 := by omega
      rw [e1]; exact he'
    · have hb' : b < s.heap.objs.size := by
        have e' : b = e ∨ b = it := by simpa using hb
        rcases e' with z | z
        · rw [z]; exact hel
        · rw [z]; exact hil
      rw [upd_ne (Nat.ne_of_lt hb')]
      exact (hf b hb).1
  done := by
    intro X hP hw hK hc i pins s σ H E I hf st hg
    subst hP hw hK
    obtain ⟨⟨old, he⟩, hit, hne⟩ := st
    obtain ⟨xs, hq, hx⟩ := hg
    obtain ⟨its, rv, p⟩ := seqB I hq
    obtain ⟨f0, f1, f2, f3, f4, f5⟩ := hf it (by simp)
    have hl := rv.length
    have hsz : i = its.toArray.size := by simp; omega
    subst hsz
    exact wpAny_pyNext_enum_endD (drawsB (show X.A.in1.handled = none from I.ok.hd hc) t it a (hit.ne p) its.toArray) he ⟨hit, p⟩ fun h' eb => ⟨rfl, I.turned (t' := s.toks) (fun b o hb q => eb b o hb q) f0 f1 f3 f4 f5⟩
  self := fun A i s Q E st h => let ⟨⟨_, he⟩, _⟩ := st; wpAny_pyIter_enum he h
theorem meets_enum1 {v : Value} {o : Obj} {H : Heap → Prop} (B : Begins v o H) :
    Meets (Builtin.«enumerate.__new__» ⟨[.type "enumerate", v], []⟩) (fun _ R s => H s.heap ∧
      R (.ok (.ret (.ref (s.heap.push o).objs.size))) { s with heap := (s.heap.push o).push { cls := .type "enumerate", data := .fields #[.none, .bool false, .ref s.heap.objs.size, rawInt 0, .none, .none] } }) :=
  .of_wp fun prog w A R s h => by
    obtain ⟨hp, g, d, tk, os⟩ := s; obtain ⟨h1, h⟩ := h
    have hsub := sub_enumerate
    have q1 : ∀ {A' : Around} {E : Value → Shared → Prop} {Q : Value → Shared → Prop}, Q (.ref hp.objs.size) ⟨hp.push o, g, d, tk, os⟩ → wpAny (model prog w) A' (pyIter v) Q E ⟨hp, g, d, tk, os⟩ :=
      fun q => B.iter prog w _ _ ⟨hp, g, d, tk, os⟩ _ h1 q
    wp_walk using q1
    refine wpAny_stack_any fun st => wpAny_pure ?_
    split
    · rename_i c _ _ _ _ _
      cases (c == Value.type "enumerate")
      · wp_walk using q1
        exact ⟨_, rfl, h⟩
      · wp_walk using q1
        exact ⟨_, rfl, h⟩
    · wp_walk using q1
      exact ⟨_, rfl, h⟩
theorem call_enum1 {prog : Program} {w : World} {A : Around} {E : Value → Shared → Prop} {s : Shared} {v : Value} {o : Obj} {H : Heap → Prop} {Q : Value → Shared → Prop} (B : Begins v o H) (h1 : H s.heap)
    (h : ∀ h', IsEnum h' (s.heap.objs.size + 1) s.heap.objs.size 0 .none → h'.get? s.heap.objs.size = some o → h'.objs.size = s.heap.objs.size + 2 →
      (∀ b o, s.heap.get? b = some o → h'.get? b = some o) → Q (.ref (s.heap.objs.size + 1)) { s with heap := h' }) :
    wpAny (model prog w) A (call (.type "enumerate") [v]) Q E s := by
  refine callType_new F.called_enumerate (by decide) (F.typeCall_enumerate_1 _) (F.newCall_enumerate_1 _) (fun obj => F.args_object_init_2 obj _) F.entry_enumerate_new (meets_enum1 B) ⟨h1, ?_⟩
  have hz : (s.heap.push o).objs.size = s.heap.objs.size + 1 := Heap.size_push ..
  show _ ∧ _
  rw [hz]
  have he : IsEnum ((s.heap.push o).push { cls := .type "enumerate", data := .fields #[.none, .bool false, .ref s.heap.objs.size, rawInt 0, .none, .none] }) (s.heap.objs.size + 1) s.heap.objs.size 0 .none := by
    have := Heap.get?_push_size (s.heap.push o) (o := { cls := .type "enumerate", data := .fields #[.none, .bool false, .ref s.heap.objs.size, rawInt 0, .none, .none] }) rfl
    rw [hz] at this; exact this
  exact ⟨⟨_, he, rfl⟩, h _ he (Heap.get?_push_of_some _ (Heap.get?_push_size _ B.free)) (by rw [Heap.size_push, hz]) fun b o x => Heap.get?_push_of_some _ (Heap.get?_push_of_some _ x)⟩
def iEnumG (K : PySem.W.Frag) (ta : TA) : TI := fun σ H R => ta σ H fun vs H1 => ∃ t a xs, vs = [.ref a] ∧ SqB t K H1 a xs ∧ R (IteG K t a) H1
theorem pi_enumG {X : Cx} {e : Expr} {ta : TA} {p pos tpos : Pos} {elts : List Expr} {kk : Nat} (hg : Gl X "enumerate") (hm : X.mg "enumerate" = none) (ha : PA X [e] ta) (hs : starEach [e] X.env = [(false, eval e X.env)] := by rfl) :
    PI X (.Tuple elts kk tpos) (.Call (.Name "enumerate" p) [e] [] pos) (iEnumG X.K ta) := by
  refine ⟨fun pins s σ H R I h => ?_⟩
  refine Call_ (ld_blt I hg hm boot_enumerate (PyProof.Rows.callWith_type1 (thn (ha.run pos pins s σ H _ I h) fun us s1 ⟨vs, H1, I1, r1, q1⟩ => ?_) hs rfl))
  obtain ⟨t, a, xs, ex, hq, q⟩ := q1
  subst ex
  cases r1 with
  | cons r rr =>
    cases rr
    cases r
    obtain ⟨its, rv, p'⟩ := seqB I1 hq
    refine call_enum1 (beginsB t a its.toArray) p' fun h' he hit hsz hk => wpAny_pyIter_enum he ?_
    have I2 : Inv X pins σ H1 { s1 with heap := h' } := I1.kept (t' := s1.toks) hk
    have hit' : ItB t h' s1.heap.objs.size a 0 := by
      cases t with
      | true => exact ⟨_, hit, rfl, rfl⟩
      | false => exact ⟨_, hit, rfl, rfl⟩
    refine ⟨s1.heap.objs.size + 1, [s1.heap.objs.size + 1, s1.heap.objs.size], _, _, H1, rfl, I2, turn_enumG a (s1.heap.objs.size + 1) s1.heap.objs.size, ⟨⟨.none, he⟩, hit', Nat.succ_ne_self _⟩, fun b hb => ?_, q⟩
    have e' : b = s1.heap.objs.size + 1 ∨ b = s1.heap.objs.size := by simpa using hb
    have hle : s1.heap.objs.size ≤ b := by
      rcases e' with z | z
      · rw [z]; exact Nat.le_add_right _ _
      · rw [z]; exact Nat.le_refl _
    exact I1.fpOk hle (I1.hok.fresh hle)
theorem nadd {n i j : Nat} (h : i ≠ j) : n + i ≠ n + j := fun e => h (by omega)
def ItzG (K : PySem.W.Frag) (t t' : Bool) (a b : Addr) : It :=
  ⟨fun i H => ∃ (xs ys : List V) (x y : V), SqB t K H a xs ∧ SqB t' K H b ys ∧ xs[i]? = some x ∧ ys[i]? = some y,
    fun i H v H' => ∃ T x y, v = .ref T ∧ H T = none ∧ H' = upd H T (.tup [x, y]) ∧ (∀ xs, SqB t K H a xs → xs[i]? = some x) ∧ ∀ ys, SqB t' K H b ys → ys[i]? = some y,
    fun i H => ∃ xs ys : List V, SqB t K H a xs ∧ SqB t' K H b ys ∧ min xs.length ys.length = i⟩
theorem turn_zipG {P : Program} {w : World} {K : PySem.W.Frag} {t t' : Bool} {elts : List Expr} {kk : Nat} {tpos : Pos} {a b z TI TO i1 i2 : Addr} (n1 : TI ≠ z) (n2 : TO ≠ z) (n3 : TI ≠ TO) (n4 : TI ≠ i1) (n5 : TI ≠ i2) (n6 : z ≠ i1) (n7 : z ≠ i2) (n8 : TO ≠ i1) (n9 : TO ≠ i2) (n10 : i1 ≠ i2)
    (m1 : a ≠ TO) (m2 : b ≠ TO) :
    Turn P w K (.Tuple elts kk tpos) (ItzG K t t' a b) [z, TI, TO, i1, i2] z (fun i h => IsZip h z TI TO .none ∧ IsTupOf2 h TI (.ref i1) (.ref i2) ∧ (∃ x y, IsTupOf2 h TO x y) ∧ ItB t h i1 a i ∧ ItB t' h i2 b i) where
  mem := by simp
  obj := fun i h st c hc => by
    obtain ⟨hz, hTI, ⟨x, y, hTO⟩, q1, q2⟩ := st
    obtain ⟨o1, e1, d1, _⟩ := q1.obj
    obtain ⟨o2, e2, d2, _⟩ := q2.obj
    have e' : c = z ∨ c = TI ∨ c = TO ∨ c = i1 ∨ c = i2 := by simpa using hc
    rcases e' with q | q | q | q | q
    · rw [q]; exact ⟨_, hz, fun v q => nomatch q⟩
    · rw [q]; exact ⟨_, hTI, fun v q => nomatch q⟩
    · rw [q]; exact ⟨_, hTO, fun v q => nomatch q⟩
    · rw [q]; exact ⟨o1, e1, fun v q => by rw [d1] at q; cases q⟩
    · rw [q]; exact ⟨o2, e2, fun v q => by rw [d2] at q; cases q⟩
  keep := fun i h h' st k => by
    obtain ⟨hz, hTI, ⟨x, y, hTO⟩, h1, h2⟩ := st
    exact ⟨k z (by simp) _ hz, k TI (by simp) _ hTI, ⟨x, y, k TO (by simp) _ hTO⟩, h1.at fun o q => k i1 (by simp) o q, h2.at fun o q => k i2 (by simp) o q⟩
  item := by
    intro X hP hw hK hc i pins s σ H E I hf st hg
    subst hP hw hK
    obtain ⟨hz, hTI, ⟨x0, y0, hTO⟩, h1, h2⟩ := st
    obtain ⟨xs, ys, x, y, hqx, hqy, hx, hy⟩ := hg
    obtain ⟨its, rv, p⟩ := seqB I hqx
    obtain ⟨its2, rv2, p2⟩ := seqB I hqy
    obtain ⟨u, hu, ru⟩ := rv.get hx
    obtain ⟨u2, hu2, ru2⟩ := rv2.get hy
    have hzl : z < s.heap.objs.size := Heap.lt_size hz
    have lt1 : i < its.toArray.size := by have := (List.getElem?_eq_some_iff.mp hu).1; simpa using this
    have lt2 : i < its2.toArray.size := by have := (List.getElem?_eq_some_iff.mp hu2).1; simpa using this
    have nz : ∀ {t : Bool} {a : Addr} {its : Array Value}, IsB t s.heap a its → z ≠ a := fun p e => by
      subst e
      obtain ⟨o', e2, ⟨n, d2⟩, _⟩ := p.obj
      rw [hz] at e2; cases e2
      cases d2
    have sep : ZipSep2 z TI TO i1 i2 [i1, a] [i2, b] := ⟨n1, n2, n3, n4, by simp, by simp [n6, nz p], by simp [n8, Ne.symm m1], n5, by simp, by simp [n7, nz p2], by simp [n9, Ne.symm m2], by simp [n10, Ne.symm (h1.ne p2)], by simp [Ne.symm n10, Ne.symm (h2.ne p)]⟩
    have hh : X.A.in1.handled = none := I.ok.hd hc
    refine wpAny_pyNext_zipD2_item sep (drawsB hh t i1 a (h1.ne p) its.toArray) (drawsB hh t' i2 b (h2.ne p2) its2.toArray) hz hTI hTO ⟨h1, p⟩ ⟨h2, p2⟩ lt1 lt2 fun x1 x2 h' tk hP1 hP2 z' TO' h1' h2' hT hsz hk => ?_
    have e1 : x1 = u := by
      have q : its.toArray[i]? = some x1 := hP1
      rw [List.getElem?_toArray, hu] at q
      exact (Option.some.inj q).symm
    have e2 : x2 = u2 := by
      have q : its2.toArray[i]? = some x2 := hP2
      rw [List.getElem?_toArray, hu2] at q
      exact (Option.some.inj q).symm
    subst e1 e2
    refine ⟨_, rfl, wpAny_letOwnedTupleGo_zip (s := { s with heap := h', toks := tk }) z' fun h'' z'' sb => ?_⟩
    have hT2 : h''.get? s.heap.objs.size = some { cls := .type "tuple", data := .seq #[x1, x2] } := (sb.2 _ (Nat.ne_of_gt hzl)).trans hT
    have new : ObjOk X.prog X.w (upd H s.heap.objs.size (.tup [x, y])) h'' s.heap.objs.size (.tup [x, y]) :=
      ⟨by show 2 ≤ sizeLine; decide, [x1, x2], .cons ru (.cons ru2 .nil), ⟨_, hT2, rfl, _, rfl⟩⟩
    have I1 : Inv X pins σ (upd H s.heap.objs.size (.tup [x, y])) { s with heap := h'', toks := tk } :=
      I.turnedNew (ch := [z, TI, TO, i1, i2]) (fun c o hb q => (sb.2 c (fun q' => hb (by simp [q']))).trans (hk c o (fun q' => hb (by simp [q'])) (fun q' => hb (by simp [q'])) (fun q' => hb (by simp [q'])) (fun q' => hb (by simp [q'])) q)) hf (Nat.le_refl _) new
    refine ⟨.ref s.heap.objs.size, _, I1, rfl, ⟨_, x, y, rfl, I.hok.fresh (Nat.le_refl _), rfl, fun l hl => by rw [seqB_inj I hl hqx]; exact hx, fun l hl => by rw [seqB_inj I hl hqy]; exact hy⟩, ⟨z'', ?_, ⟨x1, x2, ?_⟩, ?_, ?_⟩, fun c hcm => ?_⟩
    · exact (sb.2 _ n1).trans (hk _ _ n1 n3 n4 n5 hTI)
    · exact (sb.2 _ n2).trans TO'
    · exact h1'.1.at fun o q => (sb.2 _ n6.symm).trans q
    · exact h2'.1.at fun o q => (sb.2 _ n7.symm).trans q
    · have hlt : c < s.heap.objs.size := by
        have e' : c = z ∨ c = TI ∨ c = TO ∨ c = i1 ∨ c = i2 := by simpa using hcm
        rcases e' with q | q | q | q | q
        · rw [q]; exact hzl
        · rw [q]; exact Heap.lt_size hTI
        · rw [q]; exact Heap.lt_size hTO
        · rw [q]; obtain ⟨_, e1, _⟩ := h1.obj; exact Heap.lt_size e1
        · rw [q]; obtain ⟨_, e2, _⟩ := h2.obj; exact Heap.lt_size e2
      rw [upd_ne (Nat.ne_of_lt hlt)]
      exact (hf c hcm).1
  done := by
    intro X hP hw hK hc i pins s σ H E I hf st hg
    subst hP hw hK
    obtain ⟨hz, hTI, ⟨x0, y0, hTO⟩, h1, h2⟩ := st
    obtain ⟨xs, ys, hqx, hqy, hend⟩ := hg
    obtain ⟨its, rv, p⟩ := seqB I hqx
    obtain ⟨its2, rv2, p2⟩ := seqB I hqy
    have l1 := rv.length
    have l2 := rv2.length
    have nz : ∀ {t : Bool} {a : Addr} {its : Array Value}, IsB t s.heap a its → z ≠ a := fun p e => by
      subst e
      obtain ⟨o', e2, ⟨n, d2⟩, _⟩ := p.obj
      rw [hz] at e2; cases e2
      cases d2
    have sep : ZipSep2 z TI TO i1 i2 [i1, a] [i2, b] := ⟨n1, n2, n3, n4, by simp, by simp [n6, nz p], by simp [n8, Ne.symm m1], n5, by simp, by simp [n7, nz p2], by simp [n9, Ne.symm m2], by simp [n10, Ne.symm (h1.ne p2)], by simp [Ne.symm n10, Ne.symm (h2.ne p)]⟩
    have hh : X.A.in1.handled = none := I.ok.hd hc
    exact wpAny_pyNext_zipD2_end sep (drawsB hh t i1 a (h1.ne p) its.toArray) (drawsB hh t' i2 b (h2.ne p2) its2.toArray) hz hTI hTO ⟨h1, p⟩ ⟨h2, p2⟩ (by simp; omega) (by simp; omega) (by simp; omega) fun h' tk hk => ⟨rfl, I.turnedL (t' := tk) (ch := [z, TI, TO, i1, i2]) (fun c o hb q =>
      hk c o (fun q' => hb (by simp [q'])) (fun q' => hb (by simp [q'])) (fun q' => hb (by simp [q'])) (fun q' => hb (by simp [q'])) q) hf⟩
  self := fun A i s Q E st h => wpAny_pyIter_zip st.1 h
def iZipG (K : PySem.W.Frag) (ta : TA) : TI := fun σ H R => ta σ H fun vs H1 => ∃ t t' a b xs ys, vs = [.ref a, .ref b] ∧ SqB t K H1 a xs ∧ SqB t' K H1 b ys ∧ R (ItzG K t t' a b) H1
theorem pi_zipG {X : Cx} {e e2 : Expr} {ta : TA} {p pos tpos : Pos} {elts : List Expr} {kk : Nat} (hg : Gl X "zip") (hm : X.mg "zip" = none) (ha : PA X [e, e2] ta)
    (hs : starEach [e, e2] X.env = (false, eval e X.env) :: starEach [e2] X.env := by rfl) (hpl : (backTo pos (starEach [e2] X.env)).any (·.1) = false := by rfl) :
    PI X (.Tuple elts kk tpos) (.Call (.Name "zip" p) [e, e2] [] pos) (iZipG X.K ta) := by
  refine ⟨fun pins s σ H R I h => ?_⟩
  refine Call_ (ld_blt I hg hm PyProof.Rows.boot_zip (PyProof.Rows.callWith_type1 (thn (ha.run pos pins s σ H _ I h) fun us s1 ⟨vs, H1, I1, r1, q1⟩ => ?_) hs hpl))
  obtain ⟨t, t', a, b, xs, ys, ex, hqx, hqy, q⟩ := q1
  subst ex
  cases r1 with
  | cons r rr =>
    cases rr with
    | cons r' rr =>
      cases rr
      cases r
      cases r'
      have fresh5 : ∀ c, c ∈ [s1.heap.objs.size + 4, s1.heap.objs.size + 2, s1.heap.objs.size + 3, s1.heap.objs.size, s1.heap.objs.size + 1] → FpOk X pins H1 c := fun c hcm => by
        have e' : c = s1.heap.objs.size + 4 ∨ c = s1.heap.objs.size + 2 ∨ c = s1.heap.objs.size + 3 ∨ c = s1.heap.objs.size ∨ c = s1.heap.objs.size + 1 := by simpa using hcm
        have hle : s1.heap.objs.size ≤ c := by
          rcases e' with z | z | z | z | z
          · rw [z]; exact Nat.le_add_right _ _
          · rw [z]; exact Nat.le_add_right _ _
          · rw [z]; exact Nat.le_add_right _ _
          · rw [z]; exact Nat.le_refl _
          · rw [z]; exact Nat.le_add_right _ _
        exact I1.fpOk hle (I1.hok.fresh hle)
      obtain ⟨its, rv, p1⟩ := seqB I1 hqx
      obtain ⟨its2, rv2, p2⟩ := seqB I1 hqy
      have la : a < s1.heap.objs.size := by obtain ⟨_, e1, _⟩ := p1.obj; exact Heap.lt_size e1
      have lb : b < s1.heap.objs.size := by obtain ⟨_, e1, _⟩ := p2.obj; exact Heap.lt_size e1
      refine zip_begins2 (beginsB t a its.toArray) (beginsB t' b its2.toArray) p1 p2 fun h' hz hTI hTO h1 h2 hsz hk => wpAny_pyIter_zip hz ?_
      have I2 : Inv X pins σ H1 { s1 with heap := h' } := I1.kept (t' := s1.toks) hk
      have it1 : ItB t h' s1.heap.objs.size a 0 := by
        cases t with
        | true => exact ⟨_, h1, rfl, rfl⟩
        | false => exact ⟨_, h1, rfl, rfl⟩
      have it2 : ItB t' h' (s1.heap.objs.size + 1) b 0 := by
        cases t' with
        | true => exact ⟨_, h2, rfl, rfl⟩
        | false => exact ⟨_, h2, rfl, rfl⟩
      exact ⟨s1.heap.objs.size + 4, [s1.heap.objs.size + 4, s1.heap.objs.size + 2, s1.heap.objs.size + 3, s1.heap.objs.size, s1.heap.objs.size + 1], _, _, H1, rfl, I2,
        turn_zipG (a := a) (b := b) (z := s1.heap.objs.size + 4) (TI := s1.heap.objs.size + 2) (TO := s1.heap.objs.size + 3) (i1 := s1.heap.objs.size) (i2 := s1.heap.objs.size + 1) (nadd (by decide)) (nadd (by decide)) (nadd (by decide)) (nadd (j := 0) (by decide)) (nadd (by decide)) (nadd (j := 0) (by decide)) (nadd (by decide)) (nadd (j := 0) (by decide)) (nadd (by decide)) (nadd (i := 0) (by decide)) (Nat.ne_of_lt (Nat.lt_of_lt_of_le la (Nat.le_add_right _ _))) (Nat.ne_of_lt (Nat.lt_of_lt_of_le lb (Nat.le_add_right _ _))), ⟨hz, hTI, ⟨_, _, hTO⟩, it1, it2⟩, fresh5, q⟩
end L3
namespace L3
open PySem L2
section
variable {X : Cx} {C : Cn} {E : XK} {e a b tg : Expr} {pos : Pos} {T T1 T2 T3 Tt vs : List Nat} {fs : MA} {es : List Expr} {f f1 f2 : ME} {g : MS} {t : MT} {st : Stmt}
theorem e_lc {set : D → Env → Option Env} {gt : TG} {fi : MI} (hg : TgOk C gt Tt set) (hTt : ∀ i ∈ Tt, i ∈ vs) (hvs : ∀ i ∈ vs, i ∉ C.IO) (h : PE X e (tLc (rdI C E T1 fi) gt (rdT C E T2 t) (rdE C E T3 f) vs)) :
    PE X e (rdE C E (T1 ++ (vs ++ (Tt ++ (T2 ++ T3)))) (mLc (vs ++ (Tt ++ (T2 ++ T3))) vs set fi t f)) := PE.wk h fun σ H Q h => rdLc hg hTt hvs h
theorem set_rd {i : Nat} {D : Ends} {σ : L2.St} {H : Hp} (hlen : i < C.n) (hIO : i ∉ C.IO) (h : rdS C E (T ++ [i]) (msSet i f) D σ H) : rdE C E T f σ H fun x H1 => D.nx (σ.set i (some x)) H1 := by
  obtain ⟨m, e1, e2, S, w⟩ := h
  exact ⟨m, e1, e2, S, Want.imp w.bind fun r env w => fun v m' e3 e4 S' s ok => by
    cases ho : r.o with
    | none => rw [ho] at w; exact w.elim
    | some o =>
      rw [ho] at w
      obtain ⟨fp, S2, s2⟩ := store_rd (i := i) s S' ok ho (by rw [S'.ln]; exact hlen) hIO
      have := w _ (by show m'.env.set i (some o) = _; rw [e3]) S2 s2
      show D.nx (σ.set i (some v)) m'.H
      rw [← e4]
      exact this⟩
theorem settle_rd {σ : L2.St} {H : Hp} {Q : VK} (h : rdE C E T (mStl f) σ H Q) : rdE C E T f σ H Q := by
  obtain ⟨m, e1, e2, S, w⟩ := h
  refine ⟨m, e1, e2, S, Want.imp w.bind fun r env w => fun v m' e3 e4 S' s ok => ?_⟩
  cases r with
  | own o =>
    obtain ⟨F', fp, k1, k2, S2, eF, r⟩ := settle_ok S' ok fun _ _ _ _ => trivial
    refine w v { m' with F := F' } e3 e4 S2 ⟨s.exF.trans eF, s.keep, s.dom, fun a h n => ?_, s.newO, s.len, s.unt⟩ r
    by_cases q : m'.F a = none
    · have z := k1 a (k2 a h q)
      by_cases y : m.H a = none
      · exact .inl y
      · exact .inr (Classical.byContradiction fun w => z ⟨y, w⟩)
    · exact s.newF a q n
  | val d => exact w v m' e3 e4 S' s ok
  | sl x => exact w v m' e3 e4 S' s ok
  | bor x p o => exact w v m' e3 e4 S' s ok
theorem s_setLc {set : D → Env → Option Env} {gt : TG} {fi : MI} {i : Nat} (hg : TgOk C gt Tt set) (hTt : ∀ i ∈ Tt, i ∈ vs) (hvs : ∀ i ∈ vs, i ∉ C.IO) (hlen : i < C.n) (hIO : i ∉ C.IO) (h : PS X st (tAsg (tLc (rdI C E T1 fi) gt (rdT C E T2 t) (rdE C E T3 f) vs) (gName i))) :
    PS X st (rdS C E ((T1 ++ (vs ++ (Tt ++ (T2 ++ T3)))) ++ [i]) (msSet i (mLc (vs ++ (Tt ++ (T2 ++ T3))) vs set fi t f))) := PS.wk h fun D σ H h => rdLc hg hTt hvs (set_rd hlen hIO h)
theorem s_setLcS {set : D → Env → Option Env} {gt : TG} {fi : MI} {i : Nat} (hg : TgOk C gt Tt set) (hTt : ∀ i ∈ Tt, i ∈ vs) (hvs : ∀ i ∈ vs, i ∉ C.IO) (hlen : i < C.n) (hIO : i ∉ C.IO) (h : PS X st (tAsg (tLc (rdI C E T1 fi) gt (rdT C E T2 t) (rdE C E T3 f) vs) (gName i))) :
    PS X st (rdS C E ((T1 ++ (vs ++ (Tt ++ (T2 ++ T3)))) ++ [i]) (msSet i (mStl (mLc (vs ++ (Tt ++ (T2 ++ T3))) vs set fi t f)))) := PS.wk h fun D σ H h => rdLc hg hTt hvs (settle_rd (set_rd hlen hIO h))
def anySrc (r : Rt) : Option (Bool × Src) := match srcOf true r with
  | some s => some (true, s)
  | none => (srcOf false r).map fun s => (false, s)
theorem anySrc_items {m : Mo} {r : Rt} {src : Src} {tup : Bool} {v : V} {av : Addr → Prop} (S : Sta C m) (ok : RtOk C m av r v) (h : anySrc r = some (tup, src)) :
    ∃ a, v = .ref a ∧ ∃ xs, ∀ (m2 : Mo) (T : List Nat), Sta C m2 → Step T m m2 → (∀ x, src.dep = some x → x ∉ T) → SqB tup C.K m2.H a xs ∧ RpDs C.K C.cl m2.F src.items xs := by
  have h' : srcOf tup r = some src := by
    unfold anySrc at h
    split at h
    · rename_i s q; cases h; exact q
    · cases q : srcOf false r with
      | none => rw [q] at h; cases h
      | some s => rw [q] at h; cases h; exact q
  obtain ⟨a, e, xs, k⟩ := seq_items S ok h'
  exact ⟨a, e, xs, k⟩
def enumD : Nat → List D → List D
  | _, [] => []
  | k, d :: ds => .tup [.int (k : Nat), d] :: enumD (k + 1) ds
theorem enumD_get : ∀ {ds : List D} {k i : Nat}, (enumD k ds)[i]? = (ds[i]?).map fun d => .tup [.int ((k + i : Nat) : Int), d]
  | [], k, i => by simp [enumD]
  | d :: ds, k, 0 => by simp [enumD]
  | d :: ds, k, i + 1 => by
    show (enumD (k + 1) ds)[i]? = _
    rw [enumD_get]
    simp only [List.getElem?_cons_succ]
    rw [show k + 1 + i = k + (i + 1) from by omega]
theorem enumD_len : ∀ {ds : List D} {k : Nat}, (enumD k ds).length = ds.length
  | [], k => rfl
  | d :: ds, k => by show (enumD (k + 1) ds).length + 1 = _; rw [enumD_len]; rfl
theorem seqB_fun {t : Bool} {K : PySem.W.Frag} {H : Hp} : True := trivial
theorem j_enum {m : Mo} {a : Addr} {src : Src} {tup : Bool} (h : ∃ xs, ∀ (m2 : Mo) (T : List Nat), Sta C m2 → Step T m m2 → (∀ x, src.dep = some x → x ∉ T) → SqB tup C.K m2.H a xs ∧ RpDs C.K C.cl m2.F src.items xs) : JOk C ⟨enumD 0 src.items, src.dep⟩ m (IteG C.K tup a) := by
  obtain ⟨xs, h⟩ := h
  intro m2 T S2 s2 _ hd i
  obtain ⟨q, r⟩ := h m2 T S2 s2 hd
  refine ⟨fun d hd => ?_, fun hl => ⟨xs, q, by rw [r.length, ← hl]; exact enumD_len.symm⟩⟩
  have hd : (enumD 0 src.items)[i]? = some d := hd
  rw [enumD_get] at hd
  cases hi : src.items[i]? with
  | none => rw [hi] at hd; cases hd
  | some d0 =>
    rw [hi] at hd
    have hd := Option.some.inj hd
    subst hd
    obtain ⟨v, e, rv⟩ := r.get hi
    refine ⟨⟨xs, v, q, e⟩, fun x H' ⟨p, x', e1, e2, e3, e4⟩ => ⟨{ m2 with F := upd m2.F p (.tup [.int (i : Nat), x']), H := upd m2.H p (.tup [.int (i : Nat), x']) }, e3.symm, gro_new S2 e2, ?_⟩⟩
    have := e4 xs q
    rw [e] at this; cases this
    subst e1
    refine ⟨p, _, rfl, .inl (.inl upd_same), .int (i : Nat), [v], rfl, by simp [RpD], v, [], rfl, RpD.mono (gro_new S2 e2).exF _ _ rv, rfl⟩
def iEnumM (fs : MA) : MI := fun env => (fs env).bind fun rs e => match rs with
  | [r] => ofO ((anySrc r).map fun s => ⟨enumD 0 s.2.items, s.2.dep⟩) e
  | _ => .bad
theorem i_enum (hK : X.K = C.K) (h : PI X tg e (iEnumG X.K (rdA C E T fs))) : PI X tg e (rdI C E T (iEnumM fs)) :=
  PI.wk h fun σ H R ⟨m, e1, e2, S, w⟩ => ⟨m, e1, e2, S, Want.imp w.bind fun rs env w => fun vs m' e3 e4 S' s ok => by
    split at w
    · rename_i r
      obtain ⟨x, av, rfl, hx⟩ := ok.one
      cases hs : anySrc r with
      | none => rw [hs] at w; exact w.elim
      | some p =>
        obtain ⟨tup, src⟩ := p
        rw [hs] at w
        obtain ⟨a, rfl, k⟩ := anySrc_items S' hx hs
        rw [hK]
        have k' := k
        obtain ⟨xs, k0⟩ := k'
        exact ⟨tup, a, xs, rfl, (k0 m' [] S' (Step.refl _ _) (fun _ _ => by simp)).1, w _ m' e3 e4 S' s (j_enum k)⟩
    · exact w.elim⟩
def zipD (ds es : List D) : List D := List.zipWith (fun d e => D.tup [d, e]) ds es
def depJ : Option Nat → Option Nat → Option (Option Nat)
  | none, d => some d
  | d, none => some d
  | some x, some y => if x = y then some (some x) else none
theorem depJ_1 {a b d : Option Nat} {x : Nat} (h : depJ a b = some d) (hx : a = some x) : d = some x := by
  subst hx
  cases b with
  | none => exact (Option.some.inj h).symm
  | some y =>
    have h : (if x = y then some (some x) else none) = some d := h
    by_cases e : x = y
    · rw [if_pos e] at h; exact (Option.some.inj h).symm
    · rw [if_neg e] at h; cases h
theorem depJ_2 {a b d : Option Nat} {x : Nat} (h : depJ a b = some d) (hx : b = some x) : d = some x := by
  subst hx
  cases a with
  | none => exact (Option.some.inj h).symm
  | some y =>
    have h : (if y = x then some (some y) else none) = some d := h
    by_cases e : y = x
    · rw [if_pos e] at h; rw [← e]; exact (Option.some.inj h).symm
    · rw [if_neg e] at h; cases h
theorem j_zip {m : Mo} {a b : Addr} {s1 s2 : Src} {t1 t2 : Bool} {dep : Option Nat} (hdep : depJ s1.dep s2.dep = some dep) (h1 : ∃ xs, ∀ (m2 : Mo) (T : List Nat), Sta C m2 → Step T m m2 → (∀ x, s1.dep = some x → x ∉ T) → SqB t1 C.K m2.H a xs ∧ RpDs C.K C.cl m2.F s1.items xs)
    (h2 : ∃ xs, ∀ (m2 : Mo) (T : List Nat), Sta C m2 → Step T m m2 → (∀ x, s2.dep = some x → x ∉ T) → SqB t2 C.K m2.H b xs ∧ RpDs C.K C.cl m2.F s2.items xs) : JOk C ⟨zipD s1.items s2.items, dep⟩ m (ItzG C.K t1 t2 a b) := by
  obtain ⟨xs, h1⟩ := h1
  obtain ⟨ys, h2⟩ := h2
  intro m2 T S2 s _ hd i
  have d1 : ∀ x, s1.dep = some x → x ∉ T := fun x hx => hd x (depJ_1 hdep hx)
  have d2 : ∀ x, s2.dep = some x → x ∉ T := fun x hx => hd x (depJ_2 hdep hx)
  obtain ⟨q1, r1⟩ := h1 m2 T S2 s d1
  obtain ⟨q2, r2⟩ := h2 m2 T S2 s d2
  refine ⟨fun d hd => ?_, fun hl => ⟨xs, ys, q1, q2, ?_⟩⟩
  · have hd : (zipD s1.items s2.items)[i]? = some d := hd
    unfold zipD at hd
    rw [List.getElem?_zipWith] at hd
    cases e1 : s1.items[i]? with
    | none => rw [e1] at hd; cases hd
    | some da =>
      cases e2 : s2.items[i]? with
      | none => rw [e1, e2] at hd; cases hd
      | some db =>
        rw [e1, e2] at hd
        have hd := Option.some.inj hd
        subst hd
        obtain ⟨v, e3, rv⟩ := r1.get e1
        obtain ⟨w, e4, rw'⟩ := r2.get e2
        refine ⟨⟨xs, ys, v, w, q1, q2, e3, e4⟩, fun x H' ⟨p, x', y', f1, f2, f3, f4, f5⟩ => ⟨{ m2 with F := upd m2.F p (.tup [x', y']), H := upd m2.H p (.tup [x', y']) }, f3.symm, gro_new S2 f2, ?_⟩⟩
        have z1 := f4 xs q1
        have z2 := f5 ys q2
        rw [e3] at z1; cases z1
        rw [e4] at z2; cases z2
        subst f1
        exact ⟨p, _, rfl, .inl (.inl upd_same), v, [w], rfl, RpD.mono (gro_new S2 f2).exF _ _ rv, w, [], rfl, RpD.mono (gro_new S2 f2).exF _ _ rw', rfl⟩
  · have hl : (zipD s1.items s2.items).length = i := hl
    unfold zipD at hl
    rw [List.length_zipWith] at hl
    rw [r1.length, r2.length, hl]
def iZipM (fs : MA) : MI := fun env => (fs env).bind fun rs e => match rs with
  | [r, r'] => match anySrc r, anySrc r' with
    | some (_, s), some (_, s') => ofO ((depJ s.dep s'.dep).map fun dep => ⟨zipD s.items s'.items, dep⟩) e
    | _, _ => .bad
  | _ => .bad
theorem i_zip (hK : X.K = C.K) (h : PI X tg e (iZipG X.K (rdA C E T fs))) : PI X tg e (rdI C E T (iZipM fs)) :=
  PI.wk h fun σ H R ⟨m, e1, e2, S, w⟩ => ⟨m, e1, e2, S, Want.imp w.bind fun rs env w => fun vs m' e3 e4 S' s ok => by
    split at w
    · rename_i r r'
      obtain ⟨x, y, av, av', rfl, hx, hy⟩ := ok.two
      split at w
      · rename_i tup src tup' src' hs hs'
        cases hdep : depJ src.dep src'.dep with
        | none => rw [hdep] at w; exact w.elim
        | some dep =>
          rw [hdep] at w
          obtain ⟨a, rfl, k⟩ := anySrc_items S' hx hs
          obtain ⟨b, rfl, k'⟩ := anySrc_items S' hy hs'
          rw [hK]
          have l := k
          have l' := k'
          obtain ⟨xs, k0⟩ := l
          obtain ⟨ys, k0'⟩ := l'
          exact ⟨tup, tup', a, b, xs, ys, rfl, (k0 m' [] S' (Step.refl _ _) (fun _ _ => by simp)).1, (k0' m' [] S' (Step.refl _ _) (fun _ _ => by simp)).1, w _ m' e3 e4 S' s (j_zip hdep k k')⟩
      · exact w.elim
    · exact w.elim⟩
end
end L3
namespace L3
open PySem L2
section
variable {C : Cn}
def lstOf : Rt → Option (List D)
  | .own (.lst os) => leaves os
  | .bor _ _ (.lst os) => leaves os
  | _ => none
theorem RtOk.lstOf {m : Mo} {r : Rt} {v : V} {av : Addr → Prop} {ds : List D} (S : Sta C m) (h : RtOk C m av r v) (e : L3.lstOf r = some ds) : ∃ a xs, v = .ref a ∧ m.H a = some (.lst xs) ∧ RpDs C.K C.cl m.F ds xs := by
  unfold L3.lstOf at e
  split at e
  · obtain rfl := leaves_some e
    obtain ⟨fp, ⟨a, xs, f, rfl, _, h1, h2⟩, _⟩ := h
    exact ⟨a, xs, rfl, h1, (RpOs.leaves h2).2⟩
  · obtain rfl := leaves_some e
    obtain ⟨fp, a, xs, f, rfl, _, h1, h2⟩ := h.bor S
    exact ⟨a, xs, rfl, h1, (RpOs.leaves h2).2⟩
  · cases e
def gAdd : Rt → Rt → Option Rt
  | .val (.int i), .val (.int j) => some (.val (.int (i + j)))
  | .val (.str s), .val (.str t) => if s.length + t.length ≤ 16777216 then some (.val (.str (s ++ t))) else none
  | .val (.tup ds), .val (.tup es) => if ds.length + es.length ≤ 16777216 then some (.val (.tup (ds ++ es))) else none
  | r, r' => match L3.lstOf r, L3.lstOf r' with
    | some ds, some es => if ds.length + es.length ≤ 16777216 then some (.own (.lst ((ds ++ es).map O.s))) else none
    | _, _ => none
def rAdd (K : PySem.W.Frag) : R2 := fun x y H Q => (rI0 fun i j => .int (i + j)) x y H Q ∨ (∃ i j, x = .str i ∧ y = .str j ∧ i.length + j.length ≤ sizeLine ∧ Q (.str (i ++ j)) H) ∨ rCatA K x y H Q ∨ rCat x y H Q
theorem op_addAll {X : Cx} : OpR X (binaryOp .Add) (rAdd X.K) := OpR.or op_add (OpR.or op_add_str (OpR.or op_catA op_cat))
theorem loc_add : Loc2 C (rAdd C.K) gAdd := by
  intro m x y rx ry rz av av' Q S h1 h2 h k
  unfold gAdd at h
  split at h
  · cases h
    exact .inl ⟨_, _, h1, h2, k _ m (Gro.refl S) rfl⟩
  · split at h
    · rename_i z
      cases h
      exact .inr (.inl ⟨_, _, h1, h2, by rw [sizeLine_is]; exact z, k _ m (Gro.refl S) rfl⟩)
    · cases h
  · rename_i ds es
    split at h
    · rename_i z
      cases h
      obtain ⟨a, xs, rfl, q1, r1⟩ := h1
      obtain ⟨b, ys, rfl, q2, r2⟩ := h2
      refine .inr (.inr (.inl ⟨a, b, xs, ys, rfl, rfl, S.ex.sqT q1, S.ex.sqT q2, by rw [sizeLine_is, r1.length, r2.length]; exact z, fun e => ?_, fun n e => ?_, fun _ _ p hp => ?_⟩))
      · subst e
        have : ds = [] := List.eq_nil_of_length_eq_zero r1.length.symm
        subst this
        exact k _ m (Gro.refl S) ⟨b, ys, rfl, q2, r2⟩
      · subst e
        have : es = [] := List.eq_nil_of_length_eq_zero r2.length.symm
        subst this
        rw [List.append_nil] at k
        exact k _ m (Gro.refl S) ⟨a, xs, rfl, q1, r1⟩
      · have g := gro_new (o := .tup (xs ++ ys)) S hp
        exact k _ _ g ⟨p, _, rfl, .inl (.inl upd_same), RpDs.append (r1.mono g.exF _ _) (r2.mono g.exF _ _)⟩
    · cases h
  · split at h
    · rename_i ds es e1 e2
      split at h
      · rename_i z
        cases h
        obtain ⟨a, xs, rfl, q1, r1⟩ := h1.lstOf S e1
        obtain ⟨b, ys, rfl, q2, r2⟩ := h2.lstOf S e2
        exact .inr (.inr (.inr ⟨a, b, xs, ys, rfl, rfl, q1, q2, by rw [sizeLine_is, r1.length, r2.length]; exact z, fun p hp => k _ _ (gro_own S hp) (own_lst S hp (RpDs.append r1 r2) (fun z => z hp))⟩))
      · cases h
    · cases h
def cMul2 (i j : Int) : Bool := (decide (i.natAbs < 18446744073709551616) || decide (j.natAbs < 18446744073709551616)) || cMul i j
def gMul : Rt → Rt → Option Rt
  | .val (.tup ds), .val (.int k) => if ds ≠ [] ∧ 2 ≤ k ∧ k ≤ 1000 ∧ ds.length ≤ 1000 then some (.val (.tup (List.replicate k.toNat ds).flatten)) else none
  | r, r' => gIc cMul2 (fun i j => .int (i * j)) r r'
def rMul (K : PySem.W.Frag) : R2 := fun x y H Q => rRepT K x y H Q ∨ rI (fun i j => CMul i j ∨ CMulW i j) (fun i j => .int (i * j)) x y H Q
theorem op_mulE {X : Cx} : OpR X (binaryOp .Mult) (rI (fun i j => CMul i j ∨ CMulW i j) fun i j => .int (i * j)) := fun pins s σ H x y v u Q I rx ry h => by
  obtain ⟨i, j, e1, e2, c, q⟩ := h
  rcases c with c | c
  · exact op_mul pins s σ H x y v u Q I rx ry ⟨i, j, e1, e2, c, q⟩
  · exact op_mulW pins s σ H x y v u Q I rx ry ⟨i, j, e1, e2, c, q⟩
theorem op_mulAll {X : Cx} : OpR X (binaryOp .Mult) (rMul X.K) := OpR.or op_repT op_mulE
def cPow2 (i j : Int) : Bool := decide (0 ≤ j ∧ ((i.natAbs.log2 + 1 : Nat) : Int) * j ≤ 134217728)
theorem op_powW {X : Cx} : OpR X (binaryOp .Pow) (rI (fun i j => 0 ≤ j ∧ ((i.natAbs.log2 + 1 : Nat) : Int) * j ≤ 134217728) fun i j => .int (i ^ j.toNat)) := opI fun i j _ _ _ _ _ hc q => PyProof.Rows.pow_int hc.1 (by
  have b : ∀ x : Int, Builtin.Int.intBits x ≤ x.natAbs.log2 + 1 := fun x => by
    unfold Builtin.Int.intBits
    split <;> omega
  have h1 : (Builtin.Int.intBits i : Int) ≤ ((i.natAbs.log2 + 1 : Nat) : Int) := by exact_mod_cast b i
  exact Int.le_trans (Int.mul_le_mul_of_nonneg_right h1 hc.1) hc.2) q
theorem loc_powW : Loc2 C (rI (fun i j => 0 ≤ j ∧ ((i.natAbs.log2 + 1 : Nat) : Int) * j ≤ 134217728) fun i j => .int (i ^ j.toNat)) (gIc cPow2 fun i j => .int (i ^ j.toNat)) := loc_Ic (fun _ _ h => by simpa [cPow2] using h) fun _ _ _ => rfl
theorem rpDs_rep {K : PySem.W.Frag} {cl : Nat → Addr} {H : Hp} {ds : List D} {xs : List V} (h : RpDs K cl H ds xs) : ∀ n : Nat, RpDs K cl H (List.replicate n ds).flatten (List.replicate n xs).flatten
  | 0 => rfl
  | n + 1 => by
    rw [List.replicate_succ, List.replicate_succ, List.flatten_cons, List.flatten_cons]
    exact RpDs.append h (rpDs_rep h n)
theorem loc_mul : Loc2 C (rMul C.K) gMul := by
  intro m x y rx ry rz av av' Q S h1 h2 h k
  unfold gMul at h
  split at h
  · rename_i ds j
    split at h
    · rename_i z
      cases h
      obtain ⟨a, xs, rfl, q1, r1⟩ := h1
      have g : ∀ {p : Addr}, m.H p = none → Gro m { m with F := upd m.F p (.tup (List.replicate j.toNat xs).flatten), H := upd m.H p (.tup (List.replicate j.toNat xs).flatten) } := fun hp => gro_new S hp
      refine .inl ⟨a, j, xs, rfl, h2, S.ex.sqT q1, fun e => z.1 (by subst e; exact List.eq_nil_of_length_eq_zero r1.length.symm), z.2.1, z.2.2.1, by rw [r1.length]; exact z.2.2.2, fun p hp => ?_⟩
      exact k _ _ (g hp) ⟨p, _, rfl, .inl (.inl upd_same), (rpDs_rep r1 _).mono (g hp).exF _ _⟩
    · cases h
  · refine .inr (loc_Ic (C := C) (c := fun i j => CMul i j ∨ CMulW i j) (cd := cMul2) (g := fun i j => .int (i * j)) (gd := fun i j => .int (i * j)) (fun i j h => ?_) (fun _ _ _ => rfl) m x y rx ry rz av av' Q S h1 h2 h k)
    unfold cMul2 at h
    simp only [Bool.or_eq_true, decide_eq_true_eq] at h
    rcases h with (z | z) | z
    · exact .inl (.inl ⟨by omega, by omega⟩)
    · exact .inl (.inr ⟨by omega, by omega⟩)
    · exact .inr (by simpa [cMul, CMulW] using z)
def gInD (neg : Bool) (rx ry : Rt) : Option Rt := if rx.isSl = true ∨ ry.isSl = true then none else match rx.d.py, ry.d.py with
  | some p, some (.list ps) => if SeqAt.shaped p = true ∧ SeqAt.shaped (.list ps) = true then some (.val (.bl ((ps.any fun z => PyData.eqv z p) != neg))) else none
  | _, _ => none
theorem loc_inD : Loc2 C (rInD C.K) (gInD false) := by
  intro m x y rx ry rz av av' Q S h1 h2 h k
  unfold gInD at h
  by_cases hs : rx.isSl = true ∨ ry.isSl = true
  · rw [if_pos hs] at h; cases h
  rw [if_neg hs] at h
  split at h
  · rename_i p ps e1 e2
    split at h
    · rename_i z
      cases h
      exact ⟨p, ps, RpD.dp _ _ _ (h1.rd S (by cases q : rx.isSl <;> simp_all)) e1, RpD.dp _ _ _ (h2.rd S (by cases q : ry.isSl <;> simp_all)) e2, z.1, z.2, k _ m (Gro.refl S) (by show V.bl _ = V.bl _; simp)⟩
    · cases h
  · cases h
theorem loc_notInD : Loc2 C (rNotInD C.K) (gInD true) := by
  intro m x y rx ry rz av av' Q S h1 h2 h k
  unfold gInD at h
  by_cases hs : rx.isSl = true ∨ ry.isSl = true
  · rw [if_pos hs] at h; cases h
  rw [if_neg hs] at h
  split at h
  · rename_i p ps e1 e2
    split at h
    · rename_i z
      cases h
      exact ⟨p, ps, RpD.dp _ _ _ (h1.rd S (by cases q : rx.isSl <;> simp_all)) e1, RpD.dp _ _ _ (h2.rd S (by cases q : ry.isSl <;> simp_all)) e2, z.1, z.2, k _ m (Gro.refl S) (by show V.bl _ = V.bl _; simp)⟩
    · cases h
  · cases h
def maxI : List Int → Option Int
  | [] => none
  | x :: xs => some (xs.foldl max x)
def minI : List Int → Option Int
  | [] => none
  | x :: xs => some (xs.foldl min x)
theorem foldl_max (xs : List Int) (x : Int) : x ≤ xs.foldl max x ∧ ∀ y ∈ xs, y ≤ xs.foldl max x := by
  induction xs generalizing x with
  | nil => exact ⟨Int.le_refl _, fun y h => by simp at h⟩
  | cons z zs ih =>
    obtain ⟨i1, i2⟩ := ih (max x z)
    refine ⟨Int.le_trans (Int.le_max_left x z) i1, fun y hy => ?_⟩
    rcases List.mem_cons.mp hy with e | e
    · rw [e]; exact Int.le_trans (Int.le_max_right x z) i1
    · exact i2 y e
theorem foldl_min (xs : List Int) (x : Int) : xs.foldl min x ≤ x ∧ ∀ y ∈ xs, xs.foldl min x ≤ y := by
  induction xs generalizing x with
  | nil => exact ⟨Int.le_refl _, fun y h => by simp at h⟩
  | cons z zs ih =>
    obtain ⟨i1, i2⟩ := ih (min x z)
    refine ⟨Int.le_trans i1 (Int.min_le_left x z), fun y hy => ?_⟩
    rcases List.mem_cons.mp hy with e | e
    · rw [e]; exact Int.le_trans i1 (Int.min_le_right x z)
    · exact i2 y e
theorem foldl_max_mem (xs : List Int) (x : Int) : xs.foldl max x = x ∨ xs.foldl max x ∈ xs := by
  induction xs generalizing x with
  | nil => exact .inl rfl
  | cons z zs ih =>
    show zs.foldl max (max x z) = x ∨ zs.foldl max (max x z) ∈ z :: zs
    rcases ih (max x z) with e | e
    · rw [e]
      by_cases h : z ≤ x
      · left; omega
      · right; rw [show max x z = z from by omega]; simp
    · right; simp [e]
theorem foldl_min_mem (xs : List Int) (x : Int) : xs.foldl min x = x ∨ xs.foldl min x ∈ xs := by
  induction xs generalizing x with
  | nil => exact .inl rfl
  | cons z zs ih =>
    show zs.foldl min (min x z) = x ∨ zs.foldl min (min x z) ∈ z :: zs
    rcases ih (min x z) with e | e
    · rw [e]
      by_cases h : x ≤ z
      · left; omega
      · right; rw [show min x z = z from by omega]; simp
    · right; simp [e]
theorem maxI_is {ns : List Int} {k : Int} (h : maxI ns = some k) {m : Int} (hm : m ∈ ns) (h2 : ∀ y ∈ ns, y ≤ m) : m = k := by
  cases ns with
  | nil => cases h
  | cons x xs =>
    have h := Option.some.inj h
    obtain ⟨a, b⟩ := foldl_max xs x
    have le1 : m ≤ k := by
      rw [← h]
      rcases List.mem_cons.mp hm with e | e
      · rw [e]; exact a
      · exact b m e
    have le2 : k ≤ m := h2 k (by
      rw [← h]
      rcases foldl_max_mem xs x with e | e
      · rw [e]; simp
      · simp [e])
    omega
theorem minI_is {ns : List Int} {k : Int} (h : minI ns = some k) {m : Int} (hm : m ∈ ns) (h2 : ∀ y ∈ ns, m ≤ y) : m = k := by
  cases ns with
  | nil => cases h
  | cons x xs =>
    have h := Option.some.inj h
    obtain ⟨a, b⟩ := foldl_min xs x
    have le1 : k ≤ m := by
      rw [← h]
      rcases List.mem_cons.mp hm with e | e
      · rw [e]; exact a
      · exact b m e
    have le2 : m ≤ k := h2 k (by
      rw [← h]
      rcases foldl_min_mem xs x with e | e
      · rw [e]; simp
      · simp [e])
    omega
def gMaxL : List Rt → Option Rt
  | [r] => match r.items with
    | some (true, ds) => (intsOf ds).bind fun ns => (maxI ns).map fun k => .val (.int k)
    | _ => none
  | _ => none
def gMinL : List Rt → Option Rt
  | [r] => match r.items with
    | some (true, ds) => (intsOf ds).bind fun ns => (minI ns).map fun k => .val (.int k)
    | _ => none
  | _ => none
theorem loc_maxL : LocN C (rMax C.K) gMaxL := by
  intro m xs rs ry Q S h e k
  unfold gMaxL at e
  split at e
  · rename_i r
    obtain ⟨x, av, rfl, hx⟩ := h.one
    split at e
    · rename_i ds q
      obtain ⟨a, xs, rfl, h1, h2⟩ := hx.items S q
      rw [if_pos rfl] at h2
      cases z : intsOf ds with
      | none => rw [z] at e; cases e
      | some ns =>
        rw [z] at e
        simp only [Option.bind_some] at e
        cases zk : maxI ns with
        | none => rw [zk] at e; cases e
        | some j =>
          rw [zk] at e; cases e
          refine ⟨a, ns, rfl, by rw [← h1.toInts z]; exact h2, ?_, fun m' hm h3 => ?_⟩
          · cases ns with
            | nil => cases zk
            | cons _ _ => simp
          · rw [maxI_is zk hm h3]
            exact k _ m (Gro.refl S) rfl
    · cases e
  · cases e
theorem loc_minL : LocN C (rMin C.K) gMinL := by
  intro m xs rs ry Q S h e k
  unfold gMinL at e
  split at e
  · rename_i r
    obtain ⟨x, av, rfl, hx⟩ := h.one
    split at e
    · rename_i ds q
      obtain ⟨a, xs, rfl, h1, h2⟩ := hx.items S q
      rw [if_pos rfl] at h2
      cases z : intsOf ds with
      | none => rw [z] at e; cases e
      | some ns =>
        rw [z] at e
        simp only [Option.bind_some] at e
        cases zk : minI ns with
        | none => rw [zk] at e; cases e
        | some j =>
          rw [zk] at e; cases e
          refine ⟨a, ns, rfl, by rw [← h1.toInts z]; exact h2, ?_, fun m' hm h3 => ?_⟩
          · cases ns with
            | nil => cases zk
            | cons _ _ => simp
          · rw [minI_is zk hm h3]
            exact k _ m (Gro.refl S) rfl
    · cases e
  · cases e
section
variable {X : Cx} {E : XK} {e a b o : Expr} {pos : Pos} {T T1 T2 T3 : List Nat} {fs : MA} {es : List Expr} {f f1 f2 f3 : ME}
def mChain (g g' : Rt → Rt → Option Rt) (f1 f2 f3 : ME) : ME := fun env => (f1 env).bind fun r1 e1 => (f2 e1).bind fun r2 e2 => match r1, r2 with
  | .val d1, .val d2 => (match g (.val d1) (.val d2) with
    | some (.val (.bl true)) => (f3 e2).bind fun r3 e3 => ofO (g' (.val d2) r3) e3
    | some (.val (.bl false)) => .ok (.val (.bl false)) e2
    | _ => .bad)
  | _, _ => .bad
theorem chain_rd {r r' : R2} {g g' : Rt → Rt → Option Rt} {σ : L2.St} {H : Hp} {Q : VK} (L : Loc2 C r g) (L' : Loc2 C r' g') (h : rdE C E (T1 ++ (T2 ++ T3)) (mChain g g' f1 f2 f3) σ H Q) : tChain r r' (rdE C E T1 f1) (rdE C E T2 f2) (rdE C E T3 f3) σ H Q :=
  let ⟨m, e1, e2, S, w⟩ := h
  ⟨m, e1, e2, S, Want.imp w.bind fun r1 env w => fun v1 m1 a1 a2 S1 s1 ok1 => by
    subst a1
    refine ⟨m1, rfl, a2, S1, Want.mono w.bind s1 fun r2 env2 w => fun v2 m2 b1 b2 S2 s2 ok2 => ?_⟩
    subst b1
    cases r1 with
    | own o => exact w.elim
    | bor x p o => exact w.elim
    | sl x => exact w.elim
    | val d1 =>
     cases r2 with
     | own o => exact w.elim
     | bor x p o => exact w.elim
     | sl x => exact w.elim
     | val d2 =>
      dsimp only at w
      have s12 := s1.trans s2
      have ok1' : RpD C.K C.cl m2.F d1 v1 := RpD.mono s2.exF _ _ ok1
      split at w
      · rename_i hg
        refine L m2 v1 v2 (.val d1) (.val d2) _ (fun _ => True) (fun _ => True) _ S2 ok1' ok2 hg fun z m3 G okz => ?_
        refine ⟨true, okz, ?_⟩
        rw [if_pos rfl]
        have s13 := step_nil S2 s12 G
        refine ⟨m3, rfl, G.σ.trans b2, S2.gro G, ?_⟩
        rw [G.env]
        refine Want.mono w.bind s13 fun r3 env3 w => fun v3 m4 c1 c2 S4 s4 ok3 => ?_
        subst c1
        cases hg' : g' (.val d2) r3 with
        | none => rw [hg'] at w; exact w.elim
        | some rz =>
          rw [hg'] at w
          have ok2' : RpD C.K C.cl m4.F d2 v2 := RpD.mono (G.exF.trans s4.exF) _ _ ok2
          refine L' m4 v2 v3 (.val d2) r3 rz (fun _ => True) _ _ S4 ok2' ok3 hg' fun y m5 G5 ok5 => ?_
          have s14 : Step (T1 ++ (T2 ++ T3)) m m4 := by have := s13.trans s4; rwa [List.append_assoc] at this
          exact w y m5 G5.env (G5.σ.trans c2) (S4.gro G5) (step_nil S4 s14 G5) (ok5.av (old_new s14))
      · rename_i hg
        refine L m2 v1 v2 (.val d1) (.val d2) _ (fun _ => True) (fun _ => True) _ S2 ok1' ok2 hg fun z m3 G okz => ?_
        refine ⟨false, okz, ?_⟩
        rw [if_neg Bool.false_ne_true]
        have s13 : Step (T1 ++ (T2 ++ T3)) m m3 := (step_nil S2 s12 G).wk fun i hi => by
          simp only [List.mem_append] at hi ⊢
          rcases hi with z | z
          · exact .inl z
          · exact .inr (.inl z)
        exact w _ m3 G.env (G.σ.trans b2) (S2.gro G) s13 rfl
      · exact w.elim⟩
theorem e_chain {r r' : R2} {g g' : Rt → Rt → Option Rt} (L : Loc2 C r g) (L' : Loc2 C r' g') (h : PE X e (tChain r r' (rdE C E T1 f1) (rdE C E T2 f2) (rdE C E T3 f3))) : PE X e (rdE C E (T1 ++ (T2 ++ T3)) (mChain g g' f1 f2 f3)) :=
  PE.wk h fun _ _ _ h => chain_rd L L' h
theorem t_chain {r r' : R2} {g g' : Rt → Rt → Option Rt} (L : Loc2 C r g) (L' : Loc2 C r' g') (h : PT X e (tTest (tChain r r' (rdE C E T1 f1) (rdE C E T2 f2) (rdE C E T3 f3)))) : PT X e (rdT C E (T1 ++ (T2 ++ T3)) (mTest (mChain g g' f1 f2 f3))) :=
  PT.wk h fun _ _ Q h => chain_rd (Q := fun x H' => ∃ k, x = .bl k ∧ Q k H') L L' (rdTest h)
def gRev (r : Rt) : Option Rt := match r.items with
  | some (true, ds) => some (.own (.lst (ds.reverse.map O.s)))
  | _ => none
theorem rpDs_rev {K : PySem.W.Frag} {cl : Nat → Addr} {H : Hp} : ∀ {ds : List D} {xs : List V}, RpDs K cl H ds xs → RpDs K cl H ds.reverse xs.reverse
  | [], xs, h => by rw [show xs = [] from h]; exact rfl
  | d :: ds, xs, h => by
    obtain ⟨v, r, rfl, h1, h2⟩ := h
    rw [List.reverse_cons, List.reverse_cons]
    exact RpDs.append (rpDs_rev h2) ⟨v, [], rfl, h1, rfl⟩
theorem e_rev (hK : X.K = C.K) (h : PE X e (tRevL X.K (rdE C E T f))) : PE X e (rdE C E T (m1 gRev f)) := PE.wk h fun σ H Q h => by
  unfold tRevL
  rw [hK]
  refine rd1 (r := fun x H1 Q => ∃ a xs, x = .ref a ∧ SqL C.K H1 a xs ∧ ∀ p, H1 p = none → Q (.ref p) (upd H1 p (.lst xs.reverse))) ?_ h
  intro m x rx ry av Q S h1 h k
  unfold gRev at h
  split at h
  · rename_i ds q
    cases h
    obtain ⟨a, xs, rfl, r1, h2⟩ := h1.items S q
    rw [if_pos rfl] at h2
    exact ⟨a, xs, rfl, h2, fun p hp => k _ _ (gro_own S hp) (own_lst S hp (rpDs_rev r1) (fun z => z hp))⟩
  · cases h
def gLRg : Rt → Option Rt
  | .val (.int n) => if 0 ≤ n ∧ n ≤ 16777216 then some (.own (.lst ((rngD 0 n.toNat).map O.s))) else none
  | _ => none
theorem rngD_rp {K : PySem.W.Frag} {cl : Nat → Addr} {H : Hp} {lo : Int} (ks : List Nat) : RpDs K cl H (ks.map fun (i : Nat) => D.int (lo + (i : Int))) (ks.map fun (i : Nat) => V.int (lo + (i : Int))) := by
  induction ks with
  | nil => rfl
  | cons k ks ih => exact ⟨_, _, rfl, rfl, ih⟩
theorem e_listRg (h : PE X e (tLstRg (tRg1 (rdE C E T f)))) : PE X e (rdE C E T (m1 gLRg f)) := PE.wk h fun σ H Q h => by
  refine rd1 (r := fun x H1 Q => ∃ n, x = .int n ∧ RgOk 0 n ∧ ∀ q, H1 q = none → Q (.ref q) (upd H1 q (.lst (rgV 0 n)))) ?_ h
  intro m x rx ry av Q S h1 h k
  unfold gLRg at h
  split at h
  · rename_i n
    split at h
    · rename_i z
      cases h
      refine ⟨n, h1, RgOk.of_le (by omega) z.2 (by omega) z.1, fun p hp => k _ _ (gro_own S hp) (own_lst S hp ?_ (fun z => z hp))⟩
      unfold rngD rgV
      rw [Int.sub_zero]
      exact rngD_rp _
    · cases h
  · cases h
def tysR (ns : List String) : TA := ns.foldr (fun n t => tCons (tC (.ty n)) t) tNil
theorem tysR_go (ns : List String) {σ : L2.St} {H : Hp} {Q : List V → Hp → Prop} (q : Q (ns.map V.ty) H) : tysR ns σ H Q := by
  induction ns generalizing Q with
  | nil => exact q
  | cons n ns ih => exact ih q
def mIsT (ns : List String) (f : ME) : ME := fun env => (f env).bind fun r e => if r.isSl = true ∨ r.d.plain = false then .bad else ofO ((kitBs r.d.tn ns).map fun b => .val (.bl b)) e
theorem e_isT (ns : List String) (hK : X.K = C.K) (hn : ns.length ≤ 1000) (h : PE X e (tCB (rIsiT X.K) (tCons (rdE C E T f) (tCons (tTup (tysR ns)) tNil)))) : PE X e (rdE C E T (mIsT ns f)) := PE.wk h fun σ H Q ⟨m, e1, e2, S, w⟩ =>
  ⟨m, e1, e2, S, Want.imp w.bind fun r env w => fun v m' e3 e4 S' s ok => by
    subst e3
    refine tysR_go ns ⟨by rw [List.length_map, sizeLine_is]; omega, fun p hp => ?_⟩
    by_cases hs : r.isSl = true ∨ r.d.plain = false
    · rw [if_pos hs] at w; exact w.elim
    rw [if_neg hs] at w
    cases hk : kitBs r.d.tn ns with
    | none => rw [hk] at w; exact w.elim
    | some b =>
      rw [hk] at w
      have rd := ok.rd S' (by cases q : r.isSl <;> simp_all)
      have G := gro_own (o := .tup (ns.map V.ty)) S' hp
      rw [hK]
      have pr : ∀ l : List String, Paired ClsV (l.map V.ty) (l.map Value.type) := fun l => by
        induction l with
        | nil => exact .nil
        | cons n l ih => exact .cons (.ty n) ih
      refine ⟨v, p, ns.map V.ty, _, ns.map Value.type, b, rfl, upd_same, pr ns, (RpD.mono G.exH _ _ rd).tyx (by cases z : r.d.plain <;> simp_all), kitBs_any hk, ?_⟩
      exact w (.bl b) { m' with H := upd m'.H p (.tup (ns.map V.ty)) } rfl e4 (S'.gro G) (step_nil S' s G) rfl⟩
theorem op_inDT {X : Cx} (hu : X.A.units + 1 < cLine) : OpR X (compareOp .In) (fun x y H Q => ∃ a b kvs k, y = .ref a ∧ x = .ref b ∧ Rd H a (.dT kvs) ∧ SqT X.K H b (k.map kV) ∧ Q (.bl (valV kvs k).isSome) H) := by
  intro pins s σ H x y v u Q I rx ry h
  obtain ⟨a, b, kvs, k, rfl, rfl, e, hb, q⟩ := h
  cases rx
  cases ry
  obtain ⟨its, r, p, _⟩ := I.tuple hb
  obtain ⟨o, h1, h2, n, h3⟩ := p
  obtain ⟨z, hd, xs, rel, dd⟩ := dt_rd I.hok e
  refine wpAny_in_heap (tupleKind_room_in1 hu) ⟨o, its.toArray, n, h1, h2, h3, by simpa using items_are r⟩ hd dd ?_
  have q' := (rel.val k).isSome_eq
  rw [Option.isSome_map] at q'
  rw [← q']
  exact ⟨.bl _, H, I.tok _, rfl, q⟩
def D.key : D → Option Key
  | .int i => some (.inl i)
  | .str s => some (.inr s)
  | _ => none
def keysOf : List D → Option (List Key)
  | [] => some []
  | d :: ds => match d.key, keysOf ds with
    | some k, some ks => some (k :: ks)
    | _, _ => none
theorem RpDs.keys {K : PySem.W.Frag} {cl : Nat → Addr} {H : Hp} : ∀ {ds : List D} {vs : List V} {ks : List Key}, RpDs K cl H ds vs → keysOf ds = some ks → vs = ks.map kV
  | [], vs, ks, h, e => by cases e; exact h
  | d :: ds, vs, ks, h, e => by
    obtain ⟨v, r, rfl, h1, h2⟩ := h
    unfold keysOf at e
    split at e
    · rename_i k ks' e1 e2
      cases e
      rw [RpDs.keys h2 e2]
      cases d with
      | int i => cases e1; rw [show v = .int i from h1]; rfl
      | str i => cases e1; rw [show v = .str i from h1]; rfl
      | _ => cases e1
    · cases e
def gInDT : Rt → Rt → Option Rt
  | .val (.tup ds), .bor _ _ (.dt ks os) => (keysOf ds).map fun k => .val (.bl (lkK ks os k).isSome)
  | .val (.tup ds), .val (.dt ks os) => (keysOf ds).map fun k => .val (.bl (lkK ks os k).isSome)
  | _, _ => none
theorem lkK_isSome {α β κ : Type} [DecidableEq κ] {f : κ} : ∀ {ns : List κ} {xs : List α} {ys : List β}, xs.length = ys.length → (lkK ns xs f).isSome = (lkK ns ys f).isSome
  | [], xs, ys, _ => by simp [lkK]
  | n :: ns, [], ys, h => by
    have : ys = [] := List.eq_nil_of_length_eq_zero h.symm
    subst this; simp [lkK]
  | n :: ns, x :: xs, [], h => by simp at h
  | n :: ns, x :: xs, y :: ys, h => by
    unfold lkK
    by_cases e : n = f
    · simp [e]
    · simp only [if_neg e]
      exact lkK_isSome (by simpa using h)
theorem loc_inDT : Loc2 C (fun x y H Q => ∃ a b kvs k, y = .ref a ∧ x = .ref b ∧ Rd H a (.dT kvs) ∧ SqT C.K H b (k.map kV) ∧ Q (.bl (valV kvs k).isSome) H) gInDT := by
  intro m x y rx ry rz av av' Q S h1 h2 h k
  unfold gInDT at h
  split at h
  · rename_i ds x0 p ks os
    cases q : keysOf ds with
    | none => rw [q] at h; cases h
    | some kk =>
      rw [q] at h; cases h
      obtain ⟨b, xs, rfl, q1, r1⟩ := h1
      obtain ⟨fp, a, ys, f, rfl, _, h3, h4, h5⟩ := h2.bor S
      refine ⟨a, b, ks.zip ys, kk, rfl, rfl, .inl h3, by rw [← r1.keys q]; exact S.ex.sqT q1, k _ m (Gro.refl S) ?_⟩
      show V.bl _ = V.bl _
      rw [lkK_val, lkK_isSome h5.length]
  · rename_i ds ks os
    cases q : keysOf ds with
    | none => rw [q] at h; cases h
    | some kk =>
      rw [q] at h; cases h
      obtain ⟨b, xs, rfl, q1, r1⟩ := h1
      obtain ⟨a, ys, rfl, h3, h4, h5⟩ := h2
      refine ⟨a, b, ks.zip ys, kk, rfl, rfl, .inl (S.ex _ _ h3), by rw [← r1.keys q]; exact S.ex.sqT q1, k _ m (Gro.refl S) ?_⟩
      show V.bl _ = V.bl _
      rw [lkK_val, lkK_isSome h5.length]
  · cases h
def mDT0 : ME := fun env => .ok (.own (.dt [] [])) env
theorem e_dt0 : PE X (.Dict [] [] pos) (rdE C E [] mDT0) := PE.wk pe_dnewT fun σ H Q ⟨m, e1, e2, S, w⟩ p hp => by
  subst e1
  have G := gro_own (o := .dT []) S hp
  exact w (.ref p) { m with H := upd m.H p (.dT []) } rfl e2 (S.gro G) ((G.step S).wk (by simp)) ⟨[p], ⟨p, [], [], rfl, rfl, upd_same, rfl, rfl, rfl⟩, by simp, fun a ha => by
    have ha : a = p := by simpa using ha
    subst ha
    exact ⟨S.fNone hp, fun z => S.inH a z hp, .inl (S.h0None hp), fun z => z.1 hp⟩⟩
end
end
end L3
namespace L3
open PySem L2
section
variable {X : Cx} {C : Cn} {E : XK} {e a b o : Expr} {pos : Pos} {T T1 T2 T3 : List Nat} {fs : MA} {es : List Expr} {f f1 f2 f3 : ME}
theorem RpOs.unsnoc {K : PySem.W.Frag} {cl : Nat → Addr} {F H : Hp} {d : D} : ∀ {os : List O} {vs : List V} {fp : Fp}, RpOs K cl F H (os ++ [.s d]) vs fp → ∃ vs' v, vs = vs' ++ [v] ∧ RpOs K cl F H os vs' fp ∧ RpD K cl F d v
  | [], vs, fp, h => by
    obtain ⟨v, r, f, g, rfl, rfl, ⟨rfl, h1⟩, rfl, rfl⟩ := h
    exact ⟨[], v, rfl, ⟨rfl, rfl⟩, h1⟩
  | o :: os, vs, fp, h => by
    obtain ⟨v, r, f, g, rfl, rfl, h1, h2⟩ := h
    obtain ⟨vs', v', rfl, q1, q2⟩ := RpOs.unsnoc h2
    exact ⟨v :: vs', v', rfl, ⟨v, vs', f, g, rfl, rfl, h1, q1⟩, q2⟩
def unsnoc : List O → Option (List O × D)
  | [] => none
  | [.s d] => some ([], d)
  | o :: os => (unsnoc os).map fun p => (o :: p.1, p.2)
theorem unsnoc_is : ∀ {os : List O} {p : List O × D}, unsnoc os = some p → os = p.1 ++ [.s p.2]
  | [], p, h => by cases h
  | [o], p, h => by
    cases o with
    | s d => cases h; rfl
    | lst _ => cases h
    | dk _ _ => cases h
    | dt _ _ => cases h
    | ins _ _ _ => cases h
  | o :: o2 :: os, p, h => by
    have h' : (unsnoc (o2 :: os)).map (fun p => (o :: p.1, p.2)) = some p := by
      cases o <;> exact h
    cases q : unsnoc (o2 :: os) with
    | none => rw [q] at h'; cases h'
    | some p' =>
      rw [q] at h'; cases h'
      rw [unsnoc_is q]; rfl
def mPop (Tx : List Nat) (f : ME) : ME := fun env => (f env).bind fun r e1 => match r with
  | .bor x p (.lst os) => (match unsnoc os with
    | some q => if x ∈ Tx then (match poke x p (.lst q.1) e1 with
      | some e2 => .ok (.val q.2) e2
      | none => .bad) else .bad
    | none => .bad)
  | _ => .bad
theorem e_pop (Tx : List Nat) (hK : X.K = C.K) (h : PE X e (tBM0 X.K "list" rPop (rdE C E T1 f1))) : PE X e (rdE C E (T1 ++ Tx) (mPop Tx f1)) :=
  PE.wk h fun σ H Q ⟨m, e1, e2, S, w⟩ => ⟨m, e1, e2, S, Want.imp w.bind fun r env w => fun v m' e3 e4 S' s ok => by
    subst e3
    split at w
    · rename_i x p os
      split at w
      · rename_i q hq
        by_cases hz : x ∈ Tx
        · rw [if_pos hz] at w
          have hos := unsnoc_is hq
          obtain ⟨f0, a, xs, fl, rfl, rfl, hl, rr⟩ := ok.bor S'
          rw [hK]
          rw [hos] at rr
          obtain ⟨vs', v', rfl, rr1, rr2⟩ := rr.unsnoc
          obtain ⟨env', hp, m3, b1, b2, b3, b4, S3, s3, b5⟩ := poke_ok (ho := .lst vs') (o' := .lst q.1) s S' ok (fun fr hr na nd inx => by
            obtain ⟨a2, xs2, f4, e, e', hl4, rr4⟩ := hr
            cases e; cases e'
            rw [hl] at hl4; cases hl4
            rw [hos] at rr4
            obtain ⟨vs2, v2, ev, rr5, _⟩ := rr4.unsnoc
            obtain ⟨rfl, _⟩ := List.append_inj' ev rfl
            refine ⟨fr, ⟨a, _, _, rfl, rfl, upd_same, rr5.upd na⟩, nd, fun b hb => .inl hb⟩) ⟨fl, a, _, fl, rfl, rfl, hl, by rw [hos]; exact rr⟩
          rw [hp] at w
          refine ⟨.inl ⟨rfl, _, .inl (.inl hl)⟩, a, _, v', rfl, rfl, hl, by simp, ?_⟩
          rw [List.dropLast_concat]
          have := w v' m3 b1 (b4.trans e4) S3 (s3.wk (fun i hi => by
            simp only [List.mem_append] at hi ⊢
            rcases hi with z | z
            · exact .inl z
            · have : i = x := by simpa using z
              exact .inr (by rw [this]; exact hz))) (by show RpD C.K C.cl m3.F q.2 v'; rw [b2]; exact rr2)
          rw [b3] at this
          exact this
        · rw [if_neg hz] at w; exact w.elim
      · exact w.elim
    · exact w.elim⟩
def mExtend (Tx T2 : List Nat) (f f2 : ME) : ME := fun env => (f env).bind fun r e1 => match r with
  | .bor x p (.lst os) => if x ∈ T2 then .bad else (f2 e1).bind fun y e2 => match lstOf y with
    | some ds => if os.length + ds.length ≤ 16777216 ∧ x ∈ Tx then (match poke x p (.lst (os ++ ds.map O.s)) e2 with
      | some e3 => .ok (.val .non) e3
      | none => .bad) else .bad
    | none => .bad
  | _ => .bad
theorem e_extend (Tx : List Nat) (hK : X.K = C.K) (h : PE X e (tBM X.K "list" rExtend (rdE C E T1 f1) (rdA1 C E T2 f2))) : PE X e (rdE C E (T1 ++ (T2 ++ Tx)) (mExtend Tx T2 f1 f2)) :=
  PE.wk h fun σ H Q ⟨m, e1, e2, S, w⟩ => ⟨m, e1, e2, S, Want.imp w.bind fun r env w => fun v m' e3 e4 S' s ok => by
    subst e3
    split at w
    · rename_i x p os
      by_cases hh : x ∈ T2
      · rw [if_pos hh] at w; exact w.elim
      rw [if_neg hh] at w
      obtain ⟨f0, a, xs, fl, rfl, rfl, hl, rr⟩ := ok.bor S'
      rw [hK]
      refine ⟨.inl ⟨rfl, xs, .inl (.inl hl)⟩, m', rfl, e4, S', Want.mono w.bind s fun y env2 w vy m2 a1 a2 S2 s2 ok2 => ?_⟩
      subst a1
      have ok' := ok.step S' s2 (by simpa [Rt.hot] using hh) (a2.trans e4.symm)
      obtain ⟨f2, a', xs', fl2, e, rfl, hl2, rr2⟩ := ok'.bor S2
      cases e
      cases ho : lstOf y with
      | none => rw [ho] at w; exact w.elim
      | some ds =>
        rw [ho] at w
        dsimp only at w
        by_cases hz : os.length + ds.length ≤ 16777216 ∧ x ∈ Tx
        · rw [if_pos hz] at w
          obtain ⟨b, zs, rfl, hb, rz⟩ := ok2.lstOf S2 ho
          obtain ⟨env', hp, m3, b1, b2, b3, b4, S3, s3, b5⟩ := poke_ok (ho := .lst (xs' ++ zs)) (o' := .lst (os ++ ds.map O.s)) (s.trans s2) S2 ok' (fun fr hr na nd inx => by
            obtain ⟨a2, xs2, f4, e, e', hl4, rr4⟩ := hr
            cases e; cases e'
            rw [hl2] at hl4; cases hl4
            exact ⟨fr, ⟨a, _, _, rfl, rfl, upd_same, by have := (rr4.upd (ho := .lst (xs' ++ zs)) na).append rz.os; rwa [List.append_nil] at this⟩, nd, fun b hb => .inl hb⟩) ⟨fl2, a, xs', fl2, rfl, rfl, hl2, rr2⟩
          rw [hp] at w
          refine ⟨a, b, xs', zs, rfl, rfl, hl2, hb, by rw [rr2.length, rz.length, sizeLine_is]; exact hz.1, ?_⟩
          have := w .non m3 b1 (b4.trans a2) S3 (s3.wk (fun i hi => by
            simp only [List.mem_append] at hi ⊢
            rcases hi with (z | z) | z
            · exact .inl z
            · exact .inr (.inl z)
            · have : i = x := by simpa using z
              exact .inr (.inr (by rw [this]; exact hz.2)))) rfl
          rw [b3] at this
          exact this
        · rw [if_neg hz] at w; exact w.elim
    · exact w.elim⟩
def lookT : List (Str × D) → Str → Option D
  | [], _ => none
  | (k, d) :: r, z => if k = z then some d else lookT r z
def KTab (K : PySem.W.Frag) (cl : Nat → Addr) (d : Addr) (tab : List (Str × D)) : Prop := ∀ z : Str, ∃ r, PySem.W.nsIn K d z = some r ∧ (match lookT tab z with
  | none => r = none
  | some dd => ∃ (u0 : Value) (v0 : V), r = some u0 ∧ RelV v0 u0 ∧ ∀ F : Hp, RpD K cl F dd v0)
def mKGet (tab : List (Str × D)) (f1 f2 : ME) : ME := fun env => (f1 env).bind fun r1 e1 => (f2 e1).bind fun r2 e2 => match r1, r2 with
  | .val (.str z), .val d => .ok (.val ((lookT tab z).getD d)) e2
  | _, _ => .bad
def tKGet (K : PySem.W.Frag) (d : Addr) (ta tb : TE) : TE := fun σ H Q => ta σ H fun x H1 => tb σ H1 fun y H2 => ∃ (z : Str) (r : Option Value), x = .str z ∧ PySem.W.nsIn K d z = some r ∧ (∀ u0, r = some u0 → ∃ v0, RelV v0 u0 ∧ Q v0 H2) ∧ (r = none → Q y H2)
theorem pe_kget {d : Addr} {es : Array DictEntry} {n : Nat} {nm : Str} {p apos cpos : Pos} {ta tb : TE} (Dk : KDict X.K X.w d es n) (hg : Gl X nm) (hm : X.mg nm = some (.ref d)) (ha : PE X a ta) (hb : PE X b tb) (m : M2 X (.Name nm p) "get" apos a b cpos)
    (hdb : (nm == ("__debug__" : Str)) = false := by decide) : PE X (.Call (.Attribute (.Name nm p) "get" apos) [a, b] [] cpos) (tKGet X.K d ta tb) := by
  refine ⟨fun pins s σ H Q I h => ?_⟩
  refine wpAny_Call_method m.base m.few m.line PySem.F.plainAttrs_dict PySem.F.slot_dict_get PySem.F.type_dict_get (ld_glob I hg hm ?_ hdb)
  have mp := PySem.W.mapOf_K (prog := X.prog) (w := X.w) I.kIn Dk.at_ Dk.lit
  refine ⟨mp.typeIs, mp.noDict, ?_⟩
  rw [m.trees]
  refine Calls.callWith_builtin rfl (Calls.evalArgs_plain (Calls.spliced_cons (thn (ha.run pins s σ H _ I h) fun iv s2 ⟨x, H1, I1, rx, q1⟩ =>
    Calls.spliced_cons (thn (hb.run pins s2 σ H1 _ I1 q1) fun fv s3 ⟨y, H2, I3, ry, z, r, ex, en, g1, g2⟩ => Calls.spliced_nil ?_))))
  subst ex
  obtain ⟨t, rfl⟩ := rx
  have mp3 := PySem.W.mapOf_K (prog := X.prog) (w := X.w) I3.kIn Dk.at_ Dk.lit
  refine call_meetsIn PySem.F.slot_dict_get mp3.typeIs PySem.F.entry_dict_get (PySem.F.args_dict_get_3 _ _ _) (meets_dict_get_default (PySem.strKind X.prog X.w) d (PySem.strKind_is X.prog X.w z t) Dk.low fv) ⟨_, mp3, ?_⟩
  rw [PySem.W.find_K Dk.at_ en]
  cases r with
  | none => exact ⟨y, H2, I3.tok _, ry, g2 rfl⟩
  | some u0 =>
    obtain ⟨v0, r0, q0⟩ := g1 u0 rfl
    exact ⟨v0, H2, I3.tok _, r0, q0⟩
theorem e_kget {d : Addr} {tab : List (Str × D)} {e : Expr} (hT : KTab C.K C.cl d tab) (hK : X.K = C.K) (h : PE X e (tKGet X.K d (rdE C E T1 f1) (rdE C E T2 f2))) : PE X e (rdE C E (T1 ++ T2) (mKGet tab f1 f2)) := PE.wk h fun σ H Q ⟨m, e1, e2, S, w⟩ =>
  ⟨m, e1, e2, S, Want.imp w.bind fun r1 env w => fun v1 m1 a1 a2 S1 s1 ok1 => by
    subst a1
    refine ⟨m1, rfl, a2, S1, Want.mono w.bind s1 fun r2 env2 w => fun v2 m2 b1 b2 S2 s2 ok2 => ?_⟩
    subst b1
    split at w
    · rename_i z dd _
      rw [hK]
      obtain ⟨r, en, hr⟩ := hT z
      have ok1 : v1 = .str z := ok1
      refine ⟨z, r, ok1, en, fun u0 hu => ?_, fun hn => ?_⟩
      · subst hu
        cases q : lookT tab z with
        | none => rw [q] at hr; cases hr
        | some d0 =>
          rw [q] at hr w
          obtain ⟨u1, v0, e3, r0, k⟩ := hr
          cases e3
          exact ⟨v0, r0, w v0 m2 rfl b2 S2 (s1.trans s2) (k _)⟩
      · subst hn
        cases q : lookT tab z with
        | some d0 =>
          rw [q] at hr
          obtain ⟨u1, v0, e3, _⟩ := hr
          cases e3
        | none =>
          rw [q] at w
          exact w v2 m2 rfl b2 S2 (s1.trans s2) ok2
    · exact w.elim⟩
end
end L3
namespace L3
open PySem L2
structure CalF (P : Program) (w : World) (K : PySem.W.Frag) (mg : Str → Option Value) (base : Heap) (k : Nat) (x : Str) (ps : List Str) (sp : Sp) (f : Addr) (fd : FuncData) : Prop where
  ok : FnOk P w K mg base CX0 k f fd ps sp
  b : Binds K fd ps []
  g : mg x = some (.ref f)
  kp : PySem.W.keepIn K (.ref f) = true
structure CalM (P : Program) (w : World) (K : PySem.W.Frag) (mg : Str → Option Value) (base : Heap) (k : Nat) (C : Addr) (m : Str) (ps : List Str) (sp : Sp) (f : Addr) (fd : FuncData) : Prop where
  ok : FnOk P w K mg base CX0 k f fd ps sp
  b : Binds K fd ps []
  c : Cls K C
  m : Meth K C m f
structure CalI (P : Program) (w : World) (K : PySem.W.Frag) (mg : Str → Option Value) (base : Heap) (k : Nat) (C : Addr) (x : Str) (ps : List Str) (sp : Sp) (f : Addr) (fd : FuncData) : Prop where
  ok : FnOk P w K mg base CX0 k f fd ps sp
  b : Binds K fd ps []
  made : Mk K C f
  g : mg x = some (.ref C)
theorem CalF.imp {P : Program} {w : World} {K : PySem.W.Frag} {mg : Str → Option Value} {base : Heap} {k : Nat} {x : Str} {ps : List Str} {f : Addr} {fd : FuncData} {cl : Nat → Addr} {n : Nat} {f1 f2 : List O → Rr} (c : CalF P w K mg base k x ps (spG K cl n f1) f fd)
    (h : ∀ os, os.length = n → f2 os = .bad ∨ f1 os = f2 os) : CalF P w K mg base k x ps (spG K cl n f2) f fd := ⟨c.ok.imp (fun vs H Q E q => spG_imp h vs H Q E q), c.b, c.g, c.kp⟩
theorem CalM.imp {P : Program} {w : World} {K : PySem.W.Frag} {mg : Str → Option Value} {base : Heap} {k : Nat} {C : Addr} {m : Str} {ps : List Str} {f : Addr} {fd : FuncData} {cl : Nat → Addr} {n : Nat} {f1 f2 : List O → Rr} (c : CalM P w K mg base k C m ps (spG K cl n f1) f fd)
    (h : ∀ os, os.length = n → f2 os = .bad ∨ f1 os = f2 os) : CalM P w K mg base k C m ps (spG K cl n f2) f fd := ⟨c.ok.imp (fun vs H Q E q => spG_imp h vs H Q E q), c.b, c.c, c.m⟩
theorem CalI.imp {P : Program} {w : World} {K : PySem.W.Frag} {mg : Str → Option Value} {base : Heap} {k : Nat} {C : Addr} {x : Str} {ps : List Str} {f : Addr} {fd : FuncData} {cl : Nat → Addr} {n : Nat} {f1 f2 : List O → Rr} (c : CalI P w K mg base k C x ps (spG K cl n f1) f fd)
    (h : ∀ os, os.length = n → f2 os = .bad ∨ f1 os = f2 os) : CalI P w K mg base k C x ps (spG K cl n f2) f fd := ⟨c.ok.imp (fun vs H Q E q => spG_imp h vs H Q E q), c.b, c.made, c.g⟩
theorem all1 {p : Nat → Prop} {a : Nat} (h : p a) : ∀ c ∈ [a], p c := fun c hc => by
  have e : c = a := by simpa using hc
  rw [e]; exact h
theorem all2 {p : Nat → Prop} {a b : Nat} (h : p a) (h2 : p b) : ∀ c ∈ [a, b], p c := fun c hc => by
  rcases List.mem_cons.mp hc with e | e
  · rw [e]; exact h
  · exact all1 h2 c e
theorem all3 {p : Nat → Prop} {a b d : Nat} (h : p a) (h2 : p b) (h3 : p d) : ∀ c ∈ [a, b, d], p c := fun c hc => by
  rcases List.mem_cons.mp hc with e | e
  · rw [e]; exact h
  · exact all2 h2 h3 c e
theorem loc_ipadd {C : Cn} : Loc2 C (ipI fun i j => i + j) (gI fun i j => .int (i + j)) := by
  intro m x y rx ry rz av av' Q S h1 h2 h k
  obtain ⟨i, j, rfl, rfl, rfl⟩ := gI_some h
  exact ⟨i, j, h1, h2, k _ m (Gro.refl S) rfl⟩
theorem loc_ipsub {C : Cn} : Loc2 C (ipI fun i j => i - j) (gI fun i j => .int (i - j)) := by
  intro m x y rx ry rz av av' Q S h1 h2 h k
  obtain ⟨i, j, rfl, rfl, rfl⟩ := gI_some h
  exact ⟨i, j, h1, h2, k _ m (Gro.refl S) rfl⟩
theorem fn_def2 {P : Program} {w : World} {K : PySem.W.Frag} {mg : Str → Option Value} {base : Heap} {cl : Nat → Addr} {x qual : Str} {st : Stmt} {f : Addr} {fd : FuncData} {N ps : List Str} {k : Nat} {IO : List Nat} {body : MS} (F : Fun K x qual st f fd) (S : FnScope N ps (defScope st)) (hN : ps.length ≤ N.length)
    (hb : ∀ (cdv : Value) (A : Around) (outer : List PySem.Env) (s : Shared) (H : Hp) (E : XK) (F0 H0 : Hp) (io : Fp) (vs : L2.St), Room k (A.deeper (PyProof.Rows.envOfC qual (defScope st) s.heap.objs.size f cdv)) →
      ∃ T, PSs (cxOf CX0 P w K mg base N qual (defScope st) f cdv A outer s H E).nox (defBody st) (rdS ⟨K, cl, F0, H0, io, IO, vs, N.length⟩ E T body)) :
    FnOk P w K mg base CX0 (k + 1) f fd ps (spG K cl ps.length (runDef IO (N.length - ps.length) body)) :=
  fn_def F S hN fun cdv A outer s H E C h1 h2 h3 h4 hr => by
    obtain ⟨K', cl', F0, H0, io, IO', vs, n⟩ := C
    have h1 : K' = K := h1
    have h2 : cl' = cl := h2
    have h3 : IO' = IO := h3
    have h4 : n = N.length := h4
    subst h1 h2 h3 h4
    exact hb cdv A outer s H E F0 H0 io vs hr
theorem units65 {k : Nat} {A : Around} (r : Room k A) : A.units + 65 < cLine := by have := r.un; omega
theorem units1 {k : Nat} {A : Around} (r : Room k A) : A.units + 1 < cLine := by have := r.un; omega
end L3
namespace L3
open PySem L2
theorem shp_int (i : Int) : SeqAt.shaped (.int i) = true := by
  unfold SeqAt.shaped
  rw [Bool.and_eq_true]
  exact ⟨by simp [PyData.canLay0], by simp [PyData.depth]⟩
theorem shp_str {i : Str} (h : PyData.strOk i = true) : SeqAt.shaped (.str i) = true := by
  unfold SeqAt.shaped
  rw [Bool.and_eq_true]
  exact ⟨by simpa [PyData.canLay0] using h, by simp [PyData.depth]⟩
theorem beq_dec {α : Type} [DecidableEq α] [BEq α] [LawfulBEq α] (i j : α) : (i == j) = decide (i = j) := by
  by_cases h : i = j
  · subst h; simp
  · simp [h]
def Rs.ex {α β : Type} : Rs α → Rs β
  | .exc c ds e => .exc c ds e
  | _ => .bad
def seqK (g2 : MS) : Rs Fl → Rs Fl
  | .ok .nx e => g2 e
  | r => r
def testK : Rs Rt → Rs Bool
  | .ok r e => ofO (toB r) e
  | r => r.ex
def ifK {α : Type} (g1 g2 : Env → Rs α) : Rs Bool → Rs α
  | .ok b e => if b = true then g1 e else g2 e
  | r => r.ex
def tandK (t2 : MT) : Rs Bool → Rs Bool
  | .ok b e => if b = true then t2 e else .ok false e
  | r => r
def torK (t2 : MT) : Rs Bool → Rs Bool
  | .ok b e => if b = true then .ok true e else t2 e
  | r => r
def tnotK : Rs Bool → Rs Bool
  | .ok b e => .ok (!b) e
  | r => r
def m2L (g : Rt → Rt → Option Rt) (r1 : Rt) : Rs Rt → Rs Rt
  | .ok r2 e => ofO (g r1 r2) e
  | r => r
def m2K (g : Rt → Rt → Option Rt) (T : List Nat) (f2 : ME) : Rs Rt → Rs Rt
  | .ok r1 e => if r1.hot T = true then .bad else m2L g r1 (f2 e)
  | r => r
def m1K (g : Rt → Option Rt) : Rs Rt → Rs Rt
  | .ok r e => ofO (g r) e
  | r => r
def mNK (g : List Rt → Option Rt) : Rs (List Rt) → Rs Rt
  | .ok r e => ofO (g r) e
  | r => r.ex
def consL (r : Rt) : Rs (List Rt) → Rs (List Rt)
  | .ok rs e => .ok (r :: rs) e
  | r => r
def consK (T : List Nat) (fs : MA) : Rs Rt → Rs (List Rt)
  | .ok r e => if r.hot T = true then .bad else consL r (fs e)
  | r => r.ex
def retK : Rs Rt → Rs Fl
  | .ok r e => .ok (.ret r) e
  | r => r.ex
def setP (i : Nat) (e : Env) : Option O → Rs Fl
  | some o => .ok .nx (e.set i (some o))
  | none => .bad
def setK (i : Nat) : Rs Rt → Rs Fl
  | .ok r e => setP i e r.o
  | r => r.ex
def exprK : Rs Rt → Rs Fl
  | .ok _ e => .ok .nx e
  | r => r.ex
def mAndB (f2 : ME) (e : Env) : Option Bool → Rs Rt
  | some true => f2 e
  | some false => .ok (.val (.bl false)) e
  | none => .bad
def mAndK (f2 : ME) : Rs Rt → Rs Rt
  | .ok r e => mAndB f2 e (toB r)
  | r => r
def mOrB (f2 : ME) (e : Env) : Option Bool → Rs Rt
  | some false => f2 e
  | some true => .ok (.val (.bl true)) e
  | none => .bad
def mOrK (f2 : ME) : Rs Rt → Rs Rt
  | .ok r e => mOrB f2 e (toB r)
  | r => r
def mNotB (e : Env) : Option Bool → Rs Rt
  | some k => .ok (.val (.bl (!k))) e
  | none => .bad
def mNotK : Rs Rt → Rs Rt
  | .ok r e => mNotB e (toB r)
  | r => r
def callR (n : Nat) (rs : List Rt) (e : Env) : Rr → Rs Rt
  | .ok r outs => if outs.length = n then .ok r.rr (putOuts e rs outs) else .bad
  | .exc c ds outs => if outs.length = n then .exc c ds (putOuts e rs outs) else .bad
  | .bad => .bad
def callA (Sl : List Nat) (n : Nat) (fn : List O → Rr) (rs : List Rt) (e : Env) : Option (List O) → Rs Rt
  | some os => if rs.length = n ∧ (slots rs).Nodup ∧ (∀ x ∈ slots rs, x ∈ Sl) then callR n rs e (fn os) else .bad
  | none => .bad
def callK (Sl : List Nat) (n : Nat) (fn : List O → Rr) : Rs (List Rt) → Rs Rt
  | .ok rs e => callA Sl n fn rs e (argsO e rs)
  | r => r.ex
def makeR (n : Nat) (rs : List Rt) (e : Env) : Rr → Rs Rt
  | .ok (.s .non) (self :: outs) => if outs.length + 1 = n then .ok self.rr (putOuts e rs outs) else .bad
  | .exc c ds (_ :: outs) => if outs.length + 1 = n then .exc c ds (putOuts e rs outs) else .bad
  | _ => .bad
def makeA (Sl : List Nat) (c n : Nat) (fn : List O → Rr) (rs : List Rt) (e : Env) : Option (List O) → Rs Rt
  | some os => if rs.length + 1 = n ∧ (slots rs).Nodup ∧ (∀ x ∈ slots rs, x ∈ Sl) then makeR n rs e (fn (.ins c [] [] :: os)) else .bad
  | none => .bad
def makeK (Sl : List Nat) (c n : Nat) (fn : List O → Rr) : Rs (List Rt) → Rs Rt
  | .ok rs e => makeA Sl c n fn rs e (argsO e rs)
  | r => r.ex
def methK (Sl : List Nat) (c : Nat) (mn : Str) (n : Nat) (fn : List O → Rr) (fs : MA) : Rs Rt → Rs Rt
  | .ok r e => if hasNo [c] mn e r = true then callK Sl n fn (consL r (fs e)) else .bad
  | r => r
def roK (n : Nat) (fn : List O → Rr) : Rs (List Rt) → Rs Rt
  | .ok rs e => roRun n fn rs e
  | r => r.ex
def methRK (T2 : List Nat) (c : Nat) (mn : Str) (n : Nat) (fn : List O → Rr) (fs : MA) : Rs Rt → Rs Rt
  | .ok r e => if r.isSl = false ∧ r.hot T2 = false ∧ roHas c mn r.d = true then roK n fn (consL r (fs e)) else .bad
  | r => r
def stlK : Rs Rt → Rs Rt
  | .ok (.own o) e => .ok (.val o.d) e
  | r => r
def chainN (g' : Rt → Rt → Option Rt) (d2 : D) : Rs Rt → Rs Rt
  | .ok r3 e => ofO (g' (.val d2) r3) e
  | r => r
def chainB (g' : Rt → Rt → Option Rt) (f3 : ME) (d2 : D) (e : Env) : Option Rt → Rs Rt
  | some (.val (.bl true)) => chainN g' d2 (f3 e)
  | some (.val (.bl false)) => .ok (.val (.bl false)) e
  | _ => .bad
def chainM (g g' : Rt → Rt → Option Rt) (f3 : ME) (r1 : Rt) : Rs Rt → Rs Rt
  | .ok r2 e => match r1, r2 with
    | .val d1, .val d2 => chainB g' f3 d2 e (g (.val d1) (.val d2))
    | _, _ => .bad
  | r => r
def chainK (g g' : Rt → Rt → Option Rt) (f2 f3 : ME) : Rs Rt → Rs Rt
  | .ok r1 e => chainM g g' f3 r1 (f2 e)
  | r => r
def runF (n : Nat) (fl : Fl) : Option (List O) → Option O → Rr
  | some outs, some r => .ok r outs
  | _, _ => .bad
def runK (IO : List Nat) (os : List O) : Rs Fl → Rr
  | .ok fl e => runF os.length fl (outsFrom IO 0 os e) (retO os.length fl)
  | .exc c ds e => match outsFrom IO 0 os e with
    | some outs => .exc c ds outs
    | none => .bad
  | .bad => .bad
def ixSet (Tx : List Nat) (x : Nat) (p : List Stp) (os : List O) (oy : O) (e : Env) : Option Nat → Rs Fl
  | some j => if x ∈ Tx then (match poke x p (.lst (os.set j oy)) e with
    | some e4 => .ok .nx e4
    | none => .bad) else .bad
  | none => .bad
def setIxI (Tx : List Nat) (oy : O) (r : Rt) : Rs Rt → Rs Fl
  | .ok ri e => match r, ri with
    | .bor x p (.lst os), .val (.int i) => ixSet Tx x p os oy e (ixN os.length i)
    | _, _ => .bad
  | r => r.ex
def setIxO (Tx T3 : List Nat) (fi : ME) (oy : O) : Rs Rt → Rs Fl
  | .ok r e => match r with
    | .bor x p (.lst os) => if x ∈ T3 then .bad else setIxI Tx oy (.bor x p (.lst os)) (fi e)
    | _ => .bad
  | r => r.ex
def setIxY (Tx T3 : List Nat) (fo fi : ME) (e : Env) : Option O → Rs Fl
  | some oy => setIxO Tx T3 fi oy (fo e)
  | none => .bad
def setIxK (Tx T3 : List Nat) (fo fi : ME) : Rs Rt → Rs Fl
  | .ok y e => setIxY Tx T3 fo fi e y.o
  | r => r.ex
section
variable {α β : Type} {env : Env} {e e1 : Env} {T T1 T2 T3 Tx : List Nat} {f f1 f2 f3 fo fi : ME} {fs : MA} {t t1 t2 : MT} {g g1 g2 : MS} {r : Rt} {rs : List Rt} {d : D}
@[simp] theorem ev_seq : msSeq g1 g2 env = seqK g2 (g1 env) := by
  unfold msSeq
  cases g1 env with
  | ok fl e => cases fl <;> rfl
  | exc c ds e => rfl
  | bad => rfl
@[simp] theorem ev_seq1 : seqK g2 (.ok .nx e) = g2 e := Eq.trans rfl rfl
@[simp] theorem ev_seq2 : seqK g2 (.ok (.ret r) e) = .ok (.ret r) e := Eq.trans rfl rfl
@[simp] theorem ev_seq3 : seqK g2 (.ok .brk e) = .ok .brk e := Eq.trans rfl rfl
@[simp] theorem ev_seq4 : seqK g2 (.ok .cont e) = .ok .cont e := Eq.trans rfl rfl
@[simp] theorem ev_seq5 : seqK g2 .bad = .bad := Eq.trans rfl rfl
@[simp] theorem ev_test : mTest f env = testK (f env) := by unfold mTest; cases f env <;> rfl
@[simp] theorem ev_test1 : testK (.ok r e) = ofO (toB r) e := Eq.trans rfl rfl
@[simp] theorem ev_if : msIf t g1 g2 env = ifK g1 g2 (t env) := by unfold msIf; cases t env <;> rfl
@[simp] theorem ev_if1 {b : Bool} {g1 g2 : Env → Rs α} : ifK g1 g2 (.ok b e) = if b = true then g1 e else g2 e := Eq.trans rfl rfl
@[simp] theorem ev_mIf : mIf t f1 f2 env = ifK f1 f2 (t env) := by unfold mIf; cases t env <;> rfl
@[simp] theorem ev_tand : tmAnd t1 t2 env = tandK t2 (t1 env) := by unfold tmAnd; cases t1 env <;> rfl
@[simp] theorem ev_tand1 {b : Bool} : tandK t2 (.ok b e) = if b = true then t2 e else .ok false e := Eq.trans rfl rfl
@[simp] theorem ev_tor : tmOr t1 t2 env = torK t2 (t1 env) := by unfold tmOr; cases t1 env <;> rfl
@[simp] theorem ev_tor1 {b : Bool} : torK t2 (.ok b e) = if b = true then .ok true e else t2 e := Eq.trans rfl rfl
@[simp] theorem ev_tnot : tmNot t1 env = tnotK (t1 env) := by unfold tmNot; cases t1 env <;> rfl
@[simp] theorem ev_tnot1 {b : Bool} : tnotK (.ok b e) = .ok (!b) e := Eq.trans rfl rfl
@[simp] theorem ev_m2 {g : Rt → Rt → Option Rt} : m2 g T f1 f2 env = m2K g T f2 (f1 env) := by
  unfold m2
  cases f1 env with
  | ok r1 e =>
    show (if r1.hot T = true then Rs.bad else (f2 e).bind _) = if r1.hot T = true then .bad else m2L g r1 (f2 e)
    cases f2 e <;> rfl
  | exc c ds e => rfl
  | bad => rfl
@[simp] theorem ev_m21 {g : Rt → Rt → Option Rt} : m2K g T f2 (.ok r e) = if r.hot T = true then .bad else m2L g r (f2 e) := Eq.trans rfl rfl
@[simp] theorem ev_m22 {g : Rt → Rt → Option Rt} {r2 : Rt} : m2L g r (.ok r2 e) = ofO (g r r2) e := Eq.trans rfl rfl
@[simp] theorem ev_m1 {g : Rt → Option Rt} : m1 g f env = m1K g (f env) := by unfold m1; cases f env <;> rfl
@[simp] theorem ev_m11 {g : Rt → Option Rt} : m1K g (.ok r e) = ofO (g r) e := Eq.trans rfl rfl
@[simp] theorem ev_mN {g : List Rt → Option Rt} : mN g fs env = mNK g (fs env) := by unfold mN; cases fs env <;> rfl
@[simp] theorem ev_mN1 {g : List Rt → Option Rt} : mNK g (.ok rs e) = ofO (g rs) e := Eq.trans rfl rfl
@[simp] theorem ev_cons : mCons T f fs env = consK T fs (f env) := by
  unfold mCons
  cases f env with
  | ok r1 e =>
    show (if r1.hot T = true then Rs.bad else (fs e).bind _) = if r1.hot T = true then .bad else consL r1 (fs e)
    cases fs e <;> rfl
  | exc c ds e => rfl
  | bad => rfl
@[simp] theorem ev_cons1 : consK T fs (.ok r e) = if r.hot T = true then .bad else consL r (fs e) := Eq.trans rfl rfl
@[simp] theorem ev_cons2 : consL r (.ok rs e) = .ok (r :: rs) e := Eq.trans rfl rfl
@[simp] theorem ev_nil : mNil env = .ok [] env := Eq.trans rfl rfl
@[simp] theorem ev_mC : mC d env = .ok (.val d) env := Eq.trans rfl rfl
theorem var_is {i : Nat} {o : O} (h : env[i]? = some (some o)) : mVar i env = .ok (o.rt i) env := by unfold mVar; rw [h]
theorem slot_is {i : Nat} {o : O} (h : env[i]? = some (some o)) : mSlot i env = .ok (.sl i) env := by unfold mSlot; rw [h]
@[simp] theorem ev_var0 {o : O} : mVar 0 (some o :: e) = .ok (o.rt 0) (some o :: e) := Eq.trans rfl rfl
@[simp] theorem ev_var1 {a : Option O} {o : O} : mVar 1 (a :: some o :: e) = .ok (o.rt 1) (a :: some o :: e) := Eq.trans rfl rfl
@[simp] theorem ev_var2 {a b : Option O} {o : O} : mVar 2 (a :: b :: some o :: e) = .ok (o.rt 2) (a :: b :: some o :: e) := Eq.trans rfl rfl
@[simp] theorem ev_var3 {a b c : Option O} {o : O} : mVar 3 (a :: b :: c :: some o :: e) = .ok (o.rt 3) (a :: b :: c :: some o :: e) := Eq.trans rfl rfl
@[simp] theorem ev_var4 {a b c d : Option O} {o : O} : mVar 4 (a :: b :: c :: d :: some o :: e) = .ok (o.rt 4) (a :: b :: c :: d :: some o :: e) := Eq.trans rfl rfl
@[simp] theorem ev_var5 {a b c d x : Option O} {o : O} : mVar 5 (a :: b :: c :: d :: x :: some o :: e) = .ok (o.rt 5) (a :: b :: c :: d :: x :: some o :: e) := Eq.trans rfl rfl
@[simp] theorem ev_var6 {a b c d x y : Option O} {o : O} : mVar 6 (a :: b :: c :: d :: x :: y :: some o :: e) = .ok (o.rt 6) (a :: b :: c :: d :: x :: y :: some o :: e) := Eq.trans rfl rfl
@[simp] theorem ev_var7 {a b c d x y z : Option O} {o : O} : mVar 7 (a :: b :: c :: d :: x :: y :: z :: some o :: e) = .ok (o.rt 7) (a :: b :: c :: d :: x :: y :: z :: some o :: e) := Eq.trans rfl rfl
@[simp] theorem ev_var8 {a b c d x y z u : Option O} {o : O} : mVar 8 (a :: b :: c :: d :: x :: y :: z :: u :: some o :: e) = .ok (o.rt 8) (a :: b :: c :: d :: x :: y :: z :: u :: some o :: e) := Eq.trans rfl rfl
@[simp] theorem ev_var9 {a b c d x y z u v : Option O} {o : O} : mVar 9 (a :: b :: c :: d :: x :: y :: z :: u :: v :: some o :: e) = .ok (o.rt 9) (a :: b :: c :: d :: x :: y :: z :: u :: v :: some o :: e) := Eq.trans rfl rfl
@[simp] theorem ev_var10 {a b c d x y z u v w : Option O} {o : O} : mVar 10 (a :: b :: c :: d :: x :: y :: z :: u :: v :: w :: some o :: e) = .ok (o.rt 10) (a :: b :: c :: d :: x :: y :: z :: u :: v :: w :: some o :: e) := Eq.trans rfl rfl
@[simp] theorem ev_slot0 {o : O} : mSlot 0 (some o :: e) = .ok (.sl 0) (some o :: e) := Eq.trans rfl rfl
@[simp] theorem ev_slot1 {a : Option O} {o : O} : mSlot 1 (a :: some o :: e) = .ok (.sl 1) (a :: some o :: e) := Eq.trans rfl rfl
@[simp] theorem ev_slot2 {a b : Option O} {o : O} : mSlot 2 (a :: b :: some o :: e) = .ok (.sl 2) (a :: b :: some o :: e) := Eq.trans rfl rfl
@[simp] theorem ev_slot3 {a b c : Option O} {o : O} : mSlot 3 (a :: b :: c :: some o :: e) = .ok (.sl 3) (a :: b :: c :: some o :: e) := Eq.trans rfl rfl
@[simp] theorem ev_some {a : α} : ofO (some a) e = .ok a e := Eq.trans rfl rfl
@[simp] theorem ev_none : ofO (none : Option α) e = .bad := Eq.trans rfl rfl
@[simp] theorem ev_hv : Rt.hot T (.val d) = false := Eq.trans rfl rfl
@[simp] theorem ev_ho {o : O} : Rt.hot T (.own o) = false := Eq.trans rfl rfl
@[simp] theorem ev_hs {x : Nat} : Rt.hot T (.sl x) = false := Eq.trans rfl rfl
@[simp] theorem ev_hb {x : Nat} {p : List Stp} {o : O} : Rt.hot T (.bor x p o) = T.contains x := Eq.trans rfl rfl
@[simp] theorem ev_rt1 {i : Nat} : O.rt i (.s d) = .val d := Eq.trans rfl rfl
@[simp] theorem ev_rt2 {i : Nat} {os : List O} : O.rt i (.lst os) = .bor i [] (.lst os) := Eq.trans rfl rfl
@[simp] theorem ev_rt3 {i c : Nat} {ns : List Str} {os : List O} : O.rt i (.ins c ns os) = .bor i [] (.ins c ns os) := Eq.trans rfl rfl
@[simp] theorem ev_rt4 {i : Nat} {ks : List (List Key)} {os : List O} : O.rt i (.dt ks os) = .bor i [] (.dt ks os) := Eq.trans rfl rfl
@[simp] theorem ev_at1 {x : Nat} {p : List Stp} : O.at x p (.s d) = .val d := Eq.trans rfl rfl
@[simp] theorem ev_at2 {x : Nat} {p : List Stp} {os : List O} : O.at x p (.lst os) = .bor x p (.lst os) := Eq.trans rfl rfl
@[simp] theorem ev_at3 {x c : Nat} {p : List Stp} {ns : List Str} {os : List O} : O.at x p (.ins c ns os) = .bor x p (.ins c ns os) := Eq.trans rfl rfl
@[simp] theorem ev_at4 {x : Nat} {p : List Stp} {ks : List (List Key)} {os : List O} : O.at x p (.dt ks os) = .bor x p (.dt ks os) := Eq.trans rfl rfl
@[simp] theorem ev_b {b : Bool} : toB (.val (.bl b)) = some b := Eq.trans rfl rfl
@[simp] theorem ev_o1 : Rt.o (.val d) = some (.s d) := Eq.trans rfl rfl
@[simp] theorem ev_o2 {o : O} : Rt.o (.own o) = some o := Eq.trans rfl rfl
@[simp] theorem ev_rr1 : O.rr (.s d) = .val d := Eq.trans rfl rfl
@[simp] theorem ev_rr2 {os : List O} : O.rr (.lst os) = .own (.lst os) := Eq.trans rfl rfl
@[simp] theorem ev_rr3 {c : Nat} {ns : List Str} {os : List O} : O.rr (.ins c ns os) = .own (.ins c ns os) := Eq.trans rfl rfl
@[simp] theorem ev_only : O.only (.s d) = some (.s d) := Eq.trans rfl rfl
@[simp] theorem ev_sl1 {x : Nat} : Rt.isSl (.sl x) = true := Eq.trans rfl rfl
@[simp] theorem ev_sl2 : Rt.isSl (.val d) = false := Eq.trans rfl rfl
@[simp] theorem ev_sl3 {o : O} : Rt.isSl (.own o) = false := Eq.trans rfl rfl
@[simp] theorem ev_sl4 {x : Nat} {p : List Stp} {o : O} : Rt.isSl (.bor x p o) = false := Eq.trans rfl rfl
@[simp] theorem ev_d2 : Rt.d (.val d) = d := Eq.trans rfl rfl
@[simp] theorem ev_d3 {o : O} : Rt.d (.own o) = o.d := Eq.trans rfl rfl
@[simp] theorem ev_d4 {x : Nat} {p : List Stp} {o : O} : Rt.d (.bor x p o) = o.d := Eq.trans rfl rfl
@[simp] theorem ev_ret : msRet f env = retK (f env) := by unfold msRet; cases f env <;> rfl
@[simp] theorem ev_ret1 : retK (.ok r e) = .ok (.ret r) e := Eq.trans rfl rfl
@[simp] theorem ev_set {i : Nat} : msSet i f env = setK i (f env) := by
  unfold msSet
  cases f env with
  | ok r e =>
    show (match r.o with | some o => Rs.ok Fl.nx (e.set i (some o)) | none => .bad) = setP i e r.o
    cases r.o <;> rfl
  | exc c ds e => rfl
  | bad => rfl
@[simp] theorem ev_set1 {i : Nat} : setK i (.ok r e) = setP i e r.o := Eq.trans rfl rfl
@[simp] theorem ev_set2 {i : Nat} {o : O} : setP i e (some o) = .ok .nx (e.set i (some o)) := Eq.trans rfl rfl
@[simp] theorem ev_expr : msExpr f env = exprK (f env) := by unfold msExpr; cases f env <;> rfl
@[simp] theorem ev_expr1 : exprK (.ok r e) = .ok .nx e := Eq.trans rfl rfl
@[simp] theorem ev_msnil : msNil env = .ok .nx env := Eq.trans rfl rfl
@[simp] theorem ev_brk : msBrk env = .ok .brk env := Eq.trans rfl rfl
@[simp] theorem ev_bad : msBad env = .bad := Eq.trans rfl rfl
@[simp] theorem ev_mAnd : mAnd f1 f2 env = mAndK f2 (f1 env) := by
  unfold mAnd
  cases f1 env with
  | ok r e =>
    show (match toB r with | some true => f2 e | some false => Rs.ok (Rt.val (.bl false)) e | none => .bad) = mAndB f2 e (toB r)
    cases toB r with
    | none => rfl
    | some b => cases b <;> rfl
  | exc c ds e => rfl
  | bad => rfl
@[simp] theorem ev_mAnd1 : mAndK f2 (.ok r e) = mAndB f2 e (toB r) := Eq.trans rfl rfl
@[simp] theorem ev_mAnd2 {b : Bool} : mAndB f2 e (some b) = if b = true then f2 e else .ok (.val (.bl false)) e := by cases b <;> rfl
@[simp] theorem ev_mOr : mOr f1 f2 env = mOrK f2 (f1 env) := by
  unfold mOr
  cases f1 env with
  | ok r e =>
    show (match toB r with | some false => f2 e | some true => Rs.ok (Rt.val (.bl true)) e | none => .bad) = mOrB f2 e (toB r)
    cases toB r with
    | none => rfl
    | some b => cases b <;> rfl
  | exc c ds e => rfl
  | bad => rfl
@[simp] theorem ev_mOr1 : mOrK f2 (.ok r e) = mOrB f2 e (toB r) := Eq.trans rfl rfl
@[simp] theorem ev_mOr2 {b : Bool} : mOrB f2 e (some b) = if b = true then .ok (.val (.bl true)) e else f2 e := by cases b <;> rfl
@[simp] theorem ev_mNot : mNot f1 env = mNotK (f1 env) := by
  unfold mNot
  cases f1 env with
  | ok r e =>
    show (match toB r with | some k => Rs.ok (Rt.val (.bl (!k))) e | none => .bad) = mNotB e (toB r)
    cases toB r <;> rfl
  | exc c ds e => rfl
  | bad => rfl
@[simp] theorem ev_mNot1 : mNotK (.ok r e) = mNotB e (toB r) := Eq.trans rfl rfl
@[simp] theorem ev_mNot2 {b : Bool} : mNotB e (some b) = .ok (.val (.bl (!b))) e := Eq.trans rfl rfl
@[simp] theorem ev_call {Sl : List Nat} {n : Nat} {fn : List O → Rr} : mCall Sl n fn fs env = callK Sl n fn (fs env) := by
  unfold mCall
  cases fs env with
  | ok rs e =>
    show (match argsO e rs with | some os => _ | none => Rs.bad) = callA Sl n fn rs e (argsO e rs)
    cases argsO e rs with
    | none => rfl
    | some os =>
      show (if _ then _ else _) = if _ then callR n rs e (fn os) else _
      cases fn os <;> rfl
  | exc c ds e => rfl
  | bad => rfl
@[simp] theorem ev_call1 {Sl : List Nat} {n : Nat} {fn : List O → Rr} : callK Sl n fn (.ok rs e) = callA Sl n fn rs e (argsO e rs) := Eq.trans rfl rfl
@[simp] theorem ev_call2 {Sl : List Nat} {n : Nat} {fn : List O → Rr} {os : List O} : callA Sl n fn rs e (some os) = if rs.length = n ∧ (slots rs).Nodup ∧ (∀ x ∈ slots rs, x ∈ Sl) then callR n rs e (fn os) else .bad := Eq.trans rfl rfl
@[simp] theorem ev_call3 {n : Nat} {o : O} {outs : List O} : callR n rs e (.ok o outs) = if outs.length = n then .ok o.rr (putOuts e rs outs) else .bad := Eq.trans rfl rfl
@[simp] theorem ev_ao0 : argsO e [] = some [] := Eq.trans rfl rfl
@[simp] theorem ev_ao1 : argsO e (.val d :: rs) = (argsO e rs).map (O.s d :: ·) := by show (some (O.s d)).bind _ = _; simp
@[simp] theorem ev_ao2 {x : Nat} : argsO e (.sl x :: rs) = (e[x]?).join.bind fun o => (argsO e rs).map (o :: ·) := Eq.trans rfl rfl
@[simp] theorem ev_sl0 : slots [] = [] := Eq.trans rfl rfl
@[simp] theorem ev_slv : slots (.val d :: rs) = slots rs := Eq.trans rfl rfl
@[simp] theorem ev_sls {x : Nat} : slots (.sl x :: rs) = x :: slots rs := Eq.trans rfl rfl
@[simp] theorem ev_po0 {os : List O} : putOuts e [] os = e := by cases os <;> rfl
@[simp] theorem ev_po1 {o : O} {os : List O} : putOuts e (.val d :: rs) (o :: os) = putOuts e rs os := Eq.trans rfl rfl
@[simp] theorem ev_po2 {x : Nat} {o : O} {os : List O} : putOuts e (.sl x :: rs) (o :: os) = putOuts (e.set x (some o)) rs os := Eq.trans rfl rfl
@[simp] theorem ev_run {IO : List Nat} {k : Nat} {os : List O} : runDef IO k g os = runK IO os (g (os.map some ++ List.replicate k none)) := by
  unfold runDef
  cases g (os.map some ++ List.replicate k none) with
  | ok fl e =>
    show (match outsFrom IO 0 os e, retO os.length fl with | some outs, some r => Rr.ok r outs | _, _ => .bad) = runF os.length fl (outsFrom IO 0 os e) (retO os.length fl)
    cases outsFrom IO 0 os e <;> cases retO os.length fl <;> rfl
  | exc c ds e => rfl
  | bad => rfl
@[simp] theorem ev_run1 {IO : List Nat} {os : List O} {fl : Fl} : runK IO os (.ok fl e) = runF os.length fl (outsFrom IO 0 os e) (retO os.length fl) := Eq.trans rfl rfl
@[simp] theorem ev_run2 {n : Nat} {fl : Fl} {outs : List O} {o : O} : runF n fl (some outs) (some o) = .ok o outs := Eq.trans rfl rfl
@[simp] theorem ev_of0 {IO : List Nat} {i : Nat} : outsFrom IO i [] e = some [] := by cases e <;> rfl
@[simp] theorem ev_of1 {IO : List Nat} {i : Nat} {o : O} {os : List O} {x : Option O} : outsFrom IO i (o :: os) (x :: e) = (if i ∈ IO then x else o.only).bind fun o' => (outsFrom IO (i + 1) os e).map (o' :: ·) := Eq.trans rfl rfl
@[simp] theorem ev_ro1 {n : Nat} : retO n .nx = some (.s .non) := Eq.trans rfl rfl
@[simp] theorem ev_ro2 {n : Nat} : retO n (.ret (.val d)) = some (.s d) := Eq.trans rfl rfl
@[simp] theorem ev_ro3 {n : Nat} {o : O} : retO n (.ret (.own o)) = some o := Eq.trans rfl rfl
@[simp] theorem ev_stlE : mStl f env = stlK (f env) := by
  unfold mStl
  cases f env with
  | ok r e => cases r <;> rfl
  | exc c ds e => rfl
  | bad => rfl
@[simp] theorem ev_stl1 {o : O} : stlK (.ok (.own o) e) = .ok (.val o.d) e := Eq.trans rfl rfl
@[simp] theorem ev_stl2 : stlK (.ok (.val d) e) = .ok (.val d) e := Eq.trans rfl rfl
@[simp] theorem ev_chain {g g' : Rt → Rt → Option Rt} : mChain g g' f1 f2 f3 env = chainK g g' f2 f3 (f1 env) := by
  unfold mChain
  cases f1 env with
  | ok r1 e =>
    show (f2 e).bind _ = chainM g g' f3 r1 (f2 e)
    cases f2 e with
    | ok r2 e2 =>
      cases r1 <;> cases r2 <;> try rfl
      rename_i d1 d2
      show (match g (.val d1) (.val d2) with | some (.val (.bl true)) => _ | some (.val (.bl false)) => _ | _ => Rs.bad) = chainB g' f3 d2 e2 (g (.val d1) (.val d2))
      cases g (.val d1) (.val d2) with
      | none => rfl
      | some r =>
        cases r with
        | val d =>
          cases d with
          | bl b =>
            cases b with
            | true => show (f3 e2).bind _ = chainN g' d2 (f3 e2); cases f3 e2 <;> rfl
            | false => rfl
          | _ => rfl
        | _ => rfl
    | exc c ds e => rfl
    | bad => rfl
  | exc c ds e => rfl
  | bad => rfl
@[simp] theorem ev_chain1 {g g' : Rt → Rt → Option Rt} : chainK g g' f2 f3 (.ok r e) = chainM g g' f3 r (f2 e) := Eq.trans rfl rfl
@[simp] theorem ev_chain2 {g g' : Rt → Rt → Option Rt} {d1 d2 : D} : chainM g g' f3 (.val d1) (.ok (.val d2) e) = chainB g' f3 d2 e (g (.val d1) (.val d2)) := Eq.trans rfl rfl
@[simp] theorem ev_chain3 {g' : Rt → Rt → Option Rt} {d2 : D} {b : Bool} : chainB g' f3 d2 e (some (.val (.bl b))) = if b = true then chainN g' d2 (f3 e) else .ok (.val (.bl false)) e := by cases b <;> rfl
@[simp] theorem ev_chain4 {g' : Rt → Rt → Option Rt} {d2 : D} : chainN g' d2 (.ok r e) = ofO (g' (.val d2) r) e := Eq.trans rfl rfl
@[simp] theorem ev_setIx : msSetIx Tx T2 T3 f fo fi env = setIxK Tx T3 fo fi (f env) := by
  unfold msSetIx
  cases f env with
  | ok y e =>
    show (match y.o with | some oy => (fo e).bind _ | none => Rs.bad) = setIxY Tx T3 fo fi e y.o
    cases y.o with
    | none => rfl
    | some oy =>
      show (fo e).bind _ = setIxO Tx T3 fi oy (fo e)
      cases fo e with
      | ok r e2 =>
        cases r with
        | bor x p o =>
          cases o with
          | lst os =>
            show (if x ∈ T3 then Rs.bad else (fi e2).bind _) = if x ∈ T3 then .bad else setIxI Tx oy (.bor x p (.lst os)) (fi e2)
            cases fi e2 with
            | ok ri e3 =>
              cases ri with
              | val d =>
                cases d with
                | int i =>
                  show (if x ∈ T3 then Rs.bad else (match ixN os.length i with | some j => _ | none => Rs.bad)) = if x ∈ T3 then .bad else ixSet Tx x p os oy e3 (ixN os.length i)
                  cases ixN os.length i <;> rfl
                | _ => rfl
              | _ => rfl
            | exc c ds e => rfl
            | bad => rfl
          | _ => rfl
        | _ => rfl
      | exc c ds e => rfl
      | bad => rfl
  | exc c ds e => rfl
  | bad => rfl
@[simp] theorem ev_setIx1 : setIxK Tx T3 fo fi (.ok r e) = setIxY Tx T3 fo fi e r.o := Eq.trans rfl rfl
@[simp] theorem ev_setIx2 {oy : O} : setIxY Tx T3 fo fi e (some oy) = setIxO Tx T3 fi oy (fo e) := Eq.trans rfl rfl
@[simp] theorem ev_setIx3 {oy : O} {x : Nat} {p : List Stp} {os : List O} : setIxO Tx T3 fi oy (.ok (.bor x p (.lst os)) e) = if x ∈ T3 then .bad else setIxI Tx oy (.bor x p (.lst os)) (fi e) := Eq.trans rfl rfl
@[simp] theorem ev_setIx4 {oy : O} {x : Nat} {p : List Stp} {os : List O} {i : Int} : setIxI Tx oy (.bor x p (.lst os)) (.ok (.val (.int i)) e) = ixSet Tx x p os oy e (ixN os.length i) := Eq.trans rfl rfl
@[simp] theorem ev_gI {g : Int → Int → D} {i j : Int} : gI g (.val (.int i)) (.val (.int j)) = some (.val (g i j)) := Eq.trans rfl rfl
@[simp] theorem ev_gIc {c : Int → Int → Bool} {g : Int → Int → D} {i j : Int} : gIc c g (.val (.int i)) (.val (.int j)) = if c i j = true then some (.val (g i j)) else none := Eq.trans rfl rfl
@[simp] theorem ev_gMul {i j : Int} : gMul (.val (.int i)) (.val (.int j)) = if cMul2 i j = true then some (.val (.int (i * j))) else none := Eq.trans rfl rfl
@[simp] theorem ev_gAdd {i j : Int} : gAdd (.val (.int i)) (.val (.int j)) = some (.val (.int (i + j))) := Eq.trans rfl rfl
@[simp] theorem ev_gAddT {ds es : List D} : gAdd (.val (.tup ds)) (.val (.tup es)) = if ds.length + es.length ≤ 16777216 then some (.val (.tup (ds ++ es))) else none := Eq.trans rfl rfl
@[simp] theorem ev_eqI {i j : Int} : gEq (.val (.int i)) (.val (.int j)) = some (.val (.bl (decide (i = j)))) := by
  simp [gEq, Rt.isSl, Rt.d, eqD, D.py, shp_int, shp_str, PyData.eqv, beq_dec]
@[simp] theorem ev_neI {i j : Int} : gNe (.val (.int i)) (.val (.int j)) = some (.val (.bl (!decide (i = j)))) := by
  simp [gNe, Rt.isSl, Rt.d, eqD, D.py, shp_int, shp_str, PyData.eqv, beq_dec]
@[simp] theorem ev_eqS {i j : Str} (hi : PyData.strOk i = true) (hj : PyData.strOk j = true) : gEq (.val (.str i)) (.val (.str j)) = some (.val (.bl (decide (i = j)))) := by
  simp [gEq, Rt.isSl, Rt.d, eqD, D.py, shp_int, shp_str hi, shp_str hj, PyData.eqv, beq_dec]
@[simp] theorem ev_neS {i j : Str} (hi : PyData.strOk i = true) (hj : PyData.strOk j = true) : gNe (.val (.str i)) (.val (.str j)) = some (.val (.bl (!decide (i = j)))) := by
  simp [gNe, Rt.isSl, Rt.d, eqD, D.py, shp_int, shp_str hi, shp_str hj, PyData.eqv, beq_dec]
@[simp] theorem ev_neg {i : Int} : gNeg (.val (.int i)) = some (.val (.int (-i))) := Eq.trans rfl rfl
@[simp] theorem ev_int {i : Int} : gInt [.val (.int i)] = some (.val (.int i)) := Eq.trans rfl rfl
@[simp] theorem ev_intb {b : Bool} : gInt [.val (.bl b)] = some (.val (.int (if b then 1 else 0))) := Eq.trans rfl rfl
@[simp] theorem ev_len1 {ds : List D} : gLen [.val (.tup ds)] = some (.val (.int ds.length)) := Eq.trans rfl rfl
@[simp] theorem ev_len2 {ds : List D} : gLen [.val (.lst ds)] = some (.val (.int ds.length)) := Eq.trans rfl rfl
@[simp] theorem ev_len3 {x : Nat} {p : List Stp} {os : List O} : gLen [.bor x p (.lst os)] = some (.val (.int os.length)) := Eq.trans rfl rfl
@[simp] theorem ev_min {i j : Int} : gMin2 [.val (.int i), .val (.int j)] = some (.val (.int (if j < i then j else i))) := Eq.trans rfl rfl
@[simp] theorem ev_max {i j : Int} : gMax2 [.val (.int i), .val (.int j)] = some (.val (.int (if j > i then j else i))) := Eq.trans rfl rfl
@[simp] theorem ev_abs {i : Int} : gAbs [.val (.int i)] = some (.val (.int (if i < 0 then -i else i))) := Eq.trans rfl rfl
@[simp] theorem ev_vals0 : vals [] = some [] := Eq.trans rfl rfl
@[simp] theorem ev_vals1 : vals (.val d :: rs) = (vals rs).map (d :: ·) := Eq.trans rfl rfl
@[simp] theorem ev_tup : gTup rs = (vals rs).bind fun ds => if ds.length ≤ 16777216 then some (.val (.tup ds)) else none := Eq.trans rfl rfl
@[simp] theorem ev_lst : gLst rs = (vals rs).bind fun ds => if ds.length ≤ 16777216 then some (.own (.lst (ds.map O.s))) else none := Eq.trans rfl rfl
@[simp] theorem ev_ixt {ds : List D} {i : Int} : gIx (.val (.tup ds)) (.val (.int i)) = (atI ds i).map .val := Eq.trans rfl rfl
@[simp] theorem ev_ixl {ds : List D} {i : Int} : gIx (.val (.lst ds)) (.val (.int i)) = (atI ds i).map .val := Eq.trans rfl rfl
@[simp] theorem ev_ixb {x : Nat} {p : List Stp} {os : List O} {i : Int} : gIx (.bor x p (.lst os)) (.val (.int i)) = match ixN os.length i with | some n => (os[n]?).map fun o => o.at x (p ++ [.idx n]) | none => none := Eq.trans rfl rfl
@[simp] theorem ev_is {n : Bool} : gIs n (.val d) (.val .non) = some (.val (.bl (d.isN != n))) := Eq.trans rfl rfl
@[simp] theorem ev_isn1 : D.isN .non = true := Eq.trans rfl rfl
@[simp] theorem ev_isn2 {i : Int} : D.isN (.int i) = false := Eq.trans rfl rfl
@[simp] theorem ev_isn3 {ds : List D} : D.isN (.tup ds) = false := Eq.trans rfl rfl
@[simp] theorem ev_poke {x : Nat} {p : List Stp} {o' : O} : poke x p o' e = ((e[x]?).join.bind fun o0 => setAt p o0 o').map fun o => e.set x (some o) := by
  unfold poke
  cases h : e[x]? with
  | none => rfl
  | some o => cases o <;> rfl
@[simp] theorem ev_sa0 {o y : O} : setAt [] o y = some y := by cases o <;> rfl
@[simp] theorem ev_sa1 {n : Nat} {p : List Stp} {os : List O} {y : O} : setAt (.idx n :: p) (.lst os) y = (os[n]?).bind fun o => (setAt p o y).map fun o' => .lst (os.set n o') := Eq.trans rfl rfl
@[simp] theorem ev_sa2 {f : Str} {c : Nat} {ns : List Str} {p : List Stp} {os : List O} {y : O} : setAt (.attr f :: p) (.ins c ns os) y = (lk ns os f).bind fun o => (setAt p o y).map fun o' => .ins c ns (setLk ns os f o') := Eq.trans rfl rfl
def pkF : Option Env → Rs Fl
  | some e => .ok .nx e
  | none => .bad
@[simp] theorem ev_pkF {e : Env} : pkF (some e) = .ok .nx e := Eq.trans rfl rfl
@[simp] theorem ev_ixSet {x j : Nat} {p : List Stp} {os : List O} {oy : O} : ixSet Tx x p os oy e (some j) = if x ∈ Tx then pkF (poke x p (.lst (os.set j oy)) e) else .bad := by
  unfold ixSet
  show (if x ∈ Tx then (match poke x p (.lst (os.set j oy)) e with | some e4 => Rs.ok Fl.nx e4 | none => .bad) else .bad) = _
  generalize poke x p (.lst (os.set j oy)) e = q
  cases q <;> rfl
def lcF (vs : List Nat) : Rs (List D) → Rs Rt
  | .ok ys e => .ok (.own (.lst (ys.map O.s))) (wipeE e vs)
  | r => r.ex
def lcK (Tb vs : List Nat) (set : D → Env → Option Env) (t : MT) (f : ME) : Rs Src → Rs Rt
  | .ok src e => if src.hot Tb = true then .bad else if src.items.length ≤ 16777216 then lcF vs (lcL vs set t f src.items e) else .bad
  | r => r.ex
@[simp] theorem ev_lc {Tb vs : List Nat} {set : D → Env → Option Env} {fi : MI} : mLc Tb vs set fi t f env = lcK Tb vs set t f (fi env) := by
  unfold mLc
  cases fi env with
  | ok src e =>
    show (if src.hot Tb = true then Rs.bad else if src.items.length ≤ 16777216 then (lcL vs set t f src.items e).bind _ else .bad) = if src.hot Tb = true then .bad else if src.items.length ≤ 16777216 then lcF vs (lcL vs set t f src.items e) else .bad
    generalize lcL vs set t f src.items e = q
    cases q <;> rfl
  | exc c ds e => rfl
  | bad => rfl
@[simp] theorem ev_lc1 {Tb vs : List Nat} {set : D → Env → Option Env} {src : Src} : lcK Tb vs set t f (.ok src e) = if src.hot Tb = true then .bad else if src.items.length ≤ 16777216 then lcF vs (lcL vs set t f src.items e) else .bad := Eq.trans rfl rfl
@[simp] theorem ev_lc2 {vs : List Nat} {ys : List D} : lcF vs (.ok ys e) = .ok (.own (.lst (ys.map O.s))) (wipeE e vs) := Eq.trans rfl rfl
@[simp] theorem ev_wipe0 : wipeE e [] = e := Eq.trans rfl rfl
@[simp] theorem ev_wipe1 {v : Nat} {vs : List Nat} : wipeE e (v :: vs) = wipeE (e.set v none) vs := Eq.trans rfl rfl
@[simp] theorem ev_yes : mYes env = .ok true env := Eq.trans rfl rfl
@[simp] theorem ev_setT {i : Nat} : setT [i] d e = some (e.set i (some (.s d))) := Eq.trans rfl rfl
@[simp] theorem ev_setTs0 : setTs [] [] e = some e := Eq.trans rfl rfl
@[simp] theorem ev_setTs1 {i : Nat} {is : List Nat} {ds : List D} : setTs (i :: is) (d :: ds) e = setTs is ds (e.set i (some (.s d))) := Eq.trans rfl rfl
@[simp] theorem ev_setTup {is : List Nat} {ds : List D} : setTup is (.tup ds) e = setTs is ds e := Eq.trans rfl rfl
def rg1K : Rs (List Rt) → Rs Src
  | .ok [.val (.int j)] e => if -(2 ^ 62) ≤ j ∧ j < 2 ^ 62 then .ok ⟨rngD 0 j.toNat, none⟩ e else .bad
  | r => r.ex
@[simp] theorem ev_rg1 : iRg1 fs env = rg1K (fs env) := by
  unfold iRg1
  cases fs env with
  | ok rs e =>
    match rs with
    | [] => rfl
    | [.val d] => cases d <;> rfl
    | [.own _] => rfl
    | [.bor _ _ _] => rfl
    | [.sl _] => rfl
    | .val d :: _ :: _ => cases d <;> rfl
    | .own _ :: _ :: _ => rfl
    | .bor _ _ _ :: _ :: _ => rfl
    | .sl _ :: _ :: _ => rfl
  | exc c ds e => rfl
  | bad => rfl
theorem ev_rg11 {j : Int} : rg1K (.ok [.val (.int j)] e) = if -(2 ^ 62) ≤ j ∧ j < 2 ^ 62 then .ok ⟨rngD 0 j.toNat, none⟩ e else .bad := rfl
theorem rg1_is {j : Int} (h0 : 0 ≤ j) (h1 : j ≤ 1000000) : rg1K (.ok [.val (.int j)] e) = .ok ⟨rngD 0 j.toNat, none⟩ e := by
  rw [ev_rg11, if_pos ⟨by omega, by omega⟩]
@[simp] theorem ev_od2 {os : List O} : O.d (.lst os) = .lst (O.ds os) := by simp [O.d]
@[simp] theorem ev_od3 {c : Nat} {ns : List Str} {os : List O} : O.d (.ins c ns os) = .ins c ns (O.ds os) := by simp [O.d]
@[simp] theorem ev_ods0 : O.ds [] = [] := by simp [O.ds]
@[simp] theorem ev_ods1 {o : O} {os : List O} : O.ds (o :: os) = o.d :: O.ds os := by simp [O.ds]
@[simp] theorem ev_ods2 {ds : List D} : O.ds (ds.map O.s) = ds := O.ds_s ds
def seqS (tup : Bool) : Rs Rt → Rs Src
  | .ok r e => ofO (srcOf tup r) e
  | r => r.ex
@[simp] theorem ev_iseq {tup : Bool} : iSeq tup f env = seqS tup (f env) := by unfold iSeq; cases f env <;> rfl
@[simp] theorem ev_iseq1 {tup : Bool} : seqS tup (.ok r e) = ofO (srcOf tup r) e := Eq.trans rfl rfl
@[simp] theorem ev_src1 {ds : List D} : srcOf true (.val (.tup ds)) = some ⟨ds, none⟩ := Eq.trans rfl rfl
@[simp] theorem ev_src2 {ds : List D} : srcOf false (.val (.lst ds)) = some ⟨ds, none⟩ := Eq.trans rfl rfl
@[simp] theorem ev_src3 {x : Nat} {p : List Stp} {os : List O} : srcOf false (.bor x p (.lst os)) = (leaves os).map fun ds => ⟨ds, some x⟩ := Eq.trans rfl rfl
@[simp] theorem ev_leaves {ds : List D} : leaves (ds.map O.s) = some ds := leaves_map ds
@[simp] theorem ev_leaves0 : leaves [] = some [] := Eq.trans rfl rfl
@[simp] theorem ev_leaves1 {os : List O} : leaves (.s d :: os) = (leaves os).map (d :: ·) := Eq.trans rfl rfl
def enumS : Rs (List Rt) → Rs Src
  | .ok [r] e => ofO ((anySrc r).map fun s => ⟨enumD 0 s.2.items, s.2.dep⟩) e
  | r => r.ex
@[simp] theorem ev_enum : iEnumM fs env = enumS (fs env) := by
  unfold iEnumM
  cases fs env with
  | ok rs e =>
    match rs with
    | [] => rfl
    | [_] => rfl
    | _ :: _ :: _ => rfl
  | exc c ds e => rfl
  | bad => rfl
@[simp] theorem ev_enum1 : enumS (.ok [r] e) = ofO ((anySrc r).map fun s => ⟨enumD 0 s.2.items, s.2.dep⟩) e := Eq.trans rfl rfl
@[simp] theorem ev_any1 {ds : List D} : anySrc (.val (.tup ds)) = some (true, ⟨ds, none⟩) := Eq.trans rfl rfl
@[simp] theorem ev_any2 {ds : List D} : anySrc (.val (.lst ds)) = some (false, ⟨ds, none⟩) := Eq.trans rfl rfl
def zipS : Rs (List Rt) → Rs Src
  | .ok [r, r'] e => match anySrc r, anySrc r' with
    | some (_, s), some (_, s') => ofO ((depJ s.dep s'.dep).map fun dep => ⟨zipD s.items s'.items, dep⟩) e
    | _, _ => .bad
  | r => r.ex
@[simp] theorem ev_zip : iZipM fs env = zipS (fs env) := by
  unfold iZipM
  cases fs env with
  | ok rs e =>
    match rs with
    | [] => rfl
    | [_] => rfl
    | [_, _] => rfl
    | _ :: _ :: _ :: _ => rfl
  | exc c ds e => rfl
  | bad => rfl
@[simp] theorem ev_zip1 {ds es : List D} : zipS (.ok [.val (.tup ds), .val (.tup es)] e) = .ok ⟨zipD ds es, none⟩ e := Eq.trans rfl rfl
@[simp] theorem ev_zip2 {ds es : List D} : zipS (.ok [.val (.tup ds), .val (.lst es)] e) = .ok ⟨zipD ds es, none⟩ e := Eq.trans rfl rfl
@[simp] theorem ev_zip3 {ds es : List D} : zipS (.ok [.val (.lst ds), .val (.lst es)] e) = .ok ⟨zipD ds es, none⟩ e := Eq.trans rfl rfl
def forK (Tb : List Nat) (set : D → Env → Option Env) (g : MS) : Rs Src → Rs Fl
  | .ok src e => if src.hot Tb = true then .bad else forL set g src.items e
  | r => r.ex
@[simp] theorem ev_for {Tb : List Nat} {set : D → Env → Option Env} {fi : MI} : msFor Tb set fi g env = forK Tb set g (fi env) := by unfold msFor; cases fi env <;> rfl
@[simp] theorem ev_for1 {Tb : List Nat} {set : D → Env → Option Env} {src : Src} : forK Tb set g (.ok src e) = if src.hot Tb = true then .bad else forL set g src.items e := Eq.trans rfl rfl
@[simp] theorem ev_hot0 {ds : List D} : Src.hot ⟨ds, none⟩ T = false := Eq.trans rfl rfl
@[simp] theorem ev_hot1 {ds : List D} {x : Nat} : Src.hot ⟨ds, some x⟩ T = T.contains x := Eq.trans rfl rfl
@[simp] theorem ev_od1 : O.d (.s d) = d := Eq.trans rfl rfl
theorem lc_all {vs : List Nat} {set : D → Env → Option Env} {f : ME} {I : Env → Prop} {R : D → Prop} {G : D → Prop} (step : ∀ e d, I e → G d → ∃ e1 y e2, set d (wipeE e vs) = some e1 ∧ f e1 = .ok (.val y) e2 ∧ I e2 ∧ R y) :
    ∀ (items : List D) (e : Env), I e → (∀ d ∈ items, G d) → ∃ ys e', lcL vs set mYes f items e = .ok ys e' ∧ I e' ∧ ys.length = items.length ∧ ∀ y ∈ ys, R y
  | [], e, hI, _ => ⟨[], e, rfl, hI, rfl, fun y h => by simp at h⟩
  | d :: ds, e, hI, hG => by
    obtain ⟨e1, y, e2, h1, h2, h3, h4⟩ := step e d hI (hG d (by simp))
    obtain ⟨ys, e', i1, i2, i3, i4⟩ := lc_all step ds e2 h3 (fun d hd => hG d (by simp [hd]))
    refine ⟨y :: ys, e', ?_, i2, by simp [i3], fun z hz => ?_⟩
    · unfold lcL
      rw [h1]
      simp only [mYes, Rs.bind, if_true, h2, i1]
    · rcases List.mem_cons.mp hz with q | q
      · rw [q]; exact h4
      · exact i4 z q
theorem lc_map {vs : List Nat} {set : D → Env → Option Env} {f : ME} {I : Env → Prop} {F : D → D} :
    ∀ (items : List D) (e : Env), (∀ e d, I e → d ∈ items → ∃ e1 e2, set d (wipeE e vs) = some e1 ∧ f e1 = .ok (.val (F d)) e2 ∧ I e2) → I e → ∃ e', lcL vs set mYes f items e = .ok (items.map F) e' ∧ I e'
  | [], e, _, hI => ⟨e, rfl, hI⟩
  | d :: ds, e, step, hI => by
    obtain ⟨e1, e2, h1, h2, h3⟩ := step e d hI (by simp)
    obtain ⟨e', i1, i2⟩ := lc_map ds e2 (fun e d' a b => step e d' a (by simp [b])) h3
    refine ⟨e', ?_, i2⟩
    unfold lcL
    rw [h1]
    simp only [mYes, Rs.bind, if_true, h2, i1]
    rfl

def lcG (y : D) : Rs (List D) → Rs (List D)
  | .ok ys e => .ok (y :: ys) e
  | r => r
def lcE (vs : List Nat) (set : D → Env → Option Env) (t : MT) (f : ME) (ds : List D) : Rs Rt → Rs (List D)
  | .ok (.val y) e => lcG y (lcL vs set t f ds e)
  | .ok _ _ => .bad
  | r => r.ex
def lcB (vs : List Nat) (set : D → Env → Option Env) (t : MT) (f : ME) (ds : List D) : Rs Bool → Rs (List D)
  | .ok b e => if b = true then lcE vs set t f ds (f e) else lcL vs set t f ds e
  | r => r.ex
def lcT (vs : List Nat) (set : D → Env → Option Env) (t : MT) (f : ME) (ds : List D) : Option Env → Rs (List D)
  | some e => lcB vs set t f ds (t e)
  | none => .bad
theorem lc_cons {vs : List Nat} {set : D → Env → Option Env} {d : D} {ds : List D} : lcL vs set t f (d :: ds) e = lcT vs set t f ds (set d (wipeE e vs)) := by
  show (match set d (wipeE e vs) with | none => Rs.bad | some e1 => (t e1).bind _) = _
  cases set d (wipeE e vs) with
  | none => rfl
  | some e1 =>
    show (t e1).bind _ = lcB vs set t f ds (t e1)
    cases t e1 with
    | ok b e2 =>
      show (if b = true then (f e2).bind _ else _) = if b = true then lcE vs set t f ds (f e2) else _
      cases f e2 with
      | ok r e3 =>
        cases r with
        | val y =>
          show (if b = true then (lcL vs set t f ds e3).bind _ else _) = if b = true then lcG y (lcL vs set t f ds e3) else _
          cases lcL vs set t f ds e3 <;> rfl
        | own _ => rfl
        | bor _ _ _ => rfl
        | sl _ => rfl
      | exc c ds e => rfl
      | bad => rfl
    | exc c ds e => rfl
    | bad => rfl
theorem lc_nil {vs : List Nat} {set : D → Env → Option Env} : lcL vs set t f [] e = .ok [] e := rfl
@[simp] theorem ev_lcT {vs : List Nat} {set : D → Env → Option Env} {ds : List D} : lcT vs set t f ds (some e) = lcB vs set t f ds (t e) := Eq.trans rfl rfl
@[simp] theorem ev_lcB {vs : List Nat} {set : D → Env → Option Env} {ds : List D} {b : Bool} : lcB vs set t f ds (.ok b e) = if b = true then lcE vs set t f ds (f e) else lcL vs set t f ds e := Eq.trans rfl rfl
@[simp] theorem ev_lcE {vs : List Nat} {set : D → Env → Option Env} {ds : List D} {y : D} : lcE vs set t f ds (.ok (.val y) e) = lcG y (lcL vs set t f ds e) := Eq.trans rfl rfl
@[simp] theorem ev_lcG {y : D} {ys : List D} : lcG y (.ok ys e) = .ok (y :: ys) e := Eq.trans rfl rfl
theorem for_inv {set : D → Env → Option Env} {g : MS} {I : List D → Env → Prop} (step : ∀ d ds e, I (d :: ds) e → ∃ e1 e2, set d e = some e1 ∧ g e1 = .ok .nx e2 ∧ I ds e2) : ∀ (items : List D) (e : Env), I items e → ∃ e', forL set g items e = .ok .nx e' ∧ I [] e'
  | [], e, h => ⟨e, rfl, h⟩
  | d :: ds, e, h => by
    obtain ⟨e1, e2, h1, h2, h3⟩ := step d ds e h
    obtain ⟨e', i1, i2⟩ := for_inv step ds e2 h3
    refine ⟨e', ?_, i2⟩
    unfold forL
    rw [h1]
    simp only [Rs.bind, h2, i1]
def slN (T : List Nat) (lo : Option Int) (r : Rt) : Rs (Option Int) → Rs Rt
  | .ok hi e => ofO (gSl lo hi r) e
  | r => r.ex
def slM (T : List Nat) (h : MO) (r : Rt) : Rs (Option Int) → Rs Rt
  | .ok lo e => slN T lo r (h e)
  | r => r.ex
def slK (T : List Nat) (l h : MO) : Rs Rt → Rs Rt
  | .ok r e => if r.hot T = true then .bad else slM T h r (l e)
  | r => r
@[simp] theorem ev_sl {l h : MO} : mSl T f l h env = slK T l h (f env) := by
  unfold mSl
  cases f env with
  | ok r e =>
    show (if r.hot T = true then Rs.bad else (l e).bind _) = if r.hot T = true then .bad else slM T h r (l e)
    cases l e with
    | ok lo e2 =>
      show (if r.hot T = true then Rs.bad else (h e2).bind _) = if r.hot T = true then .bad else slN T lo r (h e2)
      cases h e2 <;> rfl
    | exc c ds e => rfl
    | bad => rfl
  | exc c ds e => rfl
  | bad => rfl
@[simp] theorem ev_slk {l h : MO} : slK T l h (.ok r e) = if r.hot T = true then .bad else slM T h r (l e) := Eq.trans rfl rfl
@[simp] theorem ev_slm {h : MO} {lo : Option Int} : slM T h r (.ok lo e) = slN T lo r (h e) := Eq.trans rfl rfl
@[simp] theorem ev_sln {lo hi : Option Int} : slN T lo r (.ok hi e) = ofO (gSl lo hi r) e := Eq.trans rfl rfl
@[simp] theorem ev_on : oNone env = .ok none env := Eq.trans rfl rfl
def oK : Rs Rt → Rs (Option Int)
  | .ok (.val (.int i)) e => .ok (some i) e
  | .ok _ _ => .bad
  | r => r.ex
@[simp] theorem ev_os : oSome f env = oK (f env) := by
  unfold oSome
  cases f env with
  | ok r e =>
    cases r with
    | val d => cases d <;> rfl
    | own _ => rfl
    | bor _ _ _ => rfl
    | sl _ => rfl
  | exc c ds e => rfl
  | bad => rfl
@[simp] theorem ev_ok {i : Int} : oK (.ok (.val (.int i)) e) = .ok (some i) e := Eq.trans rfl rfl
@[simp] theorem ev_gSl {ds : List D} {lo hi : Option Int} : gSl lo hi (.val (.tup ds)) = some (.val (.tup (cut ds lo hi))) := Eq.trans rfl rfl
@[simp] theorem ev_gSl2 {ds : List D} {lo hi : Option Int} : gSl lo hi (.val (.lst ds)) = some (.own (.lst ((cut ds lo hi).map O.s))) := Eq.trans rfl rfl
def parS : Option Env → Rs Fl
  | some e => .ok .nx e
  | none => .bad
def parK (is : List Nat) : Rs (List Rt) → Rs Fl
  | .ok rs e => parS (storeL is rs e)
  | r => r.ex
@[simp] theorem ev_par {is : List Nat} : msPar is fs env = parK is (fs env) := by
  unfold msPar
  cases fs env with
  | ok rs e =>
    show (match storeL is rs e with | some e' => Rs.ok Fl.nx e' | none => .bad) = parS (storeL is rs e)
    cases storeL is rs e <;> rfl
  | exc c ds e => rfl
  | bad => rfl
@[simp] theorem ev_parK {is : List Nat} : parK is (.ok rs e) = parS (storeL is rs e) := Eq.trans rfl rfl
@[simp] theorem ev_parS : parS (some e) = .ok .nx e := Eq.trans rfl rfl
@[simp] theorem ev_st0 : storeL [] [] e = some e := Eq.trans rfl rfl
@[simp] theorem ev_st1 {i : Nat} {is : List Nat} : storeL (i :: is) (.val d :: rs) e = storeL is rs (e.set i (some (.s d))) := Eq.trans rfl rfl
@[simp] theorem ev_st2 {i : Nat} {is : List Nat} {o : O} : storeL (i :: is) (.own o :: rs) e = storeL is rs (e.set i (some o)) := Eq.trans rfl rfl
@[simp] theorem ev_mulT {ds : List D} {i : Int} : gMul (.val (.tup ds)) (.val (.int i)) = if ds ≠ [] ∧ 2 ≤ i ∧ i ≤ 1000 ∧ ds.length ≤ 1000 then some (.val (.tup (List.replicate i.toNat ds).flatten)) else none := Eq.trans rfl rfl
@[simp] theorem ev_attrb {cs : List Nat} {n : Str} {x c : Nat} {p : List Stp} {ns : List Str} {os : List O} : gAttr cs n (.bor x p (.ins c ns os)) = if c ∈ cs then (lk ns os n).map fun o => o.at x (p ++ [.attr n]) else none := Eq.trans rfl rfl
@[simp] theorem ev_attrv {cs : List Nat} {n : Str} {c : Nat} {ns : List Str} {ds : List D} : gAttr cs n (.val (.ins c ns ds)) = if c ∈ cs then (lk ns ds n).map .val else none := Eq.trans rfl rfl
@[simp] theorem ev_lk {n : Str} {ns : List Str} {a : α} {as : List α} {m : Str} : lk (n :: ns) (a :: as) m = if n = m then some a else lk ns as m := Eq.trans rfl rfl
@[simp] theorem ev_setLk {n : Str} {ns : List Str} {a y : α} {as : List α} {m : Str} : setLk (n :: ns) (a :: as) m y = if n = m then y :: as else a :: setLk ns as m y := Eq.trans rfl rfl
@[simp] theorem ev_meth {Sl : List Nat} {c n : Nat} {mn : Str} {fn : List O → Rr} : mMeth Sl T2 c mn n fn fo fs env = methK Sl c mn n fn fs (fo env) := by
  unfold mMeth
  cases fo env with
  | ok r e =>
    show (if hasNo [c] mn e r = true then mCall Sl n fn (fun e => (fs e).bind fun rs e2 => .ok (r :: rs) e2) e else .bad) = if hasNo [c] mn e r = true then callK Sl n fn (consL r (fs e)) else .bad
    rw [ev_call]
    cases fs e <;> rfl
  | exc c ds e => rfl
  | bad => rfl
@[simp] theorem ev_meth1 {Sl : List Nat} {c n : Nat} {mn : Str} {fn : List O → Rr} : methK Sl c mn n fn fs (.ok r e) = if hasNo [c] mn e r = true then callK Sl n fn (consL r (fs e)) else .bad := Eq.trans rfl rfl
@[simp] theorem ev_hasNo {cs : List Nat} {mn : Str} {x : Nat} : hasNo cs mn e (.sl x) = match e[x]? with
    | some (some (.ins c ns os)) => decide (c ∈ cs) && (lk ns os mn).isNone
    | some (some (.s (.ins c ns ds))) => decide (c ∈ cs) && (lk ns ds mn).isNone
    | _ => false := Eq.trans rfl rfl
@[simp] theorem ev_make {Sl : List Nat} {c n : Nat} {fn : List O → Rr} : mMake Sl c n fn fs env = makeK Sl c n fn (fs env) := by
  unfold mMake
  cases fs env with
  | ok rs e =>
    show (match argsO e rs with | some os => _ | none => Rs.bad) = makeA Sl c n fn rs e (argsO e rs)
    cases argsO e rs with
    | none => rfl
    | some os =>
      show (if _ then _ else _) = if _ then makeR n rs e (fn (.ins c [] [] :: os)) else _
      cases fn (.ins c [] [] :: os) with
      | ok r outs =>
        cases r with
        | s d => cases d <;> cases outs <;> rfl
        | lst _ => rfl
        | dk _ _ => rfl
        | dt _ _ => rfl
        | ins _ _ _ => rfl
      | exc c ds outs => cases outs <;> rfl
      | bad => rfl
  | exc c ds e => rfl
  | bad => rfl
@[simp] theorem ev_make1 {Sl : List Nat} {c n : Nat} {fn : List O → Rr} : makeK Sl c n fn (.ok rs e) = makeA Sl c n fn rs e (argsO e rs) := Eq.trans rfl rfl
@[simp] theorem ev_make2 {Sl : List Nat} {c n : Nat} {fn : List O → Rr} {os : List O} : makeA Sl c n fn rs e (some os) = if rs.length + 1 = n ∧ (slots rs).Nodup ∧ (∀ x ∈ slots rs, x ∈ Sl) then makeR n rs e (fn (.ins c [] [] :: os)) else .bad := Eq.trans rfl rfl
@[simp] theorem ev_make3 {n : Nat} {o : O} {outs : List O} : makeR n rs e (.ok (.s .non) (o :: outs)) = if outs.length + 1 = n then .ok o.rr (putOuts e rs outs) else .bad := Eq.trans rfl rfl
@[simp] theorem ev_ro {n : Nat} {fn : List O → Rr} : mRo n fn fs env = roK n fn (fs env) := by unfold mRo; cases fs env <;> rfl
def roR (e : Env) : Rr → Rs Rt
  | .ok (.s d) _ => if d.flat = true then .ok (.val d) e else .bad
  | .exc c ds _ => if ds.all D.flat = true then .exc c ds e else .bad
  | _ => .bad
@[simp] theorem ev_roK {n : Nat} {fn : List O → Rr} : roK n fn (.ok rs e) = if rs.length = n ∧ rs.all (fun r => !r.isSl) = true then roR e (fn (rs.map fun r => .s r.d)) else .bad := by
  show roRun n fn rs e = _
  unfold roRun
  cases fn (rs.map fun r => .s r.d) with
  | ok o outs => cases o <;> rfl
  | exc c ds outs => rfl
  | bad => rfl
@[simp] theorem ev_roR {d : D} {outs : List O} : roR e (.ok (.s d) outs) = if d.flat = true then .ok (.val d) e else .bad := Eq.trans rfl rfl
@[simp] theorem ev_fl1 {i : Int} : D.flat (.int i) = true := Eq.trans rfl rfl
@[simp] theorem ev_fl2 {i : Bool} : D.flat (.bl i) = true := Eq.trans rfl rfl
@[simp] theorem ev_methR {c n : Nat} {mn : Str} {fn : List O → Rr} : mMethR T2 c mn n fn fo fs env = methRK T2 c mn n fn fs (fo env) := by
  unfold mMethR
  cases fo env with
  | ok r e =>
    show (if r.isSl = false ∧ r.hot T2 = false ∧ roHas c mn r.d = true then (fs e).bind _ else .bad) = if r.isSl = false ∧ r.hot T2 = false ∧ roHas c mn r.d = true then roK n fn (consL r (fs e)) else .bad
    cases fs e <;> rfl
  | exc c ds e => rfl
  | bad => rfl
@[simp] theorem ev_methR1 {c n : Nat} {mn : Str} {fn : List O → Rr} : methRK T2 c mn n fn fs (.ok r e) = if r.isSl = false ∧ r.hot T2 = false ∧ roHas c mn r.d = true then roK n fn (consL r (fs e)) else .bad := Eq.trans rfl rfl
def pkV (v : Rt) : Option Env → Rs Rt
  | some e => .ok v e
  | none => .bad
@[simp] theorem ev_pkV {v : Rt} : pkV v (some e) = .ok v e := Eq.trans rfl rfl
def appO (Tx : List Nat) (x : Nat) (p : List Stp) (os : List O) (e : Env) : Option O → Rs Rt
  | some oy => if os.length < 16777216 ∧ x ∈ Tx then pkV (.val .non) (poke x p (.lst (os ++ [oy])) e) else .bad
  | none => .bad
def appY (Tx : List Nat) (x : Nat) (p : List Stp) (os : List O) : Rs Rt → Rs Rt
  | .ok y e => appO Tx x p os e y.o
  | r => r
def appK (Tx T2 : List Nat) (f2 : ME) : Rs Rt → Rs Rt
  | .ok (.bor x p (.lst os)) e => if x ∈ T2 then .bad else appY Tx x p os (f2 e)
  | .ok _ _ => .bad
  | r => r
@[simp] theorem ev_app : mAppend Tx T2 f f2 env = appK Tx T2 f2 (f env) := by
  unfold mAppend
  cases f env with
  | ok r e =>
    cases r with
    | bor x p o =>
      cases o with
      | lst os =>
        show (if x ∈ T2 then Rs.bad else (f2 e).bind _) = if x ∈ T2 then .bad else appY Tx x p os (f2 e)
        cases f2 e with
        | ok y e2 =>
          show (if x ∈ T2 then Rs.bad else (match y.o with | some oy => _ | none => Rs.bad)) = if x ∈ T2 then .bad else appO Tx x p os e2 y.o
          cases y.o with
          | none => rfl
          | some oy =>
            show (if x ∈ T2 then Rs.bad else (if os.length < 16777216 ∧ x ∈ Tx then (match poke x p (.lst (os ++ [oy])) e2 with | some e3 => Rs.ok (.val .non) e3 | none => .bad) else .bad)) = if x ∈ T2 then .bad else (if os.length < 16777216 ∧ x ∈ Tx then pkV (.val .non) (poke x p (.lst (os ++ [oy])) e2) else .bad)
            generalize poke x p (.lst (os ++ [oy])) e2 = q
            cases q <;> rfl
        | exc c ds e => rfl
        | bad => rfl
      | s _ => rfl
      | dk _ _ => rfl
      | dt _ _ => rfl
      | ins _ _ _ => rfl
    | val _ => rfl
    | own _ => rfl
    | sl _ => rfl
  | exc c ds e => rfl
  | bad => rfl
@[simp] theorem ev_app1 {x : Nat} {p : List Stp} {os : List O} : appK Tx T2 f2 (.ok (.bor x p (.lst os)) e) = if x ∈ T2 then .bad else appY Tx x p os (f2 e) := Eq.trans rfl rfl
@[simp] theorem ev_app2 {x : Nat} {p : List Stp} {os : List O} {y : Rt} : appY Tx x p os (.ok y e) = appO Tx x p os e y.o := Eq.trans rfl rfl
@[simp] theorem ev_app3 {x : Nat} {p : List Stp} {os : List O} {oy : O} : appO Tx x p os e (some oy) = if os.length < 16777216 ∧ x ∈ Tx then pkV (.val .non) (poke x p (.lst (os ++ [oy])) e) else .bad := Eq.trans rfl rfl
end
end L3
namespace L3
open PySem L2
def saI (Tx cs : List Nat) (n : Str) (oy : O) : Rs Rt → Rs Fl
  | .ok r e => match r with
    | .bor x p (.ins c ns os) => if c ∈ cs ∧ x ∈ Tx ∧ ns.length < 1000 ∧ ns.length = os.length then pkF (poke x p (.ins c (putNs ns n) (putL ns os n oy)) e) else .bad
    | _ => .bad
  | r => r.ex
def saY (Tx cs : List Nat) (n : Str) (fo : ME) (e : Env) : Option O → Rs Fl
  | some oy => saI Tx cs n oy (fo e)
  | none => .bad
def saK (Tx cs : List Nat) (n : Str) (fo : ME) : Rs Rt → Rs Fl
  | .ok y e => saY Tx cs n fo e y.o
  | r => r.ex
def augK (i : Nat) (g : Rt → Rt → Option Rt) (d : D) : Rs Rt → Rs Fl
  | .ok r e => setP i e ((g (.val d) r).bind Rt.o)
  | r => r.ex
def augE (i : Nat) (g : Rt → Rt → Option Rt) (f : ME) (env : Env) : Option (Option O) → Rs Fl
  | some (some (.s d)) => augK i g d (f env)
  | _ => .bad
def isTK (ns : List String) : Rs Rt → Rs Rt
  | .ok r e => if r.isSl = true ∨ r.d.plain = false then .bad else ofO ((kitBs r.d.tn ns).map fun b => .val (.bl b)) e
  | r => r
def kgV (tab : List (Str × D)) (e : Env) : Rt → Rt → Rs Rt
  | .val (.str z), .val d => .ok (.val ((lookT tab z).getD d)) e
  | _, _ => .bad
def kgL (tab : List (Str × D)) (r1 : Rt) : Rs Rt → Rs Rt
  | .ok r2 e => kgV tab e r1 r2
  | r => r
def kgK (tab : List (Str × D)) (f2 : ME) : Rs Rt → Rs Rt
  | .ok r1 e => kgL tab r1 (f2 e)
  | r => r
def popQ (Tx : List Nat) (x : Nat) (p : List Stp) (e : Env) : Option (List O × D) → Rs Rt
  | some q => if x ∈ Tx then pkV (.val q.2) (poke x p (.lst q.1) e) else .bad
  | none => .bad
def popK (Tx : List Nat) : Rs Rt → Rs Rt
  | .ok r e => match r with
    | .bor x p (.lst os) => popQ Tx x p e (unsnoc os)
    | _ => .bad
  | r => r
def extO (Tx : List Nat) (x : Nat) (p : List Stp) (os : List O) (e : Env) : Option (List D) → Rs Rt
  | some ds => if os.length + ds.length ≤ 16777216 ∧ x ∈ Tx then pkV (.val .non) (poke x p (.lst (os ++ ds.map O.s)) e) else .bad
  | none => .bad
def extY (Tx : List Nat) (x : Nat) (p : List Stp) (os : List O) : Rs Rt → Rs Rt
  | .ok y e => extO Tx x p os e (lstOf y)
  | r => r
def extK (Tx T2 : List Nat) (f2 : ME) : Rs Rt → Rs Rt
  | .ok (.bor x p (.lst os)) e => if x ∈ T2 then .bad else extY Tx x p os (f2 e)
  | .ok _ _ => .bad
  | r => r
def asgTK (set : D → Env → Option Env) : Rs Rt → Rs Fl
  | .ok r e => match r with
    | .val d => parS (set d e)
    | _ => .bad
  | r => r.ex
section
variable {α β : Type} {env : Env} {e e1 : Env} {T T1 T2 T3 Tx : List Nat} {f f1 f2 f3 fo fe fi : ME} {fs : MA} {t t1 t2 : MT} {g g1 g2 : MS} {r : Rt} {rs : List Rt} {d : D}
@[simp] theorem ev_sa {cs : List Nat} {n : Str} : msSetAttr Tx T2 cs n fe fo env = saK Tx cs n fo (fe env) := by
  unfold msSetAttr
  cases fe env with
  | ok y e =>
    show (match y.o with | some oy => _ | none => Rs.bad) = saY Tx cs n fo e y.o
    cases y.o with
    | none => rfl
    | some oy =>
      show (fo e).bind _ = saI Tx cs n oy (fo e)
      cases fo e with
      | ok r e2 =>
        cases r with
        | bor x p o =>
          cases o with
          | ins c ns os =>
            show (if c ∈ cs ∧ x ∈ Tx ∧ ns.length < 1000 ∧ ns.length = os.length then (match poke x p (.ins c (putNs ns n) (putL ns os n oy)) e2 with | some e4 => Rs.ok Fl.nx e4 | none => .bad) else .bad) = if c ∈ cs ∧ x ∈ Tx ∧ ns.length < 1000 ∧ ns.length = os.length then pkF (poke x p (.ins c (putNs ns n) (putL ns os n oy)) e2) else .bad
            generalize poke x p (.ins c (putNs ns n) (putL ns os n oy)) e2 = q
            cases q <;> rfl
          | _ => rfl
        | _ => rfl
      | exc c ds e => rfl
      | bad => rfl
  | exc c ds e => rfl
  | bad => rfl
@[simp] theorem ev_sa4 {cs : List Nat} {n : Str} : saK Tx cs n fo (.ok r e) = saY Tx cs n fo e r.o := Eq.trans rfl rfl
@[simp] theorem ev_sa5 {cs : List Nat} {n : Str} {oy : O} : saY Tx cs n fo e (some oy) = saI Tx cs n oy (fo e) := Eq.trans rfl rfl
@[simp] theorem ev_sa6 {cs : List Nat} {n : Str} {oy : O} {x c : Nat} {p : List Stp} {ns : List Str} {os : List O} : saI Tx cs n oy (.ok (.bor x p (.ins c ns os)) e) = if c ∈ cs ∧ x ∈ Tx ∧ ns.length < 1000 ∧ ns.length = os.length then pkF (poke x p (.ins c (putNs ns n) (putL ns os n oy)) e) else .bad := Eq.trans rfl rfl
@[simp] theorem ev_pn0 {n : Str} : putNs [] n = [n] := Eq.trans rfl rfl
@[simp] theorem ev_pn1 {n m : Str} {ns : List Str} : putNs (n :: ns) m = if n = m then n :: ns else n :: putNs ns m := Eq.trans rfl rfl
@[simp] theorem ev_pl0 {n : Str} {as : List α} {y : α} : putL [] as n y = [y] := by cases as <;> rfl
@[simp] theorem ev_pl1 {n m : Str} {ns : List Str} {a y : α} {as : List α} : putL (n :: ns) (a :: as) m y = if n = m then y :: as else a :: putL ns as m y := Eq.trans rfl rfl
@[simp] theorem ev_aug {i : Nat} {g : Rt → Rt → Option Rt} : msAug i g f env = augE i g f env (env[i]?) := by
  unfold msAug augE
  cases env[i]? with
  | none => rfl
  | some oo =>
    cases oo with
    | none => rfl
    | some o =>
      cases o with
      | s d =>
        show (f env).bind _ = augK i g d (f env)
        cases f env with
        | ok r e =>
          show (match (g (.val d) r).bind Rt.o with | some o => Rs.ok Fl.nx (e.set i (some o)) | none => .bad) = setP i e ((g (.val d) r).bind Rt.o)
          generalize (g (.val d) r).bind Rt.o = q
          cases q <;> rfl
        | exc c ds e => rfl
        | bad => rfl
      | _ => rfl
@[simp] theorem ev_aug1 {i : Nat} {g : Rt → Rt → Option Rt} : augE i g f env (some (some (.s d))) = augK i g d (f env) := Eq.trans rfl rfl
@[simp] theorem ev_aug2 {i : Nat} {g : Rt → Rt → Option Rt} : augK i g d (.ok r e) = setP i e ((g (.val d) r).bind Rt.o) := Eq.trans rfl rfl
@[simp] theorem ev_isT {ns : List String} : mIsT ns f env = isTK ns (f env) := by unfold mIsT; cases f env <;> rfl
@[simp] theorem ev_isT1 {ns : List String} : isTK ns (.ok r e) = if r.isSl = true ∨ r.d.plain = false then .bad else ofO ((kitBs r.d.tn ns).map fun b => .val (.bl b)) e := Eq.trans rfl rfl
@[simp] theorem ev_isi {n : String} : gIsi [r, .val (.ty n)] = if r.isSl = true ∨ r.d.plain = false then none else (kitB r.d.tn n).map fun b => .val (.bl b) := Eq.trans rfl rfl
@[simp] theorem ev_pl2 {ds : List D} : D.plain (.tup ds) = true := Eq.trans rfl rfl
@[simp] theorem ev_pl3 {ds : List D} : D.plain (.lst ds) = true := Eq.trans rfl rfl
@[simp] theorem ev_pl4 {i : Int} : D.plain (.int i) = true := Eq.trans rfl rfl
@[simp] theorem ev_pl5 {i : Str} : D.plain (.str i) = true := Eq.trans rfl rfl
@[simp] theorem ev_pl6 {i : Bool} : D.plain (.bl i) = true := Eq.trans rfl rfl
@[simp] theorem ev_pl7 : D.plain .non = true := Eq.trans rfl rfl
@[simp] theorem ev_tn2 {ds : List D} : D.tn (.tup ds) = "tuple" := Eq.trans rfl rfl
@[simp] theorem ev_tn3 {ds : List D} : D.tn (.lst ds) = "list" := Eq.trans rfl rfl
@[simp] theorem ev_tn4 {i : Int} : D.tn (.int i) = "int" := Eq.trans rfl rfl
@[simp] theorem ev_tn5 {i : Str} : D.tn (.str i) = "str" := Eq.trans rfl rfl
@[simp] theorem ev_tn6 {i : Bool} : D.tn (.bl i) = "bool" := Eq.trans rfl rfl
@[simp] theorem ev_tn7 : D.tn .non = "NoneType" := Eq.trans rfl rfl
@[simp] theorem ev_kb1 : kitB "tuple" "tuple" = some true := by decide +kernel
@[simp] theorem ev_kb2 : kitB "int" "int" = some true := by decide +kernel
@[simp] theorem ev_kb3 : kitB "str" "str" = some true := by decide +kernel
@[simp] theorem ev_kb4 : kitB "int" "bool" = some false := by decide +kernel
@[simp] theorem ev_kb5 : kitB "int" "tuple" = some false := by decide +kernel
@[simp] theorem ev_kb6 : kitB "str" "tuple" = some false := by decide +kernel
@[simp] theorem ev_kb7 : kitB "str" "bool" = some false := by decide +kernel
@[simp] theorem ev_kb8 : kitBs "tuple" ["tuple", "list"] = some true := by decide +kernel
@[simp] theorem ev_kb9 : kitBs "int" ["tuple", "list"] = some false := by decide +kernel
@[simp] theorem ev_kb10 : kitBs "str" ["tuple", "list"] = some false := by decide +kernel
@[simp] theorem ev_kget {tab : List (Str × D)} : mKGet tab f1 f2 env = kgK tab f2 (f1 env) := by
  unfold mKGet
  cases f1 env with
  | ok r1 e =>
    show (f2 e).bind _ = kgL tab r1 (f2 e)
    cases f2 e with
    | ok r2 e2 =>
      cases r1 with
      | val d =>
        cases d with
        | str z => cases r2 <;> rfl
        | _ => rfl
      | _ => rfl
    | exc c ds e => rfl
    | bad => rfl
  | exc c ds e => rfl
  | bad => rfl
@[simp] theorem ev_kg1 {tab : List (Str × D)} : kgK tab f2 (.ok r e) = kgL tab r (f2 e) := Eq.trans rfl rfl
@[simp] theorem ev_kg2 {tab : List (Str × D)} {z : Str} : kgL tab (.val (.str z)) (.ok (.val d) e) = .ok (.val ((lookT tab z).getD d)) e := Eq.trans rfl rfl
@[simp] theorem ev_lt0 {z : Str} : lookT [] z = none := Eq.trans rfl rfl
@[simp] theorem ev_lt1 {z k : Str} {tab : List (Str × D)} : lookT ((k, d) :: tab) z = if k = z then some d else lookT tab z := Eq.trans rfl rfl
@[simp] theorem ev_pop : mPop Tx f env = popK Tx (f env) := by
  unfold mPop
  cases f env with
  | ok r e =>
    cases r with
    | bor x p o =>
      cases o with
      | lst os =>
        show (match unsnoc os with | some q => if x ∈ Tx then (match poke x p (.lst q.1) e with | some e2 => Rs.ok (.val q.2) e2 | none => .bad) else .bad | none => .bad) = popQ Tx x p e (unsnoc os)
        cases unsnoc os with
        | none => rfl
        | some q =>
          show (if x ∈ Tx then (match poke x p (.lst q.1) e with | some e2 => Rs.ok (.val q.2) e2 | none => .bad) else .bad) = if x ∈ Tx then pkV (.val q.2) (poke x p (.lst q.1) e) else .bad
          generalize poke x p (.lst q.1) e = z
          cases z <;> rfl
      | _ => rfl
    | _ => rfl
  | exc c ds e => rfl
  | bad => rfl
@[simp] theorem ev_pop1 {x : Nat} {p : List Stp} {os : List O} : popK Tx (.ok (.bor x p (.lst os)) e) = popQ Tx x p e (unsnoc os) := Eq.trans rfl rfl
@[simp] theorem ev_pop2 {x : Nat} {p : List Stp} {os : List O} : popQ Tx x p e (some (os, d)) = if x ∈ Tx then pkV (.val d) (poke x p (.lst os) e) else .bad := Eq.trans rfl rfl
theorem unsnoc_app : ∀ (os : List O) (d : D), unsnoc (os ++ [.s d]) = some (os, d)
  | [], d => rfl
  | [o], d => by cases o <;> rfl
  | o :: o2 :: os, d => by
    have := unsnoc_app (o2 :: os) d
    show unsnoc (o :: ((o2 :: os) ++ [.s d])) = _
    cases o <;> (show (unsnoc ((o2 :: os) ++ [.s d])).map _ = _; rw [this]; rfl)
@[simp] theorem ev_ext : mExtend Tx T2 f f2 env = extK Tx T2 f2 (f env) := by
  unfold mExtend
  cases f env with
  | ok r e =>
    cases r with
    | bor x p o =>
      cases o with
      | lst os =>
        show (if x ∈ T2 then Rs.bad else (f2 e).bind _) = if x ∈ T2 then .bad else extY Tx x p os (f2 e)
        cases f2 e with
        | ok y e2 =>
          show (if x ∈ T2 then Rs.bad else (match lstOf y with | some ds => _ | none => Rs.bad)) = if x ∈ T2 then .bad else extO Tx x p os e2 (lstOf y)
          cases lstOf y with
          | none => rfl
          | some ds =>
            show (if x ∈ T2 then Rs.bad else (if os.length + ds.length ≤ 16777216 ∧ x ∈ Tx then (match poke x p (.lst (os ++ ds.map O.s)) e2 with | some e3 => Rs.ok (.val .non) e3 | none => .bad) else .bad)) = if x ∈ T2 then .bad else (if os.length + ds.length ≤ 16777216 ∧ x ∈ Tx then pkV (.val .non) (poke x p (.lst (os ++ ds.map O.s)) e2) else .bad)
            generalize poke x p (.lst (os ++ ds.map O.s)) e2 = q
            cases q <;> rfl
        | exc c ds e => rfl
        | bad => rfl
      | _ => rfl
    | _ => rfl
  | exc c ds e => rfl
  | bad => rfl
@[simp] theorem ev_ext1 {x : Nat} {p : List Stp} {os : List O} : extK Tx T2 f2 (.ok (.bor x p (.lst os)) e) = if x ∈ T2 then .bad else extY Tx x p os (f2 e) := Eq.trans rfl rfl
@[simp] theorem ev_ext2 {x : Nat} {p : List Stp} {os : List O} {y : Rt} : extY Tx x p os (.ok y e) = extO Tx x p os e (lstOf y) := Eq.trans rfl rfl
@[simp] theorem ev_ext3 {x : Nat} {p : List Stp} {os : List O} {ds : List D} : extO Tx x p os e (some ds) = if os.length + ds.length ≤ 16777216 ∧ x ∈ Tx then pkV (.val .non) (poke x p (.lst (os ++ ds.map O.s)) e) else .bad := Eq.trans rfl rfl
@[simp] theorem ev_lo {ds : List D} : lstOf (.own (.lst (ds.map O.s))) = some ds := by
  show leaves (ds.map O.s) = some ds
  exact leaves_map ds
@[simp] theorem ev_gAddL {ds es : List D} : gAdd (.own (.lst (ds.map O.s))) (.own (.lst (es.map O.s))) = if ds.length + es.length ≤ 16777216 then some (.own (.lst ((ds ++ es).map O.s))) else none := by
  show (match lstOf (.own (.lst (ds.map O.s))), lstOf (.own (.lst (es.map O.s))) with | some ds, some es => if ds.length + es.length ≤ 16777216 then some (Rt.own (.lst ((ds ++ es).map O.s))) else none | _, _ => none) = _
  rw [ev_lo, ev_lo]
@[simp] theorem ev_asgT {set : D → Env → Option Env} : msAsgT set f env = asgTK set (f env) := by
  unfold msAsgT
  cases f env with
  | ok r e =>
    cases r with
    | val d =>
      show ofO ((set d e).map fun _ => Fl.nx) ((set d e).getD e) = parS (set d e)
      cases set d e <;> rfl
    | _ => rfl
  | exc c ds e => rfl
  | bad => rfl
@[simp] theorem ev_asgT1 {set : D → Env → Option Env} : asgTK set (.ok (.val d) e) = parS (set d e) := Eq.trans rfl rfl
@[simp] theorem ev_dt0 : mDT0 env = .ok (.own (.dt [] [])) env := Eq.trans rfl rfl
@[simp] theorem ev_rev {ds : List D} : gRev (.own (.lst (ds.map O.s))) = some (.own (.lst (ds.reverse.map O.s))) := by
  show (match Rt.items (.own (.lst (ds.map O.s))) with | some (true, ds) => some (Rt.own (.lst (ds.reverse.map O.s))) | _ => none) = _
  show (match (leaves (ds.map O.s)).map fun ds => (true, ds) with | some (true, ds) => some (Rt.own (.lst (ds.reverse.map O.s))) | _ => none) = _
  rw [leaves_map]
  rfl
@[simp] theorem ev_listOf {ds : List D} : gListOf [.val (.tup ds)] = some (.own (.lst (ds.map O.s))) := Eq.trans rfl rfl
@[simp] theorem ev_lrg {n : Int} : gLRg (.val (.int n)) = if 0 ≤ n ∧ n ≤ 16777216 then some (.own (.lst ((rngD 0 n.toNat).map O.s))) else none := Eq.trans rfl rfl
@[simp] theorem ev_gAllE : gAll [.own (.lst [])] = some (.val (.bl true)) := Eq.trans rfl rfl
theorem ev_gAllL {bs : List Bool} : gAll [.own (.lst ((bs.map D.bl).map O.s))] = some (.val (.bl (bs.all id))) := by
  show (match Rt.items (.own (.lst ((bs.map D.bl).map O.s))) with | some (true, ds) => (blsOf ds).map fun (ns : List Bool) => Rt.val (.bl (ns.all id)) | _ => none) = _
  show (match (leaves ((bs.map D.bl).map O.s)).map fun ds => (true, ds) with | some (true, ds) => (blsOf ds).map fun (ns : List Bool) => Rt.val (.bl (ns.all id)) | _ => none) = _
  rw [leaves_map]
  show (blsOf (bs.map D.bl)).map _ = _
  rw [bls_map]
  rfl
theorem ev_gMaxL {ns : List Int} : gMaxL [.own (.lst ((ns.map D.int).map O.s))] = (maxI ns).map fun k => .val (.int k) := by
  show (match Rt.items (.own (.lst ((ns.map D.int).map O.s))) with | some (true, ds) => (intsOf ds).bind fun (ns : List Int) => (maxI ns).map fun k => Rt.val (.int k) | _ => none) = _
  show (match (leaves ((ns.map D.int).map O.s)).map fun ds => (true, ds) with | some (true, ds) => (intsOf ds).bind fun (ns : List Int) => (maxI ns).map fun k => Rt.val (.int k) | _ => none) = _
  rw [leaves_map]
  show (intsOf (ns.map D.int)).bind _ = _
  rw [ints_map]
  rfl
@[simp] theorem ev_inDT {ds : List D} {x : Nat} {p : List Stp} : gInDT (.val (.tup ds)) (.bor x p (.dt [] [])) = (keysOf ds).map fun k => .val (.bl false) := by
  show (keysOf ds).map (fun k => Rt.val (.bl (lkK ([] : List (List Key)) ([] : List O) k).isSome)) = _
  rfl
end
theorem while_inv {t : MT} {g : MS} {I : Nat → Env → Prop} {R : Env → Prop} {S : Rt → Env → Prop}
    (step : ∀ n e, I n e → ∃ b e1, t e = .ok b e1 ∧ ((b = false ∧ R e1) ∨ (b = true ∧ ((∃ e2 m, g e1 = .ok .nx e2 ∧ m < n ∧ I m e2) ∨ (∃ r e2, g e1 = .ok (.ret r) e2 ∧ S r e2))))) :
    ∀ (n : Nat) (e : Env), I n e → (∃ e', msWhile t g e = .ok .nx e' ∧ R e') ∨ (∃ r e', msWhile t g e = .ok (.ret r) e' ∧ S r e') := by
  have key : ∀ (k n : Nat) (e : Env), n < k → I n e → ∃ j, (∃ e', whileN t g j e = .ok .nx e' ∧ R e') ∨ (∃ r e', whileN t g j e = .ok (.ret r) e' ∧ S r e') := by
    intro k
    induction k with
    | zero => intro n e h; omega
    | succ k ih =>
      intro n e hn hI
      obtain ⟨b, e1, h1, h2⟩ := step n e hI
      rcases h2 with ⟨rfl, hR⟩ | ⟨rfl, h2⟩
      · refine ⟨1, .inl ⟨e1, ?_, hR⟩⟩
        unfold whileN
        rw [h1]
        rfl
      · rcases h2 with ⟨e2, m, h2, hm, hI2⟩ | ⟨r, e2, h2, hS⟩
        · obtain ⟨j, hj⟩ := ih m e2 (by omega) hI2
          refine ⟨j + 1, ?_⟩
          have : whileN t g (j + 1) e = whileN t g j e2 := by
            conv => lhs; unfold whileN
            rw [h1]
            show (g e1).bind _ = _
            rw [h2]
            rfl
          rw [this]
          exact hj
        · refine ⟨1, .inr ⟨r, e2, ?_, hS⟩⟩
          unfold whileN
          rw [h1]
          show (g e1).bind _ = _
          rw [h2]
          rfl
  intro n e hI
  obtain ⟨j, hj⟩ := key (n + 1) n e (by omega) hI
  rcases hj with ⟨e', h, hR⟩ | ⟨r, e', h, hS⟩
  · exact .inl ⟨e', msWhile_is h (by simp), hR⟩
  · exact .inr ⟨r, e', msWhile_is h (by simp), hS⟩
end L3
namespace L3
open PySem L2
def top (i : Nat) : Stmt := PySem.Challenge.pw_bigcorners_k34_whole_runs_by_the_text_al.main.body.getD i (.Pass ⟨0, 0, 0, 0⟩)
def tab_SIZES : List (Str × D) := [("set", .int 3), ("say", .int 2), ("call", .int 2), ("if", .int 4), ("while", .int 3)]
structure Txt (w : World) (K : PySem.W.Frag) (mg : Str → Option Value) (cl : Nat → Addr) (aS : Addr) (eS : Array DictEntry) (nS : Nat) : Prop where
  g_BEGIN : ∃ t, mg "BEGIN" = some (.str "begin" t)
  g_CALL : ∃ t, mg "CALL" = some (.str "call" t)
  g_END : ∃ t, mg "END" = some (.str "end" t)
  g_FAULT : ∃ t, mg "FAULT" = some (.str "fault" t)
  g_IF : ∃ t, mg "IF" = some (.str "if" t)
  g_JOIN : ∃ t, mg "JOIN" = some (.str "join" t)
  g_LESS : ∃ t, mg "LESS" = some (.str "less" t)
  g_MOST_CELLS : ∃ t, mg "MOST_CELLS" = some (.int 4 t)
  g_MOST_DEEP : ∃ t, mg "MOST_DEEP" = some (.int 8 t)
  g_MOST_MULTIPLE : ∃ t, mg "MOST_MULTIPLE" = some (.int 1000 t)
  g_MOST_OPEN : ∃ t, mg "MOST_OPEN" = some (.int 20 t)
  g_MOST_PLACES : ∃ t, mg "MOST_PLACES" = some (.int 40 t)
  g_MOST_ROUTINES : ∃ t, mg "MOST_ROUTINES" = some (.int 5 t)
  g_MOST_STEPS : ∃ t, mg "MOST_STEPS" = some (.int 5000 t)
  g_NO : ∃ t, mg "NO" = some (.int 1 t)
  g_ON : ∃ t, mg "ON" = some (.str "on" t)
  g_OVER : ∃ t, mg "OVER" = some (.str "over" t)
  g_RUNS : ∃ t, mg "RUNS" = some (.str "runs" t)
  g_SAME : ∃ t, mg "SAME" = some (.str "same" t)
  g_SAY : ∃ t, mg "SAY" = some (.str "say" t)
  g_SET : ∃ t, mg "SET" = some (.str "set" t)
  g_WHILE : ∃ t, mg "WHILE" = some (.str "while" t)
  g_YES : ∃ t, mg "YES" = some (.int 0 t)
  n_Book_cells : Cls K (cl 0) ∧ NoAttr K (cl 0) "cells"
  n_Book_routines : Cls K (cl 0) ∧ NoAttr K (cl 0) "routines"
  n_Layout_arrow_pairs : Cls K (cl 1) ∧ NoAttr K (cl 1) "arrow_pairs"
  n_Layout_comers : Cls K (cl 1) ∧ NoAttr K (cl 1) "comers"
  n_Layout_doings : Cls K (cl 1) ∧ NoAttr K (cl 1) "doings"
  n_Layout_goers : Cls K (cl 1) ∧ NoAttr K (cl 1) "goers"
  n_Moment_along : Cls K (cl 2) ∧ NoAttr K (cl 2) "along"
  n_Moment_amounts : Cls K (cl 2) ∧ NoAttr K (cl 2) "amounts"
  n_Moment_frames : Cls K (cl 2) ∧ NoAttr K (cl 2) "frames"
  n_Moment_saids : Cls K (cl 2) ∧ NoAttr K (cl 2) "saids"
  n_Runner_book : Cls K (cl 3) ∧ NoAttr K (cl 3) "book"
  n_Runner_layouts : Cls K (cl 3) ∧ NoAttr K (cl 3) "layouts"
  n_Runner_moments : Cls K (cl 3) ∧ NoAttr K (cl 3) "moments"
  n_Runner_stops : Cls K (cl 3) ∧ NoAttr K (cl 3) "stops"
  n_Runner_told : Cls K (cl 3) ∧ NoAttr K (cl 3) "told"
  z_abs : mg "abs" = none
  z_all : mg "all" = none
  z_bool : mg "bool" = none
  z_enumerate : mg "enumerate" = none
  z_int : mg "int" = none
  z_isinstance : mg "isinstance" = none
  z_len : mg "len" = none
  z_list : mg "list" = none
  z_max : mg "max" = none
  z_min : mg "min" = none
  z_range : mg "range" = none
  z_str : mg "str" = none
  z_sum : mg "sum" = none
  z_tuple : mg "tuple" = none
  z_zip : mg "zip" = none
  d_SIZES : KDict K w aS eS nS
  k_SIZES : KTab K cl aS tab_SIZES
  m_SIZES : mg "SIZES" = some (.ref aS)
section
variable {P : Program} {w : World} {K : PySem.W.Frag} {mg : Str → Option Value} {base : Heap} {cl : Nat → Addr} {aS : Addr} {eS : Array DictEntry} {nS : Nat}
abbrev s_is_integer : Stmt := top 10
theorem sc_is_integer : FnScope ["thing"] ["thing"] (defScope s_is_integer) := ⟨rfl, rfl, rfl, by decide +kernel, rfl, by decide +kernel, by decide +kernel⟩
def b_is_integer : MS := (msRet (mAnd (mN gIsi (mCons [] (mVar 0) (mCons [] (mC (.ty "int")) mNil))) (mNot (mN gIsi (mCons [] (mVar 0) (mCons [] (mC (.ty "bool")) mNil))))))
theorem ok_is_integer {f : Addr} {fd : FuncData} {k : Nat} (T : Txt w K mg cl aS eS nS)  (F : Fun K "is_integer" "is_integer" s_is_integer f fd) : FnOk P w K mg base CX0 (k + 1) f fd ["thing"] (spG K cl 1 (runDef [] 0 (b_is_integer))) :=
  fn_def2 F sc_is_integer (by decide) fun cdv A outer s H E F0 H0 io vs hr => ⟨_, (s_one (s_ret (e_and (e_cb (loc_isi) (pe_callB call_isi (by rfl) T.z_isinstance rfl (a_cons (e_var 0) (a_cons (e_ty (by rfl) T.z_int rfl) a_nil)))) (e_one (e_not (e_cb (loc_isi) (pe_callB call_isi (by rfl) T.z_isinstance rfl (a_cons (e_var 0) (a_cons (e_ty (by rfl) T.z_bool rfl) a_nil)))))))))⟩
abbrev s_is_within : Stmt := top 11
theorem sc_is_within : FnScope ["thing", "least", "most"] ["thing", "least", "most"] (defScope s_is_within) := ⟨rfl, rfl, rfl, by decide +kernel, rfl, by decide +kernel, by decide +kernel⟩
def b_is_within (f_is_integer : List O → Rr) : MS := (msRet (mAnd (mCall [] 1 f_is_integer (mCons [] (mVar 0) mNil)) (mChain (gI fun i j => .bl (decide (i ≤ j))) (gI fun i j => .bl (decide (i ≤ j))) (mVar 1) (mVar 0) (mVar 2))))
theorem ok_is_within {f : Addr} {fd : FuncData} {k : Nat} (T : Txt w K mg cl aS eS nS) {f_is_integer : List O → Rr} {a_is_integer : Addr} {d_is_integer : FuncData} {k_is_integer : Nat} (l_is_integer : k_is_integer ≤ k) (c_is_integer : CalF P w K mg base k_is_integer "is_integer" ["thing"] (spG K cl 1 f_is_integer) a_is_integer d_is_integer) (F : Fun K "is_within" "is_within" s_is_within f fd) : FnOk P w K mg base CX0 (k + 1) f fd ["thing", "least", "most"] (spG K cl 3 (runDef [] 0 (b_is_within f_is_integer))) :=
  fn_def2 F sc_is_within (by decide) fun cdv A outer s H E F0 H0 io vs hr => ⟨_, (s_one (s_ret (e_and (e_call [] rfl c_is_integer.ok (hr.mono (by omega)) (by rfl) c_is_integer.g c_is_integer.kp c_is_integer.b passN (a_cons (e_var 0) a_nil)) (e_one (e_chain loc_le loc_le (pe_chain op_le op_le (e_var 1) (e_var 0) (e_var 2)))))))⟩
abbrev s_check_number : Stmt := top 12
theorem sc_check_number : FnScope ["thing", "least", "most"] ["thing", "least", "most"] (defScope s_check_number) := ⟨rfl, rfl, rfl, by decide +kernel, rfl, by decide +kernel, by decide +kernel⟩
def b_check_number (f_is_within : List O → Rr) : MS := (msIf (tmNot (mTest (mCall [] 3 f_is_within (mCons [] (mVar 0) (mCons [] (mVar 1) (mCons [] (mVar 2) mNil)))))) msBad msNil)
theorem ok_check_number {f : Addr} {fd : FuncData} {k : Nat} (T : Txt w K mg cl aS eS nS) {f_is_within : List O → Rr} {a_is_within : Addr} {d_is_within : FuncData} {k_is_within : Nat} (l_is_within : k_is_within ≤ k) (c_is_within : CalF P w K mg base k_is_within "is_within" ["thing", "least", "most"] (spG K cl 3 f_is_within) a_is_within d_is_within) (F : Fun K "check_number" "check_number" s_check_number f fd) : FnOk P w K mg base CX0 (k + 1) f fd ["thing", "least", "most"] (spG K cl 3 (runDef [] 0 (b_check_number f_is_within))) :=
  fn_def2 F sc_check_number (by decide) fun cdv A outer s H E F0 H0 io vs hr => ⟨_, (s_one (s_if (t_not (t_val (e_call [] rfl c_is_within.ok (hr.mono (by omega)) (by rfl) c_is_within.g c_is_within.kp c_is_within.b passN (a_cons (e_var 0) (a_cons (e_var 1) (a_cons (e_var 2) a_nil)))))) (s_one s_bad) s_nil))⟩
abbrev s_is_sum : Stmt := top 32
theorem sc_is_sum : FnScope ["thing", "cells", "item"] ["thing", "cells"] (defScope s_is_sum) := ⟨rfl, rfl, rfl, by decide +kernel, rfl, by decide +kernel, by decide +kernel⟩
def e1_is_sum (f_is_within : List O → Rr) : ME := (mStl (mCall [] 3 f_is_within (mCons [] (mVar 2) (mCons [] (m1 gNeg (mC (.int 1000))) (mCons [] (mC (.int 1000)) mNil)))))
def b_is_sum (f_is_within : List O → Rr) : MS := (msSeq (msIf (tmOr (tmNot (mTest (mN gIsi (mCons [] (mVar 0) (mCons [] (mC (.ty "tuple")) mNil))))) (mTest (m2 gNe [] (mN gLen (mCons [] (mVar 0) mNil)) (m2 gAdd [] (mVar 1) (mC (.int 1)))))) (msRet (mC (.bl false))) msNil)
  (msRet (mN gAll (mCons [] (mLc [2, 2] [2] (setT [2]) (iSeq true (mVar 0)) mYes (e1_is_sum f_is_within)) mNil))))
theorem ok_is_sum {f : Addr} {fd : FuncData} {k : Nat} (T : Txt w K mg cl aS eS nS) {f_is_within : List O → Rr} {a_is_within : Addr} {d_is_within : FuncData} {k_is_within : Nat} (l_is_within : k_is_within ≤ k) (c_is_within : CalF P w K mg base k_is_within "is_within" ["thing", "least", "most"] (spG K cl 3 f_is_within) a_is_within d_is_within) (F : Fun K "is_sum" "is_sum" s_is_sum f fd) : FnOk P w K mg base CX0 (k + 1) f fd ["thing", "cells"] (spG K cl 2 (runDef [] 1 (b_is_sum f_is_within))) :=
  fn_def2 F sc_is_sum (by decide) fun cdv A outer s H E F0 H0 io vs hr => ⟨_, (s_cons (s_if (t_w (w_or (t_not (t_val (e_cb (loc_isi) (pe_callB call_isi (by rfl) T.z_isinstance rfl (a_cons (e_var 0) (a_cons (e_ty (by rfl) T.z_tuple rfl) a_nil)))))) (w_or1 (t_cmp (op_neD hr.units) (loc_ne) (e_cb (loc_len) (pe_callB call_len (by rfl) T.z_len rfl (a_cons (e_var 0) a_nil))) (e_op op_addAll loc_add (e_var 1) e_int))))) (s_one (s_ret e_bl)) s_nil)
  (s_one (s_ret (e_cb (loc_all) (pe_callB (cr_all rfl) (by rfl) T.z_all rfl (a_cons (e_lc (vs := [2]) (tg_name (by show 2 < 3; decide) (by show 2 ∉ ([] : List Nat); decide)) (by decide) (by show ∀ i ∈ ([2] : List Nat), i ∉ ([] : List Nat); decide) (pe_lc (own := [("item", 2)]) rfl sc_is_sum.nd (i_tup rfl (e_var 0)) (blkOk_by (N := ["thing", "cells", "item"]) (sc := defScope s_is_sum) (by decide +kernel)) (fun _ _ _ _ _ => (pg_name (i := 2) sc_is_sum.nd rfl (by first | exact Or.inl rfl | exact Or.inr rfl))) (fun _ _ _ _ _ => ts_nil) (fun _ _ _ _ _ => (e_stl (e_call [] rfl c_is_within.ok (hr.mono (by omega)) (by rfl) c_is_within.g c_is_within.kp c_is_within.b passN (a_cons (e_var 2) (a_cons (e_un un_neg loc_neg (e_gint (by rfl) T.g_MOST_MULTIPLE)) (a_cons (e_gint (by rfl) T.g_MOST_MULTIPLE) a_nil)))))))) a_nil))))))⟩
abbrev s_is_test : Stmt := top 33
theorem sc_is_test : FnScope ["thing", "cells"] ["thing", "cells"] (defScope s_is_test) := ⟨rfl, rfl, rfl, by decide +kernel, rfl, by decide +kernel, by decide +kernel⟩
def b_is_test (f_is_sum : List O → Rr) : MS := (msSeq (msIf (tmOr (tmNot (mTest (mN gIsi (mCons [] (mVar 0) (mCons [] (mC (.ty "tuple")) mNil))))) (tmOr (mTest (m2 gNe [] (mN gLen (mCons [] (mVar 0) mNil)) (mC (.int 3)))) (tmNot (mTest (mN gIsi (mCons [] (m2 gIx [] (mVar 0) (mC (.int 0))) (mCons [] (mC (.ty "str")) mNil))))))) (msRet (mC (.bl false))) msNil)
  (msRet (mAnd (m2 (gIn false) [] (m2 gIx [] (mVar 0) (mC (.int 0))) (mN gTup (mCons [] (mC (.str "less")) (mCons [] (mC (.str "same")) mNil)))) (mAnd (mCall [] 2 f_is_sum (mCons [] (m2 gIx [] (mVar 0) (mC (.int 1))) (mCons [] (mVar 1) mNil))) (mCall [] 2 f_is_sum (mCons [] (m2 gIx [] (mVar 0) (mC (.int 2))) (mCons [] (mVar 1) mNil)))))))
theorem ok_is_test {f : Addr} {fd : FuncData} {k : Nat} (T : Txt w K mg cl aS eS nS) {f_is_sum : List O → Rr} {a_is_sum : Addr} {d_is_sum : FuncData} {k_is_sum : Nat} (l_is_sum : k_is_sum ≤ k) (c_is_sum : CalF P w K mg base k_is_sum "is_sum" ["thing", "cells"] (spG K cl 2 f_is_sum) a_is_sum d_is_sum) (F : Fun K "is_test" "is_test" s_is_test f fd) : FnOk P w K mg base CX0 (k + 1) f fd ["thing", "cells"] (spG K cl 2 (runDef [] 0 (b_is_test f_is_sum))) :=
  fn_def2 F sc_is_test (by decide) fun cdv A outer s H E F0 H0 io vs hr => ⟨_, (s_cons (s_if (t_w (w_or (t_not (t_val (e_cb (loc_isi) (pe_callB call_isi (by rfl) T.z_isinstance rfl (a_cons (e_var 0) (a_cons (e_ty (by rfl) T.z_tuple rfl) a_nil)))))) (w_or (t_cmp (op_neD hr.units) (loc_ne) (e_cb (loc_len) (pe_callB call_len (by rfl) T.z_len rfl (a_cons (e_var 0) a_nil))) e_int) (w_or1 (t_not (t_val (e_cb (loc_isi) (pe_callB call_isi (by rfl) T.z_isinstance rfl (a_cons (e_ix ix_seq (loc_ix) (e_var 0) e_int (fun _ _ => rfl)) (a_cons (e_ty (by rfl) T.z_str rfl) a_nil)))))))))) (s_one (s_ret e_bl)) s_nil)
  (s_one (s_ret (e_and (e_cmp op_in_seq (loc_in) (e_ix ix_seq (loc_ix) (e_var 0) e_int (fun _ _ => rfl)) (e_tup (a_cons (e_gstr (by rfl) T.g_LESS) (a_cons (e_gstr (by rfl) T.g_SAME) a_nil)))) (e_and (e_call [] rfl c_is_sum.ok (hr.mono (by omega)) (by rfl) c_is_sum.g c_is_sum.kp c_is_sum.b passN (a_cons (e_ix ix_seq (loc_ix) (e_var 0) e_int (fun _ _ => rfl)) (a_cons (e_var 1) a_nil))) (e_one (e_call [] rfl c_is_sum.ok (hr.mono (by omega)) (by rfl) c_is_sum.g c_is_sum.kp c_is_sum.b passN (a_cons (e_ix ix_seq (loc_ix) (e_var 0) e_int (fun _ _ => rfl)) (a_cons (e_var 1) a_nil)))))))))⟩
abbrev s_statement_size : Stmt := top 34
theorem sc_statement_size : FnScope ["thing", "cells", "routines", "deep", "word", "sizes", "body"] ["thing", "cells", "routines", "deep"] (defScope s_statement_size) := ⟨rfl, rfl, rfl, by decide +kernel, rfl, by decide +kernel, by decide +kernel⟩
def e1_statement_size (f_is_within : List O → Rr) (f_is_sum : List O → Rr) (f_is_test : List O → Rr) (f_body_size : List O → Rr) : ME := (mStl (mCall [] 4 f_body_size (mCons [] (mVar 6) (mCons [] (mVar 1) (mCons [] (mVar 2) (mCons [] (mStl (m2 gAdd [] (mVar 3) (mC (.int 1)))) mNil))))))
def b_statement_size (f_is_within : List O → Rr) (f_is_sum : List O → Rr) (f_is_test : List O → Rr) (f_body_size : List O → Rr) : MS := (msSeq (msIf (tmOr (tmNot (mTest (mN gIsi (mCons [] (mVar 0) (mCons [] (mC (.ty "tuple")) mNil))))) (tmOr (mTest (m2 gEq [] (mN gLen (mCons [] (mVar 0) mNil)) (mC (.int 0)))) (tmNot (mTest (mN gIsi (mCons [] (m2 gIx [] (mVar 0) (mC (.int 0))) (mCons [] (mC (.ty "str")) mNil))))))) (msRet (mC .non)) msNil)
  (msSeq (msSet 4 (m2 gIx [] (mVar 0) (mC (.int 0))))
  (msSeq (msIf (mTest (m2 gNe [] (mKGet tab_SIZES (mVar 4) (mC (.int 0))) (mN gLen (mCons [] (mVar 0) mNil)))) (msRet (mC .non)) msNil)
  (msSeq (msIf (mTest (m2 gEq [] (mVar 4) (mC (.str "set")))) (msRet (mIf (tmAnd (mTest (mCall [] 3 f_is_within (mCons [] (m2 gIx [] (mVar 0) (mC (.int 1))) (mCons [] (mC (.int 0)) (mCons [] (m2 (gI fun i j => .int (i - j)) [] (mVar 1) (mC (.int 1))) mNil))))) (mTest (mCall [] 2 f_is_sum (mCons [] (m2 gIx [] (mVar 0) (mC (.int 2))) (mCons [] (mVar 1) mNil))))) (mC (.int 1)) (mC .non))) msNil)
  (msSeq (msIf (mTest (m2 gEq [] (mVar 4) (mC (.str "say")))) (msRet (mIf (mTest (mCall [] 2 f_is_sum (mCons [] (m2 gIx [] (mVar 0) (mC (.int 1))) (mCons [] (mVar 1) mNil)))) (mC (.int 1)) (mC .non))) msNil)
  (msSeq (msIf (mTest (m2 gEq [] (mVar 4) (mC (.str "call")))) (msRet (mIf (mTest (mCall [] 3 f_is_within (mCons [] (m2 gIx [] (mVar 0) (mC (.int 1))) (mCons [] (mC (.int 0)) (mCons [] (m2 (gI fun i j => .int (i - j)) [] (mVar 2) (mC (.int 1))) mNil))))) (mC (.int 1)) (mC .non))) msNil)
  (msSeq (msIf (tmNot (mTest (mCall [] 2 f_is_test (mCons [] (m2 gIx [] (mVar 0) (mC (.int 1))) (mCons [] (mVar 1) mNil))))) (msRet (mC .non)) msNil)
  (msSeq (msSet 5 (mLc [6, 6] [6] (setT [6]) (iSeq true (mStl (mSl [] (mVar 0) (oSome (mC (.int 2))) oNone))) mYes (e1_statement_size f_is_within f_is_sum f_is_test f_body_size)))
  (msRet (mIf (mTest (m2 (gIn false) [] (mC .non) (mVar 5))) (mC .non) (m2 gAdd [] (mN gLen (mCons [] (mVar 5) mNil)) (mN gSum (mCons [] (mVar 5) mNil)))))))))))))
theorem ok_statement_size {f : Addr} {fd : FuncData} {k : Nat} (T : Txt w K mg cl aS eS nS) {f_is_within : List O → Rr} {a_is_within : Addr} {d_is_within : FuncData} {k_is_within : Nat} (l_is_within : k_is_within ≤ k) (c_is_within : CalF P w K mg base k_is_within "is_within" ["thing", "least", "most"] (spG K cl 3 f_is_within) a_is_within d_is_within) {f_is_sum : List O → Rr} {a_is_sum : Addr} {d_is_sum : FuncData} {k_is_sum : Nat} (l_is_sum : k_is_sum ≤ k) (c_is_sum : CalF P w K mg base k_is_sum "is_sum" ["thing", "cells"] (spG K cl 2 f_is_sum) a_is_sum d_is_sum) {f_is_test : List O → Rr} {a_is_test : Addr} {d_is_test : FuncData} {k_is_test : Nat} (l_is_test : k_is_test ≤ k) (c_is_test : CalF P w K mg base k_is_test "is_test" ["thing", "cells"] (spG K cl 2 f_is_test) a_is_test d_is_test) {f_body_size : List O → Rr} {a_body_size : Addr} {d_body_size : FuncData} {k_body_size : Nat} (l_body_size : k_body_size ≤ k) (c_body_size : CalF P w K mg base k_body_size "body_size" ["thing", "cells", "routines", "deep"] (spG K cl 4 f_body_size) a_body_size d_body_size) (F : Fun K "statement_size" "statement_size" s_statement_size f fd) : FnOk P w K mg base CX0 (k + 1) f fd ["thing", "cells", "routines", "deep"] (spG K cl 4 (runDef [] 3 (b_statement_size f_is_within f_is_sum f_is_test f_body_size))) :=
  fn_def2 F sc_statement_size (by decide) fun cdv A outer s H E F0 H0 io vs hr => ⟨_, (s_cons (s_if (t_w (w_or (t_not (t_val (e_cb (loc_isi) (pe_callB call_isi (by rfl) T.z_isinstance rfl (a_cons (e_var 0) (a_cons (e_ty (by rfl) T.z_tuple rfl) a_nil)))))) (w_or (t_cmp (op_eqD hr.units) (loc_eq) (e_cb (loc_len) (pe_callB call_len (by rfl) T.z_len rfl (a_cons (e_var 0) a_nil))) e_int) (w_or1 (t_not (t_val (e_cb (loc_isi) (pe_callB call_isi (by rfl) T.z_isinstance rfl (a_cons (e_ix ix_seq (loc_ix) (e_var 0) e_int (fun _ _ => rfl)) (a_cons (e_ty (by rfl) T.z_str rfl) a_nil)))))))))) (s_one (s_ret e_non)) s_nil)
  (s_cons (s_set 4 sc_statement_size.nd rfl (by first | exact Or.inl rfl | exact Or.inr rfl) (e_ix ix_seq (loc_ix) (e_var 0) e_int (fun _ _ => rfl)) (by show 4 ∉ ([] : List Nat); decide) (by show 4 < 7; decide))
  (s_cons (s_if (t_cmp (op_neD hr.units) (loc_ne) (e_kget T.k_SIZES rfl (pe_kget T.d_SIZES (by rfl) T.m_SIZES (e_var 4) e_int ⟨rfl, rfl, rfl, rfl⟩)) (e_cb (loc_len) (pe_callB call_len (by rfl) T.z_len rfl (a_cons (e_var 0) a_nil)))) (s_one (s_ret e_non)) s_nil)
  (s_cons (s_if (t_cmp (op_eqD hr.units) (loc_eq) (e_var 4) (e_gstr (by rfl) T.g_SET)) (s_one (s_ret (e_if (t_w (w_and (t_val (e_call [] rfl c_is_within.ok (hr.mono (by omega)) (by rfl) c_is_within.g c_is_within.kp c_is_within.b passN (a_cons (e_ix ix_seq (loc_ix) (e_var 0) e_int (fun _ _ => rfl)) (a_cons e_int (a_cons (e_op op_sub loc_sub (e_var 1) e_int) a_nil))))) (w_and1 (t_val (e_call [] rfl c_is_sum.ok (hr.mono (by omega)) (by rfl) c_is_sum.g c_is_sum.kp c_is_sum.b passN (a_cons (e_ix ix_seq (loc_ix) (e_var 0) e_int (fun _ _ => rfl)) (a_cons (e_var 1) a_nil))))))) e_int e_non))) s_nil)
  (s_cons (s_if (t_cmp (op_eqD hr.units) (loc_eq) (e_var 4) (e_gstr (by rfl) T.g_SAY)) (s_one (s_ret (e_if (t_val (e_call [] rfl c_is_sum.ok (hr.mono (by omega)) (by rfl) c_is_sum.g c_is_sum.kp c_is_sum.b passN (a_cons (e_ix ix_seq (loc_ix) (e_var 0) e_int (fun _ _ => rfl)) (a_cons (e_var 1) a_nil)))) e_int e_non))) s_nil)
  (s_cons (s_if (t_cmp (op_eqD hr.units) (loc_eq) (e_var 4) (e_gstr (by rfl) T.g_CALL)) (s_one (s_ret (e_if (t_val (e_call [] rfl c_is_within.ok (hr.mono (by omega)) (by rfl) c_is_within.g c_is_within.kp c_is_within.b passN (a_cons (e_ix ix_seq (loc_ix) (e_var 0) e_int (fun _ _ => rfl)) (a_cons e_int (a_cons (e_op op_sub loc_sub (e_var 2) e_int) a_nil))))) e_int e_non))) s_nil)
  (s_cons (s_if (t_not (t_val (e_call [] rfl c_is_test.ok (hr.mono (by omega)) (by rfl) c_is_test.g c_is_test.kp c_is_test.b passN (a_cons (e_ix ix_seq (loc_ix) (e_var 0) e_int (fun _ _ => rfl)) (a_cons (e_var 1) a_nil))))) (s_one (s_ret e_non)) s_nil)
  (s_cons (s_setLc (vs := [6]) (tg_name (by show 6 < 7; decide) (by show 6 ∉ ([] : List Nat); decide)) (by decide) (by show ∀ i ∈ ([6] : List Nat), i ∉ ([] : List Nat); decide) (by show 5 < 7; decide) (by show 5 ∉ ([] : List Nat); decide) (ps_setLc (i := 5) (own := [("body", 6)]) rfl sc_statement_size.nd rfl rfl (sw_true rfl rfl rfl (by decide +kernel)) (i_tup rfl (e_stl (e_sl rfl (e_var 0) (o_some e_int) o_none))) (blkOk_by (N := ["thing", "cells", "routines", "deep", "word", "sizes", "body"]) (sc := defScope s_statement_size) (by decide +kernel)) (fun _ _ _ _ _ => (pg_name (i := 6) sc_statement_size.nd rfl (by first | exact Or.inl rfl | exact Or.inr rfl))) (fun _ _ _ _ _ => ts_nil) (fun _ _ _ _ _ => (e_stl (e_call [] rfl c_body_size.ok (hr.mono (by omega)) (by rfl) c_body_size.g c_body_size.kp c_body_size.b passN (a_cons (e_var 6) (a_cons (e_var 1) (a_cons (e_var 2) (a_cons (e_stl (e_op op_addAll loc_add (e_var 3) e_int)) a_nil)))))))))
  (s_one (s_ret (e_if (t_cmp op_in_seq (loc_in) e_non (e_var 5)) e_non (e_op op_addAll loc_add (e_cb (loc_len) (pe_callB call_len (by rfl) T.z_len rfl (a_cons (e_var 5) a_nil))) (e_cb (loc_sum) (pe_callB (cr_sum rfl) (by rfl) T.z_sum rfl (a_cons (e_var 5) a_nil)))))))))))))))⟩
abbrev s_body_size : Stmt := top 35
theorem sc_body_size : FnScope ["thing", "cells", "routines", "deep", "found", "statement", "size"] ["thing", "cells", "routines", "deep"] (defScope s_body_size) := ⟨rfl, rfl, rfl, by decide +kernel, rfl, by decide +kernel, by decide +kernel⟩
def e1_body_size (f_statement_size : List O → Rr) : MS := (msSeq (msSet 6 (mCall [] 4 f_statement_size (mCons [] (mVar 5) (mCons [] (mVar 1) (mCons [] (mVar 2) (mCons [] (mVar 3) mNil))))))
  (msSeq (msIf (mTest (m2 (gIs false) [] (mVar 6) (mC .non))) (msRet (mC .non)) msNil)
  (msAug 4 (gI fun i j => .int (i + j)) (mVar 6))))
def b_body_size (f_statement_size : List O → Rr) : MS := (msSeq (msIf (tmOr (mTest (m2 (gI fun i j => .bl (decide (j < i))) [] (mVar 3) (mC (.int 8)))) (tmNot (mTest (mN gIsi (mCons [] (mVar 0) (mCons [] (mC (.ty "tuple")) mNil)))))) (msRet (mC .non)) msNil)
  (msSeq (msSet 4 (mC (.int 0)))
  (msSeq (msFor [5, 6, 4] (setT [5]) (iSeq true (mVar 0)) (e1_body_size f_statement_size))
  (msRet (mVar 4)))))
theorem ok_body_size {f : Addr} {fd : FuncData} {k : Nat} (T : Txt w K mg cl aS eS nS) {f_statement_size : List O → Rr} {a_statement_size : Addr} {d_statement_size : FuncData} {k_statement_size : Nat} (l_statement_size : k_statement_size ≤ k) (c_statement_size : CalF P w K mg base k_statement_size "statement_size" ["thing", "cells", "routines", "deep"] (spG K cl 4 f_statement_size) a_statement_size d_statement_size) (F : Fun K "body_size" "body_size" s_body_size f fd) : FnOk P w K mg base CX0 (k + 1) f fd ["thing", "cells", "routines", "deep"] (spG K cl 4 (runDef [] 3 (b_body_size f_statement_size))) :=
  fn_def2 F sc_body_size (by decide) fun cdv A outer s H E F0 H0 io vs hr => ⟨_, (s_cons (s_if (t_w (w_or (t_cmp op_gt loc_gt (e_var 3) (e_gint (by rfl) T.g_MOST_DEEP)) (w_or1 (t_not (t_val (e_cb (loc_isi) (pe_callB call_isi (by rfl) T.z_isinstance rfl (a_cons (e_var 0) (a_cons (e_ty (by rfl) T.z_tuple rfl) a_nil))))))))) (s_one (s_ret e_non)) s_nil)
  (s_cons (s_set 4 sc_body_size.nd rfl (by first | exact Or.inl rfl | exact Or.inr rfl) e_int (by show 4 ∉ ([] : List Nat); decide) (by show 4 < 7; decide))
  (s_cons (s_for PassesOwn.never rfl (tg_name (by show 5 < 7; decide) (by show 5 ∉ ([] : List Nat); decide)) (i_tup rfl (e_var 0)) (pg_name (i := 5) sc_body_size.nd rfl (by first | exact Or.inl rfl | exact Or.inr rfl)) (s_cons (s_set 6 sc_body_size.nd rfl (by first | exact Or.inl rfl | exact Or.inr rfl) (e_call [] rfl c_statement_size.ok (hr.mono (by omega)) (by rfl) c_statement_size.g c_statement_size.kp c_statement_size.b passN (a_cons (e_var 5) (a_cons (e_var 1) (a_cons (e_var 2) (a_cons (e_var 3) a_nil))))) (by show 6 ∉ ([] : List Nat); decide) (by show 6 < 7; decide))
  (s_cons (s_if (t_cmp op_isN loc_is (e_var 6) e_non) (s_one (s_ret e_non)) s_nil)
  (s_one (s_aug 4 loc_ipadd (by show 4 < 7; decide) (by show 4 ∉ ([] : List Nat); decide) (ps_aug (i := 4) sc_body_size.nd rfl (by first | exact Or.inl rfl | exact Or.inr rfl) (e_var 6) ip_add))))))
  (s_one (s_ret (e_var 4))))))⟩
abbrev s_wrong_part : Stmt := top 36
theorem sc_wrong_part : FnScope ["cells", "routines", "number", "body", "size"] ["cells", "routines"] (defScope s_wrong_part) := ⟨rfl, rfl, rfl, by decide +kernel, rfl, by decide +kernel, by decide +kernel⟩
def e1_wrong_part (f_is_within : List O → Rr) (f_body_size : List O → Rr) : MS := (msSeq (msSet 4 (mCall [] 4 f_body_size (mCons [] (mVar 3) (mCons [] (mVar 0) (mCons [] (mN gLen (mCons [] (mVar 1) mNil)) (mCons [] (mC (.int 1)) mNil))))))
  (msIf (tmOr (mTest (m2 (gIs false) [] (mVar 4) (mC .non))) (mTest (m2 (gI fun i j => .bl (decide (j < i))) [] (m2 gAdd [] (mVar 4) (mC (.int 2))) (mC (.int 40))))) (msRet (mN gTup (mCons [] (mC (.str "routine")) (mCons [] (mVar 2) mNil)))) msNil))
def b_wrong_part (f_is_within : List O → Rr) (f_body_size : List O → Rr) : MS := (msSeq (msIf (tmNot (mTest (mCall [] 3 f_is_within (mCons [] (mVar 0) (mCons [] (mC (.int 1)) (mCons [] (mC (.int 4)) mNil)))))) (msRet (mN gTup (mCons [] (mC (.str "cells")) mNil))) msNil)
  (msSeq (msIf (tmOr (tmNot (mTest (mN gIsi (mCons [] (mVar 1) (mCons [] (mC (.ty "tuple")) mNil))))) (tmNot (mTest (mChain (gI fun i j => .bl (decide (i ≤ j))) (gI fun i j => .bl (decide (i ≤ j))) (mC (.int 1)) (mN gLen (mCons [] (mVar 1) mNil)) (mC (.int 5)))))) (msRet (mN gTup (mCons [] (mC (.str "routines")) mNil))) msNil)
  (msSeq (msFor [2, 3, 4] (setTup [2, 3]) (iEnumM (mCons [] (mVar 1) mNil)) (e1_wrong_part f_is_within f_body_size))
  (msRet (mC .non)))))
theorem ok_wrong_part {f : Addr} {fd : FuncData} {k : Nat} (T : Txt w K mg cl aS eS nS) {f_is_within : List O → Rr} {a_is_within : Addr} {d_is_within : FuncData} {k_is_within : Nat} (l_is_within : k_is_within ≤ k) (c_is_within : CalF P w K mg base k_is_within "is_within" ["thing", "least", "most"] (spG K cl 3 f_is_within) a_is_within d_is_within) {f_body_size : List O → Rr} {a_body_size : Addr} {d_body_size : FuncData} {k_body_size : Nat} (l_body_size : k_body_size ≤ k) (c_body_size : CalF P w K mg base k_body_size "body_size" ["thing", "cells", "routines", "deep"] (spG K cl 4 f_body_size) a_body_size d_body_size) (F : Fun K "wrong_part" "wrong_part" s_wrong_part f fd) : FnOk P w K mg base CX0 (k + 1) f fd ["cells", "routines"] (spG K cl 2 (runDef [] 3 (b_wrong_part f_is_within f_body_size))) :=
  fn_def2 F sc_wrong_part (by decide) fun cdv A outer s H E F0 H0 io vs hr => ⟨_, (s_cons (s_if (t_not (t_val (e_call [] rfl c_is_within.ok (hr.mono (by omega)) (by rfl) c_is_within.g c_is_within.kp c_is_within.b passN (a_cons (e_var 0) (a_cons e_int (a_cons (e_gint (by rfl) T.g_MOST_CELLS) a_nil)))))) (s_one (s_ret (e_tup (a_cons e_str a_nil)))) s_nil)
  (s_cons (s_if (t_w (w_or (t_not (t_val (e_cb (loc_isi) (pe_callB call_isi (by rfl) T.z_isinstance rfl (a_cons (e_var 1) (a_cons (e_ty (by rfl) T.z_tuple rfl) a_nil)))))) (w_or1 (t_not (t_chain loc_le loc_le (pt_chain op_le op_le e_int (e_cb (loc_len) (pe_callB call_len (by rfl) T.z_len rfl (a_cons (e_var 1) a_nil))) (e_gint (by rfl) T.g_MOST_ROUTINES))))))) (s_one (s_ret (e_tup (a_cons e_str a_nil)))) s_nil)
  (s_cons (s_for PassesOwn.never rfl (tg_tup (is := [2, 3]) (n := 2) rfl (by show ∀ i ∈ ([2, 3] : List Nat), i < 5 ∧ i ∉ ([] : List Nat); decide)) (i_enum rfl (pi_enumG (by rfl) T.z_enumerate (a_cons (e_var 1) a_nil))) (pg_tup rfl (pgs_cons (pg_name (i := 2) sc_wrong_part.nd rfl (by first | exact Or.inl rfl | exact Or.inr rfl)) (pgs_cons (pg_name (i := 3) sc_wrong_part.nd rfl (by first | exact Or.inl rfl | exact Or.inr rfl)) pgs_nil))) (s_cons (s_set 4 sc_wrong_part.nd rfl (by first | exact Or.inl rfl | exact Or.inr rfl) (e_call [] rfl c_body_size.ok (hr.mono (by omega)) (by rfl) c_body_size.g c_body_size.kp c_body_size.b passN (a_cons (e_var 3) (a_cons (e_var 0) (a_cons (e_cb (loc_len) (pe_callB call_len (by rfl) T.z_len rfl (a_cons (e_var 1) a_nil))) (a_cons e_int a_nil))))) (by show 4 ∉ ([] : List Nat); decide) (by show 4 < 5; decide))
  (s_one (s_if (t_w (w_or (t_cmp op_isN loc_is (e_var 4) e_non) (w_or1 (t_cmp op_gt loc_gt (e_op op_addAll loc_add (e_var 4) e_int) (e_gint (by rfl) T.g_MOST_PLACES))))) (s_one (s_ret (e_tup (a_cons e_str (a_cons (e_var 2) a_nil))))) s_nil))))
  (s_one (s_ret e_non)))))⟩
abbrev s_Book___init__ : Stmt := inClass (top 37) 0
theorem sc_Book___init__ : FnScope ["self", "cells", "routines", "part"] ["self", "cells", "routines"] (defScope s_Book___init__) := ⟨rfl, rfl, rfl, by decide +kernel, rfl, by decide +kernel, by decide +kernel⟩
def b_Book___init__ (f_wrong_part : List O → Rr) : MS := (msSeq (msSet 3 (mCall [] 2 f_wrong_part (mCons [] (mVar 1) (mCons [] (mVar 2) mNil))))
  (msSeq (msIf (mTest (m2 (gIs true) [] (mVar 3) (mC .non))) msBad msNil)
  (msSeq (msSetAttr [0] [] [0] "cells" (mVar 1) (mVar 0))
  (msSetAttr [0] [] [0] "routines" (mVar 2) (mVar 0)))))
theorem ok_Book___init__ {f : Addr} {fd : FuncData} {k : Nat} (T : Txt w K mg cl aS eS nS) {f_wrong_part : List O → Rr} {a_wrong_part : Addr} {d_wrong_part : FuncData} {k_wrong_part : Nat} (l_wrong_part : k_wrong_part ≤ k) (c_wrong_part : CalF P w K mg base k_wrong_part "wrong_part" ["cells", "routines"] (spG K cl 2 f_wrong_part) a_wrong_part d_wrong_part) (F : Fun K "__init__" "Book.__init__" s_Book___init__ f fd) : FnOk P w K mg base CX0 (k + 1) f fd ["self", "cells", "routines"] (spG K cl 3 (runDef [0] 1 (b_Book___init__ f_wrong_part))) :=
  fn_def2 F sc_Book___init__ (by decide) fun cdv A outer s H E F0 H0 io vs hr => ⟨_, (s_cons (s_set 3 sc_Book___init__.nd rfl (by first | exact Or.inl rfl | exact Or.inr rfl) (e_call [] rfl c_wrong_part.ok (hr.mono (by omega)) (by rfl) c_wrong_part.g c_wrong_part.kp c_wrong_part.b passN (a_cons (e_var 1) (a_cons (e_var 2) a_nil))) (by show 3 ∉ ([0] : List Nat); decide) (by show 3 < 4; decide))
  (s_cons (s_if (t_cmp op_notN loc_isNot (e_var 3) e_non) (s_one s_bad) s_nil)
  (s_cons (s_setAttr [0] (cs := [0]) rfl (all1 T.n_Book_cells) (ps_fld (e_var 0) (e_var 1) rfl))
  (s_one (s_setAttr [0] (cs := [0]) rfl (all1 T.n_Book_routines) (ps_fld (e_var 0) (e_var 2) rfl))))))⟩
abbrev s_Layout_ways_at : Stmt := inClass (top 38) 3
theorem sc_Layout_ways_at : FnScope ["self", "place"] ["self", "place"] (defScope s_Layout_ways_at) := ⟨rfl, rfl, rfl, by decide +kernel, rfl, by decide +kernel, by decide +kernel⟩
def b_Layout_ways_at : MS := (msSeq (msIf (mTest (m2 gEq [] (m2 gIx [] (m1 (gAttr [1] "doings") (mVar 0)) (mVar 1)) (mC (.str "end")))) (msRet (mC (.int 0))) msNil)
  (msRet (mIf (mTest (m2 (gIn false) [] (m2 gIx [] (m2 gIx [] (m1 (gAttr [1] "doings") (mVar 0)) (mVar 1)) (mC (.int 0))) (mN gTup (mCons [] (mC (.str "less")) (mCons [] (mC (.str "same")) mNil))))) (mC (.int 2)) (mC (.int 1)))))
theorem ok_Layout_ways_at {f : Addr} {fd : FuncData} {k : Nat} (T : Txt w K mg cl aS eS nS)  (F : Fun K "ways_at" "Layout.ways_at" s_Layout_ways_at f fd) : FnOk P w K mg base CX0 (k + 1) f fd ["self", "place"] (spG K cl 2 (runDef [] 0 (b_Layout_ways_at))) :=
  fn_def2 F sc_Layout_ways_at (by decide) fun cdv A outer s H E F0 H0 io vs hr => ⟨_, (s_cons (s_if (t_cmp (op_eqD hr.units) (loc_eq) (e_ix ix_seq (loc_ix) (e_attr (cs := [1]) rfl (all1 T.n_Layout_doings) (e_var 0) rfl) (e_var 1) (fun _ _ => rfl)) (e_gstr (by rfl) T.g_END)) (s_one (s_ret e_int)) s_nil)
  (s_one (s_ret (e_if (t_cmp op_in_seq (loc_in) (e_ix ix_seq (loc_ix) (e_ix ix_seq (loc_ix) (e_attr (cs := [1]) rfl (all1 T.n_Layout_doings) (e_var 0) rfl) (e_var 1) (fun _ _ => rfl)) e_int (fun _ _ => rfl)) (e_tup (a_cons (e_gstr (by rfl) T.g_LESS) (a_cons (e_gstr (by rfl) T.g_SAME) a_nil)))) e_int e_int))))⟩
abbrev s_Layout_head_of : Stmt := inClass (top 38) 4
theorem sc_Layout_head_of : FnScope ["self", "arrow", "place", "some"] ["self", "arrow"] (defScope s_Layout_head_of) := ⟨rfl, rfl, rfl, by decide +kernel, rfl, by decide +kernel, by decide +kernel⟩
def e1_Layout_head_of : MT := (mTest (m2 (gInD false) [] (mVar 1) (mVar 3)))
def e2_Layout_head_of : ME := (mVar 2)
def b_Layout_head_of : MS := (msRet (m2 gIx [] (mLc [2, 3, 2, 3] [2, 3] (setTup [2, 3]) (iEnumM (mCons [] (m1 (gAttr [1] "comers") (mVar 0)) mNil)) (e1_Layout_head_of) (e2_Layout_head_of)) (mC (.int 0))))
theorem ok_Layout_head_of {f : Addr} {fd : FuncData} {k : Nat} (T : Txt w K mg cl aS eS nS)  (F : Fun K "head_of" "Layout.head_of" s_Layout_head_of f fd) : FnOk P w K mg base CX0 (k + 1) f fd ["self", "arrow"] (spG K cl 2 (runDef [] 2 (b_Layout_head_of))) :=
  fn_def2 F sc_Layout_head_of (by decide) fun cdv A outer s H E F0 H0 io vs hr => ⟨_, (s_one (s_ret (e_ix ix_seq (loc_ix) (e_lc (vs := [2, 3]) (tg_tup (is := [2, 3]) (n := 2) rfl (by show ∀ i ∈ ([2, 3] : List Nat), i < 4 ∧ i ∉ ([] : List Nat); decide)) (by decide) (by show ∀ i ∈ ([2, 3] : List Nat), i ∉ ([] : List Nat); decide) (pe_lc (own := [("place", 2), ("some", 3)]) rfl sc_Layout_head_of.nd (i_enum rfl (pi_enumG (by rfl) T.z_enumerate (a_cons (e_attr (cs := [1]) rfl (all1 T.n_Layout_comers) (e_var 0) rfl) a_nil))) (blkOk_by (N := ["self", "arrow", "place", "some"]) (sc := defScope s_Layout_head_of) (by decide +kernel)) (fun _ _ _ _ _ => (pg_tup rfl (pgs_cons (pg_name (i := 2) sc_Layout_head_of.nd rfl (by first | exact Or.inl rfl | exact Or.inr rfl)) (pgs_cons (pg_name (i := 3) sc_Layout_head_of.nd rfl (by first | exact Or.inl rfl | exact Or.inr rfl)) pgs_nil)))) (fun _ _ _ _ _ => (ts_one (t_cmp (op_inD (units65 hr)) (loc_inD) (e_var 1) (e_var 3)))) (fun _ _ _ _ _ => (e_var 2)))) e_int (fun _ _ => rfl))))⟩
abbrev s_Layout_place_for : Stmt := inClass (top 38) 1
theorem sc_Layout_place_for : FnScope ["self", "doing"] ["self", "doing"] (defScope s_Layout_place_for) := ⟨rfl, rfl, rfl, by decide +kernel, rfl, by decide +kernel, by decide +kernel⟩
def b_Layout_place_for : MS := (msSeq (msExpr (mAppend [0] [] (m1 (gAttr [1] "doings") (mVar 0)) (mVar 1)))
  (msSeq (msExpr (mAppend [0] [] (m1 (gAttr [1] "comers") (mVar 0)) (mStl (mN gLst mNil))))
  (msRet (m2 (gI fun i j => .int (i - j)) [] (mN gLen (mCons [] (m1 (gAttr [1] "doings") (mVar 0)) mNil)) (mC (.int 1))))))
theorem ok_Layout_place_for {f : Addr} {fd : FuncData} {k : Nat} (T : Txt w K mg cl aS eS nS)  (F : Fun K "place_for" "Layout.place_for" s_Layout_place_for f fd) : FnOk P w K mg base CX0 (k + 1) f fd ["self", "doing"] (spG K cl 2 (runDef [0] 0 (b_Layout_place_for))) :=
  fn_def2 F sc_Layout_place_for (by decide) fun cdv A outer s H E F0 H0 io vs hr => ⟨_, (s_cons (s_expr (e_append [0] rfl (pe_bm PySem.F.plainAttrs_list PySem.F.slot_list_append PySem.F.type_list_append mt_append (e_attr (cs := [1]) rfl (all1 T.n_Layout_doings) (e_var 0) rfl) (a_one (e_var 1)))))
  (s_cons (s_expr (e_append [0] rfl (pe_bm PySem.F.plainAttrs_list PySem.F.slot_list_append PySem.F.type_list_append mt_append (e_attr (cs := [1]) rfl (all1 T.n_Layout_comers) (e_var 0) rfl) (a_one (e_stl (e_lst a_nil))))))
  (s_one (s_ret (e_op op_sub loc_sub (e_cb (loc_len) (pe_callB call_len (by rfl) T.z_len rfl (a_cons (e_attr (cs := [1]) rfl (all1 T.n_Layout_doings) (e_var 0) rfl) a_nil))) e_int)))))⟩
abbrev s_Layout_lay : Stmt := inClass (top 38) 2
theorem sc_Layout_lay : FnScope ["self", "body", "came", "statement", "word", "place", "first", "second"] ["self", "body", "came"] (defScope s_Layout_lay) := ⟨rfl, rfl, rfl, by decide +kernel, rfl, by decide +kernel, by decide +kernel⟩
def e1_Layout_lay (f_Layout_place_for : List O → Rr) (f_Layout_lay : List O → Rr) : MS := (msSeq (msSet 4 (m2 gIx [] (mVar 3) (mC (.int 0))))
  (msIf (mTest (m2 gEq [] (mVar 4) (mC (.str "while")))) (msSeq (msSet 5 (mMeth [0] [] 1 "place_for" 2 f_Layout_place_for (mSlot 0) (mCons [] (m2 gIx [] (mVar 3) (mC (.int 1))) mNil)))
  (msSeq (msSetIx [0] [] [] (mStl (mN gLst (mCons [0] (mVar 2) (mCons [] (mStl (mMeth [0] [] 1 "lay" 3 f_Layout_lay (mSlot 0) (mCons [] (m2 gIx [] (mVar 3) (mC (.int 2))) (mCons [] (mN gTup (mCons [] (mVar 5) (mCons [] (mC (.int 0)) mNil))) mNil)))) mNil)))) (m1 (gAttr [1] "comers") (mVar 0)) (mVar 5))
  (msSet 2 (mN gTup (mCons [] (mVar 5) (mCons [] (mC (.int 1)) mNil)))))) (msIf (mTest (m2 gEq [] (mVar 4) (mC (.str "if")))) (msSeq (msSet 5 (mMeth [0] [] 1 "place_for" 2 f_Layout_place_for (mSlot 0) (mCons [] (m2 gIx [] (mVar 3) (mC (.int 1))) mNil)))
  (msSeq (msSetIx [0] [] [] (mStl (mN gLst (mCons [] (mVar 2) mNil))) (m1 (gAttr [1] "comers") (mVar 0)) (mVar 5))
  (msSeq (msSet 6 (mMeth [0] [] 1 "lay" 3 f_Layout_lay (mSlot 0) (mCons [] (m2 gIx [] (mVar 3) (mC (.int 2))) (mCons [] (mN gTup (mCons [] (mVar 5) (mCons [] (mC (.int 0)) mNil))) mNil))))
  (msSeq (msSet 7 (mMeth [0] [] 1 "lay" 3 f_Layout_lay (mSlot 0) (mCons [] (m2 gIx [] (mVar 3) (mC (.int 3))) (mCons [] (mN gTup (mCons [] (mVar 5) (mCons [] (mC (.int 1)) mNil))) mNil))))
  (msSeq (msSet 5 (mMeth [0] [] 1 "place_for" 2 f_Layout_place_for (mSlot 0) (mCons [] (mC (.str "join")) mNil)))
  (msSeq (msSetIx [0] [] [] (mStl (mN gLst (mCons [] (mVar 7) (mCons [] (mVar 6) mNil)))) (m1 (gAttr [1] "comers") (mVar 0)) (mVar 5))
  (msSet 2 (mN gTup (mCons [] (mVar 5) (mCons [] (mC (.int 0)) mNil)))))))))) (msSeq (msSet 5 (mMeth [0] [] 1 "place_for" 2 f_Layout_place_for (mSlot 0) (mCons [] (mVar 3) mNil)))
  (msSeq (msSetIx [0] [] [] (mStl (mN gLst (mCons [] (mVar 2) mNil))) (m1 (gAttr [1] "comers") (mVar 0)) (mVar 5))
  (msSet 2 (mN gTup (mCons [] (mVar 5) (mCons [] (mC (.int 0)) mNil)))))))))
def b_Layout_lay (f_Layout_place_for : List O → Rr) (f_Layout_lay : List O → Rr) : MS := (msSeq (msFor [3, 4, 0, 5, 0, 0, 2, 0, 5, 0, 0, 6, 0, 7, 0, 5, 0, 2, 0, 5, 0, 2] (setT [3]) (iSeq true (mVar 1)) (e1_Layout_lay f_Layout_place_for f_Layout_lay))
  (msRet (mVar 2)))
theorem ok_Layout_lay {f : Addr} {fd : FuncData} {k : Nat} (T : Txt w K mg cl aS eS nS) {f_Layout_place_for : List O → Rr} {a_Layout_place_for : Addr} {d_Layout_place_for : FuncData} {k_Layout_place_for : Nat} (l_Layout_place_for : k_Layout_place_for ≤ k) (c_Layout_place_for : CalM P w K mg base k_Layout_place_for (cl 1) "place_for" ["self", "doing"] (spG K cl 2 f_Layout_place_for) a_Layout_place_for d_Layout_place_for) {f_Layout_lay : List O → Rr} {a_Layout_lay : Addr} {d_Layout_lay : FuncData} {k_Layout_lay : Nat} (l_Layout_lay : k_Layout_lay ≤ k) (c_Layout_lay : CalM P w K mg base k_Layout_lay (cl 1) "lay" ["self", "body", "came"] (spG K cl 3 f_Layout_lay) a_Layout_lay d_Layout_lay) (F : Fun K "lay" "Layout.lay" s_Layout_lay f fd) : FnOk P w K mg base CX0 (k + 1) f fd ["self", "body", "came"] (spG K cl 3 (runDef [0] 5 (b_Layout_lay f_Layout_place_for f_Layout_lay))) :=
  fn_def2 F sc_Layout_lay (by decide) fun cdv A outer s H E F0 H0 io vs hr => ⟨_, (s_cons (s_for PassesOwn.never rfl (tg_name (by show 3 < 8; decide) (by show 3 ∉ ([0] : List Nat); decide)) (i_tup rfl (e_var 1)) (pg_name (i := 3) sc_Layout_lay.nd rfl (by first | exact Or.inl rfl | exact Or.inr rfl)) (s_cons (s_set 4 sc_Layout_lay.nd rfl (by first | exact Or.inl rfl | exact Or.inr rfl) (e_ix ix_seq (loc_ix) (e_var 3) e_int (fun _ _ => rfl)) (by show 4 ∉ ([0] : List Nat); decide) (by show 4 < 8; decide))
  (s_one (s_if (t_cmp (op_eqD hr.units) (loc_eq) (e_var 4) (e_gstr (by rfl) T.g_WHILE)) (s_cons (s_set 5 sc_Layout_lay.nd rfl (by first | exact Or.inl rfl | exact Or.inr rfl) (e_mth [0] 1 c_Layout_place_for.c c_Layout_place_for.m c_Layout_place_for.ok (hr.mono (by omega)) c_Layout_place_for.b passN (e_slot 0) (a_cons (e_ix ix_seq (loc_ix) (e_var 3) e_int (fun _ _ => rfl)) a_nil)) (by show 5 ∉ ([0] : List Nat); decide) (by show 5 < 8; decide))
  (s_cons (s_setIx [0] (ps_asg (e_stl (e_lst (a_cons (e_var 2) (a_cons (e_stl (e_mth [0] 1 c_Layout_lay.c c_Layout_lay.m c_Layout_lay.ok (hr.mono (by omega)) c_Layout_lay.b passN (e_slot 0) (a_cons (e_ix ix_seq (loc_ix) (e_var 3) e_int (fun _ _ => rfl)) (a_cons (e_tup (a_cons (e_var 5) (a_cons (e_gint (by rfl) T.g_YES) a_nil))) a_nil)))) a_nil)))) (pg_sub (e_attr (cs := [1]) rfl (all1 T.n_Layout_comers) (e_var 0) rfl) (e_var 5) set_list)))
  (s_one (s_set 2 sc_Layout_lay.nd rfl (by first | exact Or.inl rfl | exact Or.inr rfl) (e_tup (a_cons (e_var 5) (a_cons (e_gint (by rfl) T.g_NO) a_nil))) (by show 2 ∉ ([0] : List Nat); decide) (by show 2 < 8; decide))))) (s_one (s_if (t_cmp (op_eqD hr.units) (loc_eq) (e_var 4) (e_gstr (by rfl) T.g_IF)) (s_cons (s_set 5 sc_Layout_lay.nd rfl (by first | exact Or.inl rfl | exact Or.inr rfl) (e_mth [0] 1 c_Layout_place_for.c c_Layout_place_for.m c_Layout_place_for.ok (hr.mono (by omega)) c_Layout_place_for.b passN (e_slot 0) (a_cons (e_ix ix_seq (loc_ix) (e_var 3) e_int (fun _ _ => rfl)) a_nil)) (by show 5 ∉ ([0] : List Nat); decide) (by show 5 < 8; decide))
  (s_cons (s_setIx [0] (ps_asg (e_stl (e_lst (a_cons (e_var 2) a_nil))) (pg_sub (e_attr (cs := [1]) rfl (all1 T.n_Layout_comers) (e_var 0) rfl) (e_var 5) set_list)))
  (s_cons (s_set 6 sc_Layout_lay.nd rfl (by first | exact Or.inl rfl | exact Or.inr rfl) (e_mth [0] 1 c_Layout_lay.c c_Layout_lay.m c_Layout_lay.ok (hr.mono (by omega)) c_Layout_lay.b passN (e_slot 0) (a_cons (e_ix ix_seq (loc_ix) (e_var 3) e_int (fun _ _ => rfl)) (a_cons (e_tup (a_cons (e_var 5) (a_cons (e_gint (by rfl) T.g_YES) a_nil))) a_nil))) (by show 6 ∉ ([0] : List Nat); decide) (by show 6 < 8; decide))
  (s_cons (s_set 7 sc_Layout_lay.nd rfl (by first | exact Or.inl rfl | exact Or.inr rfl) (e_mth [0] 1 c_Layout_lay.c c_Layout_lay.m c_Layout_lay.ok (hr.mono (by omega)) c_Layout_lay.b passN (e_slot 0) (a_cons (e_ix ix_seq (loc_ix) (e_var 3) e_int (fun _ _ => rfl)) (a_cons (e_tup (a_cons (e_var 5) (a_cons (e_gint (by rfl) T.g_NO) a_nil))) a_nil))) (by show 7 ∉ ([0] : List Nat); decide) (by show 7 < 8; decide))
  (s_cons (s_set 5 sc_Layout_lay.nd rfl (by first | exact Or.inl rfl | exact Or.inr rfl) (e_mth [0] 1 c_Layout_place_for.c c_Layout_place_for.m c_Layout_place_for.ok (hr.mono (by omega)) c_Layout_place_for.b passN (e_slot 0) (a_cons (e_gstr (by rfl) T.g_JOIN) a_nil)) (by show 5 ∉ ([0] : List Nat); decide) (by show 5 < 8; decide))
  (s_cons (s_setIx [0] (ps_asg (e_stl (e_lst (a_cons (e_var 7) (a_cons (e_var 6) a_nil)))) (pg_sub (e_attr (cs := [1]) rfl (all1 T.n_Layout_comers) (e_var 0) rfl) (e_var 5) set_list)))
  (s_one (s_set 2 sc_Layout_lay.nd rfl (by first | exact Or.inl rfl | exact Or.inr rfl) (e_tup (a_cons (e_var 5) (a_cons (e_gint (by rfl) T.g_YES) a_nil))) (by show 2 ∉ ([0] : List Nat); decide) (by show 2 < 8; decide))))))))) (s_cons (s_set 5 sc_Layout_lay.nd rfl (by first | exact Or.inl rfl | exact Or.inr rfl) (e_mth [0] 1 c_Layout_place_for.c c_Layout_place_for.m c_Layout_place_for.ok (hr.mono (by omega)) c_Layout_place_for.b passN (e_slot 0) (a_cons (e_var 3) a_nil)) (by show 5 ∉ ([0] : List Nat); decide) (by show 5 < 8; decide))
  (s_cons (s_setIx [0] (ps_asg (e_stl (e_lst (a_cons (e_var 2) a_nil))) (pg_sub (e_attr (cs := [1]) rfl (all1 T.n_Layout_comers) (e_var 0) rfl) (e_var 5) set_list)))
  (s_one (s_set 2 sc_Layout_lay.nd rfl (by first | exact Or.inl rfl | exact Or.inr rfl) (e_tup (a_cons (e_var 5) (a_cons (e_gint (by rfl) T.g_YES) a_nil))) (by show 2 ∉ ([0] : List Nat); decide) (by show 2 < 8; decide)))))))))))
  (s_one (s_ret (e_var 2))))⟩
abbrev s_Layout___init__ : Stmt := inClass (top 38) 0
theorem sc_Layout___init__ : FnScope ["self", "body", "last", "place", "way"] ["self", "body"] (defScope s_Layout___init__) := ⟨rfl, rfl, rfl, by decide +kernel, rfl, by decide +kernel, by decide +kernel⟩
def e1_Layout___init__ (f_Layout_lay : List O → Rr) (f_Layout_ways_at : List O → Rr) (f_Layout_head_of : List O → Rr) : MS := (msSeq (msExpr (mAppend [0] [] (m2 gIx [] (m1 (gAttr [1] "goers") (mVar 0)) (mVar 3)) (mN gLen (mCons [] (m1 (gAttr [1] "arrow_pairs") (mVar 0)) mNil))))
  (msExpr (mAppend [0] [] (m1 (gAttr [1] "arrow_pairs") (mVar 0)) (mN gTup (mCons [] (mVar 3) (mCons [] (mStl (mMethR [] 1 "head_of" 2 f_Layout_head_of (mVar 0) (mCons [] (mN gTup (mCons [] (mVar 3) (mCons [] (mVar 4) mNil))) mNil))) mNil))))))
def e2_Layout___init__ (f_Layout_lay : List O → Rr) (f_Layout_ways_at : List O → Rr) (f_Layout_head_of : List O → Rr) : MS := (msSeq (msExpr (mAppend [0] [] (m1 (gAttr [1] "goers") (mVar 0)) (mN gLst mNil)))
  (msFor [4, 0, 0] (setT [4]) (iRg1 (mCons [] (mMethR [] 1 "ways_at" 2 f_Layout_ways_at (mVar 0) (mCons [] (mVar 3) mNil)) mNil)) (e1_Layout___init__ f_Layout_lay f_Layout_ways_at f_Layout_head_of)))
def b_Layout___init__ (f_Layout_lay : List O → Rr) (f_Layout_ways_at : List O → Rr) (f_Layout_head_of : List O → Rr) : MS := (msSeq (msSetAttr [0] [] [1] "doings" (mN gLst (mCons [] (mC (.str "begin")) mNil)) (mVar 0))
  (msSeq (msSetAttr [0] [] [1] "comers" (mN gLst (mCons [] (mStl (mN gLst mNil)) mNil)) (mVar 0))
  (msSeq (msSet 2 (mMeth [0] [] 1 "lay" 3 f_Layout_lay (mSlot 0) (mCons [] (mVar 1) (mCons [] (mN gTup (mCons [] (mC (.int 0)) (mCons [] (mC (.int 0)) mNil))) mNil))))
  (msSeq (msExpr (mAppend [0] [] (m1 (gAttr [1] "doings") (mVar 0)) (mC (.str "end"))))
  (msSeq (msExpr (mAppend [0] [] (m1 (gAttr [1] "comers") (mVar 0)) (mStl (mN gLst (mCons [] (mVar 2) mNil)))))
  (msSeq (msSetAttr [0] [] [1] "goers" (mN gLst mNil) (mVar 0))
  (msSeq (msSetAttr [0] [] [1] "arrow_pairs" (mN gLst mNil) (mVar 0))
  (msFor [3, 0, 4, 0, 0] (setT [3]) (iRg1 (mCons [] (mN gLen (mCons [] (m1 (gAttr [1] "doings") (mVar 0)) mNil)) mNil)) (e2_Layout___init__ f_Layout_lay f_Layout_ways_at f_Layout_head_of)))))))))
theorem ok_Layout___init__ {f : Addr} {fd : FuncData} {k : Nat} (T : Txt w K mg cl aS eS nS) {f_Layout_lay : List O → Rr} {a_Layout_lay : Addr} {d_Layout_lay : FuncData} {k_Layout_lay : Nat} (l_Layout_lay : k_Layout_lay ≤ k) (c_Layout_lay : CalM P w K mg base k_Layout_lay (cl 1) "lay" ["self", "body", "came"] (spG K cl 3 f_Layout_lay) a_Layout_lay d_Layout_lay) {f_Layout_ways_at : List O → Rr} {a_Layout_ways_at : Addr} {d_Layout_ways_at : FuncData} {k_Layout_ways_at : Nat} (l_Layout_ways_at : k_Layout_ways_at ≤ k) (c_Layout_ways_at : CalM P w K mg base k_Layout_ways_at (cl 1) "ways_at" ["self", "place"] (spG K cl 2 f_Layout_ways_at) a_Layout_ways_at d_Layout_ways_at) {f_Layout_head_of : List O → Rr} {a_Layout_head_of : Addr} {d_Layout_head_of : FuncData} {k_Layout_head_of : Nat} (l_Layout_head_of : k_Layout_head_of ≤ k) (c_Layout_head_of : CalM P w K mg base k_Layout_head_of (cl 1) "head_of" ["self", "arrow"] (spG K cl 2 f_Layout_head_of) a_Layout_head_of d_Layout_head_of) (F : Fun K "__init__" "Layout.__init__" s_Layout___init__ f fd) : FnOk P w K mg base CX0 (k + 1) f fd ["self", "body"] (spG K cl 2 (runDef [0] 3 (b_Layout___init__ f_Layout_lay f_Layout_ways_at f_Layout_head_of))) :=
  fn_def2 F sc_Layout___init__ (by decide) fun cdv A outer s H E F0 H0 io vs hr => ⟨_, (s_cons (s_setAttr [0] (cs := [1]) rfl (all1 T.n_Layout_doings) (ps_fld (e_var 0) (e_lst (a_cons (e_gstr (by rfl) T.g_BEGIN) a_nil)) rfl))
  (s_cons (s_setAttr [0] (cs := [1]) rfl (all1 T.n_Layout_comers) (ps_fld (e_var 0) (e_lst (a_cons (e_stl (e_lst a_nil)) a_nil)) rfl))
  (s_cons (s_set 2 sc_Layout___init__.nd rfl (by first | exact Or.inl rfl | exact Or.inr rfl) (e_mth [0] 1 c_Layout_lay.c c_Layout_lay.m c_Layout_lay.ok (hr.mono (by omega)) c_Layout_lay.b passN (e_slot 0) (a_cons (e_var 1) (a_cons (e_tup (a_cons e_int (a_cons (e_gint (by rfl) T.g_YES) a_nil))) a_nil))) (by show 2 ∉ ([0] : List Nat); decide) (by show 2 < 5; decide))
  (s_cons (s_expr (e_append [0] rfl (pe_bm PySem.F.plainAttrs_list PySem.F.slot_list_append PySem.F.type_list_append mt_append (e_attr (cs := [1]) rfl (all1 T.n_Layout_doings) (e_var 0) rfl) (a_one (e_gstr (by rfl) T.g_END)))))
  (s_cons (s_expr (e_append [0] rfl (pe_bm PySem.F.plainAttrs_list PySem.F.slot_list_append PySem.F.type_list_append mt_append (e_attr (cs := [1]) rfl (all1 T.n_Layout_comers) (e_var 0) rfl) (a_one (e_stl (e_lst (a_cons (e_var 2) a_nil)))))))
  (s_cons (s_setAttr [0] (cs := [1]) rfl (all1 T.n_Layout_goers) (ps_fld (e_var 0) (e_lst a_nil) rfl))
  (s_cons (s_setAttr [0] (cs := [1]) rfl (all1 T.n_Layout_arrow_pairs) (ps_fld (e_var 0) (e_lst a_nil) rfl))
  (s_one (s_for PassesOwn.never rfl (tg_name (by show 3 < 5; decide) (by show 3 ∉ ([0] : List Nat); decide)) (i_rg1 (pi_range1 (by rfl) T.z_range (a_cons (e_cb (loc_len) (pe_callB call_len (by rfl) T.z_len rfl (a_cons (e_attr (cs := [1]) rfl (all1 T.n_Layout_doings) (e_var 0) rfl) a_nil))) a_nil))) (pg_name (i := 3) sc_Layout___init__.nd rfl (by first | exact Or.inl rfl | exact Or.inr rfl)) (s_cons (s_expr (e_append [0] rfl (pe_bm PySem.F.plainAttrs_list PySem.F.slot_list_append PySem.F.type_list_append mt_append (e_attr (cs := [1]) rfl (all1 T.n_Layout_goers) (e_var 0) rfl) (a_one (e_lst a_nil)))))
  (s_one (s_for PassesOwn.never rfl (tg_name (by show 4 < 5; decide) (by show 4 ∉ ([0] : List Nat); decide)) (i_rg1 (pi_range1 (by rfl) T.z_range (a_cons (e_mthR 1 c_Layout_ways_at.c c_Layout_ways_at.m c_Layout_ways_at.ok (hr.mono (by omega)) c_Layout_ways_at.b passN (e_var 0) (a_cons (e_var 3) a_nil)) a_nil))) (pg_name (i := 4) sc_Layout___init__.nd rfl (by first | exact Or.inl rfl | exact Or.inr rfl)) (s_cons (s_expr (e_append [0] rfl (pe_bm PySem.F.plainAttrs_list PySem.F.slot_list_append PySem.F.type_list_append mt_append (e_ix ix_seq (loc_ix) (e_attr (cs := [1]) rfl (all1 T.n_Layout_goers) (e_var 0) rfl) (e_var 3) (fun _ _ => rfl)) (a_one (e_cb (loc_len) (pe_callB call_len (by rfl) T.z_len rfl (a_cons (e_attr (cs := [1]) rfl (all1 T.n_Layout_arrow_pairs) (e_var 0) rfl) a_nil)))))))
  (s_one (s_expr (e_append [0] rfl (pe_bm PySem.F.plainAttrs_list PySem.F.slot_list_append PySem.F.type_list_append mt_append (e_attr (cs := [1]) rfl (all1 T.n_Layout_arrow_pairs) (e_var 0) rfl) (a_one (e_tup (a_cons (e_var 3) (a_cons (e_stl (e_mthR 1 c_Layout_head_of.c c_Layout_head_of.m c_Layout_head_of.ok (hr.mono (by omega)) c_Layout_head_of.b passN (e_var 0) (a_cons (e_tup (a_cons (e_var 3) (a_cons (e_var 4) a_nil))) a_nil))) a_nil)))))))))))))))))))))⟩
abbrev s_layout_of : Stmt := top 39
theorem sc_layout_of : FnScope ["book", "routine"] ["book", "routine"] (defScope s_layout_of) := ⟨rfl, rfl, rfl, by decide +kernel, rfl, by decide +kernel, by decide +kernel⟩
def b_layout_of (f_is_within : List O → Rr) (f_Layout___init__ : List O → Rr) : MS := (msSeq (msIf (tmNot (mTest (mCall [] 3 f_is_within (mCons [] (mVar 1) (mCons [] (mC (.int 0)) (mCons [] (m2 (gI fun i j => .int (i - j)) [] (mN gLen (mCons [] (m1 (gAttr [0] "routines") (mVar 0)) mNil)) (mC (.int 1))) mNil)))))) msBad msNil)
  (msRet (mMake [] 1 2 f_Layout___init__ (mCons [] (m2 gIx [] (m1 (gAttr [0] "routines") (mVar 0)) (mVar 1)) mNil))))
theorem ok_layout_of {f : Addr} {fd : FuncData} {k : Nat} (T : Txt w K mg cl aS eS nS) {f_is_within : List O → Rr} {a_is_within : Addr} {d_is_within : FuncData} {k_is_within : Nat} (l_is_within : k_is_within ≤ k) (c_is_within : CalF P w K mg base k_is_within "is_within" ["thing", "least", "most"] (spG K cl 3 f_is_within) a_is_within d_is_within) {f_Layout___init__ : List O → Rr} {a_Layout___init__ : Addr} {d_Layout___init__ : FuncData} {k_Layout___init__ : Nat} (l_Layout___init__ : k_Layout___init__ + 1 ≤ k) (c_Layout___init__ : CalI P w K mg base k_Layout___init__ (cl 1) "Layout" ["self", "body"] (spG K cl 2 f_Layout___init__) a_Layout___init__ d_Layout___init__) (F : Fun K "layout_of" "layout_of" s_layout_of f fd) : FnOk P w K mg base CX0 (k + 1) f fd ["book", "routine"] (spG K cl 2 (runDef [] 0 (b_layout_of f_is_within f_Layout___init__))) :=
  fn_def2 F sc_layout_of (by decide) fun cdv A outer s H E F0 H0 io vs hr => ⟨_, (s_cons (s_if (t_not (t_val (e_call [] rfl c_is_within.ok (hr.mono (by omega)) (by rfl) c_is_within.g c_is_within.kp c_is_within.b passN (a_cons (e_var 1) (a_cons e_int (a_cons (e_op op_sub loc_sub (e_cb (loc_len) (pe_callB call_len (by rfl) T.z_len rfl (a_cons (e_attr (cs := [0]) rfl (all1 T.n_Book_routines) (e_var 0) rfl) a_nil))) e_int) a_nil)))))) (s_one s_bad) s_nil)
  (s_one (s_ret (e_make [] 1 c_Layout___init__.made c_Layout___init__.ok (hr.mono (by omega)) (by rfl) c_Layout___init__.g c_Layout___init__.b passN (a_cons (e_ix ix_seq (loc_ix) (e_attr (cs := [0]) rfl (all1 T.n_Book_routines) (e_var 0) rfl) (e_var 1) (fun _ _ => rfl)) a_nil)))))⟩
abbrev s_value_of : Stmt := top 40
theorem sc_value_of : FnScope ["total", "values", "many", "value"] ["total", "values"] (defScope s_value_of) := ⟨rfl, rfl, rfl, by decide +kernel, rfl, by decide +kernel, by decide +kernel⟩
def e1_value_of : ME := (m2 gMul [] (mVar 2) (mVar 3))
def b_value_of : MS := (msRet (m2 gAdd [2, 3, 2, 3] (m2 gIx [] (mVar 0) (m1 gNeg (mC (.int 1)))) (mN gSum (mCons [] (mLc [2, 3, 2, 3] [2, 3] (setTup [2, 3]) (iZipM (mCons [] (mVar 0) (mCons [] (mVar 1) mNil))) mYes (e1_value_of)) mNil))))
theorem ok_value_of {f : Addr} {fd : FuncData} {k : Nat} (T : Txt w K mg cl aS eS nS)  (F : Fun K "value_of" "value_of" s_value_of f fd) : FnOk P w K mg base CX0 (k + 1) f fd ["total", "values"] (spG K cl 2 (runDef [] 2 (b_value_of))) :=
  fn_def2 F sc_value_of (by decide) fun cdv A outer s H E F0 H0 io vs hr => ⟨_, (s_one (s_ret (e_op op_addAll loc_add (e_ix ix_seq (loc_ix) (e_var 0) (e_un un_neg loc_neg e_int) (fun _ _ => rfl)) (e_cb (loc_sum) (pe_callB (cr_sum rfl) (by rfl) T.z_sum rfl (a_cons (e_lc (vs := [2, 3]) (tg_tup (is := [2, 3]) (n := 2) rfl (by show ∀ i ∈ ([2, 3] : List Nat), i < 4 ∧ i ∉ ([] : List Nat); decide)) (by decide) (by show ∀ i ∈ ([2, 3] : List Nat), i ∉ ([] : List Nat); decide) (pe_lc (own := [("many", 2), ("value", 3)]) rfl sc_value_of.nd (i_zip rfl (pi_zipG (by rfl) T.z_zip (a_cons (e_var 0) (a_cons (e_var 1) a_nil)))) (blkOk_by (N := ["total", "values", "many", "value"]) (sc := defScope s_value_of) (by decide +kernel)) (fun _ _ _ _ _ => (pg_tup rfl (pgs_cons (pg_name (i := 2) sc_value_of.nd rfl (by first | exact Or.inl rfl | exact Or.inr rfl)) (pgs_cons (pg_name (i := 3) sc_value_of.nd rfl (by first | exact Or.inl rfl | exact Or.inr rfl)) pgs_nil)))) (fun _ _ _ _ _ => ts_nil) (fun _ _ _ _ _ => (e_op op_mulAll (loc_mul) (e_var 2) (e_var 3))))) a_nil))))))⟩
abbrev s_holds : Stmt := top 41
theorem sc_holds : FnScope ["test", "values", "first", "second"] ["test", "values"] (defScope s_holds) := ⟨rfl, rfl, rfl, by decide +kernel, rfl, by decide +kernel, by decide +kernel⟩
def b_holds (f_value_of : List O → Rr) : MS := (msSeq (msPar [2, 3] (mCons [] (mCall [] 2 f_value_of (mCons [] (m2 gIx [] (mVar 0) (mC (.int 1))) (mCons [] (mVar 1) mNil))) (mCons [] (mCall [] 2 f_value_of (mCons [] (m2 gIx [] (mVar 0) (mC (.int 2))) (mCons [] (mVar 1) mNil))) mNil)))
  (msRet (mIf (mTest (m2 gEq [] (m2 gIx [] (mVar 0) (mC (.int 0))) (mC (.str "less")))) (m2 (gI fun i j => .bl (decide (i < j))) [] (mVar 2) (mVar 3)) (m2 gEq [] (mVar 2) (mVar 3)))))
theorem ok_holds {f : Addr} {fd : FuncData} {k : Nat} (T : Txt w K mg cl aS eS nS) {f_value_of : List O → Rr} {a_value_of : Addr} {d_value_of : FuncData} {k_value_of : Nat} (l_value_of : k_value_of ≤ k) (c_value_of : CalF P w K mg base k_value_of "value_of" ["total", "values"] (spG K cl 2 f_value_of) a_value_of d_value_of) (F : Fun K "holds" "holds" s_holds f fd) : FnOk P w K mg base CX0 (k + 1) f fd ["test", "values"] (spG K cl 2 (runDef [] 2 (b_holds f_value_of))) :=
  fn_def2 F sc_holds (by decide) fun cdv A outer s H E F0 H0 io vs hr => ⟨_, (s_cons (s_par2 (by show ∀ i ∈ ([2, 3] : List Nat), i < 4 ∧ i ∉ ([] : List Nat); decide) (ps_par rfl sc_holds.nd rfl rfl (by decide) rfl rfl (d_cons (e_call [] rfl c_value_of.ok (hr.mono (by omega)) (by rfl) c_value_of.g c_value_of.kp c_value_of.b passN (a_cons (e_ix ix_seq (loc_ix) (e_var 0) e_int (fun _ _ => rfl)) (a_cons (e_var 1) a_nil))) (d_cons (e_call [] rfl c_value_of.ok (hr.mono (by omega)) (by rfl) c_value_of.g c_value_of.kp c_value_of.b passN (a_cons (e_ix ix_seq (loc_ix) (e_var 0) e_int (fun _ _ => rfl)) (a_cons (e_var 1) a_nil))) d_nil)) (by with_unfolding_all rfl)))
  (s_one (s_ret (e_if (t_cmp (op_eqD hr.units) (loc_eq) (e_ix ix_seq (loc_ix) (e_var 0) e_int (fun _ _ => rfl)) (e_gstr (by rfl) T.g_LESS)) (e_cmp op_lt loc_lt (e_var 2) (e_var 3)) (e_cmp (op_eqD hr.units) (loc_eq) (e_var 2) (e_var 3))))))⟩
abbrev s_are_contents : Stmt := top 42
theorem sc_are_contents : FnScope ["book", "thing", "value"] ["book", "thing"] (defScope s_are_contents) := ⟨rfl, rfl, rfl, by decide +kernel, rfl, by decide +kernel, by decide +kernel⟩
def e1_are_contents (f_is_integer : List O → Rr) : ME := (mStl (mCall [] 1 f_is_integer (mCons [] (mVar 2) mNil)))
def b_are_contents (f_is_integer : List O → Rr) : MS := (msRet (mAnd (mN gIsi (mCons [] (mVar 1) (mCons [] (mC (.ty "tuple")) mNil))) (mAnd (m2 gEq [] (mN gLen (mCons [] (mVar 1) mNil)) (m1 (gAttr [0] "cells") (mVar 0))) (mN gAll (mCons [] (mLc [2, 2] [2] (setT [2]) (iSeq true (mVar 1)) mYes (e1_are_contents f_is_integer)) mNil)))))
theorem ok_are_contents {f : Addr} {fd : FuncData} {k : Nat} (T : Txt w K mg cl aS eS nS) {f_is_integer : List O → Rr} {a_is_integer : Addr} {d_is_integer : FuncData} {k_is_integer : Nat} (l_is_integer : k_is_integer ≤ k) (c_is_integer : CalF P w K mg base k_is_integer "is_integer" ["thing"] (spG K cl 1 f_is_integer) a_is_integer d_is_integer) (F : Fun K "are_contents" "are_contents" s_are_contents f fd) : FnOk P w K mg base CX0 (k + 1) f fd ["book", "thing"] (spG K cl 2 (runDef [] 1 (b_are_contents f_is_integer))) :=
  fn_def2 F sc_are_contents (by decide) fun cdv A outer s H E F0 H0 io vs hr => ⟨_, (s_one (s_ret (e_and (e_cb (loc_isi) (pe_callB call_isi (by rfl) T.z_isinstance rfl (a_cons (e_var 1) (a_cons (e_ty (by rfl) T.z_tuple rfl) a_nil)))) (e_and (e_cmp (op_eqD hr.units) (loc_eq) (e_cb (loc_len) (pe_callB call_len (by rfl) T.z_len rfl (a_cons (e_var 1) a_nil))) (e_attr (cs := [0]) rfl (all1 T.n_Book_cells) (e_var 0) rfl)) (e_one (e_cb (loc_all) (pe_callB (cr_all rfl) (by rfl) T.z_all rfl (a_cons (e_lc (vs := [2]) (tg_name (by show 2 < 3; decide) (by show 2 ∉ ([] : List Nat); decide)) (by decide) (by show ∀ i ∈ ([2] : List Nat), i ∉ ([] : List Nat); decide) (pe_lc (own := [("value", 2)]) rfl sc_are_contents.nd (i_tup rfl (e_var 1)) (blkOk_by (N := ["book", "thing", "value"]) (sc := defScope s_are_contents) (by decide +kernel)) (fun _ _ _ _ _ => (pg_name (i := 2) sc_are_contents.nd rfl (by first | exact Or.inl rfl | exact Or.inr rfl))) (fun _ _ _ _ _ => ts_nil) (fun _ _ _ _ _ => (e_stl (e_call [] rfl c_is_integer.ok (hr.mono (by omega)) (by rfl) c_is_integer.g c_is_integer.kp c_is_integer.b passN (a_cons (e_var 2) a_nil)))))) a_nil))))))))⟩
abbrev s_Moment___init__ : Stmt := inClass (top 50) 0
theorem sc_Moment___init__ : FnScope ["self", "frames", "amounts", "saids", "along"] ["self", "frames", "amounts", "saids", "along"] (defScope s_Moment___init__) := ⟨rfl, rfl, rfl, by decide +kernel, rfl, by decide +kernel, by decide +kernel⟩
def b_Moment___init__ : MS := (msSeq (msSetAttr [0] [] [2] "frames" (mVar 1) (mVar 0))
  (msSeq (msSetAttr [0] [] [2] "amounts" (mVar 2) (mVar 0))
  (msSeq (msSetAttr [0] [] [2] "saids" (mVar 3) (mVar 0))
  (msSetAttr [0] [] [2] "along" (mVar 4) (mVar 0)))))
theorem ok_Moment___init__ {f : Addr} {fd : FuncData} {k : Nat} (T : Txt w K mg cl aS eS nS)  (F : Fun K "__init__" "Moment.__init__" s_Moment___init__ f fd) : FnOk P w K mg base CX0 (k + 1) f fd ["self", "frames", "amounts", "saids", "along"] (spG K cl 5 (runDef [0] 0 (b_Moment___init__))) :=
  fn_def2 F sc_Moment___init__ (by decide) fun cdv A outer s H E F0 H0 io vs hr => ⟨_, (s_cons (s_setAttr [0] (cs := [2]) rfl (all1 T.n_Moment_frames) (ps_fld (e_var 0) (e_var 1) rfl))
  (s_cons (s_setAttr [0] (cs := [2]) rfl (all1 T.n_Moment_amounts) (ps_fld (e_var 0) (e_var 2) rfl))
  (s_cons (s_setAttr [0] (cs := [2]) rfl (all1 T.n_Moment_saids) (ps_fld (e_var 0) (e_var 3) rfl))
  (s_one (s_setAttr [0] (cs := [2]) rfl (all1 T.n_Moment_along) (ps_fld (e_var 0) (e_var 4) rfl))))))⟩
abbrev s_Runner___init__ : Stmt := inClass (top 51) 0
theorem sc_Runner___init__ : FnScope ["self", "book", "begins", "routine"] ["self", "book", "begins"] (defScope s_Runner___init__) := ⟨rfl, rfl, rfl, by decide +kernel, rfl, by decide +kernel, by decide +kernel⟩
def e1_Runner___init__ (f_are_contents : List O → Rr) (f_layout_of : List O → Rr) (f_Moment___init__ : List O → Rr) : ME := (mStl (mCall [] 2 f_layout_of (mCons [] (mVar 1) (mCons [] (mVar 3) mNil))))
def b_Runner___init__ (f_are_contents : List O → Rr) (f_layout_of : List O → Rr) (f_Moment___init__ : List O → Rr) : MS := (msSeq (msIf (tmNot (mTest (mCall [] 2 f_are_contents (mCons [] (mVar 1) (mCons [] (mVar 2) mNil))))) msBad msNil)
  (msSeq (msSetAttr [0] [] [3] "book" (mVar 1) (mVar 0))
  (msSeq (msSetAttr [0] [] [3] "layouts" (mLc [3, 3] [3] (setT [3]) (iRg1 (mCons [] (mN gLen (mCons [] (m1 (gAttr [0] "routines") (mVar 1)) mNil)) mNil)) mYes (e1_Runner___init__ f_are_contents f_layout_of f_Moment___init__)) (mVar 0))
  (msSeq (msSetAttr [0] [] [3] "moments" (mN gLst (mCons [] (mStl (mMake [] 2 5 f_Moment___init__ (mCons [] (mN gTup (mCons [] (mN gTup (mCons [] (mC (.int 0)) (mCons [] (mC (.int 0)) mNil))) mNil)) (mCons [] (mVar 2) (mCons [] (mC (.int 0)) (mCons [] (mC .non) mNil)))))) mNil)) (mVar 0))
  (msSeq (msSetAttr [0] [] [3] "told" (mN gLst mNil) (mVar 0))
  (msSetAttr [0] [] [3] "stops" mDT0 (mVar 0)))))))
theorem ok_Runner___init__ {f : Addr} {fd : FuncData} {k : Nat} (T : Txt w K mg cl aS eS nS) {f_are_contents : List O → Rr} {a_are_contents : Addr} {d_are_contents : FuncData} {k_are_contents : Nat} (l_are_contents : k_are_contents ≤ k) (c_are_contents : CalF P w K mg base k_are_contents "are_contents" ["book", "thing"] (spG K cl 2 f_are_contents) a_are_contents d_are_contents) {f_layout_of : List O → Rr} {a_layout_of : Addr} {d_layout_of : FuncData} {k_layout_of : Nat} (l_layout_of : k_layout_of ≤ k) (c_layout_of : CalF P w K mg base k_layout_of "layout_of" ["book", "routine"] (spG K cl 2 f_layout_of) a_layout_of d_layout_of) {f_Moment___init__ : List O → Rr} {a_Moment___init__ : Addr} {d_Moment___init__ : FuncData} {k_Moment___init__ : Nat} (l_Moment___init__ : k_Moment___init__ + 1 ≤ k) (c_Moment___init__ : CalI P w K mg base k_Moment___init__ (cl 2) "Moment" ["self", "frames", "amounts", "saids", "along"] (spG K cl 5 f_Moment___init__) a_Moment___init__ d_Moment___init__) (F : Fun K "__init__" "Runner.__init__" s_Runner___init__ f fd) : FnOk P w K mg base CX0 (k + 1) f fd ["self", "book", "begins"] (spG K cl 3 (runDef [0] 1 (b_Runner___init__ f_are_contents f_layout_of f_Moment___init__))) :=
  fn_def2 F sc_Runner___init__ (by decide) fun cdv A outer s H E F0 H0 io vs hr => ⟨_, (s_cons (s_if (t_not (t_val (e_call [] rfl c_are_contents.ok (hr.mono (by omega)) (by rfl) c_are_contents.g c_are_contents.kp c_are_contents.b passN (a_cons (e_var 1) (a_cons (e_var 2) a_nil))))) (s_one s_bad) s_nil)
  (s_cons (s_setAttr [0] (cs := [3]) rfl (all1 T.n_Runner_book) (ps_fld (e_var 0) (e_var 1) rfl))
  (s_cons (s_setAttr [0] (cs := [3]) rfl (all1 T.n_Runner_layouts) (ps_fld (e_var 0) (e_lc (vs := [3]) (tg_name (by show 3 < 4; decide) (by show 3 ∉ ([0] : List Nat); decide)) (by decide) (by show ∀ i ∈ ([3] : List Nat), i ∉ ([0] : List Nat); decide) (pe_lc (own := [("routine", 3)]) rfl sc_Runner___init__.nd (i_rg1 (pi_range1 (by rfl) T.z_range (a_cons (e_cb (loc_len) (pe_callB call_len (by rfl) T.z_len rfl (a_cons (e_attr (cs := [0]) rfl (all1 T.n_Book_routines) (e_var 1) rfl) a_nil))) a_nil))) (blkOk_by (N := ["self", "book", "begins", "routine"]) (sc := defScope s_Runner___init__) (by decide +kernel)) (fun _ _ _ _ _ => (pg_name (i := 3) sc_Runner___init__.nd rfl (by first | exact Or.inl rfl | exact Or.inr rfl))) (fun _ _ _ _ _ => ts_nil) (fun _ _ _ _ _ => (e_stl (e_call [] rfl c_layout_of.ok (hr.mono (by omega)) (by rfl) c_layout_of.g c_layout_of.kp c_layout_of.b passN (a_cons (e_var 1) (a_cons (e_var 3) a_nil))))))) rfl))
  (s_cons (s_setAttr [0] (cs := [3]) rfl (all1 T.n_Runner_moments) (ps_fld (e_var 0) (e_lst (a_cons (e_stl (e_make [] 2 c_Moment___init__.made c_Moment___init__.ok (hr.mono (by omega)) (by rfl) c_Moment___init__.g c_Moment___init__.b passN (a_cons (e_tup (a_cons (e_tup (a_cons e_int (a_cons e_int a_nil))) a_nil)) (a_cons (e_var 2) (a_cons e_int (a_cons e_non a_nil)))))) a_nil)) rfl))
  (s_cons (s_setAttr [0] (cs := [3]) rfl (all1 T.n_Runner_told) (ps_fld (e_var 0) (e_lst a_nil) rfl))
  (s_one (s_setAttr [0] (cs := [3]) rfl (all1 T.n_Runner_stops) (ps_fld (e_var 0) e_dt0 rfl))))))))⟩
abbrev s_Runner_now : Stmt := inClass (top 51) 1
theorem sc_Runner_now : FnScope ["self"] ["self"] (defScope s_Runner_now) := ⟨rfl, rfl, rfl, by decide +kernel, rfl, by decide +kernel, by decide +kernel⟩
def b_Runner_now : MS := (msRet (m2 gIx [] (m1 (gAttr [3] "moments") (mVar 0)) (m1 gNeg (mC (.int 1)))))
theorem ok_Runner_now {f : Addr} {fd : FuncData} {k : Nat} (T : Txt w K mg cl aS eS nS)  (F : Fun K "now" "Runner.now" s_Runner_now f fd) : FnOk P w K mg base CX0 (k + 1) f fd ["self"] (spG K cl 1 (runDef [0] 0 (b_Runner_now))) :=
  fn_def2 F sc_Runner_now (by decide) fun cdv A outer s H E F0 H0 io vs hr => ⟨_, (s_one (s_ret (e_ix ix_seq (loc_ix) (e_attr (cs := [3]) rfl (all1 T.n_Runner_moments) (e_var 0) rfl) (e_un un_neg loc_neg e_int) (fun _ _ => rfl))))⟩
abbrev s_Runner_deed_now : Stmt := inClass (top 51) 2
theorem sc_Runner_deed_now : FnScope ["self", "routine", "place"] ["self"] (defScope s_Runner_deed_now) := ⟨rfl, rfl, rfl, by decide +kernel, rfl, by decide +kernel, by decide +kernel⟩
def b_Runner_deed_now (f_Runner_now : List O → Rr) : MS := (msSeq (msAsgT (setTup [1, 2]) (m2 gIx [] (m1 (gAttr [2] "frames") (mMeth [0] [] 3 "now" 1 f_Runner_now (mSlot 0) mNil)) (m1 gNeg (mC (.int 1)))))
  (msRet (m2 gIx [] (m1 (gAttr [1] "doings") (m2 gIx [] (m1 (gAttr [3] "layouts") (mVar 0)) (mVar 1))) (mVar 2))))
theorem ok_Runner_deed_now {f : Addr} {fd : FuncData} {k : Nat} (T : Txt w K mg cl aS eS nS) {f_Runner_now : List O → Rr} {a_Runner_now : Addr} {d_Runner_now : FuncData} {k_Runner_now : Nat} (l_Runner_now : k_Runner_now ≤ k) (c_Runner_now : CalM P w K mg base k_Runner_now (cl 3) "now" ["self"] (spG K cl 1 f_Runner_now) a_Runner_now d_Runner_now) (F : Fun K "deed_now" "Runner.deed_now" s_Runner_deed_now f fd) : FnOk P w K mg base CX0 (k + 1) f fd ["self"] (spG K cl 1 (runDef [0] 2 (b_Runner_deed_now f_Runner_now))) :=
  fn_def2 F sc_Runner_deed_now (by decide) fun cdv A outer s H E F0 H0 io vs hr => ⟨_, (s_cons (s_asgT (tg_tup (is := [1, 2]) (n := 2) rfl (by show ∀ i ∈ ([1, 2] : List Nat), i < 3 ∧ i ∉ ([0] : List Nat); decide)) (ps_asg (e_ix ix_seq (loc_ix) (e_attr (cs := [2]) rfl (all1 T.n_Moment_frames) (e_mth0 [0] 3 c_Runner_now.c c_Runner_now.m c_Runner_now.ok (hr.mono (by omega)) c_Runner_now.b passN (e_slot 0)) rfl) (e_un un_neg loc_neg e_int) (fun _ _ => rfl)) (pg_tup rfl (pgs_cons (pg_name (i := 1) sc_Runner_deed_now.nd rfl (by first | exact Or.inl rfl | exact Or.inr rfl)) (pgs_cons (pg_name (i := 2) sc_Runner_deed_now.nd rfl (by first | exact Or.inl rfl | exact Or.inr rfl)) pgs_nil)))))
  (s_one (s_ret (e_ix ix_seq (loc_ix) (e_attr (cs := [1]) rfl (all1 T.n_Layout_doings) (e_ix ix_seq (loc_ix) (e_attr (cs := [3]) rfl (all1 T.n_Runner_layouts) (e_var 0) rfl) (e_var 1) (fun _ _ => rfl)) rfl) (e_var 2) (fun _ _ => rfl)))))⟩
abbrev s_Runner_word : Stmt := inClass (top 51) 3
theorem sc_Runner_word : FnScope ["self", "frames"] ["self"] (defScope s_Runner_word) := ⟨rfl, rfl, rfl, by decide +kernel, rfl, by decide +kernel, by decide +kernel⟩
def b_Runner_word (f_Runner_now : List O → Rr) (f_Runner_deed_now : List O → Rr) : MS := (msSeq (msSet 1 (m1 (gAttr [2] "frames") (mMeth [0] [] 3 "now" 1 f_Runner_now (mSlot 0) mNil)))
  (msSeq (msIf (mTest (m2 gEq [] (mN gLen (mCons [] (mVar 1) mNil)) (mC (.int 0)))) (msRet (mC (.str "over"))) msNil)
  (msRet (mIf (tmAnd (mTest (m2 gEq [] (mN gLen (mCons [] (mVar 1) mNil)) (mC (.int 20)))) (mTest (m2 gEq [] (m2 gIx [] (mMeth [0] [] 3 "deed_now" 1 f_Runner_deed_now (mSlot 0) mNil) (mC (.int 0))) (mC (.str "call"))))) (mC (.str "fault")) (mC (.str "runs"))))))
theorem ok_Runner_word {f : Addr} {fd : FuncData} {k : Nat} (T : Txt w K mg cl aS eS nS) {f_Runner_now : List O → Rr} {a_Runner_now : Addr} {d_Runner_now : FuncData} {k_Runner_now : Nat} (l_Runner_now : k_Runner_now ≤ k) (c_Runner_now : CalM P w K mg base k_Runner_now (cl 3) "now" ["self"] (spG K cl 1 f_Runner_now) a_Runner_now d_Runner_now) {f_Runner_deed_now : List O → Rr} {a_Runner_deed_now : Addr} {d_Runner_deed_now : FuncData} {k_Runner_deed_now : Nat} (l_Runner_deed_now : k_Runner_deed_now ≤ k) (c_Runner_deed_now : CalM P w K mg base k_Runner_deed_now (cl 3) "deed_now" ["self"] (spG K cl 1 f_Runner_deed_now) a_Runner_deed_now d_Runner_deed_now) (F : Fun K "word" "Runner.word" s_Runner_word f fd) : FnOk P w K mg base CX0 (k + 1) f fd ["self"] (spG K cl 1 (runDef [0] 1 (b_Runner_word f_Runner_now f_Runner_deed_now))) :=
  fn_def2 F sc_Runner_word (by decide) fun cdv A outer s H E F0 H0 io vs hr => ⟨_, (s_cons (s_set 1 sc_Runner_word.nd rfl (by first | exact Or.inl rfl | exact Or.inr rfl) (e_attr (cs := [2]) rfl (all1 T.n_Moment_frames) (e_mth0 [0] 3 c_Runner_now.c c_Runner_now.m c_Runner_now.ok (hr.mono (by omega)) c_Runner_now.b passN (e_slot 0)) rfl) (by show 1 ∉ ([0] : List Nat); decide) (by show 1 < 2; decide))
  (s_cons (s_if (t_cmp (op_eqD hr.units) (loc_eq) (e_cb (loc_len) (pe_callB call_len (by rfl) T.z_len rfl (a_cons (e_var 1) a_nil))) e_int) (s_one (s_ret (e_gstr (by rfl) T.g_OVER))) s_nil)
  (s_one (s_ret (e_if (t_w (w_and (t_cmp (op_eqD hr.units) (loc_eq) (e_cb (loc_len) (pe_callB call_len (by rfl) T.z_len rfl (a_cons (e_var 1) a_nil))) (e_gint (by rfl) T.g_MOST_OPEN)) (w_and1 (t_cmp (op_eqD hr.units) (loc_eq) (e_ix ix_seq (loc_ix) (e_mth0 [0] 3 c_Runner_deed_now.c c_Runner_deed_now.m c_Runner_deed_now.ok (hr.mono (by omega)) c_Runner_deed_now.b passN (e_slot 0)) e_int (fun _ _ => rfl)) (e_gstr (by rfl) T.g_CALL))))) (e_gstr (by rfl) T.g_FAULT) (e_gstr (by rfl) T.g_RUNS))))))⟩
abbrev s_Runner_contents : Stmt := inClass (top 51) 5
theorem sc_Runner_contents : FnScope ["self"] ["self"] (defScope s_Runner_contents) := ⟨rfl, rfl, rfl, by decide +kernel, rfl, by decide +kernel, by decide +kernel⟩
def b_Runner_contents (f_Runner_now : List O → Rr) : MS := (msRet (m1 (gAttr [2] "amounts") (mMeth [0] [] 3 "now" 1 f_Runner_now (mSlot 0) mNil)))
theorem ok_Runner_contents {f : Addr} {fd : FuncData} {k : Nat} (T : Txt w K mg cl aS eS nS) {f_Runner_now : List O → Rr} {a_Runner_now : Addr} {d_Runner_now : FuncData} {k_Runner_now : Nat} (l_Runner_now : k_Runner_now ≤ k) (c_Runner_now : CalM P w K mg base k_Runner_now (cl 3) "now" ["self"] (spG K cl 1 f_Runner_now) a_Runner_now d_Runner_now) (F : Fun K "contents" "Runner.contents" s_Runner_contents f fd) : FnOk P w K mg base CX0 (k + 1) f fd ["self"] (spG K cl 1 (runDef [0] 0 (b_Runner_contents f_Runner_now))) :=
  fn_def2 F sc_Runner_contents (by decide) fun cdv A outer s H E F0 H0 io vs hr => ⟨_, (s_one (s_ret (e_attr (cs := [2]) rfl (all1 T.n_Moment_amounts) (e_mth0 [0] 3 c_Runner_now.c c_Runner_now.m c_Runner_now.ok (hr.mono (by omega)) c_Runner_now.b passN (e_slot 0)) rfl)))⟩
abbrev s_Runner_said : Stmt := inClass (top 51) 6
theorem sc_Runner_said : FnScope ["self"] ["self"] (defScope s_Runner_said) := ⟨rfl, rfl, rfl, by decide +kernel, rfl, by decide +kernel, by decide +kernel⟩
def b_Runner_said : MS := (msRet (mN gTupleOf (mCons [] (m1 (gAttr [3] "told") (mVar 0)) mNil)))
theorem ok_Runner_said {f : Addr} {fd : FuncData} {k : Nat} (T : Txt w K mg cl aS eS nS)  (F : Fun K "said" "Runner.said" s_Runner_said f fd) : FnOk P w K mg base CX0 (k + 1) f fd ["self"] (spG K cl 1 (runDef [0] 0 (b_Runner_said))) :=
  fn_def2 F sc_Runner_said (by decide) fun cdv A outer s H E F0 H0 io vs hr => ⟨_, (s_one (s_ret (e_cb (loc_tupleOf) (pe_callTy call_tuple_of (by rfl) T.z_tuple rfl (a_cons (e_attr (cs := [3]) rfl (all1 T.n_Runner_told) (e_var 0) rfl) a_nil)))))⟩
abbrev s_Runner_gone : Stmt := inClass (top 51) 7
theorem sc_Runner_gone : FnScope ["self", "frames", "way", "routine", "place", "layout", "arrow"] ["self", "frames", "way"] (defScope s_Runner_gone) := ⟨rfl, rfl, rfl, by decide +kernel, rfl, by decide +kernel, by decide +kernel⟩
def b_Runner_gone : MS := (msSeq (msAsgT (setTup [3, 4]) (m2 gIx [] (mVar 1) (m1 gNeg (mC (.int 1)))))
  (msSeq (msSet 5 (m2 gIx [] (m1 (gAttr [3] "layouts") (mVar 0)) (mVar 3)))
  (msSeq (msSet 6 (m2 gIx [] (m2 gIx [] (m1 (gAttr [1] "goers") (mVar 5)) (mVar 4)) (mVar 2)))
  (msRet (mN gTup (mCons [] (mStl (m2 gAdd [] (mSl [] (mVar 1) oNone (oSome (m1 gNeg (mC (.int 1))))) (mN gTup (mCons [] (mN gTup (mCons [] (mVar 3) (mCons [] (m2 gIx [] (m2 gIx [] (m1 (gAttr [1] "arrow_pairs") (mVar 5)) (mVar 6)) (mC (.int 1))) mNil))) mNil)))) (mCons [] (mN gTup (mCons [] (mVar 3) (mCons [] (mVar 6) mNil))) mNil)))))))
theorem ok_Runner_gone {f : Addr} {fd : FuncData} {k : Nat} (T : Txt w K mg cl aS eS nS)  (F : Fun K "gone" "Runner.gone" s_Runner_gone f fd) : FnOk P w K mg base CX0 (k + 1) f fd ["self", "frames", "way"] (spG K cl 3 (runDef [0] 4 (b_Runner_gone))) :=
  fn_def2 F sc_Runner_gone (by decide) fun cdv A outer s H E F0 H0 io vs hr => ⟨_, (s_cons (s_asgT (tg_tup (is := [3, 4]) (n := 2) rfl (by show ∀ i ∈ ([3, 4] : List Nat), i < 7 ∧ i ∉ ([0] : List Nat); decide)) (ps_asg (e_ix ix_seq (loc_ix) (e_var 1) (e_un un_neg loc_neg e_int) (fun _ _ => rfl)) (pg_tup rfl (pgs_cons (pg_name (i := 3) sc_Runner_gone.nd rfl (by first | exact Or.inl rfl | exact Or.inr rfl)) (pgs_cons (pg_name (i := 4) sc_Runner_gone.nd rfl (by first | exact Or.inl rfl | exact Or.inr rfl)) pgs_nil)))))
  (s_cons (s_set 5 sc_Runner_gone.nd rfl (by first | exact Or.inl rfl | exact Or.inr rfl) (e_ix ix_seq (loc_ix) (e_attr (cs := [3]) rfl (all1 T.n_Runner_layouts) (e_var 0) rfl) (e_var 3) (fun _ _ => rfl)) (by show 5 ∉ ([0] : List Nat); decide) (by show 5 < 7; decide))
  (s_cons (s_set 6 sc_Runner_gone.nd rfl (by first | exact Or.inl rfl | exact Or.inr rfl) (e_ix ix_seq (loc_ix) (e_ix ix_seq (loc_ix) (e_attr (cs := [1]) rfl (all1 T.n_Layout_goers) (e_var 5) rfl) (e_var 4) (fun _ _ => rfl)) (e_var 2) (fun _ _ => rfl)) (by show 6 ∉ ([0] : List Nat); decide) (by show 6 < 7; decide))
  (s_one (s_ret (e_tup (a_cons (e_stl (e_op op_addAll loc_add (e_sl rfl (e_var 1) o_none (o_some (e_un un_neg loc_neg e_int))) (e_tup (a_cons (e_tup (a_cons (e_var 3) (a_cons (e_ix ix_seq (loc_ix) (e_ix ix_seq (loc_ix) (e_attr (cs := [1]) rfl (all1 T.n_Layout_arrow_pairs) (e_var 5) rfl) (e_var 6) (fun _ _ => rfl)) e_int (fun _ _ => rfl)) a_nil))) a_nil)))) (a_cons (e_tup (a_cons (e_var 3) (a_cons (e_var 6) a_nil))) a_nil))))))))⟩
abbrev s_Runner_moved : Stmt := inClass (top 51) 8
theorem sc_Runner_moved : FnScope ["self", "values", "frames", "deed"] ["self", "values"] (defScope s_Runner_moved) := ⟨rfl, rfl, rfl, by decide +kernel, rfl, by decide +kernel, by decide +kernel⟩
def b_Runner_moved (f_Runner_now : List O → Rr) (f_Runner_deed_now : List O → Rr) (f_Runner_gone : List O → Rr) (f_holds : List O → Rr) : MS := (msSeq (msPar [2, 3] (mCons [0] (m1 (gAttr [2] "frames") (mMeth [0] [] 3 "now" 1 f_Runner_now (mSlot 0) mNil)) (mCons [] (mMeth [0] [] 3 "deed_now" 1 f_Runner_deed_now (mSlot 0) mNil) mNil)))
  (msSeq (msIf (mTest (m2 gEq [] (mVar 3) (mC (.str "end")))) (msRet (mIf (mTest (m2 (gI fun i j => .bl (decide (j < i))) [] (mN gLen (mCons [] (mVar 2) mNil)) (mC (.int 1)))) (mMeth [0] [] 3 "gone" 3 f_Runner_gone (mSlot 0) (mCons [] (mStl (mSl [] (mVar 2) oNone (oSome (m1 gNeg (mC (.int 1)))))) (mCons [] (mC (.int 0)) mNil))) (mN gTup (mCons [] (mN gTup mNil) (mCons [] (mC .non) mNil))))) msNil)
  (msSeq (msIf (mTest (m2 gEq [] (m2 gIx [] (mVar 3) (mC (.int 0))) (mC (.str "call")))) (msRet (mN gTup (mCons [] (mStl (m2 gAdd [] (mVar 2) (mN gTup (mCons [] (mN gTup (mCons [] (m2 gIx [] (mVar 3) (mC (.int 1))) (mCons [] (mC (.int 0)) mNil))) mNil)))) (mCons [] (mC .non) mNil)))) msNil)
  (msSeq (msIf (mTest (m2 (gIn false) [] (m2 gIx [] (mVar 3) (mC (.int 0))) (mN gTup (mCons [] (mC (.str "less")) (mCons [] (mC (.str "same")) mNil))))) (msRet (mMeth [0] [] 3 "gone" 3 f_Runner_gone (mSlot 0) (mCons [] (mVar 2) (mCons [] (mIf (mTest (mCall [] 2 f_holds (mCons [] (mVar 3) (mCons [] (mVar 1) mNil)))) (mC (.int 0)) (mC (.int 1))) mNil)))) msNil)
  (msRet (mMeth [0] [] 3 "gone" 3 f_Runner_gone (mSlot 0) (mCons [] (mVar 2) (mCons [] (mC (.int 0)) mNil))))))))
theorem ok_Runner_moved {f : Addr} {fd : FuncData} {k : Nat} (T : Txt w K mg cl aS eS nS) {f_Runner_now : List O → Rr} {a_Runner_now : Addr} {d_Runner_now : FuncData} {k_Runner_now : Nat} (l_Runner_now : k_Runner_now ≤ k) (c_Runner_now : CalM P w K mg base k_Runner_now (cl 3) "now" ["self"] (spG K cl 1 f_Runner_now) a_Runner_now d_Runner_now) {f_Runner_deed_now : List O → Rr} {a_Runner_deed_now : Addr} {d_Runner_deed_now : FuncData} {k_Runner_deed_now : Nat} (l_Runner_deed_now : k_Runner_deed_now ≤ k) (c_Runner_deed_now : CalM P w K mg base k_Runner_deed_now (cl 3) "deed_now" ["self"] (spG K cl 1 f_Runner_deed_now) a_Runner_deed_now d_Runner_deed_now) {f_Runner_gone : List O → Rr} {a_Runner_gone : Addr} {d_Runner_gone : FuncData} {k_Runner_gone : Nat} (l_Runner_gone : k_Runner_gone ≤ k) (c_Runner_gone : CalM P w K mg base k_Runner_gone (cl 3) "gone" ["self", "frames", "way"] (spG K cl 3 f_Runner_gone) a_Runner_gone d_Runner_gone) {f_holds : List O → Rr} {a_holds : Addr} {d_holds : FuncData} {k_holds : Nat} (l_holds : k_holds ≤ k) (c_holds : CalF P w K mg base k_holds "holds" ["test", "values"] (spG K cl 2 f_holds) a_holds d_holds) (F : Fun K "moved" "Runner.moved" s_Runner_moved f fd) : FnOk P w K mg base CX0 (k + 1) f fd ["self", "values"] (spG K cl 2 (runDef [0] 2 (b_Runner_moved f_Runner_now f_Runner_deed_now f_Runner_gone f_holds))) :=
  fn_def2 F sc_Runner_moved (by decide) fun cdv A outer s H E F0 H0 io vs hr => ⟨_, (s_cons (s_par2 (by show ∀ i ∈ ([2, 3] : List Nat), i < 4 ∧ i ∉ ([0] : List Nat); decide) (ps_par rfl sc_Runner_moved.nd rfl rfl (by decide) rfl rfl (d_cons (e_attr (cs := [2]) rfl (all1 T.n_Moment_frames) (e_mth0 [0] 3 c_Runner_now.c c_Runner_now.m c_Runner_now.ok (hr.mono (by omega)) c_Runner_now.b passN (e_slot 0)) rfl) (d_cons (e_mth0 [0] 3 c_Runner_deed_now.c c_Runner_deed_now.m c_Runner_deed_now.ok (hr.mono (by omega)) c_Runner_deed_now.b passN (e_slot 0)) d_nil)) (by with_unfolding_all rfl)))
  (s_cons (s_if (t_cmp (op_eqD hr.units) (loc_eq) (e_var 3) (e_gstr (by rfl) T.g_END)) (s_one (s_ret (e_if (t_cmp op_gt loc_gt (e_cb (loc_len) (pe_callB call_len (by rfl) T.z_len rfl (a_cons (e_var 2) a_nil))) e_int) (e_mth [0] 3 c_Runner_gone.c c_Runner_gone.m c_Runner_gone.ok (hr.mono (by omega)) c_Runner_gone.b passN (e_slot 0) (a_cons (e_stl (e_sl rfl (e_var 2) o_none (o_some (e_un un_neg loc_neg e_int)))) (a_cons (e_gint (by rfl) T.g_YES) a_nil))) (e_tup (a_cons (e_tup a_nil) (a_cons e_non a_nil)))))) s_nil)
  (s_cons (s_if (t_cmp (op_eqD hr.units) (loc_eq) (e_ix ix_seq (loc_ix) (e_var 3) e_int (fun _ _ => rfl)) (e_gstr (by rfl) T.g_CALL)) (s_one (s_ret (e_tup (a_cons (e_stl (e_op op_addAll loc_add (e_var 2) (e_tup (a_cons (e_tup (a_cons (e_ix ix_seq (loc_ix) (e_var 3) e_int (fun _ _ => rfl)) (a_cons e_int a_nil))) a_nil)))) (a_cons e_non a_nil))))) s_nil)
  (s_cons (s_if (t_cmp op_in_seq (loc_in) (e_ix ix_seq (loc_ix) (e_var 3) e_int (fun _ _ => rfl)) (e_tup (a_cons (e_gstr (by rfl) T.g_LESS) (a_cons (e_gstr (by rfl) T.g_SAME) a_nil)))) (s_one (s_ret (e_mth [0] 3 c_Runner_gone.c c_Runner_gone.m c_Runner_gone.ok (hr.mono (by omega)) c_Runner_gone.b passN (e_slot 0) (a_cons (e_var 2) (a_cons (e_if (t_val (e_call [] rfl c_holds.ok (hr.mono (by omega)) (by rfl) c_holds.g c_holds.kp c_holds.b passN (a_cons (e_var 3) (a_cons (e_var 1) a_nil)))) (e_gint (by rfl) T.g_YES) (e_gint (by rfl) T.g_NO)) a_nil))))) s_nil)
  (s_one (s_ret (e_mth [0] 3 c_Runner_gone.c c_Runner_gone.m c_Runner_gone.ok (hr.mono (by omega)) c_Runner_gone.b passN (e_slot 0) (a_cons (e_var 2) (a_cons (e_gint (by rfl) T.g_YES) a_nil)))))))))⟩
abbrev s_Runner_step : Stmt := inClass (top 51) 9
theorem sc_Runner_step : FnScope ["self", "deed", "values", "frames", "along"] ["self"] (defScope s_Runner_step) := ⟨rfl, rfl, rfl, by decide +kernel, rfl, by decide +kernel, by decide +kernel⟩
def b_Runner_step (f_Runner_word : List O → Rr) (f_Runner_deed_now : List O → Rr) (f_Runner_now : List O → Rr) (f_Runner_moved : List O → Rr) (f_value_of : List O → Rr) (f_Moment___init__ : List O → Rr) : MS := (msSeq (msIf (mTest (m2 gNe [] (mMeth [0] [] 3 "word" 1 f_Runner_word (mSlot 0) mNil) (mC (.str "runs")))) msBad msNil)
  (msSeq (msPar [1, 2] (mCons [0] (mMeth [0] [] 3 "deed_now" 1 f_Runner_deed_now (mSlot 0) mNil) (mCons [] (m1 (gAttr [2] "amounts") (mMeth [0] [] 3 "now" 1 f_Runner_now (mSlot 0) mNil)) mNil)))
  (msSeq (msAsgT (setTup [3, 4]) (mStl (mMeth [0] [] 3 "moved" 2 f_Runner_moved (mSlot 0) (mCons [] (mVar 2) mNil))))
  (msSeq (msIf (mTest (m2 gEq [] (m2 gIx [] (mVar 1) (mC (.int 0))) (mC (.str "say")))) (msExpr (mAppend [0] [] (m1 (gAttr [3] "told") (mVar 0)) (mCall [] 2 f_value_of (mCons [] (m2 gIx [] (mVar 1) (mC (.int 1))) (mCons [] (mVar 2) mNil))))) msNil)
  (msSeq (msIf (mTest (m2 gEq [] (m2 gIx [] (mVar 1) (mC (.int 0))) (mC (.str "set")))) (msSet 2 (m2 gAdd [] (m2 gAdd [] (mSl [] (mVar 2) oNone (oSome (m2 gIx [] (mVar 1) (mC (.int 1))))) (mN gTup (mCons [] (mStl (mCall [] 2 f_value_of (mCons [] (m2 gIx [] (mVar 1) (mC (.int 2))) (mCons [] (mVar 2) mNil)))) mNil))) (mSl [] (mVar 2) (oSome (m2 gAdd [] (m2 gIx [] (mVar 1) (mC (.int 1))) (mC (.int 1)))) oNone))) msNil)
  (msExpr (mAppend [0] [] (m1 (gAttr [3] "moments") (mVar 0)) (mStl (mMake [] 2 5 f_Moment___init__ (mCons [] (mVar 3) (mCons [] (mVar 2) (mCons [] (mN gLen (mCons [] (m1 (gAttr [3] "told") (mVar 0)) mNil)) (mCons [] (mVar 4) mNil)))))))))))))
theorem ok_Runner_step {f : Addr} {fd : FuncData} {k : Nat} (T : Txt w K mg cl aS eS nS) {f_Runner_word : List O → Rr} {a_Runner_word : Addr} {d_Runner_word : FuncData} {k_Runner_word : Nat} (l_Runner_word : k_Runner_word ≤ k) (c_Runner_word : CalM P w K mg base k_Runner_word (cl 3) "word" ["self"] (spG K cl 1 f_Runner_word) a_Runner_word d_Runner_word) {f_Runner_deed_now : List O → Rr} {a_Runner_deed_now : Addr} {d_Runner_deed_now : FuncData} {k_Runner_deed_now : Nat} (l_Runner_deed_now : k_Runner_deed_now ≤ k) (c_Runner_deed_now : CalM P w K mg base k_Runner_deed_now (cl 3) "deed_now" ["self"] (spG K cl 1 f_Runner_deed_now) a_Runner_deed_now d_Runner_deed_now) {f_Runner_now : List O → Rr} {a_Runner_now : Addr} {d_Runner_now : FuncData} {k_Runner_now : Nat} (l_Runner_now : k_Runner_now ≤ k) (c_Runner_now : CalM P w K mg base k_Runner_now (cl 3) "now" ["self"] (spG K cl 1 f_Runner_now) a_Runner_now d_Runner_now) {f_Runner_moved : List O → Rr} {a_Runner_moved : Addr} {d_Runner_moved : FuncData} {k_Runner_moved : Nat} (l_Runner_moved : k_Runner_moved ≤ k) (c_Runner_moved : CalM P w K mg base k_Runner_moved (cl 3) "moved" ["self", "values"] (spG K cl 2 f_Runner_moved) a_Runner_moved d_Runner_moved) {f_value_of : List O → Rr} {a_value_of : Addr} {d_value_of : FuncData} {k_value_of : Nat} (l_value_of : k_value_of ≤ k) (c_value_of : CalF P w K mg base k_value_of "value_of" ["total", "values"] (spG K cl 2 f_value_of) a_value_of d_value_of) {f_Moment___init__ : List O → Rr} {a_Moment___init__ : Addr} {d_Moment___init__ : FuncData} {k_Moment___init__ : Nat} (l_Moment___init__ : k_Moment___init__ + 1 ≤ k) (c_Moment___init__ : CalI P w K mg base k_Moment___init__ (cl 2) "Moment" ["self", "frames", "amounts", "saids", "along"] (spG K cl 5 f_Moment___init__) a_Moment___init__ d_Moment___init__) (F : Fun K "step" "Runner.step" s_Runner_step f fd) : FnOk P w K mg base CX0 (k + 1) f fd ["self"] (spG K cl 1 (runDef [0] 4 (b_Runner_step f_Runner_word f_Runner_deed_now f_Runner_now f_Runner_moved f_value_of f_Moment___init__))) :=
  fn_def2 F sc_Runner_step (by decide) fun cdv A outer s H E F0 H0 io vs hr => ⟨_, (s_cons (s_if (t_cmp (op_neD hr.units) (loc_ne) (e_mth0 [0] 3 c_Runner_word.c c_Runner_word.m c_Runner_word.ok (hr.mono (by omega)) c_Runner_word.b passN (e_slot 0)) (e_gstr (by rfl) T.g_RUNS)) (s_one s_bad) s_nil)
  (s_cons (s_par2 (by show ∀ i ∈ ([1, 2] : List Nat), i < 5 ∧ i ∉ ([0] : List Nat); decide) (ps_par rfl sc_Runner_step.nd rfl rfl (by decide) rfl rfl (d_cons (e_mth0 [0] 3 c_Runner_deed_now.c c_Runner_deed_now.m c_Runner_deed_now.ok (hr.mono (by omega)) c_Runner_deed_now.b passN (e_slot 0)) (d_cons (e_attr (cs := [2]) rfl (all1 T.n_Moment_amounts) (e_mth0 [0] 3 c_Runner_now.c c_Runner_now.m c_Runner_now.ok (hr.mono (by omega)) c_Runner_now.b passN (e_slot 0)) rfl) d_nil)) (by with_unfolding_all rfl)))
  (s_cons (s_asgT (tg_tup (is := [3, 4]) (n := 2) rfl (by show ∀ i ∈ ([3, 4] : List Nat), i < 5 ∧ i ∉ ([0] : List Nat); decide)) (ps_asg (e_stl (e_mth [0] 3 c_Runner_moved.c c_Runner_moved.m c_Runner_moved.ok (hr.mono (by omega)) c_Runner_moved.b passN (e_slot 0) (a_cons (e_var 2) a_nil))) (pg_tup rfl (pgs_cons (pg_name (i := 3) sc_Runner_step.nd rfl (by first | exact Or.inl rfl | exact Or.inr rfl)) (pgs_cons (pg_name (i := 4) sc_Runner_step.nd rfl (by first | exact Or.inl rfl | exact Or.inr rfl)) pgs_nil)))))
  (s_cons (s_if (t_cmp (op_eqD hr.units) (loc_eq) (e_ix ix_seq (loc_ix) (e_var 1) e_int (fun _ _ => rfl)) (e_gstr (by rfl) T.g_SAY)) (s_one (s_expr (e_append [0] rfl (pe_bm PySem.F.plainAttrs_list PySem.F.slot_list_append PySem.F.type_list_append mt_append (e_attr (cs := [3]) rfl (all1 T.n_Runner_told) (e_var 0) rfl) (a_one (e_call [] rfl c_value_of.ok (hr.mono (by omega)) (by rfl) c_value_of.g c_value_of.kp c_value_of.b passN (a_cons (e_ix ix_seq (loc_ix) (e_var 1) e_int (fun _ _ => rfl)) (a_cons (e_var 2) a_nil)))))))) s_nil)
  (s_cons (s_if (t_cmp (op_eqD hr.units) (loc_eq) (e_ix ix_seq (loc_ix) (e_var 1) e_int (fun _ _ => rfl)) (e_gstr (by rfl) T.g_SET)) (s_one (s_set 2 sc_Runner_step.nd rfl (by first | exact Or.inl rfl | exact Or.inr rfl) (e_op op_addAll loc_add (e_op op_addAll loc_add (e_sl rfl (e_var 2) o_none (o_some (e_ix ix_seq (loc_ix) (e_var 1) e_int (fun _ _ => rfl)))) (e_tup (a_cons (e_stl (e_call [] rfl c_value_of.ok (hr.mono (by omega)) (by rfl) c_value_of.g c_value_of.kp c_value_of.b passN (a_cons (e_ix ix_seq (loc_ix) (e_var 1) e_int (fun _ _ => rfl)) (a_cons (e_var 2) a_nil)))) a_nil))) (e_sl rfl (e_var 2) (o_some (e_op op_addAll loc_add (e_ix ix_seq (loc_ix) (e_var 1) e_int (fun _ _ => rfl)) e_int)) o_none)) (by show 2 ∉ ([0] : List Nat); decide) (by show 2 < 5; decide))) s_nil)
  (s_one (s_expr (e_append [0] rfl (pe_bm PySem.F.plainAttrs_list PySem.F.slot_list_append PySem.F.type_list_append mt_append (e_attr (cs := [3]) rfl (all1 T.n_Runner_moments) (e_var 0) rfl) (a_one (e_stl (e_make [] 2 c_Moment___init__.made c_Moment___init__.ok (hr.mono (by omega)) (by rfl) c_Moment___init__.g c_Moment___init__.b passN (a_cons (e_var 3) (a_cons (e_var 2) (a_cons (e_cb (loc_len) (pe_callB call_len (by rfl) T.z_len rfl (a_cons (e_attr (cs := [3]) rfl (all1 T.n_Runner_told) (e_var 0) rfl) a_nil))) (a_cons (e_var 4) a_nil))))))))))))))))⟩
abbrev s_Runner_is_stopped : Stmt := inClass (top 51) 16
theorem sc_Runner_is_stopped : FnScope ["self", "frames"] ["self"] (defScope s_Runner_is_stopped) := ⟨rfl, rfl, rfl, by decide +kernel, rfl, by decide +kernel, by decide +kernel⟩
def b_Runner_is_stopped (f_Runner_now : List O → Rr) : MS := (msSeq (msSet 1 (m1 (gAttr [2] "frames") (mMeth [0] [] 3 "now" 1 f_Runner_now (mSlot 0) mNil)))
  (msRet (mAnd (m2 (gI fun i j => .bl (decide (j < i))) [] (mN gLen (mCons [] (mVar 1) mNil)) (mC (.int 0))) (m2 gInDT [] (m2 gIx [] (mVar 1) (m1 gNeg (mC (.int 1)))) (m1 (gAttr [3] "stops") (mVar 0))))))
theorem ok_Runner_is_stopped {f : Addr} {fd : FuncData} {k : Nat} (T : Txt w K mg cl aS eS nS) {f_Runner_now : List O → Rr} {a_Runner_now : Addr} {d_Runner_now : FuncData} {k_Runner_now : Nat} (l_Runner_now : k_Runner_now ≤ k) (c_Runner_now : CalM P w K mg base k_Runner_now (cl 3) "now" ["self"] (spG K cl 1 f_Runner_now) a_Runner_now d_Runner_now) (F : Fun K "is_stopped" "Runner.is_stopped" s_Runner_is_stopped f fd) : FnOk P w K mg base CX0 (k + 1) f fd ["self"] (spG K cl 1 (runDef [0] 1 (b_Runner_is_stopped f_Runner_now))) :=
  fn_def2 F sc_Runner_is_stopped (by decide) fun cdv A outer s H E F0 H0 io vs hr => ⟨_, (s_cons (s_set 1 sc_Runner_is_stopped.nd rfl (by first | exact Or.inl rfl | exact Or.inr rfl) (e_attr (cs := [2]) rfl (all1 T.n_Moment_frames) (e_mth0 [0] 3 c_Runner_now.c c_Runner_now.m c_Runner_now.ok (hr.mono (by omega)) c_Runner_now.b passN (e_slot 0)) rfl) (by show 1 ∉ ([0] : List Nat); decide) (by show 1 < 2; decide))
  (s_one (s_ret (e_and (e_cmp op_gt loc_gt (e_cb (loc_len) (pe_callB call_len (by rfl) T.z_len rfl (a_cons (e_var 1) a_nil))) e_int) (e_one (e_cmp (op_inDT (units1 hr)) (loc_inDT) (e_ix ix_seq (loc_ix) (e_var 1) (e_un un_neg loc_neg e_int) (fun _ _ => rfl)) (e_attr (cs := [3]) rfl (all1 T.n_Runner_stops) (e_var 0) rfl)))))))⟩
abbrev s_Runner_go : Stmt := inClass (top 51) 17
theorem sc_Runner_go : FnScope ["self", "most", "done"] ["self", "most"] (defScope s_Runner_go) := ⟨rfl, rfl, rfl, by decide +kernel, rfl, by decide +kernel, by decide +kernel⟩
def e1_Runner_go (f_check_number : List O → Rr) (f_Runner_word : List O → Rr) (f_Runner_is_stopped : List O → Rr) (f_Runner_step : List O → Rr) : MT := (tmAnd (mTest (m2 (gI fun i j => .bl (decide (i < j))) [] (mVar 2) (mVar 1))) (tmAnd (mTest (m2 gEq [] (mMeth [0] [] 3 "word" 1 f_Runner_word (mSlot 0) mNil) (mC (.str "runs")))) (tmOr (mTest (m2 gEq [] (mVar 2) (mC (.int 0)))) (tmNot (mTest (mMeth [0] [] 3 "is_stopped" 1 f_Runner_is_stopped (mSlot 0) mNil))))))
def e2_Runner_go (f_check_number : List O → Rr) (f_Runner_word : List O → Rr) (f_Runner_is_stopped : List O → Rr) (f_Runner_step : List O → Rr) : MS := (msSeq (msExpr (mMeth [0] [] 3 "step" 1 f_Runner_step (mSlot 0) mNil))
  (msAug 2 (gI fun i j => .int (i + j)) (mC (.int 1))))
noncomputable def b_Runner_go (f_check_number : List O → Rr) (f_Runner_word : List O → Rr) (f_Runner_is_stopped : List O → Rr) (f_Runner_step : List O → Rr) : MS := (msSeq (msExpr (mCall [] 3 f_check_number (mCons [] (mVar 1) (mCons [] (mC (.int 0)) (mCons [] (mC (.int 5000)) mNil)))))
  (msSeq (msSet 2 (mC (.int 0)))
  (msSeq (msWhile (e1_Runner_go f_check_number f_Runner_word f_Runner_is_stopped f_Runner_step) (e2_Runner_go f_check_number f_Runner_word f_Runner_is_stopped f_Runner_step))
  (msRet (mVar 2)))))
theorem ok_Runner_go {f : Addr} {fd : FuncData} {k : Nat} (T : Txt w K mg cl aS eS nS) {f_check_number : List O → Rr} {a_check_number : Addr} {d_check_number : FuncData} {k_check_number : Nat} (l_check_number : k_check_number ≤ k) (c_check_number : CalF P w K mg base k_check_number "check_number" ["thing", "least", "most"] (spG K cl 3 f_check_number) a_check_number d_check_number) {f_Runner_word : List O → Rr} {a_Runner_word : Addr} {d_Runner_word : FuncData} {k_Runner_word : Nat} (l_Runner_word : k_Runner_word ≤ k) (c_Runner_word : CalM P w K mg base k_Runner_word (cl 3) "word" ["self"] (spG K cl 1 f_Runner_word) a_Runner_word d_Runner_word) {f_Runner_is_stopped : List O → Rr} {a_Runner_is_stopped : Addr} {d_Runner_is_stopped : FuncData} {k_Runner_is_stopped : Nat} (l_Runner_is_stopped : k_Runner_is_stopped ≤ k) (c_Runner_is_stopped : CalM P w K mg base k_Runner_is_stopped (cl 3) "is_stopped" ["self"] (spG K cl 1 f_Runner_is_stopped) a_Runner_is_stopped d_Runner_is_stopped) {f_Runner_step : List O → Rr} {a_Runner_step : Addr} {d_Runner_step : FuncData} {k_Runner_step : Nat} (l_Runner_step : k_Runner_step ≤ k) (c_Runner_step : CalM P w K mg base k_Runner_step (cl 3) "step" ["self"] (spG K cl 1 f_Runner_step) a_Runner_step d_Runner_step) (F : Fun K "go" "Runner.go" s_Runner_go f fd) : FnOk P w K mg base CX0 (k + 1) f fd ["self", "most"] (spG K cl 2 (runDef [0] 1 (b_Runner_go f_check_number f_Runner_word f_Runner_is_stopped f_Runner_step))) :=
  fn_def2 F sc_Runner_go (by decide) fun cdv A outer s H E F0 H0 io vs hr => ⟨_, (s_cons (s_expr (e_call [] rfl c_check_number.ok (hr.mono (by omega)) (by rfl) c_check_number.g c_check_number.kp c_check_number.b passN (a_cons (e_var 1) (a_cons e_int (a_cons (e_gint (by rfl) T.g_MOST_STEPS) a_nil)))))
  (s_cons (s_set 2 sc_Runner_go.nd rfl (by first | exact Or.inl rfl | exact Or.inr rfl) e_int (by show 2 ∉ ([0] : List Nat); decide) (by show 2 < 3; decide))
  (s_cons (s_while PassesOwn.never (t_w (w_and (t_cmp op_lt loc_lt (e_var 2) (e_var 1)) (w_and (t_cmp (op_eqD hr.units) (loc_eq) (e_mth0 [0] 3 c_Runner_word.c c_Runner_word.m c_Runner_word.ok (hr.mono (by omega)) c_Runner_word.b passN (e_slot 0)) (e_gstr (by rfl) T.g_RUNS)) (w_and1 (t_w (w_or (t_cmp (op_eqD hr.units) (loc_eq) (e_var 2) e_int) (w_or1 (t_not (t_val (e_mth0 [0] 3 c_Runner_is_stopped.c c_Runner_is_stopped.m c_Runner_is_stopped.ok (hr.mono (by omega)) c_Runner_is_stopped.b passN (e_slot 0))))))))))) (s_cons (s_expr (e_mth0 [0] 3 c_Runner_step.c c_Runner_step.m c_Runner_step.ok (hr.mono (by omega)) c_Runner_step.b passN (e_slot 0)))
  (s_one (s_aug 2 loc_ipadd (by show 2 < 3; decide) (by show 2 ∉ ([0] : List Nat); decide) (ps_aug (i := 2) sc_Runner_go.nd rfl (by first | exact Or.inl rfl | exact Or.inr rfl) e_int ip_add)))))
  (s_one (s_ret (e_var 2))))))⟩
abbrev s_ran : Stmt := top 52
theorem sc_ran : FnScope ["book", "begins", "most", "runner", "word"] ["book", "begins", "most"] (defScope s_ran) := ⟨rfl, rfl, rfl, by decide +kernel, rfl, by decide +kernel, by decide +kernel⟩
def b_ran (f_Runner___init__ : List O → Rr) (f_Runner_go : List O → Rr) (f_Runner_word : List O → Rr) (f_Runner_said : List O → Rr) (f_Runner_contents : List O → Rr) : MS := (msSeq (msSet 3 (mMake [] 3 3 f_Runner___init__ (mCons [] (mVar 0) (mCons [] (mVar 1) mNil))))
  (msSeq (msExpr (mMeth [3] [] 3 "go" 2 f_Runner_go (mSlot 3) (mCons [] (mVar 2) mNil)))
  (msSeq (msSet 4 (mMeth [3] [] 3 "word" 1 f_Runner_word (mSlot 3) mNil))
  (msRet (mN gTup (mCons [3] (mStl (mMeth [3] [] 3 "said" 1 f_Runner_said (mSlot 3) mNil)) (mCons [3] (mIf (mTest (m2 gEq [] (mVar 4) (mC (.str "runs")))) (mC (.str "on")) (mVar 4)) (mCons [] (mStl (mMeth [3] [] 3 "contents" 1 f_Runner_contents (mSlot 3) mNil)) mNil))))))))
theorem ok_ran {f : Addr} {fd : FuncData} {k : Nat} (T : Txt w K mg cl aS eS nS) {f_Runner___init__ : List O → Rr} {a_Runner___init__ : Addr} {d_Runner___init__ : FuncData} {k_Runner___init__ : Nat} (l_Runner___init__ : k_Runner___init__ + 1 ≤ k) (c_Runner___init__ : CalI P w K mg base k_Runner___init__ (cl 3) "Runner" ["self", "book", "begins"] (spG K cl 3 f_Runner___init__) a_Runner___init__ d_Runner___init__) {f_Runner_go : List O → Rr} {a_Runner_go : Addr} {d_Runner_go : FuncData} {k_Runner_go : Nat} (l_Runner_go : k_Runner_go ≤ k) (c_Runner_go : CalM P w K mg base k_Runner_go (cl 3) "go" ["self", "most"] (spG K cl 2 f_Runner_go) a_Runner_go d_Runner_go) {f_Runner_word : List O → Rr} {a_Runner_word : Addr} {d_Runner_word : FuncData} {k_Runner_word : Nat} (l_Runner_word : k_Runner_word ≤ k) (c_Runner_word : CalM P w K mg base k_Runner_word (cl 3) "word" ["self"] (spG K cl 1 f_Runner_word) a_Runner_word d_Runner_word) {f_Runner_said : List O → Rr} {a_Runner_said : Addr} {d_Runner_said : FuncData} {k_Runner_said : Nat} (l_Runner_said : k_Runner_said ≤ k) (c_Runner_said : CalM P w K mg base k_Runner_said (cl 3) "said" ["self"] (spG K cl 1 f_Runner_said) a_Runner_said d_Runner_said) {f_Runner_contents : List O → Rr} {a_Runner_contents : Addr} {d_Runner_contents : FuncData} {k_Runner_contents : Nat} (l_Runner_contents : k_Runner_contents ≤ k) (c_Runner_contents : CalM P w K mg base k_Runner_contents (cl 3) "contents" ["self"] (spG K cl 1 f_Runner_contents) a_Runner_contents d_Runner_contents) (F : Fun K "ran" "ran" s_ran f fd) : FnOk P w K mg base CX0 (k + 1) f fd ["book", "begins", "most"] (spG K cl 3 (runDef [] 2 (b_ran f_Runner___init__ f_Runner_go f_Runner_word f_Runner_said f_Runner_contents))) :=
  fn_def2 F sc_ran (by decide) fun cdv A outer s H E F0 H0 io vs hr => ⟨_, (s_cons (s_set 3 sc_ran.nd rfl (by first | exact Or.inl rfl | exact Or.inr rfl) (e_make [] 3 c_Runner___init__.made c_Runner___init__.ok (hr.mono (by omega)) (by rfl) c_Runner___init__.g c_Runner___init__.b passN (a_cons (e_var 0) (a_cons (e_var 1) a_nil))) (by show 3 ∉ ([] : List Nat); decide) (by show 3 < 5; decide))
  (s_cons (s_expr (e_mth [3] 3 c_Runner_go.c c_Runner_go.m c_Runner_go.ok (hr.mono (by omega)) c_Runner_go.b passN (e_slot 3) (a_cons (e_var 2) a_nil)))
  (s_cons (s_set 4 sc_ran.nd rfl (by first | exact Or.inl rfl | exact Or.inr rfl) (e_mth0 [3] 3 c_Runner_word.c c_Runner_word.m c_Runner_word.ok (hr.mono (by omega)) c_Runner_word.b passN (e_slot 3)) (by show 4 ∉ ([] : List Nat); decide) (by show 4 < 5; decide))
  (s_one (s_ret (e_tup (a_cons (e_stl (e_mth0 [3] 3 c_Runner_said.c c_Runner_said.m c_Runner_said.ok (hr.mono (by omega)) c_Runner_said.b passN (e_slot 3))) (a_cons (e_if (t_cmp (op_eqD hr.units) (loc_eq) (e_var 4) (e_gstr (by rfl) T.g_RUNS)) (e_gstr (by rfl) T.g_ON) (e_var 4)) (a_cons (e_stl (e_mth0 [3] 3 c_Runner_contents.c c_Runner_contents.m c_Runner_contents.ok (hr.mono (by omega)) c_Runner_contents.b passN (e_slot 3))) a_nil)))))))))⟩
abbrev s__law_hand : Stmt := top 54
theorem sc__law_hand : FnScope ["script", "cells", "cell"] ["script"] (defScope s__law_hand) := ⟨rfl, rfl, rfl, by decide +kernel, rfl, by decide +kernel, by decide +kernel⟩
def e1__law_hand : ME := (mN gAbs (mCons [] (mN gInt (mCons [] (mVar 2) mNil)) mNil))
def b__law_hand : MS := (msSeq (msSet 1 (mStl (mLc [2, 2] [2] (setT [2]) (iSeq false (mStl (mSl [] (mVar 0) oNone (oSome (mC (.int 63)))))) mYes (e1__law_hand))))
  (msRet (mN gLst (mCons [] (mVar 1) (mCons [] (mC (.int 0)) (mCons [] (mC (.int 0)) (mCons [] (mStl (m2 gAdd [] (mC (.int 1)) (mN gLen (mCons [] (mVar 1) mNil)))) (mCons [] (mC (.int 0)) mNil))))))))
theorem ok__law_hand {f : Addr} {fd : FuncData} {k : Nat} (T : Txt w K mg cl aS eS nS)  (F : Fun K "_law_hand" "_law_hand" s__law_hand f fd) : FnOk P w K mg base CX0 (k + 1) f fd ["script"] (spG K cl 1 (runDef [] 2 (b__law_hand))) :=
  fn_def2 F sc__law_hand (by decide) fun cdv A outer s H E F0 H0 io vs hr => ⟨_, (s_cons (s_setLcS (vs := [2]) (tg_name (by show 2 < 3; decide) (by show 2 ∉ ([] : List Nat); decide)) (by decide) (by show ∀ i ∈ ([2] : List Nat), i ∉ ([] : List Nat); decide) (by show 1 < 3; decide) (by show 1 ∉ ([] : List Nat); decide) (ps_setLc (i := 1) (own := [("cell", 2)]) rfl sc__law_hand.nd rfl rfl (sw_true rfl rfl rfl (by decide +kernel)) (i_list rfl (e_stl (e_sl rfl (e_var 0) o_none (o_some e_int)))) (blkOk_by (N := ["script", "cells", "cell"]) (sc := defScope s__law_hand) (by decide +kernel)) (fun _ _ _ _ _ => (pg_name (i := 2) sc__law_hand.nd rfl (by first | exact Or.inl rfl | exact Or.inr rfl))) (fun _ _ _ _ _ => ts_nil) (fun _ _ _ _ _ => (e_cb loc_abs (pe_callB call_abs (by rfl) T.z_abs rfl (a_cons (e_cb loc_int (pe_callTy call_int1 (by rfl) T.z_int rfl (a_cons (e_var 2) a_nil))) a_nil))))))
  (s_one (s_ret (e_lst (a_cons (e_var 1) (a_cons e_int (a_cons e_int (a_cons (e_stl (e_op op_addAll loc_add e_int (e_cb (loc_len) (pe_callB call_len (by rfl) T.z_len rfl (a_cons (e_var 1) a_nil))))) (a_cons e_int a_nil)))))))))⟩
abbrev s__law_draw : Stmt := top 55
theorem sc__law_draw : FnScope ["hand", "many", "cell", "digit", "number"] ["hand", "many"] (defScope s__law_draw) := ⟨rfl, rfl, rfl, by decide +kernel, rfl, by decide +kernel, by decide +kernel⟩
def b__law_draw : MS := (msSeq (msIf (tmAnd (mTest (m2 gEq [] (m2 gIx [] (mVar 0) (mC (.int 2))) (mC (.int 0)))) (mTest (m2 (gI fun i j => .bl (decide (i < j))) [] (m2 gIx [] (mVar 0) (mC (.int 1))) (mN gLen (mCons [] (m2 gIx [] (mVar 0) (mC (.int 0))) mNil))))) (msSeq (msSet 2 (m2 gIx [] (m2 gIx [] (mVar 0) (mC (.int 0))) (m2 gIx [] (mVar 0) (mC (.int 1)))))
  (msSeq (msSetIx [0] [] [] (m2 gAdd [] (m2 gIx [] (mVar 0) (mC (.int 1))) (mC (.int 1))) (mVar 0) (mC (.int 1)))
  (msSeq (msSetIx [0] [] [] (m2 (gIc cMod fun i j => .int (i % j)) [] (mN gInt (mCons [] (m2 gAdd [] (m2 gAdd [] (m2 gMul [] (m2 gIx [] (mVar 0) (mC (.int 3))) (mC (.int 69621))) (mVar 2)) (mC (.int 11))) mNil)) (mC (.int 2147483629))) (mVar 0) (mC (.int 3)))
  (msIf (mTest (m2 (gI fun i j => .bl (decide (j ≤ i))) [] (mVar 2) (m2 (gIc cPow2 fun i j => .int (i ^ j.toNat)) [] (mC (.int 10)) (mC (.int 18))))) (msSetIx [0] [] [] (mVar 2) (mVar 0) (mC (.int 2))) msNil)))) msNil)
  (msSeq (msIf (mTest (m2 (gI fun i j => .bl (decide (j < i))) [] (m2 gIx [] (mVar 0) (mC (.int 2))) (mC (.int 0)))) (msSeq (msSet 3 (m2 (gIc cMod fun i j => .int (i % j)) [] (mN gInt (mCons [] (m2 gIx [] (mVar 0) (mC (.int 2))) mNil)) (mVar 1)))
  (msSeq (msSetIx [0] [] [] (m2 (gIc cDiv fun i j => .int (i / j)) [] (m2 gIx [] (mVar 0) (mC (.int 2))) (mVar 1)) (mVar 0) (mC (.int 2)))
  (msRet (mVar 3)))) msNil)
  (msSeq (msSetIx [0] [] [] (m2 gAdd [] (m2 gIx [] (mVar 0) (mC (.int 4))) (mC (.int 1))) (mVar 0) (mC (.int 4)))
  (msSeq (msSet 4 (m2 (gIc cMod fun i j => .int (i % j)) [] (mN gInt (mCons [] (m2 gMul [] (mN gInt (mCons [] (m2 gAdd [] (m2 gIx [] (mVar 0) (mC (.int 3))) (m2 gMul [] (mC (.int 7919)) (m2 gIx [] (mVar 0) (mC (.int 4))))) mNil)) (mC (.int 48271))) mNil)) (mC (.int 2147483647))))
  (msSeq (msSet 4 (m2 (gIc cMod fun i j => .int (i % j)) [] (mN gInt (mCons [] (m2 gMul [] (mVar 4) (m2 gAdd [] (m2 (gIc cDiv fun i j => .int (i / j)) [] (mVar 4) (mC (.int 1009))) (mC (.int 69621)))) mNil)) (mC (.int 2147483647))))
  (msSeq (msSet 4 (m2 (gIc cMod fun i j => .int (i % j)) [] (mN gInt (mCons [] (m2 gMul [] (mVar 4) (m2 gAdd [] (m2 (gIc cDiv fun i j => .int (i / j)) [] (mVar 4) (mC (.int 2003))) (mC (.int 40692)))) mNil)) (mC (.int 2147483399))))
  (msRet (m2 (gIc cMod fun i j => .int (i % j)) [] (mN gInt (mCons [] (m2 (gIc cDiv fun i j => .int (i / j)) [] (mVar 4) (mC (.int 16))) mNil)) (mVar 1)))))))))
theorem ok__law_draw {f : Addr} {fd : FuncData} {k : Nat} (T : Txt w K mg cl aS eS nS)  (F : Fun K "_law_draw" "_law_draw" s__law_draw f fd) : FnOk P w K mg base CX0 (k + 1) f fd ["hand", "many"] (spG K cl 2 (runDef [0] 3 (b__law_draw))) :=
  fn_def2 F sc__law_draw (by decide) fun cdv A outer s H E F0 H0 io vs hr => ⟨_, (s_cons (s_if (t_w (w_and (t_cmp (op_eqD hr.units) (loc_eq) (e_ix ix_seq (loc_ix) (e_var 0) e_int (fun _ _ => rfl)) e_int) (w_and1 (t_cmp op_lt loc_lt (e_ix ix_seq (loc_ix) (e_var 0) e_int (fun _ _ => rfl)) (e_cb (loc_len) (pe_callB call_len (by rfl) T.z_len rfl (a_cons (e_ix ix_seq (loc_ix) (e_var 0) e_int (fun _ _ => rfl)) a_nil))))))) (s_cons (s_set 2 sc__law_draw.nd rfl (by first | exact Or.inl rfl | exact Or.inr rfl) (e_ix ix_seq (loc_ix) (e_ix ix_seq (loc_ix) (e_var 0) e_int (fun _ _ => rfl)) (e_ix ix_seq (loc_ix) (e_var 0) e_int (fun _ _ => rfl)) (fun _ _ => rfl)) (by show 2 ∉ ([0] : List Nat); decide) (by show 2 < 5; decide))
  (s_cons (s_setIx [0] (ps_asg (e_op op_addAll loc_add (e_ix ix_seq (loc_ix) (e_var 0) e_int (fun _ _ => rfl)) e_int) (pg_sub (e_var 0) e_int set_list)))
  (s_cons (s_setIx [0] (ps_asg (e_op op_mod loc_mod (e_cb loc_int (pe_callTy call_int1 (by rfl) T.z_int rfl (a_cons (e_op op_addAll loc_add (e_op op_addAll loc_add (e_op op_mulAll (loc_mul) (e_ix ix_seq (loc_ix) (e_var 0) e_int (fun _ _ => rfl)) e_int) (e_var 2)) e_int) a_nil))) e_int) (pg_sub (e_var 0) e_int set_list)))
  (s_one (s_if (t_cmp op_ge loc_ge (e_var 2) (e_op op_powW loc_powW e_int e_int)) (s_one (s_setIx [0] (ps_asg (e_var 2) (pg_sub (e_var 0) e_int set_list)))) s_nil))))) s_nil)
  (s_cons (s_if (t_cmp op_gt loc_gt (e_ix ix_seq (loc_ix) (e_var 0) e_int (fun _ _ => rfl)) e_int) (s_cons (s_set 3 sc__law_draw.nd rfl (by first | exact Or.inl rfl | exact Or.inr rfl) (e_op op_mod loc_mod (e_cb loc_int (pe_callTy call_int1 (by rfl) T.z_int rfl (a_cons (e_ix ix_seq (loc_ix) (e_var 0) e_int (fun _ _ => rfl)) a_nil))) (e_var 1)) (by show 3 ∉ ([0] : List Nat); decide) (by show 3 < 5; decide))
  (s_cons (s_setIx [0] (ps_asg (e_op op_fdiv loc_fdiv (e_ix ix_seq (loc_ix) (e_var 0) e_int (fun _ _ => rfl)) (e_var 1)) (pg_sub (e_var 0) e_int set_list)))
  (s_one (s_ret (e_var 3))))) s_nil)
  (s_cons (s_setIx [0] (ps_asg (e_op op_addAll loc_add (e_ix ix_seq (loc_ix) (e_var 0) e_int (fun _ _ => rfl)) e_int) (pg_sub (e_var 0) e_int set_list)))
  (s_cons (s_set 4 sc__law_draw.nd rfl (by first | exact Or.inl rfl | exact Or.inr rfl) (e_op op_mod loc_mod (e_cb loc_int (pe_callTy call_int1 (by rfl) T.z_int rfl (a_cons (e_op op_mulAll (loc_mul) (e_cb loc_int (pe_callTy call_int1 (by rfl) T.z_int rfl (a_cons (e_op op_addAll loc_add (e_ix ix_seq (loc_ix) (e_var 0) e_int (fun _ _ => rfl)) (e_op op_mulAll (loc_mul) e_int (e_ix ix_seq (loc_ix) (e_var 0) e_int (fun _ _ => rfl)))) a_nil))) e_int) a_nil))) e_int) (by show 4 ∉ ([0] : List Nat); decide) (by show 4 < 5; decide))
  (s_cons (s_set 4 sc__law_draw.nd rfl (by first | exact Or.inl rfl | exact Or.inr rfl) (e_op op_mod loc_mod (e_cb loc_int (pe_callTy call_int1 (by rfl) T.z_int rfl (a_cons (e_op op_mulAll (loc_mul) (e_var 4) (e_op op_addAll loc_add (e_op op_fdiv loc_fdiv (e_var 4) e_int) e_int)) a_nil))) e_int) (by show 4 ∉ ([0] : List Nat); decide) (by show 4 < 5; decide))
  (s_cons (s_set 4 sc__law_draw.nd rfl (by first | exact Or.inl rfl | exact Or.inr rfl) (e_op op_mod loc_mod (e_cb loc_int (pe_callTy call_int1 (by rfl) T.z_int rfl (a_cons (e_op op_mulAll (loc_mul) (e_var 4) (e_op op_addAll loc_add (e_op op_fdiv loc_fdiv (e_var 4) e_int) e_int)) a_nil))) e_int) (by show 4 ∉ ([0] : List Nat); decide) (by show 4 < 5; decide))
  (s_one (s_ret (e_op op_mod loc_mod (e_cb loc_int (pe_callTy call_int1 (by rfl) T.z_int rfl (a_cons (e_op op_fdiv loc_fdiv (e_var 4) e_int) a_nil))) (e_var 1))))))))))⟩
abbrev s__law_any : Stmt := top 56
theorem sc__law_any : FnScope ["hand", "items"] ["hand", "items"] (defScope s__law_any) := ⟨rfl, rfl, rfl, by decide +kernel, rfl, by decide +kernel, by decide +kernel⟩
def b__law_any (f__law_draw : List O → Rr) : MS := (msRet (m2 gIx [0] (mVar 1) (mCall [0] 2 f__law_draw (mCons [] (mSlot 0) (mCons [] (mN gLen (mCons [] (mVar 1) mNil)) mNil)))))
theorem ok__law_any {f : Addr} {fd : FuncData} {k : Nat} (T : Txt w K mg cl aS eS nS) {f__law_draw : List O → Rr} {a__law_draw : Addr} {d__law_draw : FuncData} {k__law_draw : Nat} (l__law_draw : k__law_draw ≤ k) (c__law_draw : CalF P w K mg base k__law_draw "_law_draw" ["hand", "many"] (spG K cl 2 f__law_draw) a__law_draw d__law_draw) (F : Fun K "_law_any" "_law_any" s__law_any f fd) : FnOk P w K mg base CX0 (k + 1) f fd ["hand", "items"] (spG K cl 2 (runDef [0] 0 (b__law_any f__law_draw))) :=
  fn_def2 F sc__law_any (by decide) fun cdv A outer s H E F0 H0 io vs hr => ⟨_, (s_one (s_ret (e_ix ix_seq (loc_ix) (e_var 1) (e_call [0] rfl c__law_draw.ok (hr.mono (by omega)) (by rfl) c__law_draw.g c__law_draw.kp c__law_draw.b passN (a_cons (e_slot 0) (a_cons (e_cb (loc_len) (pe_callB call_len (by rfl) T.z_len rfl (a_cons (e_var 1) a_nil))) a_nil))) (fun _ _ => rfl))))⟩
abbrev s__law_is : Stmt := top 57
theorem sc__law_is : FnScope ["told", "due", "one", "two"] ["told", "due"] (defScope s__law_is) := ⟨rfl, rfl, rfl, by decide +kernel, rfl, by decide +kernel, by decide +kernel⟩
def e1__law_is (f__law_is : List O → Rr) : ME := (mStl (mCall [] 2 f__law_is (mCons [] (mVar 2) (mCons [] (mVar 3) mNil))))
def b__law_is (f__law_is : List O → Rr) : MS := (msSeq (msIf (mTest (mIsT ["tuple", "list"] (mVar 1))) (msSeq (msIf (tmOr (mTest (m2 gNe [] (mN gIsi (mCons [] (mVar 0) (mCons [] (mC (.ty "tuple")) mNil))) (mN gIsi (mCons [] (mVar 1) (mCons [] (mC (.ty "tuple")) mNil))))) (tmNot (mTest (mIsT ["tuple", "list"] (mVar 0))))) (msRet (mC (.bl false))) msNil)
  (msRet (mAnd (m2 gEq [] (mN gLen (mCons [] (mVar 0) mNil)) (mN gLen (mCons [] (mVar 1) mNil))) (mN gAll (mCons [] (mLc [2, 3, 2, 3] [2, 3] (setTup [2, 3]) (iZipM (mCons [] (mVar 0) (mCons [] (mVar 1) mNil))) mYes (e1__law_is f__law_is)) mNil))))) msNil)
  (msRet (mAnd (m2 gEq [] (mN gIsi (mCons [] (mVar 0) (mCons [] (mC (.ty "bool")) mNil))) (mN gIsi (mCons [] (mVar 1) (mCons [] (mC (.ty "bool")) mNil)))) (m2 gEq [] (mVar 0) (mVar 1)))))
theorem ok__law_is {f : Addr} {fd : FuncData} {k : Nat} (T : Txt w K mg cl aS eS nS) {f__law_is : List O → Rr} {a__law_is : Addr} {d__law_is : FuncData} {k__law_is : Nat} (l__law_is : k__law_is ≤ k) (c__law_is : CalF P w K mg base k__law_is "_law_is" ["told", "due"] (spG K cl 2 f__law_is) a__law_is d__law_is) (F : Fun K "_law_is" "_law_is" s__law_is f fd) : FnOk P w K mg base CX0 (k + 1) f fd ["told", "due"] (spG K cl 2 (runDef [] 2 (b__law_is f__law_is))) :=
  fn_def2 F sc__law_is (by decide) fun cdv A outer s H E F0 H0 io vs hr => ⟨_, (s_cons (s_if (t_val (e_isT ["tuple", "list"] rfl (by decide) (pe_callB call_isiT (by rfl) T.z_isinstance rfl (pa_cons (e_var 1) (pa_cons (pe_tup (pa_cons (pe_bltn (by rfl) T.z_tuple rfl (v := .ty "tuple") rfl) (pa_cons (pe_bltn (by rfl) T.z_list rfl (v := .ty "list") rfl) pa_nil))) pa_nil))))) (s_cons (s_if (t_w (w_or (t_cmp (op_neD hr.units) (loc_ne) (e_cb (loc_isi) (pe_callB call_isi (by rfl) T.z_isinstance rfl (a_cons (e_var 0) (a_cons (e_ty (by rfl) T.z_tuple rfl) a_nil)))) (e_cb (loc_isi) (pe_callB call_isi (by rfl) T.z_isinstance rfl (a_cons (e_var 1) (a_cons (e_ty (by rfl) T.z_tuple rfl) a_nil))))) (w_or1 (t_not (t_val (e_isT ["tuple", "list"] rfl (by decide) (pe_callB call_isiT (by rfl) T.z_isinstance rfl (pa_cons (e_var 0) (pa_cons (pe_tup (pa_cons (pe_bltn (by rfl) T.z_tuple rfl (v := .ty "tuple") rfl) (pa_cons (pe_bltn (by rfl) T.z_list rfl (v := .ty "list") rfl) pa_nil))) pa_nil))))))))) (s_one (s_ret e_bl)) s_nil)
  (s_one (s_ret (e_and (e_cmp (op_eqD hr.units) (loc_eq) (e_cb (loc_len) (pe_callB call_len (by rfl) T.z_len rfl (a_cons (e_var 0) a_nil))) (e_cb (loc_len) (pe_callB call_len (by rfl) T.z_len rfl (a_cons (e_var 1) a_nil)))) (e_one (e_cb (loc_all) (pe_callB (cr_all rfl) (by rfl) T.z_all rfl (a_cons (e_lc (vs := [2, 3]) (tg_tup (is := [2, 3]) (n := 2) rfl (by show ∀ i ∈ ([2, 3] : List Nat), i < 4 ∧ i ∉ ([] : List Nat); decide)) (by decide) (by show ∀ i ∈ ([2, 3] : List Nat), i ∉ ([] : List Nat); decide) (pe_lc (own := [("one", 2), ("two", 3)]) rfl sc__law_is.nd (i_zip rfl (pi_zipG (by rfl) T.z_zip (a_cons (e_var 0) (a_cons (e_var 1) a_nil)))) (blkOk_by (N := ["told", "due", "one", "two"]) (sc := defScope s__law_is) (by decide +kernel)) (fun _ _ _ _ _ => (pg_tup rfl (pgs_cons (pg_name (i := 2) sc__law_is.nd rfl (by first | exact Or.inl rfl | exact Or.inr rfl)) (pgs_cons (pg_name (i := 3) sc__law_is.nd rfl (by first | exact Or.inl rfl | exact Or.inr rfl)) pgs_nil)))) (fun _ _ _ _ _ => ts_nil) (fun _ _ _ _ _ => (e_stl (e_call [] rfl c__law_is.ok (hr.mono (by omega)) (by rfl) c__law_is.g c__law_is.kp c__law_is.b passN (a_cons (e_var 2) (a_cons (e_var 3) a_nil))))))) a_nil)))))))) s_nil)
  (s_one (s_ret (e_and (e_cmp (op_eqD hr.units) (loc_eq) (e_cb (loc_isi) (pe_callB call_isi (by rfl) T.z_isinstance rfl (a_cons (e_var 0) (a_cons (e_ty (by rfl) T.z_bool rfl) a_nil)))) (e_cb (loc_isi) (pe_callB call_isi (by rfl) T.z_isinstance rfl (a_cons (e_var 1) (a_cons (e_ty (by rfl) T.z_bool rfl) a_nil))))) (e_one (e_cmp (op_eqD hr.units) (loc_eq) (e_var 0) (e_var 1)))))))⟩
abbrev s__law_sum : Stmt := top 58
theorem sc__law_sum : FnScope ["hand", "cells", "some", "cell"] ["hand", "cells"] (defScope s__law_sum) := ⟨rfl, rfl, rfl, by decide +kernel, rfl, by decide +kernel, by decide +kernel⟩
def e1__law_sum (f__law_draw : List O → Rr) (f__law_any : List O → Rr) : ME := (m2 gIx [0, 0] (mVar 2) (mCall [0] 2 f__law_draw (mCons [0] (mSlot 0) (mCons [] (mStl (mCall [0] 2 f__law_any (mCons [] (mSlot 0) (mCons [] (mStl (mN gLst (mCons [] (mC (.int 3)) (mCons [] (mC (.int 5)) (mCons [] (mC (.int 7)) (mCons [] (mC (.int 10)) mNil)))))) mNil)))) mNil))))
def b__law_sum (f__law_draw : List O → Rr) (f__law_any : List O → Rr) : MS := (msSeq (msSet 2 (mN gLst (mCons [] (mC (.int 0)) (mCons [] (mC (.int 0)) (mCons [] (mC (.int 1)) (mCons [] (m1 gNeg (mC (.int 1))) (mCons [] (mC (.int 2)) (mCons [] (m1 gNeg (mC (.int 2))) (mCons [] (mC (.int 3)) (mCons [] (mC (.int 1000)) (mCons [] (m1 gNeg (mC (.int 1000))) (mCons [] (mC (.int 7)) mNil))))))))))))
  (msRet (mN gTupleOf (mCons [] (mLc [3, 3, 0, 0] [3] (setT [3]) (iRg1 (mCons [] (m2 gAdd [] (mVar 1) (mC (.int 1))) mNil)) mYes (e1__law_sum f__law_draw f__law_any)) mNil))))
theorem ok__law_sum {f : Addr} {fd : FuncData} {k : Nat} (T : Txt w K mg cl aS eS nS) {f__law_draw : List O → Rr} {a__law_draw : Addr} {d__law_draw : FuncData} {k__law_draw : Nat} (l__law_draw : k__law_draw ≤ k) (c__law_draw : CalF P w K mg base k__law_draw "_law_draw" ["hand", "many"] (spG K cl 2 f__law_draw) a__law_draw d__law_draw) {f__law_any : List O → Rr} {a__law_any : Addr} {d__law_any : FuncData} {k__law_any : Nat} (l__law_any : k__law_any ≤ k) (c__law_any : CalF P w K mg base k__law_any "_law_any" ["hand", "items"] (spG K cl 2 f__law_any) a__law_any d__law_any) (F : Fun K "_law_sum" "_law_sum" s__law_sum f fd) : FnOk P w K mg base CX0 (k + 1) f fd ["hand", "cells"] (spG K cl 2 (runDef [0] 2 (b__law_sum f__law_draw f__law_any))) :=
  fn_def2 F sc__law_sum (by decide) fun cdv A outer s H E F0 H0 io vs hr => ⟨_, (s_cons (s_set 2 sc__law_sum.nd rfl (by first | exact Or.inl rfl | exact Or.inr rfl) (e_lst (a_cons e_int (a_cons e_int (a_cons e_int (a_cons (e_un un_neg loc_neg e_int) (a_cons e_int (a_cons (e_un un_neg loc_neg e_int) (a_cons e_int (a_cons e_int (a_cons (e_un un_neg loc_neg e_int) (a_cons e_int a_nil))))))))))) (by show 2 ∉ ([0] : List Nat); decide) (by show 2 < 4; decide))
  (s_one (s_ret (e_cb (loc_tupleOf) (pe_callTy call_tuple_of (by rfl) T.z_tuple rfl (a_cons (e_lc (vs := [3]) (tg_name (by show 3 < 4; decide) (by show 3 ∉ ([0] : List Nat); decide)) (by decide) (by show ∀ i ∈ ([3] : List Nat), i ∉ ([0] : List Nat); decide) (pe_lc (own := [("cell", 3)]) rfl sc__law_sum.nd (i_rg1 (pi_range1 (by rfl) T.z_range (a_cons (e_op op_addAll loc_add (e_var 1) e_int) a_nil))) (blkOk_by (N := ["hand", "cells", "some", "cell"]) (sc := defScope s__law_sum) (by decide +kernel)) (fun _ _ _ _ _ => (pg_name (i := 3) sc__law_sum.nd rfl (by first | exact Or.inl rfl | exact Or.inr rfl))) (fun _ _ _ _ _ => ts_nil) (fun _ _ _ _ _ => (e_ix ix_seq (loc_ix) (e_var 2) (e_call [0] rfl c__law_draw.ok (hr.mono (by omega)) (by rfl) c__law_draw.g c__law_draw.kp c__law_draw.b passN (a_cons (e_slot 0) (a_cons (e_stl (e_call [0] rfl c__law_any.ok (hr.mono (by omega)) (by rfl) c__law_any.g c__law_any.kp c__law_any.b passN (a_cons (e_slot 0) (a_cons (e_stl (e_lst (a_cons e_int (a_cons e_int (a_cons e_int (a_cons e_int a_nil)))))) a_nil)))) a_nil))) (fun _ _ => rfl))))) a_nil))))))⟩
abbrev s__law_alone : Stmt := top 59
theorem sc__law_alone : FnScope ["cells", "cell", "number", "at"] ["cells", "cell", "number"] (defScope s__law_alone) := ⟨rfl, rfl, rfl, by decide +kernel, rfl, by decide +kernel, by decide +kernel⟩
def e1__law_alone : ME := (mN gInt (mCons [] (m2 gEq [] (mVar 3) (mVar 1)) mNil))
def b__law_alone : MS := (msRet (m2 gAdd [] (mN gTupleOf (mCons [] (mLc [3, 3] [3] (setT [3]) (iRg1 (mCons [] (mVar 0) mNil)) mYes (e1__law_alone)) mNil)) (mN gTup (mCons [] (mVar 2) mNil))))
theorem ok__law_alone {f : Addr} {fd : FuncData} {k : Nat} (T : Txt w K mg cl aS eS nS)  (F : Fun K "_law_alone" "_law_alone" s__law_alone f fd) : FnOk P w K mg base CX0 (k + 1) f fd ["cells", "cell", "number"] (spG K cl 3 (runDef [] 1 (b__law_alone))) :=
  fn_def2 F sc__law_alone (by decide) fun cdv A outer s H E F0 H0 io vs hr => ⟨_, (s_one (s_ret (e_op op_addAll loc_add (e_cb (loc_tupleOf) (pe_callTy call_tuple_of (by rfl) T.z_tuple rfl (a_cons (e_lc (vs := [3]) (tg_name (by show 3 < 4; decide) (by show 3 ∉ ([] : List Nat); decide)) (by decide) (by show ∀ i ∈ ([3] : List Nat), i ∉ ([] : List Nat); decide) (pe_lc (own := [("at", 3)]) rfl sc__law_alone.nd (i_rg1 (pi_range1 (by rfl) T.z_range (a_cons (e_var 0) a_nil))) (blkOk_by (N := ["cells", "cell", "number", "at"]) (sc := defScope s__law_alone) (by decide +kernel)) (fun _ _ _ _ _ => (pg_name (i := 3) sc__law_alone.nd rfl (by first | exact Or.inl rfl | exact Or.inr rfl))) (fun _ _ _ _ _ => ts_nil) (fun _ _ _ _ _ => (e_cb loc_int (pe_callTy call_int1 (by rfl) T.z_int rfl (a_cons (e_cmp (op_eqD hr.units) (loc_eq) (e_var 3) (e_var 1)) a_nil)))))) a_nil))) (e_tup (a_cons (e_var 2) a_nil)))))⟩
abbrev s__law_test : Stmt := top 60
theorem sc__law_test : FnScope ["hand", "cells"] ["hand", "cells"] (defScope s__law_test) := ⟨rfl, rfl, rfl, by decide +kernel, rfl, by decide +kernel, by decide +kernel⟩
def b__law_test (f__law_any : List O → Rr) (f__law_sum : List O → Rr) : MS := (msRet (mN gTup (mCons [0, 0] (mStl (mCall [0] 2 f__law_any (mCons [] (mSlot 0) (mCons [] (mStl (mN gLst (mCons [] (mC (.str "less")) (mCons [] (mC (.str "less")) (mCons [] (mC (.str "same")) mNil))))) mNil)))) (mCons [0] (mStl (mCall [0] 2 f__law_sum (mCons [] (mSlot 0) (mCons [] (mVar 1) mNil)))) (mCons [] (mStl (mCall [0] 2 f__law_sum (mCons [] (mSlot 0) (mCons [] (mVar 1) mNil)))) mNil)))))
theorem ok__law_test {f : Addr} {fd : FuncData} {k : Nat} (T : Txt w K mg cl aS eS nS) {f__law_any : List O → Rr} {a__law_any : Addr} {d__law_any : FuncData} {k__law_any : Nat} (l__law_any : k__law_any ≤ k) (c__law_any : CalF P w K mg base k__law_any "_law_any" ["hand", "items"] (spG K cl 2 f__law_any) a__law_any d__law_any) {f__law_sum : List O → Rr} {a__law_sum : Addr} {d__law_sum : FuncData} {k__law_sum : Nat} (l__law_sum : k__law_sum ≤ k) (c__law_sum : CalF P w K mg base k__law_sum "_law_sum" ["hand", "cells"] (spG K cl 2 f__law_sum) a__law_sum d__law_sum) (F : Fun K "_law_test" "_law_test" s__law_test f fd) : FnOk P w K mg base CX0 (k + 1) f fd ["hand", "cells"] (spG K cl 2 (runDef [0] 0 (b__law_test f__law_any f__law_sum))) :=
  fn_def2 F sc__law_test (by decide) fun cdv A outer s H E F0 H0 io vs hr => ⟨_, (s_one (s_ret (e_tup (a_cons (e_stl (e_call [0] rfl c__law_any.ok (hr.mono (by omega)) (by rfl) c__law_any.g c__law_any.kp c__law_any.b passN (a_cons (e_slot 0) (a_cons (e_stl (e_lst (a_cons e_str (a_cons e_str (a_cons e_str a_nil))))) a_nil)))) (a_cons (e_stl (e_call [0] rfl c__law_sum.ok (hr.mono (by omega)) (by rfl) c__law_sum.g c__law_sum.kp c__law_sum.b passN (a_cons (e_slot 0) (a_cons (e_var 1) a_nil)))) (a_cons (e_stl (e_call [0] rfl c__law_sum.ok (hr.mono (by omega)) (by rfl) c__law_sum.g c__law_sum.kp c__law_sum.b passN (a_cons (e_slot 0) (a_cons (e_var 1) a_nil)))) a_nil))))))⟩
abbrev s__law_size : Stmt := top 61
theorem sc__law_size : FnScope ["body", "found", "statement", "inner", "part"] ["body"] (defScope s__law_size) := ⟨rfl, rfl, rfl, by decide +kernel, rfl, by decide +kernel, by decide +kernel⟩
def e1__law_size (f__law_size : List O → Rr) : MT := (mTest (m2 (gIn false) [] (m2 gIx [] (mVar 2) (mC (.int 0))) (mN gLst (mCons [] (mC (.str "if")) (mCons [] (mC (.str "while")) mNil)))))
def e2__law_size (f__law_size : List O → Rr) : ME := (mVar 4)
def e3__law_size (f__law_size : List O → Rr) : ME := (mStl (mCall [] 1 f__law_size (mCons [] (mVar 4) mNil)))
def e4__law_size (f__law_size : List O → Rr) : MS := (msSeq (msSet 3 (mLc [4, 4] [4] (setT [4]) (iSeq true (mStl (mSl [] (mVar 2) (oSome (mC (.int 2))) oNone))) (e1__law_size f__law_size) (e2__law_size f__law_size)))
  (msSet 1 (m2 gAdd [4, 4] (m2 gAdd [] (mVar 1) (mIf (mTest (m2 gEq [] (m2 gIx [] (mVar 2) (mC (.int 0))) (mC (.str "if")))) (mC (.int 2)) (mC (.int 1)))) (mN gSum (mCons [] (mLc [4, 4] [4] (setT [4]) (iSeq false (mVar 3)) mYes (e3__law_size f__law_size)) mNil)))))
def b__law_size (f__law_size : List O → Rr) : MS := (msSeq (msSet 1 (mC (.int 0)))
  (msSeq (msFor [2, 4, 4, 3, 4, 4, 1] (setT [2]) (iSeq true (mVar 0)) (e4__law_size f__law_size))
  (msRet (mVar 1))))
theorem ok__law_size {f : Addr} {fd : FuncData} {k : Nat} (T : Txt w K mg cl aS eS nS) {f__law_size : List O → Rr} {a__law_size : Addr} {d__law_size : FuncData} {k__law_size : Nat} (l__law_size : k__law_size ≤ k) (c__law_size : CalF P w K mg base k__law_size "_law_size" ["body"] (spG K cl 1 f__law_size) a__law_size d__law_size) (F : Fun K "_law_size" "_law_size" s__law_size f fd) : FnOk P w K mg base CX0 (k + 1) f fd ["body"] (spG K cl 1 (runDef [] 4 (b__law_size f__law_size))) :=
  fn_def2 F sc__law_size (by decide) fun cdv A outer s H E F0 H0 io vs hr => ⟨_, (s_cons (s_set 1 sc__law_size.nd rfl (by first | exact Or.inl rfl | exact Or.inr rfl) e_int (by show 1 ∉ ([] : List Nat); decide) (by show 1 < 5; decide))
  (s_cons (s_for PassesOwn.never rfl (tg_name (by show 2 < 5; decide) (by show 2 ∉ ([] : List Nat); decide)) (i_tup rfl (e_var 0)) (pg_name (i := 2) sc__law_size.nd rfl (by first | exact Or.inl rfl | exact Or.inr rfl)) (s_cons (s_setLc (vs := [4]) (tg_name (by show 4 < 5; decide) (by show 4 ∉ ([] : List Nat); decide)) (by decide) (by show ∀ i ∈ ([4] : List Nat), i ∉ ([] : List Nat); decide) (by show 3 < 5; decide) (by show 3 ∉ ([] : List Nat); decide) (ps_setLc (i := 3) (own := [("part", 4)]) rfl sc__law_size.nd rfl rfl (sw_true rfl rfl rfl (by decide +kernel)) (i_tup rfl (e_stl (e_sl rfl (e_var 2) (o_some e_int) o_none))) (blkOk_by (N := ["body", "found", "statement", "inner", "part"]) (sc := defScope s__law_size) (by decide +kernel)) (fun _ _ _ _ _ => (pg_name (i := 4) sc__law_size.nd rfl (by first | exact Or.inl rfl | exact Or.inr rfl))) (fun _ _ _ _ _ => (ts_one (t_cmp op_in_seq (loc_in) (e_ix ix_seq (loc_ix) (e_var 2) e_int (fun _ _ => rfl)) (e_lst (a_cons e_str (a_cons e_str a_nil)))))) (fun _ _ _ _ _ => (e_var 4))))
  (s_one (s_set 1 sc__law_size.nd rfl (by first | exact Or.inl rfl | exact Or.inr rfl) (e_op op_addAll loc_add (e_op op_addAll loc_add (e_var 1) (e_if (t_cmp (op_eqD hr.units) (loc_eq) (e_ix ix_seq (loc_ix) (e_var 2) e_int (fun _ _ => rfl)) e_str) e_int e_int)) (e_cb (loc_sum) (pe_callB (cr_sum rfl) (by rfl) T.z_sum rfl (a_cons (e_lc (vs := [4]) (tg_name (by show 4 < 5; decide) (by show 4 ∉ ([] : List Nat); decide)) (by decide) (by show ∀ i ∈ ([4] : List Nat), i ∉ ([] : List Nat); decide) (pe_lc (own := [("part", 4)]) rfl sc__law_size.nd (i_list rfl (e_var 3)) (blkOk_by (N := ["body", "found", "statement", "inner", "part"]) (sc := defScope s__law_size) (by decide +kernel)) (fun _ _ _ _ _ => (pg_name (i := 4) sc__law_size.nd rfl (by first | exact Or.inl rfl | exact Or.inr rfl))) (fun _ _ _ _ _ => ts_nil) (fun _ _ _ _ _ => (e_stl (e_call [] rfl c__law_size.ok (hr.mono (by omega)) (by rfl) c__law_size.g c__law_size.kp c__law_size.b passN (a_cons (e_var 4) a_nil)))))) a_nil)))) (by show 1 ∉ ([] : List Nat); decide) (by show 1 < 5; decide)))))
  (s_one (s_ret (e_var 1)))))⟩
abbrev s__law_statement : Stmt := top 62
theorem sc__law_statement : FnScope ["hand", "cells", "routines", "deep", "kind", "cell", "body", "zero"] ["hand", "cells", "routines", "deep"] (defScope s__law_statement) := ⟨rfl, rfl, rfl, by decide +kernel, rfl, by decide +kernel, by decide +kernel⟩
def b__law_statement (f__law_draw : List O → Rr) (f__law_sum : List O → Rr) (f__law_alone : List O → Rr) (f__law_any : List O → Rr) (f__law_body : List O → Rr) (f__law_test : List O → Rr) : MS := (msSeq (msPar [4, 5] (mCons [0] (mCall [0] 2 f__law_draw (mCons [] (mSlot 0) (mCons [] (mC (.int 10)) mNil))) (mCons [] (mCall [0] 2 f__law_draw (mCons [] (mSlot 0) (mCons [] (mVar 1) mNil))) mNil)))
  (msSeq (msIf (mTest (m2 (gI fun i j => .bl (decide (i < j))) [] (mVar 4) (mC (.int 2)))) (msRet (mN gTup (mCons [0] (mC (.str "set")) (mCons [0] (mVar 5) (mCons [] (mStl (mCall [0] 2 f__law_sum (mCons [] (mSlot 0) (mCons [] (mVar 1) mNil)))) mNil))))) msNil)
  (msSeq (msIf (mTest (m2 (gI fun i j => .bl (decide (i < j))) [] (mVar 4) (mC (.int 4)))) (msRet (mN gTup (mCons [0] (mC (.str "say")) (mCons [] (mStl (mCall [0] 2 f__law_sum (mCons [] (mSlot 0) (mCons [] (mVar 1) mNil)))) mNil)))) msNil)
  (msSeq (msIf (mTest (m2 gEq [] (mVar 4) (mC (.int 4)))) (msRet (mN gTup (mCons [0] (mC (.str "call")) (mCons [] (mStl (mCall [0] 2 f__law_draw (mCons [] (mSlot 0) (mCons [] (mVar 2) mNil)))) mNil)))) msNil)
  (msSeq (msIf (tmOr (mTest (m2 (gI fun i j => .bl (decide (j < i))) [] (mVar 3) (mC (.int 7)))) (mTest (m2 gEq [] (mVar 4) (mC (.int 5))))) (msRet (mN gTup (mCons [0] (mC (.str "set")) (mCons [0] (mVar 5) (mCons [] (mStl (mCall [] 3 f__law_alone (mCons [0] (mVar 1) (mCons [0] (mVar 5) (mCons [] (mStl (mCall [0] 2 f__law_any (mCons [] (mSlot 0) (mCons [] (mStl (mN gLst (mCons [] (m1 gNeg (mC (.int 1))) (mCons [] (mC (.int 1)) (mCons [] (mC (.int 2)) (mCons [] (m1 gNeg (mC (.int 3))) mNil)))))) mNil)))) mNil))))) mNil))))) msNil)
  (msSeq (msIf (mTest (m2 (gI fun i j => .bl (decide (i < j))) [] (mVar 4) (mC (.int 8)))) (msSeq (msSet 6 (mCall [0] 4 f__law_body (mCons [] (mSlot 0) (mCons [] (mVar 1) (mCons [] (mVar 2) (mCons [] (mStl (m2 gAdd [] (mVar 3) (mC (.int 1)))) mNil))))))
  (msRet (mN gTup (mCons [0, 0] (mC (.str "if")) (mCons [0] (mStl (mCall [0] 2 f__law_test (mCons [] (mSlot 0) (mCons [] (mVar 1) mNil)))) (mCons [0] (mVar 6) (mCons [] (mStl (mCall [0] 4 f__law_body (mCons [] (mSlot 0) (mCons [] (mVar 1) (mCons [] (mVar 2) (mCons [] (mStl (m2 gAdd [] (mVar 3) (mC (.int 1)))) mNil)))))) mNil))))))) msNil)
  (msSeq (msSet 6 (mCall [0] 4 f__law_body (mCons [] (mSlot 0) (mCons [] (mVar 1) (mCons [] (mVar 2) (mCons [] (mStl (m2 gAdd [] (mVar 3) (mC (.int 1)))) mNil))))))
  (msSeq (msIf (mTest (m2 gEq [] (mVar 4) (mC (.int 8)))) (msRet (mN gTup (mCons [0] (mC (.str "while")) (mCons [] (mStl (mCall [0] 2 f__law_test (mCons [] (mSlot 0) (mCons [] (mVar 1) mNil)))) (mCons [] (mVar 6) mNil))))) msNil)
  (msSeq (msSet 7 (m2 gMul [] (mN gTup (mCons [] (mC (.int 0)) mNil)) (m2 gAdd [] (mVar 1) (mC (.int 1)))))
  (msRet (mN gTup (mCons [] (mC (.str "while")) (mCons [] (mN gTup (mCons [] (mC (.str "less")) (mCons [] (mVar 7) (mCons [] (mStl (mCall [] 3 f__law_alone (mCons [] (mVar 1) (mCons [] (mVar 5) (mCons [] (mC (.int 0)) mNil))))) mNil)))) (mCons [] (mStl (m2 gAdd [] (mVar 6) (mN gTup (mCons [] (mN gTup (mCons [] (mC (.str "set")) (mCons [] (mVar 5) (mCons [] (mStl (mCall [] 3 f__law_alone (mCons [] (mVar 1) (mCons [] (mVar 5) (mCons [] (m1 gNeg (mC (.int 1))) mNil))))) mNil)))) mNil)))) mNil))))))))))))))
theorem ok__law_statement {f : Addr} {fd : FuncData} {k : Nat} (T : Txt w K mg cl aS eS nS) {f__law_draw : List O → Rr} {a__law_draw : Addr} {d__law_draw : FuncData} {k__law_draw : Nat} (l__law_draw : k__law_draw ≤ k) (c__law_draw : CalF P w K mg base k__law_draw "_law_draw" ["hand", "many"] (spG K cl 2 f__law_draw) a__law_draw d__law_draw) {f__law_sum : List O → Rr} {a__law_sum : Addr} {d__law_sum : FuncData} {k__law_sum : Nat} (l__law_sum : k__law_sum ≤ k) (c__law_sum : CalF P w K mg base k__law_sum "_law_sum" ["hand", "cells"] (spG K cl 2 f__law_sum) a__law_sum d__law_sum) {f__law_alone : List O → Rr} {a__law_alone : Addr} {d__law_alone : FuncData} {k__law_alone : Nat} (l__law_alone : k__law_alone ≤ k) (c__law_alone : CalF P w K mg base k__law_alone "_law_alone" ["cells", "cell", "number"] (spG K cl 3 f__law_alone) a__law_alone d__law_alone) {f__law_any : List O → Rr} {a__law_any : Addr} {d__law_any : FuncData} {k__law_any : Nat} (l__law_any : k__law_any ≤ k) (c__law_any : CalF P w K mg base k__law_any "_law_any" ["hand", "items"] (spG K cl 2 f__law_any) a__law_any d__law_any) {f__law_body : List O → Rr} {a__law_body : Addr} {d__law_body : FuncData} {k__law_body : Nat} (l__law_body : k__law_body ≤ k) (c__law_body : CalF P w K mg base k__law_body "_law_body" ["hand", "cells", "routines", "deep"] (spG K cl 4 f__law_body) a__law_body d__law_body) {f__law_test : List O → Rr} {a__law_test : Addr} {d__law_test : FuncData} {k__law_test : Nat} (l__law_test : k__law_test ≤ k) (c__law_test : CalF P w K mg base k__law_test "_law_test" ["hand", "cells"] (spG K cl 2 f__law_test) a__law_test d__law_test) (F : Fun K "_law_statement" "_law_statement" s__law_statement f fd) : FnOk P w K mg base CX0 (k + 1) f fd ["hand", "cells", "routines", "deep"] (spG K cl 4 (runDef [0] 4 (b__law_statement f__law_draw f__law_sum f__law_alone f__law_any f__law_body f__law_test))) :=
  fn_def2 F sc__law_statement (by decide) fun cdv A outer s H E F0 H0 io vs hr => ⟨_, (s_cons (s_par2 (by show ∀ i ∈ ([4, 5] : List Nat), i < 8 ∧ i ∉ ([0] : List Nat); decide) (ps_par rfl sc__law_statement.nd rfl rfl (by decide) rfl rfl (d_cons (e_call [0] rfl c__law_draw.ok (hr.mono (by omega)) (by rfl) c__law_draw.g c__law_draw.kp c__law_draw.b passN (a_cons (e_slot 0) (a_cons e_int a_nil))) (d_cons (e_call [0] rfl c__law_draw.ok (hr.mono (by omega)) (by rfl) c__law_draw.g c__law_draw.kp c__law_draw.b passN (a_cons (e_slot 0) (a_cons (e_var 1) a_nil))) d_nil)) (by with_unfolding_all rfl)))
  (s_cons (s_if (t_cmp op_lt loc_lt (e_var 4) e_int) (s_one (s_ret (e_tup (a_cons e_str (a_cons (e_var 5) (a_cons (e_stl (e_call [0] rfl c__law_sum.ok (hr.mono (by omega)) (by rfl) c__law_sum.g c__law_sum.kp c__law_sum.b passN (a_cons (e_slot 0) (a_cons (e_var 1) a_nil)))) a_nil)))))) s_nil)
  (s_cons (s_if (t_cmp op_lt loc_lt (e_var 4) e_int) (s_one (s_ret (e_tup (a_cons e_str (a_cons (e_stl (e_call [0] rfl c__law_sum.ok (hr.mono (by omega)) (by rfl) c__law_sum.g c__law_sum.kp c__law_sum.b passN (a_cons (e_slot 0) (a_cons (e_var 1) a_nil)))) a_nil))))) s_nil)
  (s_cons (s_if (t_cmp (op_eqD hr.units) (loc_eq) (e_var 4) e_int) (s_one (s_ret (e_tup (a_cons e_str (a_cons (e_stl (e_call [0] rfl c__law_draw.ok (hr.mono (by omega)) (by rfl) c__law_draw.g c__law_draw.kp c__law_draw.b passN (a_cons (e_slot 0) (a_cons (e_var 2) a_nil)))) a_nil))))) s_nil)
  (s_cons (s_if (t_w (w_or (t_cmp op_gt loc_gt (e_var 3) e_int) (w_or1 (t_cmp (op_eqD hr.units) (loc_eq) (e_var 4) e_int)))) (s_one (s_ret (e_tup (a_cons e_str (a_cons (e_var 5) (a_cons (e_stl (e_call [] rfl c__law_alone.ok (hr.mono (by omega)) (by rfl) c__law_alone.g c__law_alone.kp c__law_alone.b passN (a_cons (e_var 1) (a_cons (e_var 5) (a_cons (e_stl (e_call [0] rfl c__law_any.ok (hr.mono (by omega)) (by rfl) c__law_any.g c__law_any.kp c__law_any.b passN (a_cons (e_slot 0) (a_cons (e_stl (e_lst (a_cons (e_un un_neg loc_neg e_int) (a_cons e_int (a_cons e_int (a_cons (e_un un_neg loc_neg e_int) a_nil)))))) a_nil)))) a_nil))))) a_nil)))))) s_nil)
  (s_cons (s_if (t_cmp op_lt loc_lt (e_var 4) e_int) (s_cons (s_set 6 sc__law_statement.nd rfl (by first | exact Or.inl rfl | exact Or.inr rfl) (e_call [0] rfl c__law_body.ok (hr.mono (by omega)) (by rfl) c__law_body.g c__law_body.kp c__law_body.b passN (a_cons (e_slot 0) (a_cons (e_var 1) (a_cons (e_var 2) (a_cons (e_stl (e_op op_addAll loc_add (e_var 3) e_int)) a_nil))))) (by show 6 ∉ ([0] : List Nat); decide) (by show 6 < 8; decide))
  (s_one (s_ret (e_tup (a_cons e_str (a_cons (e_stl (e_call [0] rfl c__law_test.ok (hr.mono (by omega)) (by rfl) c__law_test.g c__law_test.kp c__law_test.b passN (a_cons (e_slot 0) (a_cons (e_var 1) a_nil)))) (a_cons (e_var 6) (a_cons (e_stl (e_call [0] rfl c__law_body.ok (hr.mono (by omega)) (by rfl) c__law_body.g c__law_body.kp c__law_body.b passN (a_cons (e_slot 0) (a_cons (e_var 1) (a_cons (e_var 2) (a_cons (e_stl (e_op op_addAll loc_add (e_var 3) e_int)) a_nil)))))) a_nil)))))))) s_nil)
  (s_cons (s_set 6 sc__law_statement.nd rfl (by first | exact Or.inl rfl | exact Or.inr rfl) (e_call [0] rfl c__law_body.ok (hr.mono (by omega)) (by rfl) c__law_body.g c__law_body.kp c__law_body.b passN (a_cons (e_slot 0) (a_cons (e_var 1) (a_cons (e_var 2) (a_cons (e_stl (e_op op_addAll loc_add (e_var 3) e_int)) a_nil))))) (by show 6 ∉ ([0] : List Nat); decide) (by show 6 < 8; decide))
  (s_cons (s_if (t_cmp (op_eqD hr.units) (loc_eq) (e_var 4) e_int) (s_one (s_ret (e_tup (a_cons e_str (a_cons (e_stl (e_call [0] rfl c__law_test.ok (hr.mono (by omega)) (by rfl) c__law_test.g c__law_test.kp c__law_test.b passN (a_cons (e_slot 0) (a_cons (e_var 1) a_nil)))) (a_cons (e_var 6) a_nil)))))) s_nil)
  (s_cons (s_set 7 sc__law_statement.nd rfl (by first | exact Or.inl rfl | exact Or.inr rfl) (e_op op_mulAll (loc_mul) (e_tup (a_cons e_int a_nil)) (e_op op_addAll loc_add (e_var 1) e_int)) (by show 7 ∉ ([0] : List Nat); decide) (by show 7 < 8; decide))
  (s_one (s_ret (e_tup (a_cons e_str (a_cons (e_tup (a_cons e_str (a_cons (e_var 7) (a_cons (e_stl (e_call [] rfl c__law_alone.ok (hr.mono (by omega)) (by rfl) c__law_alone.g c__law_alone.kp c__law_alone.b passN (a_cons (e_var 1) (a_cons (e_var 5) (a_cons e_int a_nil))))) a_nil)))) (a_cons (e_stl (e_op op_addAll loc_add (e_var 6) (e_tup (a_cons (e_tup (a_cons e_str (a_cons (e_var 5) (a_cons (e_stl (e_call [] rfl c__law_alone.ok (hr.mono (by omega)) (by rfl) c__law_alone.g c__law_alone.kp c__law_alone.b passN (a_cons (e_var 1) (a_cons (e_var 5) (a_cons (e_un un_neg loc_neg e_int) a_nil))))) a_nil)))) a_nil)))) a_nil)))))))))))))))⟩
abbrev s__law_body : Stmt := top 63
theorem sc__law_body : FnScope ["hand", "cells", "routines", "deep", "found", "turn"] ["hand", "cells", "routines", "deep"] (defScope s__law_body) := ⟨rfl, rfl, rfl, by decide +kernel, rfl, by decide +kernel, by decide +kernel⟩
def e1__law_body (f__law_draw : List O → Rr) (f__law_statement : List O → Rr) (f__law_size : List O → Rr) : MS := (msSet 4 (m2 gAdd [0] (mVar 4) (mN gTup (mCons [] (mStl (mCall [0] 4 f__law_statement (mCons [] (mSlot 0) (mCons [] (mVar 1) (mCons [] (mVar 2) (mCons [] (mVar 3) mNil)))))) mNil))))
def b__law_body (f__law_draw : List O → Rr) (f__law_statement : List O → Rr) (f__law_size : List O → Rr) : MS := (msSeq (msSet 4 (mN gTup mNil))
  (msSeq (msFor [5, 0, 4] (setT [5]) (iRg1 (mCons [] (mCall [0] 2 f__law_draw (mCons [] (mSlot 0) (mCons [] (m2 (gI fun i j => .int (i - j)) [] (mC (.int 5)) (mN gMin2 (mCons [] (mC (.int 3)) (mCons [] (m2 (gIc cDiv fun i j => .int (i / j)) [] (mVar 3) (mC (.int 2))) mNil)))) mNil))) mNil)) (e1__law_body f__law_draw f__law_statement f__law_size))
  (msRet (mIf (mTest (m2 (gI fun i j => .bl (decide (i < j))) [] (mCall [] 1 f__law_size (mCons [] (mVar 4) mNil)) (mC (.int 37)))) (mVar 4) (mIf (mTest (m2 (gI fun i j => .bl (decide (i < j))) [] (mCall [] 1 f__law_size (mCons [] (mStl (mSl [] (mVar 4) oNone (oSome (mC (.int 1))))) mNil)) (mC (.int 37)))) (mSl [] (mVar 4) oNone (oSome (mC (.int 1)))) (mN gTup mNil))))))
theorem ok__law_body {f : Addr} {fd : FuncData} {k : Nat} (T : Txt w K mg cl aS eS nS) {f__law_draw : List O → Rr} {a__law_draw : Addr} {d__law_draw : FuncData} {k__law_draw : Nat} (l__law_draw : k__law_draw ≤ k) (c__law_draw : CalF P w K mg base k__law_draw "_law_draw" ["hand", "many"] (spG K cl 2 f__law_draw) a__law_draw d__law_draw) {f__law_statement : List O → Rr} {a__law_statement : Addr} {d__law_statement : FuncData} {k__law_statement : Nat} (l__law_statement : k__law_statement ≤ k) (c__law_statement : CalF P w K mg base k__law_statement "_law_statement" ["hand", "cells", "routines", "deep"] (spG K cl 4 f__law_statement) a__law_statement d__law_statement) {f__law_size : List O → Rr} {a__law_size : Addr} {d__law_size : FuncData} {k__law_size : Nat} (l__law_size : k__law_size ≤ k) (c__law_size : CalF P w K mg base k__law_size "_law_size" ["body"] (spG K cl 1 f__law_size) a__law_size d__law_size) (F : Fun K "_law_body" "_law_body" s__law_body f fd) : FnOk P w K mg base CX0 (k + 1) f fd ["hand", "cells", "routines", "deep"] (spG K cl 4 (runDef [0] 2 (b__law_body f__law_draw f__law_statement f__law_size))) :=
  fn_def2 F sc__law_body (by decide) fun cdv A outer s H E F0 H0 io vs hr => ⟨_, (s_cons (s_set 4 sc__law_body.nd rfl (by first | exact Or.inl rfl | exact Or.inr rfl) (e_tup a_nil) (by show 4 ∉ ([0] : List Nat); decide) (by show 4 < 6; decide))
  (s_cons (s_for PassesOwn.never rfl (tg_name (by show 5 < 6; decide) (by show 5 ∉ ([0] : List Nat); decide)) (i_rg1 (pi_range1 (by rfl) T.z_range (a_cons (e_call [0] rfl c__law_draw.ok (hr.mono (by omega)) (by rfl) c__law_draw.g c__law_draw.kp c__law_draw.b passN (a_cons (e_slot 0) (a_cons (e_op op_sub loc_sub e_int (e_cb loc_min2 (pe_callB (call_min2 rfl) (by rfl) T.z_min rfl (a_cons e_int (a_cons (e_op op_fdiv loc_fdiv (e_var 3) e_int) a_nil))))) a_nil))) a_nil))) (pg_name (i := 5) sc__law_body.nd rfl (by first | exact Or.inl rfl | exact Or.inr rfl)) (s_one (s_set 4 sc__law_body.nd rfl (by first | exact Or.inl rfl | exact Or.inr rfl) (e_op op_addAll loc_add (e_var 4) (e_tup (a_cons (e_stl (e_call [0] rfl c__law_statement.ok (hr.mono (by omega)) (by rfl) c__law_statement.g c__law_statement.kp c__law_statement.b passN (a_cons (e_slot 0) (a_cons (e_var 1) (a_cons (e_var 2) (a_cons (e_var 3) a_nil)))))) a_nil))) (by show 4 ∉ ([0] : List Nat); decide) (by show 4 < 6; decide))))
  (s_one (s_ret (e_if (t_cmp op_lt loc_lt (e_call [] rfl c__law_size.ok (hr.mono (by omega)) (by rfl) c__law_size.g c__law_size.kp c__law_size.b passN (a_cons (e_var 4) a_nil)) e_int) (e_var 4) (e_if (t_cmp op_lt loc_lt (e_call [] rfl c__law_size.ok (hr.mono (by omega)) (by rfl) c__law_size.g c__law_size.kp c__law_size.b passN (a_cons (e_stl (e_sl rfl (e_var 4) o_none (o_some e_int))) a_nil)) e_int) (e_sl rfl (e_var 4) o_none (o_some e_int)) (e_tup a_nil)))))))⟩
abbrev s__law_parts : Stmt := top 64
theorem sc__law_parts : FnScope ["hand", "cells", "many", "found", "number", "body"] ["hand"] (defScope s__law_parts) := ⟨rfl, rfl, rfl, by decide +kernel, rfl, by decide +kernel, by decide +kernel⟩
def e1__law_parts (f__law_draw : List O → Rr) (f__law_body : List O → Rr) : MS := (msSeq (msSet 5 (mCall [0] 4 f__law_body (mCons [] (mSlot 0) (mCons [] (mVar 1) (mCons [] (mVar 2) (mCons [] (mC (.int 1)) mNil))))))
  (msSet 3 (m2 gAdd [] (mVar 3) (mN gTup (mCons [] (mVar 5) mNil)))))
def b__law_parts (f__law_draw : List O → Rr) (f__law_body : List O → Rr) : MS := (msSeq (msPar [1, 2, 3] (mCons [0] (m2 gAdd [0] (mC (.int 1)) (mCall [0] 2 f__law_draw (mCons [] (mSlot 0) (mCons [] (mC (.int 4)) mNil)))) (mCons [] (m2 gAdd [0] (mC (.int 1)) (mCall [0] 2 f__law_draw (mCons [] (mSlot 0) (mCons [] (mC (.int 5)) mNil)))) (mCons [] (mN gTup mNil) mNil))))
  (msSeq (msFor [4, 0, 5, 3] (setT [4]) (iRg1 (mCons [] (mVar 2) mNil)) (e1__law_parts f__law_draw f__law_body))
  (msRet (mN gTup (mCons [] (mVar 1) (mCons [] (mVar 3) mNil))))))
theorem ok__law_parts {f : Addr} {fd : FuncData} {k : Nat} (T : Txt w K mg cl aS eS nS) {f__law_draw : List O → Rr} {a__law_draw : Addr} {d__law_draw : FuncData} {k__law_draw : Nat} (l__law_draw : k__law_draw ≤ k) (c__law_draw : CalF P w K mg base k__law_draw "_law_draw" ["hand", "many"] (spG K cl 2 f__law_draw) a__law_draw d__law_draw) {f__law_body : List O → Rr} {a__law_body : Addr} {d__law_body : FuncData} {k__law_body : Nat} (l__law_body : k__law_body ≤ k) (c__law_body : CalF P w K mg base k__law_body "_law_body" ["hand", "cells", "routines", "deep"] (spG K cl 4 f__law_body) a__law_body d__law_body) (F : Fun K "_law_parts" "_law_parts" s__law_parts f fd) : FnOk P w K mg base CX0 (k + 1) f fd ["hand"] (spG K cl 1 (runDef [0] 5 (b__law_parts f__law_draw f__law_body))) :=
  fn_def2 F sc__law_parts (by decide) fun cdv A outer s H E F0 H0 io vs hr => ⟨_, (s_cons (s_par3 (by show ∀ i ∈ ([1, 2, 3] : List Nat), i < 6 ∧ i ∉ ([0] : List Nat); decide) (ps_par3 rfl sc__law_parts.nd rfl rfl rfl (by decide) (by decide) (by decide) rfl rfl rfl (d_cons (e_op op_addAll loc_add e_int (e_call [0] rfl c__law_draw.ok (hr.mono (by omega)) (by rfl) c__law_draw.g c__law_draw.kp c__law_draw.b passN (a_cons (e_slot 0) (a_cons e_int a_nil)))) (d_cons (e_op op_addAll loc_add e_int (e_call [0] rfl c__law_draw.ok (hr.mono (by omega)) (by rfl) c__law_draw.g c__law_draw.kp c__law_draw.b passN (a_cons (e_slot 0) (a_cons e_int a_nil)))) (d_cons (e_tup a_nil) d_nil))) (by with_unfolding_all rfl)))
  (s_cons (s_for PassesOwn.never rfl (tg_name (by show 4 < 6; decide) (by show 4 ∉ ([0] : List Nat); decide)) (i_rg1 (pi_range1 (by rfl) T.z_range (a_cons (e_var 2) a_nil))) (pg_name (i := 4) sc__law_parts.nd rfl (by first | exact Or.inl rfl | exact Or.inr rfl)) (s_cons (s_set 5 sc__law_parts.nd rfl (by first | exact Or.inl rfl | exact Or.inr rfl) (e_call [0] rfl c__law_body.ok (hr.mono (by omega)) (by rfl) c__law_body.g c__law_body.kp c__law_body.b passN (a_cons (e_slot 0) (a_cons (e_var 1) (a_cons (e_var 2) (a_cons e_int a_nil))))) (by show 5 ∉ ([0] : List Nat); decide) (by show 5 < 6; decide))
  (s_one (s_set 3 sc__law_parts.nd rfl (by first | exact Or.inl rfl | exact Or.inr rfl) (e_op op_addAll loc_add (e_var 3) (e_tup (a_cons (e_var 5) a_nil))) (by show 3 ∉ ([0] : List Nat); decide) (by show 3 < 6; decide)))))
  (s_one (s_ret (e_tup (a_cons (e_var 1) (a_cons (e_var 3) a_nil)))))))⟩
abbrev s__law_begins : Stmt := top 65
theorem sc__law_begins : FnScope ["hand", "cells", "cell"] ["hand", "cells"] (defScope s__law_begins) := ⟨rfl, rfl, rfl, by decide +kernel, rfl, by decide +kernel, by decide +kernel⟩
def e1__law_begins (f__law_any : List O → Rr) : ME := (mStl (mCall [0] 2 f__law_any (mCons [] (mSlot 0) (mCons [] (mStl (mN gLst (mCons [] (mC (.int 0)) (mCons [] (mC (.int 1)) (mCons [] (mC (.int 2)) (mCons [] (mC (.int 3)) (mCons [] (mC (.int 5)) (mCons [] (m1 gNeg (mC (.int 1))) (mCons [] (m1 gNeg (mC (.int 4))) (mCons [] (mC (.int 12)) (mCons [] (m2 (gIc cPow2 fun i j => .int (i ^ j.toNat)) [] (mC (.int 10)) (mC (.int 19))) mNil))))))))))) mNil))))
def b__law_begins (f__law_any : List O → Rr) : MS := (msRet (mN gTupleOf (mCons [] (mLc [2, 2, 0] [2] (setT [2]) (iRg1 (mCons [] (mVar 1) mNil)) mYes (e1__law_begins f__law_any)) mNil)))
theorem ok__law_begins {f : Addr} {fd : FuncData} {k : Nat} (T : Txt w K mg cl aS eS nS) {f__law_any : List O → Rr} {a__law_any : Addr} {d__law_any : FuncData} {k__law_any : Nat} (l__law_any : k__law_any ≤ k) (c__law_any : CalF P w K mg base k__law_any "_law_any" ["hand", "items"] (spG K cl 2 f__law_any) a__law_any d__law_any) (F : Fun K "_law_begins" "_law_begins" s__law_begins f fd) : FnOk P w K mg base CX0 (k + 1) f fd ["hand", "cells"] (spG K cl 2 (runDef [0] 1 (b__law_begins f__law_any))) :=
  fn_def2 F sc__law_begins (by decide) fun cdv A outer s H E F0 H0 io vs hr => ⟨_, (s_one (s_ret (e_cb (loc_tupleOf) (pe_callTy call_tuple_of (by rfl) T.z_tuple rfl (a_cons (e_lc (vs := [2]) (tg_name (by show 2 < 3; decide) (by show 2 ∉ ([0] : List Nat); decide)) (by decide) (by show ∀ i ∈ ([2] : List Nat), i ∉ ([0] : List Nat); decide) (pe_lc (own := [("cell", 2)]) rfl sc__law_begins.nd (i_rg1 (pi_range1 (by rfl) T.z_range (a_cons (e_var 1) a_nil))) (blkOk_by (N := ["hand", "cells", "cell"]) (sc := defScope s__law_begins) (by decide +kernel)) (fun _ _ _ _ _ => (pg_name (i := 2) sc__law_begins.nd rfl (by first | exact Or.inl rfl | exact Or.inr rfl))) (fun _ _ _ _ _ => ts_nil) (fun _ _ _ _ _ => (e_stl (e_call [0] rfl c__law_any.ok (hr.mono (by omega)) (by rfl) c__law_any.g c__law_any.kp c__law_any.b passN (a_cons (e_slot 0) (a_cons (e_stl (e_lst (a_cons e_int (a_cons e_int (a_cons e_int (a_cons e_int (a_cons e_int (a_cons (e_un un_neg loc_neg e_int) (a_cons (e_un un_neg loc_neg e_int) (a_cons e_int (a_cons (e_op op_powW loc_powW e_int e_int) a_nil))))))))))) a_nil))))))) a_nil)))))⟩
abbrev s__law_value : Stmt := top 66
theorem sc__law_value : FnScope ["total", "values", "found", "many", "value"] ["total", "values"] (defScope s__law_value) := ⟨rfl, rfl, rfl, by decide +kernel, rfl, by decide +kernel, by decide +kernel⟩
def e1__law_value : MS := (msSet 2 (m2 gAdd [] (mVar 2) (m2 gMul [] (mVar 3) (mVar 4))))
def b__law_value : MS := (msSeq (msSet 2 (m2 gIx [] (mVar 0) (m1 gNeg (mC (.int 1)))))
  (msSeq (msFor [3, 4, 2] (setTup [3, 4]) (iZipM (mCons [] (mVar 0) (mCons [] (mVar 1) mNil))) (e1__law_value))
  (msRet (mVar 2))))
theorem ok__law_value {f : Addr} {fd : FuncData} {k : Nat} (T : Txt w K mg cl aS eS nS)  (F : Fun K "_law_value" "_law_value" s__law_value f fd) : FnOk P w K mg base CX0 (k + 1) f fd ["total", "values"] (spG K cl 2 (runDef [] 3 (b__law_value))) :=
  fn_def2 F sc__law_value (by decide) fun cdv A outer s H E F0 H0 io vs hr => ⟨_, (s_cons (s_set 2 sc__law_value.nd rfl (by first | exact Or.inl rfl | exact Or.inr rfl) (e_ix ix_seq (loc_ix) (e_var 0) (e_un un_neg loc_neg e_int) (fun _ _ => rfl)) (by show 2 ∉ ([] : List Nat); decide) (by show 2 < 5; decide))
  (s_cons (s_for PassesOwn.never rfl (tg_tup (is := [3, 4]) (n := 2) rfl (by show ∀ i ∈ ([3, 4] : List Nat), i < 5 ∧ i ∉ ([] : List Nat); decide)) (i_zip rfl (pi_zipG (by rfl) T.z_zip (a_cons (e_var 0) (a_cons (e_var 1) a_nil)))) (pg_tup rfl (pgs_cons (pg_name (i := 3) sc__law_value.nd rfl (by first | exact Or.inl rfl | exact Or.inr rfl)) (pgs_cons (pg_name (i := 4) sc__law_value.nd rfl (by first | exact Or.inl rfl | exact Or.inr rfl)) pgs_nil))) (s_one (s_set 2 sc__law_value.nd rfl (by first | exact Or.inl rfl | exact Or.inr rfl) (e_op op_addAll loc_add (e_var 2) (e_op op_mulAll (loc_mul) (e_var 3) (e_var 4))) (by show 2 ∉ ([] : List Nat); decide) (by show 2 < 5; decide))))
  (s_one (s_ret (e_var 2)))))⟩
abbrev s__law_test_holds : Stmt := top 67
theorem sc__law_test_holds : FnScope ["test", "values", "one", "other"] ["test", "values"] (defScope s__law_test_holds) := ⟨rfl, rfl, rfl, by decide +kernel, rfl, by decide +kernel, by decide +kernel⟩
def b__law_test_holds (f__law_value : List O → Rr) : MS := (msSeq (msPar [2, 3] (mCons [] (mRo 2 f__law_value (mCons [] (m2 gIx [] (mVar 0) (mC (.int 1))) (mCons [] (mVar 1) mNil))) (mCons [] (mRo 2 f__law_value (mCons [] (m2 gIx [] (mVar 0) (mC (.int 2))) (mCons [] (mVar 1) mNil))) mNil)))
  (msRet (mIf (mTest (m2 gEq [] (m2 gIx [] (mVar 0) (mC (.int 0))) (mC (.str "less")))) (m2 (gI fun i j => .bl (decide (i < j))) [] (mVar 2) (mVar 3)) (m2 gEq [] (mVar 2) (mVar 3)))))
theorem ok__law_test_holds {f : Addr} {fd : FuncData} {k : Nat} (T : Txt w K mg cl aS eS nS) {f__law_value : List O → Rr} {a__law_value : Addr} {d__law_value : FuncData} {k__law_value : Nat} (l__law_value : k__law_value ≤ k) (c__law_value : CalF P w K mg base k__law_value "_law_value" ["total", "values"] (spG K cl 2 f__law_value) a__law_value d__law_value) (F : Fun K "_law_test_holds" "_law_test_holds" s__law_test_holds f fd) : FnOk P w K mg base CX0 (k + 1) f fd ["test", "values"] (spG K cl 2 (runDef [] 2 (b__law_test_holds f__law_value))) :=
  fn_def2 F sc__law_test_holds (by decide) fun cdv A outer s H E F0 H0 io vs hr => ⟨_, (s_cons (s_par2 (by show ∀ i ∈ ([2, 3] : List Nat), i < 4 ∧ i ∉ ([] : List Nat); decide) (ps_par rfl sc__law_test_holds.nd rfl rfl (by decide) rfl rfl (d_cons (e_ro c__law_value.ok (hr.mono (by omega)) (by rfl) c__law_value.g c__law_value.kp c__law_value.b passN (a_cons (e_ix ix_seq (loc_ix) (e_var 0) e_int (fun _ _ => rfl)) (a_cons (e_var 1) a_nil))) (d_cons (e_ro c__law_value.ok (hr.mono (by omega)) (by rfl) c__law_value.g c__law_value.kp c__law_value.b passN (a_cons (e_ix ix_seq (loc_ix) (e_var 0) e_int (fun _ _ => rfl)) (a_cons (e_var 1) a_nil))) d_nil)) (by with_unfolding_all rfl)))
  (s_one (s_ret (e_if (t_cmp (op_eqD hr.units) (loc_eq) (e_ix ix_seq (loc_ix) (e_var 0) e_int (fun _ _ => rfl)) e_str) (e_cmp op_lt loc_lt (e_var 2) (e_var 3)) (e_cmp (op_eqD hr.units) (loc_eq) (e_var 2) (e_var 3))))))⟩
abbrev s__law_run : Stmt := top 68
theorem sc__law_run : FnScope ["parts", "begins", "most", "values", "said", "steps", "still", "left", "here", "value", "number", "is_fault"] ["parts", "begins", "most"] (defScope s__law_run) := ⟨rfl, rfl, rfl, by decide +kernel, rfl, by decide +kernel, by decide +kernel⟩
def e1__law_run (f__law_value : List O → Rr) (f__law_test_holds : List O → Rr) : ME := (mN gAbs (mCons [] (mVar 9) mNil))
def e2__law_run (f__law_value : List O → Rr) (f__law_test_holds : List O → Rr) : ME := (mN gAbs (mCons [] (mVar 10) mNil))
def e3__law_run (f__law_value : List O → Rr) (f__law_test_holds : List O → Rr) : MT := (tmAnd (mTest (m2 (gI fun i j => .bl (decide (j < i))) [] (mN gLen (mCons [] (mVar 7) mNil)) (mC (.int 0)))) (mTest (m2 (gI fun i j => .bl (decide (i < j))) [] (mVar 5) (mVar 2))))
def e4__law_run (f__law_value : List O → Rr) (f__law_test_holds : List O → Rr) : MS := (msSeq (msSet 8 (m2 gIx [] (mVar 7) (m1 gNeg (mC (.int 1)))))
  (msSeq (msIf (tmAnd (mTest (m2 gEq [] (m2 gIx [] (mVar 8) (mC (.int 0))) (mC (.str "call")))) (mTest (m2 gEq [] (mVar 6) (mC (.int 20))))) (msRet (mN gTup (mCons [] (mN gTupleOf (mCons [] (mVar 4) mNil)) (mCons [] (mC (.str "fault")) (mCons [] (mN gTupleOf (mCons [] (mVar 3) mNil)) mNil))))) msNil)
  (msSeq (msExpr (mPop [7] (mVar 7)))
  (msSeq (msSet 5 (m2 gAdd [] (mVar 5) (mC (.int 1))))
  (msSeq (msIf (mTest (m2 gEq [] (m2 gIx [] (mVar 8) (mC (.int 0))) (mC (.str "set")))) (msSetIx [3] [] [] (mRo 2 f__law_value (mCons [] (m2 gIx [] (mVar 8) (mC (.int 2))) (mCons [] (mVar 3) mNil))) (mVar 3) (m2 gIx [] (mVar 8) (mC (.int 1)))) (msIf (mTest (m2 gEq [] (m2 gIx [] (mVar 8) (mC (.int 0))) (mC (.str "say")))) (msExpr (mAppend [4] [] (mVar 4) (mRo 2 f__law_value (mCons [] (m2 gIx [] (mVar 8) (mC (.int 1))) (mCons [] (mVar 3) mNil))))) (msIf (mTest (m2 gEq [] (m2 gIx [] (mVar 8) (mC (.int 0))) (mC (.str "call")))) (msSeq (msSet 6 (m2 gAdd [] (mVar 6) (mC (.int 1))))
  (msExpr (mExtend [7] [] (mVar 7) (m2 gAdd [] (m2 gAdd [] (mN gLst (mCons [] (mN gTup (mCons [] (mC (.str "end")) mNil)) mNil)) (m1 gRev (mN gListOf (mCons [] (m2 gIx [] (m2 gIx [] (mVar 0) (mC (.int 1))) (m2 gIx [] (mVar 8) (mC (.int 1)))) mNil)))) (mN gLst (mCons [] (mN gTup (mCons [] (mC (.str "begin")) mNil)) mNil)))))) (msIf (mTest (m2 gEq [] (m2 gIx [] (mVar 8) (mC (.int 0))) (mC (.str "if")))) (msExpr (mExtend [7] [] (mVar 7) (m2 gAdd [] (mN gLst (mCons [] (mN gTup (mCons [] (mC (.str "join")) mNil)) mNil)) (m1 gRev (mN gListOf (mCons [] (m2 gIx [] (mVar 8) (mIf (mTest (mRo 2 f__law_test_holds (mCons [] (m2 gIx [] (mVar 8) (mC (.int 1))) (mCons [] (mVar 3) mNil)))) (mC (.int 2)) (mC (.int 3)))) mNil)))))) (msIf (tmAnd (mTest (m2 gEq [] (m2 gIx [] (mVar 8) (mC (.int 0))) (mC (.str "while")))) (mTest (mRo 2 f__law_test_holds (mCons [] (m2 gIx [] (mVar 8) (mC (.int 1))) (mCons [] (mVar 3) mNil))))) (msExpr (mExtend [7] [] (mVar 7) (m2 gAdd [] (mN gLst (mCons [] (mVar 8) mNil)) (m1 gRev (mN gListOf (mCons [] (m2 gIx [] (mVar 8) (mC (.int 2))) mNil)))))) (msIf (mTest (m2 gEq [] (m2 gIx [] (mVar 8) (mC (.int 0))) (mC (.str "end")))) (msSet 6 (m2 (gI fun i j => .int (i - j)) [] (mVar 6) (mC (.int 1)))) msNil))))))
  (msIf (mTest (m2 (gI fun i j => .bl (decide (j < i))) [] (mN gMaxL (mCons [] (m2 gAdd [10, 10] (mLc [9, 9] [9] (setT [9]) (iSeq false (mVar 3)) mYes (e1__law_run f__law_value f__law_test_holds)) (mLc [10, 10] [10] (setT [10]) (iSeq false (mStl (mSl [] (mVar 4) (oSome (m1 gNeg (mC (.int 1)))) oNone))) mYes (e2__law_run f__law_value f__law_test_holds))) mNil)) (m2 (gIc cPow2 fun i j => .int (i ^ j.toNat)) [] (m2 (gIc cPow2 fun i j => .int (i ^ j.toNat)) [] (mC (.int 10)) (mC (.int 50))) (mC (.int 18))))) (msRet (mC .non)) msNil))))))
noncomputable def b__law_run (f__law_value : List O → Rr) (f__law_test_holds : List O → Rr) : MS := (msSeq (msPar [3, 4, 5, 6] (mCons [] (mN gListOf (mCons [] (mVar 1) mNil)) (mCons [] (mN gLst mNil) (mCons [] (mC (.int 0)) (mCons [] (mC (.int 1)) mNil)))))
  (msSeq (msSet 7 (m2 gAdd [] (m2 gAdd [] (mN gLst (mCons [] (mN gTup (mCons [] (mC (.str "end")) mNil)) mNil)) (m1 gRev (mN gListOf (mCons [] (m2 gIx [] (m2 gIx [] (mVar 0) (mC (.int 1))) (mC (.int 0))) mNil)))) (mN gLst (mCons [] (mN gTup (mCons [] (mC (.str "begin")) mNil)) mNil))))
  (msSeq (msWhile (e3__law_run f__law_value f__law_test_holds) (e4__law_run f__law_value f__law_test_holds))
  (msSeq (msSet 11 (mAnd (m2 (gI fun i j => .bl (decide (j < i))) [] (mN gLen (mCons [] (mVar 7) mNil)) (mC (.int 0))) (mAnd (m2 gEq [] (m2 gIx [] (m2 gIx [] (mVar 7) (m1 gNeg (mC (.int 1)))) (mC (.int 0))) (mC (.str "call"))) (m2 gEq [] (mVar 6) (mC (.int 20))))))
  (msRet (mN gTup (mCons [] (mN gTupleOf (mCons [] (mVar 4) mNil)) (mCons [] (mIf (mTest (m2 gEq [] (mN gLen (mCons [] (mVar 7) mNil)) (mC (.int 0)))) (mC (.str "over")) (mIf (mTest (mVar 11)) (mC (.str "fault")) (mC (.str "on")))) (mCons [] (mN gTupleOf (mCons [] (mVar 3) mNil)) mNil)))))))))
theorem ok__law_run {f : Addr} {fd : FuncData} {k : Nat} (T : Txt w K mg cl aS eS nS) {f__law_value : List O → Rr} {a__law_value : Addr} {d__law_value : FuncData} {k__law_value : Nat} (l__law_value : k__law_value ≤ k) (c__law_value : CalF P w K mg base k__law_value "_law_value" ["total", "values"] (spG K cl 2 f__law_value) a__law_value d__law_value) {f__law_test_holds : List O → Rr} {a__law_test_holds : Addr} {d__law_test_holds : FuncData} {k__law_test_holds : Nat} (l__law_test_holds : k__law_test_holds ≤ k) (c__law_test_holds : CalF P w K mg base k__law_test_holds "_law_test_holds" ["test", "values"] (spG K cl 2 f__law_test_holds) a__law_test_holds d__law_test_holds) (F : Fun K "_law_run" "_law_run" s__law_run f fd) : FnOk P w K mg base CX0 (k + 1) f fd ["parts", "begins", "most"] (spG K cl 3 (runDef [] 9 (b__law_run f__law_value f__law_test_holds))) :=
  fn_def2 F sc__law_run (by decide) fun cdv A outer s H E F0 H0 io vs hr => ⟨_, (s_cons (s_parN (is := [3, 4, 5, 6]) (k := 4) rfl (by decide) (by show ∀ i ∈ ([3, 4, 5, 6] : List Nat), i < 12 ∧ i ∉ ([] : List Nat); decide) (ps_asg (pe_tup (d_cons (e_cb (loc_listOf) (pe_callTy call_list_of (by rfl) T.z_list rfl (a_cons (e_var 1) a_nil))) (d_cons (e_lst a_nil) (d_cons e_int (d_cons e_int d_nil))))) (pg_tup rfl (pgs_cons (pg_name (i := 3) sc__law_run.nd rfl (by first | exact Or.inl rfl | exact Or.inr rfl)) (pgs_cons (pg_name (i := 4) sc__law_run.nd rfl (by first | exact Or.inl rfl | exact Or.inr rfl)) (pgs_cons (pg_name (i := 5) sc__law_run.nd rfl (by first | exact Or.inl rfl | exact Or.inr rfl)) (pgs_cons (pg_name (i := 6) sc__law_run.nd rfl (by first | exact Or.inl rfl | exact Or.inr rfl)) pgs_nil)))))))
  (s_cons (s_set 7 sc__law_run.nd rfl (by first | exact Or.inl rfl | exact Or.inr rfl) (e_op op_addAll loc_add (e_op op_addAll loc_add (e_lst (a_cons (e_tup (a_cons e_str a_nil)) a_nil)) (e_rev rfl (pe_revL (e_cb (loc_listOf) (pe_callTy call_list_of (by rfl) T.z_list rfl (a_cons (e_ix ix_seq (loc_ix) (e_ix ix_seq (loc_ix) (e_var 0) e_int (fun _ _ => rfl)) e_int (fun _ _ => rfl)) a_nil)))))) (e_lst (a_cons (e_tup (a_cons e_str a_nil)) a_nil))) (by show 7 ∉ ([] : List Nat); decide) (by show 7 < 12; decide))
  (s_cons (s_while PassesOwn.never (t_w (w_and (t_cmp op_gt loc_gt (e_cb (loc_len) (pe_callB call_len (by rfl) T.z_len rfl (a_cons (e_var 7) a_nil))) e_int) (w_and1 (t_cmp op_lt loc_lt (e_var 5) (e_var 2))))) (s_cons (s_set 8 sc__law_run.nd rfl (by first | exact Or.inl rfl | exact Or.inr rfl) (e_ix ix_seq (loc_ix) (e_var 7) (e_un un_neg loc_neg e_int) (fun _ _ => rfl)) (by show 8 ∉ ([] : List Nat); decide) (by show 8 < 12; decide))
  (s_cons (s_if (t_w (w_and (t_cmp (op_eqD hr.units) (loc_eq) (e_ix ix_seq (loc_ix) (e_var 8) e_int (fun _ _ => rfl)) e_str) (w_and1 (t_cmp (op_eqD hr.units) (loc_eq) (e_var 6) e_int)))) (s_one (s_ret (e_tup (a_cons (e_cb (loc_tupleOf) (pe_callTy call_tuple_of (by rfl) T.z_tuple rfl (a_cons (e_var 4) a_nil))) (a_cons e_str (a_cons (e_cb (loc_tupleOf) (pe_callTy call_tuple_of (by rfl) T.z_tuple rfl (a_cons (e_var 3) a_nil))) a_nil)))))) s_nil)
  (s_cons (s_expr (e_pop [7] rfl (pe_bm0 PySem.F.plainAttrs_list PySem.F.slot_list_pop PySem.F.type_list_pop mt_pop (e_var 7))))
  (s_cons (s_set 5 sc__law_run.nd rfl (by first | exact Or.inl rfl | exact Or.inr rfl) (e_op op_addAll loc_add (e_var 5) e_int) (by show 5 ∉ ([] : List Nat); decide) (by show 5 < 12; decide))
  (s_cons (s_if (t_cmp (op_eqD hr.units) (loc_eq) (e_ix ix_seq (loc_ix) (e_var 8) e_int (fun _ _ => rfl)) e_str) (s_one (s_setIx [3] (ps_asg (e_ro c__law_value.ok (hr.mono (by omega)) (by rfl) c__law_value.g c__law_value.kp c__law_value.b passN (a_cons (e_ix ix_seq (loc_ix) (e_var 8) e_int (fun _ _ => rfl)) (a_cons (e_var 3) a_nil))) (pg_sub (e_var 3) (e_ix ix_seq (loc_ix) (e_var 8) e_int (fun _ _ => rfl)) set_list)))) (s_one (s_if (t_cmp (op_eqD hr.units) (loc_eq) (e_ix ix_seq (loc_ix) (e_var 8) e_int (fun _ _ => rfl)) e_str) (s_one (s_expr (e_append [4] rfl (pe_bm PySem.F.plainAttrs_list PySem.F.slot_list_append PySem.F.type_list_append mt_append (e_var 4) (a_one (e_ro c__law_value.ok (hr.mono (by omega)) (by rfl) c__law_value.g c__law_value.kp c__law_value.b passN (a_cons (e_ix ix_seq (loc_ix) (e_var 8) e_int (fun _ _ => rfl)) (a_cons (e_var 3) a_nil)))))))) (s_one (s_if (t_cmp (op_eqD hr.units) (loc_eq) (e_ix ix_seq (loc_ix) (e_var 8) e_int (fun _ _ => rfl)) e_str) (s_cons (s_set 6 sc__law_run.nd rfl (by first | exact Or.inl rfl | exact Or.inr rfl) (e_op op_addAll loc_add (e_var 6) e_int) (by show 6 ∉ ([] : List Nat); decide) (by show 6 < 12; decide))
  (s_one (s_expr (e_extend [7] rfl (pe_bm PySem.F.plainAttrs_list PySem.F.slot_list_extend PySem.F.type_list_extend mt_extend (e_var 7) (a_one (e_op op_addAll loc_add (e_op op_addAll loc_add (e_lst (a_cons (e_tup (a_cons e_str a_nil)) a_nil)) (e_rev rfl (pe_revL (e_cb (loc_listOf) (pe_callTy call_list_of (by rfl) T.z_list rfl (a_cons (e_ix ix_seq (loc_ix) (e_ix ix_seq (loc_ix) (e_var 0) e_int (fun _ _ => rfl)) (e_ix ix_seq (loc_ix) (e_var 8) e_int (fun _ _ => rfl)) (fun _ _ => rfl)) a_nil)))))) (e_lst (a_cons (e_tup (a_cons e_str a_nil)) a_nil))))))))) (s_one (s_if (t_cmp (op_eqD hr.units) (loc_eq) (e_ix ix_seq (loc_ix) (e_var 8) e_int (fun _ _ => rfl)) e_str) (s_one (s_expr (e_extend [7] rfl (pe_bm PySem.F.plainAttrs_list PySem.F.slot_list_extend PySem.F.type_list_extend mt_extend (e_var 7) (a_one (e_op op_addAll loc_add (e_lst (a_cons (e_tup (a_cons e_str a_nil)) a_nil)) (e_rev rfl (pe_revL (e_cb (loc_listOf) (pe_callTy call_list_of (by rfl) T.z_list rfl (a_cons (e_ix ix_seq (loc_ix) (e_var 8) (e_if (t_val (e_ro c__law_test_holds.ok (hr.mono (by omega)) (by rfl) c__law_test_holds.g c__law_test_holds.kp c__law_test_holds.b passN (a_cons (e_ix ix_seq (loc_ix) (e_var 8) e_int (fun _ _ => rfl)) (a_cons (e_var 3) a_nil)))) e_int e_int) (fun _ _ => rfl)) a_nil))))))))))) (s_one (s_if (t_w (w_and (t_cmp (op_eqD hr.units) (loc_eq) (e_ix ix_seq (loc_ix) (e_var 8) e_int (fun _ _ => rfl)) e_str) (w_and1 (t_val (e_ro c__law_test_holds.ok (hr.mono (by omega)) (by rfl) c__law_test_holds.g c__law_test_holds.kp c__law_test_holds.b passN (a_cons (e_ix ix_seq (loc_ix) (e_var 8) e_int (fun _ _ => rfl)) (a_cons (e_var 3) a_nil))))))) (s_one (s_expr (e_extend [7] rfl (pe_bm PySem.F.plainAttrs_list PySem.F.slot_list_extend PySem.F.type_list_extend mt_extend (e_var 7) (a_one (e_op op_addAll loc_add (e_lst (a_cons (e_var 8) a_nil)) (e_rev rfl (pe_revL (e_cb (loc_listOf) (pe_callTy call_list_of (by rfl) T.z_list rfl (a_cons (e_ix ix_seq (loc_ix) (e_var 8) e_int (fun _ _ => rfl)) a_nil))))))))))) (s_one (s_if (t_cmp (op_eqD hr.units) (loc_eq) (e_ix ix_seq (loc_ix) (e_var 8) e_int (fun _ _ => rfl)) e_str) (s_one (s_set 6 sc__law_run.nd rfl (by first | exact Or.inl rfl | exact Or.inr rfl) (e_op op_sub loc_sub (e_var 6) e_int) (by show 6 ∉ ([] : List Nat); decide) (by show 6 < 12; decide))) s_nil)))))))))))
  (s_one (s_if (t_cmp op_gt loc_gt (e_cb (loc_maxL) (pe_callB (cr_max rfl) (by rfl) T.z_max rfl (a_cons (e_op op_addAll loc_add (e_lc (vs := [9]) (tg_name (by show 9 < 12; decide) (by show 9 ∉ ([] : List Nat); decide)) (by decide) (by show ∀ i ∈ ([9] : List Nat), i ∉ ([] : List Nat); decide) (pe_lc (own := [("value", 9)]) rfl sc__law_run.nd (i_list rfl (e_var 3)) (blkOk_by (N := ["parts", "begins", "most", "values", "said", "steps", "still", "left", "here", "value", "number", "is_fault"]) (sc := defScope s__law_run) (by decide +kernel)) (fun _ _ _ _ _ => (pg_name (i := 9) sc__law_run.nd rfl (by first | exact Or.inl rfl | exact Or.inr rfl))) (fun _ _ _ _ _ => ts_nil) (fun _ _ _ _ _ => (e_cb loc_abs (pe_callB call_abs (by rfl) T.z_abs rfl (a_cons (e_var 9) a_nil)))))) (e_lc (vs := [10]) (tg_name (by show 10 < 12; decide) (by show 10 ∉ ([] : List Nat); decide)) (by decide) (by show ∀ i ∈ ([10] : List Nat), i ∉ ([] : List Nat); decide) (pe_lc (own := [("number", 10)]) rfl sc__law_run.nd (i_list rfl (e_stl (e_sl rfl (e_var 4) (o_some (e_un un_neg loc_neg e_int)) o_none))) (blkOk_by (N := ["parts", "begins", "most", "values", "said", "steps", "still", "left", "here", "value", "number", "is_fault"]) (sc := defScope s__law_run) (by decide +kernel)) (fun _ _ _ _ _ => (pg_name (i := 10) sc__law_run.nd rfl (by first | exact Or.inl rfl | exact Or.inr rfl))) (fun _ _ _ _ _ => ts_nil) (fun _ _ _ _ _ => (e_cb loc_abs (pe_callB call_abs (by rfl) T.z_abs rfl (a_cons (e_var 10) a_nil))))))) a_nil))) (e_op op_powW loc_powW (e_op op_powW loc_powW e_int e_int) e_int)) (s_one (s_ret e_non)) s_nil))))))))
  (s_cons (s_set 11 sc__law_run.nd rfl (by first | exact Or.inl rfl | exact Or.inr rfl) (e_and (e_cmp op_gt loc_gt (e_cb (loc_len) (pe_callB call_len (by rfl) T.z_len rfl (a_cons (e_var 7) a_nil))) e_int) (e_and (e_cmp (op_eqD hr.units) (loc_eq) (e_ix ix_seq (loc_ix) (e_ix ix_seq (loc_ix) (e_var 7) (e_un un_neg loc_neg e_int) (fun _ _ => rfl)) e_int (fun _ _ => rfl)) e_str) (e_one (e_cmp (op_eqD hr.units) (loc_eq) (e_var 6) e_int)))) (by show 11 ∉ ([] : List Nat); decide) (by show 11 < 12; decide))
  (s_one (s_ret (e_tup (a_cons (e_cb (loc_tupleOf) (pe_callTy call_tuple_of (by rfl) T.z_tuple rfl (a_cons (e_var 4) a_nil))) (a_cons (e_if (t_cmp (op_eqD hr.units) (loc_eq) (e_cb (loc_len) (pe_callB call_len (by rfl) T.z_len rfl (a_cons (e_var 7) a_nil))) e_int) e_str (e_if (t_val (e_var 11)) e_str e_str)) (a_cons (e_cb (loc_tupleOf) (pe_callTy call_tuple_of (by rfl) T.z_tuple rfl (a_cons (e_var 3) a_nil))) a_nil))))))))))⟩
abbrev s_law : Stmt := top 69
theorem sc_law : FnScope ["script", "hand", "turn", "parts", "book", "begins", "some", "elder", "most", "due", "told"] ["script"] (defScope s_law) := ⟨rfl, rfl, rfl, by decide +kernel, rfl, by decide +kernel, by decide +kernel⟩
def e1_law (f__law_hand : List O → Rr) (f__law_parts : List O → Rr) (f_Book___init__ : List O → Rr) (f__law_begins : List O → Rr) (f__law_draw : List O → Rr) (f__law_any : List O → Rr) (f__law_run : List O → Rr) (f_ran : List O → Rr) (f__law_is : List O → Rr) : MS := (msSeq (msSet 9 (mCall [] 3 f__law_run (mCons [] (mVar 3) (mCons [] (mVar 5) (mCons [] (mVar 8) mNil)))))
  (msSeq (msIf (mTest (m2 (gIs false) [] (mVar 9) (mC .non))) msBrk msNil)
  (msSeq (msSet 10 (mCall [] 3 f_ran (mCons [] (mVar 4) (mCons [] (mVar 5) (mCons [] (mVar 8) mNil)))))
  (msSeq (msIf (tmOr (tmNot (mTest (mCall [] 2 f__law_is (mCons [] (mVar 10) (mCons [] (mVar 9) mNil))))) (mTest (m2 gNe [] (mSl [] (m2 gIx [] (mVar 10) (mC (.int 0))) oNone (oSome (mN gLen (mCons [] (mVar 7) mNil)))) (mVar 7)))) (msRet (mC (.bl false))) msNil)
  (msSet 7 (m2 gIx [] (mVar 10) (mC (.int 0))))))))
def e2_law (f__law_hand : List O → Rr) (f__law_parts : List O → Rr) (f_Book___init__ : List O → Rr) (f__law_begins : List O → Rr) (f__law_draw : List O → Rr) (f__law_any : List O → Rr) (f__law_run : List O → Rr) (f_ran : List O → Rr) (f__law_is : List O → Rr) : MS := (msSeq (msSet 3 (mCall [1] 1 f__law_parts (mCons [] (mSlot 1) mNil)))
  (msSeq (msPar [4, 5] (mCons [1] (mStl (mMake [] 0 3 f_Book___init__ (mCons [] (m2 gIx [] (mVar 3) (mC (.int 0))) (mCons [] (m2 gIx [] (mVar 3) (mC (.int 1))) mNil)))) (mCons [] (mCall [1] 2 f__law_begins (mCons [] (mSlot 1) (mCons [] (m2 gIx [] (mVar 3) (mC (.int 0))) mNil))) mNil)))
  (msSeq (msSet 6 (m2 gAdd [1] (m1 gLRg (m2 gAdd [1] (mC (.int 1)) (mCall [1] 2 f__law_draw (mCons [] (mSlot 1) (mCons [] (mC (.int 40)) mNil))))) (mN gLst (mCons [] (mStl (mCall [1] 2 f__law_any (mCons [] (mSlot 1) (mCons [] (mStl (mN gLst (mCons [] (mC (.int 60)) (mCons [] (mC (.int 200)) (mCons [] (mC (.int 700)) (mCons [] (mC (.int 5000)) mNil)))))) mNil)))) mNil))))
  (msSeq (msSet 7 (mN gTup mNil))
  (msFor [8, 9, 10, 7] (setT [8]) (iSeq false (mVar 6)) (e1_law f__law_hand f__law_parts f_Book___init__ f__law_begins f__law_draw f__law_any f__law_run f_ran f__law_is))))))
def b_law (f__law_hand : List O → Rr) (f__law_parts : List O → Rr) (f_Book___init__ : List O → Rr) (f__law_begins : List O → Rr) (f__law_draw : List O → Rr) (f__law_any : List O → Rr) (f__law_run : List O → Rr) (f_ran : List O → Rr) (f__law_is : List O → Rr) : MS := (msSeq (msSet 1 (mCall [] 1 f__law_hand (mCons [] (mVar 0) mNil)))
  (msSeq (msFor [2, 1, 3, 1, 4, 5, 1, 1, 6, 7, 8, 9, 10, 7] (setT [2]) (iRg1 (mCons [] (mC (.int 4)) mNil)) (e2_law f__law_hand f__law_parts f_Book___init__ f__law_begins f__law_draw f__law_any f__law_run f_ran f__law_is))
  (msRet (mC (.bl true)))))
theorem ok_law {f : Addr} {fd : FuncData} {k : Nat} (T : Txt w K mg cl aS eS nS) {f__law_hand : List O → Rr} {a__law_hand : Addr} {d__law_hand : FuncData} {k__law_hand : Nat} (l__law_hand : k__law_hand ≤ k) (c__law_hand : CalF P w K mg base k__law_hand "_law_hand" ["script"] (spG K cl 1 f__law_hand) a__law_hand d__law_hand) {f__law_parts : List O → Rr} {a__law_parts : Addr} {d__law_parts : FuncData} {k__law_parts : Nat} (l__law_parts : k__law_parts ≤ k) (c__law_parts : CalF P w K mg base k__law_parts "_law_parts" ["hand"] (spG K cl 1 f__law_parts) a__law_parts d__law_parts) {f_Book___init__ : List O → Rr} {a_Book___init__ : Addr} {d_Book___init__ : FuncData} {k_Book___init__ : Nat} (l_Book___init__ : k_Book___init__ + 1 ≤ k) (c_Book___init__ : CalI P w K mg base k_Book___init__ (cl 0) "Book" ["self", "cells", "routines"] (spG K cl 3 f_Book___init__) a_Book___init__ d_Book___init__) {f__law_begins : List O → Rr} {a__law_begins : Addr} {d__law_begins : FuncData} {k__law_begins : Nat} (l__law_begins : k__law_begins ≤ k) (c__law_begins : CalF P w K mg base k__law_begins "_law_begins" ["hand", "cells"] (spG K cl 2 f__law_begins) a__law_begins d__law_begins) {f__law_draw : List O → Rr} {a__law_draw : Addr} {d__law_draw : FuncData} {k__law_draw : Nat} (l__law_draw : k__law_draw ≤ k) (c__law_draw : CalF P w K mg base k__law_draw "_law_draw" ["hand", "many"] (spG K cl 2 f__law_draw) a__law_draw d__law_draw) {f__law_any : List O → Rr} {a__law_any : Addr} {d__law_any : FuncData} {k__law_any : Nat} (l__law_any : k__law_any ≤ k) (c__law_any : CalF P w K mg base k__law_any "_law_any" ["hand", "items"] (spG K cl 2 f__law_any) a__law_any d__law_any) {f__law_run : List O → Rr} {a__law_run : Addr} {d__law_run : FuncData} {k__law_run : Nat} (l__law_run : k__law_run ≤ k) (c__law_run : CalF P w K mg base k__law_run "_law_run" ["parts", "begins", "most"] (spG K cl 3 f__law_run) a__law_run d__law_run) {f_ran : List O → Rr} {a_ran : Addr} {d_ran : FuncData} {k_ran : Nat} (l_ran : k_ran ≤ k) (c_ran : CalF P w K mg base k_ran "ran" ["book", "begins", "most"] (spG K cl 3 f_ran) a_ran d_ran) {f__law_is : List O → Rr} {a__law_is : Addr} {d__law_is : FuncData} {k__law_is : Nat} (l__law_is : k__law_is ≤ k) (c__law_is : CalF P w K mg base k__law_is "_law_is" ["told", "due"] (spG K cl 2 f__law_is) a__law_is d__law_is) (F : Fun K "law" "law" s_law f fd) : FnOk P w K mg base CX0 (k + 1) f fd ["script"] (spG K cl 1 (runDef [] 10 (b_law f__law_hand f__law_parts f_Book___init__ f__law_begins f__law_draw f__law_any f__law_run f_ran f__law_is))) :=
  fn_def2 F sc_law (by decide) fun cdv A outer s H E F0 H0 io vs hr => ⟨_, (s_cons (s_set 1 sc_law.nd rfl (by first | exact Or.inl rfl | exact Or.inr rfl) (e_call [] rfl c__law_hand.ok (hr.mono (by omega)) (by rfl) c__law_hand.g c__law_hand.kp c__law_hand.b passN (a_cons (e_var 0) a_nil)) (by show 1 ∉ ([] : List Nat); decide) (by show 1 < 11; decide))
  (s_cons (s_for PassesOwn.never rfl (tg_name (by show 2 < 11; decide) (by show 2 ∉ ([] : List Nat); decide)) (i_rg1 (pi_range1 (by rfl) T.z_range (a_cons e_int a_nil))) (pg_name (i := 2) sc_law.nd rfl (by first | exact Or.inl rfl | exact Or.inr rfl)) (s_cons (s_set 3 sc_law.nd rfl (by first | exact Or.inl rfl | exact Or.inr rfl) (e_call [1] rfl c__law_parts.ok (hr.mono (by omega)) (by rfl) c__law_parts.g c__law_parts.kp c__law_parts.b passN (a_cons (e_slot 1) a_nil)) (by show 3 ∉ ([] : List Nat); decide) (by show 3 < 11; decide))
  (s_cons (s_par2 (by show ∀ i ∈ ([4, 5] : List Nat), i < 11 ∧ i ∉ ([] : List Nat); decide) (ps_par rfl sc_law.nd rfl rfl (by decide) rfl rfl (d_cons (e_stl (e_make [] 0 c_Book___init__.made c_Book___init__.ok (hr.mono (by omega)) (by rfl) c_Book___init__.g c_Book___init__.b passN (a_cons (e_ix ix_seq (loc_ix) (e_var 3) e_int (fun _ _ => rfl)) (a_cons (e_ix ix_seq (loc_ix) (e_var 3) e_int (fun _ _ => rfl)) a_nil)))) (d_cons (e_call [1] rfl c__law_begins.ok (hr.mono (by omega)) (by rfl) c__law_begins.g c__law_begins.kp c__law_begins.b passN (a_cons (e_slot 1) (a_cons (e_ix ix_seq (loc_ix) (e_var 3) e_int (fun _ _ => rfl)) a_nil))) d_nil)) (by with_unfolding_all rfl)))
  (s_cons (s_set 6 sc_law.nd rfl (by first | exact Or.inl rfl | exact Or.inr rfl) (e_op op_addAll loc_add (e_listRg (pe_listRg rfl (by rfl) T.z_list (prg_1 (by rfl) T.z_range (e_op op_addAll loc_add e_int (e_call [1] rfl c__law_draw.ok (hr.mono (by omega)) (by rfl) c__law_draw.g c__law_draw.kp c__law_draw.b passN (a_cons (e_slot 1) (a_cons e_int a_nil))))))) (e_lst (a_cons (e_stl (e_call [1] rfl c__law_any.ok (hr.mono (by omega)) (by rfl) c__law_any.g c__law_any.kp c__law_any.b passN (a_cons (e_slot 1) (a_cons (e_stl (e_lst (a_cons e_int (a_cons e_int (a_cons e_int (a_cons e_int a_nil)))))) a_nil)))) a_nil))) (by show 6 ∉ ([] : List Nat); decide) (by show 6 < 11; decide))
  (s_cons (s_set 7 sc_law.nd rfl (by first | exact Or.inl rfl | exact Or.inr rfl) (e_tup a_nil) (by show 7 ∉ ([] : List Nat); decide) (by show 7 < 11; decide))
  (s_one (s_for PassesOwn.never rfl (tg_name (by show 8 < 11; decide) (by show 8 ∉ ([] : List Nat); decide)) (i_list rfl (e_var 6)) (pg_name (i := 8) sc_law.nd rfl (by first | exact Or.inl rfl | exact Or.inr rfl)) (s_cons (s_set 9 sc_law.nd rfl (by first | exact Or.inl rfl | exact Or.inr rfl) (e_call [] rfl c__law_run.ok (hr.mono (by omega)) (by rfl) c__law_run.g c__law_run.kp c__law_run.b passN (a_cons (e_var 3) (a_cons (e_var 5) (a_cons (e_var 8) a_nil)))) (by show 9 ∉ ([] : List Nat); decide) (by show 9 < 11; decide))
  (s_cons (s_if (t_cmp op_isN loc_is (e_var 9) e_non) (s_one s_brk) s_nil)
  (s_cons (s_set 10 sc_law.nd rfl (by first | exact Or.inl rfl | exact Or.inr rfl) (e_call [] rfl c_ran.ok (hr.mono (by omega)) (by rfl) c_ran.g c_ran.kp c_ran.b passN (a_cons (e_var 4) (a_cons (e_var 5) (a_cons (e_var 8) a_nil)))) (by show 10 ∉ ([] : List Nat); decide) (by show 10 < 11; decide))
  (s_cons (s_if (t_w (w_or (t_not (t_val (e_call [] rfl c__law_is.ok (hr.mono (by omega)) (by rfl) c__law_is.g c__law_is.kp c__law_is.b passN (a_cons (e_var 10) (a_cons (e_var 9) a_nil))))) (w_or1 (t_cmp (op_neD hr.units) (loc_ne) (e_sl rfl (e_ix ix_seq (loc_ix) (e_var 10) e_int (fun _ _ => rfl)) o_none (o_some (e_cb (loc_len) (pe_callB call_len (by rfl) T.z_len rfl (a_cons (e_var 7) a_nil))))) (e_var 7))))) (s_one (s_ret e_bl)) s_nil)
  (s_one (s_set 7 sc_law.nd rfl (by first | exact Or.inl rfl | exact Or.inr rfl) (e_ix ix_seq (loc_ix) (e_var 10) e_int (fun _ _ => rfl)) (by show 7 ∉ ([] : List Nat); decide) (by show 7 < 11; decide))))))))))))))
  (s_one (s_ret e_bl))))⟩
end
end L3
namespace L3
open PySem L2
noncomputable def f_is_integer : List O → Rr := runDef [] 0 (b_is_integer)
noncomputable def f_is_within : List O → Rr := runDef [] 0 (b_is_within f_is_integer)
noncomputable def f_check_number : List O → Rr := runDef [] 0 (b_check_number f_is_within)
noncomputable def f_is_sum : List O → Rr := runDef [] 1 (b_is_sum f_is_within)
noncomputable def f_is_test : List O → Rr := runDef [] 0 (b_is_test f_is_sum)
noncomputable def f_body_size : Nat → List O → Rr
  | 0 => fun _ => .bad
  | n + 1 => runDef [] 3 (b_body_size (runDef [] 3 (b_statement_size f_is_within f_is_sum f_is_test (f_body_size n))))
noncomputable def f_statement_size (n : Nat) : List O → Rr := runDef [] 3 (b_statement_size f_is_within f_is_sum f_is_test (f_body_size n))
noncomputable def f_wrong_part : List O → Rr := runDef [] 3 (b_wrong_part f_is_within (f_body_size 9))
noncomputable def f_Book___init__ : List O → Rr := runDef [0] 1 (b_Book___init__ f_wrong_part)
noncomputable def f_Layout_ways_at : List O → Rr := runDef [] 0 (b_Layout_ways_at)
noncomputable def f_Layout_head_of : List O → Rr := runDef [] 2 (b_Layout_head_of)
noncomputable def f_Layout_place_for : List O → Rr := runDef [0] 0 (b_Layout_place_for)
noncomputable def f_Layout_lay : Nat → List O → Rr
  | 0 => fun _ => .bad
  | n + 1 => runDef [0] 5 (b_Layout_lay f_Layout_place_for (f_Layout_lay n))
noncomputable def f_Layout___init__ : List O → Rr := runDef [0] 3 (b_Layout___init__ (f_Layout_lay 20) f_Layout_ways_at f_Layout_head_of)
noncomputable def f_layout_of : List O → Rr := runDef [] 0 (b_layout_of f_is_within f_Layout___init__)
noncomputable def f_value_of : List O → Rr := runDef [] 2 (b_value_of)
noncomputable def f_holds : List O → Rr := runDef [] 2 (b_holds f_value_of)
noncomputable def f_are_contents : List O → Rr := runDef [] 1 (b_are_contents f_is_integer)
noncomputable def f_Moment___init__ : List O → Rr := runDef [0] 0 (b_Moment___init__)
noncomputable def f_Runner___init__ : List O → Rr := runDef [0] 1 (b_Runner___init__ f_are_contents f_layout_of f_Moment___init__)
noncomputable def f_Runner_now : List O → Rr := runDef [0] 0 (b_Runner_now)
noncomputable def f_Runner_deed_now : List O → Rr := runDef [0] 2 (b_Runner_deed_now f_Runner_now)
noncomputable def f_Runner_word : List O → Rr := runDef [0] 1 (b_Runner_word f_Runner_now f_Runner_deed_now)
noncomputable def f_Runner_contents : List O → Rr := runDef [0] 0 (b_Runner_contents f_Runner_now)
noncomputable def f_Runner_said : List O → Rr := runDef [0] 0 (b_Runner_said)
noncomputable def f_Runner_gone : List O → Rr := runDef [0] 4 (b_Runner_gone)
noncomputable def f_Runner_moved : List O → Rr := runDef [0] 2 (b_Runner_moved f_Runner_now f_Runner_deed_now f_Runner_gone f_holds)
noncomputable def f_Runner_step : List O → Rr := runDef [0] 4 (b_Runner_step f_Runner_word f_Runner_deed_now f_Runner_now f_Runner_moved f_value_of f_Moment___init__)
noncomputable def f_Runner_is_stopped : List O → Rr := runDef [0] 1 (b_Runner_is_stopped f_Runner_now)
noncomputable def f_Runner_go : List O → Rr := runDef [0] 1 (b_Runner_go f_check_number f_Runner_word f_Runner_is_stopped f_Runner_step)
noncomputable def f_ran : List O → Rr := runDef [] 2 (b_ran f_Runner___init__ f_Runner_go f_Runner_word f_Runner_said f_Runner_contents)
noncomputable def f__law_hand : List O → Rr := runDef [] 2 (b__law_hand)
noncomputable def f__law_draw : List O → Rr := runDef [0] 3 (b__law_draw)
noncomputable def f__law_any : List O → Rr := runDef [0] 0 (b__law_any f__law_draw)
noncomputable def f__law_is : Nat → List O → Rr
  | 0 => fun _ => .bad
  | n + 1 => runDef [] 2 (b__law_is (f__law_is n))
noncomputable def f__law_sum : List O → Rr := runDef [0] 2 (b__law_sum f__law_draw f__law_any)
noncomputable def f__law_alone : List O → Rr := runDef [] 1 (b__law_alone)
noncomputable def f__law_test : List O → Rr := runDef [0] 0 (b__law_test f__law_any f__law_sum)
noncomputable def f__law_size : Nat → List O → Rr
  | 0 => fun _ => .bad
  | n + 1 => runDef [] 4 (b__law_size (f__law_size n))
noncomputable def f__law_body : Nat → List O → Rr
  | 0 => fun _ => .bad
  | n + 1 => runDef [0] 2 (b__law_body f__law_draw (runDef [0] 4 (b__law_statement f__law_draw f__law_sum f__law_alone f__law_any (f__law_body n) f__law_test)) (f__law_size 20))
noncomputable def f__law_statement (n : Nat) : List O → Rr := runDef [0] 4 (b__law_statement f__law_draw f__law_sum f__law_alone f__law_any (f__law_body n) f__law_test)
noncomputable def f__law_parts : List O → Rr := runDef [0] 5 (b__law_parts f__law_draw (f__law_body 20))
noncomputable def f__law_begins : List O → Rr := runDef [0] 1 (b__law_begins f__law_any)
noncomputable def f__law_value : List O → Rr := runDef [] 3 (b__law_value)
noncomputable def f__law_test_holds : List O → Rr := runDef [] 2 (b__law_test_holds f__law_value)
noncomputable def f__law_run : List O → Rr := runDef [] 9 (b__law_run f__law_value f__law_test_holds)
noncomputable def f_law : List O → Rr := runDef [] 10 (b_law f__law_hand f__law_parts f_Book___init__ f__law_begins f__law_draw f__law_any f__law_run f_ran (f__law_is 5))
end L3
namespace L3
open PySem L2
@[simp] theorem sok_set : PyData.strOk (Str.ofString "set") = true := by decide +kernel
@[simp] theorem sok_say : PyData.strOk (Str.ofString "say") = true := by decide +kernel
@[simp] theorem sok_call : PyData.strOk (Str.ofString "call") = true := by decide +kernel
@[simp] theorem sok_if : PyData.strOk (Str.ofString "if") = true := by decide +kernel
@[simp] theorem sok_while : PyData.strOk (Str.ofString "while") = true := by decide +kernel
@[simp] theorem sok_less : PyData.strOk (Str.ofString "less") = true := by decide +kernel
@[simp] theorem sok_same : PyData.strOk (Str.ofString "same") = true := by decide +kernel
@[simp] theorem sok_begin : PyData.strOk (Str.ofString "begin") = true := by decide +kernel
@[simp] theorem sok_end : PyData.strOk (Str.ofString "end") = true := by decide +kernel
@[simp] theorem sok_join : PyData.strOk (Str.ofString "join") = true := by decide +kernel
@[simp] theorem sok_runs : PyData.strOk (Str.ofString "runs") = true := by decide +kernel
@[simp] theorem sok_over : PyData.strOk (Str.ofString "over") = true := by decide +kernel
@[simp] theorem sok_fault : PyData.strOk (Str.ofString "fault") = true := by decide +kernel
@[simp] theorem sok_on : PyData.strOk (Str.ofString "on") = true := by decide +kernel
@[simp] theorem sne_set_say : (Str.ofString "set" = Str.ofString "say") = False := eq_false (by decide +kernel)
@[simp] theorem sne_set_call : (Str.ofString "set" = Str.ofString "call") = False := eq_false (by decide +kernel)
@[simp] theorem sne_set_if : (Str.ofString "set" = Str.ofString "if") = False := eq_false (by decide +kernel)
@[simp] theorem sne_set_while : (Str.ofString "set" = Str.ofString "while") = False := eq_false (by decide +kernel)
@[simp] theorem sne_set_less : (Str.ofString "set" = Str.ofString "less") = False := eq_false (by decide +kernel)
@[simp] theorem sne_set_same : (Str.ofString "set" = Str.ofString "same") = False := eq_false (by decide +kernel)
@[simp] theorem sne_set_begin : (Str.ofString "set" = Str.ofString "begin") = False := eq_false (by decide +kernel)
@[simp] theorem sne_set_end : (Str.ofString "set" = Str.ofString "end") = False := eq_false (by decide +kernel)
@[simp] theorem sne_set_join : (Str.ofString "set" = Str.ofString "join") = False := eq_false (by decide +kernel)
@[simp] theorem sne_set_runs : (Str.ofString "set" = Str.ofString "runs") = False := eq_false (by decide +kernel)
@[simp] theorem sne_set_over : (Str.ofString "set" = Str.ofString "over") = False := eq_false (by decide +kernel)
@[simp] theorem sne_set_fault : (Str.ofString "set" = Str.ofString "fault") = False := eq_false (by decide +kernel)
@[simp] theorem sne_set_on : (Str.ofString "set" = Str.ofString "on") = False := eq_false (by decide +kernel)
@[simp] theorem sne_say_set : (Str.ofString "say" = Str.ofString "set") = False := eq_false (by decide +kernel)
@[simp] theorem sne_say_call : (Str.ofString "say" = Str.ofString "call") = False := eq_false (by decide +kernel)
@[simp] theorem sne_say_if : (Str.ofString "say" = Str.ofString "if") = False := eq_false (by decide +kernel)
@[simp] theorem sne_say_while : (Str.ofString "say" = Str.ofString "while") = False := eq_false (by decide +kernel)
@[simp] theorem sne_say_less : (Str.ofString "say" = Str.ofString "less") = False := eq_false (by decide +kernel)
@[simp] theorem sne_say_same : (Str.ofString "say" = Str.ofString "same") = False := eq_false (by decide +kernel)
@[simp] theorem sne_say_begin : (Str.ofString "say" = Str.ofString "begin") = False := eq_false (by decide +kernel)
@[simp] theorem sne_say_end : (Str.ofString "say" = Str.ofString "end") = False := eq_false (by decide +kernel)
@[simp] theorem sne_say_join : (Str.ofString "say" = Str.ofString "join") = False := eq_false (by decide +kernel)
@[simp] theorem sne_say_runs : (Str.ofString "say" = Str.ofString "runs") = False := eq_false (by decide +kernel)
@[simp] theorem sne_say_over : (Str.ofString "say" = Str.ofString "over") = False := eq_false (by decide +kernel)
@[simp] theorem sne_say_fault : (Str.ofString "say" = Str.ofString "fault") = False := eq_false (by decide +kernel)
@[simp] theorem sne_say_on : (Str.ofString "say" = Str.ofString "on") = False := eq_false (by decide +kernel)
@[simp] theorem sne_call_set : (Str.ofString "call" = Str.ofString "set") = False := eq_false (by decide +kernel)
@[simp] theorem sne_call_say : (Str.ofString "call" = Str.ofString "say") = False := eq_false (by decide +kernel)
@[simp] theorem sne_call_if : (Str.ofString "call" = Str.ofString "if") = False := eq_false (by decide +kernel)
@[simp] theorem sne_call_while : (Str.ofString "call" = Str.ofString "while") = False := eq_false (by decide +kernel)
@[simp] theorem sne_call_less : (Str.ofString "call" = Str.ofString "less") = False := eq_false (by decide +kernel)
@[simp] theorem sne_call_same : (Str.ofString "call" = Str.ofString "same") = False := eq_false (by decide +kernel)
@[simp] theorem sne_call_begin : (Str.ofString "call" = Str.ofString "begin") = False := eq_false (by decide +kernel)
@[simp] theorem sne_call_end : (Str.ofString "call" = Str.ofString "end") = False := eq_false (by decide +kernel)
@[simp] theorem sne_call_join : (Str.ofString "call" = Str.ofString "join") = False := eq_false (by decide +kernel)
@[simp] theorem sne_call_runs : (Str.ofString "call" = Str.ofString "runs") = False := eq_false (by decide +kernel)
@[simp] theorem sne_call_over : (Str.ofString "call" = Str.ofString "over") = False := eq_false (by decide +kernel)
@[simp] theorem sne_call_fault : (Str.ofString "call" = Str.ofString "fault") = False := eq_false (by decide +kernel)
@[simp] theorem sne_call_on : (Str.ofString "call" = Str.ofString "on") = False := eq_false (by decide +kernel)
@[simp] theorem sne_if_set : (Str.ofString "if" = Str.ofString "set") = False := eq_false (by decide +kernel)
@[simp] theorem sne_if_say : (Str.ofString "if" = Str.ofString "say") = False := eq_false (by decide +kernel)
@[simp] theorem sne_if_call : (Str.ofString "if" = Str.ofString "call") = False := eq_false (by decide +kernel)
@[simp] theorem sne_if_while : (Str.ofString "if" = Str.ofString "while") = False := eq_false (by decide +kernel)
@[simp] theorem sne_if_less : (Str.ofString "if" = Str.ofString "less") = False := eq_false (by decide +kernel)
@[simp] theorem sne_if_same : (Str.ofString "if" = Str.ofString "same") = False := eq_false (by decide +kernel)
@[simp] theorem sne_if_begin : (Str.ofString "if" = Str.ofString "begin") = False := eq_false (by decide +kernel)
@[simp] theorem sne_if_end : (Str.ofString "if" = Str.ofString "end") = False := eq_false (by decide +kernel)
@[simp] theorem sne_if_join : (Str.ofString "if" = Str.ofString "join") = False := eq_false (by decide +kernel)
@[simp] theorem sne_if_runs : (Str.ofString "if" = Str.ofString "runs") = False := eq_false (by decide +kernel)
@[simp] theorem sne_if_over : (Str.ofString "if" = Str.ofString "over") = False := eq_false (by decide +kernel)
@[simp] theorem sne_if_fault : (Str.ofString "if" = Str.ofString "fault") = False := eq_false (by decide +kernel)
@[simp] theorem sne_if_on : (Str.ofString "if" = Str.ofString "on") = False := eq_false (by decide +kernel)
@[simp] theorem sne_while_set : (Str.ofString "while" = Str.ofString "set") = False := eq_false (by decide +kernel)
@[simp] theorem sne_while_say : (Str.ofString "while" = Str.ofString "say") = False := eq_false (by decide +kernel)
@[simp] theorem sne_while_call : (Str.ofString "while" = Str.ofString "call") = False := eq_false (by decide +kernel)
@[simp] theorem sne_while_if : (Str.ofString "while" = Str.ofString "if") = False := eq_false (by decide +kernel)
@[simp] theorem sne_while_less : (Str.ofString "while" = Str.ofString "less") = False := eq_false (by decide +kernel)
@[simp] theorem sne_while_same : (Str.ofString "while" = Str.ofString "same") = False := eq_false (by decide +kernel)
@[simp] theorem sne_while_begin : (Str.ofString "while" = Str.ofString "begin") = False := eq_false (by decide +kernel)
@[simp] theorem sne_while_end : (Str.ofString "while" = Str.ofString "end") = False := eq_false (by decide +kernel)
@[simp] theorem sne_while_join : (Str.ofString "while" = Str.ofString "join") = False := eq_false (by decide +kernel)
@[simp] theorem sne_while_runs : (Str.ofString "while" = Str.ofString "runs") = False := eq_false (by decide +kernel)
@[simp] theorem sne_while_over : (Str.ofString "while" = Str.ofString "over") = False := eq_false (by decide +kernel)
@[simp] theorem sne_while_fault : (Str.ofString "while" = Str.ofString "fault") = False := eq_false (by decide +kernel)
@[simp] theorem sne_while_on : (Str.ofString "while" = Str.ofString "on") = False := eq_false (by decide +kernel)
@[simp] theorem sne_less_set : (Str.ofString "less" = Str.ofString "set") = False := eq_false (by decide +kernel)
@[simp] theorem sne_less_say : (Str.ofString "less" = Str.ofString "say") = False := eq_false (by decide +kernel)
@[simp] theorem sne_less_call : (Str.ofString "less" = Str.ofString "call") = False := eq_false (by decide +kernel)
@[simp] theorem sne_less_if : (Str.ofString "less" = Str.ofString "if") = False := eq_false (by decide +kernel)
@[simp] theorem sne_less_while : (Str.ofString "less" = Str.ofString "while") = False := eq_false (by decide +kernel)
@[simp] theorem sne_less_same : (Str.ofString "less" = Str.ofString "same") = False := eq_false (by decide +kernel)
@[simp] theorem sne_less_begin : (Str.ofString "less" = Str.ofString "begin") = False := eq_false (by decide +kernel)
@[simp] theorem sne_less_end : (Str.ofString "less" = Str.ofString "end") = False := eq_false (by decide +kernel)
@[simp] theorem sne_less_join : (Str.ofString "less" = Str.ofString "join") = False := eq_false (by decide +kernel)
@[simp] theorem sne_less_runs : (Str.ofString "less" = Str.ofString "runs") = False := eq_false (by decide +kernel)
@[simp] theorem sne_less_over : (Str.ofString "less" = Str.ofString "over") = False := eq_false (by decide +kernel)
@[simp] theorem sne_less_fault : (Str.ofString "less" = Str.ofString "fault") = False := eq_false (by decide +kernel)
@[simp] theorem sne_less_on : (Str.ofString "less" = Str.ofString "on") = False := eq_false (by decide +kernel)
@[simp] theorem sne_same_set : (Str.ofString "same" = Str.ofString "set") = False := eq_false (by decide +kernel)
@[simp] theorem sne_same_say : (Str.ofString "same" = Str.ofString "say") = False := eq_false (by decide +kernel)
@[simp] theorem sne_same_call : (Str.ofString "same" = Str.ofString "call") = False := eq_false (by decide +kernel)
@[simp] theorem sne_same_if : (Str.ofString "same" = Str.ofString "if") = False := eq_false (by decide +kernel)
@[simp] theorem sne_same_while : (Str.ofString "same" = Str.ofString "while") = False := eq_false (by decide +kernel)
@[simp] theorem sne_same_less : (Str.ofString "same" = Str.ofString "less") = False := eq_false (by decide +kernel)
@[simp] theorem sne_same_begin : (Str.ofString "same" = Str.ofString "begin") = False := eq_false (by decide +kernel)
@[simp] theorem sne_same_end : (Str.ofString "same" = Str.ofString "end") = False := eq_false (by decide +kernel)
@[simp] theorem sne_same_join : (Str.ofString "same" = Str.ofString "join") = False := eq_false (by decide +kernel)
@[simp] theorem sne_same_runs : (Str.ofString "same" = Str.ofString "runs") = False := eq_false (by decide +kernel)
@[simp] theorem sne_same_over : (Str.ofString "same" = Str.ofString "over") = False := eq_false (by decide +kernel)
@[simp] theorem sne_same_fault : (Str.ofString "same" = Str.ofString "fault") = False := eq_false (by decide +kernel)
@[simp] theorem sne_same_on : (Str.ofString "same" = Str.ofString "on") = False := eq_false (by decide +kernel)
@[simp] theorem sne_begin_set : (Str.ofString "begin" = Str.ofString "set") = False := eq_false (by decide +kernel)
@[simp] theorem sne_begin_say : (Str.ofString "begin" = Str.ofString "say") = False := eq_false (by decide +kernel)
@[simp] theorem sne_begin_call : (Str.ofString "begin" = Str.ofString "call") = False := eq_false (by decide +kernel)
@[simp] theorem sne_begin_if : (Str.ofString "begin" = Str.ofString "if") = False := eq_false (by decide +kernel)
@[simp] theorem sne_begin_while : (Str.ofString "begin" = Str.ofString "while") = False := eq_false (by decide +kernel)
@[simp] theorem sne_begin_less : (Str.ofString "begin" = Str.ofString "less") = False := eq_false (by decide +kernel)
@[simp] theorem sne_begin_same : (Str.ofString "begin" = Str.ofString "same") = False := eq_false (by decide +kernel)
@[simp] theorem sne_begin_end : (Str.ofString "begin" = Str.ofString "end") = False := eq_false (by decide +kernel)
@[simp] theorem sne_begin_join : (Str.ofString "begin" = Str.ofString "join") = False := eq_false (by decide +kernel)
@[simp] theorem sne_begin_runs : (Str.ofString "begin" = Str.ofString "runs") = False := eq_false (by decide +kernel)
@[simp] theorem sne_begin_over : (Str.ofString "begin" = Str.ofString "over") = False := eq_false (by decide +kernel)
@[simp] theorem sne_begin_fault : (Str.ofString "begin" = Str.ofString "fault") = False := eq_false (by decide +kernel)
@[simp] theorem sne_begin_on : (Str.ofString "begin" = Str.ofString "on") = False := eq_false (by decide +kernel)
@[simp] theorem sne_end_set : (Str.ofString "end" = Str.ofString "set") = False := eq_false (by decide +kernel)
@[simp] theorem sne_end_say : (Str.ofString "end" = Str.ofString "say") = False := eq_false (by decide +kernel)
@[simp] theorem sne_end_call : (Str.ofString "end" = Str.ofString "call") = False := eq_false (by decide +kernel)
@[simp] theorem sne_end_if : (Str.ofString "end" = Str.ofString "if") = False := eq_false (by decide +kernel)
@[simp] theorem sne_end_while : (Str.ofString "end" = Str.ofString "while") = False := eq_false (by decide +kernel)
@[simp] theorem sne_end_less : (Str.ofString "end" = Str.ofString "less") = False := eq_false (by decide +kernel)
@[simp] theorem sne_end_same : (Str.ofString "end" = Str.ofString "same") = False := eq_false (by decide +kernel)
@[simp] theorem sne_end_begin : (Str.ofString "end" = Str.ofString "begin") = False := eq_false (by decide +kernel)
@[simp] theorem sne_end_join : (Str.ofString "end" = Str.ofString "join") = False := eq_false (by decide +kernel)
@[simp] theorem sne_end_runs : (Str.ofString "end" = Str.ofString "runs") = False := eq_false (by decide +kernel)
@[simp] theorem sne_end_over : (Str.ofString "end" = Str.ofString "over") = False := eq_false (by decide +kernel)
@[simp] theorem sne_end_fault : (Str.ofString "end" = Str.ofString "fault") = False := eq_false (by decide +kernel)
@[simp] theorem sne_end_on : (Str.ofString "end" = Str.ofString "on") = False := eq_false (by decide +kernel)
@[simp] theorem sne_join_set : (Str.ofString "join" = Str.ofString "set") = False := eq_false (by decide +kernel)
@[simp] theorem sne_join_say : (Str.ofString "join" = Str.ofString "say") = False := eq_false (by decide +kernel)
@[simp] theorem sne_join_call : (Str.ofString "join" = Str.ofString "call") = False := eq_false (by decide +kernel)
@[simp] theorem sne_join_if : (Str.ofString "join" = Str.ofString "if") = False := eq_false (by decide +kernel)
@[simp] theorem sne_join_while : (Str.ofString "join" = Str.ofString "while") = False := eq_false (by decide +kernel)
@[simp] theorem sne_join_less : (Str.ofString "join" = Str.ofString "less") = False := eq_false (by decide +kernel)
@[simp] theorem sne_join_same : (Str.ofString "join" = Str.ofString "same") = False := eq_false (by decide +kernel)
@[simp] theorem sne_join_begin : (Str.ofString "join" = Str.ofString "begin") = False := eq_false (by decide +kernel)
@[simp] theorem sne_join_end : (Str.ofString "join" = Str.ofString "end") = False := eq_false (by decide +kernel)
@[simp] theorem sne_join_runs : (Str.ofString "join" = Str.ofString "runs") = False := eq_false (by decide +kernel)
@[simp] theorem sne_join_over : (Str.ofString "join" = Str.ofString "over") = False := eq_false (by decide +kernel)
@[simp] theorem sne_join_fault : (Str.ofString "join" = Str.ofString "fault") = False := eq_false (by decide +kernel)
@[simp] theorem sne_join_on : (Str.ofString "join" = Str.ofString "on") = False := eq_false (by decide +kernel)
@[simp] theorem sne_runs_set : (Str.ofString "runs" = Str.ofString "set") = False := eq_false (by decide +kernel)
@[simp] theorem sne_runs_say : (Str.ofString "runs" = Str.ofString "say") = False := eq_false (by decide +kernel)
@[simp] theorem sne_runs_call : (Str.ofString "runs" = Str.ofString "call") = False := eq_false (by decide +kernel)
@[simp] theorem sne_runs_if : (Str.ofString "runs" = Str.ofString "if") = False := eq_false (by decide +kernel)
@[simp] theorem sne_runs_while : (Str.ofString "runs" = Str.ofString "while") = False := eq_false (by decide +kernel)
@[simp] theorem sne_runs_less : (Str.ofString "runs" = Str.ofString "less") = False := eq_false (by decide +kernel)
@[simp] theorem sne_runs_same : (Str.ofString "runs" = Str.ofString "same") = False := eq_false (by decide +kernel)
@[simp] theorem sne_runs_begin : (Str.ofString "runs" = Str.ofString "begin") = False := eq_false (by decide +kernel)
@[simp] theorem sne_runs_end : (Str.ofString "runs" = Str.ofString "end") = False := eq_false (by decide +kernel)
@[simp] theorem sne_runs_join : (Str.ofString "runs" = Str.ofString "join") = False := eq_false (by decide +kernel)
@[simp] theorem sne_runs_over : (Str.ofString "runs" = Str.ofString "over") = False := eq_false (by decide +kernel)
@[simp] theorem sne_runs_fault : (Str.ofString "runs" = Str.ofString "fault") = False := eq_false (by decide +kernel)
@[simp] theorem sne_runs_on : (Str.ofString "runs" = Str.ofString "on") = False := eq_false (by decide +kernel)
@[simp] theorem sne_over_set : (Str.ofString "over" = Str.ofString "set") = False := eq_false (by decide +kernel)
@[simp] theorem sne_over_say : (Str.ofString "over" = Str.ofString "say") = False := eq_false (by decide +kernel)
@[simp] theorem sne_over_call : (Str.ofString "over" = Str.ofString "call") = False := eq_false (by decide +kernel)
@[simp] theorem sne_over_if : (Str.ofString "over" = Str.ofString "if") = False := eq_false (by decide +kernel)
@[simp] theorem sne_over_while : (Str.ofString "over" = Str.ofString "while") = False := eq_false (by decide +kernel)
@[simp] theorem sne_over_less : (Str.ofString "over" = Str.ofString "less") = False := eq_false (by decide +kernel)
@[simp] theorem sne_over_same : (Str.ofString "over" = Str.ofString "same") = False := eq_false (by decide +kernel)
@[simp] theorem sne_over_begin : (Str.ofString "over" = Str.ofString "begin") = False := eq_false (by decide +kernel)
@[simp] theorem sne_over_end : (Str.ofString "over" = Str.ofString "end") = False := eq_false (by decide +kernel)
@[simp] theorem sne_over_join : (Str.ofString "over" = Str.ofString "join") = False := eq_false (by decide +kernel)
@[simp] theorem sne_over_runs : (Str.ofString "over" = Str.ofString "runs") = False := eq_false (by decide +kernel)
@[simp] theorem sne_over_fault : (Str.ofString "over" = Str.ofString "fault") = False := eq_false (by decide +kernel)
@[simp] theorem sne_over_on : (Str.ofString "over" = Str.ofString "on") = False := eq_false (by decide +kernel)
@[simp] theorem sne_fault_set : (Str.ofString "fault" = Str.ofString "set") = False := eq_false (by decide +kernel)
@[simp] theorem sne_fault_say : (Str.ofString "fault" = Str.ofString "say") = False := eq_false (by decide +kernel)
@[simp] theorem sne_fault_call : (Str.ofString "fault" = Str.ofString "call") = False := eq_false (by decide +kernel)
@[simp] theorem sne_fault_if : (Str.ofString "fault" = Str.ofString "if") = False := eq_false (by decide +kernel)
@[simp] theorem sne_fault_while : (Str.ofString "fault" = Str.ofString "while") = False := eq_false (by decide +kernel)
@[simp] theorem sne_fault_less : (Str.ofString "fault" = Str.ofString "less") = False := eq_false (by decide +kernel)
@[simp] theorem sne_fault_same : (Str.ofString "fault" = Str.ofString "same") = False := eq_false (by decide +kernel)
@[simp] theorem sne_fault_begin : (Str.ofString "fault" = Str.ofString "begin") = False := eq_false (by decide +kernel)
@[simp] theorem sne_fault_end : (Str.ofString "fault" = Str.ofString "end") = False := eq_false (by decide +kernel)
@[simp] theorem sne_fault_join : (Str.ofString "fault" = Str.ofString "join") = False := eq_false (by decide +kernel)
@[simp] theorem sne_fault_runs : (Str.ofString "fault" = Str.ofString "runs") = False := eq_false (by decide +kernel)
@[simp] theorem sne_fault_over : (Str.ofString "fault" = Str.ofString "over") = False := eq_false (by decide +kernel)
@[simp] theorem sne_fault_on : (Str.ofString "fault" = Str.ofString "on") = False := eq_false (by decide +kernel)
@[simp] theorem sne_on_set : (Str.ofString "on" = Str.ofString "set") = False := eq_false (by decide +kernel)
@[simp] theorem sne_on_say : (Str.ofString "on" = Str.ofString "say") = False := eq_false (by decide +kernel)
@[simp] theorem sne_on_call : (Str.ofString "on" = Str.ofString "call") = False := eq_false (by decide +kernel)
@[simp] theorem sne_on_if : (Str.ofString "on" = Str.ofString "if") = False := eq_false (by decide +kernel)
@[simp] theorem sne_on_while : (Str.ofString "on" = Str.ofString "while") = False := eq_false (by decide +kernel)
@[simp] theorem sne_on_less : (Str.ofString "on" = Str.ofString "less") = False := eq_false (by decide +kernel)
@[simp] theorem sne_on_same : (Str.ofString "on" = Str.ofString "same") = False := eq_false (by decide +kernel)
@[simp] theorem sne_on_begin : (Str.ofString "on" = Str.ofString "begin") = False := eq_false (by decide +kernel)
@[simp] theorem sne_on_end : (Str.ofString "on" = Str.ofString "end") = False := eq_false (by decide +kernel)
@[simp] theorem sne_on_join : (Str.ofString "on" = Str.ofString "join") = False := eq_false (by decide +kernel)
@[simp] theorem sne_on_runs : (Str.ofString "on" = Str.ofString "runs") = False := eq_false (by decide +kernel)
@[simp] theorem sne_on_over : (Str.ofString "on" = Str.ofString "over") = False := eq_false (by decide +kernel)
@[simp] theorem sne_on_fault : (Str.ofString "on" = Str.ofString "fault") = False := eq_false (by decide +kernel)
@[simp] theorem sin_set : gIn false (.val (.str (Str.ofString "set"))) (.own (.lst [.s (.str (Str.ofString "if")), .s (.str (Str.ofString "while"))])) = some (.val (.bl false)) := Eq.trans rfl rfl
@[simp] theorem sin_say : gIn false (.val (.str (Str.ofString "say"))) (.own (.lst [.s (.str (Str.ofString "if")), .s (.str (Str.ofString "while"))])) = some (.val (.bl false)) := Eq.trans rfl rfl
@[simp] theorem sin_call : gIn false (.val (.str (Str.ofString "call"))) (.own (.lst [.s (.str (Str.ofString "if")), .s (.str (Str.ofString "while"))])) = some (.val (.bl false)) := Eq.trans rfl rfl
@[simp] theorem sin_if : gIn false (.val (.str (Str.ofString "if"))) (.own (.lst [.s (.str (Str.ofString "if")), .s (.str (Str.ofString "while"))])) = some (.val (.bl true)) := Eq.trans rfl rfl
@[simp] theorem sin_while : gIn false (.val (.str (Str.ofString "while"))) (.own (.lst [.s (.str (Str.ofString "if")), .s (.str (Str.ofString "while"))])) = some (.val (.bl true)) := Eq.trans rfl rfl
@[simp] theorem cut22 (a b : D) : cut [a, b] (some 2) none = [] := Eq.trans rfl rfl
@[simp] theorem cut23 (a b c : D) : cut [a, b, c] (some 2) none = [c] := Eq.trans rfl rfl
@[simp] theorem cut24 (a b c d : D) : cut [a, b, c, d] (some 2) none = [c, d] := Eq.trans rfl rfl
theorem log10 : Nat.log2 10 = 3 := by decide
theorem mod_a (x : Int) : (x % 2147483647).natAbs < 18446744073709551616 := by omega
theorem mod_b (x : Int) : (x % 2147483399).natAbs < 18446744073709551616 := by omega
def hnd (cs : List Int) (a b c d : Int) : O := .lst [.s (.lst (cs.map D.int)), .s (.int a), .s (.int b), .s (.int c), .s (.int d)]
def Hd (o : O) : Prop := ∃ (cs : List Int) (a b c d : Int), o = hnd cs a b c d ∧ 0 ≤ a
theorem Hd.mk (cs : List Int) {a : Int} (b c d : Int) (h : 0 ≤ a) : Hd (hnd cs a b c d) := ⟨cs, a, b, c, d, rfl, h⟩
theorem p_draw (cs : List Int) (a b c d many : Int) (ha : 0 ≤ a) (h0 : 0 < many) (h1 : many < 1073741824) : ∃ h' v, f__law_draw [hnd cs a b c d, .s (.int many)] = .ok (.s (.int v)) [h', .s (.int many)] ∧ Hd h' ∧ 0 ≤ v ∧ v < many := by
  have m0 : ∀ x : Int, 0 ≤ x % many := fun x => Int.emod_nonneg x (by omega)
  have m1 : ∀ x : Int, x % many < many := fun x => Int.emod_lt_of_pos x h0
  unfold f__law_draw b__law_draw hnd
  by_cases hb : b = 0
  · subst hb
    by_cases hl : a < cs.length
    · obtain ⟨n, rfl⟩ : ∃ n : Nat, a = n := ⟨a.toNat, by omega⟩
      have hn : n < cs.length := by omega
      have e : atI (cs.map D.int) (n : Int) = some (.int cs[n]) := by
        exact atI_nat (by rw [List.getElem?_map, List.getElem?_eq_getElem hn]; rfl)
      by_cases h18 : (1000000000000000000 : Int) ≤ cs[n]
      · have hpos : (0 : Int) < cs[n] := by omega
        simp [ixN, hl, hn, cMod, cDiv, cMul2, cPow2, h0, h1, mod_a, mod_b, log10, e, h18, hpos]
        exact ⟨_, _, ⟨rfl, rfl⟩, Hd.mk cs _ _ d (by omega), m0 _, m1 _⟩
      · simp [ixN, hl, hn, cMod, cDiv, cMul2, cPow2, h0, h1, mod_a, mod_b, log10, e, h18]
        exact ⟨_, _, ⟨rfl, rfl⟩, Hd.mk cs 0 _ _ (by omega), m0 _, m1 _⟩
    · simp [ixN, hl, cMod, cDiv, cMul2, h0, h1, mod_a, mod_b]
      exact ⟨_, _, ⟨rfl, rfl⟩, Hd.mk cs 0 c (d + 1) ha, m0 _, m1 _⟩
  · by_cases hp : 0 < b
    · simp [ixN, hb, hp, cMod, cDiv, cMul2, h0, h1, mod_a, mod_b]
      exact ⟨_, _, ⟨rfl, rfl⟩, Hd.mk cs _ c d ha, m0 _, m1 _⟩
    · simp [ixN, hb, hp, cMod, cDiv, cMul2, h0, h1, mod_a, mod_b]
      exact ⟨_, _, ⟨rfl, rfl⟩, Hd.mk cs b c (d + 1) ha, m0 _, m1 _⟩
theorem Hd.draw {h : O} (hh : Hd h) {many : Int} (h0 : 0 < many) (h1 : many < 1073741824) : ∃ h' v, f__law_draw [h, .s (.int many)] = .ok (.s (.int v)) [h', .s (.int many)] ∧ Hd h' ∧ 0 ≤ v ∧ v < many := by
  obtain ⟨cs, a, b, c, d, rfl, ha⟩ := hh
  exact p_draw cs a b c d many ha h0 h1
theorem Hd.any {h : O} (hh : Hd h) {ds : List D} (h0 : ds ≠ []) (h1 : ds.length < 1000) : ∃ h' d, f__law_any [h, .s (.lst ds)] = .ok (.s d) [h', .s (.lst ds)] ∧ Hd h' ∧ d ∈ ds := by
  have hl : 0 < ds.length := List.length_pos_iff.mpr h0
  obtain ⟨h', v, e, hh', v0, v1⟩ := hh.draw (many := ds.length) (by omega) (by omega)
  obtain ⟨n, rfl⟩ : ∃ n : Nat, v = n := ⟨v.toNat, by omega⟩
  have hn : n < ds.length := by omega
  have e2 : atI ds (n : Int) = some ds[n] := atI_nat (List.getElem?_eq_getElem hn)
  unfold f__law_any b__law_any
  simp [e, e2]
  exact ⟨_, _, ⟨rfl, rfl⟩, hh', List.getElem_mem hn⟩
def lin (n : Nat) (l : List Int) : Prop := l.length = n + 1 ∧ ∀ i ∈ l, -1000 ≤ i ∧ i ≤ 1000
theorem ints_of {ys : List D} {P : Int → Prop} (h : ∀ y ∈ ys, ∃ i, y = D.int i ∧ P i) : ∃ l : List Int, ys = l.map D.int ∧ ∀ i ∈ l, P i := by
  induction ys with
  | nil => exact ⟨[], rfl, fun i h => by simp at h⟩
  | cons y ys ih =>
    obtain ⟨i, rfl, hi⟩ := h y (by simp)
    obtain ⟨l, rfl, hl⟩ := ih fun y hy => h y (by simp [hy])
    exact ⟨i :: l, rfl, fun j hj => by
      rcases List.mem_cons.mp hj with q | q
      · rw [q]; exact hi
      · exact hl j q⟩
theorem rngD_len (a : Int) (n : Nat) : (rngD a n).length = n := by simp [rngD]
theorem items_own {ds : List D} : Rt.items (.own (.lst (ds.map O.s))) = some (true, ds) := by
  show (leaves (ds.map O.s)).map _ = _
  rw [leaves_map]; rfl
@[simp] theorem ev_tupleOf {ds : List D} : gTupleOf [.own (.lst (ds.map O.s))] = some (.val (.tup ds)) := by
  show (match Rt.items (.own (.lst (ds.map O.s))) with | some (_, ds) => some (Rt.val (.tup ds)) | _ => none) = _
  rw [items_own]
def sumL : List O := [.s (.int 0), .s (.int 0), .s (.int 1), .s (.int (-1)), .s (.int 2), .s (.int (-2)), .s (.int 3), .s (.int 1000), .s (.int (-1000)), .s (.int 7)]
theorem sumL_at {j : Nat} (h : j < 10) : ∃ i : Int, sumL[j]? = some (.s (.int i)) ∧ -1000 ≤ i ∧ i ≤ 1000 := by
  match j, h with
  | 0, _ => exact ⟨_, rfl, by decide, by decide⟩
  | 1, _ => exact ⟨_, rfl, by decide, by decide⟩
  | 2, _ => exact ⟨_, rfl, by decide, by decide⟩
  | 3, _ => exact ⟨_, rfl, by decide, by decide⟩
  | 4, _ => exact ⟨_, rfl, by decide, by decide⟩
  | 5, _ => exact ⟨_, rfl, by decide, by decide⟩
  | 6, _ => exact ⟨_, rfl, by decide, by decide⟩
  | 7, _ => exact ⟨_, rfl, by decide, by decide⟩
  | 8, _ => exact ⟨_, rfl, by decide, by decide⟩
  | 9, _ => exact ⟨_, rfl, by decide, by decide⟩
theorem sumL_len : sumL.length = 10 := rfl
theorem Hd.sum1 {h : O} (hh : Hd h) (n : Int) (x : Option O) (d : D) : ∃ h' i, e1__law_sum f__law_draw f__law_any [some h, some (.s (.int n)), some (.lst sumL), x] = .ok (.val (.int i)) [some h', some (.s (.int n)), some (.lst sumL), x] ∧ Hd h' ∧ -1000 ≤ i ∧ i ≤ 1000 := by
  obtain ⟨h1, m, e1, hh1, hm⟩ := hh.any (ds := [.int 3, .int 5, .int 7, .int 10]) (by simp) (by simp)
  obtain ⟨k, rfl, hk0, hk1⟩ : ∃ k : Int, m = .int k ∧ 0 < k ∧ k ≤ 10 := by
    simp at hm
    rcases hm with rfl | rfl | rfl | rfl
    · exact ⟨_, rfl, by decide, by decide⟩
    · exact ⟨_, rfl, by decide, by decide⟩
    · exact ⟨_, rfl, by decide, by decide⟩
    · exact ⟨_, rfl, by decide, by decide⟩
  obtain ⟨h2, v, e2, hh2, v0, v1⟩ := hh1.draw (many := k) hk0 (by omega)
  obtain ⟨j, rfl⟩ : ∃ j : Nat, v = j := ⟨v.toNat, by omega⟩
  have hj : j < 10 := by omega
  have hix : ixN 10 (j : Int) = some j := by simp [ixN]; omega
  obtain ⟨i, hi, i0, i1⟩ := sumL_at hj
  refine ⟨h2, i, ?_, hh2, i0, i1⟩
  unfold e1__law_sum
  simp [e1, e2, hix, hi, sumL_len]

theorem Hd.sum {h : O} (hh : Hd h) (n : Nat) (hn : n ≤ 8) : ∃ h' l, f__law_sum [h, .s (.int n)] = .ok (.s (.tup (l.map D.int))) [h', .s (.int n)] ∧ Hd h' ∧ lin n l := by
  obtain ⟨ys, e', k1, ⟨h', x', k2, k2'⟩, k3, k4⟩ := lc_all (vs := [3]) (set := setT [3]) (f := e1__law_sum f__law_draw f__law_any)
    (I := fun e => ∃ h x, e = [some h, some (.s (.int n)), some (.lst sumL), x] ∧ Hd h)
    (R := fun y => ∃ i, y = D.int i ∧ -1000 ≤ i ∧ i ≤ 1000) (G := fun _ => True) (by
    rintro e d ⟨h, x, rfl, hh⟩ _
    obtain ⟨h2, i, q, hh2, i0, i1⟩ := hh.sum1 n (some (.s d)) d
    exact ⟨_, _, _, rfl, q, ⟨h2, _, rfl, hh2⟩, i, rfl, i0, i1⟩) (rngD 0 (n + 1)) [some h, some (.s (.int n)), some (.lst sumL), none] ⟨h, none, rfl, hh⟩ (fun _ _ => trivial)
  obtain ⟨l, rfl, hl⟩ := ints_of k4
  subst k2
  rw [rngD_len, List.length_map] at k3
  have hr : ∀ e : Env, rg1K (.ok [.val (.int ((n : Int) + 1))] e) = .ok ⟨rngD 0 (n + 1), none⟩ e := fun e => (rg1_is (by omega) (by omega)).trans (by rw [show ((n : Int) + 1).toNat = n + 1 from by omega])
  have hz : (rngD 0 (n + 1)).length ≤ 16777216 := by rw [rngD_len]; omega
  refine ⟨h', l, ?_, k2', k3, hl⟩
  unfold f__law_sum b__law_sum
  unfold sumL at k1
  simp [-List.map_map, hr, hz, k1]
theorem toInts {ys : List D} {P : Int → Prop} (h : ∀ y ∈ ys, ∃ i, y = D.int i ∧ P i) : ∃ l : List Int, ys = l.map D.int ∧ ∀ i ∈ l, P i := ints_of h
@[simp] theorem ev_items {ds : List D} : Rt.items (.own (.lst (ds.map O.s))) = some (true, ds) := items_own
theorem p_alone (n : Nat) (c k : Int) (hn : n ≤ 8) (k0 : -1000 ≤ k) (k1 : k ≤ 1000) : ∃ l, f__law_alone [.s (.int n), .s (.int c), .s (.int k)] = .ok (.s (.tup (l.map D.int))) [.s (.int n), .s (.int c), .s (.int k)] ∧ lin n l := by
  obtain ⟨ys, e', q1, ⟨x', q2⟩, q3, q4⟩ := lc_all (vs := [3]) (set := setT [3]) (f := e1__law_alone)
    (I := fun e => ∃ x, e = [some (.s (.int n)), some (.s (.int c)), some (.s (.int k)), x])
    (R := fun y => ∃ i, y = D.int i ∧ -1000 ≤ i ∧ i ≤ 1000) (G := fun d => ∃ i : Int, d = .int i) (by
    rintro e d ⟨x, rfl⟩ ⟨i, rfl⟩
    refine ⟨_, .int (if i = c then 1 else 0), _, rfl, ?_, ⟨some (.s (.int i)), rfl⟩, _, rfl, ?_⟩
    · unfold e1__law_alone; simp
    · split <;> omega) (rngD 0 n) [some (.s (.int n)), some (.s (.int c)), some (.s (.int k)), none] ⟨none, rfl⟩ (fun d hd => by
      unfold rngD at hd
      obtain ⟨i, _, rfl⟩ := List.mem_map.mp hd
      exact ⟨_, rfl⟩)
  obtain ⟨l, rfl, hl⟩ := ints_of q4
  subst q2
  rw [rngD_len, List.length_map] at q3
  have hr : ∀ e : Env, rg1K (.ok [.val (.int (n : Int))] e) = .ok ⟨rngD 0 n, none⟩ e := fun e => (rg1_is (by omega) (by omega)).trans (by rw [Int.toNat_natCast])
  have hz : (rngD 0 n).length ≤ 16777216 := by rw [rngD_len]; omega
  have hs : l.length ≤ 16777215 := by omega
  refine ⟨l ++ [k], ?_, by simp [q3], fun i hi => ?_⟩
  · unfold f__law_alone b__law_alone
    simp [-List.map_map, hr, hz, q1, hs]
  · rcases List.mem_append.mp hi with z | z
    · exact hl i z
    · have : i = k := by simpa using z
      omega
def tstD (k : Bool) (l m : List Int) : D := .tup [.str (if k then "less" else "same"), .tup (l.map D.int), .tup (m.map D.int)]
theorem Hd.test {h : O} (hh : Hd h) (n : Nat) (hn : n ≤ 8) : ∃ h' k l m, f__law_test [h, .s (.int n)] = .ok (.s (tstD k l m)) [h', .s (.int n)] ∧ Hd h' ∧ lin n l ∧ lin n m := by
  obtain ⟨h1, w, e1, hh1, hw⟩ := hh.any (ds := [.str "less", .str "less", .str "same"]) (by simp) (by simp)
  obtain ⟨h2, l, e2, hh2, hl⟩ := hh1.sum n hn
  obtain ⟨h3, m, e3, hh3, hm⟩ := hh2.sum n hn
  obtain ⟨k, rfl⟩ : ∃ k : Bool, w = .str (if k then "less" else "same") := by
    simp at hw
    rcases hw with rfl | rfl
    · exact ⟨true, rfl⟩
    · exact ⟨false, rfl⟩
  refine ⟨h3, k, l, m, ?_, hh3, hl, hm⟩
  unfold f__law_test b__law_test tstD
  simp [e1, e2, e3]
inductive Sm where
  | set (c : Nat) (l : List Int)
  | say (l : List Int)
  | call (r : Nat)
  | ifs (k : Bool) (l m : List Int) (a b : List Sm)
  | wh (k : Bool) (l m : List Int) (b : List Sm)
mutual
def Sm.enc : Sm → D
  | .set c l => .tup [.str "set", .int c, .tup (l.map D.int)]
  | .say l => .tup [.str "say", .tup (l.map D.int)]
  | .call r => .tup [.str "call", .int r]
  | .ifs k l m a b => .tup [.str "if", tstD k l m, .tup (Sm.encs a), .tup (Sm.encs b)]
  | .wh k l m b => .tup [.str "while", tstD k l m, .tup (Sm.encs b)]
def Sm.encs : List Sm → List D
  | [] => []
  | s :: r => s.enc :: Sm.encs r
end
mutual
def Sm.size : Sm → Nat
  | .ifs _ _ _ a b => 2 + (Sm.sizes a + Sm.sizes b)
  | .wh _ _ _ b => 1 + Sm.sizes b
  | _ => 1
def Sm.sizes : List Sm → Nat
  | [] => 0
  | s :: r => s.size + Sm.sizes r
end
mutual
def Sm.dep : Nat → Sm → Prop
  | n, .ifs _ _ _ a b => ∃ m, n = m + 1 ∧ Sm.deps m a ∧ Sm.deps m b
  | n, .wh _ _ _ b => ∃ m, n = m + 1 ∧ Sm.deps m b
  | _, _ => True
def Sm.deps : Nat → List Sm → Prop
  | _, [] => True
  | n, s :: r => s.dep n ∧ Sm.deps n r
end
theorem Sm.encs_len (b : List Sm) : (Sm.encs b).length = b.length := by
  induction b with
  | nil => simp [Sm.encs]
  | cons s r ih => simp [Sm.encs, ih]
@[simp] theorem ev_sumO {ns : List Int} : gSum [.own (.lst ((ns.map D.int).map O.s))] = some (.val (.int ns.sum)) := by
  show (match Rt.items (.own (.lst ((ns.map D.int).map O.s))) with | some (true, ds) => (intsOf ds).map fun (ns : List Int) => Rt.val (.int ns.sum) | _ => none) = _
  rw [items_own]
  show (intsOf (ns.map D.int)).map _ = _
  rw [ints_map]; rfl
theorem lst_nil : [] = ([] : List D).map O.s := rfl
theorem size_step (fn : List O → Rr) (n : Nat) (ih : ∀ m, n = m + 1 → ∀ b, Sm.deps m b → fn [.s (.tup (Sm.encs b))] = .ok (.s (.int (Sm.sizes b))) [.s (.tup (Sm.encs b))]) (s : Sm) (hs : s.dep n) (B : D) (k : Nat) (y z : Option O) :
    ∃ y' z', e4__law_size fn [some (.s B), some (.s (.int k)), some (.s s.enc), y, z] = .ok .nx [some (.s B), some (.s (.int ((k + s.size : Nat) : Int))), some (.s s.enc), y', z'] := by
  have sm1 : gSum [.own (.lst [.s (.int 0)])] = some (.val (.int 0)) := rfl
  have sm0 : gSum [.own (.lst [])] = some (.val (.int 0)) := rfl
  have smn : ∀ a : Int, gSum [.own (.lst [.s (.int a)])] = some (.val (.int (a + 0))) := fun a => rfl
  have smm : ∀ a b : Int, gSum [.own (.lst [.s (.int a), .s (.int b)])] = some (.val (.int (a + (b + 0)))) := fun a b => rfl
  cases s with
  | set c l =>
    unfold e4__law_size e1__law_size e2__law_size e3__law_size Sm.enc Sm.size
    simp [lc_cons, lc_nil, ixN, atI, -List.map_map, sm0]
  | say l =>
    unfold e4__law_size e1__law_size e2__law_size e3__law_size Sm.enc Sm.size
    simp [lc_cons, lc_nil, ixN, atI, -List.map_map, sm0]
  | call c =>
    unfold e4__law_size e1__law_size e2__law_size e3__law_size Sm.enc Sm.size
    simp [lc_cons, lc_nil, ixN, atI, -List.map_map, sm0]
  | ifs k l m a c =>
    obtain ⟨m', e, d1, d2⟩ := hs
    have i1 := ih m' e a d1
    have i2 := ih m' e c d2
    unfold e4__law_size e1__law_size e2__law_size e3__law_size Sm.enc Sm.size
    simp [lc_cons, lc_nil, ixN, atI, -List.map_map, smm, i1, i2]
    omega
  | wh k l m c =>
    obtain ⟨m', e, d1⟩ := hs
    have i1 := ih m' e c d1
    unfold e4__law_size e1__law_size e2__law_size e3__law_size Sm.enc Sm.size
    simp [lc_cons, lc_nil, ixN, atI, -List.map_map, smn, i1]
    omega
theorem size_body (fn : List O → Rr) (n : Nat) (ih : ∀ m, n = m + 1 → ∀ b, Sm.deps m b → fn [.s (.tup (Sm.encs b))] = .ok (.s (.int (Sm.sizes b))) [.s (.tup (Sm.encs b))]) (b : List Sm) (hb : Sm.deps n b) :
    runDef [] 4 (b__law_size fn) [.s (.tup (Sm.encs b))] = .ok (.s (.int (Sm.sizes b))) [.s (.tup (Sm.encs b))] := by
  obtain ⟨e', k1, r, k, x, y, z, k2, _, k3, k4⟩ := for_inv (set := setT [2]) (g := e4__law_size fn) (I := fun ds e => ∃ (r : List Sm) (k : Nat) (x y z : Option O), ds = Sm.encs r ∧ Sm.deps n r ∧ e = [some (.s (.tup (Sm.encs b))), some (.s (.int k)), x, y, z] ∧ k + Sm.sizes r = Sm.sizes b)
    (by
      rintro d ds e ⟨r, k, x, y, z, h1, h2, rfl, h3⟩
      cases r with
      | nil => simp [Sm.encs] at h1
      | cons s r =>
        simp only [Sm.encs, List.cons.injEq] at h1
        obtain ⟨rfl, rfl⟩ := h1
        obtain ⟨d1, d2⟩ := h2
        simp only [Sm.sizes] at h3
        obtain ⟨y', z', q⟩ := size_step fn n ih s d1 (.tup (Sm.encs b)) k y z
        exact ⟨_, _, rfl, q, r, k + s.size, _, _, _, rfl, d2, rfl, by omega⟩) (Sm.encs b) [some (.s (.tup (Sm.encs b))), some (.s (.int 0)), none, none, none] ⟨b, 0, none, none, none, rfl, hb, rfl, by omega⟩
  subst k3
  have : r = [] := by
    cases r with
    | nil => rfl
    | cons s r => simp [Sm.encs] at k2
  subst this
  have hk : k = Sm.sizes b := by simpa [Sm.sizes] using k4
  subst hk
  unfold b__law_size
  simp [k1]
theorem p_size : ∀ (n : Nat) (b : List Sm), Sm.deps n b → f__law_size (n + 1) [.s (.tup (Sm.encs b))] = .ok (.s (.int (Sm.sizes b))) [.s (.tup (Sm.encs b))] := by
  intro n
  induction n with
  | zero => exact size_body _ 0 (fun m h => by omega)
  | succ n ih => exact size_body _ (n + 1) (fun m h b hb => by
      obtain rfl : n = m := by omega
      exact ih b hb)
mutual
def Sm.ok (c r : Nat) : Sm → Prop
  | .set x l => x < c ∧ lin c l
  | .say l => lin c l
  | .call x => x < r
  | .ifs _ l m a b => lin c l ∧ lin c m ∧ Sm.oks c r a ∧ Sm.oks c r b
  | .wh _ l m b => lin c l ∧ lin c m ∧ Sm.oks c r b
def Sm.oks (c r : Nat) : List Sm → Prop
  | [] => True
  | s :: b => s.ok c r ∧ Sm.oks c r b
end
theorem Sm.len_size (b : List Sm) : b.length ≤ Sm.sizes b := by
  induction b with
  | nil => simp [Sm.sizes]
  | cons s b ih =>
    have : 1 ≤ s.size := by cases s <;> simp [Sm.size] <;> omega
    simp only [List.length_cons, Sm.sizes]
    omega
theorem Sm.encs_app (a b : List Sm) : Sm.encs (a ++ b) = Sm.encs a ++ Sm.encs b := by
  induction a with
  | nil => simp [Sm.encs]
  | cons s r ih => simp [Sm.encs, ih]
def BodyOk (fb : List O → Rr) (c r : Nat) (d n : Nat) : Prop := ∀ h, Hd h → ∃ h' b, fb [h, .s (.int c), .s (.int r), .s (.int d)] = .ok (.s (.tup (Sm.encs b))) [h', .s (.int c), .s (.int r), .s (.int d)] ∧ Hd h' ∧ Sm.oks c r b ∧ Sm.deps n b ∧ Sm.sizes b ≤ 36
theorem zeros (c : Nat) : (List.replicate (c + 1) [D.int 0]).flatten = (List.replicate (c + 1) (0 : Int)).map D.int := by
  induction c with
  | zero => rfl
  | succ c ih =>
    rw [List.replicate_succ, List.flatten_cons, ih, List.replicate_succ (n := c + 1)]
    rfl
theorem lin_zero (c : Nat) : lin c (List.replicate (c + 1) (0 : Int)) := ⟨by simp, fun i hi => by
  have := (List.mem_replicate.mp hi).2
  omega⟩
theorem p_stat (fb : List O → Rr) (c r d n : Nat) (hc : 1 ≤ c ∧ c ≤ 4) (hr : 1 ≤ r ∧ r ≤ 5) (hd : d ≤ 8) (hb : d ≤ 7 → ∃ m, n = m + 1 ∧ BodyOk fb c r (d + 1) m) {h : O} (hh : Hd h) :
    ∃ h' s, runDef [0] 4 (b__law_statement f__law_draw f__law_sum f__law_alone f__law_any fb f__law_test) [h, .s (.int c), .s (.int r), .s (.int d)] = .ok (.s (Sm.enc s)) [h', .s (.int c), .s (.int r), .s (.int d)] ∧ Hd h' ∧ s.ok c r ∧ s.dep n := by
  obtain ⟨h1, k, e1, hh1, k0, k1⟩ := hh.draw (many := 10) (by decide) (by decide)
  obtain ⟨h2, x, e2, hh2, x0, x1⟩ := hh1.draw (many := c) (by omega) (by omega)
  obtain ⟨x, rfl⟩ : ∃ y : Nat, x = y := ⟨x.toNat, by omega⟩
  have hx : x < c := by omega
  unfold b__law_statement
  by_cases h2' : k < 2
  · obtain ⟨h3, l, e3, hh3, hl⟩ := hh2.sum c (by omega)
    refine ⟨h3, .set x l, ?_, hh3, ⟨hx, hl⟩, by cases n <;> trivial⟩
    simp [e1, e2, e3, h2', Sm.enc]
  by_cases h4 : k < 4
  · obtain ⟨h3, l, e3, hh3, hl⟩ := hh2.sum c (by omega)
    refine ⟨h3, .say l, ?_, hh3, hl, by cases n <;> trivial⟩
    simp [e1, e2, e3, h2', h4, Sm.enc]
  by_cases h5 : k = 4
  · obtain ⟨h3, v, e3, hh3, v0, v1⟩ := hh2.draw (many := r) (by omega) (by omega)
    obtain ⟨v, rfl⟩ : ∃ y : Nat, v = y := ⟨v.toNat, by omega⟩
    refine ⟨h3, .call v, ?_, hh3, (by omega : v < r), by cases n <;> trivial⟩
    subst h5
    simp [e1, e2, e3, Sm.enc]
  have alone : ∀ {h : O}, Hd h → ∃ (h' : O) (z : Int), f__law_any [h, .s (.lst [.int (-1), .int 1, .int 2, .int (-3)])] = .ok (.s (.int z)) [h', .s (.lst [.int (-1), .int 1, .int 2, .int (-3)])] ∧ Hd h' ∧ -1000 ≤ z ∧ z ≤ 1000 := fun {h} hh => by
    obtain ⟨h', w, e, hh', hw⟩ := hh.any (ds := [.int (-1), .int 1, .int 2, .int (-3)]) (by simp) (by simp)
    simp at hw
    rcases hw with rfl | rfl | rfl | rfl
    · exact ⟨h', _, e, hh', by decide, by decide⟩
    · exact ⟨h', _, e, hh', by decide, by decide⟩
    · exact ⟨h', _, e, hh', by decide, by decide⟩
    · exact ⟨h', _, e, hh', by decide, by decide⟩
  by_cases h7 : (7 : Int) < (d : Int)
  · obtain ⟨h3, z, e3, hh3, z0, z1⟩ := alone hh2
    obtain ⟨l, e4, hl⟩ := p_alone c x z (by omega) z0 z1
    refine ⟨h3, .set x l, ?_, hh3, ⟨hx, hl⟩, by cases n <;> trivial⟩
    simp [e1, e2, e3, e4, h2', h4, h5, h7, Sm.enc]
  by_cases h6 : k = 5
  · obtain ⟨h3, z, e3, hh3, z0, z1⟩ := alone hh2
    obtain ⟨l, e4, hl⟩ := p_alone c x z (by omega) z0 z1
    refine ⟨h3, .set x l, ?_, hh3, ⟨hx, hl⟩, by cases n <;> trivial⟩
    subst h6
    simp [e1, e2, e3, e4, h7, Sm.enc]
  obtain ⟨m, rfl, hB⟩ := hb (by omega)
  have hdd : ((d : Int) + 1) = ((d + 1 : Nat) : Int) := by omega
  by_cases h8 : k < 8
  · obtain ⟨h3, b1, e3, hh3, o1, p1, _⟩ := hB _ hh2
    obtain ⟨h4', kk, l, l', e4, hh4, hl, hl'⟩ := hh3.test c (by omega)
    obtain ⟨h5', b2, e5, hh5, o2, p2, _⟩ := hB _ hh4
    refine ⟨h5', .ifs kk l l' b1 b2, ?_, hh5, ⟨hl, hl', o1, o2⟩, m, rfl, p1, p2⟩
    rw [← hdd] at e3 e5
    simp [e1, e2, e3, e4, e5, h2', h4, h5, h6, h7, h8, Sm.enc]
  by_cases h9 : k = 8
  · obtain ⟨h3, b1, e3, hh3, o1, p1, _⟩ := hB _ hh2
    obtain ⟨h4', kk, l, l', e4, hh4, hl, hl'⟩ := hh3.test c (by omega)
    refine ⟨h4', .wh kk l l' b1, ?_, hh4, ⟨hl, hl', o1⟩, m, rfl, p1⟩
    rw [← hdd] at e3
    subst h9
    simp [e1, e2, e3, e4, h7, Sm.enc]
  · obtain ⟨h3, b1, e3, hh3, o1, p1, q1⟩ := hB _ hh2
    obtain ⟨l, e4, hl⟩ := p_alone c x 0 (by omega) (by decide) (by decide)
    obtain ⟨l', e5, hl'⟩ := p_alone c x (-1) (by omega) (by decide) (by decide)
    have oks_app : ∀ b : List Sm, Sm.oks c r b → Sm.oks c r (b ++ [.set x l']) := fun b => by
      induction b with
      | nil => intro _; exact ⟨⟨hx, hl'⟩, trivial⟩
      | cons s b ih => intro h; exact ⟨h.1, ih h.2⟩
    have deps_app : ∀ b : List Sm, Sm.deps m b → Sm.deps m (b ++ [.set x l']) := fun b => by
      induction b with
      | nil => intro _; exact ⟨by cases m <;> trivial, by cases m <;> trivial⟩
      | cons s b ih => intro h; exact ⟨h.1, ih h.2⟩
    refine ⟨h3, .wh true (List.replicate (c + 1) 0) l (b1 ++ [.set x l']), ?_, hh3, ⟨lin_zero c, hl, oks_app b1 o1⟩, m, rfl, deps_app b1 p1⟩
    rw [← hdd] at e3
    have hl1 : b1.length ≤ 16777215 := by have := Sm.len_size b1; omega
    have hk : 2 ≤ (c : Int) + 1 := by omega
    have hk2 : (c : Int) + 1 ≤ 1000 := by omega
    have hz : (List.replicate (c + 1) [D.int 0]).flatten = (List.replicate (c + 1) (0 : Int)).map D.int := zeros c
    simp [e1, e2, e3, e4, e5, h2', h4, h5, h6, h7, h8, h9, Sm.enc, Sm.encs_app, Sm.encs, Sm.encs_len, hl1, hk, hk2, hz, tstD]
mutual
theorem Sm.dep_mono : ∀ (s : Sm) (m n : Nat), s.dep m → m ≤ n → s.dep n
  | .set _ _, m, n, _, _ => by cases n <;> trivial
  | .say _, m, n, _, _ => by cases n <;> trivial
  | .call _, m, n, _, _ => by cases n <;> trivial
  | .ifs k l l' a b, m, n, h, le => by
    obtain ⟨m', rfl, h1, h2⟩ := h
    obtain ⟨n', rfl⟩ : ∃ n', n = n' + 1 := ⟨n - 1, by omega⟩
    exact ⟨n', rfl, Sm.deps_mono a m' n' h1 (by omega), Sm.deps_mono b m' n' h2 (by omega)⟩
  | .wh k l l' a, m, n, h, le => by
    obtain ⟨m', rfl, h1⟩ := h
    obtain ⟨n', rfl⟩ : ∃ n', n = n' + 1 := ⟨n - 1, by omega⟩
    exact ⟨n', rfl, Sm.deps_mono a m' n' h1 (by omega)⟩
theorem Sm.deps_mono : ∀ (b : List Sm) (m n : Nat), Sm.deps m b → m ≤ n → Sm.deps n b
  | [], m, n, _, _ => trivial
  | s :: b, m, n, h, le => ⟨Sm.dep_mono s m n h.1 le, Sm.deps_mono b m n h.2 le⟩
end
theorem cut_1 (b : List Sm) : cut (Sm.encs b) none (some 1) = Sm.encs (b.take 1) := by
  cases b with
  | nil => rfl
  | cons s b => simp [cut, HT.sIx, Sm.encs]
theorem Sm.deps_app {n : Nat} {s : Sm} : ∀ {b : List Sm}, Sm.deps n b → s.dep n → Sm.deps n (b ++ [s])
  | [], _, h => ⟨h, trivial⟩
  | x :: b, h, h2 => ⟨h.1, Sm.deps_app h.2 h2⟩
theorem Sm.oks_app {c r : Nat} {s : Sm} : ∀ {b : List Sm}, Sm.oks c r b → s.ok c r → Sm.oks c r (b ++ [s])
  | [], _, h => ⟨h, trivial⟩
  | x :: b, h, h2 => ⟨h.1, Sm.oks_app h.2 h2⟩
theorem p_body (c r : Nat) (hc : 1 ≤ c ∧ c ≤ 4) (hr : 1 ≤ r ∧ r ≤ 5) : ∀ n d : Nat, d ≤ 8 → 8 - d < n → BodyOk (f__law_body n) c r d (8 - d) := by
  intro n
  induction n with
  | zero => intro d _ h; omega
  | succ n ih =>
    intro d hd hn h hh
    have hm : ∃ q : Int, (if (d : Int) / 2 < 3 then (d : Int) / 2 else 3) = q ∧ 0 ≤ q ∧ q ≤ 3 := ⟨_, rfl, by split <;> omega, by split <;> omega⟩
    obtain ⟨q, hq, q0, q1⟩ := hm
    obtain ⟨h1, v, e1, hh1, v0, v1⟩ := hh.draw (many := 5 - q) (by omega) (by omega)
    obtain ⟨v, rfl⟩ : ∃ y : Nat, v = y := ⟨v.toNat, by omega⟩
    obtain ⟨e', k1, h2, b, x, rfl, hh2, o2, p2, l2⟩ := for_inv (set := setT [5]) (g := e1__law_body f__law_draw (runDef [0] 4 (b__law_statement f__law_draw f__law_sum f__law_alone f__law_any (f__law_body n) f__law_test)) (f__law_size 20))
      (I := fun ds e => ∃ (h : O) (b : List Sm) (x : Option O), e = [some h, some (.s (.int c)), some (.s (.int r)), some (.s (.int d)), some (.s (.tup (Sm.encs b))), x] ∧ Hd h ∧ Sm.oks c r b ∧ Sm.deps (8 - d) b ∧ b.length + ds.length ≤ 5)
      (by
        rintro i ds e ⟨h, b, x, rfl, hh, o, p, l⟩
        obtain ⟨h', s, e2, hh', o2, p2⟩ := p_stat (f__law_body n) c r d (8 - d) hc hr hd (fun h7 => ⟨8 - (d + 1), by omega, ih (d + 1) (by omega) (by omega)⟩) hh
        have hl : b.length ≤ 16777215 := by simp only [List.length_cons] at l; omega
        refine ⟨_, [some h', some (.s (.int c)), some (.s (.int r)), some (.s (.int d)), some (.s (.tup (Sm.encs (b ++ [s])))), some (.s i)], rfl, ?_, h', b ++ [s], _, rfl, hh', Sm.oks_app o o2, Sm.deps_app p p2, by simp only [List.length_cons, List.length_append, List.length_nil] at l ⊢; omega⟩
        unfold e1__law_body
        simp [-ev_run, e2, Sm.encs_app, Sm.encs, Sm.encs_len, hl]) (rngD 0 v) [some h1, some (.s (.int c)), some (.s (.int r)), some (.s (.int d)), some (.s (.tup [])), none] ⟨h1, [], none, rfl, hh1, trivial, trivial, by rw [rngD_len]; simp; omega⟩
    have hz : (rngD 0 v).length ≤ 16777216 := by rw [rngD_len]; omega
    have hrg : ∀ e : Env, rg1K (.ok [.val (.int (v : Int))] e) = .ok ⟨rngD 0 v, none⟩ e := fun e => (rg1_is (by omega) (by omega)).trans (by rw [Int.toNat_natCast])
    have s1 := p_size 19 b (Sm.deps_mono b _ 19 p2 (by omega))
    have ot : Sm.oks c r (b.take 1) ∧ Sm.deps (8 - d) (b.take 1) := by
      cases b with
      | nil => exact ⟨trivial, trivial⟩
      | cons s b => exact ⟨⟨o2.1, trivial⟩, p2.1, trivial⟩
    have s2 := p_size 19 (b.take 1) (Sm.deps_mono _ _ 19 ot.2 (by omega))
    by_cases z1 : Sm.sizes b < 37
    · refine ⟨h2, b, ?_, hh2, o2, p2, by omega⟩
      have z1' : ((Sm.sizes b : Nat) : Int) < 37 := by omega
      show runDef [0] 2 (b__law_body f__law_draw _ (f__law_size 20)) _ = _
      unfold b__law_body
      simp [cDiv, hq, e1, hrg, k1, s1, z1']
    by_cases z2 : Sm.sizes (b.take 1) < 37
    · refine ⟨h2, b.take 1, ?_, hh2, ot.1, ot.2, by omega⟩
      have z1' : ¬ ((Sm.sizes b : Nat) : Int) < 37 := by omega
      have z2' : ((Sm.sizes (b.take 1) : Nat) : Int) < 37 := by omega
      show runDef [0] 2 (b__law_body f__law_draw _ (f__law_size 20)) _ = _
      unfold b__law_body
      simp [cDiv, hq, e1, hrg, k1, s1, s2, z1', z2', cut_1]
    · refine ⟨h2, [], ?_, hh2, trivial, trivial, by simp [Sm.sizes]⟩
      have z1' : ¬ ((Sm.sizes b : Nat) : Int) < 37 := by omega
      have z2' : ¬ ((Sm.sizes (b.take 1) : Nat) : Int) < 37 := by omega
      show runDef [0] 2 (b__law_body f__law_draw _ (f__law_size 20)) _ = _
      unfold b__law_body
      simp [cDiv, hq, e1, hrg, k1, s1, s2, z1', z2', cut_1, Sm.encs]
def BodyIs (c r : Nat) (b : List Sm) : Prop := Sm.oks c r b ∧ Sm.deps 7 b ∧ Sm.sizes b ≤ 36
def encB (b : List Sm) : D := .tup (Sm.encs b)
theorem Hd.parts {h : O} (hh : Hd h) : ∃ (h' : O) (c : Nat) (bs : List (List Sm)), f__law_parts [h] = .ok (.s (.tup [.int (c : Nat), .tup (bs.map encB)])) [h'] ∧ Hd h' ∧ (1 ≤ c ∧ c ≤ 4) ∧ (1 ≤ bs.length ∧ bs.length ≤ 5) ∧ ∀ b ∈ bs, BodyIs c bs.length b := by
  obtain ⟨h1, v, e1, hh1, v0, v1⟩ := hh.draw (many := 4) (by decide) (by decide)
  obtain ⟨v, rfl⟩ : ∃ y : Nat, v = y := ⟨v.toNat, by omega⟩
  obtain ⟨h2, w, e2, hh2, w0, w1⟩ := hh1.draw (many := 5) (by decide) (by decide)
  obtain ⟨w, rfl⟩ : ∃ y : Nat, w = y := ⟨w.toNat, by omega⟩
  have hb := p_body (v + 1) (w + 1) (by omega) (by omega) 20 1 (by omega) (by omega)
  have c1 : ((v + 1 : Nat) : Int) = 1 + (v : Int) := by omega
  have c2 : ((w + 1 : Nat) : Int) = 1 + (w : Int) := by omega
  obtain ⟨e', k1, h3, bs, x, y, k2, rfl, hh3, k3, k4⟩ := for_inv (set := setT [4]) (g := e1__law_parts f__law_draw (f__law_body 20))
    (I := fun ds e => ∃ (h : O) (bs : List (List Sm)) (x y : Option O), bs.length + ds.length = w + 1 ∧ e = [some h, some (.s (.int (1 + (v : Int)))), some (.s (.int (1 + (w : Int)))), some (.s (.tup (bs.map encB))), x, y] ∧ Hd h ∧ (∀ b ∈ bs, BodyIs (v + 1) (w + 1) b) ∧ True)
    (by
      rintro i ds e ⟨h, bs, x, y, l, rfl, hh, o, _⟩
      obtain ⟨h', b, e3, hh', q1, q2, q3⟩ := hb h hh
      rw [c1, c2] at e3
      have e3' : f__law_body 20 [h, .s (.int (1 + (v : Int))), .s (.int (1 + (w : Int))), .s (.int 1)] = .ok (.s (.tup (Sm.encs b))) [h', .s (.int (1 + (v : Int))), .s (.int (1 + (w : Int))), .s (.int 1)] := e3
      have hl : bs.length ≤ 16777215 := by simp only [List.length_cons] at l; omega
      refine ⟨_, [some h', some (.s (.int (1 + (v : Int)))), some (.s (.int (1 + (w : Int)))), some (.s (.tup ((bs ++ [b]).map encB))), some (.s i), some (.s (encB b))], rfl, ?_, h', bs ++ [b], _, _, by simp only [List.length_cons, List.length_append, List.length_nil] at l ⊢; omega, rfl, hh', fun z hz => ?_, trivial⟩
      · unfold e1__law_parts
        simp [e3', hl, encB]
      · rcases List.mem_append.mp hz with q | q
        · exact o z q
        · have : z = b := by simpa using q
          subst this
          exact ⟨q1, q2, q3⟩) (rngD 0 (w + 1)) [some h2, some (.s (.int (1 + (v : Int)))), some (.s (.int (1 + (w : Int)))), some (.s (.tup [])), none, none] ⟨h2, [], none, none, by rw [rngD_len]; simp, rfl, hh2, fun b hb => by simp at hb, trivial⟩
  have hl : bs.length = w + 1 := by simpa using k2
  have hz : (rngD 0 (w + 1)).length ≤ 16777216 := by rw [rngD_len]; omega
  have hrg : ∀ e : Env, rg1K (.ok [.val (.int (1 + (w : Int)))] e) = .ok ⟨rngD 0 (w + 1), none⟩ e := fun e => (rg1_is (by omega) (by omega)).trans (by rw [show (1 + (w : Int)).toNat = w + 1 from by omega])
  refine ⟨h3, v + 1, bs, ?_, hh3, by omega, by omega, by rw [hl]; exact k3⟩
  unfold f__law_parts b__law_parts
  rw [c1]
  simp [-List.map_map, e1, e2, hrg, k1]
theorem cut_sub {α : Type} (xs : List α) (lo hi : Option Int) : ∀ x ∈ cut xs lo hi, x ∈ xs := fun x hx => List.mem_of_mem_drop (List.mem_of_mem_take hx)
theorem cut_len {α : Type} (xs : List α) (lo hi : Option Int) : (cut xs lo hi).length ≤ xs.length := by
  unfold cut
  rw [List.length_take, List.length_drop]
  omega
theorem p_hand (ns : List Int) (hn : ns.length ≤ 63) : ∃ h, f__law_hand [.s (.lst (ns.map D.int))] = .ok h [.s (.lst (ns.map D.int))] ∧ Hd h := by
  obtain ⟨ys, e', k1, ⟨y', x', k2⟩, k3, k4⟩ := lc_all (vs := [2]) (set := setT [2]) (f := e1__law_hand) (I := fun e => ∃ y x : Option O, e = [some (.s (.lst (ns.map D.int))), y, x]) (R := fun y => ∃ i, y = D.int i ∧ True) (G := fun d => ∃ i : Int, d = .int i)
    (by
      rintro e d ⟨y, x, rfl⟩ ⟨i, rfl⟩
      refine ⟨_, .int (if i < 0 then -i else i), _, rfl, ?_, ⟨y, some (.s (.int i)), rfl⟩, _, rfl, trivial⟩
      unfold e1__law_hand
      simp) (cut (ns.map D.int) none (some 63)) [some (.s (.lst (ns.map D.int))), none, none] ⟨none, none, rfl⟩ (fun d hd => by
        obtain ⟨i, _, rfl⟩ := List.mem_map.mp (cut_sub _ _ _ d hd)
        exact ⟨i, rfl⟩)
  obtain ⟨cs, rfl, _⟩ := ints_of k4
  have hz : (cut (ns.map D.int) none (some 63)).length ≤ 16777216 := Nat.le_trans (cut_len _ _ _) (by rw [List.length_map]; omega)
  subst k2
  refine ⟨hnd cs 0 0 (1 + (cs.length : Int)) 0, ?_, Hd.mk cs 0 _ 0 (by decide)⟩
  unfold f__law_hand b__law_hand hnd
  simp [-List.map_map, hz, k1]
theorem Hd.begins {h : O} (hh : Hd h) (c : Nat) (hc : c ≤ 8) : ∃ (h' : O) (l : List Int), f__law_begins [h, .s (.int c)] = .ok (.s (.tup (l.map D.int))) [h', .s (.int c)] ∧ Hd h' ∧ l.length = c := by
  obtain ⟨ys, e', k1, ⟨h', x', k2, hh'⟩, k3, k4⟩ := lc_all (vs := [2]) (set := setT [2]) (f := e1__law_begins f__law_any) (I := fun e => ∃ (h : O) (x : Option O), e = [some h, some (.s (.int c)), x] ∧ Hd h) (R := fun y => ∃ i, y = D.int i ∧ True) (G := fun _ => True)
    (by
      rintro e d ⟨h, x, rfl, hh⟩ _
      obtain ⟨h', w, e1, hh', hw⟩ := hh.any (ds := [.int 0, .int 1, .int 2, .int 3, .int 5, .int (-1), .int (-4), .int 12, .int 10000000000000000000]) (by simp) (by simp)
      obtain ⟨i, rfl⟩ : ∃ i, w = .int i := by
        simp at hw
        rcases hw with rfl | rfl | rfl | rfl | rfl | rfl | rfl | rfl | rfl <;> exact ⟨_, rfl⟩
      refine ⟨_, .int i, _, rfl, ?_, ⟨h', some (.s d), rfl, hh'⟩, _, rfl, trivial⟩
      unfold e1__law_begins
      simp [cPow2, log10, e1]) (rngD 0 c) [some h, some (.s (.int c)), none] ⟨h, none, rfl, hh⟩ (fun _ _ => trivial)
  obtain ⟨l, rfl, _⟩ := ints_of k4
  rw [rngD_len, List.length_map] at k3
  subst k2
  have hz : (rngD 0 c).length ≤ 16777216 := by rw [rngD_len]; omega
  have hrg : ∀ e : Env, rg1K (.ok [.val (.int (c : Int))] e) = .ok ⟨rngD 0 c, none⟩ e := fun e => (rg1_is (by omega) (by omega)).trans (by rw [Int.toNat_natCast])
  refine ⟨h', l, ?_, hh', k3⟩
  unfold f__law_begins b__law_begins
  simp [-List.map_map, hrg, hz, k1]
end L3
namespace L3
open PySem L2
def lval (l vs : List Int) : Int := l.getLastD 0 + (List.zipWith (· * ·) l vs).sum
theorem zip_items (l vs : List Int) : zipD (l.map D.int) (vs.map D.int) = (List.zip l vs).map fun p => .tup [.int p.1, .int p.2] := by
  unfold zipD
  rw [List.zipWith_map]
  induction l generalizing vs with
  | nil => simp
  | cons a l ih =>
    cases vs with
    | nil => simp
    | cons v vs => simp [ih]
def mulD : D → D
  | .tup [.int a, .int b] => .int (a * b)
  | d => d
theorem at_last {xs : List D} {d : D} (h : xs.getLast? = some d) : atI xs (-1) = some d := by
  have hl : 0 < xs.length := by
    cases xs with
    | nil => simp at h
    | cons a b => simp
  have h1 : ixN xs.length (-1) = some (xs.length - 1) := by
    unfold ixN
    rw [if_neg (by decide), if_pos (by omega)]
    exact congrArg some (by omega)
  unfold atI
  rw [h1]
  show xs[xs.length - 1]? = some d
  rw [← List.getLast?_eq_getElem?]
  exact h
theorem last_map {l : List Int} (h : 0 < l.length) : (l.map D.int).getLast? = some (.int (l.getLastD 0)) := by
  cases l with
  | nil => simp at h
  | cons a l => simp [List.getLast?_map, List.getLast?_cons, List.getLastD_cons]
theorem p_value {c : Nat} (l vs : List Int) (hl : lin c l) (hv : vs.length = c) (hc : c ≤ 8) : f_value_of [.s (.tup (l.map D.int)), .s (.tup (vs.map D.int))] = .ok (.s (.int (lval l vs))) [.s (.tup (l.map D.int)), .s (.tup (vs.map D.int))] := by
  obtain ⟨e', k1, x, y, rfl⟩ := lc_map (vs := [2, 3]) (set := setTup [2, 3]) (f := e1_value_of) (F := mulD) (I := fun e => ∃ x y : Option O, e = [some (.s (.tup (l.map D.int))), some (.s (.tup (vs.map D.int))), x, y])
    (zipD (l.map D.int) (vs.map D.int)) [some (.s (.tup (l.map D.int))), some (.s (.tup (vs.map D.int))), none, none]
    (by
      rintro e d ⟨x, y, rfl⟩ hd
      rw [zip_items] at hd
      obtain ⟨⟨a, b⟩, hm, rfl⟩ := List.mem_map.mp hd
      have ha := hl.2 a (List.of_mem_zip hm).1
      have hcm : cMul2 a b = true := by
        unfold cMul2
        simp only [Bool.or_eq_true, decide_eq_true_eq]
        exact .inl (.inl (by omega))
      refine ⟨_, _, rfl, ?_, some (.s (.int a)), some (.s (.int b)), rfl⟩
      unfold e1_value_of mulD
      simp [hcm]) ⟨none, none, rfl⟩
  have hlen : 0 < l.length := by rw [hl.1]; omega
  have e0 : atI (l.map D.int) (-1) = some (.int (l.getLastD 0)) := at_last (last_map hlen)
  have e1 : (zipD (l.map D.int) (vs.map D.int)).map mulD = (List.zipWith (· * ·) l vs).map D.int := by
    rw [zip_items, List.map_map]
    clear e0 hlen k1 hl hv
    induction l generalizing vs with
    | nil => simp
    | cons a l ih =>
      cases vs with
      | nil => simp
      | cons v vs => simp [ih, mulD]
  rw [e1] at k1
  have hz : (zipD (l.map D.int) (vs.map D.int)).length ≤ 16777216 := by
    unfold zipD
    rw [List.length_zipWith, List.length_map, List.length_map]
    omega
  unfold f_value_of b_value_of
  unfold lval
  generalize List.zipWith (fun x1 x2 => x1 * x2) l vs = ms at k1 ⊢
  simp [-List.map_map, e0, hz, k1]
def tval (k : Bool) (l m vs : List Int) : Bool := if k = true then decide (lval l vs < lval m vs) else decide (lval l vs = lval m vs)
theorem p_holds {c : Nat} (k : Bool) (l m vs : List Int) (hl : lin c l) (hm : lin c m) (hv : vs.length = c) (hc : c ≤ 8) : f_holds [.s (tstD k l m), .s (.tup (vs.map D.int))] = .ok (.s (.bl (tval k l m vs))) [.s (tstD k l m), .s (.tup (vs.map D.int))] := by
  have e1 := p_value l vs hl hv hc
  have e2 := p_value m vs hm hv hc
  unfold f_holds b_holds tstD tval
  cases k <;> simp [-List.map_map, atI, ixN, e1, e2]
theorem p_lvalue {c : Nat} (tup : Bool) (l vs : List Int) (hl : lin c l) (hv : vs.length = c) (hc : c ≤ 8) : f__law_value [.s (.tup (l.map D.int)), .s (if tup = true then .tup (vs.map D.int) else .lst (vs.map D.int))] = .ok (.s (.int (lval l vs))) [.s (.tup (l.map D.int)), .s (if tup = true then .tup (vs.map D.int) else .lst (vs.map D.int))] := by
  have hlen : 0 < l.length := by rw [hl.1]; omega
  have e0 : atI (l.map D.int) (-1) = some (.int (l.getLastD 0)) := at_last (last_map hlen)
  generalize hV : (if tup = true then D.tup (vs.map D.int) else .lst (vs.map D.int)) = V
  have hzip : ∀ e : Env, zipS (.ok [.val (.tup (l.map D.int)), .val V] e) = .ok ⟨zipD (l.map D.int) (vs.map D.int), none⟩ e := fun e => by
    subst hV
    cases tup <;> rfl
  obtain ⟨e', k1, ds, s, x, y, k2, rfl, k3, _⟩ := for_inv (set := setTup [3, 4]) (g := e1__law_value)
    (I := fun ds e => ∃ (ps : List (Int × Int)) (s : Int) (x y : Option O), ds = ps.map (fun p => D.tup [.int p.1, .int p.2]) ∧ e = [some (.s (.tup (l.map D.int))), some (.s V), some (.s (.int s)), x, y] ∧ s + (ps.map fun p => p.1 * p.2).sum = lval l vs ∧ ∀ p ∈ ps, -1000 ≤ p.1 ∧ p.1 ≤ 1000)
    (by
      rintro d ds e ⟨ps, s, x, y, h1, rfl, h3, h4⟩
      cases ps with
      | nil => simp at h1
      | cons p ps =>
        simp only [List.map_cons, List.cons.injEq] at h1
        obtain ⟨rfl, rfl⟩ := h1
        have ha := h4 p (by simp)
        have hcm : cMul2 p.1 p.2 = true := by
          unfold cMul2
          simp only [Bool.or_eq_true, decide_eq_true_eq]
          exact .inl (.inl (by omega))
        refine ⟨_, [some (.s (.tup (l.map D.int))), some (.s V), some (.s (.int (s + p.1 * p.2))), some (.s (.int p.1)), some (.s (.int p.2))], rfl, ?_, ps, _, _, _, rfl, rfl, ?_, fun q hq => h4 q (by simp [hq])⟩
        · unfold e1__law_value
          simp [hcm]
        · simp only [List.map_cons, List.sum_cons] at h3
          omega) (zipD (l.map D.int) (vs.map D.int)) [some (.s (.tup (l.map D.int))), some (.s V), some (.s (.int (l.getLastD 0))), none, none]
    ⟨List.zip l vs, _, none, none, zip_items l vs, rfl, by unfold lval; congr 2; clear hlen e0 hzip hl hv hV; induction l generalizing vs with | nil => simp | cons a l ih => cases vs with | nil => simp | cons v vs => simpa using ih vs, fun p hp => hl.2 p.1 (List.of_mem_zip hp).1⟩
  have : ds = [] := by
    cases ds with
    | nil => rfl
    | cons p ps => simp at k2
  subst this
  have k3 : s = lval l vs := by simpa using k3
  subst k3
  generalize l.getLastD 0 = z at e0 k1
  unfold f__law_value b__law_value
  simp [-List.map_map, e0, hzip, k1]
theorem p_ltest {c : Nat} (tup : Bool) (k : Bool) (l m vs : List Int) (hl : lin c l) (hm : lin c m) (hv : vs.length = c) (hc : c ≤ 8) : f__law_test_holds [.s (tstD k l m), .s (if tup = true then .tup (vs.map D.int) else .lst (vs.map D.int))] = .ok (.s (.bl (tval k l m vs))) [.s (tstD k l m), .s (if tup = true then .tup (vs.map D.int) else .lst (vs.map D.int))] := by
  have e1 := p_lvalue tup l vs hl hv hc
  have e2 := p_lvalue tup m vs hm hv hc
  generalize (if tup = true then D.tup (vs.map D.int) else .lst (vs.map D.int)) = V at e1 e2 ⊢
  unfold f__law_test_holds b__law_test_holds tstD tval
  cases k <;> simp [-List.map_map, atI, ixN, e1, e2]
@[simp] theorem nm1 : ((Str.ofString "doings") = (Str.ofString "comers")) = False := eq_false (by decide +kernel)
@[simp] theorem nm2 : ((Str.ofString "doings") = (Str.ofString "place_for")) = False := eq_false (by decide +kernel)
@[simp] theorem nm3 : ((Str.ofString "comers") = (Str.ofString "place_for")) = False := eq_false (by decide +kernel)
def lay0 (ds cs : List D) : O := .ins 1 ["doings", "comers"] [.lst (ds.map O.s), .lst (cs.map O.s)]
theorem p_place (ds cs : List D) (d : D) (h1 : ds.length < 1000) (h2 : cs.length < 1000) : f_Layout_place_for [lay0 ds cs, .s d] = .ok (.s (.int ds.length)) [lay0 (ds ++ [d]) (cs ++ [.lst []]), .s d] := by
  have a1 : ds.length < 16777216 := by omega
  have a2 : cs.length < 16777216 := by omega
  unfold f_Layout_place_for b_Layout_place_for lay0
  simp [a1, a2]
def arD (a : Int × Int) : D := .tup [.int a.1, .int a.2]
def arP (a : Int × Int) : PyData := .tuple [.int a.1, .int a.2]
theorem ar_py (a : Int × Int) : (arD a).py = some (arP a) := by simp [arD, arP, D.py, D.pys]
theorem ars_py (as : List (Int × Int)) : D.pys (as.map arD) = some (as.map arP) := by
  induction as with
  | nil => simp [D.pys]
  | cons a as ih => simp [D.pys, ar_py, ih]
theorem ar_shp (a : Int × Int) : SeqAt.shaped (arP a) = true := by
  unfold SeqAt.shaped arP
  simp [PyData.canLay0, PyData.canLayAll0, PyData.depth, PyData.depthAll]
theorem ar_eqv (a b : Int × Int) : PyData.eqv (arP a) (arP b) = decide (a = b) := by
  obtain ⟨a1, a2⟩ := a
  obtain ⟨b1, b2⟩ := b
  simp [arP, PyData.eqv, PyData.eqvAll, beq_dec]
theorem ars_shp (as : List (Int × Int)) : SeqAt.shaped (.list (as.map arP)) = true := by
  unfold SeqAt.shaped
  rw [Bool.and_eq_true]
  have h : PyData.canLayAll0 (as.map arP) = true ∧ PyData.depthAll (as.map arP) ≤ 1 := by
    induction as with
    | nil => exact ⟨by simp [PyData.canLayAll0], by simp [PyData.depthAll]⟩
    | cons a as ih =>
      refine ⟨?_, ?_⟩
      · simp [PyData.canLayAll0, arP, PyData.canLay0]
        simpa using ih.1
      · have := ih.2
        simp [PyData.depthAll, arP, PyData.depth] at this ⊢
        omega
  refine ⟨by simpa [PyData.canLay0] using h.1, ?_⟩
  have := h.2
  exact decide_eq_true (by show PyData.depthAll (as.map arP) + 1 ≤ 64; omega)
theorem arrow_in (a : Int × Int) (as : List (Int × Int)) : gInD false (.val (arD a)) (.val (.lst (as.map arD))) = some (.val (.bl (decide (a ∈ as)))) := by
  unfold gInD
  have e : (D.lst (as.map arD)).py = some (.list (as.map arP)) := by simp [D.py, ars_py]
  simp only [ev_sl2, ev_d2, ar_py, e, ar_shp, ars_shp]
  simp [List.any_map]
  clear e
  induction as with
  | nil => simp
  | cons b as ih =>
    rw [List.any_cons, ih]
    show (PyData.eqv (arP b) (arP a) || decide (a ∈ as)) = _
    rw [ar_eqv]
    by_cases q : a = b
    · subst q; simp
    · simp [q, Ne.symm q]
theorem lc_filt {vs : List Nat} {set : D → Env → Option Env} {t : MT} {f : ME} {I : Env → Prop} {p : D → Bool} {F : D → D} :
    ∀ (items : List D) (e : Env), (∀ e d, I e → d ∈ items → ∃ e1 e2, set d (wipeE e vs) = some e1 ∧ t e1 = .ok (p d) e2 ∧ (p d = false → I e2) ∧ (p d = true → ∃ e3, f e2 = .ok (.val (F d)) e3 ∧ I e3)) → I e → ∃ e', lcL vs set t f items e = .ok ((items.filter p).map F) e' ∧ I e'
  | [], e, _, hI => ⟨e, rfl, hI⟩
  | d :: ds, e, step, hI => by
    obtain ⟨e1, e2, h1, h2, h3, h4⟩ := step e d hI (by simp)
    rw [lc_cons, h1]
    simp only [ev_lcT, h2, ev_lcB]
    cases q : p d with
    | false =>
      obtain ⟨e', i1, i2⟩ := lc_filt ds e2 (fun e d' a b => step e d' a (by simp [b])) (h3 q)
      refine ⟨e', ?_, i2⟩
      rw [if_neg Bool.false_ne_true, i1, List.filter_cons_of_neg (by simp [q])]
    | true =>
      obtain ⟨e3, k1, k2⟩ := h4 q
      obtain ⟨e', i1, i2⟩ := lc_filt ds e3 (fun e d' a b => step e d' a (by simp [b])) k2
      refine ⟨e', ?_, i2⟩
      rw [if_pos rfl, k1, ev_lcE, i1, ev_lcG, List.filter_cons_of_pos q]
      rfl
def comD (r : List (Int × Int)) : D := .lst (r.map arD)
def hasA (a : Int × Int) : D → Bool
  | .tup [_, l] => match gInD false (.val (arD a)) (.val l) with
    | some (.val (.bl b)) => b
    | _ => false
  | _ => false
def fstD : D → D
  | .tup (d :: _) => d
  | d => d
theorem hasA_is (a : Int × Int) (i : Int) (r : List (Int × Int)) : hasA a (.tup [.int i, comD r]) = decide (a ∈ r) := by
  show (match gInD false (.val (arD a)) (.val (.lst (r.map arD))) with | some (.val (.bl b)) => b | _ => false) = _
  rw [arrow_in]
theorem heads (a : Int × Int) : ∀ (rows : List (List (Int × Int))) (k i : Nat) (r : List (Int × Int)), rows[i]? = some r → a ∈ r → (∀ j r', j < i → rows[j]? = some r' → a ∉ r') →
    ∃ rest, ((enumD k (rows.map comD)).filter (hasA a)).map fstD = .int ((k + i : Nat) : Int) :: rest
  | [], k, i, r, h, _, _ => by simp at h
  | x :: rows, k, 0, r, h, ha, hn => by
    have e : x = r := by simpa using h
    subst e
    show ∃ rest, (List.filter (hasA a) (.tup [.int (k : Nat), comD x] :: enumD (k + 1) (rows.map comD))).map fstD = _
    rw [List.filter_cons_of_pos (by rw [hasA_is]; simpa using ha)]
    exact ⟨_, rfl⟩
  | x :: rows, k, i + 1, r, h, ha, hn => by
    have hx : a ∉ x := hn 0 x (by omega) (by simp)
    obtain ⟨rest, e⟩ := heads a rows (k + 1) i r (by simpa using h) ha (fun j r' hj hr => hn (j + 1) r' (by omega) (by simpa using hr))
    show ∃ rest, (List.filter (hasA a) (.tup [.int (k : Nat), comD x] :: enumD (k + 1) (rows.map comD))).map fstD = _
    rw [List.filter_cons_of_neg (by rw [hasA_is]; simpa using hx), e]
    exact ⟨rest, by rw [show k + 1 + i = k + (i + 1) from by omega]⟩
theorem enum_mem {ds : List D} {k : Nat} {d : D} (h : d ∈ enumD k ds) : ∃ (j : Nat) (x : D), d = .tup [.int (j : Int), x] ∧ x ∈ ds := by
  obtain ⟨i, hi⟩ := List.mem_iff_getElem?.mp h
  rw [enumD_get] at hi
  cases q : ds[i]? with
  | none => rw [q] at hi; cases hi
  | some x =>
    rw [q] at hi
    exact ⟨k + i, x, (Option.some.inj hi).symm, List.mem_of_getElem? q⟩
theorem p_head (ns : List Str) (ds : List D) (rows : List (List (Int × Int))) (a : Int × Int) (i : Nat) (r : List (Int × Int)) (hlk : lk ns ds "comers" = some (.lst (rows.map comD))) (hlen : rows.length ≤ 1000) (hi : rows[i]? = some r) (ha : a ∈ r) (hn : ∀ j r', j < i → rows[j]? = some r' → a ∉ r') :
    f_Layout_head_of [.s (.ins 1 ns ds), .s (arD a)] = .ok (.s (.int i)) [.s (.ins 1 ns ds), .s (arD a)] := by
  obtain ⟨rest, hr⟩ := heads a rows 0 i r hi ha hn
  obtain ⟨e', k1, x, y, rfl⟩ := lc_filt (vs := [2, 3]) (set := setTup [2, 3]) (t := e1_Layout_head_of) (f := e2_Layout_head_of) (p := hasA a) (F := fstD) (I := fun e => ∃ x y : Option O, e = [some (.s (.ins 1 ns ds)), some (.s (arD a)), x, y])
    (enumD 0 (rows.map comD)) [some (.s (.ins 1 ns ds)), some (.s (arD a)), none, none] (by
      rintro e d ⟨x, y, rfl⟩ hd
      obtain ⟨j, z, rfl, hz⟩ := enum_mem hd
      obtain ⟨q, _, rfl⟩ := List.mem_map.mp hz
      refine ⟨_, [some (.s (.ins 1 ns ds)), some (.s (arD a)), some (.s (.int j)), some (.s (comD q))], rfl, ?_, fun _ => ⟨some (.s (.int j)), some (.s (comD q)), rfl⟩, fun _ => ⟨[some (.s (.ins 1 ns ds)), some (.s (arD a)), some (.s (.int j)), some (.s (comD q))], ?_, some (.s (.int j)), some (.s (comD q)), rfl⟩⟩
      · rw [hasA_is]
        unfold e1_Layout_head_of comD
        simp [-List.map_map, arrow_in]
      · unfold e2_Layout_head_of fstD
        simp) ⟨none, none, rfl⟩
  rw [hr] at k1
  have hz : (enumD 0 (rows.map comD)).length ≤ 16777216 := by rw [enumD_len, List.length_map]; omega
  rw [Nat.zero_add] at k1
  unfold f_Layout_head_of b_Layout_head_of
  simp [-List.map_map, hlk, hz, k1, gIx, atI, ixN]
theorem eq_ts {ds : List D} {ps : List PyData} {s : Str} (h : D.pys ds = some ps) (hs : SeqAt.shaped (.tuple ps) = true) (hk : PyData.strOk s = true) : gEq (.val (.tup ds)) (.val (.str s)) = some (.val (.bl false)) := by
  have e : (D.tup ds).py = some (.tuple ps) := by simp [D.py, h]
  have e2 : (D.str s).py = some (.str s) := by simp [D.py]
  unfold gEq eqD
  simp [e, e2, hs, shp_str hk, PyData.eqv]
theorem ints_py (l : List Int) : D.pys (l.map D.int) = some (l.map PyData.int) := by
  induction l with
  | nil => simp [D.pys]
  | cons a l ih => simp [D.pys, D.py, ih]
theorem ints_lay (l : List Int) : PyData.canLayAll0 (l.map PyData.int) = true ∧ PyData.depthAll (l.map PyData.int) = 0 := by
  induction l with
  | nil => simp [PyData.canLayAll0, PyData.depthAll]
  | cons a l ih => simp [PyData.canLayAll0, PyData.depthAll, PyData.canLay0, PyData.depth, ih.1, ih.2]
theorem tst_end (k : Bool) (l m : List Int) {s : Str} (hs : PyData.strOk s = true) : gEq (.val (tstD k l m)) (.val (.str s)) = some (.val (.bl false)) := by
  have hw : PyData.strOk (if k = true then ("less" : Str) else "same") = true := by cases k <;> simp
  refine eq_ts (ps := [.str (if k = true then "less" else "same"), .tuple (l.map .int), .tuple (m.map .int)]) (by simp [D.pys, D.py, ints_py]) ?_ hs
  unfold SeqAt.shaped
  rw [Bool.and_eq_true]
  exact ⟨by simp [PyData.canLay0, PyData.canLayAll0, hw, (ints_lay l).1, (ints_lay m).1], by simp [PyData.depth, PyData.depthAll, (ints_lay l).2, (ints_lay m).2]⟩
@[simp] theorem in_ls1 : gIn false (.val (.str (Str.ofString "less"))) (.val (.tup [.str (Str.ofString "less"), .str (Str.ofString "same")])) = some (.val (.bl true)) := Eq.trans rfl rfl
@[simp] theorem in_ls2 : gIn false (.val (.str (Str.ofString "same"))) (.val (.tup [.str (Str.ofString "less"), .str (Str.ofString "same")])) = some (.val (.bl true)) := Eq.trans rfl rfl
theorem p_ways_tst (ns : List Str) (ds dl : List D) (i : Nat) (k : Bool) (l m : List Int) (hlk : lk ns ds "doings" = some (.lst dl)) (hi : dl[i]? = some (tstD k l m)) :
    f_Layout_ways_at [.s (.ins 1 ns ds), .s (.int i)] = .ok (.s (.int 2)) [.s (.ins 1 ns ds), .s (.int i)] := by
  have ha : atI dl (i : Int) = some (tstD k l m) := atI_nat hi
  have he := tst_end k l m (s := "end") (by simp)
  have h0 : gIx (.val (tstD k l m)) (.val (.int 0)) = some (.val (.str (if k = true then "less" else "same"))) := by unfold tstD; simp [atI, ixN]
  unfold f_Layout_ways_at b_Layout_ways_at
  cases k <;> simp [-List.map_map, hlk, ha, he, h0]
theorem p_ways_end (ns : List Str) (ds dl : List D) (i : Nat) (hlk : lk ns ds "doings" = some (.lst dl)) (hi : dl[i]? = some (.str "end")) :
    f_Layout_ways_at [.s (.ins 1 ns ds), .s (.int i)] = .ok (.s (.int 0)) [.s (.ins 1 ns ds), .s (.int i)] := by
  have ha : atI dl (i : Int) = some (.str "end") := atI_nat hi
  unfold f_Layout_ways_at b_Layout_ways_at
  simp [-List.map_map, hlk, ha]
end L3
namespace L3
open PySem L2
inductive It where
  | sm (s : Sm)
  | beg
  | join
  | fin
structure Row where
  cm : List (Nat × Nat)
  hd : It
  tl : List It
def Row.full (r : Row) : List It := r.hd :: r.tl
def wayTo : It → List It → Nat → Option (List It)
  | .sm (.wh k l m b), K, 0 => some (b.map It.sm ++ .sm (.wh k l m b) :: K)
  | .sm (.wh _ _ _ _), K, 1 => some K
  | .sm (.ifs _ _ _ a _), K, 0 => some (a.map It.sm ++ .join :: K)
  | .sm (.ifs _ _ _ _ b), K, 1 => some (b.map It.sm ++ .join :: K)
  | .sm (.set _ _), K, 0 => some K
  | .sm (.say _), K, 0 => some K
  | .sm (.call _), K, 0 => some K
  | .beg, K, 0 => some K
  | .join, K, 0 => some K
  | _, _, _ => none
mutual
def Sm.lay1 : Sm → List It → Nat × Nat → Nat → List Row × (Nat × Nat)
  | .set x l, K, c, n => ([⟨[c], .sm (.set x l), K⟩], (n, 0))
  | .say l, K, c, n => ([⟨[c], .sm (.say l), K⟩], (n, 0))
  | .call x, K, c, n => ([⟨[c], .sm (.call x), K⟩], (n, 0))
  | .ifs k l m a b, K, c, n =>
    (⟨[c], .sm (.ifs k l m a b), K⟩ :: ((Sm.lays a (.join :: K) (n, 0) (n + 1)).1 ++ ((Sm.lays b (.join :: K) (n, 1) (n + 1 + Sm.sizes a)).1 ++ [⟨[(Sm.lays b (.join :: K) (n, 1) (n + 1 + Sm.sizes a)).2, (Sm.lays a (.join :: K) (n, 0) (n + 1)).2], .join, K⟩])),
      (n + 1 + Sm.sizes a + Sm.sizes b, 0))
  | .wh k l m b, K, c, n =>
    (⟨[c, (Sm.lays b (.sm (.wh k l m b) :: K) (n, 0) (n + 1)).2], .sm (.wh k l m b), K⟩ :: (Sm.lays b (.sm (.wh k l m b) :: K) (n, 0) (n + 1)).1, (n, 1))
def Sm.lays : List Sm → List It → Nat × Nat → Nat → List Row × (Nat × Nat)
  | [], _, c, _ => ([], c)
  | s :: r, K, c, n => ((s.lay1 (r.map It.sm ++ K) c n).1 ++ (Sm.lays r K (s.lay1 (r.map It.sm ++ K) c n).2 (n + s.size)).1, (Sm.lays r K (s.lay1 (r.map It.sm ++ K) c n).2 (n + s.size)).2)
end
mutual
theorem Sm.lay1_len : ∀ (s : Sm) (K : List It) (c : Nat × Nat) (n : Nat), (s.lay1 K c n).1.length = s.size
  | .set x l, K, c, n => by simp [Sm.lay1, Sm.size]
  | .say l, K, c, n => by simp [Sm.lay1, Sm.size]
  | .call x, K, c, n => by simp [Sm.lay1, Sm.size]
  | .ifs k l m a b, K, c, n => by
    simp [Sm.lay1, Sm.size, Sm.lays_len a, Sm.lays_len b]
    omega
  | .wh k l m b, K, c, n => by
    simp [Sm.lay1, Sm.size, Sm.lays_len b]
    omega
theorem Sm.lays_len : ∀ (b : List Sm) (K : List It) (c : Nat × Nat) (n : Nat), (Sm.lays b K c n).1.length = Sm.sizes b
  | [], K, c, n => by simp [Sm.lays, Sm.sizes]
  | s :: r, K, c, n => by simp [Sm.lays, Sm.sizes, Sm.lay1_len s, Sm.lays_len r]
end
def Sits (T : List Row) (n : Nat) (xs : List Row) : Prop := ∀ (i : Nat) (r : Row), xs[i]? = some r → T[n + i]? = some r
theorem Sits.left {T xs ys : List Row} {n : Nat} (h : Sits T n (xs ++ ys)) : Sits T n xs := fun i r e => h i r (by
  rw [List.getElem?_append_left (List.getElem?_eq_some_iff.mp e).1]; exact e)
theorem Sits.right {T xs ys : List Row} {n m : Nat} (h : Sits T n (xs ++ ys)) (hm : m = n + xs.length) : Sits T m ys := fun i r e => by
  have := h (xs.length + i) r (by rw [List.getElem?_append_right (by omega), Nat.add_sub_cancel_left]; exact e)
  rw [hm, Nat.add_assoc]; exact this
theorem Sits.head {T ys : List Row} {x : Row} {n : Nat} (h : Sits T n (x :: ys)) : T[n]? = some x := h 0 x rfl
theorem Sits.tail {T ys : List Row} {x : Row} {n : Nat} (h : Sits T n (x :: ys)) : Sits T (n + 1) ys := fun i r e => by
  have := h (i + 1) r (by simpa using e)
  rw [show n + 1 + i = n + (i + 1) from by omega]; exact this
def Arr (T : List Row) (a : Nat × Nat) (X : List It) : Prop := ∃ r, T[a.1]? = some r ∧ wayTo r.hd r.tl a.2 = some X
mutual
theorem Sm.lay1_ok (T : List Row) : ∀ (s : Sm) (K : List It) (c : Nat × Nat) (n : Nat), Sits T n (s.lay1 K c n).1 → Arr T c (.sm s :: K) → (∀ r ∈ (s.lay1 K c n).1, ∀ a ∈ r.cm, Arr T a r.full) ∧ Arr T (s.lay1 K c n).2 K
  | .set x l, K, c, n, hs, hc => by
    simp only [Sm.lay1] at hs ⊢
    refine ⟨fun r hr a ha => ?_, _, hs.head, rfl⟩
    have : r = ⟨[c], .sm (.set x l), K⟩ := by simpa using hr
    subst this
    have : a = c := by simpa using ha
    subst this
    exact hc
  | .say l, K, c, n, hs, hc => by
    simp only [Sm.lay1] at hs ⊢
    refine ⟨fun r hr a ha => ?_, _, hs.head, rfl⟩
    have : r = ⟨[c], .sm (.say l), K⟩ := by simpa using hr
    subst this
    have : a = c := by simpa using ha
    subst this
    exact hc
  | .call x, K, c, n, hs, hc => by
    simp only [Sm.lay1] at hs ⊢
    refine ⟨fun r hr a ha => ?_, _, hs.head, rfl⟩
    have : r = ⟨[c], .sm (.call x), K⟩ := by simpa using hr
    subst this
    have : a = c := by simpa using ha
    subst this
    exact hc
  | .ifs k l m a b, K, c, n, hs, hc => by
    simp only [Sm.lay1] at hs ⊢
    have h0 := hs.head
    have hA := hs.tail.left
    have hB := (hs.tail.right (m := n + 1 + Sm.sizes a) (by rw [Sm.lays_len])).left
    have hJ := ((hs.tail.right (m := n + 1 + Sm.sizes a) (by rw [Sm.lays_len])).right (m := n + 1 + Sm.sizes a + Sm.sizes b) (by rw [Sm.lays_len])).head
    obtain ⟨a1, a2⟩ := Sm.lays_ok T a (.join :: K) (n, 0) (n + 1) hA ⟨_, h0, rfl⟩
    obtain ⟨b1, b2⟩ := Sm.lays_ok T b (.join :: K) (n, 1) (n + 1 + Sm.sizes a) hB ⟨_, h0, rfl⟩
    refine ⟨fun r hr x hx => ?_, _, hJ, rfl⟩
    rcases List.mem_cons.mp hr with rfl | hr
    · have : x = c := by simpa using hx
      subst this
      exact hc
    rcases List.mem_append.mp hr with hr | hr
    · exact a1 r hr x hx
    rcases List.mem_append.mp hr with hr | hr
    · exact b1 r hr x hx
    · obtain rfl := List.mem_singleton.mp hr
      rcases List.mem_cons.mp hx with rfl | hx
      · exact b2
      · obtain rfl := List.mem_singleton.mp hx
        exact a2
  | .wh k l m b, K, c, n, hs, hc => by
    simp only [Sm.lay1] at hs ⊢
    have h0 := hs.head
    obtain ⟨b1, b2⟩ := Sm.lays_ok T b (.sm (.wh k l m b) :: K) (n, 0) (n + 1) hs.tail ⟨_, h0, rfl⟩
    refine ⟨fun r hr x hx => ?_, _, h0, rfl⟩
    rcases List.mem_cons.mp hr with rfl | hr
    · rcases List.mem_cons.mp hx with rfl | hx
      · exact hc
      · obtain rfl := List.mem_singleton.mp hx
        exact b2
    · exact b1 r hr x hx
theorem Sm.lays_ok (T : List Row) : ∀ (b : List Sm) (K : List It) (c : Nat × Nat) (n : Nat), Sits T n (Sm.lays b K c n).1 → Arr T c (b.map It.sm ++ K) → (∀ r ∈ (Sm.lays b K c n).1, ∀ a ∈ r.cm, Arr T a r.full) ∧ Arr T (Sm.lays b K c n).2 K
  | [], K, c, n, hs, hc => by
    simp only [Sm.lays] at hs ⊢
    exact ⟨fun r hr => by simp at hr, hc⟩
  | s :: r, K, c, n, hs, hc => by
    simp only [Sm.lays] at hs ⊢
    obtain ⟨a1, a2⟩ := Sm.lay1_ok T s (r.map It.sm ++ K) c n hs.left hc
    obtain ⟨b1, b2⟩ := Sm.lays_ok T r K _ (n + s.size) (hs.right (by rw [Sm.lay1_len])) a2
    refine ⟨fun x hx a ha => ?_, b2⟩
    rcases List.mem_append.mp hx with hx | hx
    · exact a1 x hx a ha
    · exact b1 x hx a ha
end
def Out (xs : List Row) (n : Nat) (a : Nat × Nat) : Prop := ∃ (i : Nat) (r : Row) (X : List It), xs[i]? = some r ∧ a.1 = n + i ∧ wayTo r.hd r.tl a.2 = some X
theorem Out.app {xs ys : List Row} {n m : Nat} {a : Nat × Nat} (h : Out (xs ++ ys) n a) (hm : m = n + xs.length) : Out xs n a ∨ Out ys m a := by
  obtain ⟨i, r, X, h1, h2, h3⟩ := h
  by_cases q : i < xs.length
  · exact .inl ⟨i, r, X, by rw [List.getElem?_append_left q] at h1; exact h1, h2, h3⟩
  · exact .inr ⟨i - xs.length, r, X, by rw [List.getElem?_append_right (by omega)] at h1; exact h1, by omega, h3⟩
theorem Out.cons {x : Row} {ys : List Row} {n : Nat} {a : Nat × Nat} (h : Out (x :: ys) n a) : (a.1 = n ∧ ∃ X, wayTo x.hd x.tl a.2 = some X) ∨ Out ys (n + 1) a := by
  obtain ⟨i, r, X, h1, h2, h3⟩ := h
  cases i with
  | zero =>
    have : x = r := by simpa using h1
    subst this
    exact .inl ⟨h2, X, h3⟩
  | succ i => exact .inr ⟨i, r, X, by simpa using h1, by omega, h3⟩
theorem Out.nil {n : Nat} {a : Nat × Nat} (h : Out [] n a) : False := by
  obtain ⟨i, r, X, h1, _⟩ := h
  simp at h1
theorem one_way {h : It} {K X : List It} {w : Nat} (e : wayTo h K w = some X) (h1 : ∀ k l m b, h ≠ .sm (.wh k l m b)) (h2 : ∀ k l m a b, h ≠ .sm (.ifs k l m a b)) : w = 0 := by
  unfold wayTo at e
  split at e
  · rfl
  · exact absurd rfl (h1 _ _ _ _)
  · rfl
  · exact absurd rfl (h2 _ _ _ _ _)
  · rfl
  · rfl
  · rfl
  · rfl
  · rfl
  · cases e
theorem two_way {h : It} {K X : List It} {w : Nat} (e : wayTo h K w = some X) : w = 0 ∨ w = 1 := by
  unfold wayTo at e
  split at e
  · exact .inl rfl
  · exact .inr rfl
  · exact .inl rfl
  · exact .inr rfl
  · exact .inl rfl
  · exact .inl rfl
  · exact .inl rfl
  · exact .inl rfl
  · exact .inl rfl
  · cases e
mutual
theorem Sm.lay1_in : ∀ (s : Sm) (K : List It) (c : Nat × Nat) (n : Nat) (a : Nat × Nat), a = c ∨ Out (s.lay1 K c n).1 n a → a = (s.lay1 K c n).2 ∨ ∃ r ∈ (s.lay1 K c n).1, a ∈ r.cm
  | .set x l, K, c, n, a, h => by
    simp only [Sm.lay1] at h ⊢
    rcases h with rfl | h
    · exact .inr ⟨_, List.mem_singleton.mpr rfl, by simp⟩
    · rcases h.cons with ⟨q, X, e⟩ | h
      · exact .inl (Prod.ext q (one_way e (by simp) (by simp)))
      · exact h.nil.elim
  | .say l, K, c, n, a, h => by
    simp only [Sm.lay1] at h ⊢
    rcases h with rfl | h
    · exact .inr ⟨_, List.mem_singleton.mpr rfl, by simp⟩
    · rcases h.cons with ⟨q, X, e⟩ | h
      · exact .inl (Prod.ext q (one_way e (by simp) (by simp)))
      · exact h.nil.elim
  | .call x, K, c, n, a, h => by
    simp only [Sm.lay1] at h ⊢
    rcases h with rfl | h
    · exact .inr ⟨_, List.mem_singleton.mpr rfl, by simp⟩
    · rcases h.cons with ⟨q, X, e⟩ | h
      · exact .inl (Prod.ext q (one_way e (by simp) (by simp)))
      · exact h.nil.elim
  | .ifs k l m a b, K, c, n, x, h => by
    have hA := Sm.lays_in a (.join :: K) (n, 0) (n + 1) x
    have hB := Sm.lays_in b (.join :: K) (n, 1) (n + 1 + Sm.sizes a) x
    have hlA := Sm.lays_len a (.join :: K) (n, 0) (n + 1)
    have hlB := Sm.lays_len b (.join :: K) (n, 1) (n + 1 + Sm.sizes a)
    simp only [Sm.lay1] at h ⊢
    generalize Sm.lays a (.join :: K) (n, 0) (n + 1) = A at hA hlA h ⊢
    generalize Sm.lays b (.join :: K) (n, 1) (n + 1 + Sm.sizes a) = B at hB hlB h ⊢
    have useA : (x = (n, 0) ∨ Out A.1 (n + 1) x) → x = (n + 1 + Sm.sizes a + Sm.sizes b, 0) ∨ ∃ r ∈ (⟨[c], .sm (.ifs k l m a b), K⟩ : Row) :: (A.1 ++ (B.1 ++ [⟨[B.2, A.2], .join, K⟩])), x ∈ r.cm := fun q => by
      rcases hA q with rfl | ⟨r, hr, hx⟩
      · exact .inr ⟨⟨[B.2, A.2], .join, K⟩, by simp, by simp⟩
      · exact .inr ⟨r, by simp [hr], hx⟩
    have useB : (x = (n, 1) ∨ Out B.1 (n + 1 + Sm.sizes a) x) → x = (n + 1 + Sm.sizes a + Sm.sizes b, 0) ∨ ∃ r ∈ (⟨[c], .sm (.ifs k l m a b), K⟩ : Row) :: (A.1 ++ (B.1 ++ [⟨[B.2, A.2], .join, K⟩])), x ∈ r.cm := fun q => by
      rcases hB q with rfl | ⟨r, hr, hx⟩
      · exact .inr ⟨⟨[B.2, A.2], .join, K⟩, by simp, by simp⟩
      · exact .inr ⟨r, by simp [hr], hx⟩
    rcases h with rfl | h
    · exact .inr ⟨_, List.mem_cons_self, by simp⟩
    rcases h.cons with ⟨q, X, e⟩ | h
    · rcases two_way e with z | z
      · exact useA (.inl (Prod.ext q z))
      · exact useB (.inl (Prod.ext q z))
    rcases h.app (m := n + 1 + Sm.sizes a) (by rw [hlA]) with h | h
    · exact useA (.inr h)
    rcases h.app (m := n + 1 + Sm.sizes a + Sm.sizes b) (by rw [hlB]) with h | h
    · exact useB (.inr h)
    rcases h.cons with ⟨q, X, e⟩ | h
    · exact .inl (Prod.ext q (one_way e (by simp) (by simp)))
    · exact h.nil.elim
  | .wh k l m b, K, c, n, x, h => by
    have hB := Sm.lays_in b (.sm (.wh k l m b) :: K) (n, 0) (n + 1) x
    simp only [Sm.lay1] at h ⊢
    generalize Sm.lays b (.sm (.wh k l m b) :: K) (n, 0) (n + 1) = B at hB h ⊢
    have use : (x = (n, 0) ∨ Out B.1 (n + 1) x) → x = (n, 1) ∨ ∃ r ∈ (⟨[c, B.2], .sm (.wh k l m b), K⟩ : Row) :: B.1, x ∈ r.cm := fun q => by
      rcases hB q with rfl | ⟨r, hr, hx⟩
      · exact .inr ⟨_, List.mem_cons_self, by simp⟩
      · exact .inr ⟨r, List.mem_cons_of_mem _ hr, hx⟩
    rcases h with rfl | h
    · exact .inr ⟨_, List.mem_cons_self, by simp⟩
    · rcases h.cons with ⟨q, X, e⟩ | h
      · rcases two_way e with z | z
        · exact use (.inl (Prod.ext q z))
        · exact .inl (Prod.ext q z)
      · exact use (.inr h)
theorem Sm.lays_in : ∀ (b : List Sm) (K : List It) (c : Nat × Nat) (n : Nat) (a : Nat × Nat), a = c ∨ Out (Sm.lays b K c n).1 n a → a = (Sm.lays b K c n).2 ∨ ∃ r ∈ (Sm.lays b K c n).1, a ∈ r.cm
  | [], K, c, n, a, h => by
    simp only [Sm.lays] at h ⊢
    rcases h with rfl | h
    · exact .inl rfl
    · exact h.nil.elim
  | s :: r, K, c, n, a, h => by
    have hA := Sm.lay1_in s (r.map It.sm ++ K) c n a
    have hB := Sm.lays_in r K (s.lay1 (r.map It.sm ++ K) c n).2 (n + s.size) a
    have hl := Sm.lay1_len s (r.map It.sm ++ K) c n
    simp only [Sm.lays] at h ⊢
    generalize s.lay1 (r.map It.sm ++ K) c n = A at hA hB hl h ⊢
    have h' : (a = c ∨ Out A.1 n a) ∨ Out (Sm.lays r K A.2 (n + s.size)).1 (n + s.size) a := by
      rcases h with h | h
      · exact .inl (.inl h)
      · rcases h.app (m := n + s.size) (by rw [hl]) with h | h
        · exact .inl (.inr h)
        · exact .inr h
    rcases h' with h' | h'
    · rcases hA h' with z | ⟨x, hx, hz⟩
      · rcases hB (.inl z) with z | ⟨x, hx, hz⟩
        · exact .inl z
        · exact .inr ⟨x, List.mem_append_right _ hx, hz⟩
      · exact .inr ⟨x, List.mem_append_left _ hx, hz⟩
    · rcases hB (.inr h') with z | ⟨x, hx, hz⟩
      · exact .inl z
      · exact .inr ⟨x, List.mem_append_right _ hx, hz⟩
end

def tabB (b : List Sm) : List Row := ⟨[], .beg, b.map It.sm ++ [.fin]⟩ :: ((Sm.lays b [.fin] (0, 0) 1).1 ++ [⟨[(Sm.lays b [.fin] (0, 0) 1).2], .fin, []⟩])
theorem tabB_len (b : List Sm) : (tabB b).length = Sm.sizes b + 2 := by
  simp [tabB, Sm.lays_len]
theorem tab_arr (b : List Sm) : ∀ r ∈ tabB b, ∀ a ∈ r.cm, Arr (tabB b) a r.full := by
  have h0 : Sits (tabB b) 0 (tabB b) := fun i r e => by rw [Nat.zero_add]; exact e
  have h1 : Sits (tabB b) 1 (Sm.lays b [.fin] (0, 0) 1).1 := h0.tail.left
  obtain ⟨a1, a2⟩ := Sm.lays_ok (tabB b) b [.fin] (0, 0) 1 h1 ⟨_, rfl, rfl⟩
  intro r hr x hx
  rcases List.mem_cons.mp hr with rfl | hr
  · simp at hx
  rcases List.mem_append.mp hr with hr | hr
  · exact a1 r hr x hx
  · obtain rfl := List.mem_singleton.mp hr
    obtain rfl := List.mem_singleton.mp hx
    exact a2
theorem tab_in (b : List Sm) {p w : Nat} {r : Row} {X : List It} (hr : (tabB b)[p]? = some r) (hw : wayTo r.hd r.tl w = some X) : ∃ r' ∈ tabB b, (p, w) ∈ r'.cm := by
  have hl := Sm.lays_len b [.fin] (0, 0) 1
  have hI := Sm.lays_in b [.fin] (0, 0) 1 (p, w)
  have ho : Out (tabB b) 0 (p, w) := ⟨p, r, X, hr, by simp, hw⟩
  unfold tabB at ho ⊢
  generalize Sm.lays b [.fin] (0, 0) 1 = A at hl hI ho ⊢
  have use : ((p, w) = (0, 0) ∨ Out A.1 1 (p, w)) → ∃ r' ∈ (⟨[], .beg, b.map It.sm ++ [.fin]⟩ : Row) :: (A.1 ++ [⟨[A.2], .fin, []⟩]), (p, w) ∈ r'.cm := fun q => by
    rcases hI q with e | ⟨r, hr, hx⟩
    · exact ⟨⟨[A.2], .fin, []⟩, by simp, by simp [e]⟩
    · exact ⟨r, by simp [hr], hx⟩
  rcases ho.cons with ⟨q, X, e⟩ | h
  · exact use (.inl (Prod.ext q (one_way e (by simp) (by simp))))
  rcases h.app (m := 1 + Sm.sizes b) (by rw [hl]) with h | h
  · exact use (.inr h)
  rcases h.cons with ⟨q, X, e⟩ | h
  · cases e
  · exact h.nil.elim
def nxt (b : List Sm) (p w : Nat) : Nat := (tabB b).findIdx fun r => decide ((p, w) ∈ r.cm)
theorem nxt_ok (b : List Sm) {p w : Nat} {r : Row} {X : List It} (hr : (tabB b)[p]? = some r) (hw : wayTo r.hd r.tl w = some X) :
    ∃ q, (tabB b)[nxt b p w]? = some q ∧ q.full = X ∧ (p, w) ∈ q.cm ∧ ∀ j q', j < nxt b p w → (tabB b)[j]? = some q' → (p, w) ∉ q'.cm := by
  obtain ⟨r', m1, m2⟩ := tab_in b hr hw
  have hlt : nxt b p w < (tabB b).length := List.findIdx_lt_length_of_exists ⟨r', m1, by simpa using m2⟩
  have hp : decide ((p, w) ∈ ((tabB b)[nxt b p w]).cm) = true := List.findIdx_getElem (p := fun r : Row => decide ((p, w) ∈ r.cm)) (w := hlt)
  have hp := of_decide_eq_true hp
  refine ⟨(tabB b)[nxt b p w], List.getElem?_eq_getElem hlt, ?_, hp, fun j q' hj hq => ?_⟩
  · obtain ⟨r2, e1, e2⟩ := tab_arr b _ (List.getElem_mem hlt) (p, w) hp
    have : r2 = r := Option.some.inj (e1.symm.trans hr)
    subst this
    exact Option.some.inj (e2.symm.trans hw)
  · have hjl : j < (tabB b).length := by omega
    have : q' = (tabB b)[j] := by rw [List.getElem?_eq_getElem hjl] at hq; exact (Option.some.inj hq).symm
    subst this
    have := List.not_of_lt_findIdx (p := fun r : Row => decide ((p, w) ∈ r.cm)) (xs := tabB b) (i := j) hj
    simpa using this
def waysI : It → Nat
  | .fin => 0
  | .sm (.wh _ _ _ _) => 2
  | .sm (.ifs _ _ _ _ _) => 2
  | _ => 1
theorem ways_is (h : It) (K : List It) {w : Nat} (hw : w < waysI h) : ∃ X, wayTo h K w = some X := by
  cases h with
  | sm s =>
    cases s with
    | set c l => obtain rfl : w = 0 := by simp [waysI] at hw; omega
                 exact ⟨_, rfl⟩
    | say l => obtain rfl : w = 0 := by simp [waysI] at hw; omega
               exact ⟨_, rfl⟩
    | call x => obtain rfl : w = 0 := by simp [waysI] at hw; omega
                exact ⟨_, rfl⟩
    | ifs k l m a b =>
      have : w = 0 ∨ w = 1 := by simp [waysI] at hw; omega
      rcases this with rfl | rfl <;> exact ⟨_, rfl⟩
    | wh k l m b =>
      have : w = 0 ∨ w = 1 := by simp [waysI] at hw; omega
      rcases this with rfl | rfl <;> exact ⟨_, rfl⟩
  | beg => obtain rfl : w = 0 := by simp [waysI] at hw; omega
           exact ⟨_, rfl⟩
  | join => obtain rfl : w = 0 := by simp [waysI] at hw; omega
            exact ⟨_, rfl⟩
  | fin => simp [waysI] at hw
end L3
namespace L3
open PySem L2
theorem p_isint (i : Int) : f_is_integer [.s (.int i)] = .ok (.s (.bl true)) [.s (.int i)] := by
  unfold f_is_integer b_is_integer
  simp
theorem p_within (i lo hi : Int) : f_is_within [.s (.int i), .s (.int lo), .s (.int hi)] = .ok (.s (.bl (decide (lo ≤ i) && decide (i ≤ hi)))) [.s (.int i), .s (.int lo), .s (.int hi)] := by
  have e := p_isint i
  unfold f_is_within b_is_within
  by_cases h : lo ≤ i
  · simp [e, h]
  · simp [e, h]
theorem p_check (n : Nat) (h : n ≤ 5000) : f_check_number [.s (.int n), .s (.int 0), .s (.int 5000)] = .ok (.s .non) [.s (.int n), .s (.int 0), .s (.int 5000)] := by
  have e := p_within n 0 5000
  have h1 : (0 : Int) ≤ n := by omega
  have h2 : (n : Int) ≤ 5000 := by omega
  unfold f_check_number b_check_number
  simp [e, h1, h2]
theorem all_true {α : Type} (l : List α) : (l.map fun _ => true).all id = true := by simp
theorem p_issum {c : Nat} (l : List Int) (h : lin c l) (hc : c ≤ 8) : f_is_sum [.s (.tup (l.map D.int)), .s (.int c)] = .ok (.s (.bl true)) [.s (.tup (l.map D.int)), .s (.int c)] := by
  obtain ⟨e', k1, x, rfl⟩ := lc_map (vs := [2]) (set := setT [2]) (f := e1_is_sum f_is_within) (F := fun _ => D.bl true) (I := fun e => ∃ x : Option O, e = [some (.s (.tup (l.map D.int))), some (.s (.int c)), x])
    (l.map D.int) [some (.s (.tup (l.map D.int))), some (.s (.int c)), none]
    (by
      rintro e d ⟨x, rfl⟩ hd
      obtain ⟨i, hi, rfl⟩ := List.mem_map.mp hd
      have hh := h.2 i hi
      have e2 := p_within i (-1000) 1000
      refine ⟨_, _, rfl, ?_, some (.s (.int i)), rfl⟩
      unfold e1_is_sum
      simp [e2, hh.1, hh.2]) ⟨none, rfl⟩
  have hl : (l.map D.int).length ≤ 16777216 := by rw [List.length_map, h.1]; omega
  have hl2 : (l.length : Int) = (c : Int) + 1 := by rw [h.1]; rfl
  have e1 : (l.map D.int).map (fun _ => D.bl true) = ((l.map D.int).map fun _ => true).map D.bl := by rw [List.map_map (l := l.map D.int)]; rfl
  rw [e1] at k1
  have e3 : gAll [.own (.lst ((((l.map D.int).map fun _ => true).map D.bl).map O.s))] = some (.val (.bl true)) := by rw [ev_gAllL, all_true]
  generalize ((l.map D.int).map fun _ => true).map D.bl = bs at k1 e3
  have hl3 : l.length ≤ 16777216 := by rw [h.1]; omega
  unfold f_is_sum b_is_sum
  simp [-List.map_map, hl, hl2, hl3, k1, e3]
theorem p_istest {c : Nat} (k : Bool) (l m : List Int) (h : lin c l) (h2 : lin c m) (hc : c ≤ 8) : f_is_test [.s (tstD k l m), .s (.int c)] = .ok (.s (.bl true)) [.s (tstD k l m), .s (.int c)] := by
  have e1 := p_issum l h hc
  have e2 := p_issum m h2 hc
  unfold f_is_test b_is_test tstD
  cases k <;> simp [-List.map_map, atI, ixN, e1, e2]
theorem stat_size (fb : List O → Rr) (c r d n : Nat) (hc : 1 ≤ c ∧ c ≤ 4) (hr : 1 ≤ r ∧ r ≤ 5) (ih : ∀ m, n = m + 1 → ∀ b, Sm.oks c r b → Sm.deps m b → fb [.s (.tup (Sm.encs b)), .s (.int c), .s (.int r), .s (.int (d + 1 : Nat))] = .ok (.s (.int (Sm.sizes b))) [.s (.tup (Sm.encs b)), .s (.int c), .s (.int r), .s (.int (d + 1 : Nat))])
    (s : Sm) (ho : s.ok c r) (hs : s.dep n) : runDef [] 3 (b_statement_size f_is_within f_is_sum f_is_test fb) [.s s.enc, .s (.int c), .s (.int r), .s (.int d)] = .ok (.s (.int s.size)) [.s s.enc, .s (.int c), .s (.int r), .s (.int d)] := by
  have dd : ((d + 1 : Nat) : Int) = (d : Int) + 1 := by omega
  have hn1 : ∀ (a : Int) (x : Nat) (p : List Stp), gIn false (.val .non) (.bor x p (.lst [.s (.int a)])) = some (.val (.bl false)) := fun a x p => rfl
  have hn2 : ∀ (a b : Int) (x : Nat) (p : List Stp), gIn false (.val .non) (.bor x p (.lst [.s (.int a), .s (.int b)])) = some (.val (.bl false)) := fun a b x p => rfl
  have hs1 : ∀ (a : Int) (x : Nat) (p : List Stp), gSum [.bor x p (.lst [.s (.int a)])] = some (.val (.int (a + 0))) := fun a x p => rfl
  have hs2 : ∀ (a b : Int) (x : Nat) (p : List Stp), gSum [.bor x p (.lst [.s (.int a), .s (.int b)])] = some (.val (.int (a + (b + 0)))) := fun a b x p => rfl
  unfold b_statement_size e1_statement_size tab_SIZES
  cases s with
  | set x l =>
    obtain ⟨h1, h2⟩ := ho
    have e1 := p_within x 0 ((c : Int) - 1)
    have e2 := p_issum l h2 (by omega)
    have h3 : (0 : Int) ≤ x := by omega
    have h4 : (x : Int) ≤ (c : Int) - 1 := by omega
    simp [-List.map_map, Sm.enc, Sm.size, atI, ixN, e1, e2, h3, h4]
  | say l =>
    have e2 := p_issum l ho (by omega)
    simp [-List.map_map, Sm.enc, Sm.size, atI, ixN, e2]
  | call x =>
    have h1 : x < r := ho
    have e1 := p_within x 0 ((r : Int) - 1)
    have h3 : (0 : Int) ≤ x := by omega
    have h4 : (x : Int) ≤ (r : Int) - 1 := by omega
    simp [-List.map_map, Sm.enc, Sm.size, atI, ixN, e1, h3, h4]
  | ifs k l m a b =>
    obtain ⟨o1, o2, o3, o4⟩ := ho
    obtain ⟨n', rfl, d1, d2⟩ := hs
    have e1 := p_istest k l m o1 o2 (by omega)
    have e2 := ih n' rfl a o3 d1
    have e3 := ih n' rfl b o4 d2
    rw [dd] at e2 e3
    simp [-List.map_map, Sm.enc, Sm.size, atI, ixN, e1, e2, e3, lc_cons, lc_nil, hn2, hs2]
  | wh k l m b =>
    obtain ⟨o1, o2, o3⟩ := ho
    obtain ⟨n', rfl, d1⟩ := hs
    have e1 := p_istest k l m o1 o2 (by omega)
    have e2 := ih n' rfl b o3 d1
    rw [dd] at e2
    simp [-List.map_map, Sm.enc, Sm.size, atI, ixN, e1, e2, lc_cons, lc_nil, hn1, hs1]
theorem p_bsize (c r : Nat) (hc : 1 ≤ c ∧ c ≤ 4) (hr : 1 ≤ r ∧ r ≤ 5) : ∀ (N j d : Nat) (b : List Sm), j < N → d + j ≤ 8 → Sm.oks c r b → Sm.deps j b → f_body_size N [.s (.tup (Sm.encs b)), .s (.int c), .s (.int r), .s (.int d)] = .ok (.s (.int (Sm.sizes b))) [.s (.tup (Sm.encs b)), .s (.int c), .s (.int r), .s (.int d)] := by
  intro N
  induction N with
  | zero => intro j d b h; omega
  | succ N ih =>
    intro j d b hj hd ho hb
    obtain ⟨e', k1, q, k, x, y, k2, _, _, rfl, k4⟩ := for_inv (set := setT [5]) (g := e1_body_size (runDef [] 3 (b_statement_size f_is_within f_is_sum f_is_test (f_body_size N))))
      (I := fun ds e => ∃ (q : List Sm) (k : Nat) (x y : Option O), ds = Sm.encs q ∧ Sm.oks c r q ∧ Sm.deps j q ∧ e = [some (.s (.tup (Sm.encs b))), some (.s (.int c)), some (.s (.int r)), some (.s (.int d)), some (.s (.int k)), x, y] ∧ k + Sm.sizes q = Sm.sizes b)
      (by
        rintro d' ds e ⟨q, k, x, y, h1, h2, h3, rfl, h4⟩
        cases q with
        | nil => simp [Sm.encs] at h1
        | cons s q =>
          simp only [Sm.encs, List.cons.injEq] at h1
          obtain ⟨rfl, rfl⟩ := h1
          simp only [Sm.sizes] at h4
          have e1 := stat_size (f_body_size N) c r d j hc hr (fun m hm b' o' d' => ih m (d + 1) b' (by omega) (by omega) o' d') s h2.1 h3.1
          refine ⟨_, [some (.s (.tup (Sm.encs b))), some (.s (.int c)), some (.s (.int r)), some (.s (.int d)), some (.s (.int (k + s.size : Nat))), some (.s s.enc), some (.s (.int s.size))], rfl, ?_, q, k + s.size, _, _, rfl, h2.2, h3.2, rfl, by omega⟩
          unfold e1_body_size
          simp [-ev_run, e1]) (Sm.encs b) [some (.s (.tup (Sm.encs b))), some (.s (.int c)), some (.s (.int r)), some (.s (.int d)), some (.s (.int 0)), none, none] ⟨b, 0, none, none, rfl, ho, hb, rfl, by omega⟩
    have : q = [] := by
      cases q with
      | nil => rfl
      | cons s r => simp [Sm.encs] at k2
    subst this
    have hk : k = Sm.sizes b := by simpa [Sm.sizes] using k4
    subst hk
    have h8 : ¬ (8 : Int) < (d : Int) := by omega
    show runDef [] 3 (b_body_size (runDef [] 3 (b_statement_size f_is_within f_is_sum f_is_test (f_body_size N)))) _ = _
    generalize runDef [] 3 (b_statement_size f_is_within f_is_sum f_is_test (f_body_size N)) = fs at k1
    unfold b_body_size
    simp [h8, k1]
theorem p_wrong (c : Nat) (bs : List (List Sm)) (hc : 1 ≤ c ∧ c ≤ 4) (hr : 1 ≤ bs.length ∧ bs.length ≤ 5) (hb : ∀ b ∈ bs, BodyIs c bs.length b) : f_wrong_part [.s (.int c), .s (.tup (bs.map encB))] = .ok (.s .non) [.s (.int c), .s (.tup (bs.map encB))] := by
  obtain ⟨e', k1, x, y, z, _, rfl⟩ := for_inv (set := setTup [2, 3]) (g := e1_wrong_part f_is_within (f_body_size 9))
    (I := fun ds e => ∃ (x y z : Option O), (∀ d ∈ ds, ∃ (i : Nat) (b : List Sm), d = .tup [.int i, encB b] ∧ b ∈ bs) ∧ e = [some (.s (.int c)), some (.s (.tup (bs.map encB))), x, y, z])
    (by
      rintro d ds e ⟨x, y, z, h1, rfl⟩
      obtain ⟨i, b, rfl, hm⟩ := h1 d (by simp)
      obtain ⟨o, dp, sz⟩ := hb b hm
      have e1 := p_bsize c bs.length hc hr 9 7 1 b (by omega) (by omega) o dp
      have e1 : f_body_size 9 [.s (.tup (Sm.encs b)), .s (.int c), .s (.int bs.length), .s (.int 1)] = .ok (.s (.int (Sm.sizes b))) [.s (.tup (Sm.encs b)), .s (.int c), .s (.int bs.length), .s (.int 1)] := e1
      have h40 : ¬ (40 : Int) < (Sm.sizes b : Int) + 2 := by omega
      refine ⟨_, [some (.s (.int c)), some (.s (.tup (bs.map encB))), some (.s (.int i)), some (.s (encB b)), some (.s (.int (Sm.sizes b)))], rfl, ?_, _, _, _, fun d hd => h1 d (by simp [hd]), rfl⟩
      unfold e1_wrong_part encB
      simp [e1, h40]) (enumD 0 (bs.map encB)) [some (.s (.int c)), some (.s (.tup (bs.map encB))), none, none, none]
    ⟨none, none, none, fun d hd => by
      obtain ⟨j, x, rfl, hx⟩ := enum_mem hd
      obtain ⟨b, hb, rfl⟩ := List.mem_map.mp hx
      exact ⟨j, b, rfl, hb⟩, rfl⟩
  have e1 := p_within c 1 4
  have h1 : (1 : Int) ≤ c := by omega
  have h2 : (c : Int) ≤ 4 := by omega
  have h3 : (1 : Int) ≤ bs.length := by omega
  have h4 : (bs.length : Int) ≤ 5 := by omega
  unfold f_wrong_part b_wrong_part
  simp [-List.map_map, e1, h1, h2, h3, h4, k1]
def bookO (c : Nat) (bs : List (List Sm)) : O := .ins 0 ["cells", "routines"] [.s (.int c), .s (.tup (bs.map encB))]
def bookD (c : Nat) (bs : List (List Sm)) : D := .ins 0 ["cells", "routines"] [.int c, .tup (bs.map encB)]
@[simp] theorem nm_cr : ((Str.ofString "cells") = (Str.ofString "routines")) = False := eq_false (by decide +kernel)
theorem p_book (c : Nat) (bs : List (List Sm)) (hc : 1 ≤ c ∧ c ≤ 4) (hr : 1 ≤ bs.length ∧ bs.length ≤ 5) (hb : ∀ b ∈ bs, BodyIs c bs.length b) :
    f_Book___init__ [.ins 0 [] [], .s (.int c), .s (.tup (bs.map encB))] = .ok (.s .non) [bookO c bs, .s (.int c), .s (.tup (bs.map encB))] := by
  have e1 := p_wrong c bs hc hr hb
  unfold f_Book___init__ b_Book___init__ bookO
  simp [-List.map_map, e1]
end L3
namespace L3
open PySem L2
def dgD : It → D
  | .sm (.wh k l m _) => tstD k l m
  | .sm (.ifs k l m _ _) => tstD k l m
  | .sm (.set x l) => (Sm.set x l).enc
  | .sm (.say l) => (Sm.say l).enc
  | .sm (.call x) => (Sm.call x).enc
  | .beg => .str "begin"
  | .join => .str "join"
  | .fin => .str "end"
def iN (a : Nat × Nat) : Int × Int := (a.1, a.2)
def arN (a : Nat × Nat) : D := arD (iN a)
def rowD (r : Row) : D := dgD r.hd
def rowC (r : Row) : D := comD (r.cm.map iN)
@[simp] theorem nm_a1 : ((Str.ofString "doings") = (Str.ofString "lay")) = False := eq_false (by decide +kernel)
@[simp] theorem nm_a2 : ((Str.ofString "comers") = (Str.ofString "lay")) = False := eq_false (by decide +kernel)
@[simp] theorem ev_lk0 {α : Type} {as : List α} {m : Str} : lk [] as m = none := by cases as <;> rfl
theorem hasNo_pl (ds cs : List D) (e : Env) : hasNo [1] "place_for" (some (lay0 ds cs) :: e) (.sl 0) = true := by unfold lay0; simp
theorem hasNo_ly (ds cs : List D) (e : Env) : hasNo [1] "lay" (some (lay0 ds cs) :: e) (.sl 0) = true := by unfold lay0; simp
theorem set_com (ds cs : List D) (a b c d : Option O) (n : Nat) (rest : Env) (y : D) (h : n < cs.length) : setIxY [0] [] (m1 (gAttr [1] "comers") (mVar 0)) (mVar 5) (some (lay0 ds cs) :: a :: b :: c :: d :: some (.s (.int n)) :: rest) (some (.s y)) = .ok .nx (some (lay0 ds (cs.set n y)) :: a :: b :: c :: d :: some (.s (.int n)) :: rest) := by
  have e1 : ixN cs.length (n : Int) = some n := by simp [ixN]; omega
  have e2 : ∀ m, (cs.map O.s).set m (.s y) = (cs.set m y).map O.s := fun m => by rw [List.map_set]
  unfold lay0
  simp [-List.map_set, e1, e2]
theorem lay_step (fn : List O → Rr) (j : Nat) (ih : ∀ m, j = m + 1 → ∀ (b : List Sm) (K : List It) (c : Nat × Nat) (ds cs : List D), Sm.deps m b → ds.length = cs.length → ds.length + Sm.sizes b < 900 →
      fn [lay0 ds cs, .s (.tup (Sm.encs b)), .s (arN c)] = .ok (.s (arN (Sm.lays b K c ds.length).2)) [lay0 (ds ++ (Sm.lays b K c ds.length).1.map rowD) (cs ++ (Sm.lays b K c ds.length).1.map rowC), .s (.tup (Sm.encs b)), .s (arN c)])
    (s : Sm) (hs : s.dep j) (K : List It) (c : Nat × Nat) (ds cs : List D) (hl : ds.length = cs.length) (hz : ds.length + s.size < 900) (B : O) (x4 x5 x6 x7 : Option O) :
    ∃ y4 y5 y6 y7, e1_Layout_lay f_Layout_place_for fn [some (lay0 ds cs), some B, some (.s (arN c)), some (.s s.enc), x4, x5, x6, x7] = .ok .nx [some (lay0 (ds ++ (s.lay1 K c ds.length).1.map rowD) (cs ++ (s.lay1 K c ds.length).1.map rowC)), some B, some (.s (arN (s.lay1 K c ds.length).2)), some (.s s.enc), y4, y5, y6, y7] := by
  have plain : ∀ (d : D), ∃ C1 : List D, f_Layout_place_for [lay0 ds cs, .s d] = .ok (.s (.int ds.length)) [lay0 (ds ++ [d]) C1, .s d] ∧ ds.length < C1.length ∧ ∀ y, C1.set ds.length y = cs ++ [y] := fun d => by
    refine ⟨_, p_place ds cs d (by omega) (by omega), by simp; omega, fun y => ?_⟩
    rw [hl, List.set_append_right _ _ (Nat.le_refl _), Nat.sub_self]
    rfl
  have hc1 : arN c = .tup [.int (c.1 : Nat), .int (c.2 : Nat)] := rfl
  generalize arN c = cD at ih hc1 ⊢
  cases s with
  | set x l =>
    obtain ⟨C1, e1, e2, e3⟩ := plain (Sm.set x l).enc
    refine ⟨some (.s (.str "set")), some (.s (.int ds.length)), x6, x7, ?_⟩
    rw [show Sm.enc (.set x l) = .tup [.str "set", .int x, .tup (l.map D.int)] from by simp [Sm.enc]] at e1 ⊢
    rw [show Sm.lay1 (.set x l) K c ds.length = ([⟨[c], .sm (.set x l), K⟩], (ds.length, 0)) from by simp [Sm.lay1]]
    have e4 := e3 (.lst [cD])
    have r1 : List.map rowD [⟨[c], .sm (.set x l), K⟩] = [.tup [.str "set", .int x, .tup (l.map D.int)]] := by simp [rowD, dgD, Sm.enc]
    have r2 : List.map rowC [⟨[c], .sm (.set x l), K⟩] = [.lst [cD]] := by rw [hc1]; rfl
    rw [r1, r2]
    unfold e1_Layout_lay arN arD iN
    simp [-List.map_map, -ev_hasNo, -ev_setIx2, hasNo_pl, hasNo_ly, set_com, e1, e2, e4, atI, ixN]
  | say l =>
    obtain ⟨C1, e1, e2, e3⟩ := plain (Sm.say l).enc
    refine ⟨some (.s (.str "say")), some (.s (.int ds.length)), x6, x7, ?_⟩
    rw [show Sm.enc (.say l) = .tup [.str "say", .tup (l.map D.int)] from by simp [Sm.enc]] at e1 ⊢
    rw [show Sm.lay1 (.say l) K c ds.length = ([⟨[c], .sm (.say l), K⟩], (ds.length, 0)) from by simp [Sm.lay1]]
    have e4 := e3 (.lst [cD])
    have r1 : List.map rowD [⟨[c], .sm (.say l), K⟩] = [.tup [.str "say", .tup (l.map D.int)]] := by simp [rowD, dgD, Sm.enc]
    have r2 : List.map rowC [⟨[c], .sm (.say l), K⟩] = [.lst [cD]] := by rw [hc1]; rfl
    rw [r1, r2]
    unfold e1_Layout_lay arN arD iN
    simp [-List.map_map, -ev_hasNo, -ev_setIx2, hasNo_pl, hasNo_ly, set_com, e1, e2, e4, atI, ixN]
  | call x =>
    obtain ⟨C1, e1, e2, e3⟩ := plain (Sm.call x).enc
    refine ⟨some (.s (.str "call")), some (.s (.int ds.length)), x6, x7, ?_⟩
    rw [show Sm.enc (.call x) = .tup [.str "call", .int x] from by simp [Sm.enc]] at e1 ⊢
    rw [show Sm.lay1 (.call x) K c ds.length = ([⟨[c], .sm (.call x), K⟩], (ds.length, 0)) from by simp [Sm.lay1]]
    have e4 := e3 (.lst [cD])
    have r1 : List.map rowD [⟨[c], .sm (.call x), K⟩] = [.tup [.str "call", .int x]] := by simp [rowD, dgD, Sm.enc]
    have r2 : List.map rowC [⟨[c], .sm (.call x), K⟩] = [.lst [cD]] := by rw [hc1]; rfl
    rw [r1, r2]
    unfold e1_Layout_lay arN arD iN
    simp [-List.map_map, -ev_hasNo, -ev_setIx2, hasNo_pl, hasNo_ly, set_com, e1, e2, e4, atI, ixN]
  | ifs k l m a b =>
    obtain ⟨n', rfl, d1, d2⟩ := hs
    obtain ⟨C1, e1, e2, e3⟩ := plain (tstD k l m)
    have zs : (Sm.ifs k l m a b).size = 2 + (Sm.sizes a + Sm.sizes b) := by simp [Sm.size]
    rw [zs] at hz
    have lA := Sm.lays_len a (.join :: K) (ds.length, 0) (ds.length + 1)
    have lB := Sm.lays_len b (.join :: K) (ds.length, 1) (ds.length + 1 + Sm.sizes a)
    have i1 := ih n' rfl a (.join :: K) (ds.length, 0) (ds ++ [tstD k l m]) (cs ++ [.lst [cD]]) d1 (by simp [hl]) (by simp; omega)
    rw [show (ds ++ [tstD k l m]).length = ds.length + 1 from by simp] at i1
    obtain ⟨A, hA⟩ : ∃ A, A = Sm.lays a (.join :: K) (ds.length, 0) (ds.length + 1) := ⟨_, rfl⟩
    rw [← hA] at i1 lA
    have i2 := ih n' rfl b (.join :: K) (ds.length, 1) ((ds ++ [tstD k l m]) ++ A.1.map rowD) ((cs ++ [.lst [cD]]) ++ A.1.map rowC) d2 (by simp [hl]) (by simp [lA]; omega)
    rw [show ((ds ++ [tstD k l m]) ++ A.1.map rowD).length = ds.length + 1 + Sm.sizes a from by simp [lA]; omega] at i2
    obtain ⟨B', hB⟩ : ∃ B', B' = Sm.lays b (.join :: K) (ds.length, 1) (ds.length + 1 + Sm.sizes a) := ⟨_, rfl⟩
    rw [← hB] at i2 lB
    have i3 := p_place (((ds ++ [tstD k l m]) ++ A.1.map rowD) ++ B'.1.map rowD) (((cs ++ [.lst [cD]]) ++ A.1.map rowC) ++ B'.1.map rowC) (.str "join") (by simp [lA, lB]; omega) (by simp [lA, lB]; omega)
    have l3 : (((ds ++ [tstD k l m]) ++ A.1.map rowD) ++ B'.1.map rowD).length = ds.length + 1 + Sm.sizes a + Sm.sizes b := by simp [lA, lB]; omega
    rw [l3] at i3
    have s3 : ∀ y, ((((cs ++ [D.lst [cD]]) ++ A.1.map rowC) ++ B'.1.map rowC) ++ [D.lst []]).set (ds.length + 1 + Sm.sizes a + Sm.sizes b) y = (((cs ++ [D.lst [cD]]) ++ A.1.map rowC) ++ B'.1.map rowC) ++ [y] := fun y => by
      rw [List.set_append_right _ _ (by simp [lA, lB]; omega)]
      rw [show ds.length + 1 + Sm.sizes a + Sm.sizes b - (((cs ++ [D.lst [cD]]) ++ A.1.map rowC) ++ B'.1.map rowC).length = 0 from by simp [lA, lB]; omega]
      rfl
    have t3 : ds.length + 1 + Sm.sizes a + Sm.sizes b < ((((cs ++ [D.lst [cD]]) ++ A.1.map rowC) ++ B'.1.map rowC) ++ [D.lst []]).length := by simp [lA, lB]; omega
    have e4 := e3 (.lst [cD])
    have e5 := s3 (.lst [arN B'.2, arN A.2])
    have r0 : Sm.lay1 (.ifs k l m a b) K c ds.length = (⟨[c], .sm (.ifs k l m a b), K⟩ :: (A.1 ++ (B'.1 ++ [⟨[B'.2, A.2], .join, K⟩])), (ds.length + 1 + Sm.sizes a + Sm.sizes b, 0)) := by simp [Sm.lay1, hA, hB]
    rw [r0]
    have r1 : ds ++ List.map rowD (⟨[c], .sm (.ifs k l m a b), K⟩ :: (A.1 ++ (B'.1 ++ [⟨[B'.2, A.2], .join, K⟩]))) = (((ds ++ [tstD k l m]) ++ A.1.map rowD) ++ B'.1.map rowD) ++ [.str "join"] := by simp [rowD, dgD]
    have r2 : cs ++ List.map rowC (⟨[c], .sm (.ifs k l m a b), K⟩ :: (A.1 ++ (B'.1 ++ [⟨[B'.2, A.2], .join, K⟩]))) = (((cs ++ [.lst [cD]]) ++ A.1.map rowC) ++ B'.1.map rowC) ++ [.lst [arN B'.2, arN A.2]] := by
      rw [hc1]
      simp [rowC, comD, arN, iN, arD]
    rw [r1, r2]
    rw [show Sm.enc (.ifs k l m a b) = .tup [.str "if", tstD k l m, .tup (Sm.encs a), .tup (Sm.encs b)] from by simp [Sm.enc]]
    generalize tstD k l m = TT at *
    generalize (ds ++ [TT]) ++ A.1.map rowD = D2 at *
    generalize (cs ++ [D.lst [cD]]) ++ A.1.map rowC = C2 at *
    generalize ds ++ [TT] = D1 at *
    generalize cs ++ [D.lst [cD]] = C1' at *
    generalize D2 ++ B'.1.map rowD = D3 at *
    generalize C2 ++ B'.1.map rowC = C3 at *
    generalize D3 ++ [D.str "join"] = D4 at *
    generalize C3 ++ [D.lst []] = C4 at *
    generalize ds.length + 1 + Sm.sizes a + Sm.sizes b = N4 at *
    generalize C3 ++ [D.lst [arN B'.2, arN A.2]] = C5 at *
    refine ⟨some (.s (.str "if")), some (.s (.int N4)), some (.s (arN A.2)), some (.s (arN B'.2)), ?_⟩
    have i1 : fn [lay0 D1 C1', .s (.tup (Sm.encs a)), .s (.tup [.int ds.length, .int 0])] = .ok (.s (arN A.2)) [lay0 D2 C2, .s (.tup (Sm.encs a)), .s (.tup [.int ds.length, .int 0])] := i1
    have i2 : fn [lay0 D2 C2, .s (.tup (Sm.encs b)), .s (.tup [.int ds.length, .int 1])] = .ok (.s (arN B'.2)) [lay0 D3 C3, .s (.tup (Sm.encs b)), .s (.tup [.int ds.length, .int 1])] := i2
    have rN : arN (N4, 0) = .tup [.int N4, .int 0] := rfl
    rw [rN]
    generalize arN A.2 = aA at *
    generalize arN B'.2 = aB at *
    unfold e1_Layout_lay
    simp [-List.map_map, -ev_hasNo, -ev_setIx2, hasNo_pl, hasNo_ly, set_com, e1, e2, e4, i1, i2, i3, t3, e5, atI, ixN]
  | wh k l m b =>
    obtain ⟨n', rfl, d1⟩ := hs
    have e1 := p_place ds cs (tstD k l m) (by omega) (by omega)
    have zs : (Sm.wh k l m b).size = 1 + Sm.sizes b := by simp [Sm.size]
    rw [zs] at hz
    have lB := Sm.lays_len b (.sm (.wh k l m b) :: K) (ds.length, 0) (ds.length + 1)
    have i1 := ih n' rfl b (.sm (.wh k l m b) :: K) (ds.length, 0) (ds ++ [tstD k l m]) (cs ++ [.lst []]) d1 (by simp [hl]) (by simp; omega)
    rw [show (ds ++ [tstD k l m]).length = ds.length + 1 from by simp] at i1
    obtain ⟨B', hB⟩ : ∃ B', B' = Sm.lays b (.sm (.wh k l m b) :: K) (ds.length, 0) (ds.length + 1) := ⟨_, rfl⟩
    rw [← hB] at i1 lB
    have t1 : ds.length < ((cs ++ [D.lst []]) ++ B'.1.map rowC).length := by simp [lB]; omega
    have s1 : ((cs ++ [D.lst []]) ++ B'.1.map rowC).set ds.length (D.lst [cD, arN B'.2]) = cs ++ D.lst [cD, arN B'.2] :: B'.1.map rowC := by
      rw [List.append_assoc, hl, List.set_append_right _ _ (Nat.le_refl _), Nat.sub_self]
      rfl
    have r0 : Sm.lay1 (.wh k l m b) K c ds.length = (⟨[c, B'.2], .sm (.wh k l m b), K⟩ :: B'.1, (ds.length, 1)) := by simp [Sm.lay1, hB]
    rw [r0]
    have r1 : ds ++ List.map rowD (⟨[c, B'.2], .sm (.wh k l m b), K⟩ :: B'.1) = (ds ++ [tstD k l m]) ++ B'.1.map rowD := by simp [rowD, dgD]
    have r2 : cs ++ List.map rowC (⟨[c, B'.2], .sm (.wh k l m b), K⟩ :: B'.1) = cs ++ .lst [cD, arN B'.2] :: B'.1.map rowC := by
      rw [hc1]
      simp [rowC, comD, arN, iN, arD]
    rw [r1, r2]
    rw [show Sm.enc (.wh k l m b) = .tup [.str "while", tstD k l m, .tup (Sm.encs b)] from by simp [Sm.enc]]
    generalize tstD k l m = TT at *
    generalize (ds ++ [TT]) ++ B'.1.map rowD = D2 at *
    generalize cs ++ D.lst [cD, arN B'.2] :: B'.1.map rowC = C3 at *
    generalize (cs ++ [D.lst []]) ++ B'.1.map rowC = C2 at *
    generalize ds ++ [TT] = D1 at *
    generalize cs ++ [D.lst []] = C1 at *
    refine ⟨some (.s (.str "while")), some (.s (.int ds.length)), x6, x7, ?_⟩
    have i1 : fn [lay0 D1 C1, .s (.tup (Sm.encs b)), .s (.tup [.int ds.length, .int 0])] = .ok (.s (arN B'.2)) [lay0 D2 C2, .s (.tup (Sm.encs b)), .s (.tup [.int ds.length, .int 0])] := i1
    have rN : arN (ds.length, 1) = .tup [.int ds.length, .int 1] := rfl
    rw [rN]
    generalize arN B'.2 = aB at *
    unfold e1_Layout_lay
    simp [-List.map_map, -ev_hasNo, -ev_setIx2, hasNo_pl, hasNo_ly, set_com, e1, i1, t1, s1, atI, ixN]
theorem p_lay : ∀ (N j : Nat) (b : List Sm) (K : List It) (c : Nat × Nat) (ds cs : List D), j < N → Sm.deps j b → ds.length = cs.length → ds.length + Sm.sizes b < 900 →
      f_Layout_lay N [lay0 ds cs, .s (.tup (Sm.encs b)), .s (arN c)] = .ok (.s (arN (Sm.lays b K c ds.length).2)) [lay0 (ds ++ (Sm.lays b K c ds.length).1.map rowD) (cs ++ (Sm.lays b K c ds.length).1.map rowC), .s (.tup (Sm.encs b)), .s (arN c)] := by
  intro N
  induction N with
  | zero => intro j b K c ds cs h; omega
  | succ N ih =>
    intro j b K c ds cs hj hb hl hz
    obtain ⟨e', k1, q, M, C, a, x3, x4, x5, x6, x7, k2, _, k3, k4, k5, k6, k7, rfl⟩ := for_inv (set := setT [3]) (g := e1_Layout_lay f_Layout_place_for (f_Layout_lay N))
      (I := fun xs e => ∃ (q : List Sm) (M C : List D) (a : Nat × Nat) (x3 x4 x5 x6 x7 : Option O), xs = Sm.encs q ∧ Sm.deps j q ∧ M.length = C.length ∧ M.length + Sm.sizes q < 900 ∧ M ++ (Sm.lays q K a M.length).1.map rowD = ds ++ (Sm.lays b K c ds.length).1.map rowD ∧ C ++ (Sm.lays q K a M.length).1.map rowC = cs ++ (Sm.lays b K c ds.length).1.map rowC ∧ (Sm.lays q K a M.length).2 = (Sm.lays b K c ds.length).2 ∧
        e = [some (lay0 M C), some (.s (.tup (Sm.encs b))), some (.s (arN a)), x3, x4, x5, x6, x7])
      (by
        rintro d xs e ⟨q, M, C, a, x3, x4, x5, x6, x7, h1, h2, h3, h4, h5, h6, h7, rfl⟩
        cases q with
        | nil => simp [Sm.encs] at h1
        | cons s q =>
          simp only [Sm.encs, List.cons.injEq] at h1
          obtain ⟨rfl, rfl⟩ := h1
          simp only [Sm.sizes] at h4
          have sl := Sm.lay1_len s (q.map It.sm ++ K) a M.length
          obtain ⟨y4, y5, y6, y7, e1⟩ := lay_step (f_Layout_lay N) j (fun m hm b' K' c' ds' cs' hd' hl' hz' => ih m b' K' c' ds' cs' (by omega) hd' hl' hz') s h2.1 (q.map It.sm ++ K) a M C h3 (by omega) (.s (.tup (Sm.encs b))) x4 x5 x6 x7
          simp only [Sm.lays] at h5 h6 h7
          have dl : (M ++ (Sm.lay1 s (q.map It.sm ++ K) a M.length).1.map rowD).length = M.length + s.size := by rw [List.length_append, List.length_map, sl]
          refine ⟨_, _, rfl, e1, q, _, _, _, _, _, _, _, _, rfl, h2.2, ?_, ?_, ?_, ?_, ?_, rfl⟩
          · rw [dl, List.length_append, List.length_map, sl, h3]
          · rw [dl]; omega
          · rw [dl, List.append_assoc, ← List.map_append]; exact h5
          · rw [dl, List.append_assoc, ← List.map_append]; exact h6
          · rw [dl]; exact h7) (Sm.encs b) [some (lay0 ds cs), some (.s (.tup (Sm.encs b))), some (.s (arN c)), none, none, none, none, none]
      ⟨b, ds, cs, c, none, none, none, none, none, rfl, hb, hl, hz, rfl, rfl, rfl, rfl⟩
    have : q = [] := by
      cases q with
      | nil => rfl
      | cons s r => simp [Sm.encs] at k2
    subst this
    simp only [Sm.lays, List.map_nil, List.append_nil] at k5 k6 k7
    rw [← k5, ← k6, ← k7]
    show runDef [0] 5 (b_Layout_lay f_Layout_place_for (f_Layout_lay N)) _ = _
    unfold b_Layout_lay
    simp [k1]
end L3
namespace L3
open PySem L2
@[simp] theorem nm_q1 : ((Str.ofString "doings") = (Str.ofString "goers")) = False := eq_false (by decide +kernel)
@[simp] theorem nm_q2 : ((Str.ofString "doings") = (Str.ofString "arrow_pairs")) = False := eq_false (by decide +kernel)
@[simp] theorem nm_q3 : ((Str.ofString "doings") = (Str.ofString "ways_at")) = False := eq_false (by decide +kernel)
@[simp] theorem nm_q4 : ((Str.ofString "doings") = (Str.ofString "head_of")) = False := eq_false (by decide +kernel)
@[simp] theorem nm_q5 : ((Str.ofString "comers") = (Str.ofString "doings")) = False := eq_false (by decide +kernel)
@[simp] theorem nm_q6 : ((Str.ofString "comers") = (Str.ofString "goers")) = False := eq_false (by decide +kernel)
@[simp] theorem nm_q7 : ((Str.ofString "comers") = (Str.ofString "arrow_pairs")) = False := eq_false (by decide +kernel)
@[simp] theorem nm_q8 : ((Str.ofString "comers") = (Str.ofString "ways_at")) = False := eq_false (by decide +kernel)
@[simp] theorem nm_q9 : ((Str.ofString "comers") = (Str.ofString "head_of")) = False := eq_false (by decide +kernel)
@[simp] theorem nm_q10 : ((Str.ofString "goers") = (Str.ofString "doings")) = False := eq_false (by decide +kernel)
@[simp] theorem nm_q11 : ((Str.ofString "goers") = (Str.ofString "comers")) = False := eq_false (by decide +kernel)
@[simp] theorem nm_q12 : ((Str.ofString "goers") = (Str.ofString "arrow_pairs")) = False := eq_false (by decide +kernel)
@[simp] theorem nm_q13 : ((Str.ofString "goers") = (Str.ofString "place_for")) = False := eq_false (by decide +kernel)
@[simp] theorem nm_q14 : ((Str.ofString "goers") = (Str.ofString "lay")) = False := eq_false (by decide +kernel)
@[simp] theorem nm_q15 : ((Str.ofString "goers") = (Str.ofString "ways_at")) = False := eq_false (by decide +kernel)
@[simp] theorem nm_q16 : ((Str.ofString "goers") = (Str.ofString "head_of")) = False := eq_false (by decide +kernel)
@[simp] theorem nm_q17 : ((Str.ofString "arrow_pairs") = (Str.ofString "doings")) = False := eq_false (by decide +kernel)
@[simp] theorem nm_q18 : ((Str.ofString "arrow_pairs") = (Str.ofString "comers")) = False := eq_false (by decide +kernel)
@[simp] theorem nm_q19 : ((Str.ofString "arrow_pairs") = (Str.ofString "goers")) = False := eq_false (by decide +kernel)
@[simp] theorem nm_q20 : ((Str.ofString "arrow_pairs") = (Str.ofString "place_for")) = False := eq_false (by decide +kernel)
@[simp] theorem nm_q21 : ((Str.ofString "arrow_pairs") = (Str.ofString "lay")) = False := eq_false (by decide +kernel)
@[simp] theorem nm_q22 : ((Str.ofString "arrow_pairs") = (Str.ofString "ways_at")) = False := eq_false (by decide +kernel)
@[simp] theorem nm_q23 : ((Str.ofString "arrow_pairs") = (Str.ofString "head_of")) = False := eq_false (by decide +kernel)
@[simp] theorem nm_q24 : ((Str.ofString "book") = (Str.ofString "layouts")) = False := eq_false (by decide +kernel)
@[simp] theorem nm_q25 : ((Str.ofString "book") = (Str.ofString "moments")) = False := eq_false (by decide +kernel)
@[simp] theorem nm_q26 : ((Str.ofString "book") = (Str.ofString "told")) = False := eq_false (by decide +kernel)
@[simp] theorem nm_q27 : ((Str.ofString "book") = (Str.ofString "stops")) = False := eq_false (by decide +kernel)
@[simp] theorem nm_q28 : ((Str.ofString "book") = (Str.ofString "now")) = False := eq_false (by decide +kernel)
@[simp] theorem nm_q29 : ((Str.ofString "book") = (Str.ofString "deed_now")) = False := eq_false (by decide +kernel)
@[simp] theorem nm_q30 : ((Str.ofString "book") = (Str.ofString "word")) = False := eq_false (by decide +kernel)
@[simp] theorem nm_q31 : ((Str.ofString "book") = (Str.ofString "gone")) = False := eq_false (by decide +kernel)
@[simp] theorem nm_q32 : ((Str.ofString "book") = (Str.ofString "moved")) = False := eq_false (by decide +kernel)
@[simp] theorem nm_q33 : ((Str.ofString "book") = (Str.ofString "step")) = False := eq_false (by decide +kernel)
@[simp] theorem nm_q34 : ((Str.ofString "book") = (Str.ofString "is_stopped")) = False := eq_false (by decide +kernel)
@[simp] theorem nm_q35 : ((Str.ofString "book") = (Str.ofString "go")) = False := eq_false (by decide +kernel)
@[simp] theorem nm_q36 : ((Str.ofString "book") = (Str.ofString "said")) = False := eq_false (by decide +kernel)
@[simp] theorem nm_q37 : ((Str.ofString "book") = (Str.ofString "contents")) = False := eq_false (by decide +kernel)
@[simp] theorem nm_q38 : ((Str.ofString "layouts") = (Str.ofString "book")) = False := eq_false (by decide +kernel)
@[simp] theorem nm_q39 : ((Str.ofString "layouts") = (Str.ofString "moments")) = False := eq_false (by decide +kernel)
@[simp] theorem nm_q40 : ((Str.ofString "layouts") = (Str.ofString "told")) = False := eq_false (by decide +kernel)
@[simp] theorem nm_q41 : ((Str.ofString "layouts") = (Str.ofString "stops")) = False := eq_false (by decide +kernel)
@[simp] theorem nm_q42 : ((Str.ofString "layouts") = (Str.ofString "now")) = False := eq_false (by decide +kernel)
@[simp] theorem nm_q43 : ((Str.ofString "layouts") = (Str.ofString "deed_now")) = False := eq_false (by decide +kernel)
@[simp] theorem nm_q44 : ((Str.ofString "layouts") = (Str.ofString "word")) = False := eq_false (by decide +kernel)
@[simp] theorem nm_q45 : ((Str.ofString "layouts") = (Str.ofString "gone")) = False := eq_false (by decide +kernel)
@[simp] theorem nm_q46 : ((Str.ofString "layouts") = (Str.ofString "moved")) = False := eq_false (by decide +kernel)
@[simp] theorem nm_q47 : ((Str.ofString "layouts") = (Str.ofString "step")) = False := eq_false (by decide +kernel)
@[simp] theorem nm_q48 : ((Str.ofString "layouts") = (Str.ofString "is_stopped")) = False := eq_false (by decide +kernel)
@[simp] theorem nm_q49 : ((Str.ofString "layouts") = (Str.ofString "go")) = False := eq_false (by decide +kernel)
@[simp] theorem nm_q50 : ((Str.ofString "layouts") = (Str.ofString "said")) = False := eq_false (by decide +kernel)
@[simp] theorem nm_q51 : ((Str.ofString "layouts") = (Str.ofString "contents")) = False := eq_false (by decide +kernel)
@[simp] theorem nm_q52 : ((Str.ofString "moments") = (Str.ofString "book")) = False := eq_false (by decide +kernel)
@[simp] theorem nm_q53 : ((Str.ofString "moments") = (Str.ofString "layouts")) = False := eq_false (by decide +kernel)
@[simp] theorem nm_q54 : ((Str.ofString "moments") = (Str.ofString "told")) = False := eq_false (by decide +kernel)
@[simp] theorem nm_q55 : ((Str.ofString "moments") = (Str.ofString "stops")) = False := eq_false (by decide +kernel)
@[simp] theorem nm_q56 : ((Str.ofString "moments") = (Str.ofString "now")) = False := eq_false (by decide +kernel)
@[simp] theorem nm_q57 : ((Str.ofString "moments") = (Str.ofString "deed_now")) = False := eq_false (by decide +kernel)
@[simp] theorem nm_q58 : ((Str.ofString "moments") = (Str.ofString "word")) = False := eq_false (by decide +kernel)
@[simp] theorem nm_q59 : ((Str.ofString "moments") = (Str.ofString "gone")) = False := eq_false (by decide +kernel)
@[simp] theorem nm_q60 : ((Str.ofString "moments") = (Str.ofString "moved")) = False := eq_false (by decide +kernel)
@[simp] theorem nm_q61 : ((Str.ofString "moments") = (Str.ofString "step")) = False := eq_false (by decide +kernel)
@[simp] theorem nm_q62 : ((Str.ofString "moments") = (Str.ofString "is_stopped")) = False := eq_false (by decide +kernel)
@[simp] theorem nm_q63 : ((Str.ofString "moments") = (Str.ofString "go")) = False := eq_false (by decide +kernel)
@[simp] theorem nm_q64 : ((Str.ofString "moments") = (Str.ofString "said")) = False := eq_false (by decide +kernel)
@[simp] theorem nm_q65 : ((Str.ofString "moments") = (Str.ofString "contents")) = False := eq_false (by decide +kernel)
@[simp] theorem nm_q66 : ((Str.ofString "told") = (Str.ofString "book")) = False := eq_false (by decide +kernel)
@[simp] theorem nm_q67 : ((Str.ofString "told") = (Str.ofString "layouts")) = False := eq_false (by decide +kernel)
@[simp] theorem nm_q68 : ((Str.ofString "told") = (Str.ofString "moments")) = False := eq_false (by decide +kernel)
@[simp] theorem nm_q69 : ((Str.ofString "told") = (Str.ofString "stops")) = False := eq_false (by decide +kernel)
@[simp] theorem nm_q70 : ((Str.ofString "told") = (Str.ofString "now")) = False := eq_false (by decide +kernel)
@[simp] theorem nm_q71 : ((Str.ofString "told") = (Str.ofString "deed_now")) = False := eq_false (by decide +kernel)
@[simp] theorem nm_q72 : ((Str.ofString "told") = (Str.ofString "word")) = False := eq_false (by decide +kernel)
@[simp] theorem nm_q73 : ((Str.ofString "told") = (Str.ofString "gone")) = False := eq_false (by decide +kernel)
@[simp] theorem nm_q74 : ((Str.ofString "told") = (Str.ofString "moved")) = False := eq_false (by decide +kernel)
@[simp] theorem nm_q75 : ((Str.ofString "told") = (Str.ofString "step")) = False := eq_false (by decide +kernel)
@[simp] theorem nm_q76 : ((Str.ofString "told") = (Str.ofString "is_stopped")) = False := eq_false (by decide +kernel)
@[simp] theorem nm_q77 : ((Str.ofString "told") = (Str.ofString "go")) = False := eq_false (by decide +kernel)
@[simp] theorem nm_q78 : ((Str.ofString "told") = (Str.ofString "said")) = False := eq_false (by decide +kernel)
@[simp] theorem nm_q79 : ((Str.ofString "told") = (Str.ofString "contents")) = False := eq_false (by decide +kernel)
@[simp] theorem nm_q80 : ((Str.ofString "stops") = (Str.ofString "book")) = False := eq_false (by decide +kernel)
@[simp] theorem nm_q81 : ((Str.ofString "stops") = (Str.ofString "layouts")) = False := eq_false (by decide +kernel)
@[simp] theorem nm_q82 : ((Str.ofString "stops") = (Str.ofString "moments")) = False := eq_false (by decide +kernel)
@[simp] theorem nm_q83 : ((Str.ofString "stops") = (Str.ofString "told")) = False := eq_false (by decide +kernel)
@[simp] theorem nm_q84 : ((Str.ofString "stops") = (Str.ofString "now")) = False := eq_false (by decide +kernel)
@[simp] theorem nm_q85 : ((Str.ofString "stops") = (Str.ofString "deed_now")) = False := eq_false (by decide +kernel)
@[simp] theorem nm_q86 : ((Str.ofString "stops") = (Str.ofString "word")) = False := eq_false (by decide +kernel)
@[simp] theorem nm_q87 : ((Str.ofString "stops") = (Str.ofString "gone")) = False := eq_false (by decide +kernel)
@[simp] theorem nm_q88 : ((Str.ofString "stops") = (Str.ofString "moved")) = False := eq_false (by decide +kernel)
@[simp] theorem nm_q89 : ((Str.ofString "stops") = (Str.ofString "step")) = False := eq_false (by decide +kernel)
@[simp] theorem nm_q90 : ((Str.ofString "stops") = (Str.ofString "is_stopped")) = False := eq_false (by decide +kernel)
@[simp] theorem nm_q91 : ((Str.ofString "stops") = (Str.ofString "go")) = False := eq_false (by decide +kernel)
@[simp] theorem nm_q92 : ((Str.ofString "stops") = (Str.ofString "said")) = False := eq_false (by decide +kernel)
@[simp] theorem nm_q93 : ((Str.ofString "stops") = (Str.ofString "contents")) = False := eq_false (by decide +kernel)
@[simp] theorem nm_q94 : ((Str.ofString "frames") = (Str.ofString "amounts")) = False := eq_false (by decide +kernel)
@[simp] theorem nm_q95 : ((Str.ofString "frames") = (Str.ofString "saids")) = False := eq_false (by decide +kernel)
@[simp] theorem nm_q96 : ((Str.ofString "frames") = (Str.ofString "along")) = False := eq_false (by decide +kernel)
@[simp] theorem nm_q97 : ((Str.ofString "amounts") = (Str.ofString "frames")) = False := eq_false (by decide +kernel)
@[simp] theorem nm_q98 : ((Str.ofString "amounts") = (Str.ofString "saids")) = False := eq_false (by decide +kernel)
@[simp] theorem nm_q99 : ((Str.ofString "amounts") = (Str.ofString "along")) = False := eq_false (by decide +kernel)
@[simp] theorem nm_q100 : ((Str.ofString "saids") = (Str.ofString "frames")) = False := eq_false (by decide +kernel)
@[simp] theorem nm_q101 : ((Str.ofString "saids") = (Str.ofString "amounts")) = False := eq_false (by decide +kernel)
@[simp] theorem nm_q102 : ((Str.ofString "saids") = (Str.ofString "along")) = False := eq_false (by decide +kernel)
@[simp] theorem nm_q103 : ((Str.ofString "along") = (Str.ofString "frames")) = False := eq_false (by decide +kernel)
@[simp] theorem nm_q104 : ((Str.ofString "along") = (Str.ofString "amounts")) = False := eq_false (by decide +kernel)
@[simp] theorem nm_q105 : ((Str.ofString "along") = (Str.ofString "saids")) = False := eq_false (by decide +kernel)
@[simp] theorem in_ls3 : gIn false (.val (.str (Str.ofString "set"))) (.val (.tup [.str (Str.ofString "less"), .str (Str.ofString "same")])) = some (.val (.bl false)) := Eq.trans rfl rfl
@[simp] theorem in_ls4 : gIn false (.val (.str (Str.ofString "say"))) (.val (.tup [.str (Str.ofString "less"), .str (Str.ofString "same")])) = some (.val (.bl false)) := Eq.trans rfl rfl
@[simp] theorem in_ls5 : gIn false (.val (.str (Str.ofString "call"))) (.val (.tup [.str (Str.ofString "less"), .str (Str.ofString "same")])) = some (.val (.bl false)) := Eq.trans rfl rfl
@[simp] theorem in_ls6 : gIn false (.val (.str (Str.ofString "b"))) (.val (.tup [.str (Str.ofString "less"), .str (Str.ofString "same")])) = some (.val (.bl false)) := Eq.trans rfl rfl
@[simp] theorem in_ls7 : gIn false (.val (.str (Str.ofString "j"))) (.val (.tup [.str (Str.ofString "less"), .str (Str.ofString "same")])) = some (.val (.bl false)) := Eq.trans rfl rfl
theorem sok_ix (s : Str) (c : Nat) (h1 : s.length ≤ 16777216) (h2 : s.cps.toList.head? = some c) : gIx (.val (.str s)) (.val (.int 0)) = some (.val (.str ⟨#[c]⟩)) := by
  show (if s.length ≤ 16777216 then (atI s.cps.toList 0).map fun c => Rt.val (.str ⟨#[c]⟩) else none) = _
  rw [if_pos h1]
  have : atI s.cps.toList 0 = some c := by
    cases h : s.cps.toList with
    | nil => rw [h] at h2; cases h2
    | cons a b =>
      rw [h] at h2
      have : a = c := by simpa using h2
      subst this
      simp [atI, ixN]
  rw [this]
  rfl
@[simp] theorem ix_begin : gIx (.val (.str (Str.ofString "begin"))) (.val (.int 0)) = some (.val (.str (Str.ofString "b"))) := sok_ix _ _ (by decide +kernel) (by decide +kernel)
@[simp] theorem ix_join : gIx (.val (.str (Str.ofString "join"))) (.val (.int 0)) = some (.val (.str (Str.ofString "j"))) := sok_ix _ _ (by decide +kernel) (by decide +kernel)
theorem enc_set_s (x : Nat) (l : List Int) {s : Str} (hs : PyData.strOk s = true) : gEq (.val (.tup [.str "set", .int x, .tup (l.map D.int)])) (.val (.str s)) = some (.val (.bl false)) := by
  refine eq_ts (ps := [.str "set", .int x, .tuple (l.map .int)]) (by simp [D.pys, D.py, ints_py]) ?_ hs
  unfold SeqAt.shaped
  rw [Bool.and_eq_true]
  exact ⟨by simp [PyData.canLay0, PyData.canLayAll0, (ints_lay l).1], by simp [PyData.depth, PyData.depthAll, (ints_lay l).2]⟩
theorem enc_say_s (l : List Int) {s : Str} (hs : PyData.strOk s = true) : gEq (.val (.tup [.str "say", .tup (l.map D.int)])) (.val (.str s)) = some (.val (.bl false)) := by
  refine eq_ts (ps := [.str "say", .tuple (l.map .int)]) (by simp [D.pys, D.py, ints_py]) ?_ hs
  unfold SeqAt.shaped
  rw [Bool.and_eq_true]
  exact ⟨by simp [PyData.canLay0, PyData.canLayAll0, (ints_lay l).1], by simp [PyData.depth, PyData.depthAll, (ints_lay l).2]⟩
theorem enc_call_s (x : Nat) {s : Str} (hs : PyData.strOk s = true) : gEq (.val (.tup [.str "call", .int x])) (.val (.str s)) = some (.val (.bl false)) := by
  refine eq_ts (ps := [.str "call", .int x]) (by simp [D.pys, D.py]) ?_ hs
  unfold SeqAt.shaped
  rw [Bool.and_eq_true]
  exact ⟨by simp [PyData.canLay0, PyData.canLayAll0], by simp [PyData.depth, PyData.depthAll]⟩
theorem p_ways (T : List Row) (ns : List Str) (ds : List D) (p : Nat) (r : Row) (hlk : lk ns ds "doings" = some (.lst (T.map rowD))) (hr : T[p]? = some r) :
    f_Layout_ways_at [.s (.ins 1 ns ds), .s (.int p)] = .ok (.s (.int (waysI r.hd))) [.s (.ins 1 ns ds), .s (.int p)] := by
  have hi : (T.map rowD)[p]? = some (dgD r.hd) := by rw [List.getElem?_map, hr]; rfl
  have ha : atI (T.map rowD) (p : Int) = some (dgD r.hd) := atI_nat hi
  obtain ⟨cm, hd, tl⟩ := r
  show _ = Rr.ok (.s (.int (waysI hd))) _
  cases hd with
  | sm s =>
    cases s with
    | set x l =>
      have he := enc_set_s x l (s := "end") (by simp)
      have e0 : dgD (.sm (.set x l)) = .tup [.str "set", .int x, .tup (l.map D.int)] := by simp [dgD, Sm.enc]
      simp only [e0] at ha
      have h0 : gIx (.val (.tup [.str "set", .int x, .tup (l.map D.int)])) (.val (.int 0)) = some (.val (.str "set")) := by simp [atI, ixN]
      unfold f_Layout_ways_at b_Layout_ways_at waysI
      simp [-List.map_map, -ev_ixt, hlk, ha, he, h0]
    | say l =>
      have he := enc_say_s l (s := "end") (by simp)
      have e0 : dgD (.sm (.say l)) = .tup [.str "say", .tup (l.map D.int)] := by simp [dgD, Sm.enc]
      simp only [e0] at ha
      have h0 : gIx (.val (.tup [.str "say", .tup (l.map D.int)])) (.val (.int 0)) = some (.val (.str "say")) := by simp [atI, ixN]
      unfold f_Layout_ways_at b_Layout_ways_at waysI
      simp [-List.map_map, -ev_ixt, hlk, ha, he, h0]
    | call x =>
      have he := enc_call_s x (s := "end") (by simp)
      have e0 : dgD (.sm (.call x)) = .tup [.str "call", .int x] := by simp [dgD, Sm.enc]
      simp only [e0] at ha
      have h0 : gIx (.val (.tup [.str "call", .int x])) (.val (.int 0)) = some (.val (.str "call")) := by simp [atI, ixN]
      unfold f_Layout_ways_at b_Layout_ways_at waysI
      simp [-List.map_map, -ev_ixt, hlk, ha, he, h0]
    | ifs k l m a b => exact p_ways_tst ns ds _ p k l m hlk hi
    | wh k l m b => exact p_ways_tst ns ds _ p k l m hlk hi
  | beg =>
    unfold f_Layout_ways_at b_Layout_ways_at waysI
    simp only [dgD] at ha
    simp [-List.map_map, hlk, ha]
  | join =>
    unfold f_Layout_ways_at b_Layout_ways_at waysI
    simp only [dgD] at ha
    simp [-List.map_map, hlk, ha]
  | fin => exact p_ways_end ns ds _ p hlk hi
def lay2 (DS CS : List D) (GO : List O) (PS : List D) : O := .ins 1 ["doings", "comers", "goers", "arrow_pairs"] [.lst (DS.map O.s), .lst (CS.map O.s), .lst GO, .lst (PS.map O.s)]
def layD (DS CS GD PS : List D) : D := .ins 1 ["doings", "comers", "goers", "arrow_pairs"] [.lst DS, .lst CS, .lst GD, .lst PS]
theorem lay2_d (DS CS : List D) (GO : List O) (PS : List D) : (lay2 DS CS GO PS).d = layD DS CS (O.ds GO) PS := by
  unfold lay2 layD
  simp
def gO (g : List Nat) : O := .lst ((g.map fun (j : Nat) => D.int j).map O.s)
def gD (g : List Nat) : D := .lst (g.map fun (j : Nat) => D.int j)
theorem gO_ds (G : List (List Nat)) : O.ds (G.map gO) = G.map gD := by
  induction G with
  | nil => simp
  | cons g G ih =>
    rw [List.map_cons, ev_ods1, ih]
    unfold gO gD
    rw [ev_od2, ev_ods2, List.map_cons]
theorem ini_step (fl : List O → Rr) (DS CS : List D) (GO GO' : List O) (PS gs : List D) (p w q : Nat) (B : O) (L : Option O) (hp : p < GO.length) (hg : GO[p]? = some (.lst (gs.map O.s))) (hG : GO.set p (.lst ((gs ++ [D.int PS.length]).map O.s)) = GO') (h1 : gs.length < 1000) (h2 : PS.length < 1000)
    (hq : f_Layout_head_of [.s (layD DS CS (O.ds GO') PS), .s (arN (p, w))] = .ok (.s (.int q)) [.s (layD DS CS (O.ds GO') PS), .s (arN (p, w))]) :
    e1_Layout___init__ fl f_Layout_ways_at f_Layout_head_of [some (lay2 DS CS GO PS), some B, L, some (.s (.int p)), some (.s (.int w))] = .ok .nx [some (lay2 DS CS GO' (PS ++ [arN (p, q)])), some B, L, some (.s (.int p)), some (.s (.int w))] := by
  have e1 : ixN GO.length (p : Int) = some p := by simp [ixN]; omega
  have hG : GO.set p (.lst (gs.map O.s ++ [.s (.int PS.length)])) = GO' := by rw [← hG, List.map_append]; rfl
  have a1 : gs.length < 16777216 := by omega
  have a2 : PS.length < 16777216 := by omega
  have hd := lay2_d DS CS GO' PS
  have hh : roHas 1 "head_of" (layD DS CS (O.ds GO') PS) = true := by unfold layD roHas; simp [lk]
  have hq : f_Layout_head_of [.s (layD DS CS (O.ds GO') PS), .s (.tup [.int p, .int w])] = .ok (.s (.int q)) [.s (layD DS CS (O.ds GO') PS), .s (.tup [.int p, .int w])] := hq
  have hr : arN (p, q) = .tup [.int p, .int q] := rfl
  rw [hr]
  unfold e1_Layout___init__
  unfold layD at hq hh
  unfold lay2
  simp [-List.map_map, e1, hg, hG, a1, a2, hq, hh]
end L3
namespace L3
open PySem L2
theorem forL_nx {set : D → Env → Option Env} {g : MS} {d : D} {ds : List D} {e e1 e2 : Env} (h1 : set d e = some e1) (h2 : g e1 = .ok .nx e2) : forL set g (d :: ds) e = forL set g ds e2 := by
  conv => lhs; unfold forL
  rw [h1]
  simp only [Rs.bind, h2]
theorem forL_nil {set : D → Env → Option Env} {g : MS} {e : Env} : forL set g [] e = .ok .nx e := rfl
theorem rngD_r (n : Nat) : rngD 0 n = (List.range' 0 n).map fun (i : Nat) => D.int i := by
  unfold rngD
  rw [List.range_eq_range']
  exact List.map_congr_left fun i _ => by rw [Int.zero_add]
theorem ini_loop (fl : List O → Rr) (DS CS : List D) (G0 : List (List Nat)) (p W : Nat) (hp : G0.length = p) (hW : W ≤ 2) (B : O) (L : Option O) (q : Nat → Nat) (hq : ∀ GD PS w, w < W → f_Layout_head_of [.s (layD DS CS GD PS), .s (arN (p, w))] = .ok (.s (.int (q w))) [.s (layD DS CS GD PS), .s (arN (p, w))]) :
    ∀ (n w : Nat) (g : List Nat) (P : List (Nat × Nat)) (x4 : Option O), w + n = W → g.length + n ≤ 900 → P.length + n ≤ 900 → ∃ y4, forL (setT [4]) (e1_Layout___init__ fl f_Layout_ways_at f_Layout_head_of) ((List.range' w n).map fun (i : Nat) => D.int i) [some (lay2 DS CS ((G0 ++ [g]).map gO) (P.map arN)), some B, L, some (.s (.int p)), x4] =
      .ok .nx [some (lay2 DS CS ((G0 ++ [g ++ List.range' P.length n]).map gO) ((P ++ (List.range' w n).map fun i => (p, q i)).map arN)), some B, L, some (.s (.int p)), y4] := by
  intro n
  induction n with
  | zero =>
    intro w g P x4 _ _ _
    refine ⟨x4, ?_⟩
    rw [List.range'_zero, List.range'_zero, List.map_nil, List.map_nil, List.append_nil, List.append_nil]
    exact forL_nil
  | succ n ih =>
    intro w g P x4 hw hg hP
    have hs := ini_step fl DS CS ((G0 ++ [g]).map gO) ((G0 ++ [g ++ [P.length]]).map gO) (P.map arN) (g.map fun (j : Nat) => D.int j) p w (q w) B L (by simp [hp]) (by rw [List.getElem?_map, List.getElem?_append_right (by omega), hp, Nat.sub_self]; rfl)
      (by
        rw [List.map_append, List.set_append_right _ _ (by rw [List.length_map]; omega), List.length_map, hp, Nat.sub_self, List.map_append, List.length_map]
        unfold gO
        simp) (by rw [List.length_map]; omega) (by rw [List.length_map]; omega) (hq _ _ w (by omega))
    obtain ⟨y4, i1⟩ := ih (w + 1) (g ++ [P.length]) (P ++ [(p, q w)]) (some (.s (.int w))) (by omega) (by rw [List.length_append, List.length_singleton]; omega) (by rw [List.length_append, List.length_singleton]; omega)
    refine ⟨y4, ?_⟩
    rw [List.range'_succ, List.map_cons, forL_nx (e1 := [some (lay2 DS CS ((G0 ++ [g]).map gO) (P.map arN)), some B, L, some (.s (.int p)), some (.s (.int w))]) rfl hs]
    have e2 : P.map arN ++ [arN (p, q w)] = (P ++ [(p, q w)]).map arN := by rw [List.map_append]; rfl
    rw [e2, i1]
    have e3 : (P ++ [(p, q w)]).length = P.length + 1 := by simp
    rw [e3, List.range'_succ, List.map_cons]
    simp
theorem p_ways_h (w : It) : waysI w ≤ 2 := by
  cases w with
  | sm s => cases s <;> simp [waysI]
  | _ => simp [waysI]
theorem ini_row (fl : List O → Rr) (T : List Row) (G : List (List Nat)) (P : List (Nat × Nat)) (p : Nat) (r : Row) (hr : T[p]? = some r) (hp : G.length = p) (hl : p ≤ 100) (hP : P.length ≤ 200) (B : O) (L x3 x4 : Option O) (q : Nat → Nat)
    (hq : ∀ GD PS w, w < waysI r.hd → f_Layout_head_of [.s (layD (T.map rowD) (T.map rowC) GD PS), .s (arN (p, w))] = .ok (.s (.int (q w))) [.s (layD (T.map rowD) (T.map rowC) GD PS), .s (arN (p, w))]) :
    ∃ y4, e2_Layout___init__ fl f_Layout_ways_at f_Layout_head_of [some (lay2 (T.map rowD) (T.map rowC) (G.map gO) (P.map arN)), some B, L, some (.s (.int p)), x4] =
      .ok .nx [some (lay2 (T.map rowD) (T.map rowC) ((G ++ [List.range' P.length (waysI r.hd)]).map gO) ((P ++ (List.range' 0 (waysI r.hd)).map fun i => (p, q i)).map arN)), some B, L, some (.s (.int p)), y4] := by
  have hW := p_ways_h r.hd
  obtain ⟨y4, k1⟩ := ini_loop fl (T.map rowD) (T.map rowC) G p (waysI r.hd) hp hW B L q hq (waysI r.hd) 0 [] P x4 (by omega) (by simp; omega) (by omega)
  rw [← rngD_r] at k1
  have w1 := p_ways T ["doings", "comers", "goers", "arrow_pairs"] [.lst (T.map rowD), .lst (T.map rowC), .lst (O.ds (G.map gO ++ [.lst []])), .lst (P.map arN)] p r rfl hr
  have e0 : (G ++ [[]]).map gO = G.map gO ++ [.lst []] := by rw [List.map_append]; rfl
  rw [e0, List.nil_append] at k1
  have hh : roHas 1 "ways_at" (.ins 1 ["doings", "comers", "goers", "arrow_pairs"] [.lst (T.map rowD), .lst (T.map rowC), .lst (O.ds (G.map gO ++ [.lst []])), .lst (P.map arN)]) = true := by unfold roHas; simp
  have hrg : ∀ e : Env, rg1K (.ok [.val (.int (waysI r.hd : Int))] e) = .ok ⟨rngD 0 (waysI r.hd), none⟩ e := fun e => (rg1_is (by omega) (by omega)).trans (by rw [Int.toNat_natCast])
  have hgl : (G.map gO).length < 16777216 := by rw [List.length_map]; omega
  refine ⟨y4, ?_⟩
  generalize (G ++ [List.range' P.length (waysI r.hd)]).map gO = GG at *
  generalize (P ++ (List.range' 0 (waysI r.hd)).map fun i => (p, q i)).map arN = PP at *
  generalize waysI r.hd = W at *
  generalize G.map gO = GO at *
  unfold e2_Layout___init__
  unfold lay2 at k1 ⊢
  simp [-List.map_map, hgl, w1, hh, hrg, k1]
theorem iN_inj {a b : Nat × Nat} (h : iN a = iN b) : a = b := by
  obtain ⟨a1, a2⟩ := a
  obtain ⟨b1, b2⟩ := b
  unfold iN at h
  simp only [Prod.mk.injEq] at h ⊢
  omega
theorem iN_mem {a : Nat × Nat} {l : List (Nat × Nat)} : iN a ∈ l.map iN ↔ a ∈ l := ⟨fun h => by
  obtain ⟨b, hb, e⟩ := List.mem_map.mp h
  rw [← iN_inj e]; exact hb, fun h => List.mem_map.mpr ⟨a, h, rfl⟩⟩
theorem head_ok (b : List Sm) (hb : Sm.sizes b ≤ 36) {p w : Nat} {r : Row} (hr : (tabB b)[p]? = some r) (hw : w < waysI r.hd) (GD PS : List D) :
    f_Layout_head_of [.s (layD ((tabB b).map rowD) ((tabB b).map rowC) GD PS), .s (arN (p, w))] = .ok (.s (.int (nxt b p w))) [.s (layD ((tabB b).map rowD) ((tabB b).map rowC) GD PS), .s (arN (p, w))] := by
  obtain ⟨X, hX⟩ := ways_is r.hd r.tl hw
  obtain ⟨q, h1, h2, h3, h4⟩ := nxt_ok b hr hX
  have hl := tabB_len b
  have e : (tabB b).map rowC = ((tabB b).map fun r => r.cm.map iN).map comD := by rw [List.map_map]; rfl
  refine p_head ["doings", "comers", "goers", "arrow_pairs"] [.lst ((tabB b).map rowD), .lst ((tabB b).map rowC), .lst GD, .lst PS] ((tabB b).map fun r => r.cm.map iN) (iN (p, w)) (nxt b p w) (q.cm.map iN) ?_ (by rw [List.length_map]; omega) (by rw [List.getElem?_map, h1]; rfl) (iN_mem.mpr h3) fun j r' hj hr' hm => ?_
  · rw [← e]
    simp
  · rw [List.getElem?_map] at hr'
    cases hq : (tabB b)[j]? with
    | none => rw [hq] at hr'; cases hr'
    | some q' =>
      rw [hq] at hr'
      obtain rfl := Option.some.inj hr'
      exact h4 j q' hj hq (iN_mem.mp hm)
def LayT (b : List Sm) (G : List (List Nat)) (P : List (Nat × Nat)) (n : Nat) : Prop := ∀ p r w, p < n → (tabB b)[p]? = some r → w < waysI r.hd → ∃ g j, G[p]? = some g ∧ g[w]? = some j ∧ P[j]? = some (p, nxt b p w)
theorem p_layinit (b : List Sm) (hb : Sm.sizes b ≤ 36) (hd : Sm.deps 7 b) : ∃ G P, LayT b G P (tabB b).length ∧ f_Layout___init__ [.ins 1 [] [], .s (encB b)] = .ok (.s .non) [lay2 ((tabB b).map rowD) ((tabB b).map rowC) (G.map gO) (P.map arN), .s (encB b)] := by
  have hl := tabB_len b
  have i1 := p_lay 20 7 b [.fin] (0, 0) [.str "begin"] [.lst []] (by omega) hd rfl (by simp; omega)
  obtain ⟨A, hA⟩ : ∃ A, A = Sm.lays b [.fin] (0, 0) 1 := ⟨_, rfl⟩
  rw [show [D.str "begin"].length = 1 from rfl, ← hA] at i1
  have hT : tabB b = ⟨[], .beg, b.map It.sm ++ [.fin]⟩ :: (A.1 ++ [⟨[A.2], .fin, []⟩]) := by rw [hA]; rfl
  have hD : ([D.str "begin"] ++ A.1.map rowD).map O.s ++ [O.s (.str "end")] = ((tabB b).map rowD).map O.s := by
    rw [hT, show [O.s (D.str "end")] = [D.str "end"].map O.s from rfl, ← List.map_append]
    simp [rowD, dgD]
  have hC : ([D.lst []] ++ A.1.map rowC).map O.s ++ [O.s (.lst [arN A.2])] = ((tabB b).map rowC).map O.s := by
    rw [hT, show [O.s (D.lst [arN A.2])] = [D.lst [arN A.2]].map O.s from rfl, ← List.map_append]
    simp [rowC, comD, arN, iN, arD]
  have lD : ([D.str "begin"] ++ A.1.map rowD).length = 1 + Sm.sizes b := by rw [hA]; simp [Sm.lays_len]; omega
  have lC : ([D.lst []] ++ A.1.map rowC).length = 1 + Sm.sizes b := by rw [hA]; simp [Sm.lays_len]; omega
  obtain ⟨e', k1, p, n, G, P, x3, x4, k2, k3, k4, k5, k6, rfl⟩ := for_inv (set := setT [3]) (g := e2_Layout___init__ (f_Layout_lay 20) f_Layout_ways_at f_Layout_head_of)
    (I := fun ds e => ∃ (p n : Nat) (G : List (List Nat)) (P : List (Nat × Nat)) (x3 x4 : Option O), ds = (List.range' p n).map (fun (i : Nat) => D.int i) ∧ p + n = (tabB b).length ∧ G.length = p ∧ P.length ≤ 2 * p ∧ LayT b G P p ∧
      e = [some (lay2 ((tabB b).map rowD) ((tabB b).map rowC) (G.map gO) (P.map arN)), some (.s (encB b)), some (.s (arN A.2)), x3, x4])
    (by
      rintro d ds e ⟨p, n, G, P, x3, x4, h1, h2, h3, h4, h5, rfl⟩
      cases n with
      | zero => simp at h1
      | succ n =>
        rw [List.range'_succ, List.map_cons] at h1
        simp only [List.cons.injEq] at h1
        obtain ⟨rfl, rfl⟩ := h1
        have hp : p < (tabB b).length := by omega
        obtain ⟨r, hr⟩ : ∃ r, (tabB b)[p]? = some r := ⟨_, List.getElem?_eq_getElem hp⟩
        have hW := p_ways_h r.hd
        obtain ⟨y4, e1⟩ := ini_row (f_Layout_lay 20) (tabB b) G P p r hr h3 (by omega) (by omega) (.s (encB b)) (some (.s (arN A.2))) x3 x4 (nxt b p) (fun GD PS w hw => head_ok b hb hr hw GD PS)
        refine ⟨_, _, rfl, e1, p + 1, n, _, _, _, _, rfl, by omega, by rw [List.length_append, h3]; rfl, by rw [List.length_append, List.length_map, List.length_range']; omega, ?_, rfl⟩
        intro p' r' w' hp' hr' hw'
        by_cases hpp : p' = p
        · subst hpp
          have : r' = r := Option.some.inj (hr'.symm.trans hr)
          subst this
          refine ⟨List.range' P.length (waysI r'.hd), P.length + w', by rw [List.getElem?_append_right (by omega), h3, Nat.sub_self]; rfl, ?_, ?_⟩
          · rw [List.getElem?_range' hw']
            simp
          · rw [List.getElem?_append_right (by omega), Nat.add_sub_cancel_left, List.getElem?_map, List.getElem?_range' hw']
            simp
        · obtain ⟨g, j, g1, g2, g3⟩ := h5 p' r' w' (by omega) hr' hw'
          refine ⟨g, j, by rw [List.getElem?_append_left (by omega)]; exact g1, g2, ?_⟩
          rw [List.getElem?_append_left (List.getElem?_eq_some_iff.mp g3).1]
          exact g3) (rngD 0 (tabB b).length) [some (lay2 ((tabB b).map rowD) ((tabB b).map rowC) ([].map gO) ([].map arN)), some (.s (encB b)), some (.s (arN A.2)), none, none]
    ⟨0, (tabB b).length, [], [], none, none, rngD_r _, by omega, rfl, by simp, fun p r w h => by omega, rfl⟩
  have : n = 0 := by
    cases n with
    | zero => rfl
    | succ n => rw [List.range'_succ] at k2; cases k2
  subst this
  have hpl : p = (tabB b).length := by omega
  rw [hpl] at k6
  refine ⟨G, P, k6, ?_⟩
  have hrg : ∀ e : Env, rg1K (.ok [.val (.int ((tabB b).length : Int))] e) = .ok ⟨rngD 0 (tabB b).length, none⟩ e := fun e => (rg1_is (by omega) (by omega)).trans (by rw [Int.toNat_natCast])
  have hTl : ((tabB b).map rowD).length = (tabB b).length := by rw [List.length_map]
  generalize (tabB b).map rowD = TD at *
  generalize (tabB b).map rowC = TC at *
  generalize (tabB b).length = N at *
  generalize arN A.2 = LA at *
  generalize [D.str "begin"] ++ A.1.map rowD = D1 at *
  generalize [D.lst []] ++ A.1.map rowC = C1 at *
  have i1 : f_Layout_lay 20 [.ins 1 ["doings", "comers"] [.lst [.s (.str "begin")], .lst [.s (.lst [])]], .s (encB b), .s (.tup [.int 0, .int 0])] = .ok (.s LA) [.ins 1 ["doings", "comers"] [.lst (D1.map O.s), .lst (C1.map O.s)], .s (encB b), .s (.tup [.int 0, .int 0])] := i1
  have a1 : D1.length < 16777216 := by omega
  have a2 : C1.length < 16777216 := by omega
  unfold f_Layout___init__ b_Layout___init__
  generalize f_Layout_lay 20 = fl at *
  generalize e2_Layout___init__ fl f_Layout_ways_at f_Layout_head_of = ee at *
  unfold lay2 at k1 ⊢
  simp only [List.map_nil] at k1
  simp [-List.map_map, i1, a1, a2, hD, hC, hTl, hrg, k1]
end L3
namespace L3
open PySem L2
def LayD (b : List Sm) (ld : D) : Prop := ∃ G P, LayT b G P (tabB b).length ∧ ld = layD ((tabB b).map rowD) ((tabB b).map rowC) (G.map gD) (P.map arN)
theorem p_layoutof (c : Nat) (bs : List (List Sm)) (r : Nat) (b : List Sm) (hr : bs[r]? = some b) (hl : bs.length ≤ 5) (hb : Sm.sizes b ≤ 36) (hd : Sm.deps 7 b) :
    ∃ G P, LayT b G P (tabB b).length ∧ f_layout_of [.s (bookD c bs), .s (.int r)] = .ok (lay2 ((tabB b).map rowD) ((tabB b).map rowC) (G.map gO) (P.map arN)) [.s (bookD c bs), .s (.int r)] := by
  obtain ⟨G, P, h1, h2⟩ := p_layinit b hb hd
  refine ⟨G, P, h1, ?_⟩
  have hlt := (List.getElem?_eq_some_iff.mp hr).1
  have e1 := p_within r 0 ((bs.length : Int) - 1)
  have e2 : (0 : Int) ≤ r := by omega
  have e3 : (r : Int) ≤ (bs.length : Int) - 1 := by omega
  have e4 : atI (bs.map encB) (r : Int) = some (encB b) := atI_nat (by rw [List.getElem?_map, hr]; rfl)
  unfold f_layout_of b_layout_of bookD
  generalize encB b = B at *
  unfold lay2 at h2 ⊢
  simp [-List.map_map, e1, e2, e3, e4, h2]
theorem lc_rel {vs : List Nat} {set : D → Env → Option Env} {f : ME} {I : Env → Prop} {R : D → D → Prop} {G : D → Prop} (step : ∀ e d, I e → G d → ∃ e1 y e2, set d (wipeE e vs) = some e1 ∧ f e1 = .ok (.val y) e2 ∧ I e2 ∧ R d y) :
    ∀ (items : List D) (e : Env), I e → (∀ d ∈ items, G d) → ∃ ys e', lcL vs set mYes f items e = .ok ys e' ∧ I e' ∧ ys.length = items.length ∧ ∀ (i : Nat) (d : D), items[i]? = some d → ∃ y, ys[i]? = some y ∧ R d y
  | [], e, hI, _ => ⟨[], e, rfl, hI, rfl, fun i d h => by simp at h⟩
  | d :: ds, e, hI, hG => by
    obtain ⟨e1, y, e2, h1, h2, h3, h4⟩ := step e d hI (hG d (by simp))
    obtain ⟨ys, e', i1, i2, i3, i4⟩ := lc_rel step ds e2 h3 (fun d hd => hG d (by simp [hd]))
    refine ⟨y :: ys, e', ?_, i2, by simp [i3], fun i z hz => ?_⟩
    · unfold lcL
      rw [h1]
      simp only [mYes, Rs.bind, if_true, h2, i1]
    · cases i with
      | zero =>
        have : d = z := by simpa using hz
        subst this
        exact ⟨y, rfl, h4⟩
      | succ i =>
        obtain ⟨w, w1, w2⟩ := i4 i z (by simpa using hz)
        exact ⟨w, by simpa using w1, w2⟩
def momD (fr : List D) (vs : List Int) (sd : Nat) (al : D) : D := .ins 2 ["frames", "amounts", "saids", "along"] [.tup fr, .tup (vs.map D.int), .int sd, al]
def runO (bk : D) (Ls ms : List D) (told : List Int) : O := .ins 3 ["book", "layouts", "moments", "told", "stops"] [.s bk, .lst (Ls.map O.s), .lst (ms.map O.s), .lst ((told.map D.int).map O.s), .dt [] []]
theorem p_moment (fr : List D) (vs : List Int) (sd : Nat) (al : D) : f_Moment___init__ [.ins 2 [] [], .s (.tup fr), .s (.tup (vs.map D.int)), .s (.int sd), .s al] = .ok (.s .non) [.ins 2 ["frames", "amounts", "saids", "along"] [.s (.tup fr), .s (.tup (vs.map D.int)), .s (.int sd), .s al], .s (.tup fr), .s (.tup (vs.map D.int)), .s (.int sd), .s al] := by
  unfold f_Moment___init__ b_Moment___init__
  simp [-List.map_map]
theorem p_contents (c : Nat) (bs : List (List Sm)) (vs : List Int) (hv : vs.length = c) (hc : c ≤ 8) : f_are_contents [.s (bookD c bs), .s (.tup (vs.map D.int))] = .ok (.s (.bl true)) [.s (bookD c bs), .s (.tup (vs.map D.int))] := by
  obtain ⟨e', k1, x, rfl⟩ := lc_map (vs := [2]) (set := setT [2]) (f := e1_are_contents f_is_integer) (F := fun _ => D.bl true) (I := fun e => ∃ x : Option O, e = [some (.s (bookD c bs)), some (.s (.tup (vs.map D.int))), x])
    (vs.map D.int) [some (.s (bookD c bs)), some (.s (.tup (vs.map D.int))), none]
    (by
      rintro e d ⟨x, rfl⟩ hd
      obtain ⟨i, hi, rfl⟩ := List.mem_map.mp hd
      have e2 := p_isint i
      refine ⟨_, _, rfl, ?_, some (.s (.int i)), rfl⟩
      unfold e1_are_contents
      simp [e2]) ⟨none, rfl⟩
  have e1 : (vs.map D.int).map (fun _ => D.bl true) = ((vs.map D.int).map fun _ => true).map D.bl := by rw [List.map_map (l := vs.map D.int)]; rfl
  rw [e1] at k1
  have e3 : gAll [.own (.lst ((((vs.map D.int).map fun _ => true).map D.bl).map O.s))] = some (.val (.bl true)) := by rw [ev_gAllL, all_true]
  generalize ((vs.map D.int).map fun _ => true).map D.bl = bb at k1 e3
  have hl3 : c ≤ 16777216 := by omega
  unfold f_are_contents b_are_contents
  unfold bookD at k1 ⊢
  simp [-List.map_map, hv, hl3, k1, e3]
def LaysD (bs : List (List Sm)) (Ls : List D) : Prop := ∀ (r : Nat) (b : List Sm), bs[r]? = some b → ∃ ld, Ls[r]? = some ld ∧ LayD b ld
theorem p_runinit (c : Nat) (bs : List (List Sm)) (vs : List Int) (hv : vs.length = c) (hc : c ≤ 8) (hl : bs.length ≤ 5) (hb : ∀ b ∈ bs, BodyIs c bs.length b) :
    ∃ Ls, LaysD bs Ls ∧ f_Runner___init__ [.ins 3 [] [], .s (bookD c bs), .s (.tup (vs.map D.int))] = .ok (.s .non) [runO (bookD c bs) Ls [momD [arN (0, 0)] vs 0 .non] [], .s (bookD c bs), .s (.tup (vs.map D.int))] := by
  obtain ⟨Ls, e', k1, ⟨x, rfl⟩, k3, k4⟩ := lc_rel (vs := [3]) (set := setT [3]) (f := e1_Runner___init__ f_are_contents f_layout_of f_Moment___init__)
    (I := fun e => ∃ x : Option O, e = [some (.ins 3 ["book"] [.s (bookD c bs)]), some (.s (bookD c bs)), some (.s (.tup (vs.map D.int))), x])
    (R := fun d y => ∀ (r : Nat) (b : List Sm), d = .int r → bs[r]? = some b → LayD b y) (G := fun d => ∃ r : Nat, d = .int r ∧ r < bs.length)
    (by
      rintro e d ⟨x, rfl⟩ ⟨r, rfl, hr⟩
      obtain ⟨o, dp, sz⟩ := hb bs[r] (List.getElem_mem hr)
      obtain ⟨G, P, g1, g2⟩ := p_layoutof c bs r bs[r] (List.getElem?_eq_getElem hr) hl sz dp
      refine ⟨_, layD ((tabB bs[r]).map rowD) ((tabB bs[r]).map rowC) (G.map gD) (P.map arN), _, rfl, ?_, ⟨some (.s (.int r)), rfl⟩, ?_⟩
      · have hd := lay2_d ((tabB bs[r]).map rowD) ((tabB bs[r]).map rowC) (G.map gO) (P.map arN)
        rw [gO_ds] at hd
        rw [← hd]
        unfold e1_Runner___init__
        unfold lay2 at g2 ⊢
        simp [-List.map_map, g2]
      · intro r' b' e1 e2
        have e1 : (r : Int) = r' := by simpa using e1
        have : r = r' := by omega
        subst this
        rw [List.getElem?_eq_getElem hr] at e2
        obtain rfl := Option.some.inj e2
        exact ⟨G, P, g1, rfl⟩) (rngD 0 bs.length) [some (.ins 3 ["book"] [.s (bookD c bs)]), some (.s (bookD c bs)), some (.s (.tup (vs.map D.int))), none] ⟨none, rfl⟩ (fun d hd => by
        rw [rngD_r] at hd
        obtain ⟨i, hi, rfl⟩ := List.mem_map.mp hd
        exact ⟨i, rfl, by have := List.mem_range'_1.mp hi; omega⟩)
  have hrg : ∀ e : Env, rg1K (.ok [.val (.int (bs.length : Int))] e) = .ok ⟨rngD 0 bs.length, none⟩ e := fun e => (rg1_is (by omega) (by omega)).trans (by rw [Int.toNat_natCast])
  have hz : (rngD 0 bs.length).length ≤ 16777216 := by rw [rngD_len]; omega
  have e1 := p_contents c bs vs hv hc
  have e2 : f_Moment___init__ [.ins 2 [] [], .s (.tup [.tup [.int 0, .int 0]]), .s (.tup (vs.map D.int)), .s (.int 0), .s .non] = .ok (.s .non) [.ins 2 ["frames", "amounts", "saids", "along"] [.s (.tup [.tup [.int 0, .int 0]]), .s (.tup (vs.map D.int)), .s (.int 0), .s .non], .s (.tup [.tup [.int 0, .int 0]]), .s (.tup (vs.map D.int)), .s (.int 0), .s .non] := p_moment [arN (0, 0)] vs 0 .non
  refine ⟨Ls, fun r b hr => ?_, ?_⟩
  · have hlt := (List.getElem?_eq_some_iff.mp hr).1
    obtain ⟨y, y1, y2⟩ := k4 r (.int r) (by rw [rngD_r, List.getElem?_map, List.getElem?_range' hlt]; simp)
    exact ⟨y, y1, y2 r b rfl hr⟩
  · have r0 : arN (0, 0) = .tup [.int 0, .int 0] := rfl
    rw [r0]
    unfold f_Runner___init__ b_Runner___init__ runO momD
    unfold bookD at k1 e1 ⊢
    simp [-List.map_map, e1, e2, hrg, hz, k1]
end L3
namespace L3
open PySem L2
def isFin : It → Bool | .fin => true | _ => false
def isCall : It → Bool | .sm (.call _) => true | _ => false
def isSay : It → Bool | .sm (.say _) => true | _ => false
def isSet : It → Bool | .sm (.set _ _) => true | _ => false
def isTst : It → Bool | .sm (.ifs _ _ _ _ _) => true | .sm (.wh _ _ _ _) => true | _ => false
def hd0 : It → Str
  | .sm (.set _ _) => "set"
  | .sm (.say _) => "say"
  | .sm (.call _) => "call"
  | .sm (.ifs k _ _ _ _) => if k = true then "less" else "same"
  | .sm (.wh k _ _ _) => if k = true then "less" else "same"
  | .beg => "b"
  | .join => "j"
  | .fin => "e"
@[simp] theorem ix_end : gIx (.val (.str (Str.ofString "end"))) (.val (.int 0)) = some (.val (.str (Str.ofString "e"))) := sok_ix _ _ (by decide +kernel) (by decide +kernel)
@[simp] theorem sok_b : PyData.strOk (Str.ofString "b") = true := by decide +kernel
@[simp] theorem sok_j : PyData.strOk (Str.ofString "j") = true := by decide +kernel
@[simp] theorem sok_e : PyData.strOk (Str.ofString "e") = true := by decide +kernel
theorem p_hd0 (h : It) : gIx (.val (dgD h)) (.val (.int 0)) = some (.val (.str (hd0 h))) := by
  cases h with
  | sm s =>
    cases s with
    | ifs k l m a b => simp [dgD, tstD, hd0, atI, ixN]
    | wh k l m b => simp [dgD, tstD, hd0, atI, ixN]
    | _ => simp [dgD, Sm.enc, hd0, atI, ixN]
  | beg => simp [dgD, hd0]
  | join => simp [dgD, hd0]
  | fin => simp [dgD, hd0]
theorem eq_w (h : It) (s : Str) (hs : PyData.strOk s = true) : gEq (.val (.str (hd0 h))) (.val (.str s)) = some (.val (.bl (decide (hd0 h = s)))) := by
  have : PyData.strOk (hd0 h) = true := by
    cases h with
    | sm s =>
      cases s with
      | ifs k l m a b => cases k <;> simp [hd0]
      | wh k l m b => cases k <;> simp [hd0]
      | _ => simp [hd0]
    | _ => simp [hd0]
  exact ev_eqS this hs
theorem ne_b1 : (Str.ofString "b" = Str.ofString "call") = False := eq_false (by decide +kernel)
theorem ne_b2 : (Str.ofString "b" = Str.ofString "say") = False := eq_false (by decide +kernel)
theorem ne_b3 : (Str.ofString "b" = Str.ofString "set") = False := eq_false (by decide +kernel)
theorem ne_j1 : (Str.ofString "j" = Str.ofString "call") = False := eq_false (by decide +kernel)
theorem ne_j2 : (Str.ofString "j" = Str.ofString "say") = False := eq_false (by decide +kernel)
theorem ne_j3 : (Str.ofString "j" = Str.ofString "set") = False := eq_false (by decide +kernel)
theorem ne_e1 : (Str.ofString "e" = Str.ofString "call") = False := eq_false (by decide +kernel)
theorem ne_e2 : (Str.ofString "e" = Str.ofString "say") = False := eq_false (by decide +kernel)
theorem ne_e3 : (Str.ofString "e" = Str.ofString "set") = False := eq_false (by decide +kernel)
theorem hd0_call (h : It) : decide (hd0 h = "call") = isCall h := by
  cases h with
  | sm s =>
    cases s with
    | ifs k l m a b => cases k <;> simp [hd0, isCall]
    | wh k l m b => cases k <;> simp [hd0, isCall]
    | _ => simp [hd0, isCall]
  | _ => simp [hd0, isCall, ne_b1, ne_j1, ne_e1]
theorem hd0_say (h : It) : decide (hd0 h = "say") = isSay h := by
  cases h with
  | sm s =>
    cases s with
    | ifs k l m a b => cases k <;> simp [hd0, isSay]
    | wh k l m b => cases k <;> simp [hd0, isSay]
    | _ => simp [hd0, isSay]
  | _ => simp [hd0, isSay, ne_b2, ne_j2, ne_e2]
theorem hd0_set (h : It) : decide (hd0 h = "set") = isSet h := by
  cases h with
  | sm s =>
    cases s with
    | ifs k l m a b => cases k <;> simp [hd0, isSet]
    | wh k l m b => cases k <;> simp [hd0, isSet]
    | _ => simp [hd0, isSet]
  | _ => simp [hd0, isSet, ne_b3, ne_j3, ne_e3]
theorem eq_call (h : It) : gEq (.val (.str (hd0 h))) (.val (.str "call")) = some (.val (.bl (isCall h))) := by rw [eq_w h _ (by simp), hd0_call]
theorem eq_say (h : It) : gEq (.val (.str (hd0 h))) (.val (.str "say")) = some (.val (.bl (isSay h))) := by rw [eq_w h _ (by simp), hd0_say]
theorem eq_set (h : It) : gEq (.val (.str (hd0 h))) (.val (.str "set")) = some (.val (.bl (isSet h))) := by rw [eq_w h _ (by simp), hd0_set]
@[simp] theorem in_ls8 : gIn false (.val (.str (Str.ofString "e"))) (.val (.tup [.str (Str.ofString "less"), .str (Str.ofString "same")])) = some (.val (.bl false)) := Eq.trans rfl rfl
theorem in_test (h : It) : gIn false (.val (.str (hd0 h))) (.val (.tup [.str "less", .str "same"])) = some (.val (.bl (isTst h))) := by
  cases h with
  | sm s =>
    cases s with
    | ifs k l m a b => cases k <;> simp [hd0, isTst]
    | wh k l m b => cases k <;> simp [hd0, isTst]
    | _ => simp [hd0, isTst]
  | _ => simp [hd0, isTst]
theorem eq_fin (h : It) : gEq (.val (dgD h)) (.val (.str "end")) = some (.val (.bl (isFin h))) := by
  cases h with
  | sm s =>
    cases s with
    | ifs k l m a b => exact tst_end k l m (by simp)
    | wh k l m b => exact tst_end k l m (by simp)
    | set x l =>
      rw [show dgD (.sm (.set x l)) = .tup [.str "set", .int x, .tup (l.map D.int)] from by simp [dgD, Sm.enc]]
      exact enc_set_s x l (by simp)
    | say l =>
      rw [show dgD (.sm (.say l)) = .tup [.str "say", .tup (l.map D.int)] from by simp [dgD, Sm.enc]]
      exact enc_say_s l (by simp)
    | call x =>
      rw [show dgD (.sm (.call x)) = .tup [.str "call", .int x] from by simp [dgD, Sm.enc]]
      exact enc_call_s x (by simp)
  | _ => simp [dgD, isFin]
section
variable {bk : D} {Ls ms : List D} {told : List Int} {vs : List Int} {sd : Nat} {al m : D} {e : Env}
theorem run_rt {i : Nat} : (runO bk Ls ms told).rt i = .bor i [] (runO bk Ls ms told) := rfl
theorem run_mo {x : Nat} {p : List Stp} : gAttr [3] "moments" (.bor x p (runO bk Ls ms told)) = some (.bor x (p ++ [.attr "moments"]) (.lst (ms.map O.s))) := by unfold runO; simp [-List.map_map]
theorem run_la {x : Nat} {p : List Stp} : gAttr [3] "layouts" (.bor x p (runO bk Ls ms told)) = some (.bor x (p ++ [.attr "layouts"]) (.lst (Ls.map O.s))) := by unfold runO; simp [-List.map_map]
theorem run_to {x : Nat} {p : List Stp} : gAttr [3] "told" (.bor x p (runO bk Ls ms told)) = some (.bor x (p ++ [.attr "told"]) (.lst ((told.map D.int).map O.s))) := by unfold runO; simp [-List.map_map]
theorem run_st {x : Nat} {p : List Stp} : gAttr [3] "stops" (.bor x p (runO bk Ls ms told)) = some (.bor x (p ++ [.attr "stops"]) (.dt [] [])) := by unfold runO; simp [-List.map_map]
theorem run_smo : setAt [.attr "moments"] (runO bk Ls ms told) (.lst (ms.map O.s ++ [.s m])) = some (runO bk Ls (ms ++ [m]) told) := by unfold runO; simp [-List.map_map]
theorem run_sto {i : Int} : setAt [.attr "told"] (runO bk Ls ms told) (.lst ((told.map D.int).map O.s ++ [.s (.int i)])) = some (runO bk Ls ms (told ++ [i])) := by unfold runO; simp [-List.map_map]
theorem mom_fr {fr : List D} : gAttr [2] "frames" (.val (momD fr vs sd al)) = some (.val (.tup fr)) := by unfold momD; simp [-List.map_map]
theorem mom_am {fr : List D} : gAttr [2] "amounts" (.val (momD fr vs sd al)) = some (.val (.tup (vs.map D.int))) := by unfold momD; simp [-List.map_map]
theorem run_n (mn : Str) (h : lk ["book", "layouts", "moments", "told", "stops"] ([.s bk, .lst (Ls.map O.s), .lst (ms.map O.s), .lst ((told.map D.int).map O.s), .dt [] []] : List O) mn = none) : hasNo [3] mn (some (runO bk Ls ms told) :: e) (.sl 0) = true := by
  show (decide ((3 : Nat) ∈ [3]) && (lk ["book", "layouts", "moments", "told", "stops"] ([.s bk, .lst (Ls.map O.s), .lst (ms.map O.s), .lst ((told.map D.int).map O.s), .dt [] []] : List O) mn).isNone) = true
  rw [h]
  rfl
theorem n_now : hasNo [3] "now" (some (runO bk Ls ms told) :: e) (.sl 0) = true := run_n _ (by simp)
theorem n_deed : hasNo [3] "deed_now" (some (runO bk Ls ms told) :: e) (.sl 0) = true := run_n _ (by simp)
theorem n_word : hasNo [3] "word" (some (runO bk Ls ms told) :: e) (.sl 0) = true := run_n _ (by simp)
theorem n_gone : hasNo [3] "gone" (some (runO bk Ls ms told) :: e) (.sl 0) = true := run_n _ (by simp)
theorem n_moved : hasNo [3] "moved" (some (runO bk Ls ms told) :: e) (.sl 0) = true := run_n _ (by simp)
theorem n_step : hasNo [3] "step" (some (runO bk Ls ms told) :: e) (.sl 0) = true := run_n _ (by simp)
theorem n_isst : hasNo [3] "is_stopped" (some (runO bk Ls ms told) :: e) (.sl 0) = true := run_n _ (by simp)
theorem p_now : f_Runner_now [runO bk Ls (ms ++ [m]) told] = .ok (.s m) [runO bk Ls (ms ++ [m]) told] := by
  have e1 : ixN (ms.length + 1) (-1) = some ms.length := by
    unfold ixN
    rw [if_neg (by decide), if_pos (by omega)]
    exact congrArg some (by omega)
  unfold f_Runner_now b_Runner_now
  simp [-List.map_map, run_rt, run_mo, e1]
theorem p_deed {fr : List (Nat × Nat)} {r p : Nat} {TD TC GD PD : List D} {d : D} (hf : fr.getLast? = some (r, p)) (hL : Ls[r]? = some (layD TD TC GD PD)) (hd : TD[p]? = some d) :
    f_Runner_deed_now [runO bk Ls (ms ++ [momD (fr.map arN) vs sd al]) told] = .ok (.s d) [runO bk Ls (ms ++ [momD (fr.map arN) vs sd al]) told] := by
  have e1 := p_now (bk := bk) (Ls := Ls) (ms := ms) (told := told) (m := momD (fr.map arN) vs sd al)
  have e2 : atI (fr.map arN) (-1) = some (.tup [.int r, .int p]) := at_last (by rw [List.getLast?_map, hf]; rfl)
  have hlt := (List.getElem?_eq_some_iff.mp hL).1
  have e3 : ixN Ls.length (r : Int) = some r := by simp [ixN]; omega
  have e4 : atI TD (p : Int) = some d := atI_nat hd
  have e5 : gAttr [1] "doings" (.val (layD TD TC GD PD)) = some (.val (.lst TD)) := by unfold layD; simp
  unfold f_Runner_deed_now b_Runner_deed_now
  simp [-List.map_map, -ev_hasNo, n_now, e1, mom_fr, e2, run_rt, run_la, e3, hL, e4, e5]
theorem p_word0 : f_Runner_word [runO bk Ls (ms ++ [momD [] vs sd al]) told] = .ok (.s (.str "over")) [runO bk Ls (ms ++ [momD [] vs sd al]) told] := by
  have e1 := p_now (bk := bk) (Ls := Ls) (ms := ms) (told := told) (m := momD [] vs sd al)
  unfold f_Runner_word b_Runner_word
  simp [-List.map_map, -ev_hasNo, n_now, e1, mom_fr]
theorem p_word {fr : List (Nat × Nat)} {r p : Nat} {TC GD PD : List D} {T : List Row} {row : Row} (hf : fr.getLast? = some (r, p)) (hL : Ls[r]? = some (layD (T.map rowD) TC GD PD)) (hd : T[p]? = some row) :
    f_Runner_word [runO bk Ls (ms ++ [momD (fr.map arN) vs sd al]) told] = .ok (.s (.str (if fr.length = 20 ∧ isCall row.hd = true then "fault" else "runs"))) [runO bk Ls (ms ++ [momD (fr.map arN) vs sd al]) told] := by
  have e1 := p_now (bk := bk) (Ls := Ls) (ms := ms) (told := told) (m := momD (fr.map arN) vs sd al)
  have e2 := p_deed (bk := bk) (ms := ms) (told := told) (vs := vs) (sd := sd) (al := al) hf hL (d := dgD row.hd) (by rw [List.getElem?_map, hd]; rfl)
  have e3 := p_hd0 row.hd
  have e4 := eq_call row.hd
  have h0 : ¬ fr = [] := by rintro rfl; simp at hf
  unfold f_Runner_word b_Runner_word
  by_cases h : fr.length = 20
  · have h' : (fr.length : Int) = 20 := by omega
    cases hc : isCall row.hd with
    | true => rw [hc] at e4; simp [-List.map_map, -ev_hasNo, n_now, n_deed, e1, mom_fr, e2, e3, e4, h, h', h0]
    | false => rw [hc] at e4; simp [-List.map_map, -ev_hasNo, n_now, n_deed, e1, mom_fr, e2, e3, e4, h, h', h0]
  · have h' : ¬ (fr.length : Int) = 20 := by omega
    simp [-List.map_map, -ev_hasNo, n_now, n_deed, e1, mom_fr, h, h', h0]
theorem cut_init {α : Type} (xs : List α) (x : α) : cut (xs ++ [x]) none (some (-1)) = xs := by
  unfold cut
  have e1 : HT.sIx (xs ++ [x]).length 0 none = 0 := rfl
  have e2 : HT.sIx (xs ++ [x]).length (xs ++ [x]).length (some (-1)) = xs.length := by
    simp [HT.sIx]
    try omega
  rw [e1, e2]
  simp
theorem p_gone {b : List Sm} {lo : List (Nat × Nat)} {r p w : Nat} {GG : List (List Nat)} {PP : List (Nat × Nat)} {row : Row} (hL : Ls[r]? = some (layD ((tabB b).map rowD) ((tabB b).map rowC) (GG.map gD) (PP.map arN))) (hT : LayT b GG PP (tabB b).length) (hr : (tabB b)[p]? = some row) (hw : w < waysI row.hd) (hl : lo.length ≤ 100) :
    ∃ al', f_Runner_gone [runO bk Ls ms told, .s (.tup ((lo ++ [(r, p)]).map arN)), .s (.int w)] = .ok (.s (.tup [.tup ((lo ++ [(r, nxt b p w)]).map arN), al'])) [runO bk Ls ms told, .s (.tup ((lo ++ [(r, p)]).map arN)), .s (.int w)] := by
  obtain ⟨g, j, g1, g2, g3⟩ := hT p row w (List.getElem?_eq_some_iff.mp hr).1 hr hw
  refine ⟨.tup [.int r, .int j], ?_⟩
  have hlt := (List.getElem?_eq_some_iff.mp hL).1
  have e1 : ixN Ls.length (r : Int) = some r := by simp [ixN]; omega
  have e2 : atI ((lo ++ [(r, p)]).map arN) (-1) = some (.tup [.int r, .int p]) := at_last (by rw [List.getLast?_map, List.getLast?_append]; rfl)
  have e3 : gAttr [1] "goers" (.val (layD ((tabB b).map rowD) ((tabB b).map rowC) (GG.map gD) (PP.map arN))) = some (.val (.lst (GG.map gD))) := by unfold layD; simp [-List.map_map]
  have e4 : gAttr [1] "arrow_pairs" (.val (layD ((tabB b).map rowD) ((tabB b).map rowC) (GG.map gD) (PP.map arN))) = some (.val (.lst (PP.map arN))) := by unfold layD; simp [-List.map_map]
  have e5 : atI (GG.map gD) (p : Int) = some (.lst (g.map fun (j : Nat) => D.int j)) := atI_nat (by rw [List.getElem?_map, g1]; rfl)
  have e6 : atI (g.map fun (j : Nat) => D.int j) (w : Int) = some (.int j) := atI_nat (by rw [List.getElem?_map, g2]; rfl)
  have e7 : atI (PP.map arN) (j : Int) = some (.tup [.int p, .int (nxt b p w)]) := atI_nat (by rw [List.getElem?_map, g3]; rfl)
  have e8 : atI [D.int p, .int (nxt b p w)] 1 = some (.int (nxt b p w)) := by simp [atI, ixN]
  have e9 : cut ((lo ++ [(r, p)]).map arN) none (some (-1)) = lo.map arN := by rw [List.map_append]; exact cut_init _ _
  have e10 : (lo ++ [(r, nxt b p w)]).map arN = lo.map arN ++ [.tup [.int r, .int (nxt b p w)]] := by rw [List.map_append]; rfl
  have e11 : lo.length ≤ 16777215 := by omega
  rw [e10]
  generalize layD ((tabB b).map rowD) ((tabB b).map rowC) (GG.map gD) (PP.map arN) = LD at *
  generalize (lo ++ [(r, p)]).map arN = FR at *
  generalize PP.map arN = PD at *
  generalize GG.map gD = GD at *
  generalize (g.map fun (j : Nat) => D.int j) = gs at *
  unfold f_Runner_gone b_Runner_gone
  simp [-List.map_map, e1, e2, run_rt, run_la, e3, e4, e5, e6, e7, e8, e9, e11, hL]
end
end L3
namespace L3
open PySem L2
theorem cut_to {α : Type} (xs : List α) (x : Nat) (h : x ≤ xs.length) : cut xs none (some (x : Int)) = xs.take x := by
  unfold cut
  have e1 : HT.sIx xs.length 0 none = 0 := rfl
  have e2 : HT.sIx xs.length xs.length (some (x : Int)) = x := by rw [HT.sIx_nat]; exact Nat.min_eq_left h
  rw [e1, e2]
  simp
theorem cut_from {α : Type} (xs : List α) (x : Nat) (h : x ≤ xs.length) : cut xs (some (x : Int)) none = xs.drop x := by
  unfold cut
  have e1 : HT.sIx xs.length xs.length none = xs.length := rfl
  have e2 : HT.sIx xs.length 0 (some (x : Int)) = x := by rw [HT.sIx_nat]; exact Nat.min_eq_left h
  rw [e1, e2]
  rw [List.take_of_length_le (by rw [List.length_drop]; omega)]
theorem cut_set {α : Type} (xs : List α) (x : Nat) (v : α) (h : x < xs.length) : cut xs none (some (x : Int)) ++ ([v] ++ cut xs (some ((x : Int) + 1)) none) = xs.set x v := by
  rw [cut_to xs x (by omega), show ((x : Int) + 1) = ((x + 1 : Nat) : Int) from by omega, cut_from xs (x + 1) (by omega), List.set_eq_take_append_cons_drop, if_pos h]
  rfl
section
variable {bk : D} {Ls ms : List D} {told : List Int} {vs : List Int} {sd : Nat} {al m : D} {e : Env}
theorem p_mov_end0 {r p : Nat} {T : List Row} {TC GD PD : List D} {row : Row} (hL : Ls[r]? = some (layD (T.map rowD) TC GD PD)) (hd : T[p]? = some row) (hf : row.hd = .fin) :
    f_Runner_moved [runO bk Ls (ms ++ [momD ([(r, p)].map arN) vs sd al]) told, .s (.tup (vs.map D.int))] = .ok (.s (.tup [.tup [], .non])) [runO bk Ls (ms ++ [momD ([(r, p)].map arN) vs sd al]) told, .s (.tup (vs.map D.int))] := by
  have e1 := p_now (bk := bk) (Ls := Ls) (ms := ms) (told := told) (m := momD ([(r, p)].map arN) vs sd al)
  have e2 := p_deed (bk := bk) (ms := ms) (told := told) (vs := vs) (sd := sd) (al := al) (fr := [(r, p)]) rfl hL (d := dgD row.hd) (by rw [List.getElem?_map, hd]; rfl)
  have e4 := eq_fin row.hd
  rw [show isFin row.hd = true from by rw [hf]; rfl] at e4
  have hl : ([(r, p)].map arN).length = 1 := rfl
  generalize [(r, p)].map arN = FR at *
  unfold f_Runner_moved b_Runner_moved
  simp [-List.map_map, -ev_hasNo, n_now, n_deed, n_gone, e1, mom_fr, e2, e4, hl]
theorem p_mov_end {b2 : List Sm} {lo : List (Nat × Nat)} {r p r2 p2 : Nat} {GG : List (List Nat)} {PP : List (Nat × Nat)} {T : List Row} {TC GD PD : List D} {row row2 : Row} (hL : Ls[r]? = some (layD (T.map rowD) TC GD PD)) (hd : T[p]? = some row) (hf : row.hd = .fin)
    (hL2 : Ls[r2]? = some (layD ((tabB b2).map rowD) ((tabB b2).map rowC) (GG.map gD) (PP.map arN))) (hT : LayT b2 GG PP (tabB b2).length) (hr : (tabB b2)[p2]? = some row2) (hw : 0 < waysI row2.hd) (hl : lo.length ≤ 100) :
    ∃ al', f_Runner_moved [runO bk Ls (ms ++ [momD (((lo ++ [(r2, p2)]) ++ [(r, p)]).map arN) vs sd al]) told, .s (.tup (vs.map D.int))] = .ok (.s (.tup [.tup ((lo ++ [(r2, nxt b2 p2 0)]).map arN), al'])) [runO bk Ls (ms ++ [momD (((lo ++ [(r2, p2)]) ++ [(r, p)]).map arN) vs sd al]) told, .s (.tup (vs.map D.int))] := by
  have e1 := p_now (bk := bk) (Ls := Ls) (ms := ms) (told := told) (m := momD (((lo ++ [(r2, p2)]) ++ [(r, p)]).map arN) vs sd al)
  have e2 := p_deed (bk := bk) (ms := ms) (told := told) (vs := vs) (sd := sd) (al := al) (fr := (lo ++ [(r2, p2)]) ++ [(r, p)]) (by rw [List.getLast?_append]; rfl) hL (d := dgD row.hd) (by rw [List.getElem?_map, hd]; rfl)
  have e4 := eq_fin row.hd
  rw [show isFin row.hd = true from by rw [hf]; rfl] at e4
  have hl : 1 < ((((lo ++ [(r2, p2)]) ++ [(r, p)]).map arN).length : Int) := by rw [List.length_map, List.length_append, List.length_append, List.length_singleton, List.length_singleton]; omega
  obtain ⟨al', e5⟩ := p_gone (bk := bk) (ms := ms ++ [momD (((lo ++ [(r2, p2)]) ++ [(r, p)]).map arN) vs sd al]) (told := told) (w := 0) hL2 hT hr hw (by omega)
  have e6 : cut (((lo ++ [(r2, p2)]) ++ [(r, p)]).map arN) none (some (-1)) = (lo ++ [(r2, p2)]).map arN := by rw [List.map_append (l₁ := lo ++ [(r2, p2)])]; exact cut_init _ _
  refine ⟨al', ?_⟩
  have e5 : f_Runner_gone [runO bk Ls (ms ++ [momD (((lo ++ [(r2, p2)]) ++ [(r, p)]).map arN) vs sd al]) told, .s (.tup ((lo ++ [(r2, p2)]).map arN)), .s (.int 0)] = .ok (.s (.tup [.tup ((lo ++ [(r2, nxt b2 p2 0)]).map arN), al'])) [runO bk Ls (ms ++ [momD (((lo ++ [(r2, p2)]) ++ [(r, p)]).map arN) vs sd al]) told, .s (.tup ((lo ++ [(r2, p2)]).map arN)), .s (.int 0)] := e5
  generalize ((lo ++ [(r2, p2)]) ++ [(r, p)]).map arN = FR at *
  generalize (lo ++ [(r2, p2)]).map arN = FR2 at *
  generalize (lo ++ [(r2, nxt b2 p2 0)]).map arN = FR3 at *
  unfold f_Runner_moved b_Runner_moved
  simp [-List.map_map, -ev_hasNo, n_now, n_deed, n_gone, e1, mom_fr, e2, e4, e5, e6, hl]
theorem p_mov_call {fr : List (Nat × Nat)} {r p x : Nat} {T : List Row} {TC GD PD : List D} {row : Row} (hf : fr.getLast? = some (r, p)) (hL : Ls[r]? = some (layD (T.map rowD) TC GD PD)) (hd : T[p]? = some row) (hc : row.hd = .sm (.call x)) (hl : fr.length ≤ 100) :
    f_Runner_moved [runO bk Ls (ms ++ [momD (fr.map arN) vs sd al]) told, .s (.tup (vs.map D.int))] = .ok (.s (.tup [.tup ((fr ++ [(x, 0)]).map arN), .non])) [runO bk Ls (ms ++ [momD (fr.map arN) vs sd al]) told, .s (.tup (vs.map D.int))] := by
  have e1 := p_now (bk := bk) (Ls := Ls) (ms := ms) (told := told) (m := momD (fr.map arN) vs sd al)
  have e2 := p_deed (bk := bk) (ms := ms) (told := told) (vs := vs) (sd := sd) (al := al) hf hL (d := dgD row.hd) (by rw [List.getElem?_map, hd]; rfl)
  have e3 := p_hd0 row.hd
  have e4 := eq_fin row.hd
  have e5 := eq_call row.hd
  rw [show isFin row.hd = false from by rw [hc]; rfl] at e4
  rw [show isCall row.hd = true from by rw [hc]; rfl] at e5
  have e6 : gIx (.val (dgD row.hd)) (.val (.int 1)) = some (.val (.int x)) := by rw [hc]; simp [dgD, Sm.enc, atI, ixN]
  have e7 : (fr ++ [(x, 0)]).map arN = fr.map arN ++ [.tup [.int x, .int 0]] := by rw [List.map_append]; rfl
  have hl2 : (fr.map arN).length ≤ 16777215 := by rw [List.length_map]; omega
  rw [e7]
  generalize fr.map arN = FR at *
  generalize dgD row.hd = DD at *
  unfold f_Runner_moved b_Runner_moved
  simp [-List.map_map, -ev_hasNo, n_now, n_deed, n_gone, e1, mom_fr, e2, e3, e4, e5, e6, hl2]
theorem p_mov_test {c : Nat} {b : List Sm} {lo : List (Nat × Nat)} {r p : Nat} {k : Bool} {l l' : List Int} {GG : List (List Nat)} {PP : List (Nat × Nat)} {row : Row} (hL : Ls[r]? = some (layD ((tabB b).map rowD) ((tabB b).map rowC) (GG.map gD) (PP.map arN))) (hT : LayT b GG PP (tabB b).length) (hr : (tabB b)[p]? = some row)
    (ht : isTst row.hd = true) (hd : dgD row.hd = tstD k l l') (h1 : lin c l) (h2 : lin c l') (hv : vs.length = c) (hc : c ≤ 8) (hl : lo.length ≤ 100) :
    ∃ al', f_Runner_moved [runO bk Ls (ms ++ [momD ((lo ++ [(r, p)]).map arN) vs sd al]) told, .s (.tup (vs.map D.int))] = .ok (.s (.tup [.tup ((lo ++ [(r, nxt b p (if tval k l l' vs = true then 0 else 1))]).map arN), al'])) [runO bk Ls (ms ++ [momD ((lo ++ [(r, p)]).map arN) vs sd al]) told, .s (.tup (vs.map D.int))] := by
  have e1 := p_now (bk := bk) (Ls := Ls) (ms := ms) (told := told) (m := momD ((lo ++ [(r, p)]).map arN) vs sd al)
  have e2 := p_deed (bk := bk) (ms := ms) (told := told) (vs := vs) (sd := sd) (al := al) (fr := lo ++ [(r, p)]) (by rw [List.getLast?_append]; rfl) hL (d := dgD row.hd) (by rw [List.getElem?_map, hr]; rfl)
  have e3 := p_hd0 row.hd
  have e4 := eq_fin row.hd
  have e5 := eq_call row.hd
  have e6 := in_test row.hd
  have hw : waysI row.hd = 2 := by
    cases hh : row.hd with
    | sm s => rw [hh] at ht; cases s <;> simp [isTst] at ht <;> rfl
    | _ => rw [hh] at ht; simp [isTst] at ht
  have f1 : isFin row.hd = false := by
    cases hh : row.hd with
    | fin => rw [hh] at ht; simp [isTst] at ht
    | _ => rfl
  have f2 : isCall row.hd = false := by
    cases hh : row.hd with
    | sm s => rw [hh] at ht; cases s <;> simp [isTst] at ht <;> rfl
    | _ => rfl
  rw [f1] at e4
  rw [f2] at e5
  rw [ht] at e6
  have e7 := p_holds k l l' vs h1 h2 hv hc
  rw [hd] at e2 e3 e4
  have hh : ∀ w : Nat, w < 2 → ∃ al', f_Runner_gone [runO bk Ls (ms ++ [momD ((lo ++ [(r, p)]).map arN) vs sd al]) told, .s (.tup ((lo ++ [(r, p)]).map arN)), .s (.int w)] = .ok (.s (.tup [.tup ((lo ++ [(r, nxt b p w)]).map arN), al'])) [runO bk Ls (ms ++ [momD ((lo ++ [(r, p)]).map arN) vs sd al]) told, .s (.tup ((lo ++ [(r, p)]).map arN)), .s (.int w)] := fun w hw2 => p_gone hL hT hr (by rw [hw]; exact hw2) hl
  cases hb : tval k l l' vs with
  | true =>
    rw [hb] at e7
    obtain ⟨al', e8⟩ := hh 0 (by omega)
    refine ⟨al', ?_⟩
    rw [if_pos rfl]
    have e8 : f_Runner_gone [runO bk Ls (ms ++ [momD ((lo ++ [(r, p)]).map arN) vs sd al]) told, .s (.tup ((lo ++ [(r, p)]).map arN)), .s (.int 0)] = .ok (.s (.tup [.tup ((lo ++ [(r, nxt b p 0)]).map arN), al'])) [runO bk Ls (ms ++ [momD ((lo ++ [(r, p)]).map arN) vs sd al]) told, .s (.tup ((lo ++ [(r, p)]).map arN)), .s (.int 0)] := e8
    generalize (lo ++ [(r, p)]).map arN = FR at *
    generalize (lo ++ [(r, nxt b p 0)]).map arN = FR2 at *
    generalize tstD k l l' = DD at *
    unfold f_Runner_moved b_Runner_moved
    simp [-List.map_map, -ev_hasNo, n_now, n_deed, n_gone, e1, mom_fr, e2, e3, e4, e5, e6, e7, e8]
  | false =>
    rw [hb] at e7
    obtain ⟨al', e8⟩ := hh 1 (by omega)
    refine ⟨al', ?_⟩
    rw [if_neg Bool.false_ne_true]
    have e8 : f_Runner_gone [runO bk Ls (ms ++ [momD ((lo ++ [(r, p)]).map arN) vs sd al]) told, .s (.tup ((lo ++ [(r, p)]).map arN)), .s (.int 1)] = .ok (.s (.tup [.tup ((lo ++ [(r, nxt b p 1)]).map arN), al'])) [runO bk Ls (ms ++ [momD ((lo ++ [(r, p)]).map arN) vs sd al]) told, .s (.tup ((lo ++ [(r, p)]).map arN)), .s (.int 1)] := e8
    generalize (lo ++ [(r, p)]).map arN = FR at *
    generalize (lo ++ [(r, nxt b p 1)]).map arN = FR2 at *
    generalize tstD k l l' = DD at *
    unfold f_Runner_moved b_Runner_moved
    simp [-List.map_map, -ev_hasNo, n_now, n_deed, n_gone, e1, mom_fr, e2, e3, e4, e5, e6, e7, e8]
theorem p_mov_plain {b : List Sm} {lo : List (Nat × Nat)} {r p : Nat} {GG : List (List Nat)} {PP : List (Nat × Nat)} {row : Row} (hL : Ls[r]? = some (layD ((tabB b).map rowD) ((tabB b).map rowC) (GG.map gD) (PP.map arN))) (hT : LayT b GG PP (tabB b).length) (hr : (tabB b)[p]? = some row)
    (f1 : isFin row.hd = false) (f2 : isCall row.hd = false) (f3 : isTst row.hd = false) (hl : lo.length ≤ 100) :
    ∃ al', f_Runner_moved [runO bk Ls (ms ++ [momD ((lo ++ [(r, p)]).map arN) vs sd al]) told, .s (.tup (vs.map D.int))] = .ok (.s (.tup [.tup ((lo ++ [(r, nxt b p 0)]).map arN), al'])) [runO bk Ls (ms ++ [momD ((lo ++ [(r, p)]).map arN) vs sd al]) told, .s (.tup (vs.map D.int))] := by
  have e1 := p_now (bk := bk) (Ls := Ls) (ms := ms) (told := told) (m := momD ((lo ++ [(r, p)]).map arN) vs sd al)
  have e2 := p_deed (bk := bk) (ms := ms) (told := told) (vs := vs) (sd := sd) (al := al) (fr := lo ++ [(r, p)]) (by rw [List.getLast?_append]; rfl) hL (d := dgD row.hd) (by rw [List.getElem?_map, hr]; rfl)
  have e3 := p_hd0 row.hd
  have e4 := eq_fin row.hd
  have e5 := eq_call row.hd
  have e6 := in_test row.hd
  have hw : waysI row.hd = 1 := by
    cases hh : row.hd with
    | sm s => rw [hh] at f3; cases s <;> simp [isTst] at f3 <;> rfl
    | fin => rw [hh] at f1; simp [isFin] at f1
    | _ => rfl
  rw [f1] at e4
  rw [f2] at e5
  rw [f3] at e6
  obtain ⟨al', e8⟩ := p_gone (bk := bk) (ms := ms ++ [momD ((lo ++ [(r, p)]).map arN) vs sd al]) (told := told) (w := 0) hL hT hr (by rw [hw]; omega) hl
  refine ⟨al', ?_⟩
  have e8 : f_Runner_gone [runO bk Ls (ms ++ [momD ((lo ++ [(r, p)]).map arN) vs sd al]) told, .s (.tup ((lo ++ [(r, p)]).map arN)), .s (.int 0)] = .ok (.s (.tup [.tup ((lo ++ [(r, nxt b p 0)]).map arN), al'])) [runO bk Ls (ms ++ [momD ((lo ++ [(r, p)]).map arN) vs sd al]) told, .s (.tup ((lo ++ [(r, p)]).map arN)), .s (.int 0)] := e8
  generalize (lo ++ [(r, p)]).map arN = FR at *
  generalize (lo ++ [(r, nxt b p 0)]).map arN = FR2 at *
  generalize dgD row.hd = DD at *
  unfold f_Runner_moved b_Runner_moved
  simp [-List.map_map, -ev_hasNo, n_now, n_deed, n_gone, e1, mom_fr, e2, e3, e4, e5, e6, e8]
theorem p_step_plain {fr : List (Nat × Nat)} {r p : Nat} {FR' : List D} {al' : D} {TC GD PD : List D} {T : List Row} {row : Row} (hf : fr.getLast? = some (r, p)) (hL : Ls[r]? = some (layD (T.map rowD) TC GD PD)) (hd : T[p]? = some row) (hn : ¬ (fr.length = 20 ∧ isCall row.hd = true)) (h1 : isSay row.hd = false) (h2 : isSet row.hd = false) (hm : ms.length < 10000)
    (hM : f_Runner_moved [runO bk Ls (ms ++ [momD (fr.map arN) vs sd al]) told, .s (.tup (vs.map D.int))] = .ok (.s (.tup [.tup FR', al'])) [runO bk Ls (ms ++ [momD (fr.map arN) vs sd al]) told, .s (.tup (vs.map D.int))]) :
    f_Runner_step [runO bk Ls (ms ++ [momD (fr.map arN) vs sd al]) told] = .ok (.s .non) [runO bk Ls ((ms ++ [momD (fr.map arN) vs sd al]) ++ [momD FR' vs told.length al']) told] := by
  have e1 := p_now (bk := bk) (Ls := Ls) (ms := ms) (told := told) (m := momD (fr.map arN) vs sd al)
  have e2 := p_deed (bk := bk) (ms := ms) (told := told) (vs := vs) (sd := sd) (al := al) hf hL (d := dgD row.hd) (by rw [List.getElem?_map, hd]; rfl)
  have e3 := p_hd0 row.hd
  have e4 := eq_say row.hd
  have e5 := eq_set row.hd
  have e6 := p_word (bk := bk) (ms := ms) (told := told) (vs := vs) (sd := sd) (al := al) hf hL hd
  rw [if_neg hn] at e6
  rw [h1] at e4
  rw [h2] at e5
  have e7 := p_moment FR' vs told.length al'
  have e8 : (ms ++ [momD (fr.map arN) vs sd al]).length < 16777216 := by rw [List.length_append, List.length_singleton]; omega
  have e9 : (O.ins 2 ["frames", "amounts", "saids", "along"] [.s (.tup FR'), .s (.tup (vs.map D.int)), .s (.int told.length), .s al']).d = momD FR' vs told.length al' := by unfold momD; simp
  have e10 : (O.ins 2 ["frames", "amounts", "saids", "along"] [.s (.tup FR'), .s (.tup (vs.map D.int)), .s (.int told.length), .s al']).rr = .own (O.ins 2 ["frames", "amounts", "saids", "along"] [.s (.tup FR'), .s (.tup (vs.map D.int)), .s (.int told.length), .s al']) := rfl
  have hma := mom_am (vs := vs) (sd := sd) (al := al) (fr := fr.map arN)
  generalize momD (fr.map arN) vs sd al = M at *
  generalize momD FR' vs told.length al' = M' at *
  generalize dgD row.hd = DD at *
  generalize ms ++ [M] = MS at *
  generalize O.ins 2 ["frames", "amounts", "saids", "along"] [.s (.tup FR'), .s (.tup (vs.map D.int)), .s (.int told.length), .s al'] = MO at *
  unfold f_Runner_step b_Runner_step
  simp [-List.map_map, -ev_hasNo, n_now, n_deed, n_word, n_moved, e1, hma, e2, e3, e4, e5, e6, e7, e8, e9, e10, hM, run_rt, run_mo, run_to, run_smo]
theorem p_step_say {fr : List (Nat × Nat)} {r p : Nat} {FR' : List D} {al' : D} {TC GD PD : List D} {T : List Row} {row : Row} {c : Nat} {l : List Int} (hf : fr.getLast? = some (r, p)) (hL : Ls[r]? = some (layD (T.map rowD) TC GD PD)) (hd : T[p]? = some row) (hn : ¬ (fr.length = 20 ∧ isCall row.hd = true)) (h1 : row.hd = .sm (.say l)) (hlin : lin c l) (hv : vs.length = c) (hc : c ≤ 8) (hto : told.length < 10000) (hm : ms.length < 10000)
    (hM : f_Runner_moved [runO bk Ls (ms ++ [momD (fr.map arN) vs sd al]) told, .s (.tup (vs.map D.int))] = .ok (.s (.tup [.tup FR', al'])) [runO bk Ls (ms ++ [momD (fr.map arN) vs sd al]) told, .s (.tup (vs.map D.int))]) :
    f_Runner_step [runO bk Ls (ms ++ [momD (fr.map arN) vs sd al]) told] = .ok (.s .non) [runO bk Ls ((ms ++ [momD (fr.map arN) vs sd al]) ++ [momD FR' vs (told ++ [lval l vs]).length al']) (told ++ [lval l vs])] := by
  have e1 := p_now (bk := bk) (Ls := Ls) (ms := ms) (told := told) (m := momD (fr.map arN) vs sd al)
  have e2 := p_deed (bk := bk) (ms := ms) (told := told) (vs := vs) (sd := sd) (al := al) hf hL (d := dgD row.hd) (by rw [List.getElem?_map, hd]; rfl)
  have e3 := p_hd0 row.hd
  have e4 := eq_say row.hd
  have e5 := eq_set row.hd
  have e6 := p_word (bk := bk) (ms := ms) (told := told) (vs := vs) (sd := sd) (al := al) hf hL hd
  rw [if_neg hn] at e6
  rw [show isSay row.hd = true from by rw [h1]; rfl] at e4
  rw [show isSet row.hd = false from by rw [h1]; rfl] at e5
  have f1 := p_value l vs hlin hv hc
  have f2 : gIx (.val (dgD row.hd)) (.val (.int 1)) = some (.val (.tup (l.map D.int))) := by rw [h1]; simp [dgD, Sm.enc, atI, ixN]
  have f3 : told.length < 16777216 := by omega
  have f4 : ((told ++ [lval l vs]).length : Int) = (told.length : Int) + 1 := by rw [List.length_append]; rfl
  have e7 := p_moment FR' vs (told ++ [lval l vs]).length al'
  have e8 : (ms ++ [momD (fr.map arN) vs sd al]).length < 16777216 := by rw [List.length_append, List.length_singleton]; omega
  have e9 : (O.ins 2 ["frames", "amounts", "saids", "along"] [.s (.tup FR'), .s (.tup (vs.map D.int)), .s (.int ((told ++ [lval l vs]).length : Nat)), .s al']).d = momD FR' vs (told ++ [lval l vs]).length al' := by unfold momD; simp
  have e10 : (O.ins 2 ["frames", "amounts", "saids", "along"] [.s (.tup FR'), .s (.tup (vs.map D.int)), .s (.int ((told ++ [lval l vs]).length : Nat)), .s al']).rr = .own (O.ins 2 ["frames", "amounts", "saids", "along"] [.s (.tup FR'), .s (.tup (vs.map D.int)), .s (.int ((told ++ [lval l vs]).length : Nat)), .s al']) := rfl
  have hma := mom_am (vs := vs) (sd := sd) (al := al) (fr := fr.map arN)
  rw [f4] at e7 e9 e10
  generalize momD (fr.map arN) vs sd al = M at *
  generalize momD FR' vs (told ++ [lval l vs]).length al' = M' at *
  generalize dgD row.hd = DD at *
  generalize ms ++ [M] = MS at *
  generalize O.ins 2 ["frames", "amounts", "saids", "along"] [.s (.tup FR'), .s (.tup (vs.map D.int)), .s (.int ((told.length : Int) + 1)), .s al'] = MO at *
  generalize lval l vs = V at *
  unfold f_Runner_step b_Runner_step
  simp [-List.map_map, -ev_hasNo, n_now, n_deed, n_word, n_moved, e1, hma, e2, e3, e4, e5, e6, e7, e8, e9, e10, hM, run_rt, run_mo, run_to, run_smo, run_sto, f1, f2, f3]
theorem p_step_set {fr : List (Nat × Nat)} {r p : Nat} {FR' : List D} {al' : D} {TC GD PD : List D} {T : List Row} {row : Row} {c x : Nat} {l : List Int} (hf : fr.getLast? = some (r, p)) (hL : Ls[r]? = some (layD (T.map rowD) TC GD PD)) (hd : T[p]? = some row) (hn : ¬ (fr.length = 20 ∧ isCall row.hd = true)) (h1 : row.hd = .sm (.set x l)) (hlin : lin c l) (hx : x < c) (hv : vs.length = c) (hc : c ≤ 8) (hm : ms.length < 10000)
    (hM : f_Runner_moved [runO bk Ls (ms ++ [momD (fr.map arN) vs sd al]) told, .s (.tup (vs.map D.int))] = .ok (.s (.tup [.tup FR', al'])) [runO bk Ls (ms ++ [momD (fr.map arN) vs sd al]) told, .s (.tup (vs.map D.int))]) :
    f_Runner_step [runO bk Ls (ms ++ [momD (fr.map arN) vs sd al]) told] = .ok (.s .non) [runO bk Ls ((ms ++ [momD (fr.map arN) vs sd al]) ++ [momD FR' (vs.set x (lval l vs)) told.length al']) told] := by
  have e1 := p_now (bk := bk) (Ls := Ls) (ms := ms) (told := told) (m := momD (fr.map arN) vs sd al)
  have e2 := p_deed (bk := bk) (ms := ms) (told := told) (vs := vs) (sd := sd) (al := al) hf hL (d := dgD row.hd) (by rw [List.getElem?_map, hd]; rfl)
  have e3 := p_hd0 row.hd
  have e4 := eq_say row.hd
  have e5 := eq_set row.hd
  have e6 := p_word (bk := bk) (ms := ms) (told := told) (vs := vs) (sd := sd) (al := al) hf hL hd
  rw [if_neg hn] at e6
  rw [show isSay row.hd = false from by rw [h1]; rfl] at e4
  rw [show isSet row.hd = true from by rw [h1]; rfl] at e5
  have f1 := p_value l vs hlin hv hc
  have f2 : gIx (.val (dgD row.hd)) (.val (.int 1)) = some (.val (.int x)) := by rw [h1]; simp [dgD, Sm.enc, atI, ixN]
  have f3 : gIx (.val (dgD row.hd)) (.val (.int 2)) = some (.val (.tup (l.map D.int))) := by rw [h1]; simp [dgD, Sm.enc, atI, ixN]
  have f4 : cut (vs.map D.int) none (some (x : Int)) ++ .int (lval l vs) :: cut (vs.map D.int) (some ((x : Int) + 1)) none = (vs.set x (lval l vs)).map D.int := by
    rw [List.map_set]
    exact cut_set _ _ _ (by rw [List.length_map]; omega)
  have f5 := cut_len (vs.map D.int) none (some (x : Int))
  have f6 := cut_len (vs.map D.int) (some ((x : Int) + 1)) none
  rw [List.length_map] at f5 f6
  have f7 : (cut (vs.map D.int) none (some (x : Int))).length ≤ 16777215 := by omega
  have f8 : (cut (vs.map D.int) none (some (x : Int))).length + 1 + (cut (vs.map D.int) (some ((x : Int) + 1)) none).length ≤ 16777216 := by omega
  have e7 := p_moment FR' (vs.set x (lval l vs)) told.length al'
  have e8 : (ms ++ [momD (fr.map arN) vs sd al]).length < 16777216 := by rw [List.length_append, List.length_singleton]; omega
  have e9 : (O.ins 2 ["frames", "amounts", "saids", "along"] [.s (.tup FR'), .s (.tup ((vs.set x (lval l vs)).map D.int)), .s (.int told.length), .s al']).d = momD FR' (vs.set x (lval l vs)) told.length al' := by unfold momD; simp
  have e10 : (O.ins 2 ["frames", "amounts", "saids", "along"] [.s (.tup FR'), .s (.tup ((vs.set x (lval l vs)).map D.int)), .s (.int told.length), .s al']).rr = .own (O.ins 2 ["frames", "amounts", "saids", "along"] [.s (.tup FR'), .s (.tup ((vs.set x (lval l vs)).map D.int)), .s (.int told.length), .s al']) := rfl
  have hma := mom_am (vs := vs) (sd := sd) (al := al) (fr := fr.map arN)
  generalize momD (fr.map arN) vs sd al = M at *
  generalize momD FR' (vs.set x (lval l vs)) told.length al' = M' at *
  generalize dgD row.hd = DD at *
  generalize ms ++ [M] = MS at *
  generalize O.ins 2 ["frames", "amounts", "saids", "along"] [.s (.tup FR'), .s (.tup ((vs.set x (lval l vs)).map D.int)), .s (.int told.length), .s al'] = MO at *
  generalize (vs.set x (lval l vs)).map D.int = VS at *
  generalize lval l vs = V at *
  unfold f_Runner_step b_Runner_step
  simp [-List.map_map, -List.map_set, -ev_hasNo, n_now, n_deed, n_word, n_moved, e1, hma, e2, e3, e4, e5, e6, e7, e8, e9, e10, hM, run_rt, run_mo, run_to, run_smo, f1, f2, f3, f4, f7, f8]
end
end L3
namespace L3
open PySem L2
structure LS where
  left : List It
  vals : List Int
  said : List Int
  still : Int
def stepL (bs : List (List Sm)) (s : LS) : LS := match s.left with
  | [] => s
  | .beg :: K => ⟨K, s.vals, s.said, s.still⟩
  | .join :: K => ⟨K, s.vals, s.said, s.still⟩
  | .fin :: K => ⟨K, s.vals, s.said, s.still - 1⟩
  | .sm (.set x l) :: K => ⟨K, s.vals.set x (lval l s.vals), s.said, s.still⟩
  | .sm (.say l) :: K => ⟨K, s.vals, s.said ++ [lval l s.vals], s.still⟩
  | .sm (.call x) :: K => ⟨.beg :: ((bs.getD x []).map It.sm ++ .fin :: K), s.vals, s.said, s.still + 1⟩
  | .sm (.ifs k l m a b) :: K => ⟨(if tval k l m s.vals = true then a else b).map It.sm ++ .join :: K, s.vals, s.said, s.still⟩
  | .sm (.wh k l m b) :: K => ⟨if tval k l m s.vals = true then b.map It.sm ++ .sm (.wh k l m b) :: K else K, s.vals, s.said, s.still⟩
def stuck (s : LS) : Bool := match s.left with
  | .sm (.call _) :: _ => decide (s.still = 20)
  | _ => false
def live (s : LS) : Bool := !s.left.isEmpty && !stuck s
def goL (bs : List (List Sm)) : Nat → LS → LS
  | 0, s => s
  | n + 1, s => if live s = true then goL bs n (stepL bs s) else s
def ItOk (c r : Nat) : It → Prop
  | .sm s => s.ok c r ∧ s.size ≤ 36
  | _ => True
def OkS (c : Nat) (bs : List (List Sm)) (s : LS) : Prop := s.vals.length = c ∧ ∀ it ∈ s.left, ItOk c bs.length it
theorem body_its {c r : Nat} : ∀ {b : List Sm}, Sm.oks c r b → Sm.sizes b ≤ 36 → ∀ it ∈ b.map It.sm, ItOk c r it
  | [], _, _, it, h => by simp at h
  | s :: b, h, hs, it, hi => by
    simp only [Sm.sizes] at hs
    rw [List.map_cons] at hi
    rcases List.mem_cons.mp hi with rfl | hi
    · exact ⟨h.1, by omega⟩
    · exact body_its h.2 (by omega) it hi
theorem OkS.step {c : Nat} {bs : List (List Sm)} {s : LS} (hb : ∀ b ∈ bs, BodyIs c bs.length b) (h : OkS c bs s) : OkS c bs (stepL bs s) := by
  obtain ⟨L, vs, sd, st⟩ := s
  obtain ⟨hv, hi⟩ := h
  cases L with
  | nil => exact ⟨hv, hi⟩
  | cons it K =>
    have hK : ∀ it ∈ K, ItOk c bs.length it := fun x hx => hi x (List.mem_cons_of_mem _ hx)
    have h0 := hi it List.mem_cons_self
    cases it with
    | beg => exact ⟨hv, hK⟩
    | join => exact ⟨hv, hK⟩
    | fin => exact ⟨hv, hK⟩
    | sm s =>
      obtain ⟨ho, hz⟩ := h0
      cases s with
      | set x l => exact ⟨by show (vs.set x _).length = c; rw [List.length_set]; exact hv, hK⟩
      | say l => exact ⟨hv, hK⟩
      | call x =>
        refine ⟨hv, fun it hit => ?_⟩
        rcases List.mem_cons.mp hit with rfl | hit
        · trivial
        rcases List.mem_append.mp hit with hit | hit
        · have hx : x < bs.length := ho
          have hm : bs.getD x [] ∈ bs := by rw [List.getD_eq_getElem?_getD, List.getElem?_eq_getElem hx]; exact List.getElem_mem hx
          exact body_its (hb _ hm).1 (hb _ hm).2.2 it hit
        · rcases List.mem_cons.mp hit with rfl | hit
          · trivial
          · exact hK it hit
      | ifs k l m a b =>
        simp only [Sm.size] at hz
        refine ⟨hv, fun it hit => ?_⟩
        rcases List.mem_append.mp hit with hit | hit
        · by_cases q : tval k l m vs = true
          · rw [if_pos q] at hit; exact body_its ho.2.2.1 (by omega) it hit
          · rw [if_neg q] at hit; exact body_its ho.2.2.2 (by omega) it hit
        · rcases List.mem_cons.mp hit with rfl | hit
          · trivial
          · exact hK it hit
      | wh k l m b =>
        have hz' := hz
        simp only [Sm.size] at hz'
        refine ⟨hv, fun it hit => ?_⟩
        have hit : it ∈ (if tval k l m vs = true then b.map It.sm ++ .sm (.wh k l m b) :: K else K) := hit
        by_cases q : tval k l m vs = true
        · rw [if_pos q] at hit
          rcases List.mem_append.mp hit with hit | hit
          · exact body_its ho.2.2 (by omega) it hit
          · rcases List.mem_cons.mp hit with rfl | hit
            · exact ⟨ho, hz⟩
            · exact hK it hit
        · rw [if_neg q] at hit; exact hK it hit
mutual
theorem lay1_nofin : ∀ (s : Sm) (K : List It) (c : Nat × Nat) (n : Nat), ∀ r ∈ (s.lay1 K c n).1, r.hd ≠ .fin
  | .set x l, K, c, n, r, h => by
    simp only [Sm.lay1, List.mem_singleton] at h
    subst h; simp
  | .say l, K, c, n, r, h => by
    simp only [Sm.lay1, List.mem_singleton] at h
    subst h; simp
  | .call x, K, c, n, r, h => by
    simp only [Sm.lay1, List.mem_singleton] at h
    subst h; simp
  | .ifs k l m a b, K, c, n, r, h => by
    simp only [Sm.lay1] at h
    rcases List.mem_cons.mp h with rfl | h
    · simp
    rcases List.mem_append.mp h with h | h
    · exact lays_nofin a _ _ _ r h
    rcases List.mem_append.mp h with h | h
    · exact lays_nofin b _ _ _ r h
    · obtain rfl := List.mem_singleton.mp h
      simp
  | .wh k l m b, K, c, n, r, h => by
    simp only [Sm.lay1] at h
    rcases List.mem_cons.mp h with rfl | h
    · simp
    · exact lays_nofin b _ _ _ r h
theorem lays_nofin : ∀ (b : List Sm) (K : List It) (c : Nat × Nat) (n : Nat), ∀ r ∈ (Sm.lays b K c n).1, r.hd ≠ .fin
  | [], K, c, n, r, h => by simp [Sm.lays] at h
  | s :: q, K, c, n, r, h => by
    simp only [Sm.lays] at h
    rcases List.mem_append.mp h with h | h
    · exact lay1_nofin s _ _ _ r h
    · exact lays_nofin q _ _ _ r h
end
theorem tab_fin {b : List Sm} {p : Nat} {row : Row} (h : (tabB b)[p]? = some row) (hf : row.hd = .fin) : row.tl = [] := by
  have hm := List.mem_of_getElem? h
  unfold tabB at hm
  rcases List.mem_cons.mp hm with rfl | hm
  · cases hf
  rcases List.mem_append.mp hm with hm | hm
  · exact absurd hf (lays_nofin _ _ _ _ _ hm)
  · obtain rfl := List.mem_singleton.mp hm
    rfl
def RepLow (bs : List (List Sm)) : List (Nat × Nat) → List It → Prop
  | [], X => X = []
  | (r, p) :: lo, X => ∃ b row x Y, bs[r]? = some b ∧ (tabB b)[p]? = some row ∧ row.hd = .sm (.call x) ∧ X = row.tl ++ Y ∧ RepLow bs lo Y
def Rep (bs : List (List Sm)) : List (Nat × Nat) → List It → Prop
  | [], X => X = []
  | (r, p) :: lo, X => ∃ b row Y, bs[r]? = some b ∧ (tabB b)[p]? = some row ∧ X = row.hd :: (row.tl ++ Y) ∧ RepLow bs lo Y
theorem rep_next {bs : List (List Sm)} {r p w : Nat} {b : List Sm} {row : Row} {X Y : List It} {lo : List (Nat × Nat)} (hb : bs[r]? = some b) (hr : (tabB b)[p]? = some row) (hw : wayTo row.hd row.tl w = some X) (hlo : RepLow bs lo Y) : Rep bs ((r, nxt b p w) :: lo) (X ++ Y) := by
  obtain ⟨q, h1, h2, _, _⟩ := nxt_ok b hr hw
  refine ⟨b, q, Y, hb, h1, ?_, hlo⟩
  rw [← h2]
  rfl
section
variable {c : Nat} {bs : List (List Sm)} {bk : D} {Ls : List D}
def RunIs (bs : List (List Sm)) (bk : D) (Ls : List D) (n : Nat) (o : O) (s : LS) : Prop := ∃ (st : List (Nat × Nat)) (ms : List D) (sd : Nat) (al : D), Rep bs st s.left ∧ s.still = st.length ∧ st.length ≤ 20 ∧ ms.length ≤ n ∧ s.said.length ≤ n ∧ o = runO bk Ls (ms ++ [momD (st.reverse.map arN) s.vals sd al]) s.said
theorem last_rev {r p : Nat} {lo : List (Nat × Nat)} : ((r, p) :: lo).reverse.getLast? = some (r, p) := by simp
theorem rev_cons {r p : Nat} {lo : List (Nat × Nat)} : ((r, p) :: lo).reverse = lo.reverse ++ [(r, p)] := by simp
theorem runs_word (hL : LaysD bs Ls) {n : Nat} {o : O} {s : LS} (h : RunIs bs bk Ls n o s) : f_Runner_word [o] = .ok (.s (.str (if s.left.isEmpty = true then "over" else if stuck s = true then "fault" else "runs"))) [o] := by
  obtain ⟨st, ms, sd, al, h1, h2, h3, h4, h5, rfl⟩ := h
  obtain ⟨L, vs, said, still⟩ := s
  cases st with
  | nil =>
    have : L = [] := h1
    subst this
    exact p_word0
  | cons a lo =>
    obtain ⟨r, p⟩ := a
    obtain ⟨b, row, Y, g1, g2, g3, g4⟩ := h1
    obtain ⟨ld, l1, G, P, l2, rfl⟩ := hL r b g1
    have g3 : L = row.hd :: (row.tl ++ Y) := g3
    subst g3
    rw [p_word (fr := ((r, p) :: lo).reverse) last_rev l1 g2]
    have h2 : still = (((r, p) :: lo).length : Int) := h2
    have e : (if ((r, p) :: lo).reverse.length = 20 ∧ isCall row.hd = true then ("fault" : Str) else "runs") = (if stuck ⟨row.hd :: (row.tl ++ Y), vs, said, still⟩ = true then ("fault" : Str) else "runs") := by
      have : (((r, p) :: lo).reverse.length = 20 ∧ isCall row.hd = true) ↔ stuck ⟨row.hd :: (row.tl ++ Y), vs, said, still⟩ = true := by
        rw [List.length_reverse]
        unfold stuck
        cases row.hd with
        | sm s =>
          cases s <;> simp [isCall]
          simp at h2
          omega
        | _ => simp [isCall]
      by_cases q : stuck ⟨row.hd :: (row.tl ++ Y), vs, said, still⟩ = true
      · rw [if_pos q, if_pos (this.mpr q)]
      · rw [if_neg q, if_neg (fun z => q (this.mp z))]
    rw [e]
    rfl
end
end L3
namespace L3
open PySem L2
section
variable {c : Nat} {bs : List (List Sm)} {bk : D} {Ls : List D}
theorem runs_plain {n : Nat} {r p : Nat} {lo st' : List (Nat × Nat)} {b : List Sm} {row : Row} {ms : List D} {sd : Nat} {al al' : D} {vs said : List Int} {X' : List It} {TC GD PD : List D} (hL : Ls[r]? = some (layD ((tabB b).map rowD) TC GD PD)) (hd : (tabB b)[p]? = some row) (hn : ¬ (((r, p) :: lo).length = 20 ∧ isCall row.hd = true))
    (h1 : isSay row.hd = false) (h2 : isSet row.hd = false) (hm : ms.length ≤ n) (hs : said.length ≤ n) (hn2 : n ≤ 5000) (hst : st'.length ≤ 20) (hR : Rep bs st' X')
    (hM : f_Runner_moved [runO bk Ls (ms ++ [momD (((r, p) :: lo).reverse.map arN) vs sd al]) said, .s (.tup (vs.map D.int))] = .ok (.s (.tup [.tup (st'.reverse.map arN), al'])) [runO bk Ls (ms ++ [momD (((r, p) :: lo).reverse.map arN) vs sd al]) said, .s (.tup (vs.map D.int))]) :
    ∃ o', f_Runner_step [runO bk Ls (ms ++ [momD (((r, p) :: lo).reverse.map arN) vs sd al]) said] = .ok (.s .non) [o'] ∧ RunIs bs bk Ls (n + 1) o' ⟨X', vs, said, st'.length⟩ :=
  ⟨_, p_step_plain last_rev hL hd (by rw [List.length_reverse]; exact hn) h1 h2 (by omega) hM, st', ms ++ [momD (((r, p) :: lo).reverse.map arN) vs sd al], said.length, al', hR, rfl, hst, by rw [List.length_append, List.length_singleton]; omega, by show said.length ≤ n + 1; omega, rfl⟩
theorem runs_step (hL : LaysD bs Ls) (hc : c ≤ 8) (hl : bs.length ≤ 5) (hb : ∀ b ∈ bs, BodyIs c bs.length b) {n : Nat} (hn2 : n ≤ 5000) {o : O} {s : LS} (h : RunIs bs bk Ls n o s) (hk : OkS c bs s) (hlive : live s = true) : ∃ o', f_Runner_step [o] = .ok (.s .non) [o'] ∧ RunIs bs bk Ls (n + 1) o' (stepL bs s) := by
  obtain ⟨st, ms, sd, al, h1, h2, h3, h4, h5, rfl⟩ := h
  obtain ⟨L, vs, said, still⟩ := s
  obtain ⟨hv, hi⟩ := hk
  cases st with
  | nil =>
    have : L = [] := h1
    subst this
    simp [live] at hlive
  | cons a lo =>
    obtain ⟨r, p⟩ := a
    obtain ⟨b, row, Y, g1, g2, g3, g4⟩ := h1
    obtain ⟨ld, l1, G, P, l2, rfl⟩ := hL r b g1
    replace g3 : L = row.hd :: (row.tl ++ Y) := g3
    subst g3
    replace h2 : still = (((r, p) :: lo).length : Int) := h2
    have hl3 : lo.length ≤ 100 := by simp only [List.length_cons] at h3; omega
    replace hv : vs.length = c := hv
    replace h4 : ms.length ≤ n := h4
    replace h5 : said.length ≤ n := h5
    have hns : stuck ⟨row.hd :: (row.tl ++ Y), vs, said, still⟩ = false := by simpa [live] using hlive
    have hn : ¬ (((r, p) :: lo).length = 20 ∧ isCall row.hd = true) := by
      rintro ⟨q1, q2⟩
      unfold stuck at hns
      cases hh : row.hd with
      | sm s =>
        rw [hh] at q2 hns
        cases s <;> simp [isCall] at q2
        simp at hns
        rw [q1] at h2
        exact hns h2
      | _ => rw [hh] at q2; simp [isCall] at q2
    obtain ⟨hcm, hdd, tl⟩ := row
    have hi0 := hi hdd List.mem_cons_self
    have rl : lo.reverse.length ≤ 100 := by rw [List.length_reverse]; exact hl3
    -- one way on
    have one : isFin hdd = false → isCall hdd = false → isTst hdd = false → ∃ al', f_Runner_moved [runO bk Ls (ms ++ [momD (((r, p) :: lo).reverse.map arN) vs sd al]) said, .s (.tup (vs.map D.int))] = .ok (.s (.tup [.tup (((r, nxt b p 0) :: lo).reverse.map arN), al'])) [runO bk Ls (ms ++ [momD (((r, p) :: lo).reverse.map arN) vs sd al]) said, .s (.tup (vs.map D.int))] := fun f1 f2 f3 => by
      rw [rev_cons, rev_cons]
      exact p_mov_plain l1 l2 g2 f1 f2 f3 rl
    have fr0 : ∀ q : Nat, (((r, q) :: lo).length : Int) = still := fun q => by rw [h2]; rfl
    have tst : ∀ k l l', isTst hdd = true → dgD hdd = tstD k l l' → lin c l → lin c l' → ∃ al', f_Runner_moved [runO bk Ls (ms ++ [momD (((r, p) :: lo).reverse.map arN) vs sd al]) said, .s (.tup (vs.map D.int))] = .ok (.s (.tup [.tup (((r, nxt b p (if tval k l l' vs = true then 0 else 1)) :: lo).reverse.map arN), al'])) [runO bk Ls (ms ++ [momD (((r, p) :: lo).reverse.map arN) vs sd al]) said, .s (.tup (vs.map D.int))] := fun k l l' f1 f2 f3 f4 => by
      rw [rev_cons, rev_cons]
      exact p_mov_test l1 l2 g2 f1 f2 f3 f4 hv hc rl
    cases hdd with
    | beg =>
      obtain ⟨al', e1⟩ := one rfl rfl rfl
      obtain ⟨o', e2, e3⟩ := runs_plain l1 g2 hn rfl rfl h4 h5 hn2 (by exact h3) (rep_next (X := tl) g1 g2 rfl g4) e1
      exact ⟨o', e2, by rw [fr0] at e3; exact e3⟩
    | join =>
      obtain ⟨al', e1⟩ := one rfl rfl rfl
      obtain ⟨o', e2, e3⟩ := runs_plain l1 g2 hn rfl rfl h4 h5 hn2 (by exact h3) (rep_next (X := tl) g1 g2 rfl g4) e1
      exact ⟨o', e2, by rw [fr0] at e3; exact e3⟩
    | fin =>
      have ht : tl = [] := tab_fin g2 rfl
      subst ht
      cases lo with
      | nil =>
        have g4 : Y = [] := g4
        subst g4
        have e1 := p_mov_end0 (bk := bk) (ms := ms) (told := said) (vs := vs) (sd := sd) (al := al) l1 g2 rfl
        obtain ⟨o', e2, e3⟩ := runs_plain (lo := []) (st' := []) (X' := []) l1 g2 hn rfl rfl h4 h5 hn2 (by simp) rfl e1
        refine ⟨o', e2, ?_⟩
        rw [h2]
        exact e3
      | cons a2 lo2 =>
        obtain ⟨r2, p2⟩ := a2
        obtain ⟨b2, row2, x2, Y2, k1, k2, k3, rfl, k5⟩ := g4
        obtain ⟨ld2, m1, G2, P2, m2, rfl⟩ := hL r2 b2 k1
        have r3 : ((r, p) :: (r2, p2) :: lo2).reverse = (lo2.reverse ++ [(r2, p2)]) ++ [(r, p)] := by simp
        have e1 : ∃ al', f_Runner_moved [runO bk Ls (ms ++ [momD (((r, p) :: (r2, p2) :: lo2).reverse.map arN) vs sd al]) said, .s (.tup (vs.map D.int))] = .ok (.s (.tup [.tup (((r2, nxt b2 p2 0) :: lo2).reverse.map arN), al'])) [runO bk Ls (ms ++ [momD (((r, p) :: (r2, p2) :: lo2).reverse.map arN) vs sd al]) said, .s (.tup (vs.map D.int))] := by
          rw [r3, rev_cons]
          exact p_mov_end l1 g2 rfl m1 m2 k2 (by rw [k3]; exact Nat.one_pos) (by rw [List.length_reverse]; simp only [List.length_cons] at hl3; omega)
        obtain ⟨al', e1⟩ := e1
        obtain ⟨o', e2, e3⟩ := runs_plain l1 g2 hn rfl rfl h4 h5 hn2 (by simp only [List.length_cons] at h3 ⊢; omega) (rep_next (X := row2.tl) k1 k2 (by rw [k3]; rfl) k5) e1
        refine ⟨o', e2, ?_⟩
        have : still - 1 = (((r2, nxt b2 p2 0) :: lo2).length : Int) := by rw [h2]; simp only [List.length_cons]; omega
        rw [← this] at e3
        exact e3
    | sm s =>
      obtain ⟨ho, hz⟩ := hi0
      cases s with
      | set x l =>
        obtain ⟨al', e1⟩ := one rfl rfl rfl
        have e2 := p_step_set (c := c) last_rev l1 g2 (by rw [List.length_reverse]; exact hn) rfl ho.2 ho.1 hv hc (by omega) e1
        exact ⟨_, e2, _, ms ++ [momD (((r, p) :: lo).reverse.map arN) vs sd al], said.length, al', rep_next (X := tl) g1 g2 rfl g4, h2, h3, by rw [List.length_append, List.length_singleton]; omega, by show said.length ≤ n + 1; omega, rfl⟩
      | say l =>
        obtain ⟨al', e1⟩ := one rfl rfl rfl
        have e2 := p_step_say (c := c) last_rev l1 g2 (by rw [List.length_reverse]; exact hn) rfl ho hv hc (by omega) (by omega) e1
        exact ⟨_, e2, _, ms ++ [momD (((r, p) :: lo).reverse.map arN) vs sd al], (said ++ [lval l vs]).length, al', rep_next (X := tl) g1 g2 rfl g4, h2, h3, by rw [List.length_append, List.length_singleton]; omega, by show (said ++ [lval l vs]).length ≤ n + 1; rw [List.length_append, List.length_singleton]; omega, rfl⟩
      | call x =>
        have hx : x < bs.length := ho
        have e1 : f_Runner_moved [runO bk Ls (ms ++ [momD (((r, p) :: lo).reverse.map arN) vs sd al]) said, .s (.tup (vs.map D.int))] = .ok (.s (.tup [.tup (((x, 0) :: (r, p) :: lo).reverse.map arN), .non])) [runO bk Ls (ms ++ [momD (((r, p) :: lo).reverse.map arN) vs sd al]) said, .s (.tup (vs.map D.int))] := by
          rw [rev_cons (r := x)]
          exact p_mov_call last_rev l1 g2 rfl (by rw [List.length_reverse]; omega)
        have hb2 : bs[x]? = some (bs.getD x []) := by rw [List.getD_eq_getElem?_getD, List.getElem?_eq_getElem hx]; rfl
        have h20 : ((r, p) :: lo).length ≠ 20 := fun q => hn ⟨q, rfl⟩
        obtain ⟨o', e2, e3⟩ := runs_plain (bs := bs) (st' := (x, 0) :: (r, p) :: lo) (X' := .beg :: ((bs.getD x []).map It.sm ++ .fin :: (tl ++ Y))) l1 g2 hn rfl rfl h4 h5 hn2 (by simp only [List.length_cons] at h3 h20 ⊢; omega)
          ⟨bs.getD x [], ⟨[], .beg, (bs.getD x []).map It.sm ++ [.fin]⟩, tl ++ Y, hb2, rfl, by simp, b, _, x, Y, g1, g2, rfl, rfl, g4⟩ e1
        refine ⟨o', e2, ?_⟩
        have : still + 1 = (((x, 0) :: (r, p) :: lo).length : Int) := by rw [h2]; simp only [List.length_cons]; omega
        rw [← this] at e3
        exact e3
      | ifs k l m a b' =>
        obtain ⟨al', e1⟩ := tst k l m rfl rfl ho.1 ho.2.1
        cases ht : tval k l m vs with
        | true =>
          rw [ht, if_pos rfl] at e1
          obtain ⟨o', e2, e3⟩ := runs_plain l1 g2 hn rfl rfl h4 h5 hn2 (by exact h3) (rep_next (X := a.map It.sm ++ .join :: tl) g1 g2 rfl g4) e1
          refine ⟨o', e2, ?_⟩
          rw [fr0] at e3
          unfold stepL
          simp only [ht, if_true]
          simpa using e3
        | false =>
          rw [ht, if_neg Bool.false_ne_true] at e1
          obtain ⟨o', e2, e3⟩ := runs_plain l1 g2 hn rfl rfl h4 h5 hn2 (by exact h3) (rep_next (X := b'.map It.sm ++ .join :: tl) g1 g2 rfl g4) e1
          refine ⟨o', e2, ?_⟩
          rw [fr0] at e3
          unfold stepL
          simp only [ht]
          simpa using e3
      | wh k l m b' =>
        obtain ⟨al', e1⟩ := tst k l m rfl rfl ho.1 ho.2.1
        cases ht : tval k l m vs with
        | true =>
          rw [ht, if_pos rfl] at e1
          obtain ⟨o', e2, e3⟩ := runs_plain l1 g2 hn rfl rfl h4 h5 hn2 (by exact h3) (rep_next (X := b'.map It.sm ++ .sm (.wh k l m b') :: tl) g1 g2 rfl g4) e1
          refine ⟨o', e2, ?_⟩
          rw [fr0] at e3
          unfold stepL
          simp only [ht, if_true]
          simpa using e3
        | false =>
          rw [ht, if_neg Bool.false_ne_true] at e1
          obtain ⟨o', e2, e3⟩ := runs_plain l1 g2 hn rfl rfl h4 h5 hn2 (by exact h3) (rep_next (X := tl) g1 g2 rfl g4) e1
          refine ⟨o', e2, ?_⟩
          rw [fr0] at e3
          unfold stepL
          simp only [ht]
          simpa using e3
end
end L3
namespace L3
open PySem L2
section
variable {c : Nat} {bs : List (List Sm)} {bk : D} {Ls : List D}
theorem RunIs.mono {n m : Nat} {o : O} {s : LS} (h : RunIs bs bk Ls n o s) (le : n ≤ m) : RunIs bs bk Ls m o s := by
  obtain ⟨st, ms, sd, al, h1, h2, h3, h4, h5, h6⟩ := h
  exact ⟨st, ms, sd, al, h1, h2, h3, by omega, by omega, h6⟩
theorem RunIs.no {n : Nat} {o : O} {s : LS} (h : RunIs bs bk Ls n o s) : ∃ ms told, o = runO bk Ls ms told := by
  obtain ⟨st, ms, sd, al, h1, h2, h3, h4, h5, h6⟩ := h
  exact ⟨_, _, h6⟩
theorem runs_said {n : Nat} {o : O} {s : LS} (h : RunIs bs bk Ls n o s) : f_Runner_said [o] = .ok (.s (.tup (s.said.map D.int))) [o] := by
  obtain ⟨st, ms, sd, al, h1, h2, h3, h4, h5, rfl⟩ := h
  have e1 : ∀ (x : Nat) (p : List Stp) (ds : List D), gTupleOf [.bor x p (.lst (ds.map O.s))] = some (.val (.tup ds)) := fun x p ds => by
    show (match (leaves (ds.map O.s)).map fun ds => (true, ds) with | some (_, ds) => some (Rt.val (.tup ds)) | _ => none) = _
    rw [leaves_map]
    rfl
  unfold f_Runner_said b_Runner_said
  simp [-List.map_map, run_rt, run_to, e1]
theorem runs_cont {n : Nat} {o : O} {s : LS} (h : RunIs bs bk Ls n o s) : f_Runner_contents [o] = .ok (.s (.tup (s.vals.map D.int))) [o] := by
  obtain ⟨st, ms, sd, al, h1, h2, h3, h4, h5, rfl⟩ := h
  have e1 := p_now (bk := bk) (Ls := Ls) (ms := ms) (told := s.said) (m := momD (st.reverse.map arN) s.vals sd al)
  unfold f_Runner_contents b_Runner_contents
  simp [-List.map_map, -List.map_reverse, -ev_hasNo, n_now, e1, mom_am]
theorem runs_stop {n : Nat} {o : O} {s : LS} (h : RunIs bs bk Ls n o s) : f_Runner_is_stopped [o] = .ok (.s (.bl false)) [o] := by
  obtain ⟨st, ms, sd, al, h1, h2, h3, h4, h5, rfl⟩ := h
  have e1 := p_now (bk := bk) (Ls := Ls) (ms := ms) (told := s.said) (m := momD (st.reverse.map arN) s.vals sd al)
  unfold f_Runner_is_stopped b_Runner_is_stopped
  cases st with
  | nil =>
    have e2 := mom_fr (fr := List.map arN [].reverse) (vs := s.vals) (sd := sd) (al := al)
    have e3 : (List.map arN [].reverse).length = 0 := by simp
    generalize momD (List.map arN [].reverse) s.vals sd al = M at *
    generalize List.map arN [].reverse = FR at *
    simp [-List.map_map, -ev_hasNo, n_now, e1, e2, e3]
  | cons a lo =>
    obtain ⟨r, p⟩ := a
    have e2 : atI (((r, p) :: lo).reverse.map arN) (-1) = some (.tup [.int r, .int p]) := at_last (by rw [List.getLast?_map, last_rev]; rfl)
    have e3 : ∀ (x : Nat) (q : List Stp), gInDT (.val (.tup [.int r, .int p])) (.bor x q (.dt [] [])) = some (.val (.bl false)) := fun x q => rfl
    have e4 : (0 : Int) < ((((r, p) :: lo).reverse.map arN).length : Int) := by rw [List.length_map, List.length_reverse, List.length_cons]; omega
    generalize ((r, p) :: lo).reverse.map arN = FR at *
    simp [-List.map_map, -ev_hasNo, -ev_inDT, n_now, e1, mom_fr, e2, e3, e4, run_rt, run_st]
theorem goL_dead {n : Nat} {s : LS} (h : live s = false) : goL bs n s = s := by
  cases n with
  | zero => rfl
  | succ n => unfold goL; rw [h]; rfl
theorem runs_go (hL : LaysD bs Ls) (hc : c ≤ 8) (hl : bs.length ≤ 5) (hb : ∀ b ∈ bs, BodyIs c bs.length b) {most : Nat} (hmost : most ≤ 5000) {o : O} {s : LS} (h : RunIs bs bk Ls 0 o s) (hk : OkS c bs s) :
    ∃ (o' : O) (k : Nat), f_Runner_go [o, .s (.int most)] = .ok (.s (.int k)) [o', .s (.int most)] ∧ RunIs bs bk Ls most o' (goL bs most s) := by
  have hw := while_inv (t := e1_Runner_go f_check_number f_Runner_word f_Runner_is_stopped f_Runner_step) (g := e2_Runner_go f_check_number f_Runner_word f_Runner_is_stopped f_Runner_step)
    (I := fun n e => ∃ (done : Nat) (o : O) (s' : LS), n = most - done ∧ done ≤ most ∧ RunIs bs bk Ls done o s' ∧ OkS c bs s' ∧ goL bs (most - done) s' = goL bs most s ∧ e = [some o, some (.s (.int most)), some (.s (.int done))])
    (R := fun e => ∃ (done : Nat) (o : O), RunIs bs bk Ls most o (goL bs most s) ∧ e = [some o, some (.s (.int most)), some (.s (.int done))]) (S := fun _ _ => False)
    (by
      rintro n e ⟨done, o, s', rfl, h1, h2, h3, h4, rfl⟩
      obtain ⟨ms, told, ho⟩ := h2.no
      have w1 := runs_word hL h2
      have w2 := runs_stop h2
      have k1 : ∀ e, hasNo [3] "word" (some o :: e) (.sl 0) = true := fun e => by rw [ho]; exact n_word
      have k2 : ∀ e, hasNo [3] "is_stopped" (some o :: e) (.sl 0) = true := fun e => by rw [ho]; exact n_isst
      have k3 : ∀ e, hasNo [3] "step" (some o :: e) (.sl 0) = true := fun e => by rw [ho]; exact n_step
      by_cases hd : done < most
      · have hd' : (done : Int) < (most : Int) := by omega
        cases hv : live s' with
        | false =>
          refine ⟨false, [some o, some (.s (.int most)), some (.s (.int done))], ?_, .inl ⟨rfl, done, o, ?_, rfl⟩⟩
          · unfold e1_Runner_go
            have : (if s'.left.isEmpty = true then ("over" : Str) else if stuck s' = true then "fault" else "runs") = "over" ∨ (if s'.left.isEmpty = true then ("over" : Str) else if stuck s' = true then "fault" else "runs") = "fault" := by
              unfold live at hv
              cases q1 : s'.left.isEmpty <;> cases q2 : stuck s' <;> simp_all
            rcases this with q | q
            · rw [q] at w1
              simp [-List.map_map, -ev_hasNo, k1, k2, k3, w1, w2, hd']
            · rw [q] at w1
              simp [-List.map_map, -ev_hasNo, k1, k2, k3, w1, w2, hd']
          · rw [← h4, goL_dead hv]
            exact h2.mono h1
        | true =>
          have q : (if s'.left.isEmpty = true then ("over" : Str) else if stuck s' = true then "fault" else "runs") = "runs" := by
            unfold live at hv
            cases q1 : s'.left.isEmpty <;> cases q2 : stuck s' <;> simp_all
          rw [q] at w1
          obtain ⟨o', s1, s2⟩ := runs_step hL hc hl hb (by omega) h2 h3 hv
          refine ⟨true, [some o, some (.s (.int most)), some (.s (.int done))], ?_, .inr ⟨rfl, .inl ⟨[some o', some (.s (.int most)), some (.s (.int (done + 1 : Nat)))], most - (done + 1), ?_, by omega, done + 1, o', stepL bs s', rfl, by omega, s2, h3.step hb, ?_, rfl⟩⟩⟩
          · unfold e1_Runner_go
            simp [-List.map_map, -ev_hasNo, k1, k2, k3, w1, w2, hd']
          · unfold e2_Runner_go
            simp [-List.map_map, -ev_hasNo, k1, k2, k3, s1]
          · rw [← h4]
            have : most - done = (most - (done + 1)) + 1 := by omega
            rw [this]
            conv => rhs; unfold goL
            rw [hv]
            rfl
      · have hd' : ¬ (done : Int) < (most : Int) := by omega
        refine ⟨false, [some o, some (.s (.int most)), some (.s (.int done))], ?_, .inl ⟨rfl, done, o, ?_, rfl⟩⟩
        · unfold e1_Runner_go
          simp [-List.map_map, -ev_hasNo, hd']
        · rw [← h4, show most - done = 0 from by omega]
          exact h2.mono h1) most [some o, some (.s (.int most)), some (.s (.int 0))] ⟨0, o, s, by omega, by omega, h, hk, rfl, rfl⟩
  rcases hw with ⟨e', k1, done, o', k2, rfl⟩ | ⟨r, e', _, hf⟩
  · refine ⟨o', done, ?_, k2⟩
    have e1 := p_check most hmost
    unfold f_Runner_go b_Runner_go
    simp [e1, k1]
  · exact hf.elim
theorem run_n3 {ms : List D} {told : List Int} {a b c : Option O} {e : Env} (mn : Str) (h : lk ["book", "layouts", "moments", "told", "stops"] ([.s bk, .lst (Ls.map O.s), .lst (ms.map O.s), .lst ((told.map D.int).map O.s), .dt [] []] : List O) mn = none) : hasNo [3] mn (a :: b :: c :: some (runO bk Ls ms told) :: e) (.sl 3) = true := by
  show (decide ((3 : Nat) ∈ [3]) && (lk ["book", "layouts", "moments", "told", "stops"] ([.s bk, .lst (Ls.map O.s), .lst (ms.map O.s), .lst ((told.map D.int).map O.s), .dt [] []] : List O) mn).isNone) = true
  rw [h]
  rfl
def startL (bs : List (List Sm)) (vs : List Int) : LS := ⟨.beg :: ((bs.getD 0 []).map It.sm ++ [.fin]), vs, [], 1⟩
def wordL (s : LS) : Str := if s.left.isEmpty = true then "over" else if stuck s = true then "fault" else "on"
def tripD (s : LS) : D := .tup [.tup (s.said.map D.int), .str (wordL s), .tup (s.vals.map D.int)]
theorem start_ok {vs : List Int} (hv : vs.length = c) (h0 : 1 ≤ bs.length) (hb : ∀ b ∈ bs, BodyIs c bs.length b) : OkS c bs (startL bs vs) := by
  refine ⟨hv, fun it hit => ?_⟩
  have hm : bs.getD 0 [] ∈ bs := by rw [List.getD_eq_getElem?_getD, List.getElem?_eq_getElem (by omega)]; exact List.getElem_mem (by omega)
  rcases List.mem_cons.mp hit with rfl | hit
  · trivial
  rcases List.mem_append.mp hit with hit | hit
  · exact body_its (hb _ hm).1 (hb _ hm).2.2 it hit
  · obtain rfl := List.mem_singleton.mp hit
    trivial
theorem p_ran {vs : List Int} (hv : vs.length = c) (hc : 1 ≤ c ∧ c ≤ 4) (hl : 1 ≤ bs.length ∧ bs.length ≤ 5) (hb : ∀ b ∈ bs, BodyIs c bs.length b) {most : Nat} (hmost : most ≤ 5000) :
    f_ran [.s (bookD c bs), .s (.tup (vs.map D.int)), .s (.int most)] = .ok (.s (tripD (goL bs most (startL bs vs)))) [.s (bookD c bs), .s (.tup (vs.map D.int)), .s (.int most)] := by
  obtain ⟨Ls, hL, e1⟩ := p_runinit c bs vs hv (by omega) (by omega) hb
  have h0 : RunIs bs (bookD c bs) Ls 0 (runO (bookD c bs) Ls [momD [arN (0, 0)] vs 0 .non] []) (startL bs vs) :=
    ⟨[(0, 0)], [], 0, .non, ⟨bs.getD 0 [], ⟨[], .beg, (bs.getD 0 []).map It.sm ++ [.fin]⟩, [], by rw [List.getD_eq_getElem?_getD, List.getElem?_eq_getElem (by omega)]; rfl, rfl, by rw [List.append_nil]; rfl, rfl⟩, rfl, by simp, by simp, by simp [startL], rfl⟩
  obtain ⟨o', k, e2, h1⟩ := runs_go hL (by omega) hl.2 hb hmost h0 (start_ok hv hl.1 hb)
  have e3 := runs_word hL h1
  have e4 := runs_said h1
  have e5 := runs_cont h1
  obtain ⟨ms, told, ho⟩ := h1.no
  have k0 : ∀ x y z rest, hasNo [3] "go" (x :: y :: z :: some (runO (bookD c bs) Ls [momD [arN (0, 0)] vs 0 .non] []) :: rest) (.sl 3) = true := fun x y z rest => run_n3 _ (by simp)
  have k1 : ∀ a b c rest, hasNo [3] "word" (a :: b :: c :: some o' :: rest) (.sl 3) = true := fun a b c rest => by rw [ho]; exact run_n3 _ (by simp)
  have k2 : ∀ a b c rest, hasNo [3] "said" (a :: b :: c :: some o' :: rest) (.sl 3) = true := fun a b c rest => by rw [ho]; exact run_n3 _ (by simp)
  have k3 : ∀ a b c rest, hasNo [3] "contents" (a :: b :: c :: some o' :: rest) (.sl 3) = true := fun a b c rest => by rw [ho]; exact run_n3 _ (by simp)
  have k4 : (runO (bookD c bs) Ls [momD [arN (0, 0)] vs 0 .non] []).rr = .own (runO (bookD c bs) Ls [momD [arN (0, 0)] vs 0 .non] []) := rfl
  unfold tripD wordL
  generalize goL bs most (startL bs vs) = s at *
  generalize runO (bookD c bs) Ls [momD [arN (0, 0)] vs 0 .non] [] = o0 at *
  clear h0 h1 ho
  unfold f_ran b_ran
  cases q1 : s.left.isEmpty with
  | true =>
    rw [q1, if_pos rfl] at e3
    simp [-List.map_map, -ev_hasNo, e1, e2, e3, e4, e5, k0, k1, k2, k3, k4]
  | false =>
    rw [q1, if_neg Bool.false_ne_true] at e3
    cases q2 : stuck s with
    | true =>
      rw [q2, if_pos rfl] at e3
      simp [-List.map_map, -ev_hasNo, e1, e2, e3, e4, e5, k0, k1, k2, k3, k4]
    | false =>
      rw [q2, if_neg Bool.false_ne_true] at e3
      simp [-List.map_map, -ev_hasNo, e1, e2, e3, e4, e5, k0, k1, k2, k3, k4]
end
end L3
namespace L3
open PySem L2
noncomputable def rn1 : MS := (msSet 8 (m2 gIx [] (mVar 7) (m1 gNeg (mC (.int 1)))))
noncomputable def rn2 : MS := (msIf (tmAnd (mTest (m2 gEq [] (m2 gIx [] (mVar 8) (mC (.int 0))) (mC (.str "call")))) (mTest (m2 gEq [] (mVar 6) (mC (.int 20))))) (msRet (mN gTup (mCons [] (mN gTupleOf (mCons [] (mVar 4) mNil)) (mCons [] (mC (.str "fault")) (mCons [] (mN gTupleOf (mCons [] (mVar 3) mNil)) mNil))))) msNil)
noncomputable def rn3 : MS := (msExpr (mPop [7] (mVar 7)))
noncomputable def rn4 : MS := (msSet 5 (m2 gAdd [] (mVar 5) (mC (.int 1))))
noncomputable def rn5 : MS := (msIf (mTest (m2 gEq [] (m2 gIx [] (mVar 8) (mC (.int 0))) (mC (.str "set")))) (msSetIx [3] [] [] (mRo 2 f__law_value (mCons [] (m2 gIx [] (mVar 8) (mC (.int 2))) (mCons [] (mVar 3) mNil))) (mVar 3) (m2 gIx [] (mVar 8) (mC (.int 1)))) (msIf (mTest (m2 gEq [] (m2 gIx [] (mVar 8) (mC (.int 0))) (mC (.str "say")))) (msExpr (mAppend [4] [] (mVar 4) (mRo 2 f__law_value (mCons [] (m2 gIx [] (mVar 8) (mC (.int 1))) (mCons [] (mVar 3) mNil))))) (msIf (mTest (m2 gEq [] (m2 gIx [] (mVar 8) (mC (.int 0))) (mC (.str "call")))) (msSeq (msSet 6 (m2 gAdd [] (mVar 6) (mC (.int 1))))
  (msExpr (mExtend [7] [] (mVar 7) (m2 gAdd [] (m2 gAdd [] (mN gLst (mCons [] (mN gTup (mCons [] (mC (.str "end")) mNil)) mNil)) (m1 gRev (mN gListOf (mCons [] (m2 gIx [] (m2 gIx [] (mVar 0) (mC (.int 1))) (m2 gIx [] (mVar 8) (mC (.int 1)))) mNil)))) (mN gLst (mCons [] (mN gTup (mCons [] (mC (.str "begin")) mNil)) mNil)))))) (msIf (mTest (m2 gEq [] (m2 gIx [] (mVar 8) (mC (.int 0))) (mC (.str "if")))) (msExpr (mExtend [7] [] (mVar 7) (m2 gAdd [] (mN gLst (mCons [] (mN gTup (mCons [] (mC (.str "join")) mNil)) mNil)) (m1 gRev (mN gListOf (mCons [] (m2 gIx [] (mVar 8) (mIf (mTest (mRo 2 f__law_test_holds (mCons [] (m2 gIx [] (mVar 8) (mC (.int 1))) (mCons [] (mVar 3) mNil)))) (mC (.int 2)) (mC (.int 3)))) mNil)))))) (msIf (tmAnd (mTest (m2 gEq [] (m2 gIx [] (mVar 8) (mC (.int 0))) (mC (.str "while")))) (mTest (mRo 2 f__law_test_holds (mCons [] (m2 gIx [] (mVar 8) (mC (.int 1))) (mCons [] (mVar 3) mNil))))) (msExpr (mExtend [7] [] (mVar 7) (m2 gAdd [] (mN gLst (mCons [] (mVar 8) mNil)) (m1 gRev (mN gListOf (mCons [] (m2 gIx [] (mVar 8) (mC (.int 2))) mNil)))))) (msIf (mTest (m2 gEq [] (m2 gIx [] (mVar 8) (mC (.int 0))) (mC (.str "end")))) (msSet 6 (m2 (gI fun i j => .int (i - j)) [] (mVar 6) (mC (.int 1)))) msNil))))))
noncomputable def rn6 : MS := (msIf (mTest (m2 (gI fun i j => .bl (decide (j < i))) [] (mN gMaxL (mCons [] (m2 gAdd [10, 10] (mLc [9, 9] [9] (setT [9]) (iSeq false (mVar 3)) mYes (e1__law_run f__law_value f__law_test_holds)) (mLc [10, 10] [10] (setT [10]) (iSeq false (mStl (mSl [] (mVar 4) (oSome (m1 gNeg (mC (.int 1)))) oNone))) mYes (e2__law_run f__law_value f__law_test_holds))) mNil)) (m2 (gIc cPow2 fun i j => .int (i ^ j.toNat)) [] (m2 (gIc cPow2 fun i j => .int (i ^ j.toNat)) [] (mC (.int 10)) (mC (.int 50))) (mC (.int 18))))) (msRet (mC .non)) msNil)
theorem e4_is : e4__law_run f__law_value f__law_test_holds = msSeq rn1 (msSeq rn2 (msSeq rn3 (msSeq rn4 (msSeq rn5 (rn6))))) := rfl

theorem cut_map {α β : Type} (f : α → β) (l : List α) (lo hi : Option Int) : cut (l.map f) lo hi = (cut l lo hi).map f := by
  unfold cut
  rw [List.length_map, List.map_take, List.map_drop]
def absI (i : Int) : Int := if i < 0 then -i else i
theorem abs_loop {e : ME} {v : Nat} (he : e = mN gAbs (mCons [] (mVar v) mNil)) (w : D → Env → Option Env) (E : Option O → Env) (hw : ∀ (y : Option O) (i : Int), w (.int i) (wipeE (E y) [v]) = some (E (some (.s (.int i))))) (hv : ∀ i : Int, mVar v (E (some (.s (.int i)))) = .ok (.val (.int i)) (E (some (.s (.int i))))) (l : List Int) (y : Option O) :
    ∃ y', lcL [v] w mYes e (l.map D.int) (E y) = .ok ((l.map absI).map D.int) (E y') := by
  obtain ⟨e', k1, y', rfl⟩ := lc_map (vs := [v]) (set := w) (f := e) (F := fun d => match d with | .int i => .int (absI i) | d => d) (I := fun x => ∃ y, x = E y) (l.map D.int) (E y)
    (by
      rintro _ d ⟨y, rfl⟩ hd
      obtain ⟨i, hi, rfl⟩ := List.mem_map.mp hd
      refine ⟨_, E (some (.s (.int i))), hw y i, ?_, _, rfl⟩
      rw [he]
      simp [hv]
      rfl) ⟨y, rfl⟩
  refine ⟨y', ?_⟩
  rw [k1, List.map_map, List.map_map]
  rfl
theorem gSl_bor {lo hi : Option Int} {x : Nat} {p : List Stp} {ds : List D} : gSl lo hi (.bor x p (.lst (ds.map O.s))) = some (.own (.lst ((cut ds lo hi).map O.s))) := by
  show (match (leaves (ds.map O.s)).map fun ds => (true, ds) with | some (true, ds) => some (Rt.own (.lst ((cut ds lo hi).map O.s))) | some (false, ds) => some (.val (.tup (cut ds lo hi))) | none => none) = _
  rw [leaves_map]
  rfl
theorem pows : ∃ N M : Int, gIc cPow2 (fun i j => D.int (i ^ j.toNat)) (.val (.int 10)) (.val (.int 50)) = some (.val (.int N)) ∧ gIc cPow2 (fun i j => D.int (i ^ j.toNat)) (.val (.int N)) (.val (.int 18)) = some (.val (.int M)) := by
  refine ⟨10 ^ (50 : Int).toNat, (10 ^ (50 : Int).toNat) ^ (18 : Int).toNat, ?_, ?_⟩
  · rw [ev_gIc, if_pos (by decide +kernel)]
  · rw [ev_gIc, if_pos (by decide +kernel)]
theorem p_rn6 (vs sd : List Int) (hv : vs ≠ []) (hl : vs.length ≤ 8) (hs : sd.length ≤ 10000) (a0 a1 a2 a5 a6 a7 a8 a9 a10 a11 : Option O) :
    (∃ z0 z1 z2 e', rn6 [a0, a1, a2, some (.lst ((vs.map D.int).map O.s)), some (.lst ((sd.map D.int).map O.s)), a5, a6, a7, a8, a9, a10, a11] = .ok (.ret (.val .non)) (z0 :: z1 :: z2 :: e')) ∨
      rn6 [a0, a1, a2, some (.lst ((vs.map D.int).map O.s)), some (.lst ((sd.map D.int).map O.s)), a5, a6, a7, a8, a9, a10, a11] = .ok .nx [a0, a1, a2, some (.lst ((vs.map D.int).map O.s)), some (.lst ((sd.map D.int).map O.s)), a5, a6, a7, a8, none, none, a11] := by
  obtain ⟨N, M, pw1, pw2⟩ := pows
  have cm : cut (sd.map D.int) (some (-1)) none = (cut sd (some (-1)) none).map D.int := cut_map _ _ _ _
  have cl := cut_len sd (some (-1)) none
  obtain ⟨y1, k1⟩ := abs_loop (e := e1__law_run f__law_value f__law_test_holds) (v := 9) rfl (setT [9]) (fun y => [a0, a1, a2, some (.lst ((vs.map D.int).map O.s)), some (.lst ((sd.map D.int).map O.s)), a5, a6, a7, a8, y, a10, a11]) (fun y i => rfl) (fun i => rfl) vs a9
  obtain ⟨y2, k2⟩ := abs_loop (e := e2__law_run f__law_value f__law_test_holds) (v := 10) rfl (setT [10]) (fun y => [a0, a1, a2, some (.lst ((vs.map D.int).map O.s)), some (.lst ((sd.map D.int).map O.s)), a5, a6, a7, a8, none, y, a11]) (fun y i => rfl) (fun i => rfl) (cut sd (some (-1)) none) a10
  obtain ⟨m, hm⟩ : ∃ m, gMaxL [.own (.lst (((vs.map absI).map D.int).map O.s ++ (((cut sd (some (-1)) none).map absI).map D.int).map O.s))] = some (.val (.int m)) := by
    rw [← List.map_append, ← List.map_append, ev_gMaxL]
    cases vs with
    | nil => exact absurd rfl hv
    | cons v vs => exact ⟨_, rfl⟩
  have l1 : ((vs.map absI).map D.int).length + (((cut sd (some (-1)) none).map absI).map D.int).length ≤ 16777216 := by simp only [List.length_map]; omega
  have l2 : (vs.map D.int).length ≤ 16777216 := by rw [List.length_map]; omega
  have l3 : ((cut sd (some (-1)) none).map D.int).length ≤ 16777216 := by rw [List.length_map]; omega
  rw [← cm] at k2 l3
  have hc : gSl (some (-1)) none (.bor 4 [] (.lst ((sd.map D.int).map O.s))) = some (.own (.lst ((cut (sd.map D.int) (some (-1)) none).map O.s))) := gSl_bor
  generalize cut (sd.map D.int) (some (-1)) none = CD at *
  generalize ((cut sd (some (-1)) none).map absI).map D.int = BD at *
  generalize (vs.map absI).map D.int = AD at *
  generalize sd.map D.int = SD at *
  generalize vs.map D.int = VD at *
  unfold rn6
  by_cases h : M < m
  · left
    simp [-List.map_map, -ev_gIc, pw1, pw2, k1, k2, l1, l2, l3, hm, hc, h]
  · right
    simp [-List.map_map, -ev_gIc, pw1, pw2, k1, k2, l1, l2, l3, hm, hc, h]
end L3
namespace L3
open PySem L2
def itD : It → D
  | .sm s => s.enc
  | .beg => .tup [.str "begin"]
  | .join => .tup [.str "join"]
  | .fin => .tup [.str "end"]
@[simp] theorem atI0 {a : D} {as : List D} : atI (a :: as) 0 = some a := by
  unfold atI ixN
  rw [if_pos (by decide), if_pos (by simp)]
  rfl
@[simp] theorem atI1 {a b : D} {as : List D} : atI (a :: b :: as) 1 = some b := by
  unfold atI ixN
  rw [if_pos (by decide), if_pos (by simp only [List.length_cons]; omega)]
  rfl
@[simp] theorem atI2 {a b c : D} {as : List D} : atI (a :: b :: c :: as) 2 = some c := by
  unfold atI ixN
  rw [if_pos (by decide), if_pos (by simp only [List.length_cons]; omega)]
  rfl
@[simp] theorem atI3 {a b c d : D} {as : List D} : atI (a :: b :: c :: d :: as) 3 = some d := by
  unfold atI ixN
  rw [if_pos (by decide), if_pos (by simp only [List.length_cons]; omega)]
  rfl
def envR (P B M : D) (VD SD : List D) (steps still : Int) (LD : List D) (x8 x9 x10 x11 : Option O) : Env := [some (.s P), some (.s B), some (.s M), some (.lst (VD.map O.s)), some (.lst (SD.map O.s)), some (.s (.int steps)), some (.s (.int still)), some (.lst (LD.map O.s)), x8, x9, x10, x11]
theorem ix_last (n : Nat) : ixN (n + 1) (-1) = some n := by
  unfold ixN
  rw [if_neg (by decide), if_pos (by omega)]
  exact congrArg some (by omega)
theorem ga1 (a : D) (es : List D) (h : es.length ≤ 100000) : gAdd (.own (.lst [.s a])) (.own (.lst (es.map O.s))) = some (.own (.lst (.s a :: es.map O.s))) := by
  have := ev_gAddL (ds := [a]) (es := es)
  rw [if_pos (by simp; omega)] at this
  exact this
theorem ga2 (a z : D) (es : List D) (h : es.length ≤ 100000) : gAdd (.own (.lst (.s a :: es.map O.s))) (.own (.lst [.s z])) = some (.own (.lst ((a :: (es ++ [z])).map O.s))) := by
  have := ev_gAddL (ds := a :: es) (es := [z])
  rw [if_pos (by simp; omega)] at this
  rw [show a :: (es ++ [z]) = (a :: es) ++ [z] from rfl]
  exact this
theorem lo1 (a : D) (es : List D) : lstOf (.own (.lst (.s a :: es.map O.s))) = some (a :: es) := by
  have := ev_lo (ds := a :: es)
  exact this
theorem set_map (VD : List D) (x : Nat) (i : Int) : (VD.map O.s).set x (.s (.int i)) = (VD.set x (.int i)).map O.s := by rw [List.map_set]
section
variable {c : Nat} {bs : List (List Sm)} {B M : D} {vs sd : List Int} {steps still : Int} {KD : List D} {x8 x9 x10 x11 : Option O}
def TurnTo (bs : List (List Sm)) (c : Nat) (B M : D) (e0 : Env) (vs sd : List Int) (steps still : Int) (LD : List D) (x11 : Option O) : Prop :=
  (∃ z0 z1 z2 e', e4__law_run f__law_value f__law_test_holds e0 = .ok (.ret (.val .non)) (z0 :: z1 :: z2 :: e')) ∨ ∃ y8 y9 y10, e4__law_run f__law_value f__law_test_holds e0 = .ok .nx (envR (.tup [.int c, .tup (bs.map encB)]) B M (vs.map D.int) (sd.map D.int) steps still LD y8 y9 y10 x11)
theorem turn_beg (hv : vs ≠ []) (hl : vs.length ≤ 8) (hs : sd.length < 10000) : TurnTo bs c B M (envR (.tup [.int c, .tup (bs.map encB)]) B M (vs.map D.int) (sd.map D.int) steps still (KD ++ [itD .beg]) x8 x9 x10 x11) vs sd (steps + 1) still (KD) x11 := by
  have hx := ix_last KD.length
  have hu := unsnoc_app (KD.map O.s) (.tup [.str "begin"])
  have hk := p_rn6 vs sd (by exact hv) (by exact hl) (by omega) (some (.s (.tup [.int c, .tup (bs.map encB)]))) (some (.s B)) (some (.s M)) (some (.s (.int (steps + 1)))) (some (.s (.int (still)))) (some (.lst ((KD).map O.s))) (some (.s (.tup [.str "begin"]))) x9 x10 x11
  unfold TurnTo
  rw [e4_is]
  rw [show itD .beg = .tup [.str "begin"] from by simp [itD, Sm.enc]]
  unfold envR
  generalize vs.map D.int = VD at *
  generalize sd.map D.int = SD at *
  generalize D.tup [.int c, .tup (bs.map encB)] = P at *
  unfold rn1 rn2 rn3 rn4 rn5
  rcases hk with ⟨z0, z1, z2, e', hk⟩ | hk
  · left
    simp [-List.map_map, -List.map_set, -List.map_reverse, -ev_rev, hx, hu, hk]
  · right
    simp [-List.map_map, -List.map_set, -List.map_reverse, -ev_rev, hx, hu, hk]
theorem turn_join (hv : vs ≠ []) (hl : vs.length ≤ 8) (hs : sd.length < 10000) : TurnTo bs c B M (envR (.tup [.int c, .tup (bs.map encB)]) B M (vs.map D.int) (sd.map D.int) steps still (KD ++ [itD .join]) x8 x9 x10 x11) vs sd (steps + 1) still (KD) x11 := by
  have hx := ix_last KD.length
  have hu := unsnoc_app (KD.map O.s) (.tup [.str "join"])
  have hk := p_rn6 vs sd (by exact hv) (by exact hl) (by omega) (some (.s (.tup [.int c, .tup (bs.map encB)]))) (some (.s B)) (some (.s M)) (some (.s (.int (steps + 1)))) (some (.s (.int (still)))) (some (.lst ((KD).map O.s))) (some (.s (.tup [.str "join"]))) x9 x10 x11
  unfold TurnTo
  rw [e4_is]
  rw [show itD .join = .tup [.str "join"] from by simp [itD, Sm.enc]]
  unfold envR
  generalize vs.map D.int = VD at *
  generalize sd.map D.int = SD at *
  generalize D.tup [.int c, .tup (bs.map encB)] = P at *
  unfold rn1 rn2 rn3 rn4 rn5
  rcases hk with ⟨z0, z1, z2, e', hk⟩ | hk
  · left
    simp [-List.map_map, -List.map_set, -List.map_reverse, -ev_rev, hx, hu, hk]
  · right
    simp [-List.map_map, -List.map_set, -List.map_reverse, -ev_rev, hx, hu, hk]
theorem turn_fin (hv : vs ≠ []) (hl : vs.length ≤ 8) (hs : sd.length < 10000) : TurnTo bs c B M (envR (.tup [.int c, .tup (bs.map encB)]) B M (vs.map D.int) (sd.map D.int) steps still (KD ++ [itD .fin]) x8 x9 x10 x11) vs sd (steps + 1) (still - 1) (KD) x11 := by
  have hx := ix_last KD.length
  have hu := unsnoc_app (KD.map O.s) (.tup [.str "end"])
  have hk := p_rn6 vs sd (by exact hv) (by exact hl) (by omega) (some (.s (.tup [.int c, .tup (bs.map encB)]))) (some (.s B)) (some (.s M)) (some (.s (.int (steps + 1)))) (some (.s (.int ((still - 1))))) (some (.lst ((KD).map O.s))) (some (.s (.tup [.str "end"]))) x9 x10 x11
  unfold TurnTo
  rw [e4_is]
  rw [show itD .fin = .tup [.str "end"] from by simp [itD, Sm.enc]]
  unfold envR
  generalize vs.map D.int = VD at *
  generalize sd.map D.int = SD at *
  generalize D.tup [.int c, .tup (bs.map encB)] = P at *
  unfold rn1 rn2 rn3 rn4 rn5
  rcases hk with ⟨z0, z1, z2, e', hk⟩ | hk
  · left
    simp [-List.map_map, -List.map_set, -List.map_reverse, -ev_rev, hx, hu, hk]
  · right
    simp [-List.map_map, -List.map_set, -List.map_reverse, -ev_rev, hx, hu, hk]
theorem turn_set {x : Nat} {l : List Int} (hlin : lin vs.length l) (hxc : x < vs.length) (hv : vs ≠ []) (hl : vs.length ≤ 8) (hs : sd.length < 10000) : TurnTo bs c B M (envR (.tup [.int c, .tup (bs.map encB)]) B M (vs.map D.int) (sd.map D.int) steps still (KD ++ [itD (.sm (.set x l))]) x8 x9 x10 x11) (vs.set x (lval l vs)) sd (steps + 1) still (KD) x11 := by
  have hx := ix_last KD.length
  have hu := unsnoc_app (KD.map O.s) (.tup [.str "set", .int x, .tup (l.map D.int)])
  have f1 : f__law_value [.s (.tup (l.map D.int)), .s (.lst (vs.map D.int))] = .ok (.s (.int (lval l vs))) [.s (.tup (l.map D.int)), .s (.lst (vs.map D.int))] := p_lvalue false l vs hlin rfl (by omega)
  have f2 : ixN (vs.map D.int).length (x : Int) = some x := by rw [List.length_map]; simp [ixN]; omega
  have f3 : ((vs.map D.int).map O.s).set x (.s (.int (lval l vs))) = ((vs.set x (lval l vs)).map D.int).map O.s := by rw [List.map_set, List.map_set]
  have hk := p_rn6 (vs.set x (lval l vs)) sd (by intro z; apply hv; exact List.eq_nil_of_length_eq_zero (by rw [← List.length_set (i := x) (a := lval l vs), z]; rfl)) (by rw [List.length_set]; exact hl) (by omega) (some (.s (.tup [.int c, .tup (bs.map encB)]))) (some (.s B)) (some (.s M)) (some (.s (.int (steps + 1)))) (some (.s (.int (still)))) (some (.lst ((KD).map O.s))) (some (.s (.tup [.str "set", .int x, .tup (l.map D.int)]))) x9 x10 x11
  unfold TurnTo
  rw [e4_is]
  rw [show itD (.sm (.set x l)) = .tup [.str "set", .int x, .tup (l.map D.int)] from by simp [itD, Sm.enc]]
  unfold envR
  generalize (vs.set x (lval l vs)).map D.int = VD2 at *
  generalize vs.map D.int = VD at *
  generalize sd.map D.int = SD at *
  generalize D.tup [.int c, .tup (bs.map encB)] = P at *
  generalize lval l vs = V at *
  generalize l.map D.int = LD at *
  unfold rn1 rn2 rn3 rn4 rn5
  rcases hk with ⟨z0, z1, z2, e', hk⟩ | hk
  · left
    simp [-List.map_map, -List.map_set, -List.map_reverse, -ev_rev, hx, hu, hk, f1, f2, f3]
  · right
    simp [-List.map_map, -List.map_set, -List.map_reverse, -ev_rev, hx, hu, hk, f1, f2, f3]
theorem turn_say {l : List Int} (hlin : lin vs.length l) (hv : vs ≠ []) (hl : vs.length ≤ 8) (hs : sd.length < 10000) : TurnTo bs c B M (envR (.tup [.int c, .tup (bs.map encB)]) B M (vs.map D.int) (sd.map D.int) steps still (KD ++ [itD (.sm (.say l))]) x8 x9 x10 x11) vs (sd ++ [lval l vs]) (steps + 1) still (KD) x11 := by
  have hx := ix_last KD.length
  have hu := unsnoc_app (KD.map O.s) (.tup [.str "say", .tup (l.map D.int)])
  have f1 : f__law_value [.s (.tup (l.map D.int)), .s (.lst (vs.map D.int))] = .ok (.s (.int (lval l vs))) [.s (.tup (l.map D.int)), .s (.lst (vs.map D.int))] := p_lvalue false l vs hlin rfl (by omega)
  have f2 : (sd.map D.int).length < 16777216 := by rw [List.length_map]; omega
  have f3 : (sd.map D.int).map O.s ++ [.s (.int (lval l vs))] = ((sd ++ [lval l vs]).map D.int).map O.s := by rw [List.map_append, List.map_append]; rfl
  have hk := p_rn6 vs (sd ++ [lval l vs]) (by exact hv) (by exact hl) (by rw [List.length_append, List.length_singleton]; omega) (some (.s (.tup [.int c, .tup (bs.map encB)]))) (some (.s B)) (some (.s M)) (some (.s (.int (steps + 1)))) (some (.s (.int (still)))) (some (.lst ((KD).map O.s))) (some (.s (.tup [.str "say", .tup (l.map D.int)]))) x9 x10 x11
  unfold TurnTo
  rw [e4_is]
  rw [show itD (.sm (.say l)) = .tup [.str "say", .tup (l.map D.int)] from by simp [itD, Sm.enc]]
  unfold envR
  generalize (sd ++ [lval l vs]).map D.int = SD2 at *
  generalize vs.map D.int = VD at *
  generalize sd.map D.int = SD at *
  generalize D.tup [.int c, .tup (bs.map encB)] = P at *
  generalize lval l vs = V at *
  generalize l.map D.int = LD at *
  unfold rn1 rn2 rn3 rn4 rn5
  rcases hk with ⟨z0, z1, z2, e', hk⟩ | hk
  · left
    simp [-List.map_map, -List.map_set, -List.map_reverse, -ev_rev, hx, hu, hk, f1, f2, f3]
  · right
    simp [-List.map_map, -List.map_set, -List.map_reverse, -ev_rev, hx, hu, hk, f1, f2, f3]
theorem turn_call {x : Nat} {b : List Sm} (hb : bs[x]? = some b) (hbl : b.length ≤ 100) (hKl : KD.length ≤ 1000000) (hst : still ≠ 20) (hv : vs ≠ []) (hl : vs.length ≤ 8) (hs : sd.length < 10000) : TurnTo bs c B M (envR (.tup [.int c, .tup (bs.map encB)]) B M (vs.map D.int) (sd.map D.int) steps still (KD ++ [itD (.sm (.call x))]) x8 x9 x10 x11) vs sd (steps + 1) (still + 1) (KD ++ (D.tup [.str "end"] :: ((Sm.encs b).reverse ++ [D.tup [.str "begin"]]))) x11 := by
  have hx := ix_last KD.length
  have hu := unsnoc_app (KD.map O.s) (.tup [.str "call", .int x])
  have f1 : atI (bs.map encB) (x : Int) = some (.tup (Sm.encs b)) := atI_nat (by rw [List.getElem?_map, hb]; rfl)
  have f2 : gRev (.own (.lst ((Sm.encs b).map O.s))) = some (.own (.lst ((Sm.encs b).reverse.map O.s))) := ev_rev
  have hE : (Sm.encs b).reverse.length ≤ 100 := by rw [List.length_reverse, Sm.encs_len]; exact hbl
  have hk := p_rn6 vs sd (by exact hv) (by exact hl) (by omega) (some (.s (.tup [.int c, .tup (bs.map encB)]))) (some (.s B)) (some (.s M)) (some (.s (.int (steps + 1)))) (some (.s (.int ((still + 1))))) (some (.lst ((KD ++ (D.tup [.str "end"] :: ((Sm.encs b).reverse ++ [D.tup [.str "begin"]]))).map O.s))) (some (.s (.tup [.str "call", .int x]))) x9 x10 x11
  generalize (Sm.encs b).reverse = E at *
  have g1 := ga1 (.tup [.str "end"]) E (by omega)
  have g2 := ga2 (.tup [.str "end"]) (.tup [.str "begin"]) E (by omega)
  obtain ⟨X, hX⟩ : ∃ X : List D, X = .tup [.str "end"] :: (E ++ [.tup [.str "begin"]]) := ⟨_, rfl⟩
  rw [← hX] at g2 hk ⊢
  have hXl : X.length = E.length + 2 := by rw [hX]; simp
  have g3 : KD.length + X.length ≤ 16777216 := by omega
  clear hX
  simp only [List.map_append] at hk
  unfold TurnTo
  rw [e4_is]
  rw [show itD (.sm (.call x)) = .tup [.str "call", .int x] from by simp [itD, Sm.enc]]
  unfold envR
  generalize vs.map D.int = VD at *
  generalize sd.map D.int = SD at *
  generalize bs.map encB = BD at *
  unfold rn1 rn2 rn3 rn4 rn5
  rcases hk with ⟨z0, z1, z2, e', hk⟩ | hk
  · left
    simp [-List.map_map, -List.map_set, -List.map_reverse, -ev_rev, hx, hu, hk, f1, f2, g1, g2, g3, hst]
  · right
    simp [-List.map_map, -List.map_set, -List.map_reverse, -ev_rev, hx, hu, hk, f1, f2, g1, g2, g3, hst]
theorem turn_ift {k : Bool} {l m : List Int} {a b : List Sm} (hlin : lin vs.length l) (hlin2 : lin vs.length m) (ht : tval k l m vs = true) (hbl : a.length ≤ 100) (hKl : KD.length ≤ 1000000) (hv : vs ≠ []) (hl : vs.length ≤ 8) (hs : sd.length < 10000) : TurnTo bs c B M (envR (.tup [.int c, .tup (bs.map encB)]) B M (vs.map D.int) (sd.map D.int) steps still (KD ++ [itD (.sm (.ifs k l m a b))]) x8 x9 x10 x11) vs sd (steps + 1) still (KD ++ (.tup [.str "join"] :: (Sm.encs a).reverse)) x11 := by
  have hx := ix_last KD.length
  have hu := unsnoc_app (KD.map O.s) (.tup [.str "if", tstD k l m, .tup (Sm.encs a), .tup (Sm.encs b)])
  have f1 : f__law_test_holds [.s (tstD k l m), .s (.lst (vs.map D.int))] = .ok (.s (.bl (tval k l m vs))) [.s (tstD k l m), .s (.lst (vs.map D.int))] := p_ltest false k l m vs hlin hlin2 rfl (by omega)
  have f2 : gRev (.own (.lst ((Sm.encs a).map O.s))) = some (.own (.lst ((Sm.encs a).reverse.map O.s))) := ev_rev
  have hE : (Sm.encs a).reverse.length ≤ 100 := by rw [List.length_reverse, Sm.encs_len]; exact hbl
  rw [ht] at f1
  have hk := p_rn6 vs sd (by exact hv) (by exact hl) (by omega) (some (.s (.tup [.int c, .tup (bs.map encB)]))) (some (.s B)) (some (.s M)) (some (.s (.int (steps + 1)))) (some (.s (.int (still)))) (some (.lst ((KD ++ (.tup [.str "join"] :: (Sm.encs a).reverse)).map O.s))) (some (.s (.tup [.str "if", tstD k l m, .tup (Sm.encs a), .tup (Sm.encs b)]))) x9 x10 x11
  generalize (Sm.encs a).reverse = E at *
  have g1 := ga1 (.tup [.str "join"]) E (by omega)
  have g2 := lo1 (.tup [.str "join"]) E
  obtain ⟨X, hX⟩ : ∃ X : List D, X = .tup [.str "join"] :: E := ⟨_, rfl⟩
  rw [← hX] at g2 hk ⊢
  have hXl : X.length = E.length + 1 := by rw [hX]; simp
  have g3 : KD.length + X.length ≤ 16777216 := by omega
  clear hX
  simp only [List.map_append] at hk
  unfold TurnTo
  rw [e4_is]
  rw [show itD (.sm (.ifs k l m a b)) = .tup [.str "if", tstD k l m, .tup (Sm.encs a), .tup (Sm.encs b)] from by simp [itD, Sm.enc]]
  unfold envR
  generalize vs.map D.int = VD at *
  generalize sd.map D.int = SD at *
  generalize D.tup [.int c, .tup (bs.map encB)] = P at *
  generalize tstD k l m = TD at *
  unfold rn1 rn2 rn3 rn4 rn5
  rcases hk with ⟨z0, z1, z2, e', hk⟩ | hk
  · left
    simp [-List.map_map, -List.map_set, -List.map_reverse, -ev_rev, hx, hu, hk, f1, f2, g1, g2, g3]
  · right
    simp [-List.map_map, -List.map_set, -List.map_reverse, -ev_rev, hx, hu, hk, f1, f2, g1, g2, g3]
theorem turn_iff {k : Bool} {l m : List Int} {a b : List Sm} (hlin : lin vs.length l) (hlin2 : lin vs.length m) (ht : tval k l m vs = false) (hbl : b.length ≤ 100) (hKl : KD.length ≤ 1000000) (hv : vs ≠ []) (hl : vs.length ≤ 8) (hs : sd.length < 10000) : TurnTo bs c B M (envR (.tup [.int c, .tup (bs.map encB)]) B M (vs.map D.int) (sd.map D.int) steps still (KD ++ [itD (.sm (.ifs k l m a b))]) x8 x9 x10 x11) vs sd (steps + 1) still (KD ++ (.tup [.str "join"] :: (Sm.encs b).reverse)) x11 := by
  have hx := ix_last KD.length
  have hu := unsnoc_app (KD.map O.s) (.tup [.str "if", tstD k l m, .tup (Sm.encs a), .tup (Sm.encs b)])
  have f1 : f__law_test_holds [.s (tstD k l m), .s (.lst (vs.map D.int))] = .ok (.s (.bl (tval k l m vs))) [.s (tstD k l m), .s (.lst (vs.map D.int))] := p_ltest false k l m vs hlin hlin2 rfl (by omega)
  have f2 : gRev (.own (.lst ((Sm.encs b).map O.s))) = some (.own (.lst ((Sm.encs b).reverse.map O.s))) := ev_rev
  have hE : (Sm.encs b).reverse.length ≤ 100 := by rw [List.length_reverse, Sm.encs_len]; exact hbl
  rw [ht] at f1
  have hk := p_rn6 vs sd (by exact hv) (by exact hl) (by omega) (some (.s (.tup [.int c, .tup (bs.map encB)]))) (some (.s B)) (some (.s M)) (some (.s (.int (steps + 1)))) (some (.s (.int (still)))) (some (.lst ((KD ++ (.tup [.str "join"] :: (Sm.encs b).reverse)).map O.s))) (some (.s (.tup [.str "if", tstD k l m, .tup (Sm.encs a), .tup (Sm.encs b)]))) x9 x10 x11
  generalize (Sm.encs b).reverse = E at *
  have g1 := ga1 (.tup [.str "join"]) E (by omega)
  have g2 := lo1 (.tup [.str "join"]) E
  obtain ⟨X, hX⟩ : ∃ X : List D, X = .tup [.str "join"] :: E := ⟨_, rfl⟩
  rw [← hX] at g2 hk ⊢
  have hXl : X.length = E.length + 1 := by rw [hX]; simp
  have g3 : KD.length + X.length ≤ 16777216 := by omega
  clear hX
  simp only [List.map_append] at hk
  unfold TurnTo
  rw [e4_is]
  rw [show itD (.sm (.ifs k l m a b)) = .tup [.str "if", tstD k l m, .tup (Sm.encs a), .tup (Sm.encs b)] from by simp [itD, Sm.enc]]
  unfold envR
  generalize vs.map D.int = VD at *
  generalize sd.map D.int = SD at *
  generalize D.tup [.int c, .tup (bs.map encB)] = P at *
  generalize tstD k l m = TD at *
  unfold rn1 rn2 rn3 rn4 rn5
  rcases hk with ⟨z0, z1, z2, e', hk⟩ | hk
  · left
    simp [-List.map_map, -List.map_set, -List.map_reverse, -ev_rev, hx, hu, hk, f1, f2, g1, g2, g3]
  · right
    simp [-List.map_map, -List.map_set, -List.map_reverse, -ev_rev, hx, hu, hk, f1, f2, g1, g2, g3]
theorem turn_wht {k : Bool} {l m : List Int} {b : List Sm} (hlin : lin vs.length l) (hlin2 : lin vs.length m) (ht : tval k l m vs = true) (hbl : b.length ≤ 100) (hKl : KD.length ≤ 1000000) (hv : vs ≠ []) (hl : vs.length ≤ 8) (hs : sd.length < 10000) : TurnTo bs c B M (envR (.tup [.int c, .tup (bs.map encB)]) B M (vs.map D.int) (sd.map D.int) steps still (KD ++ [itD (.sm (.wh k l m b))]) x8 x9 x10 x11) vs sd (steps + 1) still (KD ++ (.tup [.str "while", tstD k l m, .tup (Sm.encs b)] :: (Sm.encs b).reverse)) x11 := by
  have hx := ix_last KD.length
  have hu := unsnoc_app (KD.map O.s) (.tup [.str "while", tstD k l m, .tup (Sm.encs b)])
  have f1 : f__law_test_holds [.s (tstD k l m), .s (.lst (vs.map D.int))] = .ok (.s (.bl (tval k l m vs))) [.s (tstD k l m), .s (.lst (vs.map D.int))] := p_ltest false k l m vs hlin hlin2 rfl (by omega)
  have f2 : gRev (.own (.lst ((Sm.encs b).map O.s))) = some (.own (.lst ((Sm.encs b).reverse.map O.s))) := ev_rev
  have hE : (Sm.encs b).reverse.length ≤ 100 := by rw [List.length_reverse, Sm.encs_len]; exact hbl
  rw [ht] at f1
  have hk := p_rn6 vs sd (by exact hv) (by exact hl) (by omega) (some (.s (.tup [.int c, .tup (bs.map encB)]))) (some (.s B)) (some (.s M)) (some (.s (.int (steps + 1)))) (some (.s (.int (still)))) (some (.lst ((KD ++ (.tup [.str "while", tstD k l m, .tup (Sm.encs b)] :: (Sm.encs b).reverse)).map O.s))) (some (.s (.tup [.str "while", tstD k l m, .tup (Sm.encs b)]))) x9 x10 x11
  generalize (Sm.encs b).reverse = E at *
  have g1 := ga1 (.tup [.str "while", tstD k l m, .tup (Sm.encs b)]) E (by omega)
  have g2 := lo1 (.tup [.str "while", tstD k l m, .tup (Sm.encs b)]) E
  obtain ⟨X, hX⟩ : ∃ X : List D, X = .tup [.str "while", tstD k l m, .tup (Sm.encs b)] :: E := ⟨_, rfl⟩
  rw [← hX] at g2 hk ⊢
  have hXl : X.length = E.length + 1 := by rw [hX]; simp
  have g3 : KD.length + X.length ≤ 16777216 := by omega
  clear hX
  simp only [List.map_append] at hk
  unfold TurnTo
  rw [e4_is]
  rw [show itD (.sm (.wh k l m b)) = .tup [.str "while", tstD k l m, .tup (Sm.encs b)] from by simp [itD, Sm.enc]]
  unfold envR
  generalize vs.map D.int = VD at *
  generalize sd.map D.int = SD at *
  generalize D.tup [.int c, .tup (bs.map encB)] = P at *
  generalize tstD k l m = TD at *
  unfold rn1 rn2 rn3 rn4 rn5
  rcases hk with ⟨z0, z1, z2, e', hk⟩ | hk
  · left
    simp [-List.map_map, -List.map_set, -List.map_reverse, -ev_rev, hx, hu, hk, f1, f2, g1, g2, g3]
  · right
    simp [-List.map_map, -List.map_set, -List.map_reverse, -ev_rev, hx, hu, hk, f1, f2, g1, g2, g3]
theorem turn_whf {k : Bool} {l m : List Int} {b : List Sm} (hlin : lin vs.length l) (hlin2 : lin vs.length m) (ht : tval k l m vs = false) (hv : vs ≠ []) (hl : vs.length ≤ 8) (hs : sd.length < 10000) : TurnTo bs c B M (envR (.tup [.int c, .tup (bs.map encB)]) B M (vs.map D.int) (sd.map D.int) steps still (KD ++ [itD (.sm (.wh k l m b))]) x8 x9 x10 x11) vs sd (steps + 1) still (KD) x11 := by
  have hx := ix_last KD.length
  have hu := unsnoc_app (KD.map O.s) (.tup [.str "while", tstD k l m, .tup (Sm.encs b)])
  have f1 : f__law_test_holds [.s (tstD k l m), .s (.lst (vs.map D.int))] = .ok (.s (.bl (tval k l m vs))) [.s (tstD k l m), .s (.lst (vs.map D.int))] := p_ltest false k l m vs hlin hlin2 rfl (by omega)
  rw [ht] at f1
  have hk := p_rn6 vs sd (by exact hv) (by exact hl) (by omega) (some (.s (.tup [.int c, .tup (bs.map encB)]))) (some (.s B)) (some (.s M)) (some (.s (.int (steps + 1)))) (some (.s (.int (still)))) (some (.lst ((KD).map O.s))) (some (.s (.tup [.str "while", tstD k l m, .tup (Sm.encs b)]))) x9 x10 x11
  unfold TurnTo
  rw [e4_is]
  rw [show itD (.sm (.wh k l m b)) = .tup [.str "while", tstD k l m, .tup (Sm.encs b)] from by simp [itD, Sm.enc]]
  unfold envR
  generalize vs.map D.int = VD at *
  generalize sd.map D.int = SD at *
  generalize D.tup [.int c, .tup (bs.map encB)] = P at *
  generalize tstD k l m = TD at *
  unfold rn1 rn2 rn3 rn4 rn5
  rcases hk with ⟨z0, z1, z2, e', hk⟩ | hk
  · left
    simp [-List.map_map, -List.map_set, -List.map_reverse, -ev_rev, hx, hu, hk, f1]
  · right
    simp [-List.map_map, -List.map_set, -List.map_reverse, -ev_rev, hx, hu, hk, f1]
end
end L3
namespace L3
open PySem L2
theorem its_enc (b : List Sm) : (b.map It.sm).map itD = Sm.encs b := by
  induction b with
  | nil => simp [Sm.encs]
  | cons s b ih => rw [List.map_cons, List.map_cons, ih]; simp [Sm.encs, itD]
theorem tupOf_bor {x : Nat} {p : List Stp} {ds : List D} : gTupleOf [.bor x p (.lst (ds.map O.s))] = some (.val (.tup ds)) := by
  show (match (leaves (ds.map O.s)).map fun ds => (true, ds) with | some (_, ds) => some (Rt.val (.tup ds)) | _ => none) = _
  rw [leaves_map]
  rfl
def hdL : It → Str
  | .sm (.set _ _) => "set"
  | .sm (.say _) => "say"
  | .sm (.call _) => "call"
  | .sm (.ifs _ _ _ _ _) => "if"
  | .sm (.wh _ _ _ _) => "while"
  | .beg => "begin"
  | .join => "join"
  | .fin => "end"
theorem ix_hdL (h : It) : gIx (.val (itD h)) (.val (.int 0)) = some (.val (.str (hdL h))) := by
  cases h with
  | sm s => cases s <;> simp [itD, Sm.enc, hdL]
  | _ => simp [itD, hdL]
theorem eq_hdL (h : It) : gEq (.val (.str (hdL h))) (.val (.str "call")) = some (.val (.bl (isCall h))) := by
  cases h with
  | sm s => cases s <;> simp [hdL, isCall]
  | _ => simp [hdL, isCall]
section
variable {c : Nat} {bs : List (List Sm)} {B M : D} {vs sd : List Int} {steps : Int} {KD : List D} {x8 x9 x10 x11 : Option O}
theorem turn_fault {it : It} (hc : isCall it = true) : ∃ z0 z1 z2 e', e4__law_run f__law_value f__law_test_holds (envR (.tup [.int c, .tup (bs.map encB)]) B M (vs.map D.int) (sd.map D.int) steps 20 (KD ++ [itD it]) x8 x9 x10 x11) = .ok (.ret (.val (.tup [.tup (sd.map D.int), .str "fault", .tup (vs.map D.int)]))) (z0 :: z1 :: z2 :: e') := by
  have hx := ix_last KD.length
  have h1 := ix_hdL it
  have h2 := eq_hdL it
  rw [hc] at h2
  rw [e4_is]
  unfold envR
  generalize vs.map D.int = VD at *
  generalize sd.map D.int = SD at *
  generalize itD it = ID at *
  generalize D.tup [.int c, .tup (bs.map encB)] = P at *
  unfold rn1 rn2
  simp [-List.map_map, hx, h1, h2, tupOf_bor]
theorem turn_all {still : Int} {it : It} {K : List It} (hc : 1 ≤ c ∧ c ≤ 4) (hb : ∀ b ∈ bs, BodyIs c bs.length b) (hk : OkS c bs ⟨it :: K, vs, sd, still⟩) (hs : sd.length < 10000) (hK : K.length ≤ 1000000) (hst : stuck ⟨it :: K, vs, sd, still⟩ = false) :
    TurnTo bs c B M (envR (.tup [.int c, .tup (bs.map encB)]) B M (vs.map D.int) (sd.map D.int) steps still ((it :: K).reverse.map itD) x8 x9 x10 x11) (stepL bs ⟨it :: K, vs, sd, still⟩).vals (stepL bs ⟨it :: K, vs, sd, still⟩).said (steps + 1) (stepL bs ⟨it :: K, vs, sd, still⟩).still ((stepL bs ⟨it :: K, vs, sd, still⟩).left.reverse.map itD) x11 := by
  obtain ⟨hv, hi⟩ := hk
  have hv : vs.length = c := hv
  have h0 := hi it List.mem_cons_self
  have n0 : vs ≠ [] := by rintro rfl; simp at hv; omega
  have n1 : vs.length ≤ 8 := by omega
  have hr : (it :: K).reverse.map itD = K.reverse.map itD ++ [itD it] := by simp
  have hKl : (K.reverse.map itD).length ≤ 1000000 := by rw [List.length_map, List.length_reverse]; exact hK
  rw [hr]
  cases it with
  | beg => exact turn_beg n0 n1 hs
  | join => exact turn_join n0 n1 hs
  | fin => exact turn_fin n0 n1 hs
  | sm s =>
    obtain ⟨ho, hz⟩ := h0
    cases s with
    | set x l => exact turn_set (hv ▸ ho.2) (by rw [hv]; exact ho.1) n0 n1 hs
    | say l => exact turn_say (by rw [hv]; exact ho) n0 n1 hs
    | call x =>
      have hx : x < bs.length := ho
      have hm : bs.getD x [] ∈ bs := by rw [List.getD_eq_getElem?_getD, List.getElem?_eq_getElem hx]; exact List.getElem_mem hx
      have hb2 : bs[x]? = some (bs.getD x []) := by rw [List.getD_eq_getElem?_getD, List.getElem?_eq_getElem hx]; rfl
      have hl := Sm.len_size (bs.getD x [])
      have hsz := (hb _ hm).2.2
      have h20 : still ≠ 20 := by simpa [stuck] using hst
      have := turn_call (c := c) (bs := bs) (B := B) (M := M) (vs := vs) (sd := sd) (steps := steps) (x8 := x8) (x9 := x9) (x10 := x10) (x11 := x11) hb2 (by omega) hKl h20 n0 n1 hs
      show TurnTo _ _ _ _ _ _ _ _ _ ((It.beg :: ((bs.getD x []).map It.sm ++ It.fin :: K)).reverse.map itD) _
      have e : (It.beg :: ((bs.getD x []).map It.sm ++ It.fin :: K)).reverse.map itD = K.reverse.map itD ++ (D.tup [.str "end"] :: ((Sm.encs (bs.getD x [])).reverse ++ [D.tup [.str "begin"]])) := by
        rw [← its_enc, ← List.map_reverse]
        simp [itD]
      rw [e]
      exact this
    | ifs k l m a b =>
      simp only [Sm.size] at hz
      have la := Sm.len_size a
      have lb := Sm.len_size b
      have e : ∀ q : List Sm, (q.map It.sm ++ It.join :: K).reverse.map itD = K.reverse.map itD ++ (D.tup [.str "join"] :: (Sm.encs q).reverse) := fun q => by
        rw [← its_enc, ← List.map_reverse]
        simp [itD]
      show TurnTo _ _ _ _ _ _ _ _ _ (((if tval k l m vs = true then a else b).map It.sm ++ It.join :: K).reverse.map itD) _
      rw [e]
      cases ht : tval k l m vs with
      | true =>
        rw [if_pos rfl]
        exact turn_ift (by rw [hv]; exact ho.1) (by rw [hv]; exact ho.2.1) ht (by omega) hKl n0 n1 hs
      | false =>
        rw [if_neg Bool.false_ne_true]
        exact turn_iff (by rw [hv]; exact ho.1) (by rw [hv]; exact ho.2.1) ht (by omega) hKl n0 n1 hs
    | wh k l m b =>
      simp only [Sm.size] at hz
      have lb := Sm.len_size b
      have e : (b.map It.sm ++ It.sm (.wh k l m b) :: K).reverse.map itD = K.reverse.map itD ++ (D.tup [.str "while", tstD k l m, .tup (Sm.encs b)] :: (Sm.encs b).reverse) := by
        rw [← its_enc, ← List.map_reverse, its_enc]
        simp [itD, Sm.enc]
      show TurnTo _ _ _ _ _ _ _ _ _ ((if tval k l m vs = true then b.map It.sm ++ It.sm (.wh k l m b) :: K else K).reverse.map itD) _
      cases ht : tval k l m vs with
      | true =>
        rw [if_pos rfl, e]
        exact turn_wht (by rw [hv]; exact ho.1) (by rw [hv]; exact ho.2.1) ht (by omega) hKl n0 n1 hs
      | false =>
        rw [if_neg Bool.false_ne_true]
        exact turn_whf (by rw [hv]; exact ho.1) (by rw [hv]; exact ho.2.1) ht n0 n1 hs
end
end L3
namespace L3
open PySem L2
section
variable {c : Nat} {bs : List (List Sm)}
theorem step_said (s : LS) : (stepL bs s).said.length ≤ s.said.length + 1 := by
  obtain ⟨L, vs, sd, st⟩ := s
  cases L with
  | nil => show sd.length ≤ sd.length + 1; omega
  | cons it K =>
    cases it with
    | sm s =>
      cases s with
      | say l => show (sd ++ [_]).length ≤ sd.length + 1; rw [List.length_append]; exact Nat.le_refl _
      | _ => exact Nat.le_succ _
    | _ => exact Nat.le_succ _
theorem step_left {s : LS} (hb : ∀ b ∈ bs, BodyIs c bs.length b) (hk : OkS c bs s) : (stepL bs s).left.length ≤ s.left.length + 40 := by
  obtain ⟨L, vs, sd, st⟩ := s
  obtain ⟨hv, hi⟩ := hk
  cases L with
  | nil => show ([] : List It).length ≤ 0 + 40; simp
  | cons it K =>
    have h0 := hi it List.mem_cons_self
    cases it with
    | beg => show K.length ≤ (It.beg :: K).length + 40; simp only [List.length_cons]; omega
    | join => show K.length ≤ (It.join :: K).length + 40; simp only [List.length_cons]; omega
    | fin => show K.length ≤ (It.fin :: K).length + 40; simp only [List.length_cons]; omega
    | sm s =>
      obtain ⟨ho, hz⟩ := h0
      cases s with
      | set x l => show K.length ≤ (It.sm _ :: K).length + 40; simp only [List.length_cons]; omega
      | say l => show K.length ≤ (It.sm _ :: K).length + 40; simp only [List.length_cons]; omega
      | call x =>
        have hx : x < bs.length := ho
        have hm : bs.getD x [] ∈ bs := by rw [List.getD_eq_getElem?_getD, List.getElem?_eq_getElem hx]; exact List.getElem_mem hx
        have hl := Sm.len_size (bs.getD x [])
        have hsz := (hb _ hm).2.2
        show (It.beg :: ((bs.getD x []).map It.sm ++ It.fin :: K)).length ≤ (It.sm (.call x) :: K).length + 40
        simp only [List.length_cons, List.length_append, List.length_map]
        omega
      | ifs k l m a b =>
        simp only [Sm.size] at hz
        have la := Sm.len_size a
        have lb := Sm.len_size b
        show ((if tval k l m vs = true then a else b).map It.sm ++ It.join :: K).length ≤ (It.sm _ :: K).length + 40
        simp only [List.length_cons, List.length_append, List.length_map]
        split <;> omega
      | wh k l m b =>
        simp only [Sm.size] at hz
        have lb := Sm.len_size b
        show (if tval k l m vs = true then b.map It.sm ++ It.sm (.wh k l m b) :: K else K).length ≤ (It.sm _ :: K).length + 40
        split
        · simp only [List.length_cons, List.length_append, List.length_map]; omega
        · simp only [List.length_cons]; omega
theorem stuck_cons {s : LS} (h : stuck s = true) : ∃ it K, s.left = it :: K ∧ isCall it = true ∧ s.still = 20 := by
  obtain ⟨L, vs, sd, st⟩ := s
  unfold stuck at h
  cases L with
  | nil => simp at h
  | cons it K =>
    cases it with
    | sm s =>
      cases s with
      | call x => exact ⟨_, K, rfl, rfl, by simpa using h⟩
      | _ => simp at h
    | _ => simp at h
theorem stuck_is {it : It} {K : List It} {vs sd : List Int} {st : Int} : stuck ⟨it :: K, vs, sd, st⟩ = (isCall it && decide (st = 20)) := by
  unfold stuck
  cases it with
  | sm s => cases s <;> simp [isCall]
  | _ => simp [isCall]
theorem run_loop {B M : D} {x11 : Option O} {most : Nat} (hM : M = .int most) (hmost : most ≤ 5000) (hc : 1 ≤ c ∧ c ≤ 4) (hb : ∀ b ∈ bs, BodyIs c bs.length b) (s : LS) (hk : OkS c bs s) (h1 : s.said.length = 0) (h2 : s.left.length ≤ 40) (x8 x9 x10 : Option O) :
    (∃ y8 y9 y10 steps, msWhile (e3__law_run f__law_value f__law_test_holds) (e4__law_run f__law_value f__law_test_holds) (envR (.tup [.int c, .tup (bs.map encB)]) B M (s.vals.map D.int) (s.said.map D.int) 0 s.still (s.left.reverse.map itD) x8 x9 x10 x11) =
      .ok .nx (envR (.tup [.int c, .tup (bs.map encB)]) B M ((goL bs most s).vals.map D.int) ((goL bs most s).said.map D.int) steps (goL bs most s).still ((goL bs most s).left.reverse.map itD) y8 y9 y10 x11)) ∨
    (∃ z0 z1 z2 e', msWhile (e3__law_run f__law_value f__law_test_holds) (e4__law_run f__law_value f__law_test_holds) (envR (.tup [.int c, .tup (bs.map encB)]) B M (s.vals.map D.int) (s.said.map D.int) 0 s.still (s.left.reverse.map itD) x8 x9 x10 x11) = .ok (.ret (.val .non)) (z0 :: z1 :: z2 :: e')) ∨
    (stuck (goL bs most s) = true ∧ ∃ z0 z1 z2 e', msWhile (e3__law_run f__law_value f__law_test_holds) (e4__law_run f__law_value f__law_test_holds) (envR (.tup [.int c, .tup (bs.map encB)]) B M (s.vals.map D.int) (s.said.map D.int) 0 s.still (s.left.reverse.map itD) x8 x9 x10 x11) = .ok (.ret (.val (.tup [.tup ((goL bs most s).said.map D.int), .str "fault", .tup ((goL bs most s).vals.map D.int)]))) (z0 :: z1 :: z2 :: e')) := by
  have hw := while_inv (t := e3__law_run f__law_value f__law_test_holds) (g := e4__law_run f__law_value f__law_test_holds)
    (I := fun n e => ∃ (k : Nat) (s' : LS) (y8 y9 y10 : Option O), n = most - k ∧ k ≤ most ∧ OkS c bs s' ∧ s'.said.length ≤ k ∧ s'.left.length ≤ 40 + 40 * k ∧ goL bs (most - k) s' = goL bs most s ∧ e = envR (.tup [.int c, .tup (bs.map encB)]) B M (s'.vals.map D.int) (s'.said.map D.int) (k : Nat) s'.still (s'.left.reverse.map itD) y8 y9 y10 x11)
    (R := fun e => ∃ (k : Nat) (s' : LS) (y8 y9 y10 : Option O), s' = goL bs most s ∧ e = envR (.tup [.int c, .tup (bs.map encB)]) B M (s'.vals.map D.int) (s'.said.map D.int) (k : Nat) s'.still (s'.left.reverse.map itD) y8 y9 y10 x11)
    (S := fun r e => (∃ z0 z1 z2 e', e = z0 :: z1 :: z2 :: e') ∧ (r = .val .non ∨ (stuck (goL bs most s) = true ∧ r = .val (.tup [.tup ((goL bs most s).said.map D.int), .str "fault", .tup ((goL bs most s).vals.map D.int)]))))
    (by
      rintro n e ⟨k, s', y8, y9, y10, rfl, g1, g2, g3, g4, g5, rfl⟩
      obtain ⟨L, vs, sd, st⟩ := s'
      cases L with
      | nil =>
        refine ⟨false, _, ?_, .inl ⟨rfl, k, ⟨[], vs, sd, st⟩, y8, y9, y10, ?_, rfl⟩⟩
        · unfold e3__law_run envR
          simp
        · rw [← g5, goL_dead rfl]
      | cons it K =>
        have hlen : (0 : Int) < (((it :: K).reverse.map itD).map O.s).length := by simp
        by_cases hd : k < most
        · have hd' : (k : Int) < (most : Int) := by omega
          have ht : e3__law_run f__law_value f__law_test_holds (envR (.tup [.int c, .tup (bs.map encB)]) B M (vs.map D.int) (sd.map D.int) (k : Nat) st ((it :: K).reverse.map itD) y8 y9 y10 x11) = .ok true (envR (.tup [.int c, .tup (bs.map encB)]) B M (vs.map D.int) (sd.map D.int) (k : Nat) st ((it :: K).reverse.map itD) y8 y9 y10 x11) := by
            unfold e3__law_run envR
            rw [hM]
            generalize ((it :: K).reverse.map itD).map O.s = LO at *
            simp [hlen, hd']
            rintro rfl
            simp at hlen
          refine ⟨true, _, ht, .inr ⟨rfl, ?_⟩⟩
          cases hst : stuck ⟨it :: K, vs, sd, st⟩ with
          | true =>
            obtain ⟨it', K', q1, q2, q3⟩ := stuck_cons hst
            simp only [List.cons.injEq] at q1
            obtain ⟨rfl, rfl⟩ := q1
            have q3 : st = 20 := q3
            subst q3
            obtain ⟨z0, z1, z2, e', q⟩ := turn_fault (c := c) (bs := bs) (B := B) (M := M) (vs := vs) (sd := sd) (steps := (k : Nat)) (KD := K.reverse.map itD) (x8 := y8) (x9 := y9) (x10 := y10) (x11 := x11) q2
            have hr : (it :: K).reverse.map itD = K.reverse.map itD ++ [itD it] := by simp
            have hg : goL bs most s = ⟨it :: K, vs, sd, 20⟩ := by
              rw [← g5, goL_dead]
              unfold live
              rw [hst]
              simp
            refine .inr ⟨_, _, by rw [hr]; exact q, ⟨z0, z1, z2, e', rfl⟩, .inr ⟨by rw [hg]; exact hst, by rw [hg]⟩⟩
          | false =>
            have hT := turn_all (c := c) (bs := bs) (B := B) (M := M) (steps := (k : Nat)) (x8 := y8) (x9 := y9) (x10 := y10) (x11 := x11) hc hb g2 (by have : sd.length ≤ k := g3; omega) (by have : (it :: K).length ≤ 40 + 40 * k := g4; simp only [List.length_cons] at this; omega) hst
            rcases hT with ⟨z0, z1, z2, e', q⟩ | ⟨z8, z9, z10, q⟩
            · exact .inr ⟨_, _, q, ⟨z0, z1, z2, e', rfl⟩, .inl rfl⟩
            · refine .inl ⟨_, most - (k + 1), q, by omega, k + 1, stepL bs ⟨it :: K, vs, sd, st⟩, z8, z9, z10, rfl, by omega, g2.step hb, ?_, ?_, ?_, by rw [show ((k + 1 : Nat) : Int) = (k : Int) + 1 from by omega]⟩
              · have := step_said (bs := bs) ⟨it :: K, vs, sd, st⟩
                have g3 : sd.length ≤ k := g3
                have this : (stepL bs ⟨it :: K, vs, sd, st⟩).said.length ≤ sd.length + 1 := this
                omega
              · have := step_left hb g2
                have g4 : (it :: K).length ≤ 40 + 40 * k := g4
                have this : (stepL bs ⟨it :: K, vs, sd, st⟩).left.length ≤ (it :: K).length + 40 := this
                omega
              · rw [← g5, show most - k = (most - (k + 1)) + 1 from by omega]
                conv => rhs; unfold goL
                rw [if_pos (by unfold live; rw [hst]; simp)]
        · have hd' : ¬ (k : Int) < (most : Int) := by omega
          refine ⟨false, _, ?_, .inl ⟨rfl, k, ⟨it :: K, vs, sd, st⟩, y8, y9, y10, ?_, rfl⟩⟩
          · unfold e3__law_run envR
            rw [hM]
            simp [hd']
          · rw [← g5, show most - k = 0 from by omega]
            rfl) most _ ⟨0, s, x8, x9, x10, by omega, by omega, hk, by omega, by omega, rfl, rfl⟩
  rcases hw with ⟨e', q, k, s', y8, y9, y10, rfl, rfl⟩ | ⟨r, _, q, ⟨z0, z1, z2, e', rfl⟩, rfl | ⟨q2, rfl⟩⟩
  · exact .inl ⟨y8, y9, y10, _, q⟩
  · exact .inr (.inl ⟨z0, z1, z2, e', q⟩)
  · exact .inr (.inr ⟨q2, z0, z1, z2, e', q⟩)
@[simp] theorem ev_var11 {a b c d x y z u v w q : Option O} {o : O} {e : Env} : mVar 11 (a :: b :: c :: d :: x :: y :: z :: u :: v :: w :: q :: some o :: e) = .ok (o.rt 11) (a :: b :: c :: d :: x :: y :: z :: u :: v :: w :: q :: some o :: e) := Eq.trans rfl rfl
theorem lgO (P : D) (vs : List Int) (b : List Sm) (E : List D) (hE : E = (Sm.encs b).reverse) (hl : b.length ≤ 100) : gRev (.own (.lst ((Sm.encs b).map O.s))) = some (.own (.lst (E.map O.s))) ∧ E.length ≤ 100 := by
  rw [hE]
  exact ⟨ev_rev, by rw [List.length_reverse, Sm.encs_len]; exact hl⟩
theorem p_lrun {vs : List Int} (hv : vs.length = c) (hc : 1 ≤ c ∧ c ≤ 4) (hl : 1 ≤ bs.length ∧ bs.length ≤ 5) (hb : ∀ b ∈ bs, BodyIs c bs.length b) {most : Nat} (hmost : most ≤ 5000) :
    ∃ d, f__law_run [.s (.tup [.int c, .tup (bs.map encB)]), .s (.tup (vs.map D.int)), .s (.int most)] = .ok (.s d) [.s (.tup [.int c, .tup (bs.map encB)]), .s (.tup (vs.map D.int)), .s (.int most)] ∧ (d = .non ∨ d = tripD (goL bs most (startL bs vs))) := by
  have hm : bs.getD 0 [] ∈ bs := by rw [List.getD_eq_getElem?_getD, List.getElem?_eq_getElem (by omega)]; exact List.getElem_mem (by omega)
  have hb0 : bs[0]? = some (bs.getD 0 []) := by rw [List.getD_eq_getElem?_getD, List.getElem?_eq_getElem (by omega)]; rfl
  have hsz := (hb _ hm).2.2
  have hle := Sm.len_size (bs.getD 0 [])
  have hw := run_loop (B := .tup (vs.map D.int)) (M := .int most) (x11 := none) rfl hmost hc hb (startL bs vs) (start_ok hv hl.1 hb) rfl (by unfold startL; simp only [List.length_cons, List.length_append, List.length_map, List.length_nil]; omega) none none none
  have hl0 : (startL bs vs).left.reverse.map itD = D.tup [.str "end"] :: ((Sm.encs (bs.getD 0 [])).reverse ++ [D.tup [.str "begin"]]) := by
    rw [← its_enc, ← List.map_reverse]
    unfold startL
    simp [itD]
  have hat : atI (bs.map encB) 0 = some (.tup (Sm.encs (bs.getD 0 []))) := by
    show atI (bs.map encB) ((0 : Nat) : Int) = _
    exact atI_nat (by rw [List.getElem?_map, hb0]; rfl)
  rw [hl0] at hw
  have f2 : gRev (.own (.lst ((Sm.encs (bs.getD 0 [])).map O.s))) = some (.own (.lst ((Sm.encs (bs.getD 0 [])).reverse.map O.s))) := ev_rev
  have hE : (Sm.encs (bs.getD 0 [])).reverse.length ≤ 100 := by rw [List.length_reverse, Sm.encs_len]; omega
  generalize (Sm.encs (bs.getD 0 [])).reverse = E at *
  obtain ⟨b0, hb0'⟩ : ∃ b0, b0 = bs.getD 0 [] := ⟨_, rfl⟩
  rw [← hb0'] at hat f2
  have g1 := ga1 (.tup [.str "end"]) E (by omega)
  have g2 := ga2 (.tup [.str "end"]) (.tup [.str "begin"]) E (by omega)
  obtain ⟨X, hX⟩ : ∃ X : List D, X = .tup [.str "end"] :: (E ++ [.tup [.str "begin"]]) := ⟨_, rfl⟩
  rw [← hX] at g2 hw
  have hvs : (startL bs vs).vals = vs := rfl
  have hsd : (startL bs vs).said = [] := rfl
  have hst : (startL bs vs).still = 1 := rfl
  rw [hvs, hsd, hst] at hw
  clear hX hl0
  rcases hw with ⟨y8, y9, y10, steps, hw⟩ | ⟨z0, z1, z2, e', hw⟩ | ⟨hs, z0, z1, z2, e', hw⟩
  · refine ⟨_, ?_, .inr rfl⟩
    generalize goL bs most (startL bs vs) = s at *
    obtain ⟨L, vs', sd', st'⟩ := s
    unfold envR at hw
    simp only [List.map_nil] at hw
    unfold f__law_run b__law_run tripD wordL
    cases L with
    | nil =>
      simp only [List.reverse_nil, List.map_nil] at hw
      simp [-List.map_map, -ev_rev, hat, f2, g1, g2, hw, tupOf_bor]
    | cons it K =>
      have hr : ((it :: K).reverse.map itD).map O.s = (K.reverse.map itD).map O.s ++ [O.s (itD it)] := by simp
      simp only [hr] at hw
      have hx := ix_last (K.reverse.map itD).length
      have h1 := ix_hdL it
      have h2 := eq_hdL it
      rw [stuck_is]
      generalize K.reverse.map itD = KD at *
      generalize itD it = ID at *
      have hq : ¬ (KD.length : Int) + 1 = 0 := by omega
      cases hcall : isCall it with
      | false =>
        rw [hcall] at h2
        simp [-List.map_map, -ev_rev, hat, f2, g1, g2, hw, tupOf_bor, hx, h1, h2, hq]
      | true =>
        rw [hcall] at h2
        by_cases h20 : st' = 20
        · simp [-List.map_map, -ev_rev, hat, f2, g1, g2, hw, tupOf_bor, hx, h1, h2, hq, h20]
        · simp [-List.map_map, -ev_rev, hat, f2, g1, g2, hw, tupOf_bor, hx, h1, h2, hq, h20]
  · refine ⟨.non, ?_, .inl rfl⟩
    unfold envR at hw
    simp only [List.map_nil] at hw
    unfold f__law_run b__law_run
    simp [-List.map_map, -ev_rev, hat, f2, g1, g2, hw]
  · refine ⟨_, ?_, .inr rfl⟩
    obtain ⟨it, K, q1, q2, q3⟩ := stuck_cons hs
    have hW : wordL (goL bs most (startL bs vs)) = "fault" := by
      unfold wordL
      rw [hs, q1]
      rfl
    unfold tripD
    rw [hW]
    generalize goL bs most (startL bs vs) = s at *
    unfold envR at hw
    simp only [List.map_nil] at hw
    unfold f__law_run b__law_run
    simp [-List.map_map, -ev_rev, hat, f2, g1, g2, hw]
end
end L3
namespace L3
open PySem L2
def Same (n : Nat) (d : D) : Prop := f__law_is n [.s d, .s d] = .ok (.s (.bl true)) [.s d, .s d]
theorem eqb (b : Bool) : gEq (.val (.bl b)) (.val (.bl b)) = some (.val (.bl true)) := by
  cases b <;> rfl
theorem neb (b : Bool) : gNe (.val (.bl b)) (.val (.bl b)) = some (.val (.bl false)) := by
  cases b <;> rfl
theorem same_int (n : Nat) (i : Int) : Same (n + 1) (.int i) := by
  show runDef [] 2 (b__law_is (f__law_is n)) _ = _
  unfold b__law_is
  simp [eqb, neb]
theorem same_str (n : Nat) (s : Str) (hs : PyData.strOk s = true) : Same (n + 1) (.str s) := by
  show runDef [] 2 (b__law_is (f__law_is n)) _ = _
  unfold b__law_is
  simp [eqb, neb, hs]
theorem zip_self : ∀ (ds : List D), zipD ds ds = ds.map fun d => .tup [d, d]
  | [] => rfl
  | d :: ds => by
    show D.tup [d, d] :: zipD ds ds = _
    rw [zip_self ds]
    rfl
theorem same_tup (n : Nat) (ds : List D) (h : ∀ d ∈ ds, Same n d) (hl : ds.length ≤ 100000) : Same (n + 1) (.tup ds) := by
  obtain ⟨e', k1, x, y, rfl⟩ := lc_map (vs := [2, 3]) (set := setTup [2, 3]) (f := e1__law_is (f__law_is n)) (F := fun _ => D.bl true) (I := fun e => ∃ x y : Option O, e = [some (.s (.tup ds)), some (.s (.tup ds)), x, y])
    (zipD ds ds) [some (.s (.tup ds)), some (.s (.tup ds)), none, none]
    (by
      rintro e d ⟨x, y, rfl⟩ hd
      rw [zip_self] at hd
      obtain ⟨z, hz, rfl⟩ := List.mem_map.mp hd
      have e2 : f__law_is n [.s z, .s z] = _ := h z hz
      refine ⟨_, _, rfl, ?_, some (.s z), some (.s z), rfl⟩
      unfold e1__law_is
      simp [e2]) ⟨none, none, rfl⟩
  have e1 : (zipD ds ds).map (fun _ => D.bl true) = ((zipD ds ds).map fun _ => true).map D.bl := by rw [List.map_map]; rfl
  rw [e1] at k1
  have e3 : gAll [.own (.lst ((((zipD ds ds).map fun _ => true).map D.bl).map O.s))] = some (.val (.bl true)) := by rw [ev_gAllL, all_true]
  have hz : (zipD ds ds).length ≤ 16777216 := by rw [zip_self, List.length_map]; omega
  generalize ((zipD ds ds).map fun _ => true).map D.bl = bb at k1 e3
  show runDef [] 2 (b__law_is (f__law_is n)) _ = _
  unfold b__law_is
  simp [-List.map_map, eqb, neb, hz, k1, e3]
theorem same_ints (n : Nat) (l : List Int) (hl : l.length ≤ 100000) : Same (n + 2) (.tup (l.map D.int)) := same_tup (n + 1) _ (fun d hd => by
  obtain ⟨i, _, rfl⟩ := List.mem_map.mp hd
  exact same_int n i) (by rw [List.length_map]; exact hl)
theorem word_ok (s : LS) : PyData.strOk (wordL s) = true := by
  unfold wordL
  split
  · simp
  · split <;> simp
theorem same_trip (s : LS) (h1 : s.said.length ≤ 100000) (h2 : s.vals.length ≤ 100000) : Same 5 (tripD s) := by
  refine same_tup 4 _ (fun d hd => ?_) (by simp)
  rcases List.mem_cons.mp hd with rfl | hd
  · exact same_ints 2 _ h1
  rcases List.mem_cons.mp hd with rfl | hd
  · exact same_str 3 _ (word_ok s)
  · obtain rfl := List.mem_singleton.mp hd
    exact same_ints 2 _ h2
theorem step_pre (bs : List (List Sm)) (s : LS) : s.said <+: (stepL bs s).said := by
  obtain ⟨L, vs, sd, st⟩ := s
  cases L with
  | nil => exact List.prefix_rfl
  | cons it K =>
    cases it with
    | sm s =>
      cases s with
      | say l => exact List.prefix_append _ _
      | _ => exact List.prefix_rfl
    | _ => exact List.prefix_rfl
theorem go_pre (bs : List (List Sm)) : ∀ (n : Nat) (s : LS), s.said <+: (goL bs n s).said
  | 0, s => List.prefix_rfl
  | n + 1, s => by
    unfold goL
    split
    · exact (step_pre bs s).trans (go_pre bs n _)
    · exact List.prefix_rfl
theorem go_add (bs : List (List Sm)) : ∀ (n m : Nat) (s : LS), goL bs (n + m) s = goL bs m (goL bs n s)
  | 0, m, s => by rw [Nat.zero_add]; rfl
  | n + 1, m, s => by
    cases h : live s with
    | false => rw [goL_dead h, goL_dead h, goL_dead h]
    | true =>
      rw [show n + 1 + m = (n + m) + 1 from by omega]
      conv => lhs; unfold goL
      conv => rhs; rw [goL]
      rw [if_pos h, if_pos h]
      exact go_add bs n m _
theorem go_mono (bs : List (List Sm)) {p m : Nat} (h : p ≤ m) (s : LS) : (goL bs p s).said <+: (goL bs m s).said := by
  obtain ⟨k, rfl⟩ : ∃ k, m = p + k := ⟨m - p, by omega⟩
  rw [go_add]
  exact go_pre bs k _
theorem go_len (bs : List (List Sm)) : ∀ (n : Nat) (s : LS), (goL bs n s).said.length ≤ s.said.length + n
  | 0, s => by show s.said.length ≤ _; omega
  | n + 1, s => by
    unfold goL
    split
    · have h1 := go_len bs n (stepL bs s)
      have h2 := step_said (bs := bs) s
      omega
    · omega
theorem OkS.go {c : Nat} {bs : List (List Sm)} (hb : ∀ b ∈ bs, BodyIs c bs.length b) : ∀ (n : Nat) {s : LS}, OkS c bs s → OkS c bs (goL bs n s)
  | 0, s, h => h
  | n + 1, s, h => by
    unfold goL
    split
    · exact OkS.go hb n (h.step hb)
    · exact h
theorem ints_eqv (l : List Int) : PyData.eqvAll (l.map PyData.int) (l.map PyData.int) = true := by
  induction l with
  | nil => simp [PyData.eqvAll]
  | cons i l ih => simp [PyData.eqvAll, PyData.eqv, ih]
theorem ne_ints (l : List Int) : gNe (.val (.tup (l.map D.int))) (.val (.tup (l.map D.int))) = some (.val (.bl false)) := by
  have e : (D.tup (l.map D.int)).py = some (.tuple (l.map .int)) := by simp [D.py, ints_py]
  have hs : SeqAt.shaped (.tuple (l.map PyData.int)) = true := by
    unfold SeqAt.shaped
    rw [Bool.and_eq_true]
    exact ⟨by simp [PyData.canLay0, (ints_lay l).1], by simp [PyData.depth, (ints_lay l).2]⟩
  have hq : PyData.eqv (.tuple (l.map PyData.int)) (.tuple (l.map PyData.int)) = true := by simp [PyData.eqv, ints_eqv]
  unfold gNe eqD
  simp only [ev_sl2, ev_d2, e]
  simp [hs, hq]
end L3
namespace L3
open PySem L2
theorem for_brk {set : D → Env → Option Env} {g : MS} {I : List D → Env → Prop} {R : Env → Prop} (h0 : ∀ e, I [] e → R e)
    (step : ∀ d ds e, I (d :: ds) e → ∃ e1, set d e = some e1 ∧ ((∃ e2, g e1 = .ok .nx e2 ∧ I ds e2) ∨ (∃ e2, g e1 = .ok .brk e2 ∧ R e2))) : ∀ (items : List D) (e : Env), I items e → ∃ e', forL set g items e = .ok .nx e' ∧ R e'
  | [], e, h => ⟨e, rfl, h0 e h⟩
  | d :: ds, e, h => by
    obtain ⟨e1, h1, h2⟩ := step d ds e h
    rcases h2 with ⟨e2, h2, h3⟩ | ⟨e2, h2, h3⟩
    · obtain ⟨e', i1, i2⟩ := for_brk h0 step ds e2 h3
      exact ⟨e', by rw [forL_nx h1 h2]; exact i1, i2⟩
    · refine ⟨e2, ?_, h3⟩
      unfold forL
      rw [h1]
      simp only [Rs.bind, h2]
theorem ga3 (A : List D) (z : D) (h : A.length ≤ 100000) : gAdd (.own (.lst (A.map O.s))) (.own (.lst [.s z])) = some (.own (.lst ((A ++ [z]).map O.s))) := by
  have := ev_gAddL (ds := A) (es := [z])
  rw [if_pos (by simp; omega)] at this
  exact this
section
variable {c : Nat} {bs : List (List Sm)}
theorem some_loop {vs : List Int} (hv : vs.length = c) (hc : 1 ≤ c ∧ c ≤ 4) (hl : 1 ≤ bs.length ∧ bs.length ≤ 5) (hb : ∀ b ∈ bs, BodyIs c bs.length b) (S : O) (h : O) (x2 x8 x9 x10 : Option O) (SL : List O) (ms : List Nat) (hp : ms.Pairwise (· ≤ ·)) (hm : ∀ m ∈ ms, m ≤ 5000) :
    ∃ e' y7 y8 y9 y10, forL (setT [8]) (e1_law f__law_hand f__law_parts f_Book___init__ f__law_begins f__law_draw f__law_any f__law_run f_ran (f__law_is 5)) (ms.map fun (m : Nat) => D.int m)
      [some S, some h, x2, some (.s (.tup [.int c, .tup (bs.map encB)])), some (.s (bookD c bs)), some (.s (.tup (vs.map D.int))), some (.lst SL), some (.s (.tup [])), x8, x9, x10] = .ok .nx e' ∧ e' = [some S, some h, x2, some (.s (.tup [.int c, .tup (bs.map encB)])), some (.s (bookD c bs)), some (.s (.tup (vs.map D.int))), some (.lst SL), y7, y8, y9, y10] := by
  obtain ⟨e', k1, y7, y8, y9, y10, k2⟩ := for_brk (set := setT [8]) (g := e1_law f__law_hand f__law_parts f_Book___init__ f__law_begins f__law_draw f__law_any f__law_run f_ran (f__law_is 5))
    (I := fun ds e => ∃ (ms : List Nat) (p : Nat) (y8 y9 y10 : Option O), ds = ms.map (fun (m : Nat) => D.int m) ∧ ms.Pairwise (· ≤ ·) ∧ (∀ m ∈ ms, m ≤ 5000 ∧ p ≤ m) ∧ e = [some S, some h, x2, some (.s (.tup [.int c, .tup (bs.map encB)])), some (.s (bookD c bs)), some (.s (.tup (vs.map D.int))), some (.lst SL), some (.s (.tup ((goL bs p (startL bs vs)).said.map D.int))), y8, y9, y10])
    (R := fun e => ∃ y7 y8 y9 y10, e = [some S, some h, x2, some (.s (.tup [.int c, .tup (bs.map encB)])), some (.s (bookD c bs)), some (.s (.tup (vs.map D.int))), some (.lst SL), y7, y8, y9, y10])
    (by
      rintro e ⟨ms, p, y8, y9, y10, _, _, _, rfl⟩
      exact ⟨_, _, _, _, rfl⟩)
    (by
      rintro d ds e ⟨ms, p, y8, y9, y10, h1, h2, h3, rfl⟩
      cases ms with
      | nil => cases h1
      | cons m ms =>
        rw [List.map_cons] at h1
        simp only [List.cons.injEq] at h1
        obtain ⟨rfl, rfl⟩ := h1
        obtain ⟨m1, m2⟩ := h3 m (by simp)
        have hS := start_ok hv hl.1 hb
        obtain ⟨d, e1, hd⟩ := p_lrun hv hc hl hb (most := m) m1
        have e2 := p_ran hv hc hl hb (most := m) m1
        refine ⟨_, rfl, ?_⟩
        rcases hd with rfl | rfl
        · right
          refine ⟨[some S, some h, x2, some (.s (.tup [.int c, .tup (bs.map encB)])), some (.s (bookD c bs)), some (.s (.tup (vs.map D.int))), some (.lst SL), some (.s (.tup ((goL bs p (startL bs vs)).said.map D.int))), some (.s (.int m)), some (.s .non), y10], ?_, _, _, _, _, rfl⟩
          unfold e1_law
          simp [-List.map_map, e1]
        · left
          have e3 : f__law_is 5 [.s (tripD (goL bs m (startL bs vs))), .s (tripD (goL bs m (startL bs vs)))] = _ := same_trip _ (by have := go_len bs m (startL bs vs); have : (startL bs vs).said.length = 0 := rfl; omega) (by have := (hS.go hb m).1; omega)
          have hpre := go_mono bs m2 (startL bs vs)
          have e4 : gIx (.val (tripD (goL bs m (startL bs vs)))) (.val (.int 0)) = some (.val (.tup ((goL bs m (startL bs vs)).said.map D.int))) := by unfold tripD; simp [-List.map_map]
          have e5 : cut ((goL bs m (startL bs vs)).said.map D.int) none (some (((goL bs p (startL bs vs)).said.map D.int).length : Int)) = (goL bs p (startL bs vs)).said.map D.int := by
            rw [List.length_map, cut_to _ _ (by rw [List.length_map]; exact hpre.length_le), ← List.map_take, List.prefix_iff_eq_take.mp hpre, List.length_take]
            rw [Nat.min_eq_left hpre.length_le]
          have e6 := ne_ints (goL bs p (startL bs vs)).said
          have e7 : (tripD (goL bs m (startL bs vs))).isN = false := rfl
          generalize tripD (goL bs m (startL bs vs)) = TD at *
          refine ⟨[some S, some h, x2, some (.s (.tup [.int c, .tup (bs.map encB)])), some (.s (bookD c bs)), some (.s (.tup (vs.map D.int))), some (.lst SL), some (.s (.tup ((goL bs m (startL bs vs)).said.map D.int))), some (.s (.int m)), some (.s TD), some (.s TD)], ?_, ms, m, _, _, _, rfl, (List.pairwise_cons.mp h2).2, fun m' hm' => ⟨(h3 m' (by simp [hm'])).1, (List.pairwise_cons.mp h2).1 m' hm'⟩, rfl⟩
          generalize (goL bs m (startL bs vs)).said.map D.int = MD at *
          generalize (goL bs p (startL bs vs)).said.map D.int = PD at *
          unfold e1_law
          simp [-List.map_map, e1, e2, e3, e4, e5, e6, e7]) (ms.map fun (m : Nat) => D.int m) [some S, some h, x2, some (.s (.tup [.int c, .tup (bs.map encB)])), some (.s (bookD c bs)), some (.s (.tup (vs.map D.int))), some (.lst SL), some (.s (.tup [])), x8, x9, x10] ⟨ms, 0, x8, x9, x10, rfl, hp, fun m hm' => ⟨hm m hm', Nat.zero_le m⟩, rfl⟩
  exact ⟨e', y7, y8, y9, y10, k1, k2⟩
theorem law_turn {S : O} {h : O} (hh : Hd h) (x3 x4 x5 x6 x7 x8 x9 x10 : Option O) (i : D) : ∃ h' y3 y4 y5 y6 y7 y8 y9 y10, Hd h' ∧ e2_law f__law_hand f__law_parts f_Book___init__ f__law_begins f__law_draw f__law_any f__law_run f_ran (f__law_is 5) [some S, some h, some (.s i), x3, x4, x5, x6, x7, x8, x9, x10] = .ok .nx [some S, some h', some (.s i), y3, y4, y5, y6, y7, y8, y9, y10] := by
  obtain ⟨h1, c, bs, e1, hh1, hc, hl, hb⟩ := hh.parts
  obtain ⟨h2, vs, e2, hh2, hv⟩ := hh1.begins c (by omega)
  have e3 := p_book c bs hc hl hb
  obtain ⟨h3, v, e4, hh3, v0, v1⟩ := hh2.draw (many := 40) (by decide) (by decide)
  obtain ⟨v, rfl⟩ : ∃ y : Nat, v = y := ⟨v.toNat, by omega⟩
  obtain ⟨h4, w, e5, hh4, hw⟩ := hh3.any (ds := [.int 60, .int 200, .int 700, .int 5000]) (by simp) (by simp)
  obtain ⟨w, rfl, hw1, hw2⟩ : ∃ k : Nat, w = .int k ∧ 60 ≤ k ∧ k ≤ 5000 := by
    simp at hw
    rcases hw with rfl | rfl | rfl | rfl
    · exact ⟨60, rfl, by decide, by decide⟩
    · exact ⟨200, rfl, by decide, by decide⟩
    · exact ⟨700, rfl, by decide, by decide⟩
    · exact ⟨5000, rfl, by decide, by decide⟩
  have hv40 : v < 40 := by omega
  have hz : rngD 0 (1 + v) ++ [.int w] = (List.range' 0 (1 + v) ++ [w]).map fun (m : Nat) => D.int m := by rw [rngD_r, List.map_append]; rfl
  obtain ⟨e', y7, y8, y9, y10, k1, rfl⟩ := some_loop hv hc hl hb S h4 (some (.s i)) x8 x9 x10 ((rngD 0 (1 + v) ++ [D.int w]).map O.s) (List.range' 0 (1 + v) ++ [w])
    (by
      rw [List.pairwise_append]
      refine ⟨List.pairwise_le_range' (s := 0) (n := 1 + v), by simp, fun a ha b hb => ?_⟩
      have := List.mem_range'_1.mp ha
      have : b = w := by simpa using hb
      omega)
    (fun m hm => by
      rcases List.mem_append.mp hm with q | q
      · have := List.mem_range'_1.mp q; omega
      · have : m = w := by simpa using q
        omega)
  rw [← hz] at k1
  have g3 := ga3 (rngD 0 (1 + v)) (.int w) (by rw [rngD_len]; omega)
  have g4 : gLRg (.val (.int (1 + (v : Int)))) = some (.own (.lst ((rngD 0 (1 + v)).map O.s))) := by
    rw [ev_lrg, if_pos ⟨by omega, by omega⟩, show (1 + (v : Int)).toNat = 1 + v from by omega]
  generalize rngD 0 (1 + v) ++ [D.int w] = SL at *
  generalize rngD 0 (1 + v) = RG at *
  have hbd : (bookO c bs).d = bookD c bs := by unfold bookO bookD; simp [-List.map_map]
  have hbr : (bookO c bs).rr = .own (bookO c bs) := rfl
  refine ⟨h4, some (.s (.tup [.int c, .tup (bs.map encB)])), some (.s (bookD c bs)), some (.s (.tup (vs.map D.int))), some (.lst (SL.map O.s)), y7, y8, y9, y10, hh4, ?_⟩
  generalize bookO c bs = BO at *
  generalize bookD c bs = BD at *
  generalize bs.map encB = PD at *
  generalize vs.map D.int = VD at *
  unfold e2_law
  simp [-List.map_map, -ev_lrg, e1, e2, e3, e4, e5, g3, g4, hbd, hbr, k1]
def LawTrue (f : List O → Rr) : Prop := ∀ ns : List Int, ns.length ≤ 63 → ∃ outs, f [.s (.lst (ns.map D.int))] = .ok (.s (.bl true)) outs
theorem law_true : LawTrue f_law := fun ns hn => by
  obtain ⟨h, e1, hh⟩ := p_hand ns hn
  obtain ⟨e', k1, h', x2, x3, x4, x5, x6, x7, x8, x9, x10, rfl, hh'⟩ := for_inv (set := setT [2]) (g := e2_law f__law_hand f__law_parts f_Book___init__ f__law_begins f__law_draw f__law_any f__law_run f_ran (f__law_is 5))
    (I := fun _ e => ∃ (h : O) (x2 x3 x4 x5 x6 x7 x8 x9 x10 : Option O), e = [some (.s (.lst (ns.map D.int))), some h, x2, x3, x4, x5, x6, x7, x8, x9, x10] ∧ Hd h)
    (by
      rintro d ds e ⟨h, x2, x3, x4, x5, x6, x7, x8, x9, x10, rfl, hh⟩
      obtain ⟨h', y3, y4, y5, y6, y7, y8, y9, y10, hh', q⟩ := law_turn (S := .s (.lst (ns.map D.int))) hh x3 x4 x5 x6 x7 x8 x9 x10 d
      exact ⟨_, _, rfl, q, h', _, _, _, _, _, _, _, _, _, rfl, hh'⟩) (rngD 0 4) [some (.s (.lst (ns.map D.int))), some h, none, none, none, none, none, none, none, none, none] ⟨h, none, none, none, none, none, none, none, none, none, rfl, hh⟩
  have hrg : ∀ e : Env, rg1K (.ok [.val (.int 4)] e) = .ok ⟨rngD 0 4, none⟩ e := fun e => rg1_is (j := 4) (by decide) (by decide)
  obtain ⟨cs, a, b, c, d, rfl, ha⟩ := hh
  refine ⟨[.s (.lst (ns.map D.int))], ?_⟩
  have hr : (hnd cs a b c d).rr = .own (hnd cs a b c d) := rfl
  generalize hnd cs a b c d = H at *
  unfold f_law b_law
  simp [-List.map_map, e1, hr, hrg, k1]
end
end L3
namespace L3
open PySem L2
def clOf (l : List Addr) (n : Nat) : Addr := l.getD n 0
theorem spG_len0 {K : PySem.W.Frag} {cl : Nat → Addr} (n : Nat) : ∀ (vs : List V) (H : Hp) (Q : VK) (E : XK), spG K cl n (fun _ => .bad) vs H Q E → vs.length = n ∧ False := fun vs H Q E h => by
  have l := spG_len h
  obtain ⟨F, os, fp, _, _, _, _, _, w⟩ := h
  exact ⟨l, w⟩
theorem fn_bad {P : Program} {w : World} {K : PySem.W.Frag} {mg : Str → Option Value} {base : Heap} {k : Nat} {f : Addr} {fd : FuncData} {ps : List Str} {sp : Sp} (h : ∀ vs H Q E, sp vs H Q E → vs.length = ps.length ∧ False) : FnOk P w K mg base CX0 k f fd ps sp :=
  ⟨fun vs H Q E q => (h vs H Q E q).1, fun A outer s H args us vs Q E hr he hb hv hs => (h _ _ _ _ hs).2.elim⟩
def spLaw (K : PySem.W.Frag) : Sp := fun vs H Q _ => ∃ (a : Addr) (ns : List Int), vs = [.ref a] ∧ SqL K H a (ns.map V.int) ∧ ns.length ≤ 63 ∧ ∀ H', Q (.bl true) H'
theorem ints_rp {K : PySem.W.Frag} {cl : Nat → Addr} {F : Hp} (ns : List Int) : RpDs K cl F (ns.map D.int) (ns.map V.int) := by
  induction ns with
  | nil => rfl
  | cons n ns ih => exact ⟨_, _, rfl, rfl, ih⟩
theorem spLaw_of {K : PySem.W.Frag} {cl : Nat → Addr} {f : List O → Rr} (hlaw : LawTrue f) {vs : List V} {H : Hp} {Q : VK} {E : XK} (h : spLaw K vs H Q E) : spG K cl 1 f vs H Q E := by
  obtain ⟨a, ns, rfl, hS, hl, k⟩ := h
  obtain ⟨outs, e⟩ := hlaw ns hl
  refine ⟨H, [.s (.lst (ns.map D.int))], [], rfl, Ex.refl _, ⟨_, _, [], [], rfl, rfl, ⟨rfl, a, _, rfl, hS, ints_rp ns⟩, rfl, rfl⟩, List.nodup_nil, fun a ha => by simp at ha, ?_⟩
  rw [e]
  intro v F' H' fr fp' _ r _
  have : v = .bl true := r.2
  subst this
  exact k H'
def TabE : List DictEntry → List (Str × D) → Prop
  | [], [] => True
  | e :: es, (k, d) :: r => (∃ t, e.key = .str k t) ∧ (∃ v0, RelV v0 e.val ∧ ∀ (K : PySem.W.Frag) (cl : Nat → Addr) (F : Hp), RpD K cl F d v0) ∧ e.refKey = false ∧ TabE es r
  | _, _ => False
theorem tabE_find : ∀ {es : List DictEntry} {tab : List (Str × D)} (z : Str), TabE es tab → es.any (·.refKey) = false ∧ match lookT tab z with
    | none => es.find? (·.key.isStr z) = none
    | some dd => ∃ (e : DictEntry) (v0 : V), es.find? (·.key.isStr z) = some e ∧ RelV v0 e.val ∧ ∀ (K : PySem.W.Frag) (cl : Nat → Addr) (F : Hp), RpD K cl F dd v0
  | [], [], z, _ => ⟨rfl, rfl⟩
  | [], _ :: _, z, h => h.elim
  | _ :: _, [], z, h => h.elim
  | e :: es, (k, d) :: r, z, ⟨⟨t, hk⟩, ⟨v0, r0, q⟩, hr, h⟩ => by
    obtain ⟨i1, i2⟩ := tabE_find z h
    refine ⟨by rw [List.any_cons, hr, i1]; rfl, ?_⟩
    unfold lookT
    by_cases e1 : k = z
    · rw [if_pos e1]
      refine ⟨e, v0, ?_, r0, q⟩
      rw [List.find?_cons_of_pos]
      rw [hk]; show (k == z) = true; rw [e1]; exact beq_self_eq_true z
    · rw [if_neg e1]
      have e2 : e.key.isStr z = false := by rw [hk]; show (k == z) = false; exact beq_false_of_ne e1
      rw [List.find?_cons_of_neg (by rw [e2]; exact Bool.false_ne_true)]
      exact i2
theorem ktab_of {K : PySem.W.Frag} {cl : Nat → Addr} {d : Addr} {oc : Value} {od : Option Addr} {sl : Array (Option Value)} {es : Array DictEntry} {n : Nat} {tab : List (Str × D)} (l : K.lookup d = some ⟨oc, od, .dict es n, sl⟩) (h : TabE es.toList tab) : KTab K cl d tab := fun z => by
  obtain ⟨h1, h2⟩ := tabE_find z h
  unfold PySem.W.nsIn
  rw [l]
  dsimp only
  cases q : lookT tab z with
  | none =>
    rw [q] at h2
    have h2 : es.toList.find? (·.key.isStr z) = none := h2
    rw [h2, h1]
    exact ⟨none, rfl, rfl⟩
  | some dd =>
    rw [q] at h2
    obtain ⟨e, v0, f1, r0, k⟩ := h2
    rw [f1]
    exact ⟨_, rfl, _, v0, rfl, r0, fun F => k K cl F⟩
theorem all_mk {l : PySem.W.OpenLaw} {w : World} {K : PySem.W.Frag} {h : Heap} {mg : Str → Option Value} {fa : Addr} (hlaw : LawTrue f_law) (X : K.In h) (G : h.Ns mainGlobals mg) (hfa : mg "law" = some (.ref fa)) {C_Book : Addr} {C_Layout : Addr} {C_Moment : Addr} {C_Runner : Addr} {a_is_integer : Addr} {a_is_within : Addr} {a_check_number : Addr} {a_is_sum : Addr} {a_is_test : Addr} {a_statement_size : Addr} {a_body_size : Addr} {a_wrong_part : Addr} {a_Book___init__ : Addr} {a_Layout_ways_at : Addr} {a_Layout_head_of : Addr} {a_Layout_place_for : Addr} {a_Layout_lay : Addr} {a_Layout___init__ : Addr} {a_layout_of : Addr} {a_value_of : Addr} {a_holds : Addr} {a_are_contents : Addr} {a_Moment___init__ : Addr} {a_Runner___init__ : Addr} {a_Runner_now : Addr} {a_Runner_deed_now : Addr} {a_Runner_word : Addr} {a_Runner_contents : Addr} {a_Runner_said : Addr} {a_Runner_gone : Addr} {a_Runner_moved : Addr} {a_Runner_step : Addr} {a_Runner_is_stopped : Addr} {a_Runner_go : Addr} {a_ran : Addr} {a__law_hand : Addr} {a__law_draw : Addr} {a__law_any : Addr} {a__law_is : Addr} {a__law_sum : Addr} {a__law_alone : Addr} {a__law_test : Addr} {a__law_size : Addr} {a__law_statement : Addr} {a__law_body : Addr} {a__law_parts : Addr} {a__law_begins : Addr} {a__law_value : Addr} {a__law_test_holds : Addr} {a__law_run : Addr} {a_law : Addr} {o1_is_integer v1_is_integer v2_is_integer v3_is_integer v4_is_integer v5_is_integer : Value} {o2_is_integer n_is_integer : Option Addr} {sl_is_integer : Array (Option Value)} {o1_is_within v1_is_within v2_is_within v3_is_within v4_is_within v5_is_within : Value} {o2_is_within n_is_within : Option Addr} {sl_is_within : Array (Option Value)} {o1_check_number v1_check_number v2_check_number v3_check_number v4_check_number v5_check_number : Value} {o2_check_number n_check_number : Option Addr} {sl_check_number : Array (Option Value)} {o1_is_sum v1_is_sum v2_is_sum v3_is_sum v4_is_sum v5_is_sum : Value} {o2_is_sum n_is_sum : Option Addr} {sl_is_sum : Array (Option Value)} {o1_is_test v1_is_test v2_is_test v3_is_test v4_is_test v5_is_test : Value} {o2_is_test n_is_test : Option Addr} {sl_is_test : Array (Option Value)} {o1_statement_size v1_statement_size v2_statement_size v3_statement_size v4_statement_size v5_statement_size : Value} {o2_statement_size n_statement_size : Option Addr} {sl_statement_size : Array (Option Value)} {o1_body_size v1_body_size v2_body_size v3_body_size v4_body_size v5_body_size : Value} {o2_body_size n_body_size : Option Addr} {sl_body_size : Array (Option Value)} {o1_wrong_part v1_wrong_part v2_wrong_part v3_wrong_part v4_wrong_part v5_wrong_part : Value} {o2_wrong_part n_wrong_part : Option Addr} {sl_wrong_part : Array (Option Value)} {o1_Book___init__ v1_Book___init__ v2_Book___init__ v3_Book___init__ v4_Book___init__ v5_Book___init__ : Value} {o2_Book___init__ n_Book___init__ : Option Addr} {sl_Book___init__ : Array (Option Value)} {o1_Layout_ways_at v1_Layout_ways_at v2_Layout_ways_at v3_Layout_ways_at v4_Layout_ways_at v5_Layout_ways_at : Value} {o2_Layout_ways_at n_Layout_ways_at : Option Addr} {sl_Layout_ways_at : Array (Option Value)} {o1_Layout_head_of v1_Layout_head_of v2_Layout_head_of v3_Layout_head_of v4_Layout_head_of v5_Layout_head_of : Value} {o2_Layout_head_of n_Layout_head_of : Option Addr} {sl_Layout_head_of : Array (Option Value)} {o1_Layout_place_for v1_Layout_place_for v2_Layout_place_for v3_Layout_place_for v4_Layout_place_for v5_Layout_place_for : Value} {o2_Layout_place_for n_Layout_place_for : Option Addr} {sl_Layout_place_for : Array (Option Value)} {o1_Layout_lay v1_Layout_lay v2_Layout_lay v3_Layout_lay v4_Layout_lay v5_Layout_lay : Value} {o2_Layout_lay n_Layout_lay : Option Addr} {sl_Layout_lay : Array (Option Value)} {o1_Layout___init__ v1_Layout___init__ v2_Layout___init__ v3_Layout___init__ v4_Layout___init__ v5_Layout___init__ : Value} {o2_Layout___init__ n_Layout___init__ : Option Addr} {sl_Layout___init__ : Array (Option Value)} {o1_layout_of v1_layout_of v2_layout_of v3_layout_of v4_layout_of v5_layout_of : Value} {o2_layout_of n_layout_of : Option Addr} {sl_layout_of : Array (Option Value)} {o1_value_of v1_value_of v2_value_of v3_value_of v4_value_of v5_value_of : Value} {o2_value_of n_value_of : Option Addr} {sl_value_of : Array (Option Value)} {o1_holds v1_holds v2_holds v3_holds v4_holds v5_holds : Value} {o2_holds n_holds : Option Addr} {sl_holds : Array (Option Value)} {o1_are_contents v1_are_contents v2_are_contents v3_are_contents v4_are_contents v5_are_contents : Value} {o2_are_contents n_are_contents : Option Addr} {sl_are_contents : Array (Option Value)} {o1_Moment___init__ v1_Moment___init__ v2_Moment___init__ v3_Moment___init__ v4_Moment___init__ v5_Moment___init__ : Value} {o2_Moment___init__ n_Moment___init__ : Option Addr} {sl_Moment___init__ : Array (Option Value)} {o1_Runner___init__ v1_Runner___init__ v2_Runner___init__ v3_Runner___init__ v4_Runner___init__ v5_Runner___init__ : Value} {o2_Runner___init__ n_Runner___init__ : Option Addr} {sl_Runner___init__ : Array (Option Value)} {o1_Runner_now v1_Runner_now v2_Runner_now v3_Runner_now v4_Runner_now v5_Runner_now : Value} {o2_Runner_now n_Runner_now : Option Addr} {sl_Runner_now : Array (Option Value)} {o1_Runner_deed_now v1_Runner_deed_now v2_Runner_deed_now v3_Runner_deed_now v4_Runner_deed_now v5_Runner_deed_now : Value} {o2_Runner_deed_now n_Runner_deed_now : Option Addr} {sl_Runner_deed_now : Array (Option Value)} {o1_Runner_word v1_Runner_word v2_Runner_word v3_Runner_word v4_Runner_word v5_Runner_word : Value} {o2_Runner_word n_Runner_word : Option Addr} {sl_Runner_word : Array (Option Value)} {o1_Runner_contents v1_Runner_contents v2_Runner_contents v3_Runner_contents v4_Runner_contents v5_Runner_contents : Value} {o2_Runner_contents n_Runner_contents : Option Addr} {sl_Runner_contents : Array (Option Value)} {o1_Runner_said v1_Runner_said v2_Runner_said v3_Runner_said v4_Runner_said v5_Runner_said : Value} {o2_Runner_said n_Runner_said : Option Addr} {sl_Runner_said : Array (Option Value)} {o1_Runner_gone v1_Runner_gone v2_Runner_gone v3_Runner_gone v4_Runner_gone v5_Runner_gone : Value} {o2_Runner_gone n_Runner_gone : Option Addr} {sl_Runner_gone : Array (Option Value)} {o1_Runner_moved v1_Runner_moved v2_Runner_moved v3_Runner_moved v4_Runner_moved v5_Runner_moved : Value} {o2_Runner_moved n_Runner_moved : Option Addr} {sl_Runner_moved : Array (Option Value)} {o1_Runner_step v1_Runner_step v2_Runner_step v3_Runner_step v4_Runner_step v5_Runner_step : Value} {o2_Runner_step n_Runner_step : Option Addr} {sl_Runner_step : Array (Option Value)} {o1_Runner_is_stopped v1_Runner_is_stopped v2_Runner_is_stopped v3_Runner_is_stopped v4_Runner_is_stopped v5_Runner_is_stopped : Value} {o2_Runner_is_stopped n_Runner_is_stopped : Option Addr} {sl_Runner_is_stopped : Array (Option Value)} {o1_Runner_go v1_Runner_go v2_Runner_go v3_Runner_go v4_Runner_go v5_Runner_go : Value} {o2_Runner_go n_Runner_go : Option Addr} {sl_Runner_go : Array (Option Value)} {o1_ran v1_ran v2_ran v3_ran v4_ran v5_ran : Value} {o2_ran n_ran : Option Addr} {sl_ran : Array (Option Value)} {o1__law_hand v1__law_hand v2__law_hand v3__law_hand v4__law_hand v5__law_hand : Value} {o2__law_hand n__law_hand : Option Addr} {sl__law_hand : Array (Option Value)} {o1__law_draw v1__law_draw v2__law_draw v3__law_draw v4__law_draw v5__law_draw : Value} {o2__law_draw n__law_draw : Option Addr} {sl__law_draw : Array (Option Value)} {o1__law_any v1__law_any v2__law_any v3__law_any v4__law_any v5__law_any : Value} {o2__law_any n__law_any : Option Addr} {sl__law_any : Array (Option Value)} {o1__law_is v1__law_is v2__law_is v3__law_is v4__law_is v5__law_is : Value} {o2__law_is n__law_is : Option Addr} {sl__law_is : Array (Option Value)} {o1__law_sum v1__law_sum v2__law_sum v3__law_sum v4__law_sum v5__law_sum : Value} {o2__law_sum n__law_sum : Option Addr} {sl__law_sum : Array (Option Value)} {o1__law_alone v1__law_alone v2__law_alone v3__law_alone v4__law_alone v5__law_alone : Value} {o2__law_alone n__law_alone : Option Addr} {sl__law_alone : Array (Option Value)} {o1__law_test v1__law_test v2__law_test v3__law_test v4__law_test v5__law_test : Value} {o2__law_test n__law_test : Option Addr} {sl__law_test : Array (Option Value)} {o1__law_size v1__law_size v2__law_size v3__law_size v4__law_size v5__law_size : Value} {o2__law_size n__law_size : Option Addr} {sl__law_size : Array (Option Value)} {o1__law_statement v1__law_statement v2__law_statement v3__law_statement v4__law_statement v5__law_statement : Value} {o2__law_statement n__law_statement : Option Addr} {sl__law_statement : Array (Option Value)} {o1__law_body v1__law_body v2__law_body v3__law_body v4__law_body v5__law_body : Value} {o2__law_body n__law_body : Option Addr} {sl__law_body : Array (Option Value)} {o1__law_parts v1__law_parts v2__law_parts v3__law_parts v4__law_parts v5__law_parts : Value} {o2__law_parts n__law_parts : Option Addr} {sl__law_parts : Array (Option Value)} {o1__law_begins v1__law_begins v2__law_begins v3__law_begins v4__law_begins v5__law_begins : Value} {o2__law_begins n__law_begins : Option Addr} {sl__law_begins : Array (Option Value)} {o1__law_value v1__law_value v2__law_value v3__law_value v4__law_value v5__law_value : Value} {o2__law_value n__law_value : Option Addr} {sl__law_value : Array (Option Value)} {o1__law_test_holds v1__law_test_holds v2__law_test_holds v3__law_test_holds v4__law_test_holds v5__law_test_holds : Value} {o2__law_test_holds n__law_test_holds : Option Addr} {sl__law_test_holds : Array (Option Value)} {o1__law_run v1__law_run v2__law_run v3__law_run v4__law_run v5__law_run : Value} {o2__law_run n__law_run : Option Addr} {sl__law_run : Array (Option Value)} {o1_law v1_law v2_law v3_law v4_law v5_law : Value} {o2_law n_law : Option Addr} {sl_law : Array (Option Value)} {t_BEGIN : Tok} {t_CALL : Tok} {t_END : Tok} {t_FAULT : Tok} {t_IF : Tok} {t_JOIN : Tok} {t_LESS : Tok} {t_MOST_CELLS : Tok} {t_MOST_DEEP : Tok} {t_MOST_MULTIPLE : Tok} {t_MOST_OPEN : Tok} {t_MOST_PLACES : Tok} {t_MOST_ROUTINES : Tok} {t_MOST_STEPS : Tok} {t_NO : Tok} {t_ON : Tok} {t_OVER : Tok} {t_RUNS : Tok} {t_SAME : Tok} {t_SAY : Tok} {t_SET : Tok} {t_WHILE : Tok} {t_YES : Tok} {aS : Addr} {eS : Array DictEntry} {nS : Nat}
  (aC_Book : PySem.W.nsIn K mainGlobals "Book" = some (some (.ref C_Book)))
  (aC_Layout : PySem.W.nsIn K mainGlobals "Layout" = some (some (.ref C_Layout)))
  (aC_Moment : PySem.W.nsIn K mainGlobals "Moment" = some (some (.ref C_Moment)))
  (aC_Runner : PySem.W.nsIn K mainGlobals "Runner" = some (some (.ref C_Runner)))
  (g_is_integer : PySem.W.nsIn K mainGlobals "is_integer" = some (some (.ref a_is_integer)))
  (l_is_integer : K.lookup a_is_integer = some ⟨o1_is_integer, o2_is_integer, .func (PySem.W.fnOf "is_integer" "is_integer" (defArgs s_is_integer) (defBody s_is_integer) (defScope s_is_integer) .none v1_is_integer v2_is_integer v3_is_integer n_is_integer v4_is_integer v5_is_integer), sl_is_integer⟩)
  (c_is_integer : PySem.W.codeIn K v4_is_integer "is_integer" = true)
  (k_is_integer : PySem.W.keepIn K (.ref a_is_integer) = true)
  (g_is_within : PySem.W.nsIn K mainGlobals "is_within" = some (some (.ref a_is_within)))
  (l_is_within : K.lookup a_is_within = some ⟨o1_is_within, o2_is_within, .func (PySem.W.fnOf "is_within" "is_within" (defArgs s_is_within) (defBody s_is_within) (defScope s_is_within) .none v1_is_within v2_is_within v3_is_within n_is_within v4_is_within v5_is_within), sl_is_within⟩)
  (c_is_within : PySem.W.codeIn K v4_is_within "is_within" = true)
  (k_is_within : PySem.W.keepIn K (.ref a_is_within) = true)
  (g_check_number : PySem.W.nsIn K mainGlobals "check_number" = some (some (.ref a_check_number)))
  (l_check_number : K.lookup a_check_number = some ⟨o1_check_number, o2_check_number, .func (PySem.W.fnOf "check_number" "check_number" (defArgs s_check_number) (defBody s_check_number) (defScope s_check_number) .none v1_check_number v2_check_number v3_check_number n_check_number v4_check_number v5_check_number), sl_check_number⟩)
  (c_check_number : PySem.W.codeIn K v4_check_number "check_number" = true)
  (k_check_number : PySem.W.keepIn K (.ref a_check_number) = true)
  (g_is_sum : PySem.W.nsIn K mainGlobals "is_sum" = some (some (.ref a_is_sum)))
  (l_is_sum : K.lookup a_is_sum = some ⟨o1_is_sum, o2_is_sum, .func (PySem.W.fnOf "is_sum" "is_sum" (defArgs s_is_sum) (defBody s_is_sum) (defScope s_is_sum) .none v1_is_sum v2_is_sum v3_is_sum n_is_sum v4_is_sum v5_is_sum), sl_is_sum⟩)
  (c_is_sum : PySem.W.codeIn K v4_is_sum "is_sum" = true)
  (k_is_sum : PySem.W.keepIn K (.ref a_is_sum) = true)
  (g_is_test : PySem.W.nsIn K mainGlobals "is_test" = some (some (.ref a_is_test)))
  (l_is_test : K.lookup a_is_test = some ⟨o1_is_test, o2_is_test, .func (PySem.W.fnOf "is_test" "is_test" (defArgs s_is_test) (defBody s_is_test) (defScope s_is_test) .none v1_is_test v2_is_test v3_is_test n_is_test v4_is_test v5_is_test), sl_is_test⟩)
  (c_is_test : PySem.W.codeIn K v4_is_test "is_test" = true)
  (k_is_test : PySem.W.keepIn K (.ref a_is_test) = true)
  (g_statement_size : PySem.W.nsIn K mainGlobals "statement_size" = some (some (.ref a_statement_size)))
  (l_statement_size : K.lookup a_statement_size = some ⟨o1_statement_size, o2_statement_size, .func (PySem.W.fnOf "statement_size" "statement_size" (defArgs s_statement_size) (defBody s_statement_size) (defScope s_statement_size) .none v1_statement_size v2_statement_size v3_statement_size n_statement_size v4_statement_size v5_statement_size), sl_statement_size⟩)
  (c_statement_size : PySem.W.codeIn K v4_statement_size "statement_size" = true)
  (k_statement_size : PySem.W.keepIn K (.ref a_statement_size) = true)
  (g_body_size : PySem.W.nsIn K mainGlobals "body_size" = some (some (.ref a_body_size)))
  (l_body_size : K.lookup a_body_size = some ⟨o1_body_size, o2_body_size, .func (PySem.W.fnOf "body_size" "body_size" (defArgs s_body_size) (defBody s_body_size) (defScope s_body_size) .none v1_body_size v2_body_size v3_body_size n_body_size v4_body_size v5_body_size), sl_body_size⟩)
  (c_body_size : PySem.W.codeIn K v4_body_size "body_size" = true)
  (k_body_size : PySem.W.keepIn K (.ref a_body_size) = true)
  (g_wrong_part : PySem.W.nsIn K mainGlobals "wrong_part" = some (some (.ref a_wrong_part)))
  (l_wrong_part : K.lookup a_wrong_part = some ⟨o1_wrong_part, o2_wrong_part, .func (PySem.W.fnOf "wrong_part" "wrong_part" (defArgs s_wrong_part) (defBody s_wrong_part) (defScope s_wrong_part) .none v1_wrong_part v2_wrong_part v3_wrong_part n_wrong_part v4_wrong_part v5_wrong_part), sl_wrong_part⟩)
  (c_wrong_part : PySem.W.codeIn K v4_wrong_part "wrong_part" = true)
  (k_wrong_part : PySem.W.keepIn K (.ref a_wrong_part) = true)
  (g_Book___init__ : PySem.W.findIn K (.ref C_Book) "__init__" = some (some (.ref a_Book___init__)))
  (i_Book___init__ : PySem.W.isFn K (.ref a_Book___init__) = true)
  (l_Book___init__ : K.lookup a_Book___init__ = some ⟨o1_Book___init__, o2_Book___init__, .func (PySem.W.fnOf "__init__" "Book.__init__" (defArgs s_Book___init__) (defBody s_Book___init__) (defScope s_Book___init__) .none v1_Book___init__ v2_Book___init__ v3_Book___init__ n_Book___init__ v4_Book___init__ v5_Book___init__), sl_Book___init__⟩)
  (c_Book___init__ : PySem.W.codeIn K v4_Book___init__ "Book.__init__" = true)
  (k_Book___init__ : PySem.W.keepIn K (.ref a_Book___init__) = true)
  (g_Layout_ways_at : PySem.W.findIn K (.ref C_Layout) "ways_at" = some (some (.ref a_Layout_ways_at)))
  (i_Layout_ways_at : PySem.W.isFn K (.ref a_Layout_ways_at) = true)
  (l_Layout_ways_at : K.lookup a_Layout_ways_at = some ⟨o1_Layout_ways_at, o2_Layout_ways_at, .func (PySem.W.fnOf "ways_at" "Layout.ways_at" (defArgs s_Layout_ways_at) (defBody s_Layout_ways_at) (defScope s_Layout_ways_at) .none v1_Layout_ways_at v2_Layout_ways_at v3_Layout_ways_at n_Layout_ways_at v4_Layout_ways_at v5_Layout_ways_at), sl_Layout_ways_at⟩)
  (c_Layout_ways_at : PySem.W.codeIn K v4_Layout_ways_at "Layout.ways_at" = true)
  (k_Layout_ways_at : PySem.W.keepIn K (.ref a_Layout_ways_at) = true)
  (g_Layout_head_of : PySem.W.findIn K (.ref C_Layout) "head_of" = some (some (.ref a_Layout_head_of)))
  (i_Layout_head_of : PySem.W.isFn K (.ref a_Layout_head_of) = true)
  (l_Layout_head_of : K.lookup a_Layout_head_of = some ⟨o1_Layout_head_of, o2_Layout_head_of, .func (PySem.W.fnOf "head_of" "Layout.head_of" (defArgs s_Layout_head_of) (defBody s_Layout_head_of) (defScope s_Layout_head_of) .none v1_Layout_head_of v2_Layout_head_of v3_Layout_head_of n_Layout_head_of v4_Layout_head_of v5_Layout_head_of), sl_Layout_head_of⟩)
  (c_Layout_head_of : PySem.W.codeIn K v4_Layout_head_of "Layout.head_of" = true)
  (k_Layout_head_of : PySem.W.keepIn K (.ref a_Layout_head_of) = true)
  (g_Layout_place_for : PySem.W.findIn K (.ref C_Layout) "place_for" = some (some (.ref a_Layout_place_for)))
  (i_Layout_place_for : PySem.W.isFn K (.ref a_Layout_place_for) = true)
  (l_Layout_place_for : K.lookup a_Layout_place_for = some ⟨o1_Layout_place_for, o2_Layout_place_for, .func (PySem.W.fnOf "place_for" "Layout.place_for" (defArgs s_Layout_place_for) (defBody s_Layout_place_for) (defScope s_Layout_place_for) .none v1_Layout_place_for v2_Layout_place_for v3_Layout_place_for n_Layout_place_for v4_Layout_place_for v5_Layout_place_for), sl_Layout_place_for⟩)
  (c_Layout_place_for : PySem.W.codeIn K v4_Layout_place_for "Layout.place_for" = true)
  (k_Layout_place_for : PySem.W.keepIn K (.ref a_Layout_place_for) = true)
  (g_Layout_lay : PySem.W.findIn K (.ref C_Layout) "lay" = some (some (.ref a_Layout_lay)))
  (i_Layout_lay : PySem.W.isFn K (.ref a_Layout_lay) = true)
  (l_Layout_lay : K.lookup a_Layout_lay = some ⟨o1_Layout_lay, o2_Layout_lay, .func (PySem.W.fnOf "lay" "Layout.lay" (defArgs s_Layout_lay) (defBody s_Layout_lay) (defScope s_Layout_lay) .none v1_Layout_lay v2_Layout_lay v3_Layout_lay n_Layout_lay v4_Layout_lay v5_Layout_lay), sl_Layout_lay⟩)
  (c_Layout_lay : PySem.W.codeIn K v4_Layout_lay "Layout.lay" = true)
  (k_Layout_lay : PySem.W.keepIn K (.ref a_Layout_lay) = true)
  (g_Layout___init__ : PySem.W.findIn K (.ref C_Layout) "__init__" = some (some (.ref a_Layout___init__)))
  (i_Layout___init__ : PySem.W.isFn K (.ref a_Layout___init__) = true)
  (l_Layout___init__ : K.lookup a_Layout___init__ = some ⟨o1_Layout___init__, o2_Layout___init__, .func (PySem.W.fnOf "__init__" "Layout.__init__" (defArgs s_Layout___init__) (defBody s_Layout___init__) (defScope s_Layout___init__) .none v1_Layout___init__ v2_Layout___init__ v3_Layout___init__ n_Layout___init__ v4_Layout___init__ v5_Layout___init__), sl_Layout___init__⟩)
  (c_Layout___init__ : PySem.W.codeIn K v4_Layout___init__ "Layout.__init__" = true)
  (k_Layout___init__ : PySem.W.keepIn K (.ref a_Layout___init__) = true)
  (g_layout_of : PySem.W.nsIn K mainGlobals "layout_of" = some (some (.ref a_layout_of)))
  (l_layout_of : K.lookup a_layout_of = some ⟨o1_layout_of, o2_layout_of, .func (PySem.W.fnOf "layout_of" "layout_of" (defArgs s_layout_of) (defBody s_layout_of) (defScope s_layout_of) .none v1_layout_of v2_layout_of v3_layout_of n_layout_of v4_layout_of v5_layout_of), sl_layout_of⟩)
  (c_layout_of : PySem.W.codeIn K v4_layout_of "layout_of" = true)
  (k_layout_of : PySem.W.keepIn K (.ref a_layout_of) = true)
  (g_value_of : PySem.W.nsIn K mainGlobals "value_of" = some (some (.ref a_value_of)))
  (l_value_of : K.lookup a_value_of = some ⟨o1_value_of, o2_value_of, .func (PySem.W.fnOf "value_of" "value_of" (defArgs s_value_of) (defBody s_value_of) (defScope s_value_of) .none v1_value_of v2_value_of v3_value_of n_value_of v4_value_of v5_value_of), sl_value_of⟩)
  (c_value_of : PySem.W.codeIn K v4_value_of "value_of" = true)
  (k_value_of : PySem.W.keepIn K (.ref a_value_of) = true)
  (g_holds : PySem.W.nsIn K mainGlobals "holds" = some (some (.ref a_holds)))
  (l_holds : K.lookup a_holds = some ⟨o1_holds, o2_holds, .func (PySem.W.fnOf "holds" "holds" (defArgs s_holds) (defBody s_holds) (defScope s_holds) .none v1_holds v2_holds v3_holds n_holds v4_holds v5_holds), sl_holds⟩)
  (c_holds : PySem.W.codeIn K v4_holds "holds" = true)
  (k_holds : PySem.W.keepIn K (.ref a_holds) = true)
  (g_are_contents : PySem.W.nsIn K mainGlobals "are_contents" = some (some (.ref a_are_contents)))
  (l_are_contents : K.lookup a_are_contents = some ⟨o1_are_contents, o2_are_contents, .func (PySem.W.fnOf "are_contents" "are_contents" (defArgs s_are_contents) (defBody s_are_contents) (defScope s_are_contents) .none v1_are_contents v2_are_contents v3_are_contents n_are_contents v4_are_contents v5_are_contents), sl_are_contents⟩)
  (c_are_contents : PySem.W.codeIn K v4_are_contents "are_contents" = true)
  (k_are_contents : PySem.W.keepIn K (.ref a_are_contents) = true)
  (g_Moment___init__ : PySem.W.findIn K (.ref C_Moment) "__init__" = some (some (.ref a_Moment___init__)))
  (i_Moment___init__ : PySem.W.isFn K (.ref a_Moment___init__) = true)
  (l_Moment___init__ : K.lookup a_Moment___init__ = some ⟨o1_Moment___init__, o2_Moment___init__, .func (PySem.W.fnOf "__init__" "Moment.__init__" (defArgs s_Moment___init__) (defBody s_Moment___init__) (defScope s_Moment___init__) .none v1_Moment___init__ v2_Moment___init__ v3_Moment___init__ n_Moment___init__ v4_Moment___init__ v5_Moment___init__), sl_Moment___init__⟩)
  (c_Moment___init__ : PySem.W.codeIn K v4_Moment___init__ "Moment.__init__" = true)
  (k_Moment___init__ : PySem.W.keepIn K (.ref a_Moment___init__) = true)
  (g_Runner___init__ : PySem.W.findIn K (.ref C_Runner) "__init__" = some (some (.ref a_Runner___init__)))
  (i_Runner___init__ : PySem.W.isFn K (.ref a_Runner___init__) = true)
  (l_Runner___init__ : K.lookup a_Runner___init__ = some ⟨o1_Runner___init__, o2_Runner___init__, .func (PySem.W.fnOf "__init__" "Runner.__init__" (defArgs s_Runner___init__) (defBody s_Runner___init__) (defScope s_Runner___init__) .none v1_Runner___init__ v2_Runner___init__ v3_Runner___init__ n_Runner___init__ v4_Runner___init__ v5_Runner___init__), sl_Runner___init__⟩)
  (c_Runner___init__ : PySem.W.codeIn K v4_Runner___init__ "Runner.__init__" = true)
  (k_Runner___init__ : PySem.W.keepIn K (.ref a_Runner___init__) = true)
  (g_Runner_now : PySem.W.findIn K (.ref C_Runner) "now" = some (some (.ref a_Runner_now)))
  (i_Runner_now : PySem.W.isFn K (.ref a_Runner_now) = true)
  (l_Runner_now : K.lookup a_Runner_now = some ⟨o1_Runner_now, o2_Runner_now, .func (PySem.W.fnOf "now" "Runner.now" (defArgs s_Runner_now) (defBody s_Runner_now) (defScope s_Runner_now) .none v1_Runner_now v2_Runner_now v3_Runner_now n_Runner_now v4_Runner_now v5_Runner_now), sl_Runner_now⟩)
  (c_Runner_now : PySem.W.codeIn K v4_Runner_now "Runner.now" = true)
  (k_Runner_now : PySem.W.keepIn K (.ref a_Runner_now) = true)
  (g_Runner_deed_now : PySem.W.findIn K (.ref C_Runner) "deed_now" = some (some (.ref a_Runner_deed_now)))
  (i_Runner_deed_now : PySem.W.isFn K (.ref a_Runner_deed_now) = true)
  (l_Runner_deed_now : K.lookup a_Runner_deed_now = some ⟨o1_Runner_deed_now, o2_Runner_deed_now, .func (PySem.W.fnOf "deed_now" "Runner.deed_now" (defArgs s_Runner_deed_now) (defBody s_Runner_deed_now) (defScope s_Runner_deed_now) .none v1_Runner_deed_now v2_Runner_deed_now v3_Runner_deed_now n_Runner_deed_now v4_Runner_deed_now v5_Runner_deed_now), sl_Runner_deed_now⟩)
  (c_Runner_deed_now : PySem.W.codeIn K v4_Runner_deed_now "Runner.deed_now" = true)
  (k_Runner_deed_now : PySem.W.keepIn K (.ref a_Runner_deed_now) = true)
  (g_Runner_word : PySem.W.findIn K (.ref C_Runner) "word" = some (some (.ref a_Runner_word)))
  (i_Runner_word : PySem.W.isFn K (.ref a_Runner_word) = true)
  (l_Runner_word : K.lookup a_Runner_word = some ⟨o1_Runner_word, o2_Runner_word, .func (PySem.W.fnOf "word" "Runner.word" (defArgs s_Runner_word) (defBody s_Runner_word) (defScope s_Runner_word) .none v1_Runner_word v2_Runner_word v3_Runner_word n_Runner_word v4_Runner_word v5_Runner_word), sl_Runner_word⟩)
  (c_Runner_word : PySem.W.codeIn K v4_Runner_word "Runner.word" = true)
  (k_Runner_word : PySem.W.keepIn K (.ref a_Runner_word) = true)
  (g_Runner_contents : PySem.W.findIn K (.ref C_Runner) "contents" = some (some (.ref a_Runner_contents)))
  (i_Runner_contents : PySem.W.isFn K (.ref a_Runner_contents) = true)
  (l_Runner_contents : K.lookup a_Runner_contents = some ⟨o1_Runner_contents, o2_Runner_contents, .func (PySem.W.fnOf "contents" "Runner.contents" (defArgs s_Runner_contents) (defBody s_Runner_contents) (defScope s_Runner_contents) .none v1_Runner_contents v2_Runner_contents v3_Runner_contents n_Runner_contents v4_Runner_contents v5_Runner_contents), sl_Runner_contents⟩)
  (c_Runner_contents : PySem.W.codeIn K v4_Runner_contents "Runner.contents" = true)
  (k_Runner_contents : PySem.W.keepIn K (.ref a_Runner_contents) = true)
  (g_Runner_said : PySem.W.findIn K (.ref C_Runner) "said" = some (some (.ref a_Runner_said)))
  (i_Runner_said : PySem.W.isFn K (.ref a_Runner_said) = true)
  (l_Runner_said : K.lookup a_Runner_said = some ⟨o1_Runner_said, o2_Runner_said, .func (PySem.W.fnOf "said" "Runner.said" (defArgs s_Runner_said) (defBody s_Runner_said) (defScope s_Runner_said) .none v1_Runner_said v2_Runner_said v3_Runner_said n_Runner_said v4_Runner_said v5_Runner_said), sl_Runner_said⟩)
  (c_Runner_said : PySem.W.codeIn K v4_Runner_said "Runner.said" = true)
  (k_Runner_said : PySem.W.keepIn K (.ref a_Runner_said) = true)
  (g_Runner_gone : PySem.W.findIn K (.ref C_Runner) "gone" = some (some (.ref a_Runner_gone)))
  (i_Runner_gone : PySem.W.isFn K (.ref a_Runner_gone) = true)
  (l_Runner_gone : K.lookup a_Runner_gone = some ⟨o1_Runner_gone, o2_Runner_gone, .func (PySem.W.fnOf "gone" "Runner.gone" (defArgs s_Runner_gone) (defBody s_Runner_gone) (defScope s_Runner_gone) .none v1_Runner_gone v2_Runner_gone v3_Runner_gone n_Runner_gone v4_Runner_gone v5_Runner_gone), sl_Runner_gone⟩)
  (c_Runner_gone : PySem.W.codeIn K v4_Runner_gone "Runner.gone" = true)
  (k_Runner_gone : PySem.W.keepIn K (.ref a_Runner_gone) = true)
  (g_Runner_moved : PySem.W.findIn K (.ref C_Runner) "moved" = some (some (.ref a_Runner_moved)))
  (i_Runner_moved : PySem.W.isFn K (.ref a_Runner_moved) = true)
  (l_Runner_moved : K.lookup a_Runner_moved = some ⟨o1_Runner_moved, o2_Runner_moved, .func (PySem.W.fnOf "moved" "Runner.moved" (defArgs s_Runner_moved) (defBody s_Runner_moved) (defScope s_Runner_moved) .none v1_Runner_moved v2_Runner_moved v3_Runner_moved n_Runner_moved v4_Runner_moved v5_Runner_moved), sl_Runner_moved⟩)
  (c_Runner_moved : PySem.W.codeIn K v4_Runner_moved "Runner.moved" = true)
  (k_Runner_moved : PySem.W.keepIn K (.ref a_Runner_moved) = true)
  (g_Runner_step : PySem.W.findIn K (.ref C_Runner) "step" = some (some (.ref a_Runner_step)))
  (i_Runner_step : PySem.W.isFn K (.ref a_Runner_step) = true)
  (l_Runner_step : K.lookup a_Runner_step = some ⟨o1_Runner_step, o2_Runner_step, .func (PySem.W.fnOf "step" "Runner.step" (defArgs s_Runner_step) (defBody s_Runner_step) (defScope s_Runner_step) .none v1_Runner_step v2_Runner_step v3_Runner_step n_Runner_step v4_Runner_step v5_Runner_step), sl_Runner_step⟩)
  (c_Runner_step : PySem.W.codeIn K v4_Runner_step "Runner.step" = true)
  (k_Runner_step : PySem.W.keepIn K (.ref a_Runner_step) = true)
  (g_Runner_is_stopped : PySem.W.findIn K (.ref C_Runner) "is_stopped" = some (some (.ref a_Runner_is_stopped)))
  (i_Runner_is_stopped : PySem.W.isFn K (.ref a_Runner_is_stopped) = true)
  (l_Runner_is_stopped : K.lookup a_Runner_is_stopped = some ⟨o1_Runner_is_stopped, o2_Runner_is_stopped, .func (PySem.W.fnOf "is_stopped" "Runner.is_stopped" (defArgs s_Runner_is_stopped) (defBody s_Runner_is_stopped) (defScope s_Runner_is_stopped) .none v1_Runner_is_stopped v2_Runner_is_stopped v3_Runner_is_stopped n_Runner_is_stopped v4_Runner_is_stopped v5_Runner_is_stopped), sl_Runner_is_stopped⟩)
  (c_Runner_is_stopped : PySem.W.codeIn K v4_Runner_is_stopped "Runner.is_stopped" = true)
  (k_Runner_is_stopped : PySem.W.keepIn K (.ref a_Runner_is_stopped) = true)
  (g_Runner_go : PySem.W.findIn K (.ref C_Runner) "go" = some (some (.ref a_Runner_go)))
  (i_Runner_go : PySem.W.isFn K (.ref a_Runner_go) = true)
  (l_Runner_go : K.lookup a_Runner_go = some ⟨o1_Runner_go, o2_Runner_go, .func (PySem.W.fnOf "go" "Runner.go" (defArgs s_Runner_go) (defBody s_Runner_go) (defScope s_Runner_go) .none v1_Runner_go v2_Runner_go v3_Runner_go n_Runner_go v4_Runner_go v5_Runner_go), sl_Runner_go⟩)
  (c_Runner_go : PySem.W.codeIn K v4_Runner_go "Runner.go" = true)
  (k_Runner_go : PySem.W.keepIn K (.ref a_Runner_go) = true)
  (g_ran : PySem.W.nsIn K mainGlobals "ran" = some (some (.ref a_ran)))
  (l_ran : K.lookup a_ran = some ⟨o1_ran, o2_ran, .func (PySem.W.fnOf "ran" "ran" (defArgs s_ran) (defBody s_ran) (defScope s_ran) .none v1_ran v2_ran v3_ran n_ran v4_ran v5_ran), sl_ran⟩)
  (c_ran : PySem.W.codeIn K v4_ran "ran" = true)
  (k_ran : PySem.W.keepIn K (.ref a_ran) = true)
  (g__law_hand : PySem.W.nsIn K mainGlobals "_law_hand" = some (some (.ref a__law_hand)))
  (l__law_hand : K.lookup a__law_hand = some ⟨o1__law_hand, o2__law_hand, .func (PySem.W.fnOf "_law_hand" "_law_hand" (defArgs s__law_hand) (defBody s__law_hand) (defScope s__law_hand) .none v1__law_hand v2__law_hand v3__law_hand n__law_hand v4__law_hand v5__law_hand), sl__law_hand⟩)
  (c__law_hand : PySem.W.codeIn K v4__law_hand "_law_hand" = true)
  (k__law_hand : PySem.W.keepIn K (.ref a__law_hand) = true)
  (g__law_draw : PySem.W.nsIn K mainGlobals "_law_draw" = some (some (.ref a__law_draw)))
  (l__law_draw : K.lookup a__law_draw = some ⟨o1__law_draw, o2__law_draw, .func (PySem.W.fnOf "_law_draw" "_law_draw" (defArgs s__law_draw) (defBody s__law_draw) (defScope s__law_draw) .none v1__law_draw v2__law_draw v3__law_draw n__law_draw v4__law_draw v5__law_draw), sl__law_draw⟩)
  (c__law_draw : PySem.W.codeIn K v4__law_draw "_law_draw" = true)
  (k__law_draw : PySem.W.keepIn K (.ref a__law_draw) = true)
  (g__law_any : PySem.W.nsIn K mainGlobals "_law_any" = some (some (.ref a__law_any)))
  (l__law_any : K.lookup a__law_any = some ⟨o1__law_any, o2__law_any, .func (PySem.W.fnOf "_law_any" "_law_any" (defArgs s__law_any) (defBody s__law_any) (defScope s__law_any) .none v1__law_any v2__law_any v3__law_any n__law_any v4__law_any v5__law_any), sl__law_any⟩)
  (c__law_any : PySem.W.codeIn K v4__law_any "_law_any" = true)
  (k__law_any : PySem.W.keepIn K (.ref a__law_any) = true)
  (g__law_is : PySem.W.nsIn K mainGlobals "_law_is" = some (some (.ref a__law_is)))
  (l__law_is : K.lookup a__law_is = some ⟨o1__law_is, o2__law_is, .func (PySem.W.fnOf "_law_is" "_law_is" (defArgs s__law_is) (defBody s__law_is) (defScope s__law_is) .none v1__law_is v2__law_is v3__law_is n__law_is v4__law_is v5__law_is), sl__law_is⟩)
  (c__law_is : PySem.W.codeIn K v4__law_is "_law_is" = true)
  (k__law_is : PySem.W.keepIn K (.ref a__law_is) = true)
  (g__law_sum : PySem.W.nsIn K mainGlobals "_law_sum" = some (some (.ref a__law_sum)))
  (l__law_sum : K.lookup a__law_sum = some ⟨o1__law_sum, o2__law_sum, .func (PySem.W.fnOf "_law_sum" "_law_sum" (defArgs s__law_sum) (defBody s__law_sum) (defScope s__law_sum) .none v1__law_sum v2__law_sum v3__law_sum n__law_sum v4__law_sum v5__law_sum), sl__law_sum⟩)
  (c__law_sum : PySem.W.codeIn K v4__law_sum "_law_sum" = true)
  (k__law_sum : PySem.W.keepIn K (.ref a__law_sum) = true)
  (g__law_alone : PySem.W.nsIn K mainGlobals "_law_alone" = some (some (.ref a__law_alone)))
  (l__law_alone : K.lookup a__law_alone = some ⟨o1__law_alone, o2__law_alone, .func (PySem.W.fnOf "_law_alone" "_law_alone" (defArgs s__law_alone) (defBody s__law_alone) (defScope s__law_alone) .none v1__law_alone v2__law_alone v3__law_alone n__law_alone v4__law_alone v5__law_alone), sl__law_alone⟩)
  (c__law_alone : PySem.W.codeIn K v4__law_alone "_law_alone" = true)
  (k__law_alone : PySem.W.keepIn K (.ref a__law_alone) = true)
  (g__law_test : PySem.W.nsIn K mainGlobals "_law_test" = some (some (.ref a__law_test)))
  (l__law_test : K.lookup a__law_test = some ⟨o1__law_test, o2__law_test, .func (PySem.W.fnOf "_law_test" "_law_test" (defArgs s__law_test) (defBody s__law_test) (defScope s__law_test) .none v1__law_test v2__law_test v3__law_test n__law_test v4__law_test v5__law_test), sl__law_test⟩)
  (c__law_test : PySem.W.codeIn K v4__law_test "_law_test" = true)
  (k__law_test : PySem.W.keepIn K (.ref a__law_test) = true)
  (g__law_size : PySem.W.nsIn K mainGlobals "_law_size" = some (some (.ref a__law_size)))
  (l__law_size : K.lookup a__law_size = some ⟨o1__law_size, o2__law_size, .func (PySem.W.fnOf "_law_size" "_law_size" (defArgs s__law_size) (defBody s__law_size) (defScope s__law_size) .none v1__law_size v2__law_size v3__law_size n__law_size v4__law_size v5__law_size), sl__law_size⟩)
  (c__law_size : PySem.W.codeIn K v4__law_size "_law_size" = true)
  (k__law_size : PySem.W.keepIn K (.ref a__law_size) = true)
  (g__law_statement : PySem.W.nsIn K mainGlobals "_law_statement" = some (some (.ref a__law_statement)))
  (l__law_statement : K.lookup a__law_statement = some ⟨o1__law_statement, o2__law_statement, .func (PySem.W.fnOf "_law_statement" "_law_statement" (defArgs s__law_statement) (defBody s__law_statement) (defScope s__law_statement) .none v1__law_statement v2__law_statement v3__law_statement n__law_statement v4__law_statement v5__law_statement), sl__law_statement⟩)
  (c__law_statement : PySem.W.codeIn K v4__law_statement "_law_statement" = true)
  (k__law_statement : PySem.W.keepIn K (.ref a__law_statement) = true)
  (g__law_body : PySem.W.nsIn K mainGlobals "_law_body" = some (some (.ref a__law_body)))
  (l__law_body : K.lookup a__law_body = some ⟨o1__law_body, o2__law_body, .func (PySem.W.fnOf "_law_body" "_law_body" (defArgs s__law_body) (defBody s__law_body) (defScope s__law_body) .none v1__law_body v2__law_body v3__law_body n__law_body v4__law_body v5__law_body), sl__law_body⟩)
  (c__law_body : PySem.W.codeIn K v4__law_body "_law_body" = true)
  (k__law_body : PySem.W.keepIn K (.ref a__law_body) = true)
  (g__law_parts : PySem.W.nsIn K mainGlobals "_law_parts" = some (some (.ref a__law_parts)))
  (l__law_parts : K.lookup a__law_parts = some ⟨o1__law_parts, o2__law_parts, .func (PySem.W.fnOf "_law_parts" "_law_parts" (defArgs s__law_parts) (defBody s__law_parts) (defScope s__law_parts) .none v1__law_parts v2__law_parts v3__law_parts n__law_parts v4__law_parts v5__law_parts), sl__law_parts⟩)
  (c__law_parts : PySem.W.codeIn K v4__law_parts "_law_parts" = true)
  (k__law_parts : PySem.W.keepIn K (.ref a__law_parts) = true)
  (g__law_begins : PySem.W.nsIn K mainGlobals "_law_begins" = some (some (.ref a__law_begins)))
  (l__law_begins : K.lookup a__law_begins = some ⟨o1__law_begins, o2__law_begins, .func (PySem.W.fnOf "_law_begins" "_law_begins" (defArgs s__law_begins) (defBody s__law_begins) (defScope s__law_begins) .none v1__law_begins v2__law_begins v3__law_begins n__law_begins v4__law_begins v5__law_begins), sl__law_begins⟩)
  (c__law_begins : PySem.W.codeIn K v4__law_begins "_law_begins" = true)
  (k__law_begins : PySem.W.keepIn K (.ref a__law_begins) = true)
  (g__law_value : PySem.W.nsIn K mainGlobals "_law_value" = some (some (.ref a__law_value)))
  (l__law_value : K.lookup a__law_value = some ⟨o1__law_value, o2__law_value, .func (PySem.W.fnOf "_law_value" "_law_value" (defArgs s__law_value) (defBody s__law_value) (defScope s__law_value) .none v1__law_value v2__law_value v3__law_value n__law_value v4__law_value v5__law_value), sl__law_value⟩)
  (c__law_value : PySem.W.codeIn K v4__law_value "_law_value" = true)
  (k__law_value : PySem.W.keepIn K (.ref a__law_value) = true)
  (g__law_test_holds : PySem.W.nsIn K mainGlobals "_law_test_holds" = some (some (.ref a__law_test_holds)))
  (l__law_test_holds : K.lookup a__law_test_holds = some ⟨o1__law_test_holds, o2__law_test_holds, .func (PySem.W.fnOf "_law_test_holds" "_law_test_holds" (defArgs s__law_test_holds) (defBody s__law_test_holds) (defScope s__law_test_holds) .none v1__law_test_holds v2__law_test_holds v3__law_test_holds n__law_test_holds v4__law_test_holds v5__law_test_holds), sl__law_test_holds⟩)
  (c__law_test_holds : PySem.W.codeIn K v4__law_test_holds "_law_test_holds" = true)
  (k__law_test_holds : PySem.W.keepIn K (.ref a__law_test_holds) = true)
  (g__law_run : PySem.W.nsIn K mainGlobals "_law_run" = some (some (.ref a__law_run)))
  (l__law_run : K.lookup a__law_run = some ⟨o1__law_run, o2__law_run, .func (PySem.W.fnOf "_law_run" "_law_run" (defArgs s__law_run) (defBody s__law_run) (defScope s__law_run) .none v1__law_run v2__law_run v3__law_run n__law_run v4__law_run v5__law_run), sl__law_run⟩)
  (c__law_run : PySem.W.codeIn K v4__law_run "_law_run" = true)
  (k__law_run : PySem.W.keepIn K (.ref a__law_run) = true)
  (g_law : PySem.W.nsIn K mainGlobals "law" = some (some (.ref a_law)))
  (l_law : K.lookup a_law = some ⟨o1_law, o2_law, .func (PySem.W.fnOf "law" "law" (defArgs s_law) (defBody s_law) (defScope s_law) .none v1_law v2_law v3_law n_law v4_law v5_law), sl_law⟩)
  (c_law : PySem.W.codeIn K v4_law "law" = true)
  (k_law : PySem.W.keepIn K (.ref a_law) = true)
  (pg_Book : PySem.W.plainGet K C_Book Str.empty = true)
  (hd_Book : PySem.W.hasDictIn K C_Book = true)
  (po_Book : PySem.W.plainOver K C_Book = true)
  (sa_Book : PySem.W.findIn K (.ref C_Book) "__setattr__" = some (some (.builtin "object.__setattr__")))
  (mk_Book : PySem.W.makesIn K C_Book = true)
  (kc_Book : PySem.W.keepIn K (.ref C_Book) = true)
  (pg_Layout : PySem.W.plainGet K C_Layout Str.empty = true)
  (hd_Layout : PySem.W.hasDictIn K C_Layout = true)
  (po_Layout : PySem.W.plainOver K C_Layout = true)
  (sa_Layout : PySem.W.findIn K (.ref C_Layout) "__setattr__" = some (some (.builtin "object.__setattr__")))
  (mk_Layout : PySem.W.makesIn K C_Layout = true)
  (kc_Layout : PySem.W.keepIn K (.ref C_Layout) = true)
  (pg_Moment : PySem.W.plainGet K C_Moment Str.empty = true)
  (hd_Moment : PySem.W.hasDictIn K C_Moment = true)
  (po_Moment : PySem.W.plainOver K C_Moment = true)
  (sa_Moment : PySem.W.findIn K (.ref C_Moment) "__setattr__" = some (some (.builtin "object.__setattr__")))
  (mk_Moment : PySem.W.makesIn K C_Moment = true)
  (kc_Moment : PySem.W.keepIn K (.ref C_Moment) = true)
  (pg_Runner : PySem.W.plainGet K C_Runner Str.empty = true)
  (hd_Runner : PySem.W.hasDictIn K C_Runner = true)
  (po_Runner : PySem.W.plainOver K C_Runner = true)
  (sa_Runner : PySem.W.findIn K (.ref C_Runner) "__setattr__" = some (some (.builtin "object.__setattr__")))
  (mk_Runner : PySem.W.makesIn K C_Runner = true)
  (kc_Runner : PySem.W.keepIn K (.ref C_Runner) = true)
  (q_BEGIN : PySem.W.nsIn K mainGlobals "BEGIN" = some (some (.str "begin" t_BEGIN)))
  (q_CALL : PySem.W.nsIn K mainGlobals "CALL" = some (some (.str "call" t_CALL)))
  (q_END : PySem.W.nsIn K mainGlobals "END" = some (some (.str "end" t_END)))
  (q_FAULT : PySem.W.nsIn K mainGlobals "FAULT" = some (some (.str "fault" t_FAULT)))
  (q_IF : PySem.W.nsIn K mainGlobals "IF" = some (some (.str "if" t_IF)))
  (q_JOIN : PySem.W.nsIn K mainGlobals "JOIN" = some (some (.str "join" t_JOIN)))
  (q_LESS : PySem.W.nsIn K mainGlobals "LESS" = some (some (.str "less" t_LESS)))
  (q_MOST_CELLS : PySem.W.nsIn K mainGlobals "MOST_CELLS" = some (some (.int 4 t_MOST_CELLS)))
  (q_MOST_DEEP : PySem.W.nsIn K mainGlobals "MOST_DEEP" = some (some (.int 8 t_MOST_DEEP)))
  (q_MOST_MULTIPLE : PySem.W.nsIn K mainGlobals "MOST_MULTIPLE" = some (some (.int 1000 t_MOST_MULTIPLE)))
  (q_MOST_OPEN : PySem.W.nsIn K mainGlobals "MOST_OPEN" = some (some (.int 20 t_MOST_OPEN)))
  (q_MOST_PLACES : PySem.W.nsIn K mainGlobals "MOST_PLACES" = some (some (.int 40 t_MOST_PLACES)))
  (q_MOST_ROUTINES : PySem.W.nsIn K mainGlobals "MOST_ROUTINES" = some (some (.int 5 t_MOST_ROUTINES)))
  (q_MOST_STEPS : PySem.W.nsIn K mainGlobals "MOST_STEPS" = some (some (.int 5000 t_MOST_STEPS)))
  (q_NO : PySem.W.nsIn K mainGlobals "NO" = some (some (.int 1 t_NO)))
  (q_ON : PySem.W.nsIn K mainGlobals "ON" = some (some (.str "on" t_ON)))
  (q_OVER : PySem.W.nsIn K mainGlobals "OVER" = some (some (.str "over" t_OVER)))
  (q_RUNS : PySem.W.nsIn K mainGlobals "RUNS" = some (some (.str "runs" t_RUNS)))
  (q_SAME : PySem.W.nsIn K mainGlobals "SAME" = some (some (.str "same" t_SAME)))
  (q_SAY : PySem.W.nsIn K mainGlobals "SAY" = some (some (.str "say" t_SAY)))
  (q_SET : PySem.W.nsIn K mainGlobals "SET" = some (some (.str "set" t_SET)))
  (q_WHILE : PySem.W.nsIn K mainGlobals "WHILE" = some (some (.str "while" t_WHILE)))
  (q_YES : PySem.W.nsIn K mainGlobals "YES" = some (some (.int 0 t_YES)))
  (n_Book_cells : PySem.W.findIn K (.ref C_Book) "cells" = some none)
  (n_Book_routines : PySem.W.findIn K (.ref C_Book) "routines" = some none)
  (n_Layout_arrow_pairs : PySem.W.findIn K (.ref C_Layout) "arrow_pairs" = some none)
  (n_Layout_comers : PySem.W.findIn K (.ref C_Layout) "comers" = some none)
  (n_Layout_doings : PySem.W.findIn K (.ref C_Layout) "doings" = some none)
  (n_Layout_goers : PySem.W.findIn K (.ref C_Layout) "goers" = some none)
  (n_Moment_along : PySem.W.findIn K (.ref C_Moment) "along" = some none)
  (n_Moment_amounts : PySem.W.findIn K (.ref C_Moment) "amounts" = some none)
  (n_Moment_frames : PySem.W.findIn K (.ref C_Moment) "frames" = some none)
  (n_Moment_saids : PySem.W.findIn K (.ref C_Moment) "saids" = some none)
  (n_Runner_book : PySem.W.findIn K (.ref C_Runner) "book" = some none)
  (n_Runner_layouts : PySem.W.findIn K (.ref C_Runner) "layouts" = some none)
  (n_Runner_moments : PySem.W.findIn K (.ref C_Runner) "moments" = some none)
  (n_Runner_stops : PySem.W.findIn K (.ref C_Runner) "stops" = some none)
  (n_Runner_told : PySem.W.findIn K (.ref C_Runner) "told" = some none)
  (z_abs : PySem.W.nsIn K mainGlobals "abs" = some none)
  (z_all : PySem.W.nsIn K mainGlobals "all" = some none)
  (z_bool : PySem.W.nsIn K mainGlobals "bool" = some none)
  (z_enumerate : PySem.W.nsIn K mainGlobals "enumerate" = some none)
  (z_int : PySem.W.nsIn K mainGlobals "int" = some none)
  (z_isinstance : PySem.W.nsIn K mainGlobals "isinstance" = some none)
  (z_len : PySem.W.nsIn K mainGlobals "len" = some none)
  (z_list : PySem.W.nsIn K mainGlobals "list" = some none)
  (z_max : PySem.W.nsIn K mainGlobals "max" = some none)
  (z_min : PySem.W.nsIn K mainGlobals "min" = some none)
  (z_range : PySem.W.nsIn K mainGlobals "range" = some none)
  (z_str : PySem.W.nsIn K mainGlobals "str" = some none)
  (z_sum : PySem.W.nsIn K mainGlobals "sum" = some none)
  (z_tuple : PySem.W.nsIn K mainGlobals "tuple" = some none)
  (z_zip : PySem.W.nsIn K mainGlobals "zip" = some none)
  (qS : PySem.W.nsIn K mainGlobals "SIZES" = some (some (.ref aS))) (dS1 : K.lookup aS = some ⟨.type "dict", none, .dict eS nS, #[]⟩) (dS2 : PySem.W.KeysLit w.params eS.toList) (dS3 : (aS == sysModules) = false) (kS0 : TabE eS.toList tab_SIZES)
  : ∃ fd : FuncData, (∀ (s : Shared) (v : Value), BindsTo s fd ⟨[v], []⟩ [("script", v)]) ∧ ∀ base : Heap, K.In base → base.Ns mainGlobals mg → FnOk l.prog w K mg base CX0 62 fa fd ["script"] (spLaw K) := by
  have e := hfa.symm.trans (PySem.W.mg_of X G g_law)
  cases e
  have T : Txt w K mg (clOf [C_Book, C_Layout, C_Moment, C_Runner]) aS eS nS := ⟨⟨_, PySem.W.mg_of X G q_BEGIN⟩, ⟨_, PySem.W.mg_of X G q_CALL⟩, ⟨_, PySem.W.mg_of X G q_END⟩, ⟨_, PySem.W.mg_of X G q_FAULT⟩, ⟨_, PySem.W.mg_of X G q_IF⟩, ⟨_, PySem.W.mg_of X G q_JOIN⟩, ⟨_, PySem.W.mg_of X G q_LESS⟩, ⟨_, PySem.W.mg_of X G q_MOST_CELLS⟩, ⟨_, PySem.W.mg_of X G q_MOST_DEEP⟩, ⟨_, PySem.W.mg_of X G q_MOST_MULTIPLE⟩, ⟨_, PySem.W.mg_of X G q_MOST_OPEN⟩, ⟨_, PySem.W.mg_of X G q_MOST_PLACES⟩, ⟨_, PySem.W.mg_of X G q_MOST_ROUTINES⟩, ⟨_, PySem.W.mg_of X G q_MOST_STEPS⟩, ⟨_, PySem.W.mg_of X G q_NO⟩, ⟨_, PySem.W.mg_of X G q_ON⟩, ⟨_, PySem.W.mg_of X G q_OVER⟩, ⟨_, PySem.W.mg_of X G q_RUNS⟩, ⟨_, PySem.W.mg_of X G q_SAME⟩, ⟨_, PySem.W.mg_of X G q_SAY⟩, ⟨_, PySem.W.mg_of X G q_SET⟩, ⟨_, PySem.W.mg_of X G q_WHILE⟩, ⟨_, PySem.W.mg_of X G q_YES⟩, ⟨⟨pg_Book, hd_Book, po_Book, sa_Book⟩, n_Book_cells⟩, ⟨⟨pg_Book, hd_Book, po_Book, sa_Book⟩, n_Book_routines⟩, ⟨⟨pg_Layout, hd_Layout, po_Layout, sa_Layout⟩, n_Layout_arrow_pairs⟩, ⟨⟨pg_Layout, hd_Layout, po_Layout, sa_Layout⟩, n_Layout_comers⟩, ⟨⟨pg_Layout, hd_Layout, po_Layout, sa_Layout⟩, n_Layout_doings⟩, ⟨⟨pg_Layout, hd_Layout, po_Layout, sa_Layout⟩, n_Layout_goers⟩, ⟨⟨pg_Moment, hd_Moment, po_Moment, sa_Moment⟩, n_Moment_along⟩, ⟨⟨pg_Moment, hd_Moment, po_Moment, sa_Moment⟩, n_Moment_amounts⟩, ⟨⟨pg_Moment, hd_Moment, po_Moment, sa_Moment⟩, n_Moment_frames⟩, ⟨⟨pg_Moment, hd_Moment, po_Moment, sa_Moment⟩, n_Moment_saids⟩, ⟨⟨pg_Runner, hd_Runner, po_Runner, sa_Runner⟩, n_Runner_book⟩, ⟨⟨pg_Runner, hd_Runner, po_Runner, sa_Runner⟩, n_Runner_layouts⟩, ⟨⟨pg_Runner, hd_Runner, po_Runner, sa_Runner⟩, n_Runner_moments⟩, ⟨⟨pg_Runner, hd_Runner, po_Runner, sa_Runner⟩, n_Runner_stops⟩, ⟨⟨pg_Runner, hd_Runner, po_Runner, sa_Runner⟩, n_Runner_told⟩, PySem.W.mg_none_of X G z_abs, PySem.W.mg_none_of X G z_all, PySem.W.mg_none_of X G z_bool, PySem.W.mg_none_of X G z_enumerate, PySem.W.mg_none_of X G z_int, PySem.W.mg_none_of X G z_isinstance, PySem.W.mg_none_of X G z_len, PySem.W.mg_none_of X G z_list, PySem.W.mg_none_of X G z_max, PySem.W.mg_none_of X G z_min, PySem.W.mg_none_of X G z_range, PySem.W.mg_none_of X G z_str, PySem.W.mg_none_of X G z_sum, PySem.W.mg_none_of X G z_tuple, PySem.W.mg_none_of X G z_zip, ⟨dS1, dS2, dS3⟩, ktab_of dS1 kS0, PySem.W.mg_of X G qS⟩
  obtain ⟨d_is_integer, F_is_integer, b_is_integer⟩ : ∃ fd, Fun K "is_integer" "is_integer" s_is_integer a_is_integer fd ∧ Binds K fd ["thing"] [] := ⟨_, fun_mk (st := s_is_integer) l_is_integer c_is_integer k_is_integer, (fun_mk (st := s_is_integer) l_is_integer c_is_integer k_is_integer).binds (ps := ["thing"]) fun _ _ _ _ _ _ us hl => match us, hl with | [_], _ => rfl⟩
  obtain ⟨d_is_within, F_is_within, b_is_within⟩ : ∃ fd, Fun K "is_within" "is_within" s_is_within a_is_within fd ∧ Binds K fd ["thing", "least", "most"] [] := ⟨_, fun_mk (st := s_is_within) l_is_within c_is_within k_is_within, (fun_mk (st := s_is_within) l_is_within c_is_within k_is_within).binds (ps := ["thing", "least", "most"]) fun _ _ _ _ _ _ us hl => match us, hl with | [_, _, _], _ => rfl⟩
  obtain ⟨d_check_number, F_check_number, b_check_number⟩ : ∃ fd, Fun K "check_number" "check_number" s_check_number a_check_number fd ∧ Binds K fd ["thing", "least", "most"] [] := ⟨_, fun_mk (st := s_check_number) l_check_number c_check_number k_check_number, (fun_mk (st := s_check_number) l_check_number c_check_number k_check_number).binds (ps := ["thing", "least", "most"]) fun _ _ _ _ _ _ us hl => match us, hl with | [_, _, _], _ => rfl⟩
  obtain ⟨d_is_sum, F_is_sum, b_is_sum⟩ : ∃ fd, Fun K "is_sum" "is_sum" s_is_sum a_is_sum fd ∧ Binds K fd ["thing", "cells"] [] := ⟨_, fun_mk (st := s_is_sum) l_is_sum c_is_sum k_is_sum, (fun_mk (st := s_is_sum) l_is_sum c_is_sum k_is_sum).binds (ps := ["thing", "cells"]) fun _ _ _ _ _ _ us hl => match us, hl with | [_, _], _ => rfl⟩
  obtain ⟨d_is_test, F_is_test, b_is_test⟩ : ∃ fd, Fun K "is_test" "is_test" s_is_test a_is_test fd ∧ Binds K fd ["thing", "cells"] [] := ⟨_, fun_mk (st := s_is_test) l_is_test c_is_test k_is_test, (fun_mk (st := s_is_test) l_is_test c_is_test k_is_test).binds (ps := ["thing", "cells"]) fun _ _ _ _ _ _ us hl => match us, hl with | [_, _], _ => rfl⟩
  obtain ⟨d_statement_size, F_statement_size, b_statement_size⟩ : ∃ fd, Fun K "statement_size" "statement_size" s_statement_size a_statement_size fd ∧ Binds K fd ["thing", "cells", "routines", "deep"] [] := ⟨_, fun_mk (st := s_statement_size) l_statement_size c_statement_size k_statement_size, (fun_mk (st := s_statement_size) l_statement_size c_statement_size k_statement_size).binds (ps := ["thing", "cells", "routines", "deep"]) fun _ _ _ _ _ _ us hl => match us, hl with | [_, _, _, _], _ => rfl⟩
  obtain ⟨d_body_size, F_body_size, b_body_size⟩ : ∃ fd, Fun K "body_size" "body_size" s_body_size a_body_size fd ∧ Binds K fd ["thing", "cells", "routines", "deep"] [] := ⟨_, fun_mk (st := s_body_size) l_body_size c_body_size k_body_size, (fun_mk (st := s_body_size) l_body_size c_body_size k_body_size).binds (ps := ["thing", "cells", "routines", "deep"]) fun _ _ _ _ _ _ us hl => match us, hl with | [_, _, _, _], _ => rfl⟩
  obtain ⟨d_wrong_part, F_wrong_part, b_wrong_part⟩ : ∃ fd, Fun K "wrong_part" "wrong_part" s_wrong_part a_wrong_part fd ∧ Binds K fd ["cells", "routines"] [] := ⟨_, fun_mk (st := s_wrong_part) l_wrong_part c_wrong_part k_wrong_part, (fun_mk (st := s_wrong_part) l_wrong_part c_wrong_part k_wrong_part).binds (ps := ["cells", "routines"]) fun _ _ _ _ _ _ us hl => match us, hl with | [_, _], _ => rfl⟩
  obtain ⟨d_Book___init__, F_Book___init__, b_Book___init__⟩ : ∃ fd, Fun K "__init__" "Book.__init__" s_Book___init__ a_Book___init__ fd ∧ Binds K fd ["self", "cells", "routines"] [] := ⟨_, fun_mk (st := s_Book___init__) l_Book___init__ c_Book___init__ k_Book___init__, (fun_mk (st := s_Book___init__) l_Book___init__ c_Book___init__ k_Book___init__).binds (ps := ["self", "cells", "routines"]) fun _ _ _ _ _ _ us hl => match us, hl with | [_, _, _], _ => rfl⟩
  obtain ⟨d_Layout_ways_at, F_Layout_ways_at, b_Layout_ways_at⟩ : ∃ fd, Fun K "ways_at" "Layout.ways_at" s_Layout_ways_at a_Layout_ways_at fd ∧ Binds K fd ["self", "place"] [] := ⟨_, fun_mk (st := s_Layout_ways_at) l_Layout_ways_at c_Layout_ways_at k_Layout_ways_at, (fun_mk (st := s_Layout_ways_at) l_Layout_ways_at c_Layout_ways_at k_Layout_ways_at).binds (ps := ["self", "place"]) fun _ _ _ _ _ _ us hl => match us, hl with | [_, _], _ => rfl⟩
  obtain ⟨d_Layout_head_of, F_Layout_head_of, b_Layout_head_of⟩ : ∃ fd, Fun K "head_of" "Layout.head_of" s_Layout_head_of a_Layout_head_of fd ∧ Binds K fd ["self", "arrow"] [] := ⟨_, fun_mk (st := s_Layout_head_of) l_Layout_head_of c_Layout_head_of k_Layout_head_of, (fun_mk (st := s_Layout_head_of) l_Layout_head_of c_Layout_head_of k_Layout_head_of).binds (ps := ["self", "arrow"]) fun _ _ _ _ _ _ us hl => match us, hl with | [_, _], _ => rfl⟩
  obtain ⟨d_Layout_place_for, F_Layout_place_for, b_Layout_place_for⟩ : ∃ fd, Fun K "place_for" "Layout.place_for" s_Layout_place_for a_Layout_place_for fd ∧ Binds K fd ["self", "doing"] [] := ⟨_, fun_mk (st := s_Layout_place_for) l_Layout_place_for c_Layout_place_for k_Layout_place_for, (fun_mk (st := s_Layout_place_for) l_Layout_place_for c_Layout_place_for k_Layout_place_for).binds (ps := ["self", "doing"]) fun _ _ _ _ _ _ us hl => match us, hl with | [_, _], _ => rfl⟩
  obtain ⟨d_Layout_lay, F_Layout_lay, b_Layout_lay⟩ : ∃ fd, Fun K "lay" "Layout.lay" s_Layout_lay a_Layout_lay fd ∧ Binds K fd ["self", "body", "came"] [] := ⟨_, fun_mk (st := s_Layout_lay) l_Layout_lay c_Layout_lay k_Layout_lay, (fun_mk (st := s_Layout_lay) l_Layout_lay c_Layout_lay k_Layout_lay).binds (ps := ["self", "body", "came"]) fun _ _ _ _ _ _ us hl => match us, hl with | [_, _, _], _ => rfl⟩
  obtain ⟨d_Layout___init__, F_Layout___init__, b_Layout___init__⟩ : ∃ fd, Fun K "__init__" "Layout.__init__" s_Layout___init__ a_Layout___init__ fd ∧ Binds K fd ["self", "body"] [] := ⟨_, fun_mk (st := s_Layout___init__) l_Layout___init__ c_Layout___init__ k_Layout___init__, (fun_mk (st := s_Layout___init__) l_Layout___init__ c_Layout___init__ k_Layout___init__).binds (ps := ["self", "body"]) fun _ _ _ _ _ _ us hl => match us, hl with | [_, _], _ => rfl⟩
  obtain ⟨d_layout_of, F_layout_of, b_layout_of⟩ : ∃ fd, Fun K "layout_of" "layout_of" s_layout_of a_layout_of fd ∧ Binds K fd ["book", "routine"] [] := ⟨_, fun_mk (st := s_layout_of) l_layout_of c_layout_of k_layout_of, (fun_mk (st := s_layout_of) l_layout_of c_layout_of k_layout_of).binds (ps := ["book", "routine"]) fun _ _ _ _ _ _ us hl => match us, hl with | [_, _], _ => rfl⟩
  obtain ⟨d_value_of, F_value_of, b_value_of⟩ : ∃ fd, Fun K "value_of" "value_of" s_value_of a_value_of fd ∧ Binds K fd ["total", "values"] [] := ⟨_, fun_mk (st := s_value_of) l_value_of c_value_of k_value_of, (fun_mk (st := s_value_of) l_value_of c_value_of k_value_of).binds (ps := ["total", "values"]) fun _ _ _ _ _ _ us hl => match us, hl with | [_, _], _ => rfl⟩
  obtain ⟨d_holds, F_holds, b_holds⟩ : ∃ fd, Fun K "holds" "holds" s_holds a_holds fd ∧ Binds K fd ["test", "values"] [] := ⟨_, fun_mk (st := s_holds) l_holds c_holds k_holds, (fun_mk (st := s_holds) l_holds c_holds k_holds).binds (ps := ["test", "values"]) fun _ _ _ _ _ _ us hl => match us, hl with | [_, _], _ => rfl⟩
  obtain ⟨d_are_contents, F_are_contents, b_are_contents⟩ : ∃ fd, Fun K "are_contents" "are_contents" s_are_contents a_are_contents fd ∧ Binds K fd ["book", "thing"] [] := ⟨_, fun_mk (st := s_are_contents) l_are_contents c_are_contents k_are_contents, (fun_mk (st := s_are_contents) l_are_contents c_are_contents k_are_contents).binds (ps := ["book", "thing"]) fun _ _ _ _ _ _ us hl => match us, hl with | [_, _], _ => rfl⟩
  obtain ⟨d_Moment___init__, F_Moment___init__, b_Moment___init__⟩ : ∃ fd, Fun K "__init__" "Moment.__init__" s_Moment___init__ a_Moment___init__ fd ∧ Binds K fd ["self", "frames", "amounts", "saids", "along"] [] := ⟨_, fun_mk (st := s_Moment___init__) l_Moment___init__ c_Moment___init__ k_Moment___init__, (fun_mk (st := s_Moment___init__) l_Moment___init__ c_Moment___init__ k_Moment___init__).binds (ps := ["self", "frames", "amounts", "saids", "along"]) fun _ _ _ _ _ _ us hl => match us, hl with | [_, _, _, _, _], _ => rfl⟩
  obtain ⟨d_Runner___init__, F_Runner___init__, b_Runner___init__⟩ : ∃ fd, Fun K "__init__" "Runner.__init__" s_Runner___init__ a_Runner___init__ fd ∧ Binds K fd ["self", "book", "begins"] [] := ⟨_, fun_mk (st := s_Runner___init__) l_Runner___init__ c_Runner___init__ k_Runner___init__, (fun_mk (st := s_Runner___init__) l_Runner___init__ c_Runner___init__ k_Runner___init__).binds (ps := ["self", "book", "begins"]) fun _ _ _ _ _ _ us hl => match us, hl with | [_, _, _], _ => rfl⟩
  obtain ⟨d_Runner_now, F_Runner_now, b_Runner_now⟩ : ∃ fd, Fun K "now" "Runner.now" s_Runner_now a_Runner_now fd ∧ Binds K fd ["self"] [] := ⟨_, fun_mk (st := s_Runner_now) l_Runner_now c_Runner_now k_Runner_now, (fun_mk (st := s_Runner_now) l_Runner_now c_Runner_now k_Runner_now).binds (ps := ["self"]) fun _ _ _ _ _ _ us hl => match us, hl with | [_], _ => rfl⟩
  obtain ⟨d_Runner_deed_now, F_Runner_deed_now, b_Runner_deed_now⟩ : ∃ fd, Fun K "deed_now" "Runner.deed_now" s_Runner_deed_now a_Runner_deed_now fd ∧ Binds K fd ["self"] [] := ⟨_, fun_mk (st := s_Runner_deed_now) l_Runner_deed_now c_Runner_deed_now k_Runner_deed_now, (fun_mk (st := s_Runner_deed_now) l_Runner_deed_now c_Runner_deed_now k_Runner_deed_now).binds (ps := ["self"]) fun _ _ _ _ _ _ us hl => match us, hl with | [_], _ => rfl⟩
  obtain ⟨d_Runner_word, F_Runner_word, b_Runner_word⟩ : ∃ fd, Fun K "word" "Runner.word" s_Runner_word a_Runner_word fd ∧ Binds K fd ["self"] [] := ⟨_, fun_mk (st := s_Runner_word) l_Runner_word c_Runner_word k_Runner_word, (fun_mk (st := s_Runner_word) l_Runner_word c_Runner_word k_Runner_word).binds (ps := ["self"]) fun _ _ _ _ _ _ us hl => match us, hl with | [_], _ => rfl⟩
  obtain ⟨d_Runner_contents, F_Runner_contents, b_Runner_contents⟩ : ∃ fd, Fun K "contents" "Runner.contents" s_Runner_contents a_Runner_contents fd ∧ Binds K fd ["self"] [] := ⟨_, fun_mk (st := s_Runner_contents) l_Runner_contents c_Runner_contents k_Runner_contents, (fun_mk (st := s_Runner_contents) l_Runner_contents c_Runner_contents k_Runner_contents).binds (ps := ["self"]) fun _ _ _ _ _ _ us hl => match us, hl with | [_], _ => rfl⟩
  obtain ⟨d_Runner_said, F_Runner_said, b_Runner_said⟩ : ∃ fd, Fun K "said" "Runner.said" s_Runner_said a_Runner_said fd ∧ Binds K fd ["self"] [] := ⟨_, fun_mk (st := s_Runner_said) l_Runner_said c_Runner_said k_Runner_said, (fun_mk (st := s_Runner_said) l_Runner_said c_Runner_said k_Runner_said).binds (ps := ["self"]) fun _ _ _ _ _ _ us hl => match us, hl with | [_], _ => rfl⟩
  obtain ⟨d_Runner_gone, F_Runner_gone, b_Runner_gone⟩ : ∃ fd, Fun K "gone" "Runner.gone" s_Runner_gone a_Runner_gone fd ∧ Binds K fd ["self", "frames", "way"] [] := ⟨_, fun_mk (st := s_Runner_gone) l_Runner_gone c_Runner_gone k_Runner_gone, (fun_mk (st := s_Runner_gone) l_Runner_gone c_Runner_gone k_Runner_gone).binds (ps := ["self", "frames", "way"]) fun _ _ _ _ _ _ us hl => match us, hl with | [_, _, _], _ => rfl⟩
  obtain ⟨d_Runner_moved, F_Runner_moved, b_Runner_moved⟩ : ∃ fd, Fun K "moved" "Runner.moved" s_Runner_moved a_Runner_moved fd ∧ Binds K fd ["self", "values"] [] := ⟨_, fun_mk (st := s_Runner_moved) l_Runner_moved c_Runner_moved k_Runner_moved, (fun_mk (st := s_Runner_moved) l_Runner_moved c_Runner_moved k_Runner_moved).binds (ps := ["self", "values"]) fun _ _ _ _ _ _ us hl => match us, hl with | [_, _], _ => rfl⟩
  obtain ⟨d_Runner_step, F_Runner_step, b_Runner_step⟩ : ∃ fd, Fun K "step" "Runner.step" s_Runner_step a_Runner_step fd ∧ Binds K fd ["self"] [] := ⟨_, fun_mk (st := s_Runner_step) l_Runner_step c_Runner_step k_Runner_step, (fun_mk (st := s_Runner_step) l_Runner_step c_Runner_step k_Runner_step).binds (ps := ["self"]) fun _ _ _ _ _ _ us hl => match us, hl with | [_], _ => rfl⟩
  obtain ⟨d_Runner_is_stopped, F_Runner_is_stopped, b_Runner_is_stopped⟩ : ∃ fd, Fun K "is_stopped" "Runner.is_stopped" s_Runner_is_stopped a_Runner_is_stopped fd ∧ Binds K fd ["self"] [] := ⟨_, fun_mk (st := s_Runner_is_stopped) l_Runner_is_stopped c_Runner_is_stopped k_Runner_is_stopped, (fun_mk (st := s_Runner_is_stopped) l_Runner_is_stopped c_Runner_is_stopped k_Runner_is_stopped).binds (ps := ["self"]) fun _ _ _ _ _ _ us hl => match us, hl with | [_], _ => rfl⟩
  obtain ⟨d_Runner_go, F_Runner_go, b_Runner_go⟩ : ∃ fd, Fun K "go" "Runner.go" s_Runner_go a_Runner_go fd ∧ Binds K fd ["self", "most"] [] := ⟨_, fun_mk (st := s_Runner_go) l_Runner_go c_Runner_go k_Runner_go, (fun_mk (st := s_Runner_go) l_Runner_go c_Runner_go k_Runner_go).binds (ps := ["self", "most"]) fun _ _ _ _ _ _ us hl => match us, hl with | [_, _], _ => rfl⟩
  obtain ⟨d_ran, F_ran, b_ran⟩ : ∃ fd, Fun K "ran" "ran" s_ran a_ran fd ∧ Binds K fd ["book", "begins", "most"] [] := ⟨_, fun_mk (st := s_ran) l_ran c_ran k_ran, (fun_mk (st := s_ran) l_ran c_ran k_ran).binds (ps := ["book", "begins", "most"]) fun _ _ _ _ _ _ us hl => match us, hl with | [_, _, _], _ => rfl⟩
  obtain ⟨d__law_hand, F__law_hand, b__law_hand⟩ : ∃ fd, Fun K "_law_hand" "_law_hand" s__law_hand a__law_hand fd ∧ Binds K fd ["script"] [] := ⟨_, fun_mk (st := s__law_hand) l__law_hand c__law_hand k__law_hand, (fun_mk (st := s__law_hand) l__law_hand c__law_hand k__law_hand).binds (ps := ["script"]) fun _ _ _ _ _ _ us hl => match us, hl with | [_], _ => rfl⟩
  obtain ⟨d__law_draw, F__law_draw, b__law_draw⟩ : ∃ fd, Fun K "_law_draw" "_law_draw" s__law_draw a__law_draw fd ∧ Binds K fd ["hand", "many"] [] := ⟨_, fun_mk (st := s__law_draw) l__law_draw c__law_draw k__law_draw, (fun_mk (st := s__law_draw) l__law_draw c__law_draw k__law_draw).binds (ps := ["hand", "many"]) fun _ _ _ _ _ _ us hl => match us, hl with | [_, _], _ => rfl⟩
  obtain ⟨d__law_any, F__law_any, b__law_any⟩ : ∃ fd, Fun K "_law_any" "_law_any" s__law_any a__law_any fd ∧ Binds K fd ["hand", "items"] [] := ⟨_, fun_mk (st := s__law_any) l__law_any c__law_any k__law_any, (fun_mk (st := s__law_any) l__law_any c__law_any k__law_any).binds (ps := ["hand", "items"]) fun _ _ _ _ _ _ us hl => match us, hl with | [_, _], _ => rfl⟩
  obtain ⟨d__law_is, F__law_is, b__law_is⟩ : ∃ fd, Fun K "_law_is" "_law_is" s__law_is a__law_is fd ∧ Binds K fd ["told", "due"] [] := ⟨_, fun_mk (st := s__law_is) l__law_is c__law_is k__law_is, (fun_mk (st := s__law_is) l__law_is c__law_is k__law_is).binds (ps := ["told", "due"]) fun _ _ _ _ _ _ us hl => match us, hl with | [_, _], _ => rfl⟩
  obtain ⟨d__law_sum, F__law_sum, b__law_sum⟩ : ∃ fd, Fun K "_law_sum" "_law_sum" s__law_sum a__law_sum fd ∧ Binds K fd ["hand", "cells"] [] := ⟨_, fun_mk (st := s__law_sum) l__law_sum c__law_sum k__law_sum, (fun_mk (st := s__law_sum) l__law_sum c__law_sum k__law_sum).binds (ps := ["hand", "cells"]) fun _ _ _ _ _ _ us hl => match us, hl with | [_, _], _ => rfl⟩
  obtain ⟨d__law_alone, F__law_alone, b__law_alone⟩ : ∃ fd, Fun K "_law_alone" "_law_alone" s__law_alone a__law_alone fd ∧ Binds K fd ["cells", "cell", "number"] [] := ⟨_, fun_mk (st := s__law_alone) l__law_alone c__law_alone k__law_alone, (fun_mk (st := s__law_alone) l__law_alone c__law_alone k__law_alone).binds (ps := ["cells", "cell", "number"]) fun _ _ _ _ _ _ us hl => match us, hl with | [_, _, _], _ => rfl⟩
  obtain ⟨d__law_test, F__law_test, b__law_test⟩ : ∃ fd, Fun K "_law_test" "_law_test" s__law_test a__law_test fd ∧ Binds K fd ["hand", "cells"] [] := ⟨_, fun_mk (st := s__law_test) l__law_test c__law_test k__law_test, (fun_mk (st := s__law_test) l__law_test c__law_test k__law_test).binds (ps := ["hand", "cells"]) fun _ _ _ _ _ _ us hl => match us, hl with | [_, _], _ => rfl⟩
  obtain ⟨d__law_size, F__law_size, b__law_size⟩ : ∃ fd, Fun K "_law_size" "_law_size" s__law_size a__law_size fd ∧ Binds K fd ["body"] [] := ⟨_, fun_mk (st := s__law_size) l__law_size c__law_size k__law_size, (fun_mk (st := s__law_size) l__law_size c__law_size k__law_size).binds (ps := ["body"]) fun _ _ _ _ _ _ us hl => match us, hl with | [_], _ => rfl⟩
  obtain ⟨d__law_statement, F__law_statement, b__law_statement⟩ : ∃ fd, Fun K "_law_statement" "_law_statement" s__law_statement a__law_statement fd ∧ Binds K fd ["hand", "cells", "routines", "deep"] [] := ⟨_, fun_mk (st := s__law_statement) l__law_statement c__law_statement k__law_statement, (fun_mk (st := s__law_statement) l__law_statement c__law_statement k__law_statement).binds (ps := ["hand", "cells", "routines", "deep"]) fun _ _ _ _ _ _ us hl => match us, hl with | [_, _, _, _], _ => rfl⟩
  obtain ⟨d__law_body, F__law_body, b__law_body⟩ : ∃ fd, Fun K "_law_body" "_law_body" s__law_body a__law_body fd ∧ Binds K fd ["hand", "cells", "routines", "deep"] [] := ⟨_, fun_mk (st := s__law_body) l__law_body c__law_body k__law_body, (fun_mk (st := s__law_body) l__law_body c__law_body k__law_body).binds (ps := ["hand", "cells", "routines", "deep"]) fun _ _ _ _ _ _ us hl => match us, hl with | [_, _, _, _], _ => rfl⟩
  obtain ⟨d__law_parts, F__law_parts, b__law_parts⟩ : ∃ fd, Fun K "_law_parts" "_law_parts" s__law_parts a__law_parts fd ∧ Binds K fd ["hand"] [] := ⟨_, fun_mk (st := s__law_parts) l__law_parts c__law_parts k__law_parts, (fun_mk (st := s__law_parts) l__law_parts c__law_parts k__law_parts).binds (ps := ["hand"]) fun _ _ _ _ _ _ us hl => match us, hl with | [_], _ => rfl⟩
  obtain ⟨d__law_begins, F__law_begins, b__law_begins⟩ : ∃ fd, Fun K "_law_begins" "_law_begins" s__law_begins a__law_begins fd ∧ Binds K fd ["hand", "cells"] [] := ⟨_, fun_mk (st := s__law_begins) l__law_begins c__law_begins k__law_begins, (fun_mk (st := s__law_begins) l__law_begins c__law_begins k__law_begins).binds (ps := ["hand", "cells"]) fun _ _ _ _ _ _ us hl => match us, hl with | [_, _], _ => rfl⟩
  obtain ⟨d__law_value, F__law_value, b__law_value⟩ : ∃ fd, Fun K "_law_value" "_law_value" s__law_value a__law_value fd ∧ Binds K fd ["total", "values"] [] := ⟨_, fun_mk (st := s__law_value) l__law_value c__law_value k__law_value, (fun_mk (st := s__law_value) l__law_value c__law_value k__law_value).binds (ps := ["total", "values"]) fun _ _ _ _ _ _ us hl => match us, hl with | [_, _], _ => rfl⟩
  obtain ⟨d__law_test_holds, F__law_test_holds, b__law_test_holds⟩ : ∃ fd, Fun K "_law_test_holds" "_law_test_holds" s__law_test_holds a__law_test_holds fd ∧ Binds K fd ["test", "values"] [] := ⟨_, fun_mk (st := s__law_test_holds) l__law_test_holds c__law_test_holds k__law_test_holds, (fun_mk (st := s__law_test_holds) l__law_test_holds c__law_test_holds k__law_test_holds).binds (ps := ["test", "values"]) fun _ _ _ _ _ _ us hl => match us, hl with | [_, _], _ => rfl⟩
  obtain ⟨d__law_run, F__law_run, b__law_run⟩ : ∃ fd, Fun K "_law_run" "_law_run" s__law_run a__law_run fd ∧ Binds K fd ["parts", "begins", "most"] [] := ⟨_, fun_mk (st := s__law_run) l__law_run c__law_run k__law_run, (fun_mk (st := s__law_run) l__law_run c__law_run k__law_run).binds (ps := ["parts", "begins", "most"]) fun _ _ _ _ _ _ us hl => match us, hl with | [_, _, _], _ => rfl⟩
  have F_law := fun_mk (st := s_law) l_law c_law k_law
  have b_law := F_law.binds (ps := ["script"]) fun _ _ _ _ _ _ us hl => match us, hl with | [_], _ => rfl
  refine ⟨PySem.W.fnOf "law" "law" (defArgs s_law) (defBody s_law) (defScope s_law) .none v1_law v2_law v3_law n_law v4_law v5_law, fun s v => .of_eq rfl, fun base _ _ => ?_⟩
  have h_is_integer : CalF l.prog w K mg base 1 "is_integer" ["thing"] (spG K (clOf [C_Book, C_Layout, C_Moment, C_Runner]) 1 f_is_integer) a_is_integer d_is_integer := ⟨ok_is_integer (k := 0) T  F_is_integer, b_is_integer, PySem.W.mg_of X G g_is_integer, k_is_integer⟩
  have h_is_within : CalF l.prog w K mg base 2 "is_within" ["thing", "least", "most"] (spG K (clOf [C_Book, C_Layout, C_Moment, C_Runner]) 3 f_is_within) a_is_within d_is_within := ⟨ok_is_within (k := 1) T (by decide) h_is_integer F_is_within, b_is_within, PySem.W.mg_of X G g_is_within, k_is_within⟩
  have h_check_number : CalF l.prog w K mg base 3 "check_number" ["thing", "least", "most"] (spG K (clOf [C_Book, C_Layout, C_Moment, C_Runner]) 3 f_check_number) a_check_number d_check_number := ⟨ok_check_number (k := 2) T (by decide) h_is_within F_check_number, b_check_number, PySem.W.mg_of X G g_check_number, k_check_number⟩
  have h_is_sum : CalF l.prog w K mg base 3 "is_sum" ["thing", "cells"] (spG K (clOf [C_Book, C_Layout, C_Moment, C_Runner]) 2 f_is_sum) a_is_sum d_is_sum := ⟨ok_is_sum (k := 2) T (by decide) h_is_within F_is_sum, b_is_sum, PySem.W.mg_of X G g_is_sum, k_is_sum⟩
  have h_is_test : CalF l.prog w K mg base 4 "is_test" ["thing", "cells"] (spG K (clOf [C_Book, C_Layout, C_Moment, C_Runner]) 2 f_is_test) a_is_test d_is_test := ⟨ok_is_test (k := 3) T (by decide) h_is_sum F_is_test, b_is_test, PySem.W.mg_of X G g_is_test, k_is_test⟩
  have h_body_size : ∀ i, CalF l.prog w K mg base (4 + 2 * i) "body_size" ["thing", "cells", "routines", "deep"] (spG K (clOf [C_Book, C_Layout, C_Moment, C_Runner]) 4 (f_body_size i)) a_body_size d_body_size := by
    intro i
    induction i with
    | zero => exact ⟨fn_bad (spG_len0 _), b_body_size, PySem.W.mg_of X G g_body_size, k_body_size⟩
    | succ i ih =>
      have h_statement_size : CalF l.prog w K mg base (4 + 2 * i + 1) "statement_size" ["thing", "cells", "routines", "deep"] (spG K (clOf [C_Book, C_Layout, C_Moment, C_Runner]) 4 (f_statement_size i)) a_statement_size d_statement_size := ⟨ok_statement_size (k := (4 + 2 * i)) T (by omega) h_is_within (by omega) h_is_sum (by omega) h_is_test (Nat.le_refl _) ih F_statement_size, b_statement_size, PySem.W.mg_of X G g_statement_size, k_statement_size⟩
      exact ⟨ok_body_size (k := (4 + 2 * i + 1)) T (Nat.le_refl _) h_statement_size F_body_size, b_body_size, PySem.W.mg_of X G g_body_size, k_body_size⟩
  have h_wrong_part : CalF l.prog w K mg base 23 "wrong_part" ["cells", "routines"] (spG K (clOf [C_Book, C_Layout, C_Moment, C_Runner]) 2 f_wrong_part) a_wrong_part d_wrong_part := ⟨ok_wrong_part (k := 22) T (by decide) h_is_within (by decide) (h_body_size 9) F_wrong_part, b_wrong_part, PySem.W.mg_of X G g_wrong_part, k_wrong_part⟩
  have h_Book___init__ : CalI l.prog w K mg base 24 C_Book "Book" ["self", "cells", "routines"] (spG K (clOf [C_Book, C_Layout, C_Moment, C_Runner]) 3 f_Book___init__) a_Book___init__ d_Book___init__ := ⟨ok_Book___init__ (k := 23) T (by decide) h_wrong_part F_Book___init__, b_Book___init__, ⟨mk_Book, g_Book___init__, i_Book___init__, kc_Book⟩, PySem.W.mg_of X G aC_Book⟩
  have h_Layout_ways_at : CalM l.prog w K mg base 1 C_Layout "ways_at" ["self", "place"] (spG K (clOf [C_Book, C_Layout, C_Moment, C_Runner]) 2 f_Layout_ways_at) a_Layout_ways_at d_Layout_ways_at := ⟨ok_Layout_ways_at (k := 0) T  F_Layout_ways_at, b_Layout_ways_at, ⟨pg_Layout, hd_Layout, po_Layout, sa_Layout⟩, ⟨g_Layout_ways_at, i_Layout_ways_at, k_Layout_ways_at⟩⟩
  have h_Layout_head_of : CalM l.prog w K mg base 1 C_Layout "head_of" ["self", "arrow"] (spG K (clOf [C_Book, C_Layout, C_Moment, C_Runner]) 2 f_Layout_head_of) a_Layout_head_of d_Layout_head_of := ⟨ok_Layout_head_of (k := 0) T  F_Layout_head_of, b_Layout_head_of, ⟨pg_Layout, hd_Layout, po_Layout, sa_Layout⟩, ⟨g_Layout_head_of, i_Layout_head_of, k_Layout_head_of⟩⟩
  have h_Layout_place_for : CalM l.prog w K mg base 1 C_Layout "place_for" ["self", "doing"] (spG K (clOf [C_Book, C_Layout, C_Moment, C_Runner]) 2 f_Layout_place_for) a_Layout_place_for d_Layout_place_for := ⟨ok_Layout_place_for (k := 0) T  F_Layout_place_for, b_Layout_place_for, ⟨pg_Layout, hd_Layout, po_Layout, sa_Layout⟩, ⟨g_Layout_place_for, i_Layout_place_for, k_Layout_place_for⟩⟩
  have h_Layout_lay : ∀ i, CalM l.prog w K mg base (1 + i) C_Layout "lay" ["self", "body", "came"] (spG K (clOf [C_Book, C_Layout, C_Moment, C_Runner]) 3 (f_Layout_lay i)) a_Layout_lay d_Layout_lay := by
    intro i
    induction i with
    | zero => exact ⟨fn_bad (spG_len0 _), b_Layout_lay, ⟨pg_Layout, hd_Layout, po_Layout, sa_Layout⟩, ⟨g_Layout_lay, i_Layout_lay, k_Layout_lay⟩⟩
    | succ i ih => exact ⟨ok_Layout_lay (k := (1 + i)) T (by omega) h_Layout_place_for (Nat.le_refl _) ih F_Layout_lay, b_Layout_lay, ⟨pg_Layout, hd_Layout, po_Layout, sa_Layout⟩, ⟨g_Layout_lay, i_Layout_lay, k_Layout_lay⟩⟩
  have h_Layout___init__ : CalI l.prog w K mg base 22 C_Layout "Layout" ["self", "body"] (spG K (clOf [C_Book, C_Layout, C_Moment, C_Runner]) 2 f_Layout___init__) a_Layout___init__ d_Layout___init__ := ⟨ok_Layout___init__ (k := 21) T (by decide) (h_Layout_lay 20) (by decide) h_Layout_ways_at (by decide) h_Layout_head_of F_Layout___init__, b_Layout___init__, ⟨mk_Layout, g_Layout___init__, i_Layout___init__, kc_Layout⟩, PySem.W.mg_of X G aC_Layout⟩
  have h_layout_of : CalF l.prog w K mg base 24 "layout_of" ["book", "routine"] (spG K (clOf [C_Book, C_Layout, C_Moment, C_Runner]) 2 f_layout_of) a_layout_of d_layout_of := ⟨ok_layout_of (k := 23) T (by decide) h_is_within (by decide) h_Layout___init__ F_layout_of, b_layout_of, PySem.W.mg_of X G g_layout_of, k_layout_of⟩
  have h_value_of : CalF l.prog w K mg base 1 "value_of" ["total", "values"] (spG K (clOf [C_Book, C_Layout, C_Moment, C_Runner]) 2 f_value_of) a_value_of d_value_of := ⟨ok_value_of (k := 0) T  F_value_of, b_value_of, PySem.W.mg_of X G g_value_of, k_value_of⟩
  have h_holds : CalF l.prog w K mg base 2 "holds" ["test", "values"] (spG K (clOf [C_Book, C_Layout, C_Moment, C_Runner]) 2 f_holds) a_holds d_holds := ⟨ok_holds (k := 1) T (by decide) h_value_of F_holds, b_holds, PySem.W.mg_of X G g_holds, k_holds⟩
  have h_are_contents : CalF l.prog w K mg base 2 "are_contents" ["book", "thing"] (spG K (clOf [C_Book, C_Layout, C_Moment, C_Runner]) 2 f_are_contents) a_are_contents d_are_contents := ⟨ok_are_contents (k := 1) T (by decide) h_is_integer F_are_contents, b_are_contents, PySem.W.mg_of X G g_are_contents, k_are_contents⟩
  have h_Moment___init__ : CalI l.prog w K mg base 1 C_Moment "Moment" ["self", "frames", "amounts", "saids", "along"] (spG K (clOf [C_Book, C_Layout, C_Moment, C_Runner]) 5 f_Moment___init__) a_Moment___init__ d_Moment___init__ := ⟨ok_Moment___init__ (k := 0) T  F_Moment___init__, b_Moment___init__, ⟨mk_Moment, g_Moment___init__, i_Moment___init__, kc_Moment⟩, PySem.W.mg_of X G aC_Moment⟩
  have h_Runner___init__ : CalI l.prog w K mg base 25 C_Runner "Runner" ["self", "book", "begins"] (spG K (clOf [C_Book, C_Layout, C_Moment, C_Runner]) 3 f_Runner___init__) a_Runner___init__ d_Runner___init__ := ⟨ok_Runner___init__ (k := 24) T (by decide) h_are_contents (by decide) h_layout_of (by decide) h_Moment___init__ F_Runner___init__, b_Runner___init__, ⟨mk_Runner, g_Runner___init__, i_Runner___init__, kc_Runner⟩, PySem.W.mg_of X G aC_Runner⟩
  have h_Runner_now : CalM l.prog w K mg base 1 C_Runner "now" ["self"] (spG K (clOf [C_Book, C_Layout, C_Moment, C_Runner]) 1 f_Runner_now) a_Runner_now d_Runner_now := ⟨ok_Runner_now (k := 0) T  F_Runner_now, b_Runner_now, ⟨pg_Runner, hd_Runner, po_Runner, sa_Runner⟩, ⟨g_Runner_now, i_Runner_now, k_Runner_now⟩⟩
  have h_Runner_deed_now : CalM l.prog w K mg base 2 C_Runner "deed_now" ["self"] (spG K (clOf [C_Book, C_Layout, C_Moment, C_Runner]) 1 f_Runner_deed_now) a_Runner_deed_now d_Runner_deed_now := ⟨ok_Runner_deed_now (k := 1) T (by decide) h_Runner_now F_Runner_deed_now, b_Runner_deed_now, ⟨pg_Runner, hd_Runner, po_Runner, sa_Runner⟩, ⟨g_Runner_deed_now, i_Runner_deed_now, k_Runner_deed_now⟩⟩
  have h_Runner_word : CalM l.prog w K mg base 3 C_Runner "word" ["self"] (spG K (clOf [C_Book, C_Layout, C_Moment, C_Runner]) 1 f_Runner_word) a_Runner_word d_Runner_word := ⟨ok_Runner_word (k := 2) T (by decide) h_Runner_now (by decide) h_Runner_deed_now F_Runner_word, b_Runner_word, ⟨pg_Runner, hd_Runner, po_Runner, sa_Runner⟩, ⟨g_Runner_word, i_Runner_word, k_Runner_word⟩⟩
  have h_Runner_contents : CalM l.prog w K mg base 2 C_Runner "contents" ["self"] (spG K (clOf [C_Book, C_Layout, C_Moment, C_Runner]) 1 f_Runner_contents) a_Runner_contents d_Runner_contents := ⟨ok_Runner_contents (k := 1) T (by decide) h_Runner_now F_Runner_contents, b_Runner_contents, ⟨pg_Runner, hd_Runner, po_Runner, sa_Runner⟩, ⟨g_Runner_contents, i_Runner_contents, k_Runner_contents⟩⟩
  have h_Runner_said : CalM l.prog w K mg base 1 C_Runner "said" ["self"] (spG K (clOf [C_Book, C_Layout, C_Moment, C_Runner]) 1 f_Runner_said) a_Runner_said d_Runner_said := ⟨ok_Runner_said (k := 0) T  F_Runner_said, b_Runner_said, ⟨pg_Runner, hd_Runner, po_Runner, sa_Runner⟩, ⟨g_Runner_said, i_Runner_said, k_Runner_said⟩⟩
  have h_Runner_gone : CalM l.prog w K mg base 1 C_Runner "gone" ["self", "frames", "way"] (spG K (clOf [C_Book, C_Layout, C_Moment, C_Runner]) 3 f_Runner_gone) a_Runner_gone d_Runner_gone := ⟨ok_Runner_gone (k := 0) T  F_Runner_gone, b_Runner_gone, ⟨pg_Runner, hd_Runner, po_Runner, sa_Runner⟩, ⟨g_Runner_gone, i_Runner_gone, k_Runner_gone⟩⟩
  have h_Runner_moved : CalM l.prog w K mg base 3 C_Runner "moved" ["self", "values"] (spG K (clOf [C_Book, C_Layout, C_Moment, C_Runner]) 2 f_Runner_moved) a_Runner_moved d_Runner_moved := ⟨ok_Runner_moved (k := 2) T (by decide) h_Runner_now (by decide) h_Runner_deed_now (by decide) h_Runner_gone (by decide) h_holds F_Runner_moved, b_Runner_moved, ⟨pg_Runner, hd_Runner, po_Runner, sa_Runner⟩, ⟨g_Runner_moved, i_Runner_moved, k_Runner_moved⟩⟩
  have h_Runner_step : CalM l.prog w K mg base 4 C_Runner "step" ["self"] (spG K (clOf [C_Book, C_Layout, C_Moment, C_Runner]) 1 f_Runner_step) a_Runner_step d_Runner_step := ⟨ok_Runner_step (k := 3) T (by decide) h_Runner_word (by decide) h_Runner_deed_now (by decide) h_Runner_now (by decide) h_Runner_moved (by decide) h_value_of (by decide) h_Moment___init__ F_Runner_step, b_Runner_step, ⟨pg_Runner, hd_Runner, po_Runner, sa_Runner⟩, ⟨g_Runner_step, i_Runner_step, k_Runner_step⟩⟩
  have h_Runner_is_stopped : CalM l.prog w K mg base 2 C_Runner "is_stopped" ["self"] (spG K (clOf [C_Book, C_Layout, C_Moment, C_Runner]) 1 f_Runner_is_stopped) a_Runner_is_stopped d_Runner_is_stopped := ⟨ok_Runner_is_stopped (k := 1) T (by decide) h_Runner_now F_Runner_is_stopped, b_Runner_is_stopped, ⟨pg_Runner, hd_Runner, po_Runner, sa_Runner⟩, ⟨g_Runner_is_stopped, i_Runner_is_stopped, k_Runner_is_stopped⟩⟩
  have h_Runner_go : CalM l.prog w K mg base 5 C_Runner "go" ["self", "most"] (spG K (clOf [C_Book, C_Layout, C_Moment, C_Runner]) 2 f_Runner_go) a_Runner_go d_Runner_go := ⟨ok_Runner_go (k := 4) T (by decide) h_check_number (by decide) h_Runner_word (by decide) h_Runner_is_stopped (by decide) h_Runner_step F_Runner_go, b_Runner_go, ⟨pg_Runner, hd_Runner, po_Runner, sa_Runner⟩, ⟨g_Runner_go, i_Runner_go, k_Runner_go⟩⟩
  have h_ran : CalF l.prog w K mg base 27 "ran" ["book", "begins", "most"] (spG K (clOf [C_Book, C_Layout, C_Moment, C_Runner]) 3 f_ran) a_ran d_ran := ⟨ok_ran (k := 26) T (by decide) h_Runner___init__ (by decide) h_Runner_go (by decide) h_Runner_word (by decide) h_Runner_said (by decide) h_Runner_contents F_ran, b_ran, PySem.W.mg_of X G g_ran, k_ran⟩
  have h__law_hand : CalF l.prog w K mg base 1 "_law_hand" ["script"] (spG K (clOf [C_Book, C_Layout, C_Moment, C_Runner]) 1 f__law_hand) a__law_hand d__law_hand := ⟨ok__law_hand (k := 0) T  F__law_hand, b__law_hand, PySem.W.mg_of X G g__law_hand, k__law_hand⟩
  have h__law_draw : CalF l.prog w K mg base 1 "_law_draw" ["hand", "many"] (spG K (clOf [C_Book, C_Layout, C_Moment, C_Runner]) 2 f__law_draw) a__law_draw d__law_draw := ⟨ok__law_draw (k := 0) T  F__law_draw, b__law_draw, PySem.W.mg_of X G g__law_draw, k__law_draw⟩
  have h__law_any : CalF l.prog w K mg base 2 "_law_any" ["hand", "items"] (spG K (clOf [C_Book, C_Layout, C_Moment, C_Runner]) 2 f__law_any) a__law_any d__law_any := ⟨ok__law_any (k := 1) T (by decide) h__law_draw F__law_any, b__law_any, PySem.W.mg_of X G g__law_any, k__law_any⟩
  have h__law_is : ∀ i, CalF l.prog w K mg base (0 + i) "_law_is" ["told", "due"] (spG K (clOf [C_Book, C_Layout, C_Moment, C_Runner]) 2 (f__law_is i)) a__law_is d__law_is := by
    intro i
    induction i with
    | zero => exact ⟨fn_bad (spG_len0 _), b__law_is, PySem.W.mg_of X G g__law_is, k__law_is⟩
    | succ i ih => exact ⟨ok__law_is (k := (0 + i)) T (Nat.le_refl _) ih F__law_is, b__law_is, PySem.W.mg_of X G g__law_is, k__law_is⟩
  have h__law_sum : CalF l.prog w K mg base 3 "_law_sum" ["hand", "cells"] (spG K (clOf [C_Book, C_Layout, C_Moment, C_Runner]) 2 f__law_sum) a__law_sum d__law_sum := ⟨ok__law_sum (k := 2) T (by decide) h__law_draw (by decide) h__law_any F__law_sum, b__law_sum, PySem.W.mg_of X G g__law_sum, k__law_sum⟩
  have h__law_alone : CalF l.prog w K mg base 1 "_law_alone" ["cells", "cell", "number"] (spG K (clOf [C_Book, C_Layout, C_Moment, C_Runner]) 3 f__law_alone) a__law_alone d__law_alone := ⟨ok__law_alone (k := 0) T  F__law_alone, b__law_alone, PySem.W.mg_of X G g__law_alone, k__law_alone⟩
  have h__law_test : CalF l.prog w K mg base 4 "_law_test" ["hand", "cells"] (spG K (clOf [C_Book, C_Layout, C_Moment, C_Runner]) 2 f__law_test) a__law_test d__law_test := ⟨ok__law_test (k := 3) T (by decide) h__law_any (by decide) h__law_sum F__law_test, b__law_test, PySem.W.mg_of X G g__law_test, k__law_test⟩
  have h__law_size : ∀ i, CalF l.prog w K mg base (0 + i) "_law_size" ["body"] (spG K (clOf [C_Book, C_Layout, C_Moment, C_Runner]) 1 (f__law_size i)) a__law_size d__law_size := by
    intro i
    induction i with
    | zero => exact ⟨fn_bad (spG_len0 _), b__law_size, PySem.W.mg_of X G g__law_size, k__law_size⟩
    | succ i ih => exact ⟨ok__law_size (k := (0 + i)) T (Nat.le_refl _) ih F__law_size, b__law_size, PySem.W.mg_of X G g__law_size, k__law_size⟩
  have h__law_body : ∀ i, CalF l.prog w K mg base (20 + 2 * i) "_law_body" ["hand", "cells", "routines", "deep"] (spG K (clOf [C_Book, C_Layout, C_Moment, C_Runner]) 4 (f__law_body i)) a__law_body d__law_body := by
    intro i
    induction i with
    | zero => exact ⟨fn_bad (spG_len0 _), b__law_body, PySem.W.mg_of X G g__law_body, k__law_body⟩
    | succ i ih =>
      have h__law_statement : CalF l.prog w K mg base (20 + 2 * i + 1) "_law_statement" ["hand", "cells", "routines", "deep"] (spG K (clOf [C_Book, C_Layout, C_Moment, C_Runner]) 4 (f__law_statement i)) a__law_statement d__law_statement := ⟨ok__law_statement (k := (20 + 2 * i)) T (by omega) h__law_draw (by omega) h__law_sum (by omega) h__law_alone (by omega) h__law_any (Nat.le_refl _) ih (by omega) h__law_test F__law_statement, b__law_statement, PySem.W.mg_of X G g__law_statement, k__law_statement⟩
      exact ⟨ok__law_body (k := (20 + 2 * i + 1)) T (by omega) h__law_draw (Nat.le_refl _) h__law_statement (by omega) (h__law_size 20) F__law_body, b__law_body, PySem.W.mg_of X G g__law_body, k__law_body⟩
  have h__law_parts : CalF l.prog w K mg base 61 "_law_parts" ["hand"] (spG K (clOf [C_Book, C_Layout, C_Moment, C_Runner]) 1 f__law_parts) a__law_parts d__law_parts := ⟨ok__law_parts (k := 60) T (by decide) h__law_draw (by decide) (h__law_body 20) F__law_parts, b__law_parts, PySem.W.mg_of X G g__law_parts, k__law_parts⟩
  have h__law_begins : CalF l.prog w K mg base 3 "_law_begins" ["hand", "cells"] (spG K (clOf [C_Book, C_Layout, C_Moment, C_Runner]) 2 f__law_begins) a__law_begins d__law_begins := ⟨ok__law_begins (k := 2) T (by decide) h__law_any F__law_begins, b__law_begins, PySem.W.mg_of X G g__law_begins, k__law_begins⟩
  have h__law_value : CalF l.prog w K mg base 1 "_law_value" ["total", "values"] (spG K (clOf [C_Book, C_Layout, C_Moment, C_Runner]) 2 f__law_value) a__law_value d__law_value := ⟨ok__law_value (k := 0) T  F__law_value, b__law_value, PySem.W.mg_of X G g__law_value, k__law_value⟩
  have h__law_test_holds : CalF l.prog w K mg base 2 "_law_test_holds" ["test", "values"] (spG K (clOf [C_Book, C_Layout, C_Moment, C_Runner]) 2 f__law_test_holds) a__law_test_holds d__law_test_holds := ⟨ok__law_test_holds (k := 1) T (by decide) h__law_value F__law_test_holds, b__law_test_holds, PySem.W.mg_of X G g__law_test_holds, k__law_test_holds⟩
  have h__law_run : CalF l.prog w K mg base 3 "_law_run" ["parts", "begins", "most"] (spG K (clOf [C_Book, C_Layout, C_Moment, C_Runner]) 3 f__law_run) a__law_run d__law_run := ⟨ok__law_run (k := 2) T (by decide) h__law_value (by decide) h__law_test_holds F__law_run, b__law_run, PySem.W.mg_of X G g__law_run, k__law_run⟩
  have h_law : CalF l.prog w K mg base 62 "law" ["script"] (spG K (clOf [C_Book, C_Layout, C_Moment, C_Runner]) 1 f_law) fa (PySem.W.fnOf "law" "law" (defArgs s_law) (defBody s_law) (defScope s_law) .none v1_law v2_law v3_law n_law v4_law v5_law) := ⟨ok_law (k := 61) T (by decide) h__law_hand (by decide) h__law_parts (by decide) h_Book___init__ (by decide) h__law_begins (by decide) h__law_draw (by decide) h__law_any (by decide) h__law_run (by decide) h_ran (by decide) (h__law_is 5) F_law, b_law, PySem.W.mg_of X G g_law, k_law⟩
  exact h_law.ok.imp fun vs H Q E h => spLaw_of hlaw h
end L3
open PySem PySem.W PyProof.Rows
theorem PySem.Challenge.cw_bigcorners_k34_whole_runs_by_the_text_al_holds : PySem.Challenge.rw_bigcorners_k34_whole_runs_by_the_text_al.Holds := by
  w_on; o_law; k_head; (case hw => w_witness2)
  k_fill
  refine L2.walk_of (l := PySem.Challenge.rw_bigcorners_k34_whole_runs_by_the_text_al) (n := 63) (k := 62) (x := "script") (CX := fun _ => L2.CX0) (sp := fun w => L3.spLaw _) rfl (by decide) rfl ⟨rfl, by decide, by decide⟩ (fun w h Y => PySem.W.kIn_of Y) ?F (fun _ _ a ns hl _ hS => ⟨a, ns, rfl, hS, hl, fun _ => rfl⟩) (fun _ _ _ _ _ h => h)
  case F =>
    intro w mg fa h KX G hmg
    refine' L3.all_mk L3.law_true KX G hmg ?aC_Book ?aC_Layout ?aC_Moment ?aC_Runner ?g_is_integer ?l_is_integer ?c_is_integer ?k_is_integer ?g_is_within ?l_is_within ?c_is_within ?k_is_within ?g_check_number ?l_check_number ?c_check_number ?k_check_number ?g_is_sum ?l_is_sum ?c_is_sum ?k_is_sum ?g_is_test ?l_is_test ?c_is_test ?k_is_test ?g_statement_size ?l_statement_size ?c_statement_size ?k_statement_size ?g_body_size ?l_body_size ?c_body_size ?k_body_size ?g_wrong_part ?l_wrong_part ?c_wrong_part ?k_wrong_part ?g_Book___init__ ?i_Book___init__ ?l_Book___init__ ?c_Book___init__ ?k_Book___init__ ?g_Layout_ways_at ?i_Layout_ways_at ?l_Layout_ways_at ?c_Layout_ways_at ?k_Layout_ways_at ?g_Layout_head_of ?i_Layout_head_of ?l_Layout_head_of ?c_Layout_head_of ?k_Layout_head_of ?g_Layout_place_for ?i_Layout_place_for ?l_Layout_place_for ?c_Layout_place_for ?k_Layout_place_for ?g_Layout_lay ?i_Layout_lay ?l_Layout_lay ?c_Layout_lay ?k_Layout_lay ?g_Layout___init__ ?i_Layout___init__ ?l_Layout___init__ ?c_Layout___init__ ?k_Layout___init__ ?g_layout_of ?l_layout_of ?c_layout_of ?k_layout_of ?g_value_of ?l_value_of ?c_value_of ?k_value_of ?g_holds ?l_holds ?c_holds ?k_holds ?g_are_contents ?l_are_contents ?c_are_contents ?k_are_contents ?g_Moment___init__ ?i_Moment___init__ ?l_Moment___init__ ?c_Moment___init__ ?k_Moment___init__ ?g_Runner___init__ ?i_Runner___init__ ?l_Runner___init__ ?c_Runner___init__ ?k_Runner___init__ ?g_Runner_now ?i_Runner_now ?l_Runner_now ?c_Runner_now ?k_Runner_now ?g_Runner_deed_now ?i_Runner_deed_now ?l_Runner_deed_now ?c_Runner_deed_now ?k_Runner_deed_now ?g_Runner_word ?i_Runner_word ?l_Runner_word ?c_Runner_word ?k_Runner_word ?g_Runner_contents ?i_Runner_contents ?l_Runner_contents ?c_Runner_contents ?k_Runner_contents ?g_Runner_said ?i_Runner_said ?l_Runner_said ?c_Runner_said ?k_Runner_said ?g_Runner_gone ?i_Runner_gone ?l_Runner_gone ?c_Runner_gone ?k_Runner_gone ?g_Runner_moved ?i_Runner_moved ?l_Runner_moved ?c_Runner_moved ?k_Runner_moved ?g_Runner_step ?i_Runner_step ?l_Runner_step ?c_Runner_step ?k_Runner_step ?g_Runner_is_stopped ?i_Runner_is_stopped ?l_Runner_is_stopped ?c_Runner_is_stopped ?k_Runner_is_stopped ?g_Runner_go ?i_Runner_go ?l_Runner_go ?c_Runner_go ?k_Runner_go ?g_ran ?l_ran ?c_ran ?k_ran ?g__law_hand ?l__law_hand ?c__law_hand ?k__law_hand ?g__law_draw ?l__law_draw ?c__law_draw ?k__law_draw ?g__law_any ?l__law_any ?c__law_any ?k__law_any ?g__law_is ?l__law_is ?c__law_is ?k__law_is ?g__law_sum ?l__law_sum ?c__law_sum ?k__law_sum ?g__law_alone ?l__law_alone ?c__law_alone ?k__law_alone ?g__law_test ?l__law_test ?c__law_test ?k__law_test ?g__law_size ?l__law_size ?c__law_size ?k__law_size ?g__law_statement ?l__law_statement ?c__law_statement ?k__law_statement ?g__law_body ?l__law_body ?c__law_body ?k__law_body ?g__law_parts ?l__law_parts ?c__law_parts ?k__law_parts ?g__law_begins ?l__law_begins ?c__law_begins ?k__law_begins ?g__law_value ?l__law_value ?c__law_value ?k__law_value ?g__law_test_holds ?l__law_test_holds ?c__law_test_holds ?k__law_test_holds ?g__law_run ?l__law_run ?c__law_run ?k__law_run ?g_law ?l_law ?c_law ?k_law ?pg_Book ?hd_Book ?po_Book ?sa_Book ?mk_Book ?kc_Book ?pg_Layout ?hd_Layout ?po_Layout ?sa_Layout ?mk_Layout ?kc_Layout ?pg_Moment ?hd_Moment ?po_Moment ?sa_Moment ?mk_Moment ?kc_Moment ?pg_Runner ?hd_Runner ?po_Runner ?sa_Runner ?mk_Runner ?kc_Runner ?q_BEGIN ?q_CALL ?q_END ?q_FAULT ?q_IF ?q_JOIN ?q_LESS ?q_MOST_CELLS ?q_MOST_DEEP ?q_MOST_MULTIPLE ?q_MOST_OPEN ?q_MOST_PLACES ?q_MOST_ROUTINES ?q_MOST_STEPS ?q_NO ?q_ON ?q_OVER ?q_RUNS ?q_SAME ?q_SAY ?q_SET ?q_WHILE ?q_YES ?n_Book_cells ?n_Book_routines ?n_Layout_arrow_pairs ?n_Layout_comers ?n_Layout_doings ?n_Layout_goers ?n_Moment_along ?n_Moment_amounts ?n_Moment_frames ?n_Moment_saids ?n_Runner_book ?n_Runner_layouts ?n_Runner_moments ?n_Runner_stops ?n_Runner_told ?z_abs ?z_all ?z_bool ?z_enumerate ?z_int ?z_isinstance ?z_len ?z_list ?z_max ?z_min ?z_range ?z_str ?z_sum ?z_tuple ?z_zip ?qS ?dS1 ?dS2 ?dS3 ?kS0
    (case aC_Book => k_is)
    (case aC_Layout => k_is)
    (case aC_Moment => k_is)
    (case aC_Runner => k_is)
    (case g_is_integer => k_is)
    (case l_is_integer => k_is)
    (case c_is_integer => k_is)
    (case k_is_integer => k_is)
    (case g_is_within => k_is)
    (case l_is_within => k_is)
    (case c_is_within => k_is)
    (case k_is_within => k_is)
    (case g_check_number => k_is)
    (case l_check_number => k_is)
    (case c_check_number => k_is)
    (case k_check_number => k_is)
    (case g_is_sum => k_is)
    (case l_is_sum => k_is)
    (case c_is_sum => k_is)
    (case k_is_sum => k_is)
    (case g_is_test => k_is)
    (case l_is_test => k_is)
    (case c_is_test => k_is)
    (case k_is_test => k_is)
    (case g_statement_size => k_is)
    (case l_statement_size => k_is)
    (case c_statement_size => k_is)
    (case k_statement_size => k_is)
    (case g_body_size => k_is)
    (case l_body_size => k_is)
    (case c_body_size => k_is)
    (case k_body_size => k_is)
    (case g_wrong_part => k_is)
    (case l_wrong_part => k_is)
    (case c_wrong_part => k_is)
    (case k_wrong_part => k_is)
    (case g_Book___init__ => k_is)
    (case i_Book___init__ => k_is)
    (case l_Book___init__ => k_is)
    (case c_Book___init__ => k_is)
    (case k_Book___init__ => k_is)
    (case g_Layout_ways_at => k_is)
    (case i_Layout_ways_at => k_is)
    (case l_Layout_ways_at => k_is)
    (case c_Layout_ways_at => k_is)
    (case k_Layout_ways_at => k_is)
    (case g_Layout_head_of => k_is)
    (case i_Layout_head_of => k_is)
    (case l_Layout_head_of => k_is)
    (case c_Layout_head_of => k_is)
    (case k_Layout_head_of => k_is)
    (case g_Layout_place_for => k_is)
    (case i_Layout_place_for => k_is)
    (case l_Layout_place_for => k_is)
    (case c_Layout_place_for => k_is)
    (case k_Layout_place_for => k_is)
    (case g_Layout_lay => k_is)
    (case i_Layout_lay => k_is)
    (case l_Layout_lay => k_is)
    (case c_Layout_lay => k_is)
    (case k_Layout_lay => k_is)
    (case g_Layout___init__ => k_is)
    (case i_Layout___init__ => k_is)
    (case l_Layout___init__ => k_is)
    (case c_Layout___init__ => k_is)
    (case k_Layout___init__ => k_is)
    (case g_layout_of => k_is)
    (case l_layout_of => k_is)
    (case c_layout_of => k_is)
    (case k_layout_of => k_is)
    (case g_value_of => k_is)
    (case l_value_of => k_is)
    (case c_value_of => k_is)
    (case k_value_of => k_is)
    (case g_holds => k_is)
    (case l_holds => k_is)
    (case c_holds => k_is)
    (case k_holds => k_is)
    (case g_are_contents => k_is)
    (case l_are_contents => k_is)
    (case c_are_contents => k_is)
    (case k_are_contents => k_is)
    (case g_Moment___init__ => k_is)
    (case i_Moment___init__ => k_is)
    (case l_Moment___init__ => k_is)
    (case c_Moment___init__ => k_is)
    (case k_Moment___init__ => k_is)
    (case g_Runner___init__ => k_is)
    (case i_Runner___init__ => k_is)
    (case l_Runner___init__ => k_is)
    (case c_Runner___init__ => k_is)
    (case k_Runner___init__ => k_is)
    (case g_Runner_now => k_is)
    (case i_Runner_now => k_is)
    (case l_Runner_now => k_is)
    (case c_Runner_now => k_is)
    (case k_Runner_now => k_is)
    (case g_Runner_deed_now => k_is)
    (case i_Runner_deed_now => k_is)
    (case l_Runner_deed_now => k_is)
    (case c_Runner_deed_now => k_is)
    (case k_Runner_deed_now => k_is)
    (case g_Runner_word => k_is)
    (case i_Runner_word => k_is)
    (case l_Runner_word => k_is)
    (case c_Runner_word => k_is)
    (case k_Runner_word => k_is)
    (case g_Runner_contents => k_is)
    (case i_Runner_contents => k_is)
    (case l_Runner_contents => k_is)
    (case c_Runner_contents => k_is)
    (case k_Runner_contents => k_is)
    (case g_Runner_said => k_is)
    (case i_Runner_said => k_is)
    (case l_Runner_said => k_is)
    (case c_Runner_said => k_is)
    (case k_Runner_said => k_is)
    (case g_Runner_gone => k_is)
    (case i_Runner_gone => k_is)
    (case l_Runner_gone => k_is)
    (case c_Runner_gone => k_is)
    (case k_Runner_gone => k_is)
    (case g_Runner_moved => k_is)
    (case i_Runner_moved => k_is)
    (case l_Runner_moved => k_is)
    (case c_Runner_moved => k_is)
    (case k_Runner_moved => k_is)
    (case g_Runner_step => k_is)
    (case i_Runner_step => k_is)
    (case l_Runner_step => k_is)
    (case c_Runner_step => k_is)
    (case k_Runner_step => k_is)
    (case g_Runner_is_stopped => k_is)
    (case i_Runner_is_stopped => k_is)
    (case l_Runner_is_stopped => k_is)
    (case c_Runner_is_stopped => k_is)
    (case k_Runner_is_stopped => k_is)
    (case g_Runner_go => k_is)
    (case i_Runner_go => k_is)
    (case l_Runner_go => k_is)
    (case c_Runner_go => k_is)
    (case k_Runner_go => k_is)
    (case g_ran => k_is)
    (case l_ran => k_is)
    (case c_ran => k_is)
    (case k_ran => k_is)
    (case g__law_hand => k_is)
    (case l__law_hand => k_is)
    (case c__law_hand => k_is)
    (case k__law_hand => k_is)
    (case g__law_draw => k_is)
    (case l__law_draw => k_is)
    (case c__law_draw => k_is)
    (case k__law_draw => k_is)
    (case g__law_any => k_is)
    (case l__law_any => k_is)
    (case c__law_any => k_is)
    (case k__law_any => k_is)
    (case g__law_is => k_is)
    (case l__law_is => k_is)
    (case c__law_is => k_is)
    (case k__law_is => k_is)
    (case g__law_sum => k_is)
    (case l__law_sum => k_is)
    (case c__law_sum => k_is)
    (case k__law_sum => k_is)
    (case g__law_alone => k_is)
    (case l__law_alone => k_is)
    (case c__law_alone => k_is)
    (case k__law_alone => k_is)
    (case g__law_test => k_is)
    (case l__law_test => k_is)
    (case c__law_test => k_is)
    (case k__law_test => k_is)
    (case g__law_size => k_is)
    (case l__law_size => k_is)
    (case c__law_size => k_is)
    (case k__law_size => k_is)
    (case g__law_statement => k_is)
    (case l__law_statement => k_is)
    (case c__law_statement => k_is)
    (case k__law_statement => k_is)
    (case g__law_body => k_is)
    (case l__law_body => k_is)
    (case c__law_body => k_is)
    (case k__law_body => k_is)
    (case g__law_parts => k_is)
    (case l__law_parts => k_is)
    (case c__law_parts => k_is)
    (case k__law_parts => k_is)
    (case g__law_begins => k_is)
    (case l__law_begins => k_is)
    (case c__law_begins => k_is)
    (case k__law_begins => k_is)
    (case g__law_value => k_is)
    (case l__law_value => k_is)
    (case c__law_value => k_is)
    (case k__law_value => k_is)
    (case g__law_test_holds => k_is)
    (case l__law_test_holds => k_is)
    (case c__law_test_holds => k_is)
    (case k__law_test_holds => k_is)
    (case g__law_run => k_is)
    (case l__law_run => k_is)
    (case c__law_run => k_is)
    (case k__law_run => k_is)
    (case g_law => k_is)
    (case l_law => k_is)
    (case c_law => k_is)
    (case k_law => k_is)
    (case pg_Book => k_is)
    (case hd_Book => k_is)
    (case po_Book => k_is)
    (case sa_Book => k_is)
    (case mk_Book => k_is)
    (case kc_Book => k_is)
    (case pg_Layout => k_is)
    (case hd_Layout => k_is)
    (case po_Layout => k_is)
    (case sa_Layout => k_is)
    (case mk_Layout => k_is)
    (case kc_Layout => k_is)
    (case pg_Moment => k_is)
    (case hd_Moment => k_is)
    (case po_Moment => k_is)
    (case sa_Moment => k_is)
    (case mk_Moment => k_is)
    (case kc_Moment => k_is)
    (case pg_Runner => k_is)
    (case hd_Runner => k_is)
    (case po_Runner => k_is)
    (case sa_Runner => k_is)
    (case mk_Runner => k_is)
    (case kc_Runner => k_is)
    (case q_BEGIN => k_is)
    (case q_CALL => k_is)
    (case q_END => k_is)
    (case q_FAULT => k_is)
    (case q_IF => k_is)
    (case q_JOIN => k_is)
    (case q_LESS => k_is)
    (case q_MOST_CELLS => k_is)
    (case q_MOST_DEEP => k_is)
    (case q_MOST_MULTIPLE => k_is)
    (case q_MOST_OPEN => k_is)
    (case q_MOST_PLACES => k_is)
    (case q_MOST_ROUTINES => k_is)
    (case q_MOST_STEPS => k_is)
    (case q_NO => k_is)
    (case q_ON => k_is)
    (case q_OVER => k_is)
    (case q_RUNS => k_is)
    (case q_SAME => k_is)
    (case q_SAY => k_is)
    (case q_SET => k_is)
    (case q_WHILE => k_is)
    (case q_YES => k_is)
    (case n_Book_cells => k_is)
    (case n_Book_routines => k_is)
    (case n_Layout_arrow_pairs => k_is)
    (case n_Layout_comers => k_is)
    (case n_Layout_doings => k_is)
    (case n_Layout_goers => k_is)
    (case n_Moment_along => k_is)
    (case n_Moment_amounts => k_is)
    (case n_Moment_frames => k_is)
    (case n_Moment_saids => k_is)
    (case n_Runner_book => k_is)
    (case n_Runner_layouts => k_is)
    (case n_Runner_moments => k_is)
    (case n_Runner_stops => k_is)
    (case n_Runner_told => k_is)
    (case z_abs => k_is)
    (case z_all => k_is)
    (case z_bool => k_is)
    (case z_enumerate => k_is)
    (case z_int => k_is)
    (case z_isinstance => k_is)
    (case z_len => k_is)
    (case z_list => k_is)
    (case z_max => k_is)
    (case z_min => k_is)
    (case z_range => k_is)
    (case z_str => k_is)
    (case z_sum => k_is)
    (case z_tuple => k_is)
    (case z_zip => k_is)
    (case qS => k_is)
    (case dS1 => k_is)
    (case dS2 => exact ⟨⟨_, _, rfl, rfl⟩, ⟨_, _, rfl, rfl⟩, ⟨_, _, rfl, rfl⟩, ⟨_, _, rfl, rfl⟩, ⟨_, _, rfl, rfl⟩, trivial⟩)
    (case dS3 => rfl)
    (case kS0 => exact ⟨⟨_, rfl⟩, ⟨.int 3, ⟨_, rfl⟩, fun _ _ _ => rfl⟩, rfl, ⟨_, rfl⟩, ⟨.int 2, ⟨_, rfl⟩, fun _ _ _ => rfl⟩, rfl, ⟨_, rfl⟩, ⟨.int 2, ⟨_, rfl⟩, fun _ _ _ => rfl⟩, rfl, ⟨_, rfl⟩, ⟨.int 4, ⟨_, rfl⟩, fun _ _ _ => rfl⟩, rfl, ⟨_, rfl⟩, ⟨.int 3, ⟨_, rfl⟩, fun _ _ _ => rfl⟩, rfl, trivial⟩)
