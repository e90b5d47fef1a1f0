import PyProof.Rows.All
import Wide.All
import OpenK.AllK
import Wide.FinOn
import HandS.ForMost
import HandS.Exc
import HandS.ExcOwn
import HandS.WordsExc
import HandS.TryOnly
import HandS.Wide
import HandS.IsInst
import HandS.TupAny
import HandS.TupMul
import HandS.List
import HandS.Zip
import HandS.HotCalls
import HandS.Style
import HandS.Conv
import HandS.Deep
import KE.GoesEnum
import KE.GoesMore
import HandS.More
import PyProof.EqAt
import PyProof.EqKinds
import PyProof.TupleCall
import KE.OsGo
import KE.KExcIs
import HandS.ForSpec
import OpenK.KWalk
import PyProof.InstNe
import HandS.SortInts
import HandS.ExcValue
import HandS.Strs
import PyProof.TupleOfSeq
import KE.KRevSl
import PySem.Challenge.RW_bigcorners_k32_whole_books_judged_and_ke
set_option Elab.async false
set_option linter.all false
set_option maxRecDepth 100000
set_option maxHeartbeats 4000000
set_option autoImplicit false
namespace L3
open PySem L2

inductive D where
  | non
  | bl (b : Bool)
  | int (i : Int)
  | str (s : Str)
  | tup (ds : List D)
  | lst (ds : List D)
  | dk (ks : List Key) (ds : List D)
  | dt (ks : List (List Key)) (ds : List D)
  | ins (c : Nat) (ns : List Str) (ds : List D)
  | ty (n : String)
  | cls (c : Nat)
inductive O where
  | s (d : D)
  | lst (os : List O)
  | dk (ks : List Key) (os : List O)
  | dt (ks : List (List Key)) (os : List O)
  | ins (c : Nat) (ns : List Str) (os : List O)

abbrev Fp := List Addr

def Ex (H H' : Hp) : Prop := ∀ a o, H a = some o → H' a = some o
theorem Ex.refl (H : Hp) : Ex H H := fun _ _ h => h
theorem Ex.trans {H H1 H2 : Hp} (a : Ex H H1) (b : Ex H1 H2) : Ex H H2 := fun x o h => b x o (a x o h)
theorem Ex.sqT {K : PySem.W.Frag} {H H' : Hp} {a : Addr} {xs : List V} (e : Ex H H') (h : SqT K H a xs) : SqT K H' a xs := by
  rcases h with (h | ⟨o, h⟩) | h
  · exact .inl (.inl (e _ _ h))
  · exact .inl (.inr ⟨o, e _ _ h⟩)
  · exact .inr h
theorem Ex.sqL {K : PySem.W.Frag} {H H' : Hp} {a : Addr} {xs : List V} (e : Ex H H') (h : SqL K H a xs) : SqL K H' a xs := by
  rcases h with (h | ⟨o, h⟩) | h
  · exact .inl (.inl (e _ _ h))
  · exact .inl (.inr ⟨o, e _ _ h⟩)
  · exact .inr h
def Pl (K : PySem.W.Frag) (H : Hp) (a : Addr) : Prop := (∃ o u, H a = some (.frz o u) ∧ o.dict = none) ∨ ∃ o, K.lookup a = some o ∧ o.dict = none
def SqP (K : PySem.W.Frag) (H : Hp) (a : Addr) (xs : List V) : Prop := SqT K H a xs ∧ Pl K H a
theorem Ex.sqP {K : PySem.W.Frag} {H H' : Hp} {a : Addr} {xs : List V} (e : Ex H H') (h : SqP K H a xs) : SqP K H' a xs :=
  ⟨e.sqT h.1, h.2.elim (fun ⟨o, u, q, d⟩ => .inl ⟨o, u, e _ _ q, d⟩) .inr⟩
theorem SqP.new {K : PySem.W.Frag} {H : Hp} {p : Addr} {o : Obj} {xs : List V} (hd : o.dict = none) : SqP K (upd H p (.frz o (.tup xs))) p xs :=
  ⟨.inl (.inr ⟨o, upd_same⟩), .inl ⟨o, _, upd_same, hd⟩⟩
theorem Ex.keep {H H' : Hp} (e : Ex H H') {a : Addr} (h : H a ≠ none) : H' a = H a := by
  cases q : H a with
  | none => exact absurd q h
  | some o => exact e a o q
theorem Ex.dom {H H' : Hp} (e : Ex H H') {a : Addr} (h : H a ≠ none) : H' a ≠ none := by rw [e.keep h]; exact h

mutual
def RpD (K : PySem.W.Frag) (cl : Nat → Addr) (F : Hp) : D → V → Prop
  | .non, v => v = .non
  | .bl b, v => v = .bl b
  | .int i, v => v = .int i
  | .str s, v => v = .str s
  | .tup ds, v => ∃ a xs, v = .ref a ∧ SqP K F a xs ∧ RpDs K cl F ds xs
  | .lst ds, v => ∃ a xs, v = .ref a ∧ SqL K F a xs ∧ RpDs K cl F ds xs
  | .dk ks ds, v => ∃ a xs, v = .ref a ∧ F a = some (.dK (ks.zip xs)) ∧ ks.length = xs.length ∧ RpDs K cl F ds xs
  | .dt ks ds, v => ∃ a xs, v = .ref a ∧ F a = some (.dT (ks.zip xs)) ∧ ks.length = xs.length ∧ RpDs K cl F ds xs
  | .ins c ns ds, v => ∃ a dx xs, v = .ref a ∧ F a = some (.ins (cl c) dx (ns.zip xs)) ∧ ns.length = xs.length ∧ RpDs K cl F ds xs
  | .ty n, v => v = .ty n
  | .cls c, v => v = .ref (cl c)
def RpDs (K : PySem.W.Frag) (cl : Nat → Addr) (F : Hp) : List D → List V → Prop
  | [], vs => vs = []
  | d :: ds, vs => ∃ v r, vs = v :: r ∧ RpD K cl F d v ∧ RpDs K cl F ds r
end
mutual
def RpO (K : PySem.W.Frag) (cl : Nat → Addr) (F H : Hp) : O → V → Fp → Prop
  | .s d, v, fp => fp = [] ∧ RpD K cl F d v
  | .lst os, v, fp => ∃ a xs f, v = .ref a ∧ fp = a :: f ∧ H a = some (.lst xs) ∧ RpOs K cl F H os xs f
  | .dk ks os, v, fp => ∃ a xs f, v = .ref a ∧ fp = a :: f ∧ H a = some (.dK (ks.zip xs)) ∧ ks.length = xs.length ∧ RpOs K cl F H os xs f
  | .dt ks os, v, fp => ∃ a xs f, v = .ref a ∧ fp = a :: f ∧ H a = some (.dT (ks.zip xs)) ∧ ks.length = xs.length ∧ RpOs K cl F H os xs f
  | .ins c ns os, v, fp => ∃ a dx xs f, v = .ref a ∧ fp = a :: f ∧ H a = some (.ins (cl c) dx (ns.zip xs)) ∧ ns.length = xs.length ∧ RpOs K cl F H os xs f
def RpOs (K : PySem.W.Frag) (cl : Nat → Addr) (F H : Hp) : List O → List V → Fp → Prop
  | [], vs, fp => vs = [] ∧ fp = []
  | o :: os, vs, fp => ∃ v r f g, vs = v :: r ∧ fp = f ++ g ∧ RpO K cl F H o v f ∧ RpOs K cl F H os r g
end

section
variable {K : PySem.W.Frag} {cl : Nat → Addr} {F F' H H' : Hp}
mutual
theorem RpD.mono (eF : Ex F F') : ∀ (d : D) (v : V), RpD K cl F d v → RpD K cl F' d v
  | .non, _, h => h
  | .bl _, _, h => h
  | .int _, _, h => h
  | .str _, _, h => h
  | .ty _, _, h => h
  | .cls _, _, h => h
  | .tup ds, v, h => by
    obtain ⟨a, xs, e1, q, r⟩ := h
    exact ⟨a, xs, e1, eF.sqP q, RpDs.mono eF ds xs r⟩
  | .lst ds, v, h => by
    obtain ⟨a, xs, e1, q, r⟩ := h
    exact ⟨a, xs, e1, eF.sqL q, RpDs.mono eF ds xs r⟩
  | .dk ks ds, v, h => by
    obtain ⟨a, xs, e1, q, l, r⟩ := h
    exact ⟨a, xs, e1, eF _ _ q, l, RpDs.mono eF ds xs r⟩
  | .dt ks ds, v, h => by
    obtain ⟨a, xs, e1, q, l, r⟩ := h
    exact ⟨a, xs, e1, eF _ _ q, l, RpDs.mono eF ds xs r⟩
  | .ins c ks ds, v, h => by
    obtain ⟨a, dx, xs, e1, q, l, r⟩ := h
    exact ⟨a, dx, xs, e1, eF _ _ q, l, RpDs.mono eF ds xs r⟩
theorem RpDs.mono (eF : Ex F F') : ∀ (ds : List D) (vs : List V), RpDs K cl F ds vs → RpDs K cl F' ds vs
  | [], _, h => h
  | d :: ds, vs, h => by
    obtain ⟨v, r, e1, h1, h2⟩ := h
    exact ⟨v, r, e1, RpD.mono eF d v h1, RpDs.mono eF ds r h2⟩
end
mutual
theorem RpO.mono (eF : Ex F F') : ∀ (o : O) (v : V) (fp : Fp), (∀ a ∈ fp, H' a = H a) → RpO K cl F H o v fp → RpO K cl F' H' o v fp
  | .s d, v, fp, _, h => ⟨h.1, h.2.mono eF d v⟩
  | .lst os, v, fp, k, h => by
    obtain ⟨a, xs, f, e1, rfl, q, r⟩ := h
    exact ⟨a, xs, f, e1, rfl, (k a (by simp)).trans q, RpOs.mono eF os xs f (fun b hb => k b (by simp [hb])) r⟩
  | .dk ks os, v, fp, k, h => by
    obtain ⟨a, xs, f, e1, rfl, q, l, r⟩ := h
    exact ⟨a, xs, f, e1, rfl, (k a (by simp)).trans q, l, RpOs.mono eF os xs f (fun b hb => k b (by simp [hb])) r⟩
  | .dt ks os, v, fp, k, h => by
    obtain ⟨a, xs, f, e1, rfl, q, l, r⟩ := h
    exact ⟨a, xs, f, e1, rfl, (k a (by simp)).trans q, l, RpOs.mono eF os xs f (fun b hb => k b (by simp [hb])) r⟩
  | .ins c ks os, v, fp, k, h => by
    obtain ⟨a, dx, xs, f, e1, rfl, q, l, r⟩ := h
    exact ⟨a, dx, xs, f, e1, rfl, (k a (by simp)).trans q, l, RpOs.mono eF os xs f (fun b hb => k b (by simp [hb])) r⟩
theorem RpOs.mono (eF : Ex F F') : ∀ (os : List O) (vs : List V) (fp : Fp), (∀ a ∈ fp, H' a = H a) → RpOs K cl F H os vs fp → RpOs K cl F' H' os vs fp
  | [], _, _, _, h => h
  | o :: os, vs, fp, k, h => by
    obtain ⟨v, r, f, g, e1, rfl, h1, h2⟩ := h
    exact ⟨v, r, f, g, e1, rfl, RpO.mono eF o v f (fun b hb => k b (by simp [hb])) h1, RpOs.mono eF os r g (fun b hb => k b (by simp [hb])) h2⟩
end
theorem RpO.inH_ : True := trivial
mutual
theorem RpO.inH : ∀ (o : O) (v : V) (fp : Fp), RpO K cl F H o v fp → ∀ a ∈ fp, H a ≠ none
  | .s d, v, fp, h, a, ha => by rw [h.1] at ha; simp at ha
  | .lst os, v, fp, h, a, ha => by
    obtain ⟨b, xs, f, e1, rfl, q, r⟩ := h
    rcases List.mem_cons.mp ha with rfl | ha
    · rw [q]; simp
    · exact RpOs.inH os xs f r a ha
  | .dk ks os, v, fp, h, a, ha => by
    obtain ⟨b, xs, f, e1, rfl, q, l, r⟩ := h
    rcases List.mem_cons.mp ha with rfl | ha
    · rw [q]; simp
    · exact RpOs.inH os xs f r a ha
  | .dt ks os, v, fp, h, a, ha => by
    obtain ⟨b, xs, f, e1, rfl, q, l, r⟩ := h
    rcases List.mem_cons.mp ha with rfl | ha
    · rw [q]; simp
    · exact RpOs.inH os xs f r a ha
  | .ins c ks os, v, fp, h, a, ha => by
    obtain ⟨b, dx, xs, f, e1, rfl, q, l, r⟩ := h
    rcases List.mem_cons.mp ha with rfl | ha
    · rw [q]; simp
    · exact RpOs.inH os xs f r a ha
theorem RpOs.inH : ∀ (os : List O) (vs : List V) (fp : Fp), RpOs K cl F H os vs fp → ∀ a ∈ fp, H a ≠ none
  | [], _, _, h, a, ha => by rw [h.2] at ha; simp at ha
  | d :: ds, vs, fp, h, a, ha => by
    obtain ⟨v, r, f, g, e1, rfl, h1, h2⟩ := h
    rcases List.mem_append.mp ha with ha | ha
    · exact RpO.inH d v f h1 a ha
    · exact RpOs.inH ds r g h2 a ha
end
theorem RpOs.length : ∀ {ds : List O} {xs : List V} {fp : Fp}, RpOs K cl F H ds xs fp → xs.length = ds.length
  | [], xs, fp, r => by rw [r.1]; rfl
  | d :: ds, xs, fp, r => by
    obtain ⟨v, r', f1, g1, rfl, rfl, h1, h2⟩ := r
    simp [h2.length]
theorem RpDs.length : ∀ {ds : List D} {xs : List V}, RpDs K cl F ds xs → xs.length = ds.length
  | [], xs, r => by rw [show xs = [] from r]; rfl
  | d :: ds, xs, r => by
    obtain ⟨v, r', rfl, h1, h2⟩ := r
    simp [h2.length]
theorem RpDs.get : ∀ {ds : List D} {xs : List V} {i : Nat} {d : D}, RpDs K cl F ds xs → ds[i]? = some d → ∃ v, xs[i]? = some v ∧ RpD K cl F d v
  | [], xs, i, d, _, h => by simp at h
  | d1 :: ds, xs, 0, d, r, h => by
    obtain ⟨v, r', rfl, h1, h2⟩ := r
    simp at h
    subst h
    exact ⟨v, rfl, h1⟩
  | d1 :: ds, xs, i + 1, d, r, h => by
    obtain ⟨v, r', rfl, h1, h2⟩ := r
    obtain ⟨v2, e2, r2⟩ := RpDs.get h2 (by simpa using h)
    exact ⟨v2, by simpa using e2, r2⟩
theorem RpOs.get : ∀ {ds : List O} {xs : List V} {fp : Fp} {i : Nat} {d : O}, RpOs K cl F H ds xs fp → ds[i]? = some d →
    ∃ v g, xs[i]? = some v ∧ RpO K cl F H d v g ∧ ∀ a ∈ g, a ∈ fp
  | [], xs, fp, i, d, _, h => by simp at h
  | d1 :: ds, xs, fp, 0, d, r, h => by
    obtain ⟨v, r', f1, g1, rfl, rfl, h1, h2⟩ := r
    simp at h
    subst h
    exact ⟨v, f1, rfl, h1, fun a ha => List.mem_append_left _ ha⟩
  | d1 :: ds, xs, fp, i + 1, d, r, h => by
    obtain ⟨v, r', f1, g1, rfl, rfl, h1, h2⟩ := r
    obtain ⟨v2, g2, e2, r2, s2⟩ := RpOs.get h2 (by simpa using h)
    exact ⟨v2, g2, by simpa using e2, r2, fun a ha => List.mem_append_right _ (s2 a ha)⟩
theorem RpDs.append : ∀ {ds es : List D} {xs ys : List V}, RpDs K cl F ds xs → RpDs K cl F es ys → RpDs K cl F (ds ++ es) (xs ++ ys)
  | [], es, xs, ys, r, q => by rw [show xs = [] from r]; exact q
  | d :: ds, es, xs, ys, r, q => by
    obtain ⟨v, r', rfl, h1, h2⟩ := r
    exact ⟨v, r' ++ ys, rfl, h1, h2.append q⟩
theorem RpOs.append : ∀ {ds es : List O} {xs ys : List V} {f g : Fp}, RpOs K cl F H ds xs f → RpOs K cl F H es ys g → RpOs K cl F H (ds ++ es) (xs ++ ys) (f ++ g)
  | [], es, xs, ys, f, g, r, q => by rw [r.1, r.2]; exact q
  | d :: ds, es, xs, ys, f, g, r, q => by
    obtain ⟨v, r', f1, g1, rfl, rfl, h1, h2⟩ := r
    exact ⟨v, r' ++ ys, f1, g1 ++ g, rfl, by simp, h1, h2.append q⟩
theorem RpDs.os : ∀ {ds : List D} {xs : List V}, RpDs K cl F ds xs → RpOs K cl F H (ds.map O.s) xs []
  | [], xs, r => ⟨r, rfl⟩
  | d :: ds, xs, r => by
    obtain ⟨v, r', rfl, h1, h2⟩ := r
    exact ⟨v, r', [], [], rfl, rfl, ⟨rfl, h1⟩, h2.os⟩

mutual
def O.d : O → D
  | .s d => d
  | .lst os => .lst (O.ds os)
  | .dk ks os => .dk ks (O.ds os)
  | .dt ks os => .dt ks (O.ds os)
  | .ins c ns os => .ins c ns (O.ds os)
def O.ds : List O → List D
  | [] => []
  | o :: os => o.d :: O.ds os
end
theorem O.ds_map : ∀ os : List O, O.ds os = os.map O.d
  | [] => rfl
  | o :: os => by rw [List.map_cons, ← O.ds_map os]; rfl
theorem O.ds_s (ds : List D) : O.ds (ds.map O.s) = ds := by
  rw [O.ds_map, List.map_map]
  induction ds with
  | nil => rfl
  | cons d ds ih => rw [List.map_cons, ih]; rfl
mutual
theorem RpO.settle (eF : Ex F F') : ∀ (o : O) (v : V) (fp : Fp), (∀ a ∈ fp, F' a = H a) → RpO K cl F H o v fp → RpD K cl F' o.d v
  | .s d, v, fp, _, h => h.2.mono eF d v
  | .lst os, v, fp, k, h => by
    obtain ⟨a, xs, f, e1, rfl, q, r⟩ := h
    exact ⟨a, xs, e1, .inl (.inl ((k a (by simp)).trans q)), RpOs.settle eF os xs f (fun b hb => k b (by simp [hb])) r⟩
  | .dk ks os, v, fp, k, h => by
    obtain ⟨a, xs, f, e1, rfl, q, l, r⟩ := h
    exact ⟨a, xs, e1, (k a (by simp)).trans q, l, RpOs.settle eF os xs f (fun b hb => k b (by simp [hb])) r⟩
  | .dt ks os, v, fp, k, h => by
    obtain ⟨a, xs, f, e1, rfl, q, l, r⟩ := h
    exact ⟨a, xs, e1, (k a (by simp)).trans q, l, RpOs.settle eF os xs f (fun b hb => k b (by simp [hb])) r⟩
  | .ins c ks os, v, fp, k, h => by
    obtain ⟨a, dx, xs, f, e1, rfl, q, l, r⟩ := h
    exact ⟨a, dx, xs, e1, (k a (by simp)).trans q, l, RpOs.settle eF os xs f (fun b hb => k b (by simp [hb])) r⟩
theorem RpOs.settle (eF : Ex F F') : ∀ (os : List O) (vs : List V) (fp : Fp), (∀ a ∈ fp, F' a = H a) → RpOs K cl F H os vs fp → RpDs K cl F' (O.ds os) vs
  | [], _, _, _, h => h.1
  | o :: os, vs, fp, k, h => by
    obtain ⟨v, r, f, g, e1, rfl, h1, h2⟩ := h
    exact ⟨v, r, e1, RpO.settle eF o v f (fun b hb => k b (by simp [hb])) h1, RpOs.settle eF os r g (fun b hb => k b (by simp [hb])) h2⟩
end
theorem RpO.rd (e : Ex F H) {o : O} {v : V} {fp : Fp} (h : RpO K cl F H o v fp) : RpD K cl H o.d v := RpO.settle e o v fp (fun _ _ => rfl) h
theorem RpOs.rd (e : Ex F H) {o : List O} {v : List V} {fp : Fp} (h : RpOs K cl F H o v fp) : RpDs K cl H (O.ds o) v := RpOs.settle e o v fp (fun _ _ => rfl) h
end
end L3
namespace L3
open PySem L2

abbrev Env := List (Option O)

structure Cn where
  K : PySem.W.Frag
  cl : Nat → Addr
  F0 : Hp
  H0 : Hp
  io : Fp
  IO : List Nat
  vs : L2.St
  n : Nat

structure Mo where
  F : Hp
  H : Hp
  env : Env
  fps : List Fp
  σ : L2.St

def SlotOk (K : PySem.W.Frag) (cl : Nat → Addr) (F H : Hp) (o : Option O) (s : Option V) (f : Fp) : Prop :=
  match o with
  | none => f = []
  | some d => ∃ v, s = some v ∧ RpO K cl F H d v f

structure Sta (C : Cn) (m : Mo) : Prop where
  ln : m.env.length = C.n
  l1 : m.σ.length = m.env.length
  l2 : m.fps.length = m.env.length
  sl : ∀ (i : Nat) (o : Option O) (s : Option V) (f : Fp), m.env[i]? = some o → m.σ[i]? = some s → m.fps[i]? = some f → SlotOk C.K C.cl m.F m.H o s f
  ex : Ex m.F m.H
  exF : Ex C.F0 m.F
  newF : ∀ a, m.F a ≠ none → C.F0 a = none → C.H0 a = none ∨ a ∈ C.io
  nd : ∀ (i : Nat) (f : Fp), m.fps[i]? = some f → f.Nodup
  dj : ∀ (i j : Nat) (f g : Fp) (a : Addr), i ≠ j → m.fps[i]? = some f → m.fps[j]? = some g → a ∈ f → a ∉ g
  df : ∀ a ∈ m.fps.flatten, m.F a = none
  own : ∀ a ∈ m.fps.flatten, C.H0 a = none ∨ a ∈ C.io
  frame : ∀ b o, C.H0 b = some o → b ∉ C.io → m.H b = some o
  dom : ∀ b, C.H0 b ≠ none → m.H b ≠ none
  pin : ∀ i ∈ C.IO, m.σ[i]? = C.vs[i]?

structure Step (T : List Nat) (m m' : Mo) : Prop where
  exF : Ex m.F m'.F
  keep : ∀ b o, m.H b = some o → b ∉ m.fps.flatten → m'.H b = some o
  dom : ∀ b, m.H b ≠ none → m'.H b ≠ none
  newF : ∀ a, m'.F a ≠ none → m.F a = none → m.H a = none ∨ a ∈ m.fps.flatten
  newO : ∀ a ∈ m'.fps.flatten, m.H a = none ∨ a ∈ m.fps.flatten
  len : m'.env.length = m.env.length
  unt : ∀ i, i ∉ T → m'.env[i]? = m.env[i]? ∧ m'.fps[i]? = m.fps[i]? ∧ m'.σ[i]? = m.σ[i]? ∧ ∀ f, m.fps[i]? = some f → ∀ a ∈ f, m'.H a = m.H a

theorem Step.refl (T : List Nat) (m : Mo) : Step T m m :=
  ⟨Ex.refl _, fun _ _ h _ => h, fun _ h => h, fun a h h' => absurd h' h, fun a h => .inr h, rfl, fun _ _ => ⟨rfl, rfl, rfl, fun _ _ _ _ => rfl⟩⟩
theorem Step.trans {T1 T2 : List Nat} {m m1 m2 : Mo} (s : Step T1 m m1) (t : Step T2 m1 m2) : Step (T1 ++ T2) m m2 where
  exF := s.exF.trans t.exF
  keep := fun b o h n => t.keep b o (s.keep b o h n) fun q => by
    rcases s.newO b q with z | z
    · rw [h] at z; cases z
    · exact n z
  dom := fun b h => t.dom b (s.dom b h)
  newF := fun a h n => by
    by_cases q : m1.F a = none
    · rcases t.newF a h q with z | z
      · exact .inl (Classical.byContradiction fun w => s.dom a w z)
      · exact s.newO a z
    · exact s.newF a q n
  newO := fun a h => by
    rcases t.newO a h with z | z
    · exact .inl (Classical.byContradiction fun w => s.dom a w z)
    · exact s.newO a z
  len := t.len.trans s.len
  unt := fun i h => by
    obtain ⟨a1, a2, a3, a4⟩ := s.unt i (fun z => h (by simp [z]))
    obtain ⟨b1, b2, b3, b4⟩ := t.unt i (fun z => h (by simp [z]))
    exact ⟨b1.trans a1, b2.trans a2, b3.trans a3, fun f hf a ha => (b4 f (a2.trans hf) a ha).trans (a4 f hf a ha)⟩
theorem Step.wk {T T' : List Nat} {m m' : Mo} (s : Step T m m') (h : ∀ i ∈ T, i ∈ T') : Step T' m m' :=
  ⟨s.exF, s.keep, s.dom, s.newF, s.newO, s.len, fun i hi => s.unt i fun z => hi (h i z)⟩

theorem Sta.slot {C : Cn} {m : Mo} (S : Sta C m) {x : Nat} {d : O} (h : m.env[x]? = some (some d)) : ∃ v f, m.σ[x]? = some (some v) ∧ m.fps[x]? = some f ∧ RpO C.K C.cl m.F m.H d v f := by
  have h1 : x < m.env.length := (List.getElem?_eq_some_iff.mp h).1
  have h2 : x < m.σ.length := by rw [S.l1]; exact h1
  have h3 : x < m.fps.length := by rw [S.l2]; exact h1
  obtain ⟨v, e, r⟩ := S.sl x _ _ _ h (List.getElem?_eq_getElem h2) (List.getElem?_eq_getElem h3)
  exact ⟨v, _, by rw [List.getElem?_eq_getElem h2, e], List.getElem?_eq_getElem h3, r⟩
theorem Sta.slotF {C : Cn} {m : Mo} (S : Sta C m) {x : Nat} {f : Fp} (h : m.fps[x]? = some f) : ∃ o s, m.env[x]? = some o ∧ m.σ[x]? = some s ∧ SlotOk C.K C.cl m.F m.H o s f := by
  have h3 : x < m.fps.length := (List.getElem?_eq_some_iff.mp h).1
  have h1 : x < m.env.length := by rw [← S.l2]; exact h3
  have h2 : x < m.σ.length := by rw [S.l1]; exact h1
  exact ⟨_, _, List.getElem?_eq_getElem h1, List.getElem?_eq_getElem h2, S.sl x _ _ _ (List.getElem?_eq_getElem h1) (List.getElem?_eq_getElem h2) h⟩
theorem mem_fps {m : Mo} {i : Nat} {f : Fp} (h : m.fps[i]? = some f) {a : Addr} (ha : a ∈ f) : a ∈ m.fps.flatten := List.mem_flatten.mpr ⟨f, List.mem_of_getElem? h, ha⟩
theorem Sta.inH {C : Cn} {m : Mo} (S : Sta C m) : ∀ a ∈ m.fps.flatten, m.H a ≠ none := by
  intro a ha
  obtain ⟨f, hf, haf⟩ := List.mem_flatten.mp ha
  obtain ⟨i, hi, e⟩ := List.mem_iff_getElem.mp hf
  have e1 : m.fps[i]? = some f := by rw [List.getElem?_eq_getElem hi, e]
  obtain ⟨o, s, h1, h2, q⟩ := S.slotF e1
  cases o with
  | none => rw [show f = [] from q] at haf; simp at haf
  | some d =>
    obtain ⟨v, _, r⟩ := q
    exact r.inH d v f a haf

structure Gro (m m' : Mo) : Prop where
  env : m'.env = m.env
  fps : m'.fps = m.fps
  σ : m'.σ = m.σ
  exF : Ex m.F m'.F
  exH : Ex m.H m'.H
  ex : Ex m'.F m'.H
  newF : ∀ a, m'.F a ≠ none → m.F a = none → m.H a = none
theorem Gro.refl {C : Cn} {m : Mo} (S : Sta C m) : Gro m m := ⟨rfl, rfl, rfl, Ex.refl _, Ex.refl _, S.ex, fun a h h' => absurd h' h⟩
theorem Gro.trans {m m1 m2 : Mo} (g : Gro m m1) (h : Gro m1 m2) : Gro m m2 :=
  ⟨h.env.trans g.env, h.fps.trans g.fps, h.σ.trans g.σ, g.exF.trans h.exF, g.exH.trans h.exH, h.ex, fun a n z => by
    by_cases q : m1.F a = none
    · have := h.newF a n q
      exact Classical.byContradiction fun w => g.exH.dom w this
    · exact g.newF a q z⟩
theorem Gro.step {C : Cn} {m m' : Mo} (S : Sta C m) (g : Gro m m') : Step [] m m' where
  exF := g.exF
  keep := fun b o h _ => g.exH b o h
  dom := fun b h => g.exH.dom h
  newF := fun a h n => .inl (g.newF a h n)
  newO := fun a h => .inr (by rw [g.fps] at h; exact h)
  len := by rw [g.env]
  unt := fun i _ => ⟨by rw [g.env], by rw [g.fps], by rw [g.σ], fun f hf a ha => g.exH.keep (S.inH a (mem_fps hf ha))⟩
theorem Sta.gro {C : Cn} {m m' : Mo} (S : Sta C m) (g : Gro m m') : Sta C m' where
  ln := by rw [g.env]; exact S.ln
  l1 := by rw [g.σ, g.env]; exact S.l1
  l2 := by rw [g.fps, g.env]; exact S.l2
  sl := fun i o s f h1 h2 h3 => by
    rw [g.env] at h1; rw [g.σ] at h2; rw [g.fps] at h3
    have q := S.sl i o s f h1 h2 h3
    cases o with
    | none => exact q
    | some d =>
      obtain ⟨v, e, r⟩ := q
      exact ⟨v, e, r.mono g.exF d v f (fun a ha => g.exH.keep (S.inH a (mem_fps h3 ha)))⟩
  ex := g.ex
  exF := S.exF.trans g.exF
  newF := fun a h n => by
    by_cases q : m.F a = none
    · have z := g.newF a h q
      exact .inl (Classical.byContradiction fun w => S.dom a w z)
    · exact S.newF a q n
  nd := by rw [g.fps]; exact S.nd
  dj := by rw [g.fps]; exact S.dj
  df := fun a ha => by
    rw [g.fps] at ha
    exact Classical.byContradiction fun w => S.inH a ha (g.newF a w (S.df a ha))
  own := fun a ha => by rw [g.fps] at ha; exact S.own a ha
  frame := fun b o h n => g.exH b o (S.frame b o h n)
  dom := fun b h => g.exH.dom (S.dom b h)
  pin := fun i hi => by rw [g.σ]; exact S.pin i hi

inductive Stp where
  | attr (f : Str)
  | idx (n : Nat)
  | key (k : Key)
inductive Rt where
  | val (d : D)
  | own (o : O)
  | bor (x : Nat) (p : List Stp) (o : O)
  | sl (x : Nat)

def lk {α : Type} : List Str → List α → Str → Option α
  | n :: ns, d :: ds, f => if n = f then some d else lk ns ds f
  | _, _, _ => none
def lkK {α κ : Type} [DecidableEq κ] : List κ → List α → κ → Option α
  | n :: ns, d :: ds, f => if n = f then some d else lkK ns ds f
  | _, _, _ => none

inductive Sub (cl : Nat → Addr) (H : Hp) : Stp → O → Addr → O → V → Prop where
  | idx {n : Nat} {ds : List O} {a : Addr} {xs : List V} {d : O} {v : V} : H a = some (.lst xs) → ds[n]? = some d → xs[n]? = some v → Sub cl H (.idx n) (.lst ds) a d v
  | attr {f : Str} {c : Nat} {ns : List Str} {ds : List O} {a dx : Addr} {xs : List V} {d : O} {v : V} : H a = some (.ins (cl c) dx (ns.zip xs)) → lk ns ds f = some d → lk ns xs f = some v → ns.length = xs.length → Sub cl H (.attr f) (.ins c ns ds) a d v
  | key {k : Key} {ks : List Key} {ds : List O} {a : Addr} {xs : List V} {d : O} {v : V} : H a = some (.dK (ks.zip xs)) → lkK ks ds k = some d → lkK ks xs k = some v → ks.length = xs.length → Sub cl H (.key k) (.dk ks ds) a d v
def At (cl : Nat → Addr) (H : Hp) : List Stp → O → V → O → V → Prop
  | [], d0, v0, d, v => d = d0 ∧ v = v0
  | s :: p, d0, v0, d, v => ∃ a d1 v1, v0 = .ref a ∧ Sub cl H s d0 a d1 v1 ∧ At cl H p d1 v1 d v

def RtOk (C : Cn) (m : Mo) (av : Addr → Prop) : Rt → V → Prop
  | .val d, v => RpD C.K C.cl m.F d v
  | .own d, v => ∃ fp : Fp, RpO C.K C.cl m.F m.H d v fp ∧ fp.Nodup ∧ ∀ a ∈ fp, m.F a = none ∧ a ∉ m.fps.flatten ∧ (C.H0 a = none ∨ a ∈ C.io) ∧ ¬ av a
  | .bor x p d, v => ∃ d0 v0, m.env[x]? = some (some d0) ∧ m.σ[x]? = some (some v0) ∧ At C.cl m.H p d0 v0 d v
  | .sl x, v => m.σ[x]? = some (some v)

def Rt.hot (T : List Nat) : Rt → Bool
  | .bor x _ _ => T.contains x
  | _ => false
def Rt.isSl : Rt → Bool
  | .sl _ => true
  | _ => false
def Rt.d : Rt → D
  | .val d => d
  | .own d => d.d
  | .bor _ _ d => d.d
  | .sl _ => .ty ""

theorem lk_zip : ∀ {ns : List Str} {xs : List V} {f : Str}, (ns.zip xs).lookup f = lk ns xs f
  | [], _, f => by simp [lk]
  | n :: ns, [], f => by simp [lk]
  | n :: ns, x :: xs, f => by
    show ((n, x) :: ns.zip xs).lookup f = _
    rw [List.lookup_cons]
    unfold lk
    by_cases e : n = f
    · subst e; simp
    · rw [if_neg e, show (f == n) = false from by simpa using fun h => e h.symm]
      exact lk_zip
section
variable {K : PySem.W.Frag} {cl : Nat → Addr} {F H : Hp}
theorem lk_rp {f : Str} : ∀ {ns : List Str} {ds : List O} {xs : List V} {fp : Fp} {d : O}, RpOs K cl F H ds xs fp → lk ns ds f = some d →
    ∃ v g, lk ns xs f = some v ∧ RpO K cl F H d v g ∧ ∀ a ∈ g, a ∈ fp
  | [], ds, xs, fp, d, _, h => by simp [lk] at h
  | n :: ns, [], xs, fp, d, _, h => by simp [lk] at h
  | n :: ns, d1 :: ds, xs, fp, d, r, h => by
    obtain ⟨v, r', f1, g1, rfl, rfl, h1, h2⟩ := r
    unfold lk at h ⊢
    by_cases e : n = f
    · rw [if_pos e] at h ⊢
      cases h
      exact ⟨v, f1, rfl, h1, fun a ha => List.mem_append_left _ ha⟩
    · rw [if_neg e] at h ⊢
      obtain ⟨v2, g2, e2, r2, s2⟩ := lk_rp h2 h
      exact ⟨v2, g2, e2, r2, fun a ha => List.mem_append_right _ (s2 a ha)⟩
theorem lk_rpD {f : Str} : ∀ {ns : List Str} {ds : List D} {xs : List V} {d : D}, RpDs K cl F ds xs → lk ns ds f = some d → ∃ v, lk ns xs f = some v ∧ RpD K cl F d v
  | [], ds, xs, d, _, h => by simp [lk] at h
  | n :: ns, [], xs, d, _, h => by simp [lk] at h
  | n :: ns, d1 :: ds, xs, d, r, h => by
    obtain ⟨v, r', rfl, h1, h2⟩ := r
    unfold lk at h ⊢
    by_cases e : n = f
    · rw [if_pos e] at h ⊢
      cases h
      exact ⟨v, rfl, h1⟩
    · rw [if_neg e] at h ⊢
      exact lk_rpD h2 h
theorem lkK_rp {κ : Type} [DecidableEq κ] {f : κ} : ∀ {ns : List κ} {ds : List O} {xs : List V} {fp : Fp} {d : O}, RpOs K cl F H ds xs fp → lkK ns ds f = some d →
    ∃ v g, lkK ns xs f = some v ∧ RpO K cl F H d v g ∧ ∀ a ∈ g, a ∈ fp
  | [], ds, xs, fp, d, _, h => by simp [lkK] at h
  | n :: ns, [], xs, fp, d, _, h => by simp [lkK] at h
  | n :: ns, d1 :: ds, xs, fp, d, r, h => by
    obtain ⟨v, r', f1, g1, rfl, rfl, h1, h2⟩ := r
    unfold lkK at h ⊢
    by_cases e : n = f
    · rw [if_pos e] at h ⊢
      cases h
      exact ⟨v, f1, rfl, h1, fun a ha => List.mem_append_left _ ha⟩
    · rw [if_neg e] at h ⊢
      obtain ⟨v2, g2, e2, r2, s2⟩ := lkK_rp h2 h
      exact ⟨v2, g2, e2, r2, fun a ha => List.mem_append_right _ (s2 a ha)⟩
theorem lkK_rpD {κ : Type} [DecidableEq κ] {f : κ} : ∀ {ns : List κ} {ds : List D} {xs : List V}, RpDs K cl F ds xs → (∀ d, lkK ns ds f = some d → ∃ v, lkK ns xs f = some v ∧ RpD K cl F d v) ∧ (lkK ns ds f = none → lkK ns xs f = none)
  | [], ds, xs, _ => by simp [lkK]
  | n :: ns, [], xs, h => by rw [show xs = [] from h]; simp [lkK]
  | n :: ns, d1 :: ds, xs, r => by
    obtain ⟨v, r', rfl, h1, h2⟩ := r
    unfold lkK
    by_cases e : n = f
    · rw [if_pos e, if_pos e]
      exact ⟨fun d h => ⟨v, rfl, by cases h; exact h1⟩, fun h => nomatch h⟩
    · rw [if_neg e, if_neg e]
      exact lkK_rpD h2
theorem lkK_val {κ : Type} [DecidableEq κ] {f : κ} : ∀ {ns : List κ} {xs : List V}, valV (ns.zip xs) f = lkK ns xs f
  | [], xs => by simp [lkK, valV]
  | n :: ns, [] => by simp [lkK, valV]
  | n :: ns, x :: xs => by
    have ih := lkK_val (f := f) (ns := ns) (xs := xs)
    unfold valV at ih ⊢
    unfold lkK
    by_cases e : n = f
    · simp [e]
    · simp [e, ih]
theorem zip_inj {α β : Type} : ∀ {ns : List α} {xs ys : List β}, ns.length = xs.length → ns.length = ys.length → ns.zip xs = ns.zip ys → xs = ys
  | [], xs, ys, h1, h2, _ => by
    rw [List.length_nil] at h1 h2
    rw [List.eq_nil_of_length_eq_zero h1.symm, List.eq_nil_of_length_eq_zero h2.symm]
  | n :: ns, [], ys, h1, _, _ => by simp at h1
  | n :: ns, x :: xs, [], _, h2, _ => by simp at h2
  | n :: ns, x :: xs, y :: ys, h1, h2, h => by
    simp only [List.zip_cons_cons, List.cons.injEq, Prod.mk.injEq, true_and] at h
    rw [h.1, zip_inj (by simpa using h1) (by simpa using h2) h.2]
theorem Sub.rp {s : Stp} {d0 d : O} {a : Addr} {v : V} {f0 : Fp} (r : RpO K cl F H d0 (.ref a) f0) (h : Sub cl H s d0 a d v) :
    ∃ f, RpO K cl F H d v f ∧ a ∈ f0 ∧ ∀ b ∈ f, b ∈ f0 := by
  cases h with
  | idx q e1 e2 =>
    obtain ⟨a', xs', f, e, rfl, q', rl⟩ := r
    cases e
    rw [q] at q'
    cases q'
    obtain ⟨v2, g, e3, r2, s⟩ := rl.get e1
    rw [e2] at e3
    cases e3
    exact ⟨g, r2, by simp, fun b hb => List.mem_cons_of_mem _ (s b hb)⟩
  | attr q e1 e2 l =>
    obtain ⟨a', dx', xs', f, e, rfl, q', l', rl⟩ := r
    cases e
    rw [q] at q'
    have q'' := Option.some.inj q'
    injection q'' with _ _ q''
    obtain rfl := zip_inj l l' q''
    obtain ⟨v2, g, e3, r2, s⟩ := lk_rp rl e1
    rw [e2] at e3
    cases e3
    exact ⟨g, r2, by simp, fun b hb => List.mem_cons_of_mem _ (s b hb)⟩
  | key q e1 e2 l =>
    obtain ⟨a', xs', f, e, rfl, q', l', rl⟩ := r
    cases e
    rw [q] at q'
    have q'' := Option.some.inj q'
    injection q'' with q''
    obtain rfl := zip_inj l l' q''
    obtain ⟨v2, g, e3, r2, s⟩ := lkK_rp rl e1
    rw [e2] at e3
    cases e3
    exact ⟨g, r2, by simp, fun b hb => List.mem_cons_of_mem _ (s b hb)⟩
theorem Sub.mono {H' : Hp} {s : Stp} {d0 d : O} {a : Addr} {v : V} (k : H' a = H a) (h : Sub cl H s d0 a d v) : Sub cl H' s d0 a d v := by
  cases h with
  | idx q e1 e2 => exact .idx (k.trans q) e1 e2
  | attr q e1 e2 l => exact .attr (k.trans q) e1 e2 l
  | key q e1 e2 l => exact .key (k.trans q) e1 e2 l
theorem At.rp : ∀ {p : List Stp} {d0 : O} {v0 : V} {f0 : Fp} {d : O} {v : V}, RpO K cl F H d0 v0 f0 → At cl H p d0 v0 d v → ∃ f, RpO K cl F H d v f ∧ ∀ a ∈ f, a ∈ f0
  | [], d0, v0, f0, d, v, r, h => by
    obtain ⟨rfl, rfl⟩ := h
    exact ⟨f0, r, fun _ h => h⟩
  | s :: p, d0, v0, f0, d, v, r, h => by
    obtain ⟨a, d1, v1, rfl, q, h⟩ := h
    obtain ⟨f, r1, _, s1⟩ := q.rp r
    obtain ⟨f2, r2, s2⟩ := At.rp r1 h
    exact ⟨f2, r2, fun b hb => s1 b (s2 b hb)⟩
theorem At.mono {H' : Hp} : ∀ {p : List Stp} {d0 : O} {v0 : V} {f0 : Fp} {d : O} {v : V}, RpO K cl F H d0 v0 f0 → (∀ a ∈ f0, H' a = H a) → At cl H p d0 v0 d v → At cl H' p d0 v0 d v
  | [], d0, v0, f0, d, v, r, k, h => h
  | s :: p, d0, v0, f0, d, v, r, k, h => by
    obtain ⟨a, d1, v1, rfl, q, h⟩ := h
    obtain ⟨f, r1, ha, s1⟩ := q.rp r
    exact ⟨a, d1, v1, rfl, q.mono (k a ha), At.mono r1 (fun b hb => k b (s1 b hb)) h⟩
theorem At.snoc {s : Stp} {d2 : O} {v2 : V} {a : Addr} : ∀ {p : List Stp} {d0 : O} {v0 : V} {d : O}, At cl H p d0 v0 d (.ref a) → Sub cl H s d a d2 v2 → At cl H (p ++ [s]) d0 v0 d2 v2
  | [], d0, v0, d, h, q => by
    obtain ⟨rfl, e⟩ := h
    exact ⟨a, d2, v2, e.symm, q, rfl, rfl⟩
  | t :: p, d0, v0, d, h, q => by
    obtain ⟨b, d1, v1, rfl, q1, h⟩ := h
    exact ⟨b, d1, v1, rfl, q1, At.snoc h q⟩
end

theorem RtOk.step {C : Cn} {T : List Nat} {m m' : Mo} {r : Rt} {v : V} {av : Addr → Prop} (S : Sta C m) (h : RtOk C m av r v) (t : Step T m m') (c : r.hot T = false) (hσ : m'.σ = m.σ) : RtOk C m' av r v := by
  cases r with
  | val d => exact RpD.mono t.exF d v h
  | own d =>
    obtain ⟨fp, r, nd, k⟩ := h
    refine ⟨fp, r.mono t.exF d v fp (fun a ha => ?_), nd, fun a ha => ?_⟩
    · obtain ⟨_, k2, _⟩ := k a ha
      cases q : m.H a with
      | none => exact absurd q (r.inH d v fp a ha)
      | some o => exact t.keep a o q k2
    · obtain ⟨k1, k2, k3⟩ := k a ha
      have hH := r.inH d v fp a ha
      refine ⟨?_, fun z => ?_, k3⟩
      · exact Classical.byContradiction fun w => (t.newF a w k1).elim hH k2
      · exact (t.newO a z).elim hH k2
  | bor x p d =>
    obtain ⟨d0, v0, e1, e2, h⟩ := h
    have hx : x ∉ T := by simpa [Rt.hot] using c
    obtain ⟨u1, u2, u3, u4⟩ := t.unt x hx
    obtain ⟨v1, f, s1, s2, r⟩ := S.slot e1
    rw [e2] at s1
    cases s1
    exact ⟨d0, v0, u1.trans e1, u3.trans e2, At.mono r (u4 f s2) h⟩
  | sl x => exact (by rw [hσ]; exact h : m'.σ[x]? = some (some v))
theorem RtOk.av {C : Cn} {m : Mo} {r : Rt} {v : V} {av av' : Addr → Prop} (h : RtOk C m av r v) (k : ∀ a, av' a → av a) : RtOk C m av' r v := by
  cases r with
  | val d => exact h
  | own d =>
    obtain ⟨fp, r, nd, q⟩ := h
    exact ⟨fp, r, nd, fun a ha => let ⟨q1, q2, q3, q4⟩ := q a ha; ⟨q1, q2, q3, fun z => q4 (k a z)⟩⟩
  | bor x p d => exact h
  | sl x => exact h
theorem RtOk.rd {C : Cn} {m : Mo} {r : Rt} {v : V} {av : Addr → Prop} (S : Sta C m) (h : RtOk C m av r v) (hr : r.isSl = false := by rfl) : RpD C.K C.cl m.H r.d v := by
  cases r with
  | val d => exact RpD.mono S.ex d v h
  | own d =>
    obtain ⟨fp, r, _⟩ := h
    exact r.rd S.ex
  | bor x p d =>
    obtain ⟨d0, v0, e1, e2, h⟩ := h
    obtain ⟨v1, f, s1, s2, r⟩ := S.slot e1
    rw [e2] at s1
    cases s1
    obtain ⟨g, r2, _⟩ := At.rp r h
    exact r2.rd S.ex
  | sl x => cases hr

inductive Rs (α : Type) where
  | ok (a : α) (env : Env)
  | exc (c : Nat) (ds : List D) (env : Env)
  | bad
abbrev ME := Env → Rs Rt
abbrev MT := Env → Rs Bool
abbrev MA := Env → Rs (List Rt)
inductive Fl where
  | nx
  | ret (r : Rt)
  | brk
  | cont
abbrev MS := Env → Rs Fl

def Rs.bind {α β : Type} (r : Rs α) (f : α → Env → Rs β) : Rs β :=
  match r with
  | .ok a e => f a e
  | .exc c ds e => .exc c ds e
  | .bad => .bad

def xfld (c : Nat) : Str := match c % 4 with
  | 0 => "part"
  | 1 => "line"
  | 2 => "place"
  | _ => "name"
def ExcOk (C : Cn) (E : WX) (m : Mo) (c : Nat) (ds : List D) (env : Env) : Prop := ∀ m' : Mo, m'.env = env → Sta C m' → ∀ (T : List Nat), Step T m m' →
  ∀ dd : Option Addr, (ds = [] → dd = none) → (∀ d, ds = [d] → ∃ a v, dd = some a ∧ m'.H a = some (.xd [(xfld c, v)]) ∧ RpD C.K C.cl m'.F d v) → E (.ref (C.cl c)) dd m'.σ m'.H

def Want {α : Type} (C : Cn) (E : WX) (m : Mo) (r : Rs α) (W : α → Env → Prop) : Prop :=
  match r with
  | .ok a e => W a e
  | .exc c ds e => ExcOk C E m c ds e
  | .bad => False

def Old (m : Mo) : Addr → Prop := fun a => m.H a ≠ none ∧ a ∉ m.fps.flatten

def rdE (C : Cn) (E : WX) (T : List Nat) (f : ME) : TE := fun σ H Q => ∃ m : Mo, m.H = H ∧ m.σ = σ ∧ Sta C m ∧
  Want C E m (f m.env) fun r env' => ∀ v m', m'.env = env' → m'.σ = σ → Sta C m' → Step T m m' → RtOk C m' (Old m) r v → Q v m'.H
def rdT (C : Cn) (E : WX) (T : List Nat) (f : MT) : TT := fun σ H Q => ∃ m : Mo, m.H = H ∧ m.σ = σ ∧ Sta C m ∧
  Want C E m (f m.env) fun b env' => ∀ m', m'.env = env' → m'.σ = σ → Sta C m' → Step T m m' → Q b m'.H
inductive RtsOk (C : Cn) (m : Mo) : List Rt → List V → Prop where
  | nil : RtsOk C m [] []
  | cons {r : Rt} {v : V} {rs : List Rt} {vs : List V} {av : Addr → Prop} : RtOk C m av r v → RtsOk C m rs vs → RtsOk C m (r :: rs) (v :: vs)
def rdA (C : Cn) (E : WX) (T : List Nat) (f : MA) : TA := fun σ H Q => ∃ m : Mo, m.H = H ∧ m.σ = σ ∧ Sta C m ∧
  Want C E m (f m.env) fun rs env' => ∀ vs m', m'.env = env' → m'.σ = σ → Sta C m' → Step T m m' → RtsOk C m' rs vs → Q vs m'.H
def FlOk (C : Cn) (m : Mo) (D : Ends) (fl : Fl) : Prop :=
  match fl with
  | .nx => D.nx m.σ m.H
  | .brk => D.bk m.σ m.H
  | .cont => D.ct m.σ m.H
  | .ret r => ∀ v av, RtOk C m av r v → D.rt v m.H
def rdS (C : Cn) (E : WX) (T : List Nat) (f : MS) : TS := fun D σ H => ∃ m : Mo, m.H = H ∧ m.σ = σ ∧ Sta C m ∧
  Want C E m (f m.env) fun fl env' => ∀ m', m'.env = env' → Sta C m' → Step T m m' → FlOk C m' D fl
end L3
namespace L3
open PySem L2

theorem PE.wk {X : Cx} {e : Expr} {t t' : TE} (h : PE X e t) (w : ∀ σ H Q, t' σ H Q → t σ H Q) : PE X e t' := ⟨fun pins s σ H Q I q => h.run pins s σ H Q I (w σ H Q q)⟩
theorem PT.wk {X : Cx} {e : Expr} {t t' : TT} (h : PT X e t) (w : ∀ σ H Q, t' σ H Q → t σ H Q) : PT X e t' := ⟨fun pins s σ H Q I q => h.run pins s σ H Q I (w σ H Q q)⟩
theorem PW.wk {X : Cx} {e : Expr} {t t' : TT} (h : PW X e t) (w : ∀ σ H Q, t' σ H Q → t σ H Q) : PW X e t' := ⟨fun wh pins s σ H Q I q => h.run wh pins s σ H Q I (w σ H Q q)⟩
theorem PA.wk {X : Cx} {e : List Expr} {t t' : TA} (h : PA X e t) (w : ∀ σ H Q, t' σ H Q → t σ H Q) : PA X e t' := ⟨fun p pins s σ H Q I q => h.run p pins s σ H Q I (w σ H Q q)⟩
theorem PS.wk {X : Cx} {e : Stmt} {t t' : TS} (h : PS X e t) (w : ∀ D σ H, t' D σ H → t D σ H) : PS X e t' := ⟨fun pins s σ H D I q => h.run pins s σ H D I (w D σ H q)⟩
theorem PSs.wk {X : Cx} {e : List Stmt} {t t' : TS} (h : PSs X e t) (w : ∀ D σ H, t' D σ H → t D σ H) : PSs X e t' := ⟨fun pins s σ H D I q => h.run pins s σ H D I (w D σ H q)⟩

theorem ExcOk.step {C : Cn} {E : WX} {m m1 : Mo} {c : Nat} {ds : List D} {env : Env} {T : List Nat} (h : ExcOk C E m c ds env) (s : Step T m m1) : ExcOk C E m1 c ds env :=
  fun m' he S' T' s' dd h1 h2 => h m' he S' _ (s.trans s') dd h1 h2
theorem Want.mono {α : Type} {C : Cn} {E : WX} {m m1 : Mo} {r : Rs α} {W W' : α → Env → Prop} {T : List Nat} (h : Want C E m r W) (s : Step T m m1) (k : ∀ a e, W a e → W' a e) : Want C E m1 r W' := by
  cases r with
  | ok a e => exact k a e h
  | exc c ds e => exact ExcOk.step h s
  | bad => exact h
theorem Want.imp {α : Type} {C : Cn} {E : WX} {m : Mo} {r : Rs α} {W W' : α → Env → Prop} (h : Want C E m r W) (k : ∀ a e, W a e → W' a e) : Want C E m r W' := by
  cases r with
  | ok a e => exact k a e h
  | exc c ds e => exact h
  | bad => exact h
theorem Want.bind {α β : Type} {C : Cn} {E : WX} {m : Mo} {r : Rs α} {f : α → Env → Rs β} {W : β → Env → Prop} (h : Want C E m (r.bind f) W) : Want C E m r fun a e => Want C E m (f a e) W := by
  cases r with
  | ok a e => exact h
  | exc c ds e => exact h
  | bad => exact h

def O.rt (x : Nat) : O → Rt
  | .s d => .val d
  | o => .bor x [] o
def mVar (i : Nat) : ME := fun env => match env[i]? with
  | some (some o) => .ok (o.rt i) env
  | _ => .bad
def mC (d : D) : ME := fun env => .ok (.val d) env

section
variable {X : Cx} {C : Cn} {E : WX} {e a b : Expr} {pos : Pos}
theorem rt_ok {m : Mo} {i : Nat} {o : O} {v : V} {f : Fp} {av : Addr → Prop} (S : Sta C m) (h : m.env[i]? = some (some o)) (hs : m.σ[i]? = some (some v)) (r : RpO C.K C.cl m.F m.H o v f) : RtOk C m av (o.rt i) v := by
  cases o with
  | s d => exact r.2
  | lst os => exact ⟨_, _, h, hs, rfl, rfl⟩
  | dk ks os => exact ⟨_, _, h, hs, rfl, rfl⟩
  | dt ks os => exact ⟨_, _, h, hs, rfl, rfl⟩
  | ins c ns os => exact ⟨_, _, h, hs, rfl, rfl⟩
theorem e_var (i : Nat) {x : Str} (hN : X.N[i]? = some x := by rfl) (hv : Vis X.env.scope x := by first | exact Or.inl rfl | exact Or.inr (Or.inl rfl) | exact Or.inr (Or.inr rfl)) (hd : (x == ("__debug__" : Str)) = false := by decide)
    (hcd : (x == ("__classdict__" : Str)) = false := by decide) : PE X (.Name x pos) (rdE C E [] (mVar i)) :=
  PE.wk (pv i hN hv hd hcd) fun σ H Q ⟨m, e1, e2, S, w⟩ => by
    subst e1 e2
    unfold mVar at w
    cases h : m.env[i]? with
    | none => rw [h] at w; exact w.elim
    | some o =>
      cases o with
      | none => rw [h] at w; exact w.elim
      | some o =>
        rw [h] at w
        obtain ⟨v, f, s1, s2, r⟩ := S.slot h
        exact ⟨v, s1, w v m rfl rfl S (Step.refl _ _) (rt_ok S h s1 r)⟩
def mSlot (i : Nat) : ME := fun env => match env[i]? with
  | some (some _) => .ok (.sl i) env
  | _ => .bad
theorem e_slot (i : Nat) {x : Str} (hN : X.N[i]? = some x := by rfl) (hv : Vis X.env.scope x := by first | exact Or.inl rfl | exact Or.inr (Or.inl rfl) | exact Or.inr (Or.inr rfl)) (hd : (x == ("__debug__" : Str)) = false := by decide)
    (hcd : (x == ("__classdict__" : Str)) = false := by decide) : PE X (.Name x pos) (rdE C E [] (mSlot i)) :=
  PE.wk (pv i hN hv hd hcd) fun σ H Q ⟨m, e1, e2, S, w⟩ => by
    subst e1 e2
    unfold mSlot at w
    cases h : m.env[i]? with
    | none => rw [h] at w; exact w.elim
    | some o =>
      cases o with
      | none => rw [h] at w; exact w.elim
      | some o =>
        rw [h] at w
        obtain ⟨v, f, s1, s2, r⟩ := S.slot h
        exact ⟨v, s1, w v m rfl rfl S (Step.refl _ _) s1⟩
theorem e_const {v : V} {d : D} {e : Expr} (h : PE X e (tC v)) (r : ∀ F : Hp, RpD C.K C.cl F d v) : PE X e (rdE C E [] (mC d)) :=
  PE.wk h fun σ H Q ⟨m, e1, e2, S, w⟩ => by
    subst e1 e2
    exact w v m rfl rfl S (Step.refl _ _) (r _)
theorem e_int {i : Int} {j : Nat} : PE X (.Constant (.int i) j pos) (rdE C E [] (mC (.int i))) := e_const pe_int fun _ => rfl
theorem e_bl {i : Bool} {j : Nat} : PE X (.Constant (.bool i) j pos) (rdE C E [] (mC (.bl i))) := e_const pe_bl fun _ => rfl
theorem e_non {j : Nat} : PE X (.Constant .none j pos) (rdE C E [] (mC .non)) := e_const pe_non fun _ => rfl
theorem e_str {s : Str} {j : Nat} : PE X (.Constant (.str s) j pos) (rdE C E [] (mC (.str s))) := e_const pe_str fun _ => rfl
theorem e_gint {i : Int} {x : Str} (hg : Gl X x) (hm : ∃ t, X.mg x = some (.int i t)) (hd : (x == ("__debug__" : Str)) = false := by decide) : PE X (.Name x pos) (rdE C E [] (mC (.int i))) :=
  let ⟨t, h⟩ := hm; e_const (pe_glob hg h (v := .int i) ⟨t, rfl⟩ hd) fun _ => rfl
theorem e_gstr {s : Str} {x : Str} (hg : Gl X x) (hm : ∃ t, X.mg x = some (.str s t)) (hd : (x == ("__debug__" : Str)) = false := by decide) : PE X (.Name x pos) (rdE C E [] (mC (.str s))) :=
  let ⟨t, h⟩ := hm; e_const (pe_glob hg h (v := .str s) ⟨t, rfl⟩ hd) fun _ => rfl

def Loc1 (C : Cn) (r : V → Hp → VK → Prop) (g : Rt → Option Rt) : Prop := ∀ (m : Mo) (x : V) (rx ry : Rt) (av : Addr → Prop) (Q : VK), Sta C m → RtOk C m av rx x → g rx = some ry →
  (∀ y m', Gro m m' → RtOk C m' (fun a => m.H a ≠ none) ry y → Q y m'.H) → r x m.H Q
def Loc2 (C : Cn) (r : R2) (g : Rt → Rt → Option Rt) : Prop := ∀ (m : Mo) (x y : V) (rx ry rz : Rt) (av av' : Addr → Prop) (Q : VK), Sta C m → RtOk C m av rx x → RtOk C m av' ry y → g rx ry = some rz →
  (∀ z m', Gro m m' → RtOk C m' (fun a => m.H a ≠ none) rz z → Q z m'.H) → r x y m.H Q
def LocN (C : Cn) (r : List V → Hp → VK → Prop) (g : List Rt → Option Rt) : Prop := ∀ (m : Mo) (xs : List V) (rs : List Rt) (ry : Rt) (Q : VK), Sta C m → RtsOk C m rs xs → g rs = some ry →
  (∀ y m', Gro m m' → RtOk C m' (fun a => m.H a ≠ none) ry y → Q y m'.H) → r xs m.H Q

def ofO {α : Type} (o : Option α) (env : Env) : Rs α := match o with
  | some a => .ok a env
  | none => .bad
def m1 (g : Rt → Option Rt) (f : ME) : ME := fun env => (f env).bind fun r e => ofO (g r) e
def m2 (g : Rt → Rt → Option Rt) (T : List Nat) (f1 f2 : ME) : ME := fun env => (f1 env).bind fun r1 e1 => if r1.hot T then .bad else (f2 e1).bind fun r2 e2 => ofO (g r1 r2) e2
def mNil : MA := fun env => .ok [] env
def mCons (T : List Nat) (f : ME) (fs : MA) : MA := fun env => (f env).bind fun r e1 => if r.hot T then .bad else (fs e1).bind fun rs e2 => .ok (r :: rs) e2
def mN (g : List Rt → Option Rt) (f : MA) : ME := fun env => (f env).bind fun r e => ofO (g r) e

theorem step_nil {T : List Nat} {m m1 m2 : Mo} (S : Sta C m1) (s : Step T m m1) (g : Gro m1 m2) : Step T m m2 := by
  have := s.trans (g.step S)
  simpa using this
theorem old_new {T : List Nat} {m m1 : Mo} (s : Step T m m1) : ∀ a, Old m a → m1.H a ≠ none := fun a h => s.dom a h.1

theorem rd1 {r : V → Hp → VK → Prop} {g : Rt → Option Rt} {T : List Nat} {f : ME} {σ : L2.St} {H : Hp} {Q : VK} (L : Loc1 C r g) (h : rdE C E T (m1 g f) σ H Q) : rdE C E T f σ H fun x H1 => r x H1 Q := by
  obtain ⟨m, e1, e2, S, w⟩ := h
  refine ⟨m, e1, e2, S, Want.imp w.bind fun rx env w => ?_⟩
  intro v m' e3 e4 S' s ok
  cases hg : g rx with
  | none => rw [hg] at w; exact w.elim
  | some ry =>
    rw [hg] at w
    refine L m' v rx ry _ Q S' ok hg fun y m2 G ok2 => ?_
    exact w y m2 (G.env.trans e3) (G.σ.trans e4) (S'.gro G) (step_nil S' s G) (ok2.av (old_new s))
theorem rd2 {r : R2} {g : Rt → Rt → Option Rt} {T1 T2 : List Nat} {f1 f2 : ME} {σ : L2.St} {H : Hp} {Q : VK} (L : Loc2 C r g) (h : rdE C E (T1 ++ T2) (m2 g T2 f1 f2) σ H Q) :
    rdE C E T1 f1 σ H fun x H1 => rdE C E T2 f2 σ H1 fun y H2 => r x y H2 Q := by
  obtain ⟨m, e1, e2, S, w⟩ := h
  refine ⟨m, e1, e2, S, Want.imp w.bind fun rx env w => ?_⟩
  intro v m' e3 e4 S' s ok
  by_cases hh : rx.hot T2 = true
  · rw [if_pos hh] at w; exact w.elim
  rw [if_neg hh] at w
  refine ⟨m', rfl, e4, S', ?_⟩
  rw [e3]
  refine Want.mono w.bind s fun ry env2 w => ?_
  intro v2 m2 e5 e6 S2 s2 ok2
  cases hg : g rx ry with
  | none => rw [hg] at w; exact w.elim
  | some rz =>
    rw [hg] at w
    refine L m2 v v2 rx ry rz _ _ Q S2 (ok.step S' s2 (by simpa using hh) (e6.trans e4.symm)) ok2 hg fun y m3 G ok3 => ?_
    exact w y m3 (G.env.trans e5) (G.σ.trans e6) (S2.gro G) (step_nil S2 (s.trans s2) G) (ok3.av (old_new (s.trans s2)))
theorem RtsOk.step {m m' : Mo} {T : List Nat} {rs : List Rt} {vs : List V} (S : Sta C m) (h : RtsOk C m rs vs) (t : Step T m m') (c : rs.all (fun r => !r.hot T) = true) (hσ : m'.σ = m.σ) : RtsOk C m' rs vs := by
  induction h with
  | nil => exact .nil
  | cons r _ ih =>
    rw [List.all_cons, Bool.and_eq_true] at c
    exact .cons (r.step S t (by simpa using c.1) hσ) (ih c.2)
theorem rdNil {σ : L2.St} {H : Hp} {Q : List V → Hp → Prop} (h : rdA C E [] mNil σ H Q) : tNil σ H Q := by
  obtain ⟨m, e1, e2, S, w⟩ := h
  subst e1
  exact w [] m rfl e2 S (Step.refl _ _) .nil
theorem rdCons {T1 T2 : List Nat} {f : ME} {fs : MA} {σ : L2.St} {H : Hp} {Q : List V → Hp → Prop} (h : rdA C E (T1 ++ T2) (mCons T2 f fs) σ H Q) : tCons (rdE C E T1 f) (rdA C E T2 fs) σ H Q := by
  obtain ⟨m, e1, e2, S, w⟩ := h
  refine ⟨m, e1, e2, S, Want.imp w.bind fun rx env w => ?_⟩
  intro v m' e3 e4 S' s ok
  by_cases hh : rx.hot T2 = true
  · rw [if_pos hh] at w; exact w.elim
  rw [if_neg hh] at w
  refine ⟨m', rfl, e4, S', ?_⟩
  rw [e3]
  refine Want.mono w.bind s fun ry env2 w => ?_
  intro v2 m2 e5 e6 S2 s2 ok2
  exact w (v :: v2) m2 e5 e6 S2 (s.trans s2) (.cons (ok.step S' s2 (by simpa using hh) (e6.trans e4.symm)) ok2)
theorem rdN {r : List V → Hp → VK → Prop} {g : List Rt → Option Rt} {T : List Nat} {f : MA} {σ : L2.St} {H : Hp} {Q : VK} (L : LocN C r g) (h : rdE C E T (mN g f) σ H Q) : rdA C E T f σ H fun x H1 => r x H1 Q := by
  obtain ⟨m, e1, e2, S, w⟩ := h
  refine ⟨m, e1, e2, S, Want.imp w.bind fun rx env w => ?_⟩
  intro v m' e3 e4 S' s ok
  cases hg : g rx with
  | none => rw [hg] at w; exact w.elim
  | some ry =>
    rw [hg] at w
    refine L m' v rx ry Q S' ok hg fun y m2 G ok2 => ?_
    exact w y m2 (G.env.trans e3) (G.σ.trans e4) (S'.gro G) (step_nil S' s G) (ok2.av (old_new s))

variable {T T1 T2 T3 : List Nat} {f f1 f2 : ME} {fs : MA} {es : List Expr}
theorem a_nil : PA X [] (rdA C E [] mNil) := PA.wk pa_nil fun _ _ _ h => rdNil h
theorem a_cons (h : PE X e (rdE C E T1 f)) (hs : PA X es (rdA C E T2 fs)) (hst : starEach (e :: es) X.env = (false, eval e X.env) :: starEach es X.env := by rfl) : PA X (e :: es) (rdA C E (T1 ++ T2) (mCons T2 f fs)) :=
  PA.wk (pa_cons h hs hst) fun _ _ _ h => rdCons h
theorem e_op {op : Operator} {r : R2} {g : Rt → Rt → Option Rt} (ho : OpR X (binaryOp op) r) (L : Loc2 C r g) (ha : PE X a (rdE C E T1 f1)) (hb : PE X b (rdE C E T2 f2)) : PE X (.BinOp a op b pos) (rdE C E (T1 ++ T2) (m2 g T2 f1 f2)) :=
  PE.wk (pe_op ho ha hb) fun _ _ _ h => rd2 L h
theorem e_un {op : UnaryOp} {r : V → Hp → VK → Prop} {g : Rt → Option Rt} (ho : UnR X (unaryOp op) r) (L : Loc1 C r g) (ha : PE X a (rdE C E T1 f1)) : PE X (.UnaryOp op a pos) (rdE C E T1 (m1 g f1)) :=
  PE.wk (pe_un ho ha) fun _ _ _ h => rd1 L h
theorem e_cmp {op : CmpOp} {r : R2} {g : Rt → Rt → Option Rt} (ho : OpR X (compareOp op) r) (L : Loc2 C r g) (ha : PE X a (rdE C E T1 f1)) (hb : PE X b (rdE C E T2 f2)) (hm : behindInMarks op b = false := by first | exact nomark _ | rfl) :
    PE X (.Compare a [op] [b] pos) (rdE C E (T1 ++ T2) (m2 g T2 f1 f2)) :=
  PE.wk (pe_cmpR ho ha hb hm) fun _ _ _ h => rd2 L h
theorem e_ix {r : R2} {g : Rt → Rt → Option Rt} (ho : IxR X r) (L : Loc2 C r g) (ha : PE X a (rdE C E T1 f1)) (hb : PE X b (rdE C E T2 f2)) (hs : PlainIx b) : PE X (.Subscript a b pos) (rdE C E (T1 ++ T2) (m2 g T2 f1 f2)) :=
  PE.wk (pe_ix ho ha hb hs) fun _ _ _ h => rd2 L h
theorem e_cb {r : List V → Hp → VK → Prop} {g : List Rt → Option Rt} (L : LocN C r g) (h : PE X e (tCB r (rdA C E T fs))) : PE X e (rdE C E T (mN g fs)) :=
  PE.wk h fun _ _ _ h => rdN L h

def toB : Rt → Option Bool
  | .val (.bl b) => some b
  | _ => none
def mTest (f : ME) : MT := fun env => (f env).bind fun r e => ofO (toB r) e
theorem rdTest {σ : L2.St} {H : Hp} {Q : Bool → Hp → Prop} (h : rdT C E T (mTest f) σ H Q) : rdE C E T f σ H fun x H1 => ∃ k, x = .bl k ∧ Q k H1 := by
  obtain ⟨m, e1, e2, S, w⟩ := h
  refine ⟨m, e1, e2, S, Want.imp w.bind fun rx env w => ?_⟩
  intro v m' e3 e4 S' s ok
  cases rx with
  | val d =>
    cases d with
    | bl k => exact ⟨k, ok, w m' e3 e4 S' s⟩
    | _ => exact w.elim
  | own o => exact w.elim
  | sl x => exact w.elim
  | bor x p o => exact w.elim
theorem t_cmp {op : CmpOp} {r : R2} {g : Rt → Rt → Option Rt} (ho : OpR X (compareOp op) r) (L : Loc2 C r g) (ha : PE X a (rdE C E T1 f1)) (hb : PE X b (rdE C E T2 f2)) (hm : behindInMarks op b = false := by first | exact nomark _ | rfl) :
    PT X (.Compare a [op] [b] pos) (rdT C E (T1 ++ T2) (mTest (m2 g T2 f1 f2))) :=
  PT.wk (pt_cmpR ho ha hb hm) fun σ H Q h => rd2 (Q := fun x H' => ∃ k, x = .bl k ∧ Q k H') L (rdTest h)
theorem t_val (ha : PE X a (rdE C E T1 f1)) (he : ∀ whole, isTrue a X.env whole = (do let v ← whole; standAt a.pos; holding [v] (truthy v)) := by intro _; rfl) : PT X a (rdT C E T1 (mTest f1)) :=
  PT.wk (pt_val ha he) fun σ H Q h => rdTest h

def tmAnd (t1 t2 : MT) : MT := fun env => (t1 env).bind fun b e => if b = true then t2 e else .ok false e
def tmOr (t1 t2 : MT) : MT := fun env => (t1 env).bind fun b e => if b = true then .ok true e else t2 e
def tmNot (t1 : MT) : MT := fun env => (t1 env).bind fun b e => .ok (!b) e
variable {t t1 t2 : MT} {rest : List Expr}
theorem w_and1 (ha : PT X a (rdT C E T1 t1)) : PW X (.BoolOp .And [a] pos) (rdT C E T1 t1) := pw_and1 ha
theorem w_or1 (ha : PT X a (rdT C E T1 t1)) : PW X (.BoolOp .Or [a] pos) (rdT C E T1 t1) := pw_or1 ha
theorem Step.inl {m m' : Mo} (s : Step T1 m m') : Step (T1 ++ T2) m m' := s.wk fun i h => List.mem_append_left _ h
theorem w_and (ha : PT X a (rdT C E T1 t1)) (hb : PW X (.BoolOp .And (b :: rest) pos) (rdT C E T2 t2)) : PW X (.BoolOp .And (a :: b :: rest) pos) (rdT C E (T1 ++ T2) (tmAnd t1 t2)) :=
  PW.wk (pw_and ha hb) fun σ H Q ⟨m, e1, e2, S, w⟩ => ⟨m, e1, e2, S, Want.imp w.bind fun k env w => fun m' e3 e4 S' s => by
    cases k with
    | true =>
      refine ⟨m', rfl, e4, S', ?_⟩
      rw [e3]
      exact Want.mono w s fun k2 env2 w m2 e5 e6 S2 s2 => w m2 e5 e6 S2 (s.trans s2)
    | false => exact w m' e3 e4 S' s.inl⟩
theorem w_or (ha : PT X a (rdT C E T1 t1)) (hb : PW X (.BoolOp .Or (b :: rest) pos) (rdT C E T2 t2)) : PW X (.BoolOp .Or (a :: b :: rest) pos) (rdT C E (T1 ++ T2) (tmOr t1 t2)) :=
  PW.wk (pw_or ha hb) fun σ H Q ⟨m, e1, e2, S, w⟩ => ⟨m, e1, e2, S, Want.imp w.bind fun k env w => fun m' e3 e4 S' s => by
    cases k with
    | false =>
      refine ⟨m', rfl, e4, S', ?_⟩
      rw [e3]
      exact Want.mono w s fun k2 env2 w m2 e5 e6 S2 s2 => w m2 e5 e6 S2 (s.trans s2)
    | true => exact w m' e3 e4 S' s.inl⟩
theorem t_w (h : PW X a (rdT C E T1 t1)) : PT X a (rdT C E T1 t1) := h.pt
theorem t_not (ha : PT X a (rdT C E T1 t1)) : PT X (.UnaryOp .Not a pos) (rdT C E T1 (tmNot t1)) :=
  PT.wk (pt_not ha) fun σ H Q ⟨m, e1, e2, S, w⟩ => ⟨m, e1, e2, S, Want.imp w.bind fun k env w => fun m' e3 e4 S' s => w m' e3 e4 S' s⟩
def mAnd (f1 f2 : ME) : ME := fun env => (f1 env).bind fun r e => match toB r with
  | some true => f2 e
  | some false => .ok (.val (.bl false)) e
  | none => .bad
def mOr (f1 f2 : ME) : ME := fun env => (f1 env).bind fun r e => match toB r with
  | some false => f2 e
  | some true => .ok (.val (.bl true)) e
  | none => .bad
theorem old_step {m m' : Mo} {T : List Nat} (s : Step T m m') {r : Rt} {v : V} {m2 : Mo} (h : RtOk C m2 (Old m') r v) : RtOk C m2 (Old m) r v :=
  h.av fun a ha => ⟨s.dom a ha.1, fun z => (s.newO a z).elim ha.1 ha.2⟩
theorem e_and (ha : PE X a (rdE C E T1 f1)) (hb : PE X (.BoolOp .And (b :: rest) pos) (rdE C E T2 f2)) : PE X (.BoolOp .And (a :: b :: rest) pos) (rdE C E (T1 ++ T2) (mAnd f1 f2)) :=
  PE.wk (pe_and ha hb) fun σ H Q ⟨m, e1, e2, S, w⟩ => ⟨m, e1, e2, S, Want.imp w.bind fun r env w => fun v m' e3 e4 S' s ok => by
    cases r with
    | val d =>
      cases d with
      | bl k =>
        refine ⟨k, ok, ?_⟩
        cases k with
        | true =>
          refine ⟨m', rfl, e4, S', ?_⟩
          rw [e3]
          exact Want.mono w s fun k2 env2 w v2 m2 e5 e6 S2 s2 ok2 => w v2 m2 e5 e6 S2 (s.trans s2) (old_step s ok2)
        | false => exact w _ m' e3 e4 S' s.inl rfl
      | _ => exact w.elim
    | own o => exact w.elim
    | sl x => exact w.elim
    | bor x p o => exact w.elim⟩
theorem e_or (ha : PE X a (rdE C E T1 f1)) (hb : PE X (.BoolOp .Or (b :: rest) pos) (rdE C E T2 f2)) : PE X (.BoolOp .Or (a :: b :: rest) pos) (rdE C E (T1 ++ T2) (mOr f1 f2)) :=
  PE.wk (pe_or ha hb) fun σ H Q ⟨m, e1, e2, S, w⟩ => ⟨m, e1, e2, S, Want.imp w.bind fun r env w => fun v m' e3 e4 S' s ok => by
    cases r with
    | val d =>
      cases d with
      | bl k =>
        refine ⟨k, ok, ?_⟩
        cases k with
        | false =>
          refine ⟨m', rfl, e4, S', ?_⟩
          rw [e3]
          exact Want.mono w s fun k2 env2 w v2 m2 e5 e6 S2 s2 ok2 => w v2 m2 e5 e6 S2 (s.trans s2) (old_step s ok2)
        | true => exact w _ m' e3 e4 S' s.inl rfl
      | _ => exact w.elim
    | own o => exact w.elim
    | sl x => exact w.elim
    | bor x p o => exact w.elim⟩
theorem e_one {op : BoolOp} (h : PE X a (rdE C E T1 f1)) : PE X (.BoolOp op [a] pos) (rdE C E T1 f1) := pe_one h
def mNot (f1 : ME) : ME := fun env => (f1 env).bind fun r e => match toB r with
  | some k => .ok (.val (.bl (!k))) e
  | none => .bad
theorem e_not (ha : PE X a (rdE C E T1 f1)) : PE X (.UnaryOp .Not a pos) (rdE C E T1 (mNot f1)) :=
  PE.wk (pe_not ha) fun σ H Q ⟨m, e1, e2, S, w⟩ => ⟨m, e1, e2, S, Want.imp w.bind fun r env w => fun v m' e3 e4 S' s ok => by
    cases r with
    | val d =>
      cases d with
      | bl k => exact ⟨k, ok, w _ m' e3 e4 S' s rfl⟩
      | _ => exact w.elim
    | own o => exact w.elim
    | sl x => exact w.elim
    | bor x p o => exact w.elim⟩
def mIf (t : MT) (f1 f2 : ME) : ME := fun env => (t env).bind fun b e => if b = true then f1 e else f2 e
theorem e_if {c : Expr} (hc : PT X c (rdT C E T1 t)) (ha : PE X a (rdE C E T2 f1)) (hb : PE X b (rdE C E T3 f2)) : PE X (.IfExp c a b pos) (rdE C E (T1 ++ (T2 ++ T3)) (mIf t f1 f2)) :=
  PE.wk (pe_ifExp hc ha hb) fun σ H Q ⟨m, e1, e2, S, w⟩ => ⟨m, e1, e2, S, Want.imp w.bind fun k env w => fun m' e3 e4 S' s => by
    cases k with
    | true =>
      refine ⟨m', rfl, e4, S', ?_⟩
      rw [e3]
      exact Want.mono w s fun k2 env2 w v2 m2 e5 e6 S2 s2 ok2 => w v2 m2 e5 e6 S2 ((s.trans s2).wk (by simp +contextual [or_imp])) (old_step s ok2)
    | false =>
      refine ⟨m', rfl, e4, S', ?_⟩
      rw [e3]
      exact Want.mono w s fun k2 env2 w v2 m2 e5 e6 S2 s2 ok2 => w v2 m2 e5 e6 S2 ((s.trans s2).wk (by simp +contextual [or_imp])) (old_step s ok2)⟩
end
end L3
namespace L3
open PySem L2 PySem.Spec PyProof.Rows
def NewT (Q : VK) (H : Hp) (xs : List V) : Prop := ∀ (p : Addr) (o : Obj), H p = none → o.dict = none → Q (.ref p) (upd H p (.frz o (.tup xs)))
theorem newT_go {X : Cx} {pins : List (Addr × Obj)} {σ : L2.St} {H : Hp} {s : Shared} {Q : VK} {xs : List V} {its : List Value} (I : Inv X pins σ H s) (r : Vals xs its) (z : xs.length ≤ sizeLine) (q : NewT Q H xs) :
    EP X pins σ Q (.ref s.heap.objs.size) { s with heap := s.heap.push { cls := .type "tuple", data := .seq its.toArray } } :=
  ⟨.ref s.heap.objs.size, _, I.laid (t' := s.toks) (o := .frz { cls := .type "tuple", data := .seq its.toArray } (.tup xs)) (fun b ob q => Heap.get?_push_of_some _ q) (Nat.le_refl _) ⟨Heap.get?_push_size _ rfl, z, its, r, IsTup.new _ _⟩, rfl, q _ _ (I.hok.fresh (Nat.le_refl _)) rfl⟩
def tTupF (t : TA) : TE := fun σ H Q => t σ H fun xs H1 => xs.length ≤ sizeLine ∧ NewT Q H1 xs
section
variable {X : Cx} {es : List Expr} {t : TA} {pos : Pos}
theorem pe_tupF {x1} (h : PA X es t) : PE X (.Tuple es x1 pos) (tTupF t) := by
  refine ⟨fun pins s σ H Q I hq => ?_⟩
  exact wpAny_Tuple_spliced (thn (h.run pos pins s σ H _ I hq) fun us s1 ⟨xs, H1, I1, r, z, q⟩ => ⟨by rw [← r.length]; exact z, newT_go I1 r z q⟩)
theorem call_tuple_ofF : CallR X (.type "tuple") (fun xs H Q => ∃ p ys, xs = [.ref p] ∧ ((SqL X.K H p ys ∧ NewT Q H ys) ∨ (SqT X.K H p ys ∧ Q (.ref p) H))) := by
  intro pins s σ H xs us Q I r h
  obtain ⟨p, ys, rfl, h⟩ := h
  obtain ⟨u, rfl, rx⟩ := vals1 r
  cases rx
  rcases h with ⟨hq, q⟩ | ⟨hq, q⟩
  · obtain ⟨its, r', pl, hz⟩ := I.list hq
    have hlen := r'.length
    refine call_tuple_list pl.isList (fun h' kp => ?_) (by simp only [List.size_toArray] <;> omega)
    have I1 : Inv X pins σ H { s with heap := h' } := I.kept (t' := s.toks) kp
    exact newT_go I1 r' hz q
  · obtain ⟨its, r', pl, hz⟩ := I.tuple hq
    exact call_tuple_same pl ⟨.ref p, H, I, rfl, q⟩
def rCatF (K : PySem.W.Frag) : R2 := fun x y H Q => ∃ a b xs ys, x = .ref a ∧ y = .ref b ∧ SqT K H a xs ∧ SqT K H b ys ∧ xs.length + ys.length ≤ sizeLine ∧
  (xs = [] → Q (.ref b) H) ∧ (xs ≠ [] → ys = [] → Q (.ref a) H) ∧ (xs ≠ [] → ys ≠ [] → NewT Q H (xs ++ ys))
theorem op_catF : OpR X (binaryOp .Add) (rCatF X.K) := by
  intro pins s σ H x y v u Q I rx ry h
  obtain ⟨a, b, xs, ys, rfl, rfl, ha, hb, hz, q0, q1, q2⟩ := h
  cases rx
  cases ry
  obtain ⟨its, r1, p1, _⟩ := I.tuple ha
  obtain ⟨its2, r2, p2, _⟩ := I.tuple hb
  by_cases hx : xs = []
  · subst hx
    cases r1
    exact cat_tup0 p1 p2 ⟨.ref b, H, I, rfl, q0 rfl⟩
  · refine HT.cat_tup p1 p2 (fun z => hx (r1.nil_iff.mp z)) (fun z => ⟨.ref a, H, I, rfl, q1 hx (r2.nil_iff.mp z)⟩) (fun z => ?_) (by rw [← r1.length, ← r2.length]; exact hz)
    exact newT_go I (r1.append r2) (by rw [List.length_append]; exact hz) (q2 hx fun w => z (r2.nil_iff.mpr w))
def rSlF (K : PySem.W.Frag) : V → Option Int → Option Int → Hp → VK → Prop := fun x lo hi H Q => ∃ a xs, x = .ref a ∧ SqT K H a xs ∧
  (HT.sIx xs.length 0 lo = 0 ∧ HT.sIx xs.length xs.length hi = xs.length → Q (.ref a) H) ∧ (¬ (HT.sIx xs.length 0 lo = 0 ∧ HT.sIx xs.length xs.length hi = xs.length) → NewT Q H (cutV xs lo hi))
theorem sl_tupF : SlR X (rSlF X.K) := by
  intro pins s σ H x v vl vu lo hi sl Q I rx hs pl pu h
  obtain ⟨a, xs, rfl, hx, q1, q2⟩ := h
  cases rx
  obtain ⟨its, r, ht, hz⟩ := I.tuple hx
  have hlen : its.toArray.size = xs.length := by rw [List.size_toArray]; exact r.length.symm
  by_cases hw : HT.sIx xs.length 0 lo = 0 ∧ HT.sIx xs.length xs.length hi = xs.length
  · refine ⟨"tuple", _, PyProof.Rows.slot_tuple_getitem.lookup, ht.typeIs, ?_⟩
    exact getItem_tuple_whole ht hs pl pu (by rw [hlen]; exact hw) ⟨.ref a, H, I, rfl, q1 hw⟩
  · refine ⟨"tuple", _, PyProof.Rows.slot_tuple_getitem.lookup, ht.typeIs, ?_⟩
    refine HT.getItem_tuple_cut ht hs pl pu (by rw [hlen]; exact hw) ?_ (by rw [hlen]; exact hz)
    rw [hlen]
    exact newT_go I ((r.drop (HT.sIx xs.length 0 lo)).take (HT.sIx xs.length xs.length hi - HT.sIx xs.length 0 lo)) (Nat.le_trans (cutV_length xs lo hi) hz) (q2 hw)
def rRepF (K : PySem.W.Frag) : R2 := fun x y H Q => ∃ l k xs, x = .ref l ∧ y = .int k ∧ SqT K H l xs ∧ xs ≠ [] ∧ 2 ≤ k ∧ k ≤ 1000 ∧ xs.length ≤ 1000 ∧ NewT Q H (List.replicate k.toNat xs).flatten
theorem op_repF : OpR X (binaryOp .Mult) (rRepF X.K) := by
  intro pins s σ H x y v u Q I rx ry h
  obtain ⟨l, k, xs, rfl, rfl, hT, hne, h1, h2, hz, q⟩ := h
  cases rx
  obtain ⟨t, rfl⟩ := ry
  obtain ⟨its, r, ⟨⟨cls, dd, data, sl⟩, ho, hc, n, hd⟩, hs⟩ := I.tuple hT
  simp only at hc hd
  subst hc hd
  have hle : its.length = xs.length := r.length.symm
  have hn : its ≠ [] := fun e => hne (by
    rw [e] at hle
    exact List.eq_nil_of_length_eq_zero hle.symm)
  have hi : its.toArray.isEmpty = false := by
    cases its with
    | nil => exact absurd rfl hn
    | cons a b => rfl
  have hsz0 : its.toArray.size = xs.length := by rw [List.size_toArray, hle]
  have hm : ((its.toArray.size : Nat) : Int) * k ≤ 1000000 := by
    rw [hsz0]
    have a1 : ((xs.length : Nat) : Int) * k ≤ 1000 * k := Int.mul_le_mul_of_nonneg_right (by omega) (by omega)
    omega
  have a1 : k.toNat * xs.length ≤ 1000 * 1000 := Nat.mul_le_mul (by omega) hz
  have flen : (List.replicate k.toNat its).flatten.length ≤ sizeLine := by
    rw [PyProof.Rows.lm_len_rep_flat, hle, sizeLine_eq]
    omega
  have c0 : (decide (k < -(2 ^ 63)) || decide (k ≥ 2 ^ 63)) = false := by
    rw [decide_eq_false (by omega), decide_eq_false (by omega)] <;> rfl
  have c1 : (its.toArray.isEmpty || k == 1) = false := by
    rw [hi, Bool.false_or]
    exact beq_eq_false_iff_ne.mpr (by omega)
  have c2 : (decide (k ≤ 0) || its.toArray.isEmpty) = false := by
    rw [hi, Bool.or_false]
    exact decide_eq_false (by omega)
  have c4 : Builtin.Tuple.tupleTooMany (((its.toArray.size : Nat) : Int) * k) = false := by
    unfold Builtin.Tuple.tupleTooMany
    rw [sizeLine_eq]
    exact decide_eq_false (by omega)
  refine wpAny_binaryOp_repeat_ref (T := "tuple") (U := "int") (by decide) ⟨_, ho, rfl⟩ (fun s' => typeIs_int s' k t) noFill_tuple_mul F.fills_int_mul F.slot_int_rmul repeat_tuple F.slot_int_index.lookup
    (call_meets F.slot_int_rmul (typeIs_int s k t) F.entry_int_rmul (F.args_int_rmul_2 _ _) (int_rmul_tuple k t l its.toArray n dd sl)
      ⟨ho, rfl, ⟨_, ho, rfl⟩, call_meets F.slot_tuple_mul ⟨_, ho, rfl⟩ F.entry_tuple_mul (F.args_tuple_mul_2 _ _) (tuple_mulW l its.toArray n dd sl k t c0 c1 c2 (by omega) c4 (by rw [size_rep, List.size_toArray]; exact flen)) ⟨ho, ?_⟩⟩)
  rw [size_rep]
  exact newT_go I (r.rep k.toNat) (by rw [PyProof.Rows.lm_len_rep_flat, sizeLine_eq]; omega) q
end
end L3
namespace L3
open PySem L2

section
variable {C : Cn}
def gI (g : Int → Int → D) : Rt → Rt → Option Rt
  | .val (.int i), .val (.int j) => some (.val (g i j))
  | _, _ => none
def gIc (c : Int → Int → Bool) (g : Int → Int → D) : Rt → Rt → Option Rt
  | .val (.int i), .val (.int j) => if c i j = true then some (.val (g i j)) else none
  | _, _ => none
theorem gI_some {g : Int → Int → D} {rx ry rz : Rt} (h : gI g rx ry = some rz) : ∃ i j, rx = .val (.int i) ∧ ry = .val (.int j) ∧ rz = .val (g i j) := by
  unfold gI at h
  split at h
  · exact ⟨_, _, rfl, rfl, (Option.some.inj h).symm⟩
  · cases h
theorem gIc_some {c : Int → Int → Bool} {g : Int → Int → D} {rx ry rz : Rt} (h : gIc c g rx ry = some rz) : ∃ i j, rx = .val (.int i) ∧ ry = .val (.int j) ∧ c i j = true ∧ rz = .val (g i j) := by
  unfold gIc at h
  split at h
  · split at h
    · rename_i q
      exact ⟨_, _, rfl, rfl, q, (Option.some.inj h).symm⟩
    · cases h
  · cases h
theorem loc_I0 {g : Int → Int → V} {gd : Int → Int → D} (hr : ∀ F i j, RpD C.K C.cl F (gd i j) (g i j)) : Loc2 C (rI0 g) (gI gd) := by
  intro m x y rx ry rz av av' Q S h1 h2 h k
  obtain ⟨i, j, rfl, rfl, rfl⟩ := gI_some h
  exact ⟨i, j, h1, h2, k _ m (Gro.refl S) (hr _ _ _)⟩
theorem loc_Ic {c : Int → Int → Prop} {cd : Int → Int → Bool} {g : Int → Int → V} {gd : Int → Int → D} (hc : ∀ i j, cd i j = true → c i j) (hr : ∀ F i j, RpD C.K C.cl F (gd i j) (g i j)) : Loc2 C (rI c g) (gIc cd gd) := by
  intro m x y rx ry rz av av' Q S h1 h2 h k
  obtain ⟨i, j, rfl, rfl, q, rfl⟩ := gIc_some h
  exact ⟨i, j, h1, h2, hc i j q, k _ m (Gro.refl S) (hr _ _ _)⟩
theorem loc_sub : Loc2 C (rI0 fun i j => .int (i - j)) (gI fun i j => .int (i - j)) := loc_I0 fun _ _ _ => rfl
theorem loc_lt : Loc2 C (rI0 fun i j => .bl (decide (i < j))) (gI fun i j => .bl (decide (i < j))) := loc_I0 fun _ _ _ => rfl
theorem loc_le : Loc2 C (rI0 fun i j => .bl (decide (i ≤ j))) (gI fun i j => .bl (decide (i ≤ j))) := loc_I0 fun _ _ _ => rfl
theorem loc_gt : Loc2 C (rI0 fun i j => .bl (decide (j < i))) (gI fun i j => .bl (decide (j < i))) := loc_I0 fun _ _ _ => rfl
theorem loc_ge : Loc2 C (rI0 fun i j => .bl (decide (j ≤ i))) (gI fun i j => .bl (decide (j ≤ i))) := loc_I0 fun _ _ _ => rfl
def cMul (i j : Int) : Bool := decide (i.natAbs.log2 + j.natAbs.log2 < 1000000)
def cDiv (_ j : Int) : Bool := decide (0 < j ∧ j < 1073741824)
def cMod (_ j : Int) : Bool := decide (0 < j)
def cPow (i j : Int) : Bool := decide (0 ≤ j ∧ j ≤ 1000000 ∧ i.natAbs < 2 ^ 64)
theorem loc_mulI : Loc2 C (rI CMulW fun i j => .int (i * j)) (gIc cMul fun i j => .int (i * j)) := loc_Ic (fun _ _ h => by simpa [cMul, cDiv, cMod, cPow, CMulW, CDiv, CPow] using h) fun _ _ _ => rfl
theorem loc_fdiv : Loc2 C (rI CDiv fun i j => .int (i / j)) (gIc cDiv fun i j => .int (i / j)) := loc_Ic (fun _ _ h => by simpa [cMul, cDiv, cMod, cPow, CMulW, CDiv, CPow] using h) fun _ _ _ => rfl
theorem loc_mod : Loc2 C (rI (fun _ j => 0 < j) fun i j => .int (i % j)) (gIc cMod fun i j => .int (i % j)) := loc_Ic (fun _ _ h => by simpa [cMul, cDiv, cMod, cPow, CMulW, CDiv, CPow] using h) fun _ _ _ => rfl
theorem loc_pow : Loc2 C (rI CPow fun i j => .int (i ^ j.toNat)) (gIc cPow fun i j => .int (i ^ j.toNat)) := loc_Ic (fun _ _ h => by simpa [cMul, cDiv, cMod, cPow, CMulW, CDiv, CPow] using h) fun _ _ _ => rfl
def gNeg : Rt → Option Rt
  | .val (.int i) => some (.val (.int (-i)))
  | _ => none
theorem loc_neg : Loc1 C (rU fun i => .int (-i)) gNeg := by
  intro m x rx ry av Q S h1 h k
  unfold gNeg at h
  split at h
  · cases h
    exact ⟨_, h1, k _ m (Gro.refl S) rfl⟩
  · cases h

mutual
def D.py : D → Option PyData
  | .non => some .none
  | .bl b => some (.bool b)
  | .int i => some (.int i)
  | .str s => some (.str s)
  | .tup ds => (D.pys ds).map PyData.tuple
  | .lst ds => (D.pys ds).map PyData.list
  | _ => none
def D.pys : List D → Option (List PyData)
  | [] => some []
  | d :: ds => match d.py, D.pys ds with
    | some p, some ps => some (p :: ps)
    | _, _ => none
end
mutual
theorem RpD.dp {K : PySem.W.Frag} {cl : Nat → Addr} {H : Hp} : ∀ (d : D) (v : V) (p : PyData), RpD K cl H d v → d.py = some p → Dp K H v p
  | .non, v, p, h, e => by cases e; rw [show v = .non from h]; exact .non
  | .bl b, v, p, h, e => by cases e; rw [show v = .bl b from h]; exact .bl b
  | .int b, v, p, h, e => by cases e; rw [show v = .int b from h]; exact .int b
  | .str b, v, p, h, e => by cases e; rw [show v = .str b from h]; exact .str b
  | .tup ds, v, p, h, e => by
    unfold D.py at e
    cases q : D.pys ds with
    | none => rw [q] at e; cases e
    | some ps =>
      rw [q] at e; cases e
      obtain ⟨a, xs, rfl, h1, h2⟩ := h
      exact .tup h1.1 (RpDs.dp ds xs ps h2 q)
  | .lst ds, v, p, h, e => by
    unfold D.py at e
    cases q : D.pys ds with
    | none => rw [q] at e; cases e
    | some ps =>
      rw [q] at e; cases e
      obtain ⟨a, xs, rfl, h1, h2⟩ := h
      exact .lst h1 (RpDs.dp ds xs ps h2 q)
  | .dk _ _, v, p, h, e => by cases e
  | .dt _ _, v, p, h, e => by cases e
  | .ins _ _ _, v, p, h, e => by cases e
  | .ty _, v, p, h, e => by cases e
  | .cls _, v, p, h, e => by cases e
theorem RpDs.dp {K : PySem.W.Frag} {cl : Nat → Addr} {H : Hp} : ∀ (ds : List D) (vs : List V) (ps : List PyData), RpDs K cl H ds vs → D.pys ds = some ps → DpAll K H vs ps
  | [], vs, ps, h, e => by cases e; rw [show vs = [] from h]; exact .nil
  | d :: ds, vs, ps, h, e => by
    obtain ⟨v, r, rfl, h1, h2⟩ := h
    unfold D.pys at e
    split at e
    · rename_i p q e1 e2
      cases e
      exact .cons (RpD.dp d v p h1 e1) (RpDs.dp ds r q h2 e2)
    · cases e
end
def eqD (d e : D) : Option Bool := match d.py, e.py with
  | some p, some q => if SeqAt.shaped p = true ∧ SeqAt.shaped q = true then some (PyData.eqv p q) else none
  | _, _ => none
def gEq (rx ry : Rt) : Option Rt := (if rx.isSl = true ∨ ry.isSl = true then none else eqD rx.d ry.d).map fun b => .val (.bl b)
def gNe (rx ry : Rt) : Option Rt := (if rx.isSl = true ∨ ry.isSl = true then none else eqD rx.d ry.d).map fun b => .val (.bl (!b))
theorem eqD_some {d e : D} {b : Bool} (h : eqD d e = some b) : ∃ p q, d.py = some p ∧ e.py = some q ∧ SeqAt.shaped p = true ∧ SeqAt.shaped q = true ∧ b = PyData.eqv p q := by
  unfold eqD at h
  split at h
  · rename_i p q e1 e2
    split at h
    · rename_i z
      exact ⟨p, q, e1, e2, z.1, z.2, (Option.some.inj h).symm⟩
    · cases h
  · cases h
theorem loc_eq : Loc2 C (rEqD C.K) gEq := by
  intro m x y rx ry rz av av' Q S h1 h2 h k
  unfold gEq at h
  by_cases hs : rx.isSl = true ∨ ry.isSl = true
  · rw [if_pos hs] at h; cases h
  rw [if_neg hs] at h
  cases e : eqD rx.d ry.d with
  | none => rw [e] at h; cases h
  | some b =>
    rw [e] at h; cases h
    obtain ⟨p, q, e1, e2, z1, z2, rfl⟩ := eqD_some e
    exact ⟨p, q, RpD.dp _ _ _ (h1.rd S (by cases q : rx.isSl <;> simp_all)) e1, RpD.dp _ _ _ (h2.rd S (by cases q : ry.isSl <;> simp_all)) e2, z1, z2, k _ m (Gro.refl S) rfl⟩
theorem loc_ne : Loc2 C (rNeD C.K) gNe := by
  intro m x y rx ry rz av av' Q S h1 h2 h k
  unfold gNe at h
  by_cases hs : rx.isSl = true ∨ ry.isSl = true
  · rw [if_pos hs] at h; cases h
  rw [if_neg hs] at h
  cases e : eqD rx.d ry.d with
  | none => rw [e] at h; cases h
  | some b =>
    rw [e] at h; cases h
    obtain ⟨p, q, e1, e2, z1, z2, rfl⟩ := eqD_some e
    exact ⟨p, q, RpD.dp _ _ _ (h1.rd S (by cases q : rx.isSl <;> simp_all)) e1, RpD.dp _ _ _ (h2.rd S (by cases q : ry.isSl <;> simp_all)) e2, z1, z2, k _ m (Gro.refl S) rfl⟩
def D.isN : D → Bool
  | .non => true
  | _ => false
theorem RpD.isN {K : PySem.W.Frag} {cl : Nat → Addr} {H : Hp} {d : D} {v : V} (h : RpD K cl H d v) : decide (v = .non) = d.isN := by
  cases d with
  | non => rw [show v = .non from h]; rfl
  | bl b => rw [show v = .bl b from h]; rfl
  | int b => rw [show v = .int b from h]; rfl
  | str b => rw [show v = .str b from h]; rfl
  | tup ds => obtain ⟨a, xs, rfl, _⟩ := h; rfl
  | lst ds => obtain ⟨a, xs, rfl, _⟩ := h; rfl
  | dk ks ds => obtain ⟨a, xs, rfl, _⟩ := h; rfl
  | dt ks ds => obtain ⟨a, xs, rfl, _⟩ := h; rfl
  | ins ks ns ds => obtain ⟨a, dx, xs, rfl, _⟩ := h; rfl
  | ty b => rw [show v = .ty b from h]; rfl
  | cls b => rw [show v = .ref _ from h]; rfl
def gIs (n : Bool) (rx ry : Rt) : Option Rt := match ry with
  | .val .non => if rx.isSl = true then none else some (.val (.bl (rx.d.isN != n)))
  | _ => none
theorem loc_is : Loc2 C (fun x y H Q => y = .non ∧ Q (.bl (decide (x = .non))) H) (gIs false) := by
  intro m x y rx ry rz av av' Q S h1 h2 h k
  unfold gIs at h
  split at h
  · split at h
    · cases h
    rename_i hs
    cases h
    refine ⟨h2, ?_⟩
    rw [(h1.rd S (by simpa using hs)).isN]
    exact k _ m (Gro.refl S) (by show V.bl _ = V.bl _; simp)
  · cases h
theorem loc_isNot : Loc2 C (fun x y H Q => y = .non ∧ Q (.bl (!decide (x = .non))) H) (gIs true) := by
  intro m x y rx ry rz av av' Q S h1 h2 h k
  unfold gIs at h
  split at h
  · split at h
    · cases h
    rename_i hs
    cases h
    refine ⟨h2, ?_⟩
    rw [(h1.rd S (by simpa using hs)).isN]
    exact k _ m (Gro.refl S) (by show V.bl _ = V.bl _; simp)
  · cases h

def leaves : List O → Option (List D)
  | [] => some []
  | .s d :: os => (leaves os).map (d :: ·)
  | _ :: _ => none
theorem leaves_map (ds : List D) : leaves (ds.map O.s) = some ds := by
  induction ds with
  | nil => rfl
  | cons d ds ih => rw [List.map_cons]; unfold leaves; rw [ih]; rfl
theorem leaves_some : ∀ {os : List O} {ds : List D}, leaves os = some ds → os = ds.map O.s
  | [], ds, h => by cases h; rfl
  | .s d :: os, ds, h => by
    unfold leaves at h
    cases e : leaves os with
    | none => rw [e] at h; cases h
    | some r => rw [e] at h; cases h; rw [List.map_cons, leaves_some e]
  | .lst _ :: _, ds, h => by cases h
  | .dk _ _ :: _, ds, h => by cases h
  | .dt _ _ :: _, ds, h => by cases h
  | .ins _ _ _ :: _, ds, h => by cases h
theorem RpOs.leaves {K : PySem.W.Frag} {cl : Nat → Addr} {F H : Hp} : ∀ {ds : List D} {xs : List V} {fp : Fp}, RpOs K cl F H (ds.map O.s) xs fp → fp = [] ∧ RpDs K cl F ds xs
  | [], xs, fp, h => ⟨h.2, h.1⟩
  | d :: ds, xs, fp, h => by
    obtain ⟨v, r, f, g, rfl, rfl, ⟨rfl, h1⟩, h2⟩ := h
    obtain ⟨rfl, h3⟩ := RpOs.leaves h2
    exact ⟨rfl, v, r, rfl, h1, h3⟩
def Rt.items : Rt → Option (Bool × List D)
  | .val (.tup ds) => some (false, ds)
  | .val (.lst ds) => some (true, ds)
  | .own (.lst os) => (leaves os).map fun ds => (true, ds)
  | .bor _ _ (.lst os) => (leaves os).map fun ds => (true, ds)
  | _ => none
theorem RtOk.bor {m : Mo} {x : Nat} {p : List Stp} {o : O} {v : V} {av : Addr → Prop} (S : Sta C m) (h : RtOk C m av (.bor x p o) v) : ∃ f, RpO C.K C.cl m.F m.H o v f := by
  obtain ⟨d0, v0, e1, e2, h⟩ := h
  obtain ⟨v1, f, s1, s2, r⟩ := S.slot e1
  rw [e2] at s1
  cases s1
  obtain ⟨g, r2, _⟩ := At.rp r h
  exact ⟨g, r2⟩
theorem RtOk.items {m : Mo} {r : Rt} {v : V} {av : Addr → Prop} {b : Bool} {ds : List D} (S : Sta C m) (h : RtOk C m av r v) (e : r.items = some (b, ds)) :
    ∃ a xs, v = .ref a ∧ RpDs C.K C.cl m.F ds xs ∧ (if b = true then SqL C.K m.H a xs else SqT C.K m.H a xs) := by
  unfold Rt.items at e
  split at e
  · cases e
    obtain ⟨a, xs, rfl, h1, h2⟩ := h
    exact ⟨a, xs, rfl, h2, by rw [if_neg (by decide)]; exact S.ex.sqT h1.1⟩
  · cases e
    obtain ⟨a, xs, rfl, h1, h2⟩ := h
    exact ⟨a, xs, rfl, h2, by rw [if_pos rfl]; exact S.ex.sqL h1⟩
  · rename_i os
    cases q : leaves os with
    | none => rw [q] at e; cases e
    | some es =>
      rw [q] at e; cases e
      obtain rfl := leaves_some q
      obtain ⟨fp, ⟨a, xs, f, rfl, _, h1, h2⟩, _⟩ := h
      exact ⟨a, xs, rfl, (RpOs.leaves h2).2, by rw [if_pos rfl]; exact .inl (.inl h1)⟩
  · rename_i x p os
    cases q : leaves os with
    | none => rw [q] at e; cases e
    | some es =>
      rw [q] at e; cases e
      obtain rfl := leaves_some q
      obtain ⟨fp, a, xs, f, rfl, _, h1, h2⟩ := h.bor S
      exact ⟨a, xs, rfl, (RpOs.leaves h2).2, by rw [if_pos rfl]; exact .inl (.inl h1)⟩
  · cases e
def Rt.len : Rt → Option Nat
  | .val (.tup ds) => some ds.length
  | .val (.lst ds) => some ds.length
  | .val (.str s) => if s.length ≤ 16777216 then some s.length else none
  | .own (.lst os) => some os.length
  | .bor _ _ (.lst os) => some os.length
  | _ => none
def gLen : List Rt → Option Rt
  | [r] => r.len.map fun n => .val (.int n)
  | _ => none
theorem RtsOk.one {m : Mo} {r : Rt} {xs : List V} (h : RtsOk C m [r] xs) : ∃ x av, xs = [x] ∧ RtOk C m av r x := by
  cases h with
  | cons h t => cases t; exact ⟨_, _, rfl, h⟩
theorem RtsOk.two {m : Mo} {r s : Rt} {xs : List V} (h : RtsOk C m [r, s] xs) : ∃ x y av av', xs = [x, y] ∧ RtOk C m av r x ∧ RtOk C m av' s y := by
  cases h with
  | cons h t =>
    obtain ⟨y, av, rfl, h2⟩ := t.one
    exact ⟨_, _, _, _, rfl, h, h2⟩
theorem sizeLine_is : sizeLine = 16777216 := sizeLine_eq
theorem loc_len : LocN C (fun xs H Q => ∃ x n, xs = [x] ∧ LenV C.K x H n ∧ Q (.int n) H) gLen := by
  intro m xs rs ry Q S h e k
  unfold gLen at e
  split at e
  · rename_i r
    obtain ⟨x, av, rfl, hx⟩ := h.one
    replace h := hx
    cases q : r.len with
    | none => rw [q] at e; cases e
    | some n =>
      rw [q] at e; cases e
      refine ⟨x, n, rfl, ?_, k _ m (Gro.refl S) rfl⟩
      unfold Rt.len at q
      split at q
      · cases q
        obtain ⟨a, xs, rfl, h1, h2⟩ := h
        exact .inr ⟨xs, S.ex.sqT h1.1, h2.length.symm⟩
      · cases q
        obtain ⟨a, xs, rfl, h1, h2⟩ := h
        exact .inl ⟨xs, S.ex.sqL h1, h2.length.symm⟩
      · rename_i s
        split at q
        · rename_i z
          cases q
          rw [show x = .str s from h]
          exact ⟨by rw [sizeLine_is]; exact z, rfl⟩
        · cases q
      · cases q
        obtain ⟨fp, ⟨a, xs, f, rfl, _, h1, h2⟩, _⟩ := h
        exact .inl ⟨xs, .inl (.inl h1), h2.length.symm⟩
      · cases q
        obtain ⟨fp, a, xs, f, rfl, _, h1, h2⟩ := h.bor S
        exact .inl ⟨xs, .inl (.inl h1), h2.length.symm⟩
      · cases q
  · cases e
def D.flat : D → Bool
  | .non => true
  | .bl _ => true
  | .int _ => true
  | .str _ => true
  | _ => false
def D.v : D → V
  | .bl b => .bl b
  | .int i => .int i
  | .str s => .str s
  | _ => .non
theorem RpD.flat {K : PySem.W.Frag} {cl : Nat → Addr} {H : Hp} {d : D} {v : V} (h : RpD K cl H d v) (f : d.flat = true) : v = d.v ∧ flatV v = true := by
  cases d with
  | non => rw [show v = .non from h]; exact ⟨rfl, rfl⟩
  | bl b => rw [show v = .bl b from h]; exact ⟨rfl, rfl⟩
  | int b => rw [show v = .int b from h]; exact ⟨rfl, rfl⟩
  | str b => rw [show v = .str b from h]; exact ⟨rfl, rfl⟩
  | _ => cases f
theorem RpDs.flat {K : PySem.W.Frag} {cl : Nat → Addr} {H : Hp} : ∀ {ds : List D} {vs : List V}, RpDs K cl H ds vs → ds.all D.flat = true → vs = ds.map D.v ∧ vs.all flatV = true
  | [], vs, h, _ => by rw [show vs = [] from h]; exact ⟨rfl, rfl⟩
  | d :: ds, vs, h, f => by
    obtain ⟨v, r, rfl, h1, h2⟩ := h
    rw [List.all_cons, Bool.and_eq_true] at f
    obtain ⟨e1, e2⟩ := h1.flat f.1
    obtain ⟨e3, e4⟩ := h2.flat f.2
    exact ⟨by rw [e1, e3]; rfl, by rw [List.all_cons, e2, e4]; rfl⟩
def inD (x : D) (ds : List D) : Bool := ds.any fun y => eqV y.v x.v
def gIn (neg : Bool) (rx ry : Rt) : Option Rt := match rx, ry.items with
  | .val d, some (_, ds) => if d.flat = true ∧ ds.all D.flat = true then some (.val (.bl (inD d ds != neg))) else none
  | _, _ => none
theorem loc_in {neg : Bool} : Loc2 C (rIn C.K neg) (gIn neg) := by
  intro m x y rx ry rz av av' Q S h1 h2 h k
  unfold gIn at h
  split at h
  · rename_i d b ds e
    split at h
    · rename_i z
      cases h
      obtain ⟨a, xs, rfl, h3, h4⟩ := h2.items S e
      obtain ⟨e1, e2⟩ := RpD.flat (K := C.K) (cl := C.cl) (H := m.F) h1 z.1
      obtain ⟨e3, e4⟩ := h3.flat z.2
      refine ⟨a, xs, rfl, ?_, e2, e4, k _ m (Gro.refl S) ?_⟩
      · cases b with
        | true => rw [if_pos rfl] at h4; exact .inl h4
        | false => rw [if_neg (by decide)] at h4; exact .inr h4
      · show V.bl _ = V.bl _
        have e5 : inV x xs = inD d ds := by
          unfold inV inD
          rw [e3, e1, List.any_map]
          rfl
        cases neg with
        | true => rw [if_pos rfl, e5]; simp
        | false => rw [if_neg (by decide), e5]; simp
    · cases h
  · cases h
theorem gro_new {m : Mo} {p : Addr} {o : HO} (S : Sta C m) (hp : m.H p = none) : Gro m { m with F := upd m.F p o, H := upd m.H p o } where
  env := rfl
  fps := rfl
  σ := rfl
  exF := fun a u h => by
    have : a ≠ p := fun z => by subst z; rw [S.ex a u h] at hp; cases hp
    show upd m.F p o a = _
    rw [upd_ne this]; exact h
  exH := fun a u h => by show upd m.H p o a = _; rw [upd_ne (ne_of_none h hp)]; exact h
  ex := fun a u h => by
    have h' : upd m.F p o a = some u := h
    show upd m.H p o a = some u
    by_cases e : a = p
    · subst e; rw [upd_same] at h' ⊢; exact h'
    · rw [upd_ne e] at h' ⊢; exact S.ex a u h'
  newF := fun a h n => by
    have h' : upd m.F p o a ≠ none := h
    by_cases e : a = p
    · subst e; exact hp
    · rw [upd_ne e] at h'; exact absurd n h'
theorem gro_own {m : Mo} {p : Addr} {o : HO} (S : Sta C m) (hp : m.H p = none) : Gro m { m with H := upd m.H p o } where
  env := rfl
  fps := rfl
  σ := rfl
  exF := Ex.refl _
  exH := fun a u h => by show upd m.H p o a = _; rw [upd_ne (ne_of_none h hp)]; exact h
  ex := fun a u h => by show upd m.H p o a = _; rw [upd_ne (ne_of_none (S.ex a u h) hp)]; exact S.ex a u h
  newF := fun a h n => absurd n h
theorem Sta.fNone {m : Mo} (S : Sta C m) {p : Addr} (hp : m.H p = none) : m.F p = none := by
  cases q : m.F p with
  | none => rfl
  | some o => rw [S.ex p o q] at hp; cases hp
theorem Sta.h0None {m : Mo} (S : Sta C m) {p : Addr} (hp : m.H p = none) : C.H0 p = none := Classical.byContradiction fun w => S.dom p w hp
theorem own_lst {m : Mo} {p : Addr} {xs : List V} {ds : List D} {av : Addr → Prop} (S : Sta C m) (hp : m.H p = none) (r : RpDs C.K C.cl m.F ds xs) (hav : ¬ av p) :
    RtOk C { m with H := upd m.H p (.lst xs) } av (.own (.lst (ds.map O.s))) (.ref p) := by
  refine ⟨[p], ⟨p, xs, [], rfl, rfl, upd_same, r.os⟩, by simp, fun a ha => ?_⟩
  obtain rfl : a = p := by simpa using ha
  exact ⟨S.fNone hp, fun z => S.inH a z hp, .inl (S.h0None hp), hav⟩
def vals : List Rt → Option (List D)
  | [] => some []
  | .val d :: rs => (vals rs).map (d :: ·)
  | _ :: _ => none
theorem RtsOk.vals {m : Mo} : ∀ {rs : List Rt} {xs : List V} {ds : List D}, RtsOk C m rs xs → L3.vals rs = some ds → RpDs C.K C.cl m.F ds xs
  | [], xs, ds, h, e => by cases e; cases h; rfl
  | .val d :: rs, xs, ds, h, e => by
    unfold L3.vals at e
    cases q : L3.vals rs with
    | none => rw [q] at e; cases e
    | some r =>
      rw [q] at e; cases e
      cases h with
      | cons h t => exact ⟨_, _, rfl, h, RtsOk.vals t q⟩
  | .own _ :: _, xs, ds, h, e => by cases e
  | .bor _ _ _ :: _, xs, ds, h, e => by cases e
  | .sl _ :: _, xs, ds, h, e => by cases e
def gTup (rs : List Rt) : Option Rt := (vals rs).bind fun ds => if ds.length ≤ 16777216 then some (.val (.tup ds)) else none
def gLst (rs : List Rt) : Option Rt := (vals rs).bind fun ds => if ds.length ≤ 16777216 then some (.own (.lst (ds.map O.s))) else none
theorem loc_tup : LocN C (fun xs H Q => xs.length ≤ sizeLine ∧ NewT Q H xs) gTup := by
  intro m xs rs ry Q S h e k
  unfold gTup at e
  cases q : vals rs with
  | none => rw [q] at e; cases e
  | some ds =>
    rw [q] at e
    simp only [Option.bind_some] at e
    split at e
    · rename_i z
      cases e
      have r := h.vals q
      refine ⟨by rw [r.length, sizeLine_is]; exact z, fun p o hp hd => ?_⟩
      exact k _ _ (gro_new S hp) ⟨p, xs, rfl, SqP.new hd, r.mono (gro_new S hp).exF _ _⟩
    · cases e
theorem loc_lst : LocN C (fun xs H Q => xs.length ≤ sizeLine ∧ ∀ p, H p = none → Q (.ref p) (upd H p (.lst xs))) gLst := by
  intro m xs rs ry Q S h e k
  unfold gLst at e
  cases q : vals rs with
  | none => rw [q] at e; cases e
  | some ds =>
    rw [q] at e
    simp only [Option.bind_some] at e
    split at e
    · rename_i z
      cases e
      have r := h.vals q
      refine ⟨by rw [r.length, sizeLine_is]; exact z, fun p hp => ?_⟩
      exact k _ _ (gro_own S hp) (own_lst S hp r (fun z => z hp))
    · cases e
section
variable {X : Cx} {E : WX} {e a b : Expr} {pos : Pos} {T T1 T2 : List Nat} {fs : MA} {es : List Expr} {f f1 f2 : ME}
theorem e_tup {k : Nat} (h : PA X es (rdA C E T fs)) : PE X (.Tuple es k pos) (rdE C E T (mN gTup fs)) := PE.wk (pe_tupF h) fun _ _ _ h => rdN loc_tup h
theorem e_lst (h : PA X es (rdA C E T fs)) : PE X (.List es pos) (rdE C E T (mN gLst fs)) := PE.wk (pe_lst h) fun _ _ _ h => rdN loc_lst h
end
def intsOf : List D → Option (List Int)
  | [] => some []
  | .int i :: ds => (intsOf ds).map (i :: ·)
  | _ :: _ => none
def blsOf : List D → Option (List Bool)
  | [] => some []
  | .bl i :: ds => (blsOf ds).map (i :: ·)
  | _ :: _ => none
theorem RpDs.toInts {K : PySem.W.Frag} {cl : Nat → Addr} {H : Hp} : ∀ {ds : List D} {vs : List V} {ns : List Int}, RpDs K cl H ds vs → intsOf ds = some ns → vs = ns.map V.int
  | [], vs, ns, h, e => by cases e; exact h
  | .int i :: ds, vs, ns, h, e => by
    obtain ⟨v, r, rfl, h1, h2⟩ := h
    unfold intsOf at e
    cases q : intsOf ds with
    | none => rw [q] at e; cases e
    | some r' => rw [q] at e; cases e; rw [RpDs.toInts h2 q, show v = .int i from h1]; rfl
  | .non :: ds, vs, ns, h, e => by cases e
  | .bl _ :: ds, vs, ns, h, e => by cases e
  | .str _ :: ds, vs, ns, h, e => by cases e
  | .tup _ :: ds, vs, ns, h, e => by cases e
  | .lst _ :: ds, vs, ns, h, e => by cases e
  | .dk _ _ :: ds, vs, ns, h, e => by cases e
  | .dt _ _ :: ds, vs, ns, h, e => by cases e
  | .ins _ _ _ :: ds, vs, ns, h, e => by cases e
  | .ty _ :: ds, vs, ns, h, e => by cases e
  | .cls _ :: ds, vs, ns, h, e => by cases e
theorem RpDs.toBls {K : PySem.W.Frag} {cl : Nat → Addr} {H : Hp} : ∀ {ds : List D} {vs : List V} {ns : List Bool}, RpDs K cl H ds vs → blsOf ds = some ns → vs = ns.map V.bl
  | [], vs, ns, h, e => by cases e; exact h
  | .bl i :: ds, vs, ns, h, e => by
    obtain ⟨v, r, rfl, h1, h2⟩ := h
    unfold blsOf at e
    cases q : blsOf ds with
    | none => rw [q] at e; cases e
    | some r' => rw [q] at e; cases e; rw [RpDs.toBls h2 q, show v = .bl i from h1]; rfl
  | .non :: ds, vs, ns, h, e => by cases e
  | .int _ :: ds, vs, ns, h, e => by cases e
  | .str _ :: ds, vs, ns, h, e => by cases e
  | .tup _ :: ds, vs, ns, h, e => by cases e
  | .lst _ :: ds, vs, ns, h, e => by cases e
  | .dk _ _ :: ds, vs, ns, h, e => by cases e
  | .dt _ _ :: ds, vs, ns, h, e => by cases e
  | .ins _ _ _ :: ds, vs, ns, h, e => by cases e
  | .ty _ :: ds, vs, ns, h, e => by cases e
  | .cls _ :: ds, vs, ns, h, e => by cases e
theorem ints_map (ns : List Int) : intsOf (ns.map D.int) = some ns := by
  induction ns with
  | nil => rfl
  | cons d ds ih => rw [List.map_cons]; unfold intsOf; rw [ih]; rfl
theorem bls_map (ns : List Bool) : blsOf (ns.map D.bl) = some ns := by
  induction ns with
  | nil => rfl
  | cons d ds ih => rw [List.map_cons]; unfold blsOf; rw [ih]; rfl
def gSum : List Rt → Option Rt
  | [r] => match r.items with
    | some (true, ds) => (intsOf ds).map fun ns => .val (.int ns.sum)
    | _ => none
  | _ => none
theorem loc_sum : LocN C (rSum C.K) gSum := by
  intro m xs rs ry Q S h e k
  unfold gSum at e
  split at e
  · rename_i r
    obtain ⟨x, av, rfl, hx⟩ := h.one
    replace h := hx
    split at e
    · rename_i ds q
      obtain ⟨a, xs, rfl, h1, h2⟩ := h.items S q
      rw [if_pos rfl] at h2
      cases z : intsOf ds with
      | none => rw [z] at e; cases e
      | some ns =>
        rw [z] at e; cases e
        refine ⟨a, ns, rfl, by rw [← h1.toInts z]; exact h2, k _ m (Gro.refl S) rfl⟩
    · cases e
  · cases e
def gAll : List Rt → Option Rt
  | [r] => match r.items with
    | some (true, ds) => (blsOf ds).map fun ns => .val (.bl (ns.all id))
    | _ => none
  | _ => none
def gAny : List Rt → Option Rt
  | [r] => match r.items with
    | some (true, ds) => (blsOf ds).map fun ns => .val (.bl (ns.any id))
    | _ => none
  | _ => none
theorem loc_all : LocN C (rAll C.K) gAll := by
  intro m xs rs ry Q S h e k
  unfold gAll at e
  split at e
  · rename_i r
    obtain ⟨x, av, rfl, hx⟩ := h.one
    replace h := hx
    split at e
    · rename_i ds q
      obtain ⟨a, xs, rfl, h1, h2⟩ := h.items S q
      rw [if_pos rfl] at h2
      cases z : blsOf ds with
      | none => rw [z] at e; cases e
      | some ns =>
        rw [z] at e; cases e
        refine ⟨a, ns, rfl, by rw [← h1.toBls z]; exact h2, k _ m (Gro.refl S) rfl⟩
    · cases e
  · cases e
theorem loc_any : LocN C (rAny C.K) gAny := by
  intro m xs rs ry Q S h e k
  unfold gAny at e
  split at e
  · rename_i r
    obtain ⟨x, av, rfl, hx⟩ := h.one
    replace h := hx
    split at e
    · rename_i ds q
      obtain ⟨a, xs, rfl, h1, h2⟩ := h.items S q
      rw [if_pos rfl] at h2
      cases z : blsOf ds with
      | none => rw [z] at e; cases e
      | some ns =>
        rw [z] at e; cases e
        refine ⟨a, ns, rfl, by rw [← h1.toBls z]; exact h2, k _ m (Gro.refl S) rfl⟩
    · cases e
  · cases e
def gTupleOf : List Rt → Option Rt
  | [r] => match r.items with
    | some (_, ds) => some (.val (.tup ds))
    | _ => none
  | _ => none
theorem loc_tupleOf : LocN C (fun xs H Q => ∃ p ys, xs = [.ref p] ∧ ((SqL C.K H p ys ∧ NewT Q H ys) ∨ (SqT C.K H p ys ∧ Q (.ref p) H))) gTupleOf := by
  intro m xs rs ry Q S h e k
  unfold gTupleOf at e
  split at e
  · rename_i r
    obtain ⟨x, av, rfl, hx⟩ := h.one
    replace h := hx
    split at e
    · rename_i b ds q
      cases e
      obtain ⟨a, xs, rfl, h1, h2⟩ := h.items S q
      refine ⟨a, xs, rfl, ?_⟩
      cases b with
      | true =>
        rw [if_pos rfl] at h2
        exact .inl ⟨h2, fun p o hp hd => k _ _ (gro_new S hp) ⟨p, xs, rfl, SqP.new hd, h1.mono (gro_new S hp).exF _ _⟩⟩
      | false =>
        rw [if_neg (by decide)] at h2
        refine .inr ⟨h2, k _ m (Gro.refl S) ?_⟩
        unfold Rt.items at q
        split at q
        · cases q; exact h
        · cases q
        · rename_i os; cases z : leaves os <;> (rw [z] at q; cases q)
        · rename_i os; cases z : leaves os <;> (rw [z] at q; cases q)
        · cases q
    · cases e
  · cases e
def gListOf : List Rt → Option Rt
  | [r] => match r.items with
    | some (_, ds) => some (.own (.lst (ds.map O.s)))
    | _ => none
  | _ => none
theorem loc_listOf : LocN C (fun xs H Q => ∃ p ys, xs = [.ref p] ∧ (SqL C.K H p ys ∨ SqT C.K H p ys) ∧ ∀ l, H l = none → Q (.ref l) (upd H l (.lst ys))) gListOf := by
  intro m xs rs ry Q S h e k
  unfold gListOf at e
  split at e
  · rename_i r
    obtain ⟨x, av, rfl, hx⟩ := h.one
    replace h := hx
    split at e
    · rename_i b ds q
      cases e
      obtain ⟨a, xs, rfl, h1, h2⟩ := h.items S q
      refine ⟨a, xs, rfl, ?_, fun p hp => k _ _ (gro_own S hp) (own_lst S hp h1 (fun z => z hp))⟩
      cases b with
      | true => rw [if_pos rfl] at h2; exact .inl h2
      | false => rw [if_neg (by decide)] at h2; exact .inr h2
    · cases e
  · cases e
def gAbs : List Rt → Option Rt
  | [.val (.int i)] => some (.val (.int (if i < 0 then -i else i)))
  | _ => none
theorem loc_abs : LocN C (fun xs H Q => ∃ i, xs = [.int i] ∧ Q (.int (if i < 0 then -i else i)) H) gAbs := by
  intro m xs rs ry Q S h e k
  unfold gAbs at e
  split at e
  · cases e
    obtain ⟨x, av, rfl, hx⟩ := h.one
    replace h := hx
    exact ⟨_, by rw [show x = _ from h], k _ m (Gro.refl S) rfl⟩
  · cases e
def gInt : List Rt → Option Rt
  | [.val (.int i)] => some (.val (.int i))
  | [.val (.bl b)] => some (.val (.int (if b then 1 else 0)))
  | _ => none
theorem loc_int : LocN C (fun xs H Q => (∃ i, xs = [.int i] ∧ Q (.int i) H) ∨ ∃ k, xs = [.bl k] ∧ Q (.int (if k then 1 else 0)) H) gInt := by
  intro m xs rs ry Q S h e k
  unfold gInt at e
  split at e
  · cases e
    obtain ⟨x, av, rfl, hx⟩ := h.one
    replace h := hx
    exact .inl ⟨_, by rw [show x = _ from h], k _ m (Gro.refl S) rfl⟩
  · cases e
    obtain ⟨x, av, rfl, hx⟩ := h.one
    replace h := hx
    exact .inr ⟨_, by rw [show x = _ from h], k _ m (Gro.refl S) rfl⟩
  · cases e
def gMax2 : List Rt → Option Rt
  | [.val (.int i), .val (.int j)] => some (.val (.int (if j > i then j else i)))
  | _ => none
def gMin2 : List Rt → Option Rt
  | [.val (.int i), .val (.int j)] => some (.val (.int (if j < i then j else i)))
  | _ => none
theorem loc_max2 : LocN C (fun xs H Q => ∃ i j, xs = [.int i, .int j] ∧ Q (.int (if j > i then j else i)) H) gMax2 := by
  intro m xs rs ry Q S h e k
  unfold gMax2 at e
  split at e
  · cases e
    obtain ⟨x, y, av, av', rfl, hx, h'⟩ := h.two
    replace h := hx
    exact ⟨_, _, by rw [show x = _ from h, show y = _ from h'], k _ m (Gro.refl S) rfl⟩
  · cases e
theorem loc_min2 : LocN C (fun xs H Q => ∃ i j, xs = [.int i, .int j] ∧ Q (.int (if j < i then j else i)) H) gMin2 := by
  intro m xs rs ry Q S h e k
  unfold gMin2 at e
  split at e
  · cases e
    obtain ⟨x, y, av, av', rfl, hx, h'⟩ := h.two
    replace h := hx
    exact ⟨_, _, by rw [show x = _ from h, show y = _ from h'], k _ m (Gro.refl S) rfl⟩
  · cases e
end
end L3
namespace L3
open PySem L2

section
variable {C : Cn}
theorem atI_some {α : Type} {xs : List α} {i : Int} {x : α} (h : atI xs i = some x) : ∃ j, ixN xs.length i = some j ∧ xs[j]? = some x := by
  unfold atI at h
  cases e : ixN xs.length i with
  | none => rw [e] at h; cases h
  | some j => rw [e] at h; exact ⟨j, rfl, h⟩
theorem RpDs.atI {K : PySem.W.Frag} {cl : Nat → Addr} {H : Hp} {ds : List D} {vs : List V} {i : Int} {d : D} (h : RpDs K cl H ds vs) (e : L2.atI ds i = some d) : ∃ v, L2.atI vs i = some v ∧ RpD K cl H d v := by
  obtain ⟨j, e1, e2⟩ := atI_some e
  obtain ⟨v, e3, r⟩ := h.get e2
  refine ⟨v, ?_, r⟩
  unfold L2.atI
  rw [h.length, e1]
  exact e3
theorem RpOs.atI {K : PySem.W.Frag} {cl : Nat → Addr} {F H : Hp} {ds : List O} {vs : List V} {fp : Fp} {i : Int} {d : O} (h : RpOs K cl F H ds vs fp) (e : L2.atI ds i = some d) :
    ∃ j v g, ixN ds.length i = some j ∧ ds[j]? = some d ∧ vs[j]? = some v ∧ L2.atI vs i = some v ∧ RpO K cl F H d v g := by
  obtain ⟨j, e1, e2⟩ := atI_some e
  obtain ⟨v, g, e3, r, _⟩ := h.get e2
  refine ⟨j, v, g, e1, e2, e3, ?_, r⟩
  unfold L2.atI
  rw [h.length, e1]
  exact e3
def O.at (x : Nat) (p : List Stp) : O → Rt
  | .s d => .val d
  | o => .bor x p o
def gIx : Rt → Rt → Option Rt
  | .val (.tup ds), .val (.int i) => (atI ds i).map .val
  | .val (.lst ds), .val (.int i) => (atI ds i).map .val
  | .val (.str s), .val (.int i) => if s.length ≤ 16777216 then (atI s.cps.toList i).map fun c => .val (.str ⟨#[c]⟩) else none
  | .own (.lst os), .val (.int i) => match atI os i with
    | some (.s d) => some (.val d)
    | _ => none
  | .bor x p (.lst os), .val (.int i) => match ixN os.length i with
    | some n => (os[n]?).map fun o => o.at x (p ++ [.idx n])
    | none => none
  | _, _ => none
theorem loc_ix : Loc2 C (rIx C.K) gIx := by
  intro m x y rx ry rz av av' Q S h1 h2 h k
  unfold gIx at h
  split at h
  · rename_i ds i
    cases e : atI ds i with
    | none => rw [e] at h; cases h
    | some d =>
      rw [e] at h; cases h
      obtain ⟨a, xs, rfl, q, r⟩ := h1
      obtain ⟨v, e1, r1⟩ := r.atI e
      exact .inr (.inl ⟨a, xs, i, v, rfl, h2, S.ex.sqT q.1, e1, k _ m (Gro.refl S) r1⟩)
  · rename_i ds i
    cases e : atI ds i with
    | none => rw [e] at h; cases h
    | some d =>
      rw [e] at h; cases h
      obtain ⟨a, xs, rfl, q, r⟩ := h1
      obtain ⟨v, e1, r1⟩ := r.atI e
      exact .inl ⟨a, xs, i, v, rfl, h2, S.ex.sqL q, e1, k _ m (Gro.refl S) r1⟩
  · rename_i s i
    split at h
    · rename_i z
      cases e : atI s.cps.toList i with
      | none => rw [e] at h; cases h
      | some c =>
        rw [e] at h; cases h
        exact .inr (.inr ⟨s, i, c, h1, h2, by rw [sizeLine_is]; exact z, e, k _ m (Gro.refl S) rfl⟩)
    · cases h
  · rename_i os i
    split at h
    · rename_i d e
      cases h
      obtain ⟨fp, ⟨a, xs, f, rfl, rfl, q, r⟩, _⟩ := h1
      obtain ⟨j, v, g, e1, e2, e3, e4, r1⟩ := r.atI e
      exact .inl ⟨a, xs, i, v, rfl, h2, .inl (.inl q), e4, k _ m (Gro.refl S) r1.2⟩
    · cases h
  · rename_i x0 p os i
    split at h
    · rename_i n e
      cases e2 : os[n]? with
      | none => rw [e2] at h; cases h
      | some o =>
        rw [e2] at h
        have h := Option.some.inj h
        have h1' := h1
        obtain ⟨d0, v0, z1, z2, z3⟩ := h1
        obtain ⟨fp, a, xs, f, rfl, rfl, q, r⟩ := h1'.bor S
        have e' : atI os i = some o := by unfold atI; rw [e]; exact e2
        obtain ⟨j, v, g, e1, e5, e3, e4, r1⟩ := r.atI e'
        rw [e] at e1; cases e1
        refine .inl ⟨a, xs, i, v, rfl, h2, .inl (.inl q), e4, k _ m (Gro.refl S) ?_⟩
        have nb : ∀ av, RtOk C m av (.bor x0 (p ++ [.idx n]) o) v := fun av => ⟨d0, v0, z1, z2, At.snoc z3 (.idx q e5 e3)⟩
        rw [← h]
        cases o with
        | s d => exact r1.2
        | lst _ => exact nb _
        | dk _ _ => exact nb _
        | dt _ _ => exact nb _
        | ins _ _ _ => exact nb _
    · cases h
  · cases h

def gAttr (cs : List Nat) (f : Str) : Rt → Option Rt
  | .val (.ins c ns ds) => if c ∈ cs then (lk ns ds f).map .val else none
  | .own (.ins c ns os) => if c ∈ cs then (match lk ns os f with
    | some (.s d) => some (.val d)
    | _ => none) else none
  | .bor x p (.ins c ns os) => if c ∈ cs then (lk ns os f).map fun o => o.at x (p ++ [.attr f]) else none
  | _ => none
section
variable {X : Cx} {E : WX} {e a b : Expr} {pos : Pos} {T T1 T2 T3 : List Nat} {fs : MA} {es : List Expr} {f f1 f2 : ME}
theorem loc_attr {cs : List Nat} {n : Str} (hc : ∀ c ∈ cs, Cls C.K (C.cl c) ∧ NoAttr C.K (C.cl c) n) :
    Loc1 C (fun x H Q => ∃ a C' dx fs v, x = .ref a ∧ H a = some (.ins C' dx fs) ∧ Cls C.K C' ∧ NoAttr C.K C' n ∧ fs.lookup n = some v ∧ Q v H) (gAttr cs n) := by
  intro m x rx ry av Q S h1 h k
  unfold gAttr at h
  split at h
  · rename_i c ns ds
    split at h
    · rename_i hm
      cases e : lk ns ds n with
      | none => rw [e] at h; cases h
      | some d =>
        rw [e] at h; cases h
        obtain ⟨a, dx, xs, rfl, q, l, r⟩ := h1
        obtain ⟨v, e1, r1⟩ := lk_rpD r e
        exact ⟨a, _, dx, _, v, rfl, S.ex _ _ q, (hc c hm).1, (hc c hm).2, by rw [lk_zip]; exact e1, k _ m (Gro.refl S) r1⟩
    · cases h
  · rename_i c ns os
    split at h
    · rename_i hm
      split at h
      · rename_i d e
        cases h
        obtain ⟨fp, ⟨a, dx, xs, f, rfl, rfl, q, l, r⟩, _⟩ := h1
        obtain ⟨v, g, e1, r1, _⟩ := lk_rp r e
        exact ⟨a, _, dx, _, v, rfl, q, (hc c hm).1, (hc c hm).2, by rw [lk_zip]; exact e1, k _ m (Gro.refl S) r1.2⟩
      · cases h
    · cases h
  · rename_i x0 p c ns os
    split at h
    · rename_i hm
      cases e : lk ns os n with
      | none => rw [e] at h; cases h
      | some o =>
        rw [e] at h
        have h := Option.some.inj h
        have h1' := h1
        obtain ⟨d0, v0, z1, z2, z3⟩ := h1
        obtain ⟨fp, a, dx, xs, f, rfl, rfl, q, l, r⟩ := h1'.bor S
        obtain ⟨v, g, e1, r1, _⟩ := lk_rp r e
        refine ⟨a, _, dx, _, v, rfl, q, (hc c hm).1, (hc c hm).2, by rw [lk_zip]; exact e1, k _ m (Gro.refl S) ?_⟩
        have nb : ∀ av, RtOk C m av (.bor x0 (p ++ [.attr n]) o) v := fun av => ⟨d0, v0, z1, z2, At.snoc z3 (.attr q e e1 l)⟩
        rw [← h]
        cases o with
        | s d => exact r1.2
        | lst _ => exact nb _
        | dk _ _ => exact nb _
        | dt _ _ => exact nb _
        | ins _ _ _ => exact nb _
    · cases h
  · cases h
theorem e_attr {cs : List Nat} {n : Str} (hK : X.K = C.K) (hc : ∀ c ∈ cs, Cls C.K (C.cl c) ∧ NoAttr C.K (C.cl c) n) (ha : PE X a (rdE C E T f)) (hb : attributeBase a n X.env (eval a X.env) = eval a X.env) :
    PE X (.Attribute a n pos) (rdE C E T (m1 (gAttr cs n) f)) :=
  PE.wk (pe_fld ha hb) fun _ _ _ h => by
    unfold tFld
    rw [hK]
    exact rd1 (loc_attr hc) h
def cut {α : Type} (xs : List α) (lo hi : Option Int) : List α := (xs.drop (HT.sIx xs.length 0 lo)).take (HT.sIx xs.length xs.length hi - HT.sIx xs.length 0 lo)
theorem RpDs.drop {K : PySem.W.Frag} {cl : Nat → Addr} {H : Hp} : ∀ (n : Nat) {ds : List D} {vs : List V}, RpDs K cl H ds vs → RpDs K cl H (ds.drop n) (vs.drop n)
  | 0, _, _, h => h
  | n + 1, [], vs, h => by rw [show vs = [] from h]; exact rfl
  | n + 1, d :: ds, vs, h => by
    obtain ⟨v, r, rfl, h1, h2⟩ := h
    exact RpDs.drop n h2
theorem RpDs.take {K : PySem.W.Frag} {cl : Nat → Addr} {H : Hp} : ∀ (n : Nat) {ds : List D} {vs : List V}, RpDs K cl H ds vs → RpDs K cl H (ds.take n) (vs.take n)
  | 0, _, _, h => rfl
  | n + 1, [], vs, h => by rw [show vs = [] from h]; exact rfl
  | n + 1, d :: ds, vs, h => by
    obtain ⟨v, r, rfl, h1, h2⟩ := h
    exact ⟨v, _, rfl, h1, RpDs.take n h2⟩
theorem RpDs.cut {K : PySem.W.Frag} {cl : Nat → Addr} {H : Hp} {ds : List D} {vs : List V} (h : RpDs K cl H ds vs) (lo hi : Option Int) : RpDs K cl H (L3.cut ds lo hi) (cutV vs lo hi) := by
  unfold L3.cut cutV
  rw [h.length]
  exact (h.drop _).take _
theorem cut_whole {α : Type} {xs : List α} {lo hi : Option Int} (h : HT.sIx xs.length 0 lo = 0 ∧ HT.sIx xs.length xs.length hi = xs.length) : cut xs lo hi = xs := by
  unfold cut
  rw [h.1, h.2]
  simp
def gSl (lo hi : Option Int) (r : Rt) : Option Rt := match r with
  | .val (.str s) => if s.length ≤ 16777216 then some (.val (.str (cutS s lo hi))) else none
  | r => match r.items with
    | some (true, ds) => some (.own (.lst ((cut ds lo hi).map O.s)))
    | some (false, ds) => some (.val (.tup (cut ds lo hi)))
    | none => none
def rSlX (K : PySem.W.Frag) : V → Option Int → Option Int → Hp → VK → Prop := fun x lo hi H Q => rSlF K x lo hi H Q ∨ rSlL K x lo hi H Q ∨ rSlS x lo hi H Q
theorem sl_all {X : Cx} : SlR X (rSlX X.K) := SlR.or sl_tupF (SlR.or sl_list sl_str)
theorem loc_sl {lo hi : Option Int} : Loc1 C (fun x H Q => rSlX C.K x lo hi H Q) (gSl lo hi) := by
  intro m x rx ry av Q S h1 h k
  unfold gSl at h
  split at h
  · rename_i s
    split at h
    · rename_i z
      cases h
      exact .inr (.inr ⟨s, h1, by rw [sizeLine_is]; exact z, k _ m (Gro.refl S) rfl⟩)
    · cases h
  · split at h
    · rename_i ds e
      cases h
      obtain ⟨a, xs, rfl, r, q⟩ := h1.items S e
      rw [if_pos rfl] at q
      exact .inr (.inl ⟨a, xs, rfl, q, fun p hp => k _ _ (gro_own S hp) (own_lst S hp (r.cut lo hi) (fun z => z hp))⟩)
    · rename_i ds e
      cases h
      have h1' := h1
      obtain ⟨a, xs, rfl, r, q⟩ := h1.items S e
      rw [if_neg (by decide)] at q
      refine .inl ⟨a, xs, rfl, q, fun hw => ?_, fun _ p o hp hd => k _ _ (gro_new S hp) ⟨p, _, rfl, SqP.new hd, (r.cut lo hi).mono (gro_new S hp).exF _ _⟩⟩
      rw [r.length] at hw
      refine k _ m (Gro.refl S) ?_
      rw [cut_whole hw]
      unfold Rt.items at e
      split at e
      · cases e; exact h1'
      · cases e
      · rename_i os _; cases z : leaves os <;> (rw [z] at e; cases e)
      · rename_i os _; cases z : leaves os <;> (rw [z] at e; cases e)
      · cases e
    · cases h
abbrev MO := Env → Rs (Option Int)
def rdO (C : Cn) (E : WX) (T : List Nat) (f : MO) : TO := fun σ H Q => ∃ m : Mo, m.H = H ∧ m.σ = σ ∧ Sta C m ∧
  Want C E m (f m.env) fun o env' => ∀ m', m'.env = env' → m'.σ = σ → Sta C m' → Step T m m' → Q o m'.H
def oNone : MO := fun env => .ok none env
def oSome (f : ME) : MO := fun env => (f env).bind fun r e => match r with
  | .val (.int i) => .ok (some i) e
  | _ => .bad
theorem PO.wk {X : Cx} {e : Option Expr} {t t' : TO} (h : PO X e t) (w : ∀ σ H Q, t' σ H Q → t σ H Q) : PO X e t' := ⟨fun pins s σ H Q I q => h.run pins s σ H Q I (w σ H Q q)⟩
theorem o_none : PO X none (rdO C E [] oNone) := PO.wk po_none fun σ H Q ⟨m, e1, e2, S, w⟩ => by subst e1; exact w m rfl e2 S (Step.refl _ _)
theorem o_some (h : PE X e (rdE C E T f)) : PO X (some e) (rdO C E T (oSome f)) := PO.wk (po_some h) fun σ H Q ⟨m, e1, e2, S, w⟩ => ⟨m, e1, e2, S, Want.imp w.bind fun r env w => fun v m' e3 e4 S' s ok => by
  cases r with
  | val d =>
    cases d with
    | int i => exact ⟨i, ok, w m' e3 e4 S' s⟩
    | _ => exact w.elim
  | own o => exact w.elim
  | sl x => exact w.elim
  | bor x p o => exact w.elim⟩
def mSl (T : List Nat) (f : ME) (l h : MO) : ME := fun env => (f env).bind fun r e1 => if r.hot T then .bad else (l e1).bind fun lo e2 => (h e2).bind fun hi e3 => ofO (gSl lo hi r) e3
theorem e_sl {lo hi : Option Expr} {p2 : Pos} {l h : MO} (hK : X.K = C.K) (ha : PE X a (rdE C E T1 f)) (hl : PO X lo (rdO C E T2 l)) (hh : PO X hi (rdO C E T3 h)) :
    PE X (.Subscript a (.Slice lo hi none p2) pos) (rdE C E (T1 ++ (T2 ++ T3)) (mSl (T2 ++ T3) f l h)) :=
  PE.wk (pe_slice sl_all ha hl hh) fun σ H Q ⟨m, e1, e2, S, w⟩ => ⟨m, e1, e2, S, Want.imp w.bind fun r env w => fun v m' e3 e4 S' s ok => by
    by_cases hhot : r.hot (T2 ++ T3) = true
    · rw [if_pos hhot] at w; exact w.elim
    rw [if_neg hhot] at w
    refine ⟨m', rfl, e4, S', ?_⟩
    rw [e3]
    refine Want.mono w.bind s fun lo' env2 w m2 e5 e6 S2 s2 => ⟨m2, rfl, e6, S2, ?_⟩
    rw [e5]
    refine Want.mono w.bind (s.trans s2) fun hi' env3 w m3 e7 e8 S3 s3 => ?_
    rw [hK]
    cases hg : gSl lo' hi' r with
    | none => rw [hg] at w; exact w.elim
    | some ry =>
      rw [hg] at w
      refine loc_sl m3 v r ry _ Q S3 (ok.step S' (s2.trans s3) (by simpa using hhot) (e8.trans e4.symm)) hg fun y m4 G ok4 => ?_
      have s4 := s.trans (s2.trans s3)
      exact w y m4 (G.env.trans e7) (G.σ.trans e8) (S3.gro G) (step_nil S3 s4 G) (ok4.av (old_new s4))⟩

def D.tn : D → String
  | .non => "NoneType"
  | .bl _ => "bool"
  | .int _ => "int"
  | .str _ => "str"
  | .tup _ => "tuple"
  | .lst _ => "list"
  | .dk _ _ => "dict"
  | .dt _ _ => "dict"
  | _ => ""
def D.plain : D → Bool
  | .ins _ _ _ => false
  | .ty _ => false
  | .cls _ => false
  | _ => true
theorem RpD.tyx {K : PySem.W.Frag} {cl : Nat → Addr} {H : Hp} {d : D} {v : V} (h : RpD K cl H d v) (hp : d.plain = true) : TyX K H v (.type d.tn) := by
  cases d with
  | non => rw [show v = .non from h]; exact .base .non
  | bl b => rw [show v = .bl b from h]; exact .base (.bl b)
  | int b => rw [show v = .int b from h]; exact .base (.int b)
  | str b => rw [show v = .str b from h]; exact .base (.str b)
  | tup ds =>
    obtain ⟨a, xs, rfl, ⟨q, _⟩, _⟩ := h
    rcases q with (q | ⟨o, q⟩) | ⟨o, its, n, q, c, _⟩
    · exact .base (.tup q)
    · exact .fTuple q
    · exact .kTuple q c
  | lst ds =>
    obtain ⟨a, xs, rfl, q, _⟩ := h
    rcases q with (q | ⟨o, q⟩) | ⟨o, its, n, q, c, _⟩
    · exact .base (.lst q)
    · exact .base (.frz q)
    · exact .kList q c
  | dk ks ds => obtain ⟨a, xs, rfl, q, _⟩ := h; exact .base (.dK q)
  | dt ks ds => obtain ⟨a, xs, rfl, q, _⟩ := h; exact .base (.dT q)
  | ins c ns ds => cases hp
  | ty b => cases hp
  | cls b => cases hp
def gIsi : List Rt → Option Rt
  | [r, .val (.ty n)] => if r.isSl = true ∨ r.d.plain = false then none else (kitB r.d.tn n).map fun b => .val (.bl b)
  | _ => none
theorem loc_isi : LocN C (rIsi C.K) gIsi := by
  intro m xs rs ry Q S h e k
  unfold gIsi at e
  split at e
  · rename_i r n
    obtain ⟨x, y, av, av', rfl, h1, h2⟩ := h.two
    split at e
    · cases e
    · rename_i hs
      cases q : kitB r.d.tn n with
      | none => rw [q] at e; cases e
      | some b =>
        rw [q] at e; cases e
        have h2' : y = .ty n := h2
        subst h2'
        exact ⟨x, .ty n, _, _, b, rfl, .ty n, (h1.rd S (by cases z : r.isSl <;> simp_all)).tyx (by cases z : r.d.plain <;> simp_all), kit_ty q, k _ m (Gro.refl S) rfl⟩
  · cases e
theorem e_ty {x : Str} {n : String} (hg : Gl X x) (hm : X.mg x = none) (hv : bootBuiltins x = some (.type n)) (hn : x ≠ "__name__" := by decide) (hd : (x == ("__debug__" : Str)) = false := by decide) :
    PE X (.Name x pos) (rdE C E [] (mC (.ty n))) := e_const (pe_bltn hg hm hv (v := .ty n) rfl hn hd) fun _ => rfl
def tyns : List D → Option (List String)
  | [] => some []
  | .ty n :: ds => (tyns ds).map (n :: ·)
  | _ :: _ => none
def kitBs (t : String) : List String → Option Bool
  | [] => some false
  | n :: ns => match kitB t n with
    | some true => some true
    | some false => kitBs t ns
    | none => none
theorem kitBs_any {K : PySem.W.Frag} {t : String} : ∀ {ns : List String} {b : Bool}, kitBs t ns = some b → PySem.W.kitAny K (.type t) (ns.map Value.type) = some b
  | [], b, h => by cases h; rfl
  | n :: ns, b, h => by
    unfold kitBs at h
    rw [List.map_cons]
    unfold PySem.W.kitAny
    split at h
    · rename_i q; cases h; rw [kit_ty q]
    · rename_i q; rw [kit_ty q]; exact kitBs_any h
    · cases h
theorem RpDs.tyns {K : PySem.W.Frag} {cl : Nat → Addr} {H : Hp} : ∀ {ds : List D} {vs : List V} {ns : List String}, RpDs K cl H ds vs → L3.tyns ds = some ns → vs = ns.map V.ty ∧ Paired ClsV vs (ns.map Value.type)
  | [], vs, ns, h, e => by cases e; rw [show vs = [] from h]; exact ⟨rfl, .nil⟩
  | d :: ds, vs, ns, h, e => by
    obtain ⟨v, r, rfl, h1, h2⟩ := h
    cases d <;> try cases e
    rename_i n
    have e : (L3.tyns ds).map (n :: ·) = some ns := e
    cases q : L3.tyns ds with
    | none => rw [q] at e; cases e
    | some r' =>
      rw [q] at e; cases e
      obtain ⟨e1, e2⟩ := RpDs.tyns h2 q
      rw [show v = .ty n from h1, e1]
      exact ⟨rfl, .cons (.ty n) (by rw [← e1]; exact e2)⟩
def mStl (f : ME) : ME := fun env => (f env).bind fun r e => match r with
  | .own o => .ok (.val o.d) e
  | r => .ok r e
theorem settle_ok {m : Mo} {o : O} {v : V} {av : Addr → Prop} (S : Sta C m) (h : RtOk C m av (.own o) v) (hav : ∀ a, m.H a ≠ none → a ∉ m.fps.flatten → ¬ av a → True) :
    ∃ (F' : Hp) (fp : Fp), (∀ a ∈ fp, ¬ av a) ∧ (∀ a, F' a ≠ none → m.F a = none → a ∈ fp) ∧ Sta C { m with F := F' } ∧ Ex m.F F' ∧ RpD C.K C.cl F' o.d v := by
  obtain ⟨fp, r, nd, k⟩ := h
  refine ⟨fun a => if a ∈ fp then m.H a else m.F a, fp, fun a ha => (k a ha).2.2.2, fun a h n => ?_, ?_, ?_, ?_⟩
  · by_cases q : a ∈ fp
    · exact q
    · exact absurd n (by simpa [q] using h)
  · have hF : ∀ a, a ∉ fp → (if a ∈ fp then m.H a else m.F a) = m.F a := fun a q => if_neg q
    have eF : Ex m.F (fun a => if a ∈ fp then m.H a else m.F a) := fun a u hu => by
      by_cases q : a ∈ fp
      · rw [(k a q).1] at hu; cases hu
      · show (if a ∈ fp then m.H a else m.F a) = _; rw [if_neg q]; exact hu
    refine ⟨S.ln, S.l1, S.l2, fun i o' s f h1 h2 h3 => ?_, fun a u hu => ?_, S.exF.trans eF, fun a h n => ?_, S.nd, S.dj, fun a ha => ?_, S.own, S.frame, S.dom, S.pin⟩
    · have q := S.sl i o' s f h1 h2 h3
      cases o' with
      | none => exact q
      | some d =>
        obtain ⟨v, e, r⟩ := q
        exact ⟨v, e, r.mono eF d v f (fun _ _ => rfl)⟩
    · have hu' : (if a ∈ fp then m.H a else m.F a) = some u := hu
      by_cases q : a ∈ fp
      · rw [if_pos q] at hu'; exact hu'
      · rw [if_neg q] at hu'; exact S.ex a u hu'
    · have h' : (if a ∈ fp then m.H a else m.F a) ≠ none := h
      by_cases q : a ∈ fp
      · exact (k a q).2.2.1
      · rw [if_neg q] at h'; exact S.newF a h' n
    · have q : a ∉ fp := fun q => (k a q).2.1 ha
      show (if a ∈ fp then m.H a else m.F a) = none
      rw [if_neg q]; exact S.df a ha
  · intro a u hu
    by_cases q : a ∈ fp
    · rw [(k a q).1] at hu; cases hu
    · show (if a ∈ fp then m.H a else m.F a) = _; rw [if_neg q]; exact hu
  · exact r.settle (fun a u hu => by
      by_cases q : a ∈ fp
      · rw [(k a q).1] at hu; cases hu
      · show (if a ∈ fp then m.H a else m.F a) = _; rw [if_neg q]; exact hu) o v fp (fun a ha => if_pos ha)
theorem e_stl (h : PE X e (rdE C E T f)) : PE X e (rdE C E T (mStl f)) :=
  PE.wk h fun σ H Q ⟨m, e1, e2, S, w⟩ => ⟨m, e1, e2, S, Want.imp w.bind fun r env w => fun v m' e3 e4 S' s ok => by
    cases r with
    | own o =>
      obtain ⟨F', fp, k1, k2, S2, eF, r⟩ := settle_ok S' ok fun _ _ _ _ => trivial
      refine w v { m' with F := F' } e3 e4 S2 ⟨s.exF.trans eF, s.keep, s.dom, fun a h n => ?_, s.newO, s.len, s.unt⟩ r
      by_cases q : m'.F a = none
      · have z := k1 a (k2 a h q)
        by_cases y : m.H a = none
        · exact .inl y
        · exact .inr (Classical.byContradiction fun w => z ⟨y, w⟩)
      · exact s.newF a q n
    | val d => exact w v m' e3 e4 S' s ok
    | sl x => exact w v m' e3 e4 S' s ok
    | bor x p o => exact w v m' e3 e4 S' s ok⟩
end
end
end L3
namespace L3
open PySem L2

def Mo.put (m : Mo) (F H : Hp) (i : Nat) (o : O) (v : V) (fp : Fp) : Mo := { F := F, H := H, env := m.env.set i (some o), fps := m.fps.set i fp, σ := m.σ.set i (some v) }
theorem mem_flat_set {fps : List Fp} {i : Nat} {fp : Fp} {a : Addr} (h : a ∈ (fps.set i fp).flatten) : a ∈ fp ∨ ∃ j f, j ≠ i ∧ fps[j]? = some f ∧ a ∈ f := by
  obtain ⟨f, hf, ha⟩ := List.mem_flatten.mp h
  obtain ⟨j, e⟩ := List.mem_iff_getElem?.mp hf
  by_cases q : j = i
  · subst q
    rw [List.getElem?_set] at e
    simp at e
    obtain ⟨_, rfl⟩ := e
    exact .inl ha
  · rw [List.getElem?_set_ne (fun z => q z.symm)] at e
    exact .inr ⟨j, f, q, e, ha⟩
theorem put {C : Cn} {T : List Nat} {m0 m : Mo} {i : Nat} {f0 fp' : Fp} {F' H' : Hp} {o' : O} {v' : V} (s : Step T m0 m) (S : Sta C m) (hf : m.fps[i]? = some f0)
    (exF : Ex m.F F') (ex : Ex F' H') (keep : ∀ b o, m.H b = some o → b ∉ f0 → H' b = some o) (dom : ∀ b, m.H b ≠ none → H' b ≠ none) (newF : ∀ a, F' a ≠ none → m.F a = none → m.H a = none ∨ a ∈ f0)
    (r : RpO C.K C.cl F' H' o' v' fp') (nd : fp'.Nodup) (fF : ∀ a ∈ fp', F' a = none)
    (newO : ∀ a ∈ fp', m.H a = none ∨ a ∈ f0 ∨ ((∀ (j : Nat) (f : Fp), m.fps[j]? = some f → a ∉ f) ∧ (m0.H a = none ∨ a ∈ m0.fps.flatten) ∧ (C.H0 a = none ∨ a ∈ C.io)))
    (pin : i ∈ C.IO → m.σ[i]? = some (some v')) : Sta C (m.put F' H' i o' v' fp') ∧ Step (T ++ [i]) m0 (m.put F' H' i o' v' fp') := by
  have hi : i < m.fps.length := (List.getElem?_eq_some_iff.mp hf).1
  have hiE : i < m.env.length := by rw [← S.l2]; exact hi
  have hiS : i < m.σ.length := by rw [S.l1]; exact hiE
  -- the other slots' objects
  have oth : ∀ (j : Nat) (f : Fp) (a : Addr), j ≠ i → m.fps[j]? = some f → a ∈ f → H' a = m.H a ∧ F' a = none ∧ a ∉ fp' := by
    intro j f a hj e ha
    have n0 : a ∉ f0 := S.dj j i f f0 a hj e hf ha
    have hH := S.inH a (mem_fps e ha)
    refine ⟨?_, ?_, fun z => ?_⟩
    · cases q : m.H a with
      | none => exact absurd q hH
      | some o => exact keep a o q n0
    · exact Classical.byContradiction fun w => (newF a w (S.df a (mem_fps e ha))).elim hH n0
    · rcases newO a z with y | y | y
      · exact hH y
      · exact n0 y
      · exact y.1 j f e ha
  have n0io : ∀ b o, C.H0 b = some o → b ∉ C.io → b ∉ f0 := fun b o h1 h2 h3 => by
    rcases S.own b (mem_fps hf h3) with z | z
    · rw [h1] at z; cases z
    · exact h2 z
  refine ⟨⟨?_, ?_, ?_, ?_, ex, S.exF.trans exF, ?_, ?_, ?_, ?_, ?_, ?_, ?_, ?_⟩, ?_⟩
  · show (m.env.set i _).length = _
    rw [List.length_set]; exact S.ln
  · show (m.σ.set i _).length = (m.env.set i _).length
    rw [List.length_set, List.length_set]; exact S.l1
  · show (m.fps.set i _).length = (m.env.set i _).length
    rw [List.length_set, List.length_set]; exact S.l2
  · intro j o s f h1 h2 h3
    have h1 : (m.env.set i (some o'))[j]? = some o := h1
    have h2 : (m.σ.set i (some v'))[j]? = some s := h2
    have h3 : (m.fps.set i fp')[j]? = some f := h3
    by_cases q : j = i
    · subst q
      rw [List.getElem?_set_self hiE] at h1
      rw [List.getElem?_set_self hiS] at h2
      rw [List.getElem?_set_self hi] at h3
      cases h1; cases h2; cases h3
      exact ⟨v', rfl, r⟩
    · rw [List.getElem?_set_ne (fun z => q z.symm)] at h1 h2 h3
      have w := S.sl j o s f h1 h2 h3
      cases o with
      | none => exact w
      | some d =>
        obtain ⟨v, e, r⟩ := w
        exact ⟨v, e, r.mono exF d v f (fun a ha => (oth j f a q h3 ha).1)⟩
  · intro a h n
    by_cases q : m.F a = none
    · rcases newF a h q with z | z
      · exact .inl (S.h0None z)
      · exact S.own a (mem_fps hf z)
    · exact S.newF a q n
  · intro j f h
    have h : (m.fps.set i fp')[j]? = some f := h
    by_cases q : j = i
    · subst q
      rw [List.getElem?_set_self hi] at h; cases h; exact nd
    · rw [List.getElem?_set_ne (fun z => q z.symm)] at h; exact S.nd j f h
  · intro j k f g a hjk p1 p2 ha hb
    have h1 : (m.fps.set i fp')[j]? = some f := p1
    have h2 : (m.fps.set i fp')[k]? = some g := p2
    clear p1 p2
    by_cases q : j = i
    · subst q
      rw [List.getElem?_set_self hi] at h1; cases h1
      rw [List.getElem?_set_ne hjk] at h2
      exact (oth k g a (fun z => hjk z.symm) h2 hb).2.2 ha
    · rw [List.getElem?_set_ne (fun z => q z.symm)] at h1
      by_cases q2 : k = i
      · subst q2
        rw [List.getElem?_set_self hi] at h2; cases h2
        exact (oth j f a q h1 ha).2.2 hb
      · rw [List.getElem?_set_ne (fun z => q2 z.symm)] at h2
        exact S.dj j k f g a hjk h1 h2 ha hb
  · intro a ha
    rcases mem_flat_set ha with z | ⟨j, f, q, e, z⟩
    · exact fF a z
    · exact (oth j f a q e z).2.1
  · intro a ha
    rcases mem_flat_set ha with z | ⟨j, f, q, e, z⟩
    · rcases newO a z with y | y | y
      · exact .inl (S.h0None y)
      · exact S.own a (mem_fps hf y)
      · exact y.2.2
    · exact S.own a (mem_fps e z)
  · intro b o h1 h2
    exact keep b o (S.frame b o h1 h2) (n0io b o h1 h2)
  · intro b h
    exact dom b (S.dom b h)
  · intro j hj
    show (m.σ.set i (some v'))[j]? = _
    by_cases q : j = i
    · subst q
      rw [List.getElem?_set_self hiS, ← pin hj]; exact S.pin j hj
    · rw [List.getElem?_set_ne (fun z => q z.symm)]; exact S.pin j hj
  · have f0in : ∀ a ∈ f0, m0.H a = none ∨ a ∈ m0.fps.flatten := fun a ha => s.newO a (mem_fps hf ha)
    refine ⟨s.exF.trans exF, fun b o h n => ?_, fun b h => dom b (s.dom b h), fun a h n => ?_, fun a ha => ?_, ?_, fun j hj => ?_⟩
    · refine keep b o (s.keep b o h n) fun z => ?_
      rcases f0in b z with y | y
      · rw [h] at y; cases y
      · exact n y
    · by_cases q : m.F a = none
      · rcases newF a h q with z | z
        · exact .inl (Classical.byContradiction fun w => s.dom a w z)
        · exact f0in a z
      · exact s.newF a q n
    · rcases mem_flat_set ha with z | ⟨j, f, q, e, z⟩
      · rcases newO a z with y | y | y
        · exact .inl (Classical.byContradiction fun w => s.dom a w y)
        · exact f0in a y
        · exact y.2.1
      · exact s.newO a (mem_fps e z)
    · show (m.env.set i _).length = _
      rw [List.length_set]; exact s.len
    · have hj1 : j ∉ T := fun z => hj (by simp [z])
      have hj2 : j ≠ i := fun z => hj (by simp [z])
      obtain ⟨u1, u2, u3, u4⟩ := s.unt j hj1
      show (m.env.set i _)[j]? = _ ∧ (m.fps.set i _)[j]? = _ ∧ (m.σ.set i _)[j]? = _ ∧ _
      rw [List.getElem?_set_ne hj2.symm, List.getElem?_set_ne hj2.symm, List.getElem?_set_ne hj2.symm]
      exact ⟨u1, u2, u3, fun f hf2 a ha => ((oth j f a hj2 (u2.trans hf2) ha).1).trans (u4 f hf2 a ha)⟩

section
variable {X : Cx} {C : Cn} {E : WX} {e a b : Expr} {pos : Pos} {T T1 T2 T3 : List Nat} {fs : MA} {es : List Expr} {f f1 f2 : ME} {st : Stmt} {sts : List Stmt} {g g1 g2 : MS} {t : MT}
def msNil : MS := fun env => .ok .nx env
def msSeq (g1 g2 : MS) : MS := fun env => (g1 env).bind fun fl e => match fl with
  | .nx => g2 e
  | fl => .ok fl e
theorem s_nil : PSs X [] (rdS C E [] msNil) := PSs.wk pss_nil fun D σ H ⟨m, e1, e2, S, w⟩ => by
  subst e1 e2
  exact w m rfl S (Step.refl _ _)
theorem seq_rd {D : Ends} {σ : L2.St} {H : Hp} (h : rdS C E (T1 ++ T2) (msSeq g1 g2) D σ H) : rdS C E T1 g1 { D with nx := rdS C E T2 g2 D } σ H := by
  obtain ⟨m, e1, e2, S, w⟩ := h
  refine ⟨m, e1, e2, S, Want.imp w.bind fun fl env w => fun m' e3 S' s => ?_⟩
  cases fl with
  | nx =>
    refine ⟨m', rfl, rfl, S', ?_⟩
    rw [e3]
    exact Want.mono w s fun fl2 env2 w m2 e5 S2 s2 => w m2 e5 S2 (s.trans s2)
  | ret r => exact w m' e3 S' s.inl
  | brk => exact w m' e3 S' s.inl
  | cont => exact w m' e3 S' s.inl
theorem s_cons (h1 : PS X st (rdS C E T1 g1)) (h2 : PSs X sts (rdS C E T2 g2)) : PSs X (st :: sts) (rdS C E (T1 ++ T2) (msSeq g1 g2)) := PSs.wk (pss_cons h1 h2) fun D σ H h => seq_rd h
theorem s_one (h1 : PS X st (rdS C E T1 g1)) : PSs X [st] (rdS C E T1 g1) := pss_one h1
def msExpr (f : ME) : MS := fun env => (f env).bind fun _ e => .ok .nx e
theorem s_expr (h : PE X e (rdE C E T f)) (hs : swapsWith e none pos.line X.env = pure false := by rfl) : PS X (.Expr e pos) (rdS C E T (msExpr f)) := PS.wk (ps_expr h hs) fun D σ H ⟨m, e1, e2, S, w⟩ =>
  ⟨m, e1, e2, S, Want.imp w.bind fun r env w => fun v m' e3 e4 S' s ok => by
    have := w m' e3 S' s
    rw [← e4]; exact this⟩
theorem s_pass : PS X (.Pass pos) (rdS C E [] msNil) := PS.wk ps_pass fun D σ H ⟨m, e1, e2, S, w⟩ => by
  subst e1 e2
  exact w m rfl S (Step.refl _ _)
def msBrk : MS := fun env => .ok .brk env
def msCont : MS := fun env => .ok .cont env
theorem s_brk : PS X (.Break pos) (rdS C E [] msBrk) := PS.wk ps_break fun D σ H ⟨m, e1, e2, S, w⟩ => by
  subst e1 e2
  exact w m rfl S (Step.refl _ _)
theorem s_cont : PS X (.Continue pos) (rdS C E [] msCont) := PS.wk ps_continue fun D σ H ⟨m, e1, e2, S, w⟩ => by
  subst e1 e2
  exact w m rfl S (Step.refl _ _)
def msRet (f : ME) : MS := fun env => (f env).bind fun r e => .ok (.ret r) e
theorem s_ret (h : PE X e (rdE C E T f)) : PS X (.Return (some e) pos) (rdS C E T (msRet f)) := PS.wk (ps_ret h) fun D σ H ⟨m, e1, e2, S, w⟩ =>
  ⟨m, e1, e2, S, Want.imp w.bind fun r env w => fun v m' e3 e4 S' s ok => w m' e3 S' s v _ ok⟩
def msBad : MS := fun _ => .bad
theorem s_bad : PS X st (rdS C E [] msBad) := PS.wk ps_never fun D σ H ⟨m, e1, e2, S, w⟩ => w.elim
def msIf (t : MT) (g1 g2 : MS) : MS := fun env => (t env).bind fun b e => if b = true then g1 e else g2 e
theorem s_if {c : Expr} {xs ys : List Stmt} (hc : PT X c (rdT C E T1 t)) (h1 : PSs X xs (rdS C E T2 g1)) (h2 : PSs X ys (rdS C E T3 g2)) : PS X (.If c xs ys pos) (rdS C E (T1 ++ (T2 ++ T3)) (msIf t g1 g2)) :=
  PS.wk (ps_if hc h1 h2) fun D σ H ⟨m, e1, e2, S, w⟩ => ⟨m, e1, e2, S, Want.imp w.bind fun b env w => fun m' e3 e4 S' s => by
    cases b with
    | true =>
      rw [if_pos rfl]
      refine ⟨m', rfl, e4, S', ?_⟩
      rw [e3]
      exact Want.mono w s fun fl env2 w m2 e5 S2 s2 => w m2 e5 S2 ((s.trans s2).wk (by simp +contextual [or_imp]))
    | false =>
      rw [if_neg Bool.false_ne_true]
      refine ⟨m', rfl, e4, S', ?_⟩
      rw [e3]
      exact Want.mono w s fun fl env2 w m2 e5 S2 s2 => w m2 e5 S2 ((s.trans s2).wk (by simp +contextual [or_imp]))⟩
def Rt.o : Rt → Option O
  | .val d => some (.s d)
  | .own o => some o
  | _ => none
def msSet (i : Nat) (f : ME) : MS := fun env => (f env).bind fun r e => match r.o with
  | some o => .ok .nx (e.set i (some o))
  | none => .bad
theorem store_rd {m0 m : Mo} {i : Nat} {r : Rt} {o : O} {v : V} (s : Step T m0 m) (S : Sta C m) (ok : RtOk C m (Old m0) r v) (ho : r.o = some o) (hi : i < m.env.length) (hIO : i ∉ C.IO) :
    ∃ fp, Sta C (m.put m.F m.H i o v fp) ∧ Step (T ++ [i]) m0 (m.put m.F m.H i o v fp) := by
  have hi' : i < m.fps.length := by rw [S.l2]; exact hi
  have hf := List.getElem?_eq_getElem hi'
  cases r with
  | val d =>
    cases ho
    exact ⟨[], put s S hf (Ex.refl _) S.ex (fun _ _ h _ => h) (fun _ h => h) (fun a h n => absurd n h) ⟨rfl, ok⟩ List.nodup_nil (fun a h => by simp at h) (fun a h => by simp at h) fun z => absurd z hIO⟩
  | own o' =>
    cases ho
    obtain ⟨fp, r, nd, k⟩ := ok
    refine ⟨fp, put s S hf (Ex.refl _) S.ex (fun _ _ h _ => h) (fun _ h => h) (fun a h n => absurd n h) r nd (fun a h => (k a h).1) (fun a h => .inr (.inr ⟨fun j f e z => (k a h).2.1 (mem_fps e z), ?_, (k a h).2.2.1⟩)) fun z => absurd z hIO⟩
    have q := (k a h).2.2.2
    by_cases y : m0.H a = none
    · exact .inl y
    · exact .inr (Classical.byContradiction fun w => q ⟨y, w⟩)
  | bor x p o' => cases ho
  | sl x => cases ho
theorem s_set (i : Nat) {x : Str} {pos' : Pos} (hN : X.N.Nodup) (hi : X.N[i]? = some x) (hx : Loc X.env.scope x) (he : PE X e (rdE C E T f)) (hIO : i ∉ C.IO := by decide) (hlen : i < C.n := by decide)
    (hs : swapsWith e (some (.Name x pos')) pos.line X.env = pure false := by rfl) (hf : X.fn x = true ∨ X.env.scope.names.lookup x = some .local := by first | exact .inl rfl | exact .inr rfl | assumption) :
    PS X (.Assign [.Name x pos'] e pos) (rdS C E (T ++ [i]) (msSet i f)) := PS.wk (ps_set hN hi hx he hs hf) fun D σ H ⟨m, e1, e2, S, w⟩ =>
  ⟨m, e1, e2, S, Want.imp w.bind fun r env w => fun v m' e3 e4 S' s ok => by
    cases ho : r.o with
    | none => rw [ho] at w; exact w.elim
    | some o =>
      rw [ho] at w
      obtain ⟨fp, S2, s2⟩ := store_rd (i := i) s S' ok ho (by rw [S'.ln]; exact hlen) hIO
      have := w _ (by show m'.env.set i (some o) = _; rw [e3]) S2 s2
      show D.nx (σ.set i (some v)) m'.H
      rw [← e4]
      exact this⟩
end
end L3
namespace L3
open PySem L2

inductive Rr where
  | ok (r : O) (outs : List O)
  | exc (c : Nat) (ds : List D) (outs : List O)
  | bad
structure GPost (F H : Hp) (fp : Fp) (F' H' : Hp) : Prop where
  exF : Ex F F'
  ex : Ex F' H'
  keep : ∀ b o, H b = some o → b ∉ fp → H' b = some o
  dom : ∀ b, H b ≠ none → H' b ≠ none
  newF : ∀ a, F' a ≠ none → F a = none → H a = none ∨ a ∈ fp
structure GOuts (K : PySem.W.Frag) (cl : Nat → Addr) (H : Hp) (fp : Fp) (F' H' : Hp) (vs : List V) (outs : List O) (fr fp' : Fp) : Prop where
  rp : RpOs K cl F' H' outs vs fp'
  nd : (fr ++ fp').Nodup
  fF : ∀ a ∈ fr ++ fp', F' a = none
  newO : ∀ a ∈ fr ++ fp', H a = none ∨ a ∈ fp
def spG (K : PySem.W.Frag) (cl : Nat → Addr) (n : Nat) (f : List O → Rr) : Sp := fun vs H Q E => ∃ (F : Hp) (os : List O) (fp : Fp), os.length = n ∧ Ex F H ∧ RpOs K cl F H os vs fp ∧ fp.Nodup ∧ (∀ a ∈ fp, F a = none) ∧
  match f os with
  | .ok r outs => ∀ v F' H' fr fp', GPost F H fp F' H' → RpO K cl F' H' r v fr → GOuts K cl H fp F' H' vs outs fr fp' → Q v H'
  | .exc c ds outs => ∀ F' H' dd fp', GPost F H fp F' H' → GOuts K cl H fp F' H' vs outs [] fp' →
      (ds = [] → dd = none) → (∀ d, ds = [d] → ∃ a v, dd = some a ∧ H' a = some (.xd [(xfld c, v)]) ∧ RpD K cl F' d v) → E (.ref (cl c)) dd H'
  | .bad => False
theorem spG_imp {K : PySem.W.Frag} {cl : Nat → Addr} {n : Nat} {f g : List O → Rr} (h : ∀ os, os.length = n → g os = .bad ∨ f os = g os) : ∀ vs H Q E, spG K cl n g vs H Q E → spG K cl n f vs H Q E := by
  rintro vs H Q E ⟨F, os, fp, hl, ex, r, nd, fF, w⟩
  refine ⟨F, os, fp, hl, ex, r, nd, fF, ?_⟩
  rcases h os hl with e | e
  · rw [e] at w; exact w.elim
  · rw [e]; exact w
theorem spG_len {K : PySem.W.Frag} {cl : Nat → Addr} {n : Nat} {f : List O → Rr} {vs : List V} {H : Hp} {Q : VK} {E : XK} (h : spG K cl n f vs H Q E) : vs.length = n := by
  obtain ⟨F, os, fp, hl, ex, r, _⟩ := h
  rw [r.length]; exact hl

def O.only : O → Option O
  | .s d => some (.s d)
  | _ => none
def outsFrom (IO : List Nat) : Nat → List O → Env → Option (List O)
  | _, [], _ => some []
  | i, o :: os, e :: env => (if i ∈ IO then e else o.only).bind fun o' => (outsFrom IO (i + 1) os env).map (o' :: ·)
  | _, _ :: _, [] => none
def retO (n : Nat) : Fl → Option O
  | .nx => some (.s .non)
  | .ret (.val d) => some (.s d)
  | .ret (.own o) => some o
  | .ret (.bor x [] o) => if n ≤ x then some o else none
  | _ => none
def runDef (IO : List Nat) (k : Nat) (body : MS) (os : List O) : Rr :=
  match body (os.map some ++ List.replicate k none) with
  | .ok fl env' => match outsFrom IO 0 os env', retO os.length fl with
    | some outs, some r => .ok r outs
    | _, _ => .bad
  | .exc c ds env' => match outsFrom IO 0 os env' with
    | some outs => .exc c ds outs
    | none => .bad
  | .bad => .bad
section
variable {K : PySem.W.Frag} {cl : Nat → Addr}
theorem RpOs.split {F H : Hp} : ∀ {os : List O} {vs : List V} {fp : Fp}, RpOs K cl F H os vs fp → ∃ fps : List Fp, fps.length = os.length ∧ fps.flatten = fp ∧
    ∀ (i : Nat) (o : O) (v : V) (f : Fp), os[i]? = some o → vs[i]? = some v → fps[i]? = some f → RpO K cl F H o v f
  | [], vs, fp, h => ⟨[], rfl, h.2.symm, fun i o v f h1 => by simp at h1⟩
  | o :: os, vs, fp, h => by
    obtain ⟨v, r, f, g, rfl, rfl, h1, h2⟩ := h
    obtain ⟨fps, l, e, k⟩ := h2.split
    refine ⟨f :: fps, by simp [l], by simp [e], fun i o' v' f' a1 a2 a3 => ?_⟩
    cases i with
    | zero => simp at a1 a2 a3; subst a1 a2 a3; exact h1
    | succ i => exact k i o' v' f' (by simpa using a1) (by simpa using a2) (by simpa using a3)
theorem nodup_flat {fps : List Fp} (h : fps.flatten.Nodup) : (∀ (i : Nat) (f : Fp), fps[i]? = some f → f.Nodup) ∧ ∀ (i j : Nat) (f g : Fp) (a : Addr), i ≠ j → fps[i]? = some f → fps[j]? = some g → a ∈ f → a ∉ g := by
  induction fps with
  | nil => exact ⟨fun i f h => by simp at h, fun i j f g a _ h => by simp at h⟩
  | cons f fps ih =>
    rw [List.flatten_cons, List.nodup_append] at h
    obtain ⟨h1, h2, h3⟩ := h
    obtain ⟨i1, i2⟩ := ih h2
    refine ⟨fun i g e => ?_, fun i j g g' a hij e1 e2 ha hb => ?_⟩
    · cases i with
      | zero => simp at e; subst e; exact h1
      | succ i => exact i1 i g (by simpa using e)
    · cases i with
      | zero =>
        simp at e1; subst e1
        cases j with
        | zero => exact hij rfl
        | succ j =>
          have e2' : fps[j]? = some g' := by simpa using e2
          exact h3 a ha a (List.mem_flatten.mpr ⟨g', List.mem_of_getElem? e2', hb⟩) rfl
      | succ i =>
        have e1' : fps[i]? = some g := by simpa using e1
        cases j with
        | zero =>
          simp at e2; subst e2
          exact h3 a hb a (List.mem_flatten.mpr ⟨g, List.mem_of_getElem? e1', ha⟩) rfl
        | succ j => exact i2 i j g g' a (by omega) e1' (by simpa using e2) ha hb
theorem outs_ok {C : Cn} {m : Mo} (S : Sta C m) : ∀ {os : List O} {i : Nat} {vs : List V} {outs : List O} {env : Env} {F0 H0 : Hp} {fp0 : Fp}, outsFrom C.IO i os env = some outs → env = m.env.drop i → (∀ j, C.vs[i + j]? = (vs.map some)[j]? ∨ vs.length ≤ j) →
    RpOs C.K C.cl F0 H0 os vs fp0 → Ex F0 m.F → ∃ fps : List Fp, fps.length = os.length ∧ RpOs C.K C.cl m.F m.H outs vs fps.flatten ∧ ∀ (j : Nat) (f : Fp), fps[j]? = some f → f = [] ∨ (i + j ∈ C.IO ∧ m.fps[i + j]? = some f)
  | [], i, vs, outs, env, F0, H0, fp0, h, _, _, r, _ => by
    cases h
    exact ⟨[], rfl, ⟨r.1, rfl⟩, fun j f h => by simp at h⟩
  | o :: os, i, vs, outs, [], F0, H0, fp0, h, _, _, r, _ => by cases h
  | o :: os, i, vs, outs, e :: env, F0, H0, fp0, h, he, hv, r, eF => by
    unfold outsFrom at h
    obtain ⟨v, vr, f, g, rfl, rfl, r1, r2⟩ := r
    have he1 : m.env[i]? = some e := by
      have := congrArg (fun l => l[0]?) he
      simp at this
      rw [← this]
    have he2 : env = m.env.drop (i + 1) := by
      have := congrArg List.tail he
      simp at this
      exact this
    cases q : (if i ∈ C.IO then e else o.only) with
    | none => rw [q] at h; cases h
    | some o' =>
      rw [q] at h
      cases q2 : outsFrom C.IO (i + 1) os env with
      | none => rw [q2] at h; cases h
      | some outs' =>
        rw [q2] at h
        cases h
        obtain ⟨fps, l, rr, k⟩ := outs_ok S q2 he2 (fun j => by
          rcases hv (j + 1) with z | z
          · left; rw [show i + 1 + j = i + (j + 1) from by omega, z]; simp
          · right; simpa using z) r2 eF
        by_cases hio : i ∈ C.IO
        · rw [if_pos hio] at q
          subst q
          obtain ⟨v', f', s1, s2, s3⟩ := S.slot he1
          have p := S.pin i hio
          have hv0 : C.vs[i]? = some (some v) := by
            rcases hv 0 with z | z
            · simpa using z
            · simp at z
          rw [s1, hv0] at p
          cases p
          refine ⟨f' :: fps, by simp [l], ⟨_, _, f', fps.flatten, rfl, by simp, s3, rr⟩, fun j f2 h2 => ?_⟩
          cases j with
          | zero => simp at h2; subst h2; exact .inr ⟨hio, s2⟩
          | succ j =>
            rcases k j f2 (by simpa using h2) with z | ⟨z1, z2⟩
            · exact .inl z
            · exact .inr ⟨by rw [show i + (j + 1) = i + 1 + j from by omega]; exact z1, by rw [show i + (j + 1) = i + 1 + j from by omega]; exact z2⟩
        · rw [if_neg hio] at q
          cases o with
          | s d =>
            cases q
            refine ⟨[] :: fps, by simp [l], ⟨_, _, [], fps.flatten, rfl, by simp, ⟨rfl, r1.2.mono eF d v⟩, rr⟩, fun j f2 h2 => ?_⟩
            cases j with
            | zero => simp at h2; subst h2; exact .inl rfl
            | succ j =>
              rcases k j f2 (by simpa using h2) with z | ⟨z1, z2⟩
              · exact .inl z
              · exact .inr ⟨by rw [show i + (j + 1) = i + 1 + j from by omega]; exact z1, by rw [show i + (j + 1) = i + 1 + j from by omega]; exact z2⟩
          | _ => cases q
theorem flat_nodup {m : Mo} {C : Cn} (S : Sta C m) : ∀ {fps : List Fp} {i : Nat}, (∀ (j : Nat) (f : Fp), fps[j]? = some f → f = [] ∨ (i + j ∈ C.IO ∧ m.fps[i + j]? = some f)) → fps.flatten.Nodup ∧ ∀ a ∈ fps.flatten, ∃ j f, i ≤ j ∧ j < i + fps.length ∧ m.fps[j]? = some f ∧ a ∈ f
  | [], i, _ => ⟨by simp, fun a h => by simp at h⟩
  | f :: fps, i, h => by
    obtain ⟨n, k⟩ := flat_nodup S (fps := fps) (i := i + 1) (fun j g e => by
      rcases h (j + 1) g (by simpa using e) with z | ⟨z1, z2⟩
      · exact .inl z
      · exact .inr ⟨by rw [show i + 1 + j = i + (j + 1) from by omega]; exact z1, by rw [show i + 1 + j = i + (j + 1) from by omega]; exact z2⟩)
    rw [List.flatten_cons, List.nodup_append]
    rcases h 0 f (by simp) with z | ⟨z1, z2⟩
    · subst z
      refine ⟨⟨by simp, n, fun a ha => by simp at ha⟩, fun a ha => ?_⟩
      obtain ⟨j, g, l1, l2, e, hg⟩ := k a (by simpa using ha)
      exact ⟨j, g, by omega, by simp; omega, e, hg⟩
    · refine ⟨⟨S.nd _ _ z2, n, fun a ha b hb e => ?_⟩, fun a ha => ?_⟩
      · subst e
        obtain ⟨j, g, l1, l2, e, hg⟩ := k a hb
        exact S.dj i j f g a (by omega) (by simpa using z2) e ha hg
      · rcases List.mem_append.mp ha with ha | ha
        · exact ⟨i, f, by omega, by simp, by simpa using z2, ha⟩
        · obtain ⟨j, g, l1, l2, e, hg⟩ := k a ha
          exact ⟨j, g, by omega, by simp; omega, e, hg⟩

variable {P : Program} {w : World} {mg : Str → Option Value} {base : Heap}
theorem start_is (N : List Str) (vs : List V) : start N vs = vs.map some ++ List.replicate (N.length - vs.length) none := rfl
theorem first_ok {N : List Str} {IO : List Nat} {F H : Hp} {os : List O} {vs : List V} {fp : Fp} (ex : Ex F H) (r : RpOs K cl F H os vs fp) (nd : fp.Nodup) (fF : ∀ a ∈ fp, F a = none) (hn : os.length ≤ N.length) :
    ∃ fps, Sta ⟨K, cl, F, H, fp, IO, start N vs, N.length⟩ ⟨F, H, os.map some ++ List.replicate (N.length - os.length) none, fps, start N vs⟩ ∧ fps.flatten = fp := by
  obtain ⟨fps, l, e, k⟩ := r.split
  obtain ⟨n1, n2⟩ := nodup_flat (fps := fps) (by rw [e]; exact nd)
  have lv : vs.length = os.length := r.length
  have ef : (fps ++ List.replicate (N.length - os.length) ([] : Fp)).flatten = fp := by
    rw [List.flatten_append, e]
    have : (List.replicate (N.length - os.length) ([] : Fp)).flatten = [] := by simp
    rw [this, List.append_nil]
  have get : ∀ {i : Nat} {f : Fp}, (fps ++ List.replicate (N.length - os.length) ([] : Fp))[i]? = some f → (i < os.length ∧ fps[i]? = some f) ∨ f = [] := by
    intro i f h
    by_cases hi : i < fps.length
    · rw [List.getElem?_append_left hi] at h; exact .inl ⟨by omega, h⟩
    · rw [List.getElem?_append_right (by omega), List.getElem?_replicate] at h
      split at h
      · cases h; exact .inr rfl
      · cases h
  refine ⟨fps ++ List.replicate (N.length - os.length) [], ⟨?_, ?_, ?_, fun i o s f h1 h2 h3 => ?_, ex, Ex.refl _, fun a h n => absurd n h, fun i f h => ?_, fun i j f g a hij h1 h2 ha hb => ?_, fun a ha => ?_, fun a ha => ?_, fun b o h _ => h, fun b h => h, fun i _ => rfl⟩, ef⟩
  · show (os.map some ++ List.replicate (N.length - os.length) none).length = N.length
    simp; omega
  · show (start N vs).length = (os.map some ++ List.replicate (N.length - os.length) none).length
    simp [start_is]; omega
  · show (fps ++ List.replicate (N.length - os.length) ([] : Fp)).length = (os.map some ++ List.replicate (N.length - os.length) none).length
    simp; omega
  · have h1 : (os.map some ++ List.replicate (N.length - os.length) (none : Option O))[i]? = some o := h1
    have h2 : (start N vs)[i]? = some s := h2
    have h3 : (fps ++ List.replicate (N.length - os.length) ([] : Fp))[i]? = some f := h3
    by_cases hi : i < os.length
    · rw [List.getElem?_append_left (by simpa using hi)] at h1
      rw [List.getElem?_append_left (by omega)] at h3
      rw [start_is, List.getElem?_append_left (by simp; omega)] at h2
      rw [List.getElem?_map] at h1 h2
      cases q1 : os[i]? with
      | none => rw [q1] at h1; cases h1
      | some o' =>
        rw [q1] at h1; cases h1
        cases q2 : vs[i]? with
        | none => rw [q2] at h2; cases h2
        | some v => rw [q2] at h2; cases h2; exact ⟨v, rfl, k i o' v f q1 q2 h3⟩
    · rw [List.getElem?_append_right (by simp; omega), List.getElem?_replicate] at h1
      split at h1
      · cases h1
        rcases get h3 with ⟨z, _⟩ | z
        · exact absurd z hi
        · exact z
      · cases h1
  · rcases get h with ⟨_, z⟩ | z
    · exact n1 i f z
    · subst z; exact List.nodup_nil
  · rcases get h1 with ⟨_, z⟩ | z
    · rcases get h2 with ⟨_, z'⟩ | z'
      · exact n2 i j f g a hij z z' ha hb
      · subst z'; simp at hb
    · subst z; simp at ha
  · exact fF a (by rw [← ef]; exact ha)
  · exact .inr (show a ∈ fp by rw [← ef]; exact ha)
abbrev upE (E : XK) : WX := fun c d _ H => E c d H
theorem fn_core {N : List Str} {IO : List Nat} {body : MS} {n : Nat} {vs : List V} {H : Hp} {Q : VK} {E : XK} (hN : n ≤ N.length) (h : spG K cl n (runDef IO (N.length - n) body) vs H Q E) :
    ∃ C : Cn, C.K = K ∧ C.cl = cl ∧ C.IO = IO ∧ C.n = N.length ∧ ∀ T, rdS C (upE E) T body { nx := fun _ H' => Q .non H', rt := Q } (start N vs) H := by
  obtain ⟨F0, os, fp, hl, ex, r, nd, fF, wt⟩ := h
  have lv : vs.length = os.length := r.length
  obtain ⟨fps, S0, ef⟩ := first_ok (N := N) (IO := IO) ex r nd fF (by omega)
  refine ⟨⟨K, cl, F0, H, fp, IO, start N vs, N.length⟩, rfl, rfl, rfl, rfl, fun T => ⟨_, rfl, rfl, S0, ?_⟩⟩
  show Want _ (upE E) _ (body (os.map some ++ List.replicate (N.length - os.length) none)) _
  unfold runDef at wt
  rw [hl] at wt ⊢
  cases hbody : body (os.map some ++ List.replicate (N.length - n) none) with
  | bad => rw [hbody] at wt; exact wt.elim
  | exc c ds env' =>
    rw [hbody] at wt
    dsimp only at wt
    cases ho : outsFrom IO 0 os env' with
    | none => rw [ho] at wt; exact wt.elim
    | some outs =>
      rw [ho] at wt
      intro m' he S' T' s' dd h1 h2
      obtain ⟨gps, l, rr, kk⟩ := outs_ok S' (i := 0) (vs := vs) ho (by simp [he]) (fun j => by
        by_cases hj : j < vs.length
        · left; show (start N vs)[0 + j]? = _; rw [start_is, Nat.zero_add, List.getElem?_append_left (by simpa using hj)]
        · right; omega) r s'.exF
      obtain ⟨gn, gk⟩ := flat_nodup S' kk
      refine wt m'.F m'.H dd gps.flatten ⟨s'.exF, S'.ex, fun b o h n => s'.keep b o h (by rw [ef]; exact n), s'.dom, fun a h n => ?_⟩ ⟨rr, by simpa using gn, fun a ha => ?_, fun a ha => ?_⟩ h1 h2
      · have := s'.newF a h n; rw [ef] at this; exact this
      · obtain ⟨j, g, _, _, e, hg⟩ := gk a (by simpa using ha)
        exact S'.df a (mem_fps e hg)
      · obtain ⟨j, g, _, _, e, hg⟩ := gk a (by simpa using ha)
        have := s'.newO a (mem_fps e hg); rw [ef] at this; exact this
  | ok fl env' =>
    rw [hbody] at wt
    dsimp only at wt
    cases ho : outsFrom IO 0 os env' with
    | none => rw [ho] at wt; exact wt.elim
    | some outs =>
      rw [ho] at wt
      cases hr : retO n fl with
      | none => rw [hr] at wt; exact wt.elim
      | some ro =>
        rw [hr] at wt
        dsimp only at wt
        intro m' he S' s'
        obtain ⟨gps, l, rr, kk⟩ := outs_ok S' (i := 0) (vs := vs) ho (by simp [he]) (fun j => by
          by_cases hj : j < vs.length
          · left; show (start N vs)[0 + j]? = _; rw [start_is, Nat.zero_add, List.getElem?_append_left (by simpa using hj)]
          · right; omega) r s'.exF
        obtain ⟨gn, gk⟩ := flat_nodup S' kk
        have post : GPost F0 H fp m'.F m'.H := ⟨s'.exF, S'.ex, fun b o h n => s'.keep b o h (by rw [ef]; exact n), s'.dom, fun a h n => by have := s'.newF a h n; rw [ef] at this; exact this⟩
        have inn : ∀ a ∈ gps.flatten, m'.F a = none ∧ (H a = none ∨ a ∈ fp) := fun a ha => by
          obtain ⟨j, g, _, _, e, hg⟩ := gk a ha
          refine ⟨S'.df a (mem_fps e hg), ?_⟩
          have := s'.newO a (mem_fps e hg); rw [ef] at this; exact this
        cases fl with
        | brk => cases hr
        | cont => cases hr
        | nx =>
          cases hr
          exact wt .non m'.F m'.H [] gps.flatten post ⟨rfl, rfl⟩ ⟨rr, by simpa using gn, fun a ha => (inn a (by simpa using ha)).1, fun a ha => (inn a (by simpa using ha)).2⟩
        | ret rt =>
          intro v av ok
          cases rt with
          | val d =>
            cases hr
            exact wt v m'.F m'.H [] gps.flatten post ⟨rfl, ok⟩ ⟨rr, by simpa using gn, fun a ha => (inn a (by simpa using ha)).1, fun a ha => (inn a (by simpa using ha)).2⟩
          | own o =>
            cases hr
            obtain ⟨fr, r2, nd2, k2⟩ := ok
            refine wt v m'.F m'.H fr gps.flatten post r2 ⟨rr, ?_, fun a ha => ?_, fun a ha => ?_⟩
            · rw [List.nodup_append]
              refine ⟨nd2, gn, fun a ha b hb e => ?_⟩
              subst e
              obtain ⟨j, g, _, _, e, hg⟩ := gk a hb
              exact (k2 a ha).2.1 (mem_fps e hg)
            · rcases List.mem_append.mp ha with ha | ha
              · exact (k2 a ha).1
              · exact (inn a ha).1
            · rcases List.mem_append.mp ha with ha | ha
              · exact (k2 a ha).2.2.1
              · exact (inn a ha).2
          | sl x => cases hr
          | bor x p o =>
            cases p with
            | cons _ _ => cases hr
            | nil =>
              have hr : (if n ≤ x then some o else none) = some ro := hr
              have hx : n ≤ x := Classical.byContradiction fun hx => by rw [if_neg hx] at hr; cases hr
              rw [if_pos hx] at hr
              cases hr
              obtain ⟨d0, v0, a1, a2, a3, a4⟩ := ok
              subst a3 a4
              obtain ⟨v1, fr, b1, b2, b3⟩ := S'.slot a1
              rw [a2] at b1; cases b1
              refine wt v m'.F m'.H fr gps.flatten post b3 ⟨rr, ?_, fun a ha => ?_, fun a ha => ?_⟩
              · rw [List.nodup_append]
                refine ⟨S'.nd x fr b2, gn, fun a ha b hb e => ?_⟩
                subst e
                obtain ⟨j, g, j1, j2, e, hg⟩ := gk a hb
                exact S'.dj x j fr g a (by omega) b2 e ha hg
              · rcases List.mem_append.mp ha with ha | ha
                · exact S'.df a (mem_fps b2 ha)
                · exact (inn a ha).1
              · rcases List.mem_append.mp ha with ha | ha
                · have := s'.newO a (mem_fps b2 ha); rw [ef] at this; exact this
                · exact (inn a ha).2
theorem fn_def {x qual : Str} {st : Stmt} {f : Addr} {fd : FuncData} {N ps : List Str} {k : Nat} {IO : List Nat} {body : MS} (F : Fun K x qual st f fd) (S : FnScope N ps (defScope st)) (hN : ps.length ≤ N.length)
    (hb : ∀ (cdv : Value) (A : Around) (outer : List PySem.Env) (s : Shared) (H : Hp) (E : XK) (C : Cn), C.K = K → C.cl = cl → C.IO = IO → C.n = N.length → Room k (A.deeper (PyProof.Rows.envOfC qual (defScope st) s.heap.objs.size f cdv)) →
      ∃ T, PSs (cxOf CX0 P w K mg base N qual (defScope st) f cdv A outer s H E).nox (defBody st) (rdS C (upE E) T body)) :
    FnOk P w K mg base CX0 (k + 1) f fd ps (spG K cl ps.length (runDef IO (N.length - ps.length) body)) := by
  refine F.ok S (fun vs H Q E h => spG_len h) (fun cdv A outer s H vs Q E hr h => ?_)
  obtain ⟨C, c1, c2, c3, c4, rd⟩ := fn_core hN h
  obtain ⟨T, hps⟩ := hb cdv A outer s H E C c1 c2 c3 c4 hr
  exact ⟨_, hps, rd T⟩
theorem fn_defX {x qual : Str} {st : Stmt} {f : Addr} {fd : FuncData} {N ps : List Str} {k : Nat} {IO : List Nat} {body : MS} (F : Fun K x qual st f fd) (S : FnScope N ps (defScope st)) (hN : ps.length ≤ N.length)
    (hb : ∀ (cdv : Value) (A : Around) (outer : List PySem.Env) (s : Shared) (H : Hp) (E : XK) (C : Cn), C.K = K → C.cl = cl → C.IO = IO → C.n = N.length → Room k (A.deeper (PyProof.Rows.envOfC qual (defScope st) s.heap.objs.size f cdv)) →
      Takes (cxOf (L2.CX P w) P w K mg base N qual (defScope st) f cdv A outer s H E) (upE E) → ∃ T, PSs (cxOf (L2.CX P w) P w K mg base N qual (defScope st) f cdv A outer s H E) (defBody st) (rdS C (upE E) T body)) :
    FnOk P w K mg base (L2.CX P w) (k + 1) f fd ps (spG K cl ps.length (runDef IO (N.length - ps.length) body)) := by
  refine F.okX S (fun vs H Q E h => spG_len h) (fun cdv A outer s H vs Q E hr h => ?_)
  obtain ⟨C, c1, c2, c3, c4, rd⟩ := fn_core hN h
  obtain ⟨T, hps⟩ := hb cdv A outer s H E C c1 c2 c3 c4 hr (takes_of rfl rfl rfl rfl)
  exact ⟨_, hps, rd T⟩
end
end L3
namespace L3
open PySem L2

def Mo.fg (m : Mo) (x : Nat) : Mo := { m with env := m.env.set x none, fps := m.fps.set x [] }
theorem forget {C : Cn} {T : List Nat} {m0 m : Mo} (s : Step T m0 m) (S : Sta C m) (x : Nat) : Sta C (m.fg x) ∧ Step (T ++ [x]) m0 (m.fg x) := by
  have sub : ∀ {j : Nat} {f : Fp}, (m.fps.set x [])[j]? = some f → (j = x ∧ f = []) ∨ (j ≠ x ∧ m.fps[j]? = some f) := by
    intro j f h
    by_cases q : j = x
    · subst q
      rw [List.getElem?_set] at h
      simp at h
      exact .inl ⟨rfl, h.2⟩
    · rw [List.getElem?_set_ne (fun z => q z.symm)] at h
      exact .inr ⟨q, h⟩
  have inf : ∀ {a : Addr}, a ∈ (m.fps.set x []).flatten → a ∈ m.fps.flatten := by
    intro a ha
    rcases mem_flat_set ha with z | ⟨j, f, _, e, z⟩
    · simp at z
    · exact mem_fps e z
  refine ⟨⟨?_, ?_, ?_, fun j o sv f h1 h2 h3 => ?_, S.ex, S.exF, S.newF, fun j f h => ?_, fun j k f g a hjk p1 p2 ha hb => ?_, fun a ha => S.df a (inf ha), fun a ha => S.own a (inf ha), S.frame, S.dom, S.pin⟩, ⟨s.exF, s.keep, s.dom, s.newF, fun a ha => s.newO a (inf ha), ?_, fun j hj => ?_⟩⟩
  · show (m.env.set x none).length = _
    rw [List.length_set]; exact S.ln
  · show m.σ.length = (m.env.set x none).length
    rw [List.length_set]; exact S.l1
  · show (m.fps.set x []).length = (m.env.set x none).length
    rw [List.length_set, List.length_set]; exact S.l2
  · have h1 : (m.env.set x none)[j]? = some o := h1
    have h2 : m.σ[j]? = some sv := h2
    rcases sub h3 with ⟨rfl, rfl⟩ | ⟨q, e⟩
    · rw [List.getElem?_set] at h1
      simp at h1
      rw [← h1.2]
      exact rfl
    · rw [List.getElem?_set_ne (fun z => q z.symm)] at h1
      exact S.sl j o sv f h1 h2 e
  · rcases sub h with ⟨_, rfl⟩ | ⟨q, e⟩
    · exact List.nodup_nil
    · exact S.nd j f e
  · rcases sub p1 with ⟨_, rfl⟩ | ⟨q, e⟩
    · simp at ha
    · rcases sub p2 with ⟨_, rfl⟩ | ⟨q2, e2⟩
      · simp at hb
      · exact S.dj j k f g a hjk e e2 ha hb
  · show (m.env.set x none).length = _
    rw [List.length_set]; exact s.len
  · have hj1 : j ∉ T := fun z => hj (by simp [z])
    have hj2 : j ≠ x := fun z => hj (by simp [z])
    obtain ⟨u1, u2, u3, u4⟩ := s.unt j hj1
    show (m.env.set x none)[j]? = _ ∧ (m.fps.set x [])[j]? = _ ∧ _
    rw [List.getElem?_set_ne hj2.symm, List.getElem?_set_ne hj2.symm]
    exact ⟨u1, u2, u3, u4⟩
theorem chg {C : Cn} {T : List Nat} {m0 m : Mo} {fp : Fp} {F' H' : Hp} (s : Step T m0 m) (S : Sta C m) (G : GPost m.F m.H fp F' H') (d : ∀ a ∈ fp, a ∉ m.fps.flatten)
    (n0 : ∀ a ∈ fp, m0.H a = none ∨ a ∈ m0.fps.flatten) (own : ∀ a ∈ fp, C.H0 a = none ∨ a ∈ C.io) : Sta C { m with F := F', H := H' } ∧ Step T m0 { m with F := F', H := H' } := by
  have kp : ∀ a ∈ m.fps.flatten, H' a = m.H a := fun a ha => by
    cases q : m.H a with
    | none => exact absurd q (S.inH a ha)
    | some o => exact G.keep a o q fun z => d a z ha
  refine ⟨⟨S.ln, S.l1, S.l2, fun i o sv f h1 h2 h3 => ?_, G.ex, S.exF.trans G.exF, fun a h n => ?_, S.nd, S.dj, fun a ha => ?_, S.own, fun b o h n => ?_, fun b h => G.dom b (S.dom b h), S.pin⟩,
    ⟨s.exF.trans G.exF, fun b o h n => ?_, fun b h => G.dom b (s.dom b h), fun a h n => ?_, s.newO, s.len, fun i hi => ?_⟩⟩
  · have w := S.sl i o sv f h1 h2 h3
    cases o with
    | none => exact w
    | some o' =>
      obtain ⟨v, e, r⟩ := w
      exact ⟨v, e, r.mono G.exF o' v f (fun a ha => kp a (mem_fps h3 ha))⟩
  · by_cases q : m.F a = none
    · rcases G.newF a h q with z | z
      · exact .inl (S.h0None z)
      · exact own a z
    · exact S.newF a q n
  · exact Classical.byContradiction fun w => (G.newF a w (S.df a ha)).elim (S.inH a ha) fun z => d a z ha
  · refine G.keep b o (S.frame b o h n) fun z => ?_
    rcases own b z with y | y
    · rw [h] at y; cases y
    · exact n y
  · refine G.keep b o (s.keep b o h n) fun z => ?_
    rcases n0 b z with y | y
    · rw [h] at y; cases y
    · exact n y
  · by_cases q : m.F a = none
    · rcases G.newF a h q with z | z
      · exact .inl (Classical.byContradiction fun w => s.dom a w z)
      · exact n0 a z
    · exact s.newF a q n
  · obtain ⟨u1, u2, u3, u4⟩ := s.unt i hi
    exact ⟨u1, u2, u3, fun f hf a ha => (kp a (mem_fps (u2.trans hf) ha)).trans (u4 f hf a ha)⟩

def argO (env : Env) : Rt → Option O
  | .val d => some (.s d)
  | .sl x => (env[x]?).join
  | _ => none
def argsO (env : Env) : List Rt → Option (List O)
  | [] => some []
  | r :: rs => (argO env r).bind fun o => (argsO env rs).map (o :: ·)
def slots : List Rt → List Nat
  | [] => []
  | .sl x :: rs => x :: slots rs
  | _ :: rs => slots rs
def putOuts : Env → List Rt → List O → Env
  | e, .sl x :: rs, o :: os => putOuts (e.set x (some o)) rs os
  | e, _ :: rs, _ :: os => putOuts e rs os
  | e, _, _ => e
theorem set_same {σ : L2.St} {x : Nat} {v : V} (h : σ[x]? = some (some v)) : σ.set x (some v) = σ := by
  obtain ⟨h1, h2⟩ := List.getElem?_eq_some_iff.mp h
  rw [← h2]; exact List.set_getElem_self h1
section
variable {C : Cn} {m : Mo}
theorem args_ok (S : Sta C m) : ∀ {rs : List Rt} {vs : List V} {os : List O}, RtsOk C m rs vs → argsO m.env rs = some os → ∃ fp, RpOs C.K C.cl m.F m.H os vs fp ∧
    (∀ a ∈ fp, ∃ x f, x ∈ slots rs ∧ m.fps[x]? = some f ∧ a ∈ f) ∧ ((slots rs).Nodup → fp.Nodup) ∧ ∀ x ∈ slots rs, x < m.env.length
  | [], vs, os, h, e => by
    cases e; cases h
    exact ⟨[], ⟨rfl, rfl⟩, fun a h => by simp at h, fun _ => List.nodup_nil, fun x h => by simp [slots] at h⟩
  | r :: rs, vs, os, h, e => by
    cases h with
    | cons h1 h2 =>
      rename_i v vs av
      unfold argsO at e
      cases q : argO m.env r with
      | none => rw [q] at e; cases e
      | some o =>
        rw [q] at e
        cases q2 : argsO m.env rs with
        | none => rw [q2] at e; cases e
        | some os' =>
          rw [q2] at e; cases e
          obtain ⟨fp, r1, r2, r3, r4⟩ := args_ok S h2 q2
          cases r with
          | val d =>
            cases q
            exact ⟨fp, ⟨v, vs, [], fp, rfl, rfl, ⟨rfl, h1⟩, r1⟩, r2, r3, r4⟩
          | own o => cases q
          | bor x p o => cases q
          | sl x =>
            have q : (m.env[x]?).join = some o := q
            cases q3 : m.env[x]? with
            | none => rw [q3] at q; cases q
            | some eo =>
              rw [q3] at q
              have q : eo = some o := q
              subst q
              obtain ⟨v', f, s1, s2, s3⟩ := S.slot q3
              have h1' : m.σ[x]? = some (some v) := h1
              rw [h1'] at s1; cases s1
              refine ⟨f ++ fp, ⟨v, vs, f, fp, rfl, rfl, s3, r1⟩, fun a ha => ?_, fun hn => ?_, fun y hy => ?_⟩
              · rcases List.mem_append.mp ha with z | z
                · exact ⟨x, f, by simp [slots], s2, z⟩
                · obtain ⟨y, g, a1, a2, a3⟩ := r2 a z
                  exact ⟨y, g, by simp [slots, a1], a2, a3⟩
              · have hn : (x :: slots rs).Nodup := hn
                rw [List.nodup_cons] at hn
                rw [List.nodup_append]
                refine ⟨S.nd x f s2, r3 hn.2, fun a ha b hb e => ?_⟩
                subst e
                obtain ⟨y, g, a1, a2, a3⟩ := r2 a hb
                exact S.dj x y f g a (fun z => hn.1 (by rw [z]; exact a1)) s2 a2 ha a3
              · have hy : y ∈ x :: slots rs := hy
                rcases List.mem_cons.mp hy with z | z
                · subst z; exact (List.getElem?_eq_some_iff.mp q3).1
                · exact r4 y z
def fgs (m : Mo) : List Nat → Mo
  | [] => m
  | x :: xs => fgs (m.fg x) xs
theorem fgs_ok {m0 : Mo} : ∀ {xs : List Nat} {m : Mo} {T : List Nat}, Step T m0 m → Sta C m → Sta C (fgs m xs) ∧ Step (T ++ xs) m0 (fgs m xs) ∧ (fgs m xs).F = m.F ∧ (fgs m xs).H = m.H ∧ (fgs m xs).σ = m.σ ∧
    (∀ a, a ∈ (fgs m xs).fps.flatten → ∃ j f, j ∉ xs ∧ m.fps[j]? = some f ∧ a ∈ f) ∧ (∀ x ∈ xs, x < m.env.length → (fgs m xs).fps[x]? = some [])
  | [], m, T, s, S => ⟨S, by rw [List.append_nil]; exact s, rfl, rfl, rfl, fun a ha => by
      obtain ⟨f, hf, haf⟩ := List.mem_flatten.mp ha
      obtain ⟨j, e⟩ := List.mem_iff_getElem?.mp hf
      exact ⟨j, f, by simp, e, haf⟩, fun x h => by simp at h⟩
  | x :: xs, m, T, s, S => by
    obtain ⟨S1, s1⟩ := forget s S x
    obtain ⟨S2, s2, e1, e2, e3, k, k2⟩ := fgs_ok (xs := xs) s1 S1
    refine ⟨S2, by rw [List.append_assoc] at s2; exact s2, e1, e2, e3, fun a ha => ?_, fun y hy hl => ?_⟩
    · obtain ⟨j, f, j1, j2, j3⟩ := k a ha
      have j2 : (m.fps.set x [])[j]? = some f := j2
      by_cases q : j = x
      · subst q
        rw [List.getElem?_set] at j2
        simp at j2
        rw [j2.2] at j3; simp at j3
      · rw [List.getElem?_set_ne (fun z => q z.symm)] at j2
        exact ⟨j, f, by simp [q, j1], j2, j3⟩
    · by_cases q : y ∈ xs
      · exact k2 y q (by show y < (m.env.set x none).length; rw [List.length_set]; exact hl)
      · have hyx : y = x := by simpa [q] using hy
        subst hyx
        have z : ∀ {zs : List Nat} {m : Mo}, y ∉ zs → m.fps[y]? = some [] → (fgs m zs).fps[y]? = some [] := by
          intro zs
          induction zs with
          | nil => intro m _ h; exact h
          | cons z zs ih =>
            intro m hn h
            refine ih (fun q => hn (by simp [q])) ?_
            show (m.fps.set z [])[y]? = _
            rw [List.getElem?_set_ne (fun q => hn (by simp [q]))]; exact h
        show (fgs (m.fg y) xs).fps[y]? = _
        refine z q ?_
        show (m.fps.set y [])[y]? = _
        rw [List.getElem?_set_self (by rw [S.l2]; exact hl)]
theorem puts_ok {m0 : Mo} {σ : L2.St} : ∀ {rs : List Rt} {vs : List V} {outs : List O} {fp : Fp} {m : Mo} {T : List Nat}, Step T m0 m → Sta C m → m.σ = σ → RpOs C.K C.cl m.F m.H outs vs fp → (∀ (i : Nat) (r : Rt) (v : V), rs[i]? = some r → vs[i]? = some v → ∀ x, r = .sl x → σ[x]? = some (some v)) →
    fp.Nodup → (∀ a ∈ fp, m.F a = none ∧ a ∉ m.fps.flatten ∧ (m0.H a = none ∨ a ∈ m0.fps.flatten) ∧ (C.H0 a = none ∨ a ∈ C.io)) → (slots rs).Nodup → (∀ x ∈ slots rs, m.fps[x]? = some []) → rs.length = outs.length →
    ∃ m', Sta C m' ∧ Step (T ++ slots rs) m0 m' ∧ m'.F = m.F ∧ m'.H = m.H ∧ m'.σ = σ ∧ m'.env = putOuts m.env rs outs ∧ ∀ a ∈ m'.fps.flatten, a ∈ m.fps.flatten ∨ a ∈ fp
  | [], vs, outs, fp, m, T, s, S, hσ, r, hv, nd, hk, hn, h0, hl => by
    have : outs = [] := List.eq_nil_of_length_eq_zero hl.symm
    subst this
    exact ⟨m, S, by simpa [slots] using s, rfl, rfl, hσ, rfl, fun a ha => .inl ha⟩
  | r0 :: rs, vs, [], fp, m, T, s, S, hσ, r, hv, nd, hk, hn, h0, hl => by simp at hl
  | r0 :: rs, vs, o :: outs, fp, m, T, s, S, hσ, r, hv, nd, hk, hn, h0, hl => by
    obtain ⟨v, vr, f, g, rfl, rfl, r1, r2⟩ := r
    rw [List.nodup_append] at nd
    have skip : slots (r0 :: rs) = slots rs → putOuts m.env (r0 :: rs) (o :: outs) = putOuts m.env rs outs →
        ∃ m', Sta C m' ∧ Step (T ++ slots (r0 :: rs)) m0 m' ∧ m'.F = m.F ∧ m'.H = m.H ∧ m'.σ = σ ∧ m'.env = putOuts m.env (r0 :: rs) (o :: outs) ∧ ∀ a ∈ m'.fps.flatten, a ∈ m.fps.flatten ∨ a ∈ f ++ g := fun e1 e2 => by
      obtain ⟨m', p1, p2, p3, p4, p5, p6, p7⟩ := puts_ok (rs := rs) s S hσ r2 (fun i r v a b => hv (i + 1) r v (by simpa using a) (by simpa using b)) nd.2.1 (fun a ha => hk a (by simp [ha])) (by rw [e1] at hn; exact hn) (by rw [e1] at h0; exact h0) (by simpa using hl)
      exact ⟨m', p1, by rw [e1]; exact p2, p3, p4, p5, by rw [e2]; exact p6, fun a ha => (p7 a ha).imp id fun z => by simp [z]⟩
    cases r0 with
    | val d => exact skip rfl rfl
    | own d => exact skip rfl rfl
    | bor x p d => exact skip rfl rfl
    | sl x =>
      have hn : (x :: slots rs).Nodup := hn
      rw [List.nodup_cons] at hn
      have hx : m.fps[x]? = some [] := h0 x (by simp [slots])
      have hvx : m.σ[x]? = some (some v) := by rw [hσ]; exact hv 0 (.sl x) v (by simp) (by simp) x rfl
      obtain ⟨S1, s1⟩ := put (o' := o) (v' := v) (fp' := f) s S hx (Ex.refl _) S.ex (fun _ _ h _ => h) (fun _ h => h) (fun a h n => absurd n h) r1 nd.1 (fun a ha => (hk a (by simp [ha])).1)
        (fun a ha => .inr (.inr ⟨fun j f' e z => (hk a (by simp [ha])).2.1 (mem_fps e z), (hk a (by simp [ha])).2.2.1, (hk a (by simp [ha])).2.2.2⟩)) (fun _ => hvx)
      have hk2 : ∀ a ∈ g, (m.put m.F m.H x o v f).F a = none ∧ a ∉ (m.put m.F m.H x o v f).fps.flatten ∧ (m0.H a = none ∨ a ∈ m0.fps.flatten) ∧ (C.H0 a = none ∨ a ∈ C.io) := fun a ha => by
        obtain ⟨k1, k2, k3, k4⟩ := hk a (by simp [ha])
        refine ⟨k1, fun z => ?_, k3, k4⟩
        rcases mem_flat_set z with y | ⟨j, f', _, e, y⟩
        · exact nd.2.2 a y a ha rfl
        · exact k2 (mem_fps e y)
      obtain ⟨m', p1, p2, p3, p4, p5, p6, p7⟩ := puts_ok (rs := rs) s1 S1 (by show m.σ.set x _ = _; rw [set_same hvx]; exact hσ) r2 (fun i r v a b => hv (i + 1) r v (by simpa using a) (by simpa using b)) nd.2.1 hk2 hn.2
        (fun y hy => by show (m.fps.set x f)[y]? = _; rw [List.getElem?_set_ne (fun q => hn.1 (by rw [q]; exact hy))]; exact h0 y (by simp [slots, hy])) (by simpa using hl)
      refine ⟨m', p1, by simpa [slots] using p2, p3, p4, p5, p6, fun a ha => ?_⟩
      rcases p7 a ha with z | z
      · rcases mem_flat_set z with y | ⟨j, f', _, e, y⟩
        · exact .inr (by simp [y])
        · exact .inl (mem_fps e y)
      · exact .inr (by simp [z])
theorem RtsOk.sls : ∀ {rs : List Rt} {vs : List V}, RtsOk C m rs vs → ∀ (i : Nat) (r : Rt) (v : V), rs[i]? = some r → vs[i]? = some v → ∀ x, r = .sl x → m.σ[x]? = some (some v)
  | [], vs, h, i, r, v, h1, h2, x, e => by simp at h1
  | r0 :: rs, vs, h, i, r, v, h1, h2, x, e => by
    cases h with
    | cons a b =>
      cases i with
      | zero => simp at h1 h2; subst h1 h2 e; exact a
      | succ i => exact RtsOk.sls b i r v (by simpa using h1) (by simpa using h2) x e
end
theorem call_ok {C : Cn} {T Sl : List Nat} {m0 m : Mo} {rs : List Rt} {vs : List V} {os outs : List O} {fp fr fp' : Fp} {F' H' : Hp} (s : Step T m0 m) (S : Sta C m) (ok : RtsOk C m rs vs)
    (hfp : ∀ a ∈ fp, ∃ x f, x ∈ slots rs ∧ m.fps[x]? = some f ∧ a ∈ f) (hsl : ∀ x ∈ slots rs, x < m.env.length) (hn : (slots rs).Nodup) (hS : ∀ x ∈ slots rs, x ∈ Sl) (G : GPost m.F m.H fp F' H') (Go : GOuts C.K C.cl m.H fp F' H' vs outs fr fp')
    (hl : rs.length = outs.length) : ∃ m', Sta C m' ∧ Step (T ++ Sl) m0 m' ∧ m'.F = F' ∧ m'.H = H' ∧ m'.σ = m.σ ∧ m'.env = putOuts m.env rs outs ∧ ∀ a ∈ fr, a ∉ m'.fps.flatten ∧ (m0.H a = none ∨ a ∈ m0.fps.flatten) ∧ (C.H0 a = none ∨ a ∈ C.io) := by
  obtain ⟨S1, s1, e1, e2, e3, k, k2⟩ := fgs_ok (xs := slots rs) s S
  have fpm : ∀ a ∈ fp, m0.H a = none ∨ a ∈ m0.fps.flatten := fun a ha => by
    obtain ⟨x, f, _, a2, a3⟩ := hfp a ha
    exact s.newO a (mem_fps a2 a3)
  have fpo : ∀ a ∈ fp, C.H0 a = none ∨ a ∈ C.io := fun a ha => by
    obtain ⟨x, f, _, a2, a3⟩ := hfp a ha
    exact S.own a (mem_fps a2 a3)
  obtain ⟨S2, s2⟩ := chg (fp := fp) (F' := F') (H' := H') s1 S1 (by rw [e1, e2]; exact G) (fun a ha z => by
    obtain ⟨x, f, a1, a2, a3⟩ := hfp a ha
    obtain ⟨j, g, j1, j2, j3⟩ := k a z
    exact S.dj x j f g a (fun q => j1 (by rw [← q]; exact a1)) a2 j2 a3 j3) fpm fpo
  have nw : ∀ a ∈ fr ++ fp', a ∉ (fgs m (slots rs)).fps.flatten ∧ (m0.H a = none ∨ a ∈ m0.fps.flatten) ∧ (C.H0 a = none ∨ a ∈ C.io) := fun a ha => by
    refine ⟨fun z => ?_, ?_, ?_⟩
    · obtain ⟨j, g, j1, j2, j3⟩ := k a z
      rcases Go.newO a ha with y | y
      · exact S.inH a (mem_fps j2 j3) y
      · obtain ⟨x, f, a1, a2, a3⟩ := hfp a y
        exact S.dj x j f g a (fun q => j1 (by rw [← q]; exact a1)) a2 j2 a3 j3
    · rcases Go.newO a ha with y | y
      · exact .inl (Classical.byContradiction fun w => s.dom a w y)
      · exact fpm a y
    · rcases Go.newO a ha with y | y
      · exact .inl (S.h0None y)
      · exact fpo a y
  have nd := Go.nd
  rw [List.nodup_append] at nd
  obtain ⟨m', p1, p2, p3, p4, p5, p6, p7⟩ := puts_ok (rs := rs) (vs := vs) (outs := outs) (fp := fp') (σ := m.σ) s2 S2 e3 Go.rp ok.sls nd.2.1 (fun a ha => ⟨Go.fF a (by simp [ha]), nw a (by simp [ha])⟩) hn (fun x hx => k2 x hx (hsl x hx)) hl
  have envq : ∀ {xs : List Nat} {m : Mo} {rs : List Rt} {outs : List O}, (∀ x ∈ xs, x ∈ slots rs) → rs.length = outs.length → (slots rs).Nodup → putOuts (fgs m xs).env rs outs = putOuts m.env rs outs := by
    intro xs
    induction xs with
    | nil => intro m rs outs _ _ _; rfl
    | cons x xs ih =>
      intro m rs outs h1 h2 h3
      show putOuts (fgs (m.fg x) xs).env rs outs = _
      rw [ih (fun y hy => h1 y (by simp [hy])) h2 h3]
      have z : ∀ {rs : List Rt} {outs : List O} {e : Env} {y : Option O}, x ∈ slots rs → rs.length = outs.length → putOuts (e.set x y) rs outs = putOuts e rs outs := by
        intro rs
        induction rs with
        | nil => intro outs e y h; simp [slots] at h
        | cons r rs ih2 =>
          intro outs e y h hl
          cases outs with
          | nil => simp at hl
          | cons o outs =>
            cases r with
            | sl x' =>
              show putOuts ((e.set x y).set x' (some o)) rs outs = putOuts (e.set x' (some o)) rs outs
              by_cases q : x = x'
              · subst q; rw [List.set_set]
              · rw [List.set_comm _ _ q]
                have h : x ∈ x' :: slots rs := h
                exact ih2 ((List.mem_cons.mp h).resolve_left q) (by simpa using hl)
            | val d => exact ih2 h (by simpa using hl)
            | own d => exact ih2 h (by simpa using hl)
            | bor a b d => exact ih2 h (by simpa using hl)
      exact z (h1 x (by simp)) h2
  refine ⟨m', p1, p2.wk (fun i hi => ?_), p3, p4, p5, ?_, fun a ha => ⟨fun z => ?_, (nw a (by simp [ha])).2⟩⟩
  · simp only [List.mem_append] at hi ⊢
    rcases hi with (z | z) | z
    · exact .inl z
    · exact .inr (hS i z)
    · exact .inr (hS i z)
  · rw [p6]
    exact envq (fun x hx => hx) hl hn
  · rcases p7 a z with y | y
    · exact (nw a (by simp [ha])).1 y
    · exact nd.2.2 a ha a y rfl

def O.rr : O → Rt
  | .s d => .val d
  | o => .own o
def mCall (Sl : List Nat) (n : Nat) (fn : List O → Rr) (fs : MA) : ME := fun env => (fs env).bind fun rs e =>
  match argsO e rs with
  | some os => if rs.length = n ∧ (slots rs).Nodup ∧ (∀ x ∈ slots rs, x ∈ Sl) then
      (match fn os with
      | .ok r outs => if outs.length = n then .ok r.rr (putOuts e rs outs) else .bad
      | .exc c ds outs => if outs.length = n then .exc c ds (putOuts e rs outs) else .bad
      | .bad => .bad) else .bad
  | none => .bad
theorem argsO_len {e : Env} : ∀ {rs : List Rt} {os : List O}, argsO e rs = some os → os.length = rs.length
  | [], os, h => by cases h; rfl
  | r :: rs, os, h => by
    unfold argsO at h
    cases q : argO e r with
    | none => rw [q] at h; cases h
    | some o =>
      rw [q] at h
      cases q2 : argsO e rs with
      | none => rw [q2] at h; cases h
      | some os' => rw [q2] at h; cases h; simp [argsO_len q2]
section
variable {X : Cx} {C : Cn} {E : WX} {e a b : Expr} {pos : Pos} {T T1 T2 T3 Sl : List Nat} {fs : MA} {es : List Expr} {f f1 f2 : ME} {n : Nat} {fn : List O → Rr}
theorem call_core {σ : L2.St} {Q : VK} {m m' : Mo} {rs : List Rt} {vs : List V} (s : Step T m m') (S' : Sta C m') (ok : RtsOk C m' rs vs) (e4 : m'.σ = σ)
    (w : Want C E m (match argsO m'.env rs with
      | some os => if rs.length = n ∧ (slots rs).Nodup ∧ (∀ x ∈ slots rs, x ∈ Sl) then
          (match fn os with
          | .ok r outs => if outs.length = n then Rs.ok r.rr (putOuts m'.env rs outs) else .bad
          | .exc c ds outs => if outs.length = n then .exc c ds (putOuts m'.env rs outs) else .bad
          | .bad => .bad) else .bad
      | none => .bad) fun r env' => ∀ v m', m'.env = env' → m'.σ = σ → Sta C m' → Step (T ++ Sl) m m' → RtOk C m' (Old m) r v → Q v m'.H) : spG C.K C.cl n fn vs m'.H Q (WE E σ) := by
  cases ho : argsO m'.env rs with
  | none => rw [ho] at w; exact w.elim
  | some os =>
    rw [ho] at w
    dsimp only at w
    by_cases hc : rs.length = n ∧ (slots rs).Nodup ∧ (∀ x ∈ slots rs, x ∈ Sl)
    · rw [if_pos hc] at w
      obtain ⟨c1, c2, c3⟩ := hc
      obtain ⟨fp, r1, r2, r3, r4⟩ := args_ok S' ok ho
      refine ⟨m'.F, os, fp, (argsO_len ho).trans c1, S'.ex, r1, r3 c2, fun a ha => ?_, ?_⟩
      · obtain ⟨x, f, _, a2, a3⟩ := r2 a ha
        exact S'.df a (mem_fps a2 a3)
      · cases hf : fn os with
        | bad => rw [hf] at w; exact w.elim
        | ok r outs =>
          rw [hf] at w
          dsimp only at w ⊢
          by_cases hl : outs.length = n
          · rw [if_pos hl] at w
            intro v F' H' fr fp' G rr Go
            obtain ⟨m2, S2, s2, q1, q2, q3, q4, q5⟩ := call_ok (os := os) s S' ok r2 r4 c2 c3 G Go (by rw [c1, hl])
            have q := w v m2 q4 (q3.trans e4) S2 s2
            subst q1 q2
            refine q ?_
            have own : RtOk C m2 (Old m) (.own r) v := by
              have nd := Go.nd
              rw [List.nodup_append] at nd
              refine ⟨fr, rr, nd.1, fun a ha => ⟨Go.fF a (by simp [ha]), (q5 a ha).1, (q5 a ha).2.2, fun z => ?_⟩⟩
              rcases (q5 a ha).2.1 with y | y
              · exact z.1 y
              · exact z.2 y
            cases r with
            | s d => exact rr.2
            | lst _ => exact own
            | dk _ _ => exact own
            | dt _ _ => exact own
            | ins _ _ _ => exact own
          · rw [if_neg hl] at w; exact w.elim
        | exc c ds outs =>
          rw [hf] at w
          dsimp only at w ⊢
          by_cases hl : outs.length = n
          · rw [if_pos hl] at w
            intro F' H' dd fp' G Go h1 h2
            obtain ⟨m2, S2, s2, q1, q2, q3, q4, q5⟩ := call_ok (os := os) s S' ok r2 r4 c2 c3 G Go (by rw [c1, hl])
            subst q1 q2
            have q := w m2 q4 S2 _ s2 dd h1 h2
            rw [q3, e4] at q
            exact q
          · rw [if_neg hl] at w; exact w.elim
    · rw [if_neg hc] at w; exact w.elim
theorem rdCall {σ : L2.St} {H : Hp} {Q : VK} (h : rdE C E (T ++ Sl) (mCall Sl n fn fs) σ H Q) : rdA C E T fs σ H fun vs H1 => spG C.K C.cl n fn vs H1 Q (WE E σ) := by
  obtain ⟨m, e1, e2, S, w⟩ := h
  refine ⟨m, e1, e2, S, Want.imp w.bind fun rs env w => fun vs m' e3 e4 S' s ok => ?_⟩
  subst e3
  exact call_core s S' ok e4 w
theorem passN {X : Cx} {E : WX} : ∀ σ, PassesAt CX0 X σ (WE E σ) := fun _ _ _ _ _ _ _ h => h.elim
theorem e_call {CX : CXT} {k : Nat} {fa : Addr} {fd : FuncData} {ps : List Str} {x : Str} {p : Pos} (Sl : List Nat) (hK : X.K = C.K) (F : FnOk X.prog X.w X.K X.mg X.base CX k fa fd ps (spG C.K C.cl n fn)) (hr : Room k X.A) (hg : Gl X x) (hm : X.mg x = some (.ref fa)) (hk : PySem.W.keepIn X.K (.ref fa) = true)
    (hb : Binds X.K fd ps []) (hx : ∀ σ, PassesAt CX X σ (WE E σ)) (ha : PA X (e :: es) (rdA C E T fs)) (hst : starEach (e :: es) X.env = (false, eval e X.env) :: starEach es X.env := by rfl) (hpl : ((backTo pos (starEach es X.env)).any fun x => x.1) = false := by rfl)
    (hdb : (x == ("__debug__" : Str)) = false := by decide) (hsw : True := trivial) : PE X (.Call (.Name x p) (e :: es) [] pos) (rdE C E (T ++ Sl) (mCall Sl n fn fs)) :=
  PE.wk (pe_callS F hr hg hm hk hb hx ha hdb hst hpl) fun σ H Q h => rdCall h
end
end L3
namespace L3
open PySem L2

structure Src where
  items : List D
  dep : Option Nat
abbrev MI := Env → Rs Src
def JOk (C : Cn) (src : Src) (m : Mo) (J : It) : Prop := ∀ (m2 : Mo) (T : List Nat), Sta C m2 → Step T m m2 → m2.σ.length = m2.σ.length → (∀ x, src.dep = some x → x ∉ T) → ∀ i : Nat,
  (∀ d, src.items[i]? = some d → J.go i m2.H ∧ ∀ x H', J.yld i m2.H x H' → ∃ m3, m3.H = H' ∧ Gro m2 m3 ∧ RpD C.K C.cl m3.F d x) ∧ (src.items.length = i → J.stop i m2.H)
def rdI (C : Cn) (E : WX) (T : List Nat) (f : MI) : TI := fun σ H R => ∃ m : Mo, m.H = H ∧ m.σ = σ ∧ Sta C m ∧
  Want C E m (f m.env) fun src env' => ∀ J m', m'.env = env' → m'.σ = σ → Sta C m' → Step T m m' → JOk C src m' J → R J m'.H
theorem PI.wk {X : Cx} {tg e : Expr} {t t' : TI} (h : PI X tg e t) (w : ∀ σ H R, t' σ H R → t σ H R) : PI X tg e t' := ⟨fun pins s σ H R I q => h.run pins s σ H R I (w σ H R q)⟩

section
variable {X : Cx} {C : Cn} {E : WX} {e a b tg : Expr} {pos : Pos} {T T1 T2 T3 : List Nat} {fs : MA} {es : List Expr} {f f1 f2 : ME} {g : MS} {t : MT}
def srcOf (tup : Bool) : Rt → Option Src
  | .val (.tup ds) => if tup = true then some ⟨ds, none⟩ else none
  | .val (.lst ds) => if tup = true then none else some ⟨ds, none⟩
  | .bor x _ (.lst os) => if tup = true then none else (leaves os).map fun ds => ⟨ds, some x⟩
  | _ => none
def iSeq (tup : Bool) (f : ME) : MI := fun env => (f env).bind fun r e => ofO (srcOf tup r) e
theorem get_none {α : Type} {xs : List α} {i : Nat} (h : xs.length ≤ i) : xs[i]? = none := List.getElem?_eq_none h
theorem seq_items {m : Mo} {r : Rt} {src : Src} {tup : Bool} {v : V} {av : Addr → Prop} (S : Sta C m) (ok : RtOk C m av r v) (h : srcOf tup r = some src) :
    ∃ a, v = .ref a ∧ ∃ xs, (∀ (m2 : Mo) (T : List Nat), Sta C m2 → Step T m m2 → (∀ x, src.dep = some x → x ∉ T) → (if tup = true then SqT C.K m2.H a xs else SqL C.K m2.H a xs) ∧ RpDs C.K C.cl m2.F src.items xs) := by
  unfold srcOf at h
  split at h
  · split at h
    · cases h
      rename_i ht
      obtain ⟨a, xs, rfl, q, rr⟩ := ok
      exact ⟨a, rfl, xs, fun m2 T S2 s2 _ => ⟨by rw [if_pos ht]; exact S2.ex.sqT (s2.exF.sqT q.1), rr.mono s2.exF _ _⟩⟩
    · cases h
  · split at h
    · cases h
    · cases h
      rename_i ht
      obtain ⟨a, xs, rfl, q, rr⟩ := ok
      exact ⟨a, rfl, xs, fun m2 T S2 s2 _ => ⟨by rw [if_neg ht]; exact S2.ex.sqL (s2.exF.sqL q), rr.mono s2.exF _ _⟩⟩
  · rename_i x p os
    split at h
    · cases h
    · rename_i ht
      cases q : leaves os with
      | none => rw [q] at h; cases h
      | some ds =>
        rw [q] at h
        cases h
        obtain rfl := leaves_some q
        obtain ⟨d0, v0, e1, e2, e3⟩ := ok
        obtain ⟨v1, f0, s1, s2, s3⟩ := S.slot e1
        rw [e2] at s1; cases s1
        obtain ⟨g, rr, gs⟩ := At.rp s3 e3
        obtain ⟨a, xs, fl, rfl, rfl, q1, q2⟩ := rr
        refine ⟨a, rfl, xs, fun m2 T S2 st hd => ?_⟩
        have hx := hd x rfl
        obtain ⟨_, _, _, u4⟩ := st.unt x hx
        refine ⟨?_, (RpOs.leaves q2).2.mono st.exF _ _⟩
        rw [if_neg ht]
        exact .inl (.inl ((u4 f0 s2 a (gs a (by simp))).trans q1))
  · cases h
theorem j_list {m : Mo} {a : Addr} {src : Src} (h : ∃ xs, ∀ (m2 : Mo) (T : List Nat), Sta C m2 → Step T m m2 → (∀ x, src.dep = some x → x ∉ T) → SqL C.K m2.H a xs ∧ RpDs C.K C.cl m2.F src.items xs) (hi : ∀ H ys zs, SqL C.K H a ys → SqL C.K H a zs → True) : JOk C src m (Itl C.K a) := by
  obtain ⟨xs, h⟩ := h
  intro m2 T S2 s2 _ hd i
  obtain ⟨q, r⟩ := h m2 T S2 s2 hd
  refine ⟨fun d hd => ?_, fun hl => ⟨xs, q, by rw [r.length]; exact Nat.le_of_eq hl⟩⟩
  obtain ⟨v, e, rv⟩ := r.get hd
  refine ⟨⟨xs, v, q, e⟩, fun x H' ⟨e1, e2⟩ => ⟨m2, e1.symm, Gro.refl S2, ?_⟩⟩
  have := e2 xs q
  rw [e] at this; cases this
  exact rv
theorem j_tup {m : Mo} {a : Addr} {src : Src} (h : ∃ xs, ∀ (m2 : Mo) (T : List Nat), Sta C m2 → Step T m m2 → (∀ x, src.dep = some x → x ∉ T) → SqT C.K m2.H a xs ∧ RpDs C.K C.cl m2.F src.items xs) : JOk C src m (Itt C.K a) := by
  obtain ⟨xs, h⟩ := h
  intro m2 T S2 s2 _ hd i
  obtain ⟨q, r⟩ := h m2 T S2 s2 hd
  refine ⟨fun d hd => ?_, fun hl => ⟨xs, q, by rw [r.length]; exact Nat.le_of_eq hl⟩⟩
  obtain ⟨v, e, rv⟩ := r.get hd
  refine ⟨⟨xs, v, q, e⟩, fun x H' ⟨e1, e2⟩ => ⟨m2, e1.symm, Gro.refl S2, ?_⟩⟩
  have := e2 xs q
  rw [e] at this; cases this
  exact rv
theorem i_list (hK : X.K = C.K) (h : PE X e (rdE C E T f)) : PI X tg e (rdI C E T (iSeq false f)) := PI.wk (pi_list h) fun σ H R ⟨m, e1, e2, S, w⟩ => ⟨m, e1, e2, S, Want.imp w.bind fun r env w => fun v m' e3 e4 S' s ok => by
  cases hs : srcOf false r with
  | none => rw [hs] at w; exact w.elim
  | some src =>
    rw [hs] at w
    obtain ⟨a, rfl, xs, k⟩ := seq_items S' ok hs
    rw [hK]
    refine ⟨a, rfl, ⟨xs, ?_⟩, w _ m' e3 e4 S' s (j_list ⟨xs, fun m2 T S2 s2 hd => ?_⟩ fun _ _ _ _ _ => trivial)⟩
    · have := (k m' [] S' (Step.refl _ _) (fun _ _ => by simp)).1
      rw [if_neg (by decide)] at this; exact this
    · have := k m2 T S2 s2 hd
      rw [if_neg (by decide)] at this; exact this⟩
theorem i_tup (hK : X.K = C.K) (h : PE X e (rdE C E T f)) : PI X tg e (rdI C E T (iSeq true f)) := PI.wk (pi_tup h) fun σ H R ⟨m, e1, e2, S, w⟩ => ⟨m, e1, e2, S, Want.imp w.bind fun r env w => fun v m' e3 e4 S' s ok => by
  cases hs : srcOf true r with
  | none => rw [hs] at w; exact w.elim
  | some src =>
    rw [hs] at w
    obtain ⟨a, rfl, xs, k⟩ := seq_items S' ok hs
    rw [hK]
    refine ⟨a, rfl, ⟨xs, ?_⟩, w _ m' e3 e4 S' s (j_tup ⟨xs, fun m2 T S2 s2 hd => ?_⟩)⟩
    · have := (k m' [] S' (Step.refl _ _) (fun _ _ => by simp)).1
      rw [if_pos rfl] at this; exact this
    · have := k m2 T S2 s2 hd
      rw [if_pos rfl] at this; exact this⟩
def rngD (lo : Int) (n : Nat) : List D := (List.range n).map fun (i : Nat) => D.int (lo + (i : Int))
theorem j_rng {m : Mo} {lo : Int} {n : Nat} : JOk C ⟨rngD lo n, none⟩ m (Itr lo n) := by
  intro m2 T S2 s2 _ hd i
  refine ⟨fun d h => ?_, fun hl => ?_⟩
  · have hi : i < n := by
      have := (List.getElem?_eq_some_iff.mp h).1
      simpa [rngD] using this
    have e : d = .int (lo + i) := by
      have h : (rngD lo n)[i]? = some d := h
      rw [rngD, List.getElem?_map, List.getElem?_range hi] at h
      exact (Option.some.inj h).symm
    subst e
    exact ⟨hi, fun x H' ⟨e1, e2⟩ => ⟨m2, e1.symm, Gro.refl S2, e2⟩⟩
  · have h2 : (rngD lo n).length ≤ i := Nat.le_of_eq hl
    show n ≤ i
    simpa [rngD] using h2
def iRg1 (fs : MA) : MI := fun env => (fs env).bind fun rs e => match rs with
  | [.val (.int j)] => if -(2 ^ 62) ≤ j ∧ j < 2 ^ 62 then .ok ⟨rngD 0 j.toNat, none⟩ e else .bad
  | _ => .bad
def iRg2 (fs : MA) : MI := fun env => (fs env).bind fun rs e => match rs with
  | [.val (.int i), .val (.int j)] => if -(2 ^ 62) ≤ i ∧ i < 2 ^ 62 ∧ -(2 ^ 62) ≤ j ∧ j < 2 ^ 62 then .ok ⟨rngD i (j - i).toNat, none⟩ e else .bad
  | _ => .bad
theorem i_rg1 (h : PI X tg e (iRng1 (rdA C E T fs))) : PI X tg e (rdI C E T (iRg1 fs)) :=
  PI.wk h fun σ H R ⟨m, e1, e2, S, w⟩ => ⟨m, e1, e2, S, Want.imp w.bind fun rs env w => fun vs m' e3 e4 S' s ok => by
    split at w
    · rename_i j
      obtain ⟨x, av, rfl, hx⟩ := ok.one
      split at w
      · rename_i z
        have hx : x = .int j := hx
        subst hx
        exact ⟨j, rfl, z.1, z.2, w _ m' e3 e4 S' s j_rng⟩
      · exact w.elim
    · exact w.elim⟩
theorem i_rg2 (h : PI X tg e (iRng2 (rdA C E T fs))) : PI X tg e (rdI C E T (iRg2 fs)) :=
  PI.wk h fun σ H R ⟨m, e1, e2, S, w⟩ => ⟨m, e1, e2, S, Want.imp w.bind fun rs env w => fun vs m' e3 e4 S' s ok => by
    split at w
    · rename_i i j
      obtain ⟨x, y, av, av', rfl, hx, hy⟩ := ok.two
      split at w
      · rename_i z
        have hx : x = .int i := hx
        have hy : y = .int j := hy
        subst hx hy
        exact ⟨i, j, rfl, z, w _ m' e3 e4 S' s j_rng⟩
      · exact w.elim
    · exact w.elim⟩
def setT (is : List Nat) (d : D) (env : Env) : Option Env := match is with
  | [i] => some (env.set i (some (.s d)))
  | _ => none
def setTs : List Nat → List D → Env → Option Env
  | [], [], env => some env
  | i :: is, d :: ds, env => setTs is ds (env.set i (some (.s d)))
  | _, _, _ => none
def setTup (is : List Nat) (d : D) (env : Env) : Option Env := match d with
  | .tup ds => setTs is ds env
  | _ => none
def TgOk (C : Cn) (g : TG) (Tt : List Nat) (set : D → Env → Option Env) : Prop := ∀ (m : Mo) (d : D) (x : V) (env' : Env) (Q : L2.St → Hp → Prop), Sta C m → RpD C.K C.cl m.F d x → set d m.env = some env' →
  (∀ m', m'.env = env' → m'.H = m.H → Sta C m' → (∀ (T : List Nat) (m0 : Mo), Step T m0 m → Step (T ++ Tt) m0 m') → Q m'.σ m'.H) → g x m.σ m.H Q
theorem put_val {m : Mo} {i : Nat} {d : D} {v : V} (S : Sta C m) (ok : RpD C.K C.cl m.F d v) (hi : i < C.n) (hIO : i ∉ C.IO) :
    Sta C (m.put m.F m.H i (.s d) v []) ∧ ∀ (T : List Nat) (m0 : Mo), Step T m0 m → Step (T ++ [i]) m0 (m.put m.F m.H i (.s d) v []) := by
  have hi' : i < m.fps.length := by rw [S.l2, S.ln]; exact hi
  have hf := List.getElem?_eq_getElem hi'
  have p := fun (T : List Nat) (m0 : Mo) (s : Step T m0 m) => put (o' := .s d) (v' := v) (fp' := []) s S hf (Ex.refl _) S.ex (fun _ _ h _ => h) (fun _ h => h) (fun a h n => absurd n h) ⟨rfl, ok⟩ List.nodup_nil (fun a h => by simp at h) (fun a h => by simp at h) fun z => absurd z hIO
  exact ⟨(p [] m (Step.refl _ _)).1, fun T m0 s => (p T m0 s).2⟩
theorem tg_name {i : Nat} (hi : i < C.n) (hIO : i ∉ C.IO) : TgOk C (gName i) [i] (setT [i]) := by
  intro m d x env' Q S ok h k
  have h : some (m.env.set i (some (.s d))) = some env' := h
  cases h
  obtain ⟨S2, s2⟩ := put_val (i := i) S ok hi hIO
  exact k (m.put m.F m.H i (.s d) x []) rfl rfl S2 s2
theorem tg_names : ∀ {is : List Nat} {gs : TGs}, gs = is.foldr (fun i gs => gCons (gName i) gs) gNil → (∀ i ∈ is, i < C.n ∧ i ∉ C.IO) → ∀ (m : Mo) (ds : List D) (xs : List V) (env' : Env) (Q : L2.St → Hp → Prop), Sta C m → RpDs C.K C.cl m.F ds xs → setTs is ds m.env = some env' →
    (∀ m', m'.env = env' → m'.H = m.H → Sta C m' → (∀ (T : List Nat) (m0 : Mo), Step T m0 m → Step (T ++ is) m0 m') → Q m'.σ m'.H) → gs xs m.σ m.H Q
  | [], gs, hg, hi, m, ds, xs, env', Q, S, r, h, k => by
    subst hg
    cases ds with
    | nil =>
      have h : some m.env = some env' := h
      cases h
      exact ⟨r, k m rfl rfl S fun T m0 s => by rw [List.append_nil]; exact s⟩
    | cons d ds => cases h
  | i :: is, gs, hg, hi, m, ds, xs, env', Q, S, r, h, k => by
    subst hg
    cases ds with
    | nil => cases h
    | cons d ds =>
      obtain ⟨v, vr, rfl, r1, r2⟩ := r
      have h : setTs is ds (m.env.set i (some (.s d))) = some env' := h
      obtain ⟨S2, s2⟩ := put_val (i := i) S r1 (hi i (by simp)).1 (hi i (by simp)).2
      refine ⟨v, vr, rfl, tg_names (is := is) rfl (fun j hj => hi j (by simp [hj])) _ ds vr env' Q S2 r2 h fun m' a1 a2 a3 a4 => k m' a1 a2 a3 fun T m0 s => ?_⟩
      have := a4 _ m0 (s2 T m0 s)
      simpa using this
theorem tg_tup {is : List Nat} {n : Nat} (hn : n = is.length) (hi : ∀ i ∈ is, i < C.n ∧ i ∉ C.IO) : TgOk C (L2.gTup C.K n (is.foldr (fun i gs => gCons (gName i) gs) gNil)) is (setTup is) := by
  intro m d x env' Q S ok h k
  unfold setTup at h
  split at h
  · rename_i ds
    obtain ⟨a, xs, rfl, q, r⟩ := ok
    have len : ∀ (is : List Nat) (ds : List D) (e : Env), setTs is ds e = some env' → ds.length = is.length := by
      intro is
      induction is with
      | nil => intro ds e h; cases ds with
        | nil => rfl
        | cons d ds => cases h
      | cons i is ih => intro ds e h; cases ds with
        | nil => cases h
        | cons d ds => simp [ih ds _ h]
    exact ⟨a, xs, rfl, S.ex.sqT q.1, by rw [r.length, len is ds _ h, hn], tg_names rfl hi m ds xs env' Q S r h k⟩
  · cases h
def msAsgT (set : D → Env → Option Env) (f : ME) : MS := fun env => (f env).bind fun r e => match r with
  | .val d => ofO ((set d e).map fun _ => Fl.nx) ((set d e).getD e)
  | _ => .bad
theorem s_asgT {set : D → Env → Option Env} {tg' : Expr} {gt : TG} {Tt : List Nat} (hg : TgOk C gt Tt set) (h : PS X (.Assign [tg'] e pos) (tAsg (rdE C E T f) gt)) : PS X (.Assign [tg'] e pos) (rdS C E (T ++ Tt) (msAsgT set f)) :=
  PS.wk h fun D σ H ⟨m, e1, e2, S, w⟩ => ⟨m, e1, e2, S, Want.imp w.bind fun r env w => fun v m' e3 e4 S' s ok => by
    cases r with
    | val d =>
      dsimp only at w
      cases hs : set d env with
      | none => rw [hs] at w; exact w.elim
      | some env' =>
        rw [hs] at w
        rw [← e4]
        exact hg m' d v env' D.nx S' ok (by rw [e3]; exact hs) fun m2 a1 a2 a3 a4 => w m2 a1 a3 (a4 _ _ s)
    | own o => exact w.elim
    | sl x => exact w.elim
    | bor x p o => exact w.elim⟩
def forL (set : D → Env → Option Env) (g : MS) : List D → Env → Rs Fl
  | [], e => .ok .nx e
  | d :: ds, e => match set d e with
    | none => .bad
    | some e1 => (g e1).bind fun fl e2 => match fl with
      | .brk => .ok .nx e2
      | .ret r => .ok (.ret r) e2
      | _ => forL set g ds e2
def Src.hot (s : Src) (T : List Nat) : Bool := match s.dep with
  | some x => T.contains x
  | none => false
def msFor (Tb : List Nat) (set : D → Env → Option Env) (fi : MI) (g : MS) : MS := fun env => (fi env).bind fun src e => if src.hot Tb then .bad else forL set g src.items e
theorem for_rd {set : D → Env → Option Env} {gt : TG} {Tt : List Nat} {fi : MI} {D : Ends} {σ : L2.St} {H : Hp} (hg : TgOk C gt Tt set) (h : rdS C E (T1 ++ (Tt ++ T2)) (msFor (Tt ++ T2) set fi g) D σ H) :
    tFor (rdI C E T1 fi) gt (rdS C E T2 g) D σ H := by
  obtain ⟨m, e1, e2, S, w⟩ := h
  refine ⟨m, e1, e2, S, Want.imp w.bind fun src env w => fun J m' e3 e4 S' s jok => ?_⟩
  by_cases hh : src.hot (Tt ++ T2) = true
  · rw [if_pos hh] at w; exact w.elim
  rw [if_neg hh] at w
  have hdep : ∀ x, src.dep = some x → x ∉ Tt ++ T2 := fun x hx => by
    intro z
    apply hh
    unfold Src.hot
    rw [hx]
    simpa using z
  subst e3
  refine ⟨fun i n σ' H' => n = src.items.length - i ∧ i ≤ src.items.length ∧ ∃ m2 : Mo, m2.H = H' ∧ m2.σ = σ' ∧ Sta C m2 ∧ Step (Tt ++ T2) m' m2 ∧
    Want C E m2 (forL set g (src.items.drop i) m2.env) fun fl env' => ∀ m3, m3.env = env' → Sta C m3 → Step (Tt ++ T2) m' m3 → FlOk C m3 D fl, ⟨_, rfl, Nat.zero_le _, m', rfl, e4, S', Step.refl _ _, ?_⟩, ?_⟩
  · rw [List.drop_zero]
    exact Want.mono w s fun fl env' w m3 a1 a2 a3 => w m3 a1 a2 (s.trans a3)
  · rintro i n σ' H' ⟨rfl, hi, m2, rfl, rfl, S2, s2, w2⟩
    obtain ⟨j1, j2⟩ := jok m2 (Tt ++ T2) S2 s2 rfl hdep i
    by_cases hlt : i < src.items.length
    · obtain ⟨go, yl⟩ := j1 src.items[i] (List.getElem?_eq_getElem hlt)
      rw [List.drop_eq_getElem_cons hlt] at w2
      unfold forL at w2
      refine .inr ⟨go, fun σ' H' => ∃ m3 : Mo, m3.H = H' ∧ m3.σ = σ' ∧ Sta C m3 ∧ Step (Tt ++ T2) m' m3 ∧
        Want C E m3 (forL set g (src.items.drop (i + 1)) m3.env) fun fl env' => ∀ m4, m4.env = env' → Sta C m4 → Step (Tt ++ T2) m' m4 → FlOk C m4 D fl, fun σ' H' q => ⟨_, by omega, rfl, hlt, q⟩, fun x H' y => ?_⟩
      obtain ⟨m3, rfl, G, rx⟩ := yl x H' y
      have s3 : Step (Tt ++ T2) m' m3 := step_nil S2 s2 G
      have S3 := S2.gro G
      cases hs : set src.items[i] m2.env with
      | none => rw [hs] at w2; exact w2.elim
      | some e1' =>
        rw [hs] at w2
        have w2 := Want.bind w2
        rw [← G.σ]
        refine hg m3 _ x e1' _ S3 rx (by rw [G.env]; exact hs) fun m4 a1 a2 a3 a4 => ?_
        have s4 : Step (Tt ++ T2) m' m4 := (a4 _ _ s3).wk (by simp +contextual [or_imp])
        have s24 : Step Tt m2 m4 := by have := a4 _ _ (G.step S2); simpa using this
        refine ⟨m4, rfl, rfl, a3, ?_⟩
        rw [a1]
        refine Want.mono w2 s24 fun fl env' w m5 b1 b2 b3 => ?_
        have s5 : Step (Tt ++ T2) m' m5 := (s4.trans b3).wk (by simp +contextual [or_imp])
        subst b1
        have s25 := s24.trans b3
        cases fl with
        | nx => exact ⟨m5, rfl, rfl, b2, s5, Want.mono w s25 fun _ _ w => w⟩
        | cont => exact ⟨m5, rfl, rfl, b2, s5, Want.mono w s25 fun _ _ w => w⟩
        | brk => exact w m5 rfl b2 s5
        | ret r => exact w m5 rfl b2 s5
    · have e : i = src.items.length := by omega
      subst e
      rw [List.drop_length] at w2
      exact .inl ⟨j2 rfl, w2 m2 rfl S2 s2⟩
theorem s_for {set : D → Env → Option Env} {gt : TG} {Tt : List Nat} {fi : MI} {body : List Stmt} (hp : PassesOwn (model X.prog X.w) X.A X.env X.xe) (hc : X.calm = true) (hg : TgOk C gt Tt set) (hi : PI X tg e (rdI C E T1 fi)) (ht : PG X tg gt) (hb : PSs X body (rdS C E T2 g))
    (hs : ∀ x, foldedSetIterable e X.env x = pure x := by intro _; rfl) : PS X (.For tg e body [] pos) (rdS C E (T1 ++ (Tt ++ T2)) (msFor (Tt ++ T2) set fi g)) :=
  PS.wk (ps_for hp hc hi ht hb hs) fun D σ H h => for_rd hg h
def whileN (t : MT) (g : MS) : Nat → Env → Rs Fl
  | 0, _ => .bad
  | n + 1, e => (t e).bind fun b e1 => if b = true then (g e1).bind fun fl e2 => match fl with
      | .brk => .ok .nx e2
      | .ret r => .ok (.ret r) e2
      | _ => whileN t g n e2 else .ok .nx e1
open Classical in
noncomputable def msWhile (t : MT) (g : MS) : MS := fun env => if h : ∃ n r, whileN t g n env = r ∧ r ≠ .bad then whileN t g (Classical.choose h) env else .bad
theorem while_rd {D : Ends} {σ : L2.St} {H : Hp} (h : rdS C E (T1 ++ T2) (msWhile t g) D σ H) : tWhile (rdT C E T1 t) (rdS C E T2 g) D σ H := by
  obtain ⟨m, e1, e2, S, w⟩ := h
  unfold msWhile at w
  by_cases hh : ∃ n r, whileN t g n m.env = r ∧ r ≠ .bad
  · rw [dif_pos hh] at w
    generalize Classical.choose hh = n0 at w
    refine ⟨fun n σ' H' => ∃ m2 : Mo, m2.H = H' ∧ m2.σ = σ' ∧ Sta C m2 ∧ Step (T1 ++ T2) m m2 ∧
      Want C E m2 (whileN t g n m2.env) fun fl env' => ∀ m3, m3.env = env' → Sta C m3 → Step (T1 ++ T2) m m3 → FlOk C m3 D fl, ⟨n0, m, e1, e2, S, Step.refl _ _, w⟩, ?_⟩
    rintro n σ' H' ⟨m2, rfl, rfl, S2, s2, w2⟩
    cases n with
    | zero => exact w2.elim
    | succ n =>
      unfold whileN at w2
      refine ⟨m2, rfl, rfl, S2, Want.imp w2.bind fun b env w m3 a1 a2 a3 a4 => ?_⟩
      have s3 : Step (T1 ++ T2) m m3 := (s2.trans a4).wk (by simp +contextual [or_imp])
      subst a1
      cases b with
      | true =>
        dsimp only
        rw [if_pos rfl] at w ⊢
        refine ⟨fun σ' H' => ∃ m2 : Mo, m2.H = H' ∧ m2.σ = σ' ∧ Sta C m2 ∧ Step (T1 ++ T2) m m2 ∧
          Want C E m2 (whileN t g n m2.env) fun fl env' => ∀ m3, m3.env = env' → Sta C m3 → Step (T1 ++ T2) m m3 → FlOk C m3 D fl, fun σ' H' q => ⟨n, by omega, q⟩, m3, rfl, a2, a3, ?_⟩
        refine Want.mono w.bind a4 fun fl env' w m4 b1 b2 b3 => ?_
        subst b1
        have s4 : Step (T1 ++ T2) m m4 := (s3.trans b3).wk (by simp +contextual [or_imp])
        have s24 := a4.trans b3
        cases fl with
        | nx => exact ⟨m4, rfl, rfl, b2, s4, Want.mono w s24 fun _ _ w => w⟩
        | cont => exact ⟨m4, rfl, rfl, b2, s4, Want.mono w s24 fun _ _ w => w⟩
        | brk => exact w m4 rfl b2 s4
        | ret r => exact w m4 rfl b2 s4
      | false =>
        dsimp only
        rw [if_neg Bool.false_ne_true] at w ⊢
        have := w m3 rfl a3 s3
        rw [← a2]; exact this
  · rw [dif_neg hh] at w; exact w.elim
theorem s_while {c : Expr} {body : List Stmt} (hp : PassesOwn (model X.prog X.w) X.A X.env X.xe) (hc : PT X c (rdT C E T1 t)) (hb : PSs X body (rdS C E T2 g)) : PS X (.While c body [] pos) (rdS C E (T1 ++ T2) (msWhile t g)) :=
  PS.wk (ps_while hp hc hb) fun D σ H h => while_rd h
theorem whileN_more {n : Nat} : ∀ {e : Env}, whileN t g n e ≠ .bad → whileN t g (n + 1) e = whileN t g n e := by
  induction n with
  | zero => intro e h; exact absurd rfl h
  | succ n ih =>
    intro e h
    unfold whileN at h
    show (t e).bind _ = _
    conv => rhs; unfold whileN
    cases q : t e with
    | bad => rfl
    | exc c ds e => rfl
    | ok b e1 =>
      rw [q] at h
      have h : (if b = true then (g e1).bind fun fl e2 => match fl with | .brk => .ok .nx e2 | .ret r => .ok (.ret r) e2 | _ => whileN t g n e2 else Rs.ok Fl.nx e1) ≠ .bad := h
      show (if b = true then (g e1).bind fun fl e2 => match fl with | .brk => .ok .nx e2 | .ret r => .ok (.ret r) e2 | _ => whileN t g (n + 1) e2 else Rs.ok Fl.nx e1) = if b = true then (g e1).bind fun fl e2 => match fl with | .brk => .ok .nx e2 | .ret r => .ok (.ret r) e2 | _ => whileN t g n e2 else Rs.ok Fl.nx e1
      cases b with
      | false => rfl
      | true =>
        rw [if_pos rfl] at h ⊢
        rw [if_pos rfl]
        cases q2 : g e1 with
        | bad => rfl
        | exc c ds e => rfl
        | ok fl e2 =>
          rw [q2] at h
          cases fl with
          | nx => exact ih h
          | cont => exact ih h
          | brk => rfl
          | ret r => rfl
theorem whileN_le {n k : Nat} {e : Env} (h : whileN t g n e ≠ .bad) : whileN t g (n + k) e = whileN t g n e := by
  induction k with
  | zero => rfl
  | succ k ih => rw [← Nat.add_assoc, whileN_more (by rw [ih]; exact h), ih]
theorem msWhile_is {n : Nat} {e : Env} {r : Rs Fl} (h : whileN t g n e = r) (hr : r ≠ .bad) : msWhile t g e = r := by
  unfold msWhile
  have hh : ∃ n r, whileN t g n e = r ∧ r ≠ .bad := ⟨n, r, h, hr⟩
  rw [dif_pos hh]
  obtain ⟨r', q1, q2⟩ := Classical.choose_spec hh
  have a := whileN_le (k := n) (show whileN t g (Classical.choose hh) e ≠ .bad by rw [q1]; exact q2)
  have b := whileN_le (k := Classical.choose hh) (show whileN t g n e ≠ .bad by rw [h]; exact hr)
  rw [Nat.add_comm] at a
  rw [← a, b, h]
end
end L3
namespace L3
open PySem L2

def setLk {α : Type} : List Str → List α → Str → α → List α
  | n :: ns, d :: ds, f, y => if n = f then y :: ds else d :: setLk ns ds f y
  | _, ds, _, _ => ds
def setLkK {α κ : Type} [DecidableEq κ] : List κ → List α → κ → α → List α
  | n :: ns, d :: ds, f, y => if n = f then y :: ds else d :: setLkK ns ds f y
  | _, ds, _, _ => ds
def setAt : List Stp → O → O → Option O
  | [], _, y => some y
  | .idx n :: p, .lst os, y => (os[n]?).bind fun o => (setAt p o y).map fun o' => .lst (os.set n o')
  | .attr f :: p, .ins c ns os, y => (lk ns os f).bind fun o => (setAt p o y).map fun o' => .ins c ns (setLk ns os f o')
  | .key k :: p, .dk ks os, y => (lkK ks os k).bind fun o => (setAt p o y).map fun o' => .dk ks (setLkK ks os k o')
  | _, _, _ => none
section
variable {K : PySem.W.Frag} {cl : Nat → Addr} {F F' H H' : Hp}
theorem RpOs.setI (eF : Ex F F') : ∀ {os : List O} {vs : List V} {fp : Fp} {n : Nat} {o : O} {v : V}, RpOs K cl F H os vs fp → os[n]? = some o → vs[n]? = some v → ∃ l g r, fp = l ++ g ++ r ∧ RpO K cl F H o v g ∧
    ∀ o' g', (∀ a ∈ l ++ r, H' a = H a) → RpO K cl F' H' o' v g' → RpOs K cl F' H' (os.set n o') vs (l ++ g' ++ r)
  | [], vs, fp, n, o, v, _, h, _ => by simp at h
  | o0 :: os, vs, fp, 0, o, v, r, h, h2 => by
    obtain ⟨v', vr, f, g, rfl, rfl, r1, r2⟩ := r
    simp at h h2
    subst h h2
    exact ⟨[], f, g, by simp, r1, fun o' g' k r' => ⟨v', vr, g', g, rfl, by simp, r', r2.mono eF _ _ _ (fun a ha => k a (by simp [ha]))⟩⟩
  | o0 :: os, vs, fp, n + 1, o, v, r, h, h2 => by
    obtain ⟨v', vr, f, g, rfl, rfl, r1, r2⟩ := r
    obtain ⟨l, g0, rr, e, r3, k⟩ := RpOs.setI eF r2 (by simpa using h) (by simpa using h2)
    subst e
    refine ⟨f ++ l, g0, rr, by simp, r3, fun o' g' q r' => ⟨v', vr, f, l ++ g' ++ rr, rfl, by simp, r1.mono eF _ _ _ (fun a ha => q a (by simp [ha])), k o' g' (fun a ha => q a (by
      rcases List.mem_append.mp ha with z | z
      · simp [z]
      · simp [z])) r'⟩⟩
theorem RpOs.setL (eF : Ex F F') : ∀ {ns : List Str} {os : List O} {vs : List V} {fp : Fp} {f : Str} {o : O} {v : V}, RpOs K cl F H os vs fp → lk ns os f = some o → lk ns vs f = some v → ∃ l g r, fp = l ++ g ++ r ∧ RpO K cl F H o v g ∧
    ∀ o' g', (∀ a ∈ l ++ r, H' a = H a) → RpO K cl F' H' o' v g' → RpOs K cl F' H' (setLk ns os f o') vs (l ++ g' ++ r)
  | [], os, vs, fp, f, o, v, _, h, _ => by simp [lk] at h
  | n :: ns, [], vs, fp, f, o, v, _, h, _ => by simp [lk] at h
  | n :: ns, o0 :: os, vs, fp, f, o, v, r, h, h2 => by
    obtain ⟨v', vr, f1, g, rfl, rfl, r1, r2⟩ := r
    unfold lk at h h2
    unfold setLk
    by_cases e : n = f
    · rw [if_pos e] at h h2
      cases h; cases h2
      simp only [if_pos e]
      exact ⟨[], f1, g, by simp, r1, fun o' g' k r' => ⟨_, vr, g', g, rfl, by simp, r', r2.mono eF _ _ _ (fun a ha => k a (by simp [ha]))⟩⟩
    · rw [if_neg e] at h h2
      simp only [if_neg e]
      obtain ⟨l, g0, rr, e, r3, k⟩ := RpOs.setL eF r2 h h2
      subst e
      refine ⟨f1 ++ l, g0, rr, by simp, r3, fun o' g' q r' => ⟨v', vr, f1, l ++ g' ++ rr, rfl, by simp, r1.mono eF _ _ _ (fun a ha => q a (by simp [ha])), k o' g' (fun a ha => q a (by
        rcases List.mem_append.mp ha with z | z
        · simp [z]
        · simp [z])) r'⟩⟩
theorem RpOs.setK {κ : Type} [DecidableEq κ] (eF : Ex F F') : ∀ {ns : List κ} {os : List O} {vs : List V} {fp : Fp} {f : κ} {o : O} {v : V}, RpOs K cl F H os vs fp → lkK ns os f = some o → lkK ns vs f = some v → ∃ l g r, fp = l ++ g ++ r ∧ RpO K cl F H o v g ∧
    ∀ o' g', (∀ a ∈ l ++ r, H' a = H a) → RpO K cl F' H' o' v g' → RpOs K cl F' H' (setLkK ns os f o') vs (l ++ g' ++ r)
  | [], os, vs, fp, f, o, v, _, h, _ => by simp [lkK] at h
  | n :: ns, [], vs, fp, f, o, v, _, h, _ => by simp [lkK] at h
  | n :: ns, o0 :: os, vs, fp, f, o, v, r, h, h2 => by
    obtain ⟨v', vr, f1, g, rfl, rfl, r1, r2⟩ := r
    unfold lkK at h h2
    unfold setLkK
    by_cases e : n = f
    · rw [if_pos e] at h h2
      cases h; cases h2
      simp only [if_pos e]
      exact ⟨[], f1, g, by simp, r1, fun o' g' k r' => ⟨_, vr, g', g, rfl, by simp, r', r2.mono eF _ _ _ (fun a ha => k a (by simp [ha]))⟩⟩
    · rw [if_neg e] at h h2
      simp only [if_neg e]
      obtain ⟨l, g0, rr, e, r3, k⟩ := RpOs.setK eF r2 h h2
      subst e
      refine ⟨f1 ++ l, g0, rr, by simp, r3, fun o' g' q r' => ⟨v', vr, f1, l ++ g' ++ rr, rfl, by simp, r1.mono eF _ _ _ (fun a ha => q a (by simp [ha])), k o' g' (fun a ha => q a (by
        rcases List.mem_append.mp ha with z | z
        · simp [z]
        · simp [z])) r'⟩⟩
theorem At.set (eF : Ex F F') : ∀ {p : List Stp} {d0 : O} {v0 : V} {f0 : Fp} {d : O} {v : V}, RpO K cl F H d0 v0 f0 → At cl H p d0 v0 d v → ∃ l g r, f0 = l ++ g ++ r ∧ RpO K cl F H d v g ∧
    ∀ d' g', (∀ a ∈ l ++ r, H' a = H a) → RpO K cl F' H' d' v g' → ∃ d0', setAt p d0 d' = some d0' ∧ RpO K cl F' H' d0' v0 (l ++ g' ++ r)
  | [], d0, v0, f0, d, v, r, h => by
    obtain ⟨rfl, rfl⟩ := h
    exact ⟨[], f0, [], by simp, r, fun d' g' _ r' => ⟨d', rfl, by simpa using r'⟩⟩
  | s :: p, d0, v0, f0, d, v, r, h => by
    obtain ⟨a, d1, v1, rfl, q, h⟩ := h
    cases q with
    | @idx n ds _ xs _ _ q e1 e2 =>
      obtain ⟨a', xs', f, e, rfl, q', rl⟩ := r
      cases e
      rw [q] at q'
      cases q'
      obtain ⟨l1, g1, r1, e3, r2, k1⟩ := RpOs.setI (H' := H') eF rl e1 e2
      subst e3
      obtain ⟨l2, g2, r3, e4, r4, k2⟩ := At.set eF r2 h
      subst e4
      refine ⟨a :: (l1 ++ l2), g2, r3 ++ r1, by simp, r4, fun d' g' k r' => ?_⟩
      obtain ⟨d0', s1, s2⟩ := k2 d' g' (fun b hb => k b (by rcases List.mem_append.mp hb with z | z <;> simp [z])) r'
      refine ⟨.lst (ds.set n d0'), by unfold setAt; rw [e1, Option.bind_some, s1]; rfl, a, xs, l1 ++ (l2 ++ g' ++ r3) ++ r1, rfl, by simp, (k a (by simp)).trans q, ?_⟩
      have := k1 d0' _ (fun b hb => k b (by rcases List.mem_append.mp hb with z | z <;> simp [z])) s2
      simpa using this
    | @attr fn c ns ds _ dx xs _ _ q e1 e2 l =>
      obtain ⟨a', dx', xs', f, e, rfl, q', l', rl⟩ := r
      cases e
      rw [q] at q'
      have q'' := Option.some.inj q'
      injection q'' with _ _ q''
      obtain rfl := zip_inj l l' q''
      obtain ⟨l1, g1, r1, e3, r2, k1⟩ := RpOs.setL (H' := H') eF rl e1 e2
      subst e3
      obtain ⟨l2, g2, r3, e4, r4, k2⟩ := At.set eF r2 h
      subst e4
      refine ⟨a :: (l1 ++ l2), g2, r3 ++ r1, by simp, r4, fun d' g' k r' => ?_⟩
      obtain ⟨d0', s1, s2⟩ := k2 d' g' (fun b hb => k b (by rcases List.mem_append.mp hb with z | z <;> simp [z])) r'
      refine ⟨.ins c ns (setLk ns ds fn d0'), by unfold setAt; rw [e1, Option.bind_some, s1]; rfl, a, dx, xs, l1 ++ (l2 ++ g' ++ r3) ++ r1, rfl, by simp, (k a (by simp)).trans q, l, ?_⟩
      have := k1 d0' _ (fun b hb => k b (by rcases List.mem_append.mp hb with z | z <;> simp [z])) s2
      simpa using this
    | @key fn ns ds _ xs _ _ q e1 e2 l =>
      obtain ⟨a', xs', f, e, rfl, q', l', rl⟩ := r
      cases e
      rw [q] at q'
      have q'' := Option.some.inj q'
      injection q'' with q''
      obtain rfl := zip_inj l l' q''
      obtain ⟨l1, g1, r1, e3, r2, k1⟩ := RpOs.setK (H' := H') eF rl e1 e2
      subst e3
      obtain ⟨l2, g2, r3, e4, r4, k2⟩ := At.set eF r2 h
      subst e4
      refine ⟨a :: (l1 ++ l2), g2, r3 ++ r1, by simp, r4, fun d' g' k r' => ?_⟩
      obtain ⟨d0', s1, s2⟩ := k2 d' g' (fun b hb => k b (by rcases List.mem_append.mp hb with z | z <;> simp [z])) r'
      refine ⟨.dk ns (setLkK ns ds fn d0'), by unfold setAt; rw [e1, Option.bind_some, s1]; rfl, a, xs, l1 ++ (l2 ++ g' ++ r3) ++ r1, rfl, by simp, (k a (by simp)).trans q, l, ?_⟩
      have := k1 d0' _ (fun b hb => k b (by rcases List.mem_append.mp hb with z | z <;> simp [z])) s2
      simpa using this
end
def poke (x : Nat) (p : List Stp) (o' : O) (env : Env) : Option Env := match env[x]? with
  | some (some o0) => (setAt p o0 o').map fun o0' => env.set x (some o0')
  | _ => none
theorem poke_ok {C : Cn} {T : List Nat} {m0 m : Mo} {x : Nat} {p : List Stp} {o o' : O} {a : Addr} {ho : HO} {av : Addr → Prop} (s : Step T m0 m) (S : Sta C m) (ok : RtOk C m av (.bor x p o) (.ref a))
    (h : ∀ f, RpO C.K C.cl m.F m.H o (.ref a) (a :: f) → a ∉ f → (a :: f).Nodup → (∀ b ∈ a :: f, b ∈ m.fps.flatten) → ∃ f', RpO C.K C.cl m.F (upd m.H a ho) o' (.ref a) (a :: f') ∧ (a :: f').Nodup ∧
      ∀ b ∈ f', b ∈ f ∨ (b ∉ m.fps.flatten ∧ m.F b = none ∧ (m0.H b = none ∨ b ∈ m0.fps.flatten) ∧ (C.H0 b = none ∨ b ∈ C.io)))
    (hn : ∃ f, RpO C.K C.cl m.F m.H o (.ref a) (a :: f)) :
    ∃ env', poke x p o' m.env = some env' ∧ ∃ m', m'.env = env' ∧ m'.F = m.F ∧ m'.H = upd m.H a ho ∧ m'.σ = m.σ ∧ Sta C m' ∧ Step (T ++ [x]) m0 m' ∧ ∀ b, b ∈ m'.fps.flatten → b ∈ m.fps.flatten ∨ (m.F b = none ∧ (m0.H b = none ∨ b ∈ m0.fps.flatten)) := by
  obtain ⟨o0, v0, e1, e2, e3⟩ := ok
  obtain ⟨v1, f0, s1, s2, s3⟩ := S.slot e1
  rw [e2] at s1; cases s1
  obtain ⟨l, g, r, ef, rg, k⟩ := At.set (H' := upd m.H a ho) (Ex.refl m.F) s3 e3
  obtain ⟨fq, hq⟩ := hn
  have uniq : ∃ f, g = a :: f := by
    cases o with
    | s d => obtain ⟨e, _⟩ := hq; cases e
    | lst os => obtain ⟨b, xs, f, e, rfl, _⟩ := rg; cases e; exact ⟨f, rfl⟩
    | dk ks os => obtain ⟨b, xs, f, e, rfl, _⟩ := rg; cases e; exact ⟨f, rfl⟩
    | dt ks os => obtain ⟨b, xs, f, e, rfl, _⟩ := rg; cases e; exact ⟨f, rfl⟩
    | ins c ns os => obtain ⟨b, dx, xs, f, e, rfl, _⟩ := rg; cases e; exact ⟨f, rfl⟩
  obtain ⟨f, rfl⟩ := uniq
  have nd := S.nd x f0 s2
  rw [ef] at nd
  have nd2 : (l ++ ((a :: f) ++ r)).Nodup := by simpa using nd
  rw [List.nodup_append] at nd2
  obtain ⟨nl, nfr, dl⟩ := nd2
  rw [List.nodup_append] at nfr
  obtain ⟨nf, nr, dr⟩ := nfr
  have inx : ∀ b ∈ l ++ (a :: f) ++ r, b ∈ m.fps.flatten := fun b hb => mem_fps s2 (by rw [ef]; exact hb)
  obtain ⟨f', q1, q2, q3⟩ := h f rg (List.nodup_cons.mp nf).1 nf (fun b hb => inx b (by simp at hb ⊢; rcases hb with z | z <;> simp [z]))
  have al : a ∉ l := fun z => dl a z a (by simp) rfl
  have ar : a ∉ r := fun z => dr a (by simp) a z rfl
  obtain ⟨d0', t1, t2⟩ := k o' (a :: f') (fun b hb => upd_ne (fun z => by
    subst z
    rcases List.mem_append.mp hb with y | y
    · exact al y
    · exact ar y)) q1
  have hold : ∀ b ∈ f', b ∉ l ∧ b ∉ r := fun b hb => by
    rcases q3 b hb with z | z
    · exact ⟨fun y => dl b y b (by simp [z]) rfl, fun y => dr b (by simp [z]) b y rfl⟩
    · exact ⟨fun y => z.1 (inx b (by simp [y])), fun y => z.1 (inx b (by simp [y]))⟩
  have nd' : (l ++ (a :: f') ++ r).Nodup := by
    have : (l ++ ((a :: f') ++ r)).Nodup := by
      rw [List.nodup_append]
      refine ⟨nl, ?_, fun b hb c hc e => ?_⟩
      · rw [List.nodup_append]
        refine ⟨q2, nr, fun b hb c hc e => ?_⟩
        subst e
        rcases List.mem_cons.mp hb with z | z
        · subst z; exact ar hc
        · exact (hold b z).2 hc
      · subst e
        rcases List.mem_append.mp hc with z | z
        · rcases List.mem_cons.mp z with y | y
          · subst y; exact al hb
          · exact (hold b y).1 hb
        · exact dl b hb b (by simp [z]) rfl
    simpa using this
  have hHa : m.H a ≠ none := S.inH a (inx a (by simp))
  obtain ⟨S2, s4⟩ := put (i := x) (o' := d0') (v' := v0) (fp' := l ++ (a :: f') ++ r) (F' := m.F) (H' := upd m.H a ho) s S s2 (Ex.refl _)
    (fun b u hb => by
      have : b ≠ a := fun z => by subst z; rw [S.df b (inx b (by simp))] at hb; cases hb
      rw [upd_ne this]; exact S.ex b u hb)
    (fun b u hb n => by rw [upd_ne (fun z => n (by rw [ef, z]; simp))]; exact hb)
    (fun b hb => by
      by_cases z : b = a
      · subst z; rw [upd_same]; simp
      · rw [upd_ne z]; exact hb)
    (fun b h n => absurd n h) t2 nd'
    (fun b hb => by
      simp only [List.mem_append, List.mem_cons] at hb
      rcases hb with (z | z | z) | z
      · exact S.df b (inx b (by simp [z]))
      · subst z; exact S.df b (inx b (by simp))
      · rcases q3 b z with y | y
        · exact S.df b (inx b (by simp [y]))
        · exact y.2.1
      · exact S.df b (inx b (by simp [z])))
    (fun b hb => by
      simp only [List.mem_append, List.mem_cons] at hb
      rcases hb with (z | z | z) | z
      · exact .inr (.inl (by rw [ef]; simp [z]))
      · exact .inr (.inl (by rw [ef]; simp [z]))
      · rcases q3 b z with y | y
        · exact .inr (.inl (by rw [ef]; simp [y]))
        · exact .inr (.inr ⟨fun j f e z => y.1 (mem_fps e z), y.2.2⟩)
      · exact .inr (.inl (by rw [ef]; simp [z])))
    (fun _ => e2)
  refine ⟨m.env.set x (some d0'), by unfold poke; rw [e1]; dsimp only; rw [t1]; rfl, m.put m.F (upd m.H a ho) x d0' v0 (l ++ a :: f' ++ r), rfl, rfl, rfl, set_same e2, S2, s4, fun b hb => ?_⟩
  rcases mem_flat_set hb with z | ⟨j, f, _, e, z⟩
  · simp only [List.mem_append, List.mem_cons] at z
    rcases z with (z | z | z) | z
    · exact .inl (inx b (by simp [z]))
    · exact .inl (inx b (by simp [z]))
    · rcases q3 b z with y | y
      · exact .inl (inx b (by simp [y]))
      · exact .inr ⟨y.2.1, y.2.2.1⟩
    · exact .inl (inx b (by simp [z]))
  · exact .inl (mem_fps e z)

section
variable {X : Cx} {C : Cn} {E : WX} {e a b : Expr} {pos : Pos} {T T1 T2 T3 : List Nat} {fs : MA} {es : List Expr} {f f1 f2 : ME} {g : MS}
def rdA1 (C : Cn) (E : WX) (T : List Nat) (f : ME) : TA := fun σ H Q => rdE C E T f σ H fun v H1 => Q [v] H1
theorem a_one (h : PE X e (rdE C E T f)) (hst : starEach [e] X.env = (false, eval e X.env) :: starEach [] X.env := by rfl) : PA X [e] (rdA1 C E T f) := PA.wk (pa_cons h pa_nil hst) fun σ H Q h => h
theorem new_o {m0 m : Mo} {r : Rt} {o : O} {v : V} (S : Sta C m) (ok : RtOk C m (Old m0) r v) (h : r.o = some o) : ∃ fp, RpO C.K C.cl m.F m.H o v fp ∧ fp.Nodup ∧ ∀ b ∈ fp, b ∉ m.fps.flatten ∧ m.F b = none ∧ (m0.H b = none ∨ b ∈ m0.fps.flatten) ∧ (C.H0 b = none ∨ b ∈ C.io) := by
  cases r with
  | val d => cases h; exact ⟨[], ⟨rfl, ok⟩, List.nodup_nil, fun b hb => by simp at hb⟩
  | own o' =>
    cases h
    obtain ⟨fp, r, nd, k⟩ := ok
    refine ⟨fp, r, nd, fun b hb => ?_⟩
    obtain ⟨k1, k2, k3, k4⟩ := k b hb
    refine ⟨k2, k1, ?_, k3⟩
    by_cases y : m0.H b = none
    · exact .inl y
    · exact .inr (Classical.byContradiction fun w => k4 ⟨y, w⟩)
  | bor x p o' => cases h
  | sl x => cases h
theorem RpO.upd {K : PySem.W.Frag} {cl : Nat → Addr} {F H : Hp} {a : Addr} {ho : HO} {o : O} {v : V} {fp : Fp} (h : RpO K cl F H o v fp) (n : a ∉ fp) : RpO K cl F (L2.upd H a ho) o v fp := h.mono (Ex.refl _) o v fp fun b hb => upd_ne (fun z => n (by rw [← z]; exact hb))
theorem RpOs.upd {K : PySem.W.Frag} {cl : Nat → Addr} {F H : Hp} {a : Addr} {ho : HO} {o : List O} {v : List V} {fp : Fp} (h : RpOs K cl F H o v fp) (n : a ∉ fp) : RpOs K cl F (L2.upd H a ho) o v fp := h.mono (Ex.refl _) o v fp fun b hb => upd_ne (fun z => n (by rw [← z]; exact hb))
def mAppend (Tx T2 : List Nat) (f f2 : ME) : ME := fun env => (f env).bind fun r e1 => match r with
  | .bor x p (.lst os) => if x ∈ T2 then .bad else (f2 e1).bind fun y e2 => match y.o with
    | some oy => if os.length < 16777216 ∧ x ∈ Tx then (match poke x p (.lst (os ++ [oy])) e2 with
      | some e3 => .ok (.val .non) e3
      | none => .bad) else .bad
    | none => .bad
  | _ => .bad
theorem e_append (Tx : List Nat) (hK : X.K = C.K) (h : PE X e (tBM X.K "list" rAppend (rdE C E T1 f1) (rdA1 C E T2 f2))) : PE X e (rdE C E (T1 ++ (T2 ++ Tx)) (mAppend Tx T2 f1 f2)) :=
  PE.wk h fun σ H Q ⟨m, e1, e2, S, w⟩ => ⟨m, e1, e2, S, Want.imp w.bind fun r env w => fun v m' e3 e4 S' s ok => by
    subst e3
    split at w
    · rename_i x p os
      by_cases hh : x ∈ T2
      · rw [if_pos hh] at w; exact w.elim
      rw [if_neg hh] at w
      obtain ⟨f0, a, xs, fl, rfl, rfl, hl, rr⟩ := ok.bor S'
      rw [hK]
      refine ⟨.inl ⟨rfl, xs, .inl (.inl hl)⟩, m', rfl, e4, S', Want.mono w.bind s fun y env2 w vy m2 a1 a2 S2 s2 ok2 => ?_⟩
      subst a1
      have ok' := ok.step S' s2 (by simpa [Rt.hot] using hh) (a2.trans e4.symm)
      obtain ⟨f2, a', xs', fl2, e, rfl, hl2, rr2⟩ := ok'.bor S2
      cases e
      cases ho : y.o with
      | none => rw [ho] at w; exact w.elim
      | some oy =>
        rw [ho] at w
        dsimp only at w
        by_cases hz : os.length < 16777216 ∧ x ∈ Tx
        · rw [if_pos hz] at w
          obtain ⟨fy, ry, ny, ky⟩ := new_o S2 (old_step s ok2) ho
          obtain ⟨env', hp, m3, b1, b2, b3, b4, S3, s3, b5⟩ := poke_ok (ho := .lst (xs' ++ [vy])) (o' := .lst (os ++ [oy])) (s.trans s2) S2 ok' (fun fr hr na nd inx => by
            obtain ⟨a2, xs2, f4, e, e', hl4, rr4⟩ := hr
            cases e; cases e'
            rw [hl2] at hl4; cases hl4
            have nay : a ∉ fy := fun z => (ky a z).1 (inx a (by simp))
            refine ⟨fr ++ fy, ⟨a, _, _, rfl, rfl, upd_same, (rr4.upd na).append ⟨vy, [], fy, [], rfl, by simp, ry.upd nay, rfl, rfl⟩⟩, ?_, fun b hb => ?_⟩
            · rw [List.nodup_cons] at nd ⊢
              refine ⟨fun z => ?_, ?_⟩
              · rcases List.mem_append.mp z with y | y
                · exact nd.1 y
                · exact nay y
              · rw [List.nodup_append]
                refine ⟨nd.2, ny, fun b hb c hc e => ?_⟩
                subst e
                exact (ky b hc).1 (inx b (by simp [hb]))
            · rcases List.mem_append.mp hb with y | y
              · exact .inl y
              · exact .inr (ky b y)) ⟨fl2, a, xs', fl2, rfl, rfl, hl2, rr2⟩
          rw [hp] at w
          refine ⟨a, xs', vy, rfl, rfl, hl2, by rw [rr2.length, sizeLine_is]; exact hz.1, ?_⟩
          have := w .non m3 b1 (b4.trans a2) S3 (s3.wk (fun i hi => by
            simp only [List.mem_append] at hi ⊢
            rcases hi with (z | z) | z
            · exact .inl z
            · exact .inr (.inl z)
            · have : i = x := by simpa using z
              exact .inr (.inr (by rw [this]; exact hz.2)))) rfl
          rw [b3] at this
          exact this
        · rw [if_neg hz] at w; exact w.elim
    · exact w.elim⟩
end
end L3
namespace L3
open PySem L2 PySem.Spec PyProof.Rows
def tMethS (C : Addr) (m : Str) (sp : Sp) (W : L2.St → XK) (ta : TE) (t : TA) : TE := fun σ H Q => ta σ H fun x H1 => ∃ a dx fs, x = .ref a ∧ H1 a = some (.ins C dx fs) ∧ fs.lookup m = none ∧ t σ H1 fun vs H2 => sp (x :: vs) H2 Q (W σ)
def tMakeS (C : Addr) (sp : Sp) (W : L2.St → XK) (t : TA) : TE := fun σ H Q => t σ H fun vs H1 => ∀ x dx, H1 x = none → H1 dx = none → dx ≠ x → sp (.ref x :: vs) (upd (upd H1 dx (.own x)) x (.ins C dx [])) (fun v H2 => v = .non ∧ Q (.ref x) H2) (W σ)
section
variable {X : Cx} {CT : CXT} {k : Nat} {f C : Addr} {fd : FuncData} {ps : List Str} {sp : Sp} {W : L2.St → XK} {x m : Str} {p pos apos : Pos} {e o : Expr} {es : List Expr} {ta : TE} {t : TA}
theorem run_makeS {pn : List (Addr × Obj)} {st : L2.St} {hp : Hp} {s0 : Shared} {R : VK} {us : List Value} {vs : List V} (M : Mk X.K C f) (F : FnOk X.prog X.w X.K X.mg X.base CT k f fd ps sp) (hr : Room (k + 1) X.A) (hb : Binds X.K fd ps [])
    (hx : PassesAt CT X st (W st)) (J : Inv X pn st hp s0) (r : Vals vs us) (g : ∀ x dx, hp x = none → hp dx = none → dx ≠ x → sp (.ref x :: vs) (upd (upd hp dx (.own x)) x (.ins C dx [])) (fun v H2 => v = .non ∧ R (.ref x) H2) (W st)) :
    wpAny (model X.prog X.w) X.A (call (.ref C) us) (EP X pn st R) X.xe s0 := by
  have w1 := g (s0.heap.objs.size + 1) s0.heap.objs.size (J.hok.fresh (Nat.le_succ _)) (J.hok.fresh (Nat.le_refl _)) (Nat.ne_of_lt (Nat.lt_succ_self _))
  have J1 := Inv.made (C := C) J
  have rr : Vals (V.ref (s0.heap.objs.size + 1) :: vs) (Value.ref (s0.heap.objs.size + 1) :: us) := .cons rfl r
  have ln : (Value.ref (s0.heap.objs.size + 1) :: us ++ []).length = ps.length := by
    rw [List.append_nil, ← rr.length]
    exact F.len _ _ _ _ w1
  have bd := hb { s0 with heap := (s0.heap.push _).push _ } (Value.ref (s0.heap.objs.size + 1) :: us) J1.kIn ln
  rw [List.append_nil] at bd
  refine wpAny_call (make_map (f := f) J.kIn M.makes M.init (beq_iff_eq.mp M.fn) (codeAny_mono (F.run _ X.stack _ _ ⟨Value.ref (s0.heap.objs.size + 1) :: us, []⟩ _ _ _ (W st) (hr.make C us []) (J1.env0.make C us []) bd rr w1) fun rs s2 hq2 => ?_))
  cases rs with
  | error er => exact hx pn _ _ er s2 J1 hq2
  | ok fl =>
    cases fl with
    | ret u =>
      obtain ⟨v, H2, J2, rv, ev, q4⟩ := J1.after hq2
      subst ev
      exact ⟨rv, V.ref (s0.heap.objs.size + 1), H2, J2, rfl, q4⟩
    | next => exact hq2.elim
    | brk => exact hq2.elim
    | cont => exact hq2.elim
theorem pe_makeS (M : Mk X.K C f) (F : FnOk X.prog X.w X.K X.mg X.base CT k f fd ps sp) (hr : Room (k + 1) X.A) (hg : Gl X x) (hm : X.mg x = some (.ref C)) (hb : Binds X.K fd ps []) (hx : ∀ st, PassesAt CT X st (W st)) (ha : PA X (e :: es) t)
    (hdb : (x == ("__debug__" : Str)) = false := by decide) (he : starEach (e :: es) X.env = (false, eval e X.env) :: starEach es X.env := by rfl) (hpl : ((backTo pos (starEach es X.env)).any fun z => z.1) = false := by rfl) :
    PE X (.Call (.Name x p) (e :: es) [] pos) (tMakeS C sp W t) :=
  ⟨fun pn s0 st hp R J g => wpAny_Call_Name_kw (ld_glob J hg hm (PySem.W.callWith_K (h₀ := X.base) J.ok.mod.kin M.kp (thn (ha.run pos pn s0 st hp _ J g) fun us s2 ⟨vs, H2, J2, r, q⟩ => ⟨J2.kIn, run_makeS M F hr hb (hx st) J2 r q⟩) he hpl) hdb)⟩
theorem pe_makeS0 (M : Mk X.K C f) (F : FnOk X.prog X.w X.K X.mg X.base CT k f fd ps sp) (hr : Room (k + 1) X.A) (hg : Gl X x) (hm : X.mg x = some (.ref C)) (hb : Binds X.K fd ps []) (hx : ∀ st, PassesAt CT X st (W st))
    (hdb : (x == ("__debug__" : Str)) = false := by decide) : PE X (.Call (.Name x p) [] [] pos) (tMakeS C sp W tNil) :=
  ⟨fun pn s0 st hp R J g => wpAny_Call_Name_kw (ld_glob J hg hm (PySem.W.callWith_K0 J.kIn M.kp (run_makeS (us := []) M F hr hb (hx st) J .nil g)) hdb)⟩
theorem pe_callS0 (F : FnOk X.prog X.w X.K X.mg X.base CT k f fd ps sp) (hr : Room k X.A) (hg : Gl X x) (hm : X.mg x = some (.ref f)) (hk : PySem.W.keepIn X.K (.ref f) = true) (hb : Binds X.K fd ps []) (hx : ∀ st, PassesAt CT X st (W st))
    (hdb : (x == ("__debug__" : Str)) = false := by decide) : PE X (.Call (.Name x p) [] [] pos) (tCallS sp W tNil) :=
  ⟨fun pn s0 st hp R J g => wpAny_Call_Name_kw (ld_glob J hg hm (PySem.W.callWith_K0 J.kIn hk (run_fnS (us := []) F hr hb (hx st) J .nil g)) hdb)⟩
theorem pe_methS {pl : Sem Bool} (he : PE X o ta) (c : Cls X.K C) (hm : Meth X.K C m f) (F : FnOk X.prog X.w X.K X.mg X.base CT k f fd ps sp) (hr : Room k X.A) (hb : Binds X.K fd ps []) (hx : ∀ st, PassesAt CT X st (W st)) (ha : PA X (e :: es) t)
    (hst : starEach (e :: es) X.env = (false, eval e X.env) :: starEach es X.env := by rfl) (hpl : ((backTo pos (starEach es X.env)).any fun z => z.1) = false := by rfl)
    (ht : eval (.Call (.Attribute o m apos) (e :: es) [] pos) X.env = (do
      let u0 ← eval o X.env
      standAt apos.atName
      let (fu, fi) ← holding [u0] (getMethod u0 m pl)
      callWith pos fu fi (backTo pos (starEach (e :: es) X.env)) (backToKw pos (keywordEach [] X.env))) := by rfl) :
    PE X (.Call (.Attribute o m apos) (e :: es) [] pos) (tMethS C m sp W ta t) := by
  refine ⟨fun pn s0 st hp R J g => PySem.W.methodCall_KW (pl := pl) (thn (he.run pn s0 st hp _ J g) fun u s2 ⟨x0, H1, J1, rx, a, dx, fs, ex, ea, l, q⟩ => ?_) ht⟩
  subst ex
  obtain rfl : u = Value.ref a := rx
  exact getmeth_ok J1 ea c hm l (PySem.W.callWith_K (first := [.ref a]) (h₀ := X.base) J.ok.mod.kin hm.kp (thn (ha.run pos pn s2 st H1 _ J1 q) fun us s3 ⟨vs, H2, J2, r, q2⟩ => ⟨J2.kIn, run_fnS (us := .ref a :: us) (vs := .ref a :: vs) F hr hb (hx st) J2 (.cons rfl r) q2⟩) hst hpl)
theorem pe_methS0 {pl : Sem Bool} (he : PE X o ta) (c : Cls X.K C) (hm : Meth X.K C m f) (F : FnOk X.prog X.w X.K X.mg X.base CT k f fd ps sp) (hr : Room k X.A) (hb : Binds X.K fd ps []) (hx : ∀ st, PassesAt CT X st (W st))
    (ht : eval (.Call (.Attribute o m apos) [] [] pos) X.env = (do
      let u0 ← eval o X.env
      standAt apos.atName
      let (fu, fi) ← holding [u0] (getMethod u0 m pl)
      callWith pos fu fi (backTo pos (starEach [] X.env)) (backToKw pos (keywordEach [] X.env))) := by rfl) :
    PE X (.Call (.Attribute o m apos) [] [] pos) (tMethS C m sp W ta tNil) := by
  refine ⟨fun pn s0 st hp R J g => PySem.W.methodCall_KW (pl := pl) (thn (he.run pn s0 st hp _ J g) fun u s2 ⟨x0, H1, J1, rx, a, dx, fs, ex, ea, l, q⟩ => ?_) ht⟩
  subst ex
  obtain rfl : u = Value.ref a := rx
  exact getmeth_ok J1 ea c hm l (PySem.W.callWith_K0 (first := [.ref a]) J1.kIn hm.kp (run_fnS (us := [.ref a]) (vs := [.ref a]) F hr hb (hx st) J1 (.cons rfl .nil) q))
end
end L3
namespace L3
open PySem L2

theorem poke_put {C : Cn} {T : List Nat} {m0 m : Mo} {x : Nat} {p : List Stp} {o o' oy : O} {a : Addr} {ho : HO} {vy : V} {fy : Fp} {av : Addr → Prop} (s : Step T m0 m) (S : Sta C m) (ok : RtOk C m av (.bor x p o) (.ref a))
    (ry : RpO C.K C.cl m.F m.H oy vy fy) (ny : fy.Nodup) (ky : ∀ b ∈ fy, b ∉ m.fps.flatten ∧ m.F b = none ∧ (m0.H b = none ∨ b ∈ m0.fps.flatten) ∧ (C.H0 b = none ∨ b ∈ C.io))
    (h : ∀ f, RpO C.K C.cl m.F m.H o (.ref a) (a :: f) → ∃ l g r, f = l ++ g ++ r ∧ ∀ H', (∀ b ∈ l ++ r, H' b = m.H b) → H' a = some ho → RpO C.K C.cl m.F H' oy vy fy → RpO C.K C.cl m.F H' o' (.ref a) (a :: (l ++ fy ++ r)))
    (hn : ∃ f, RpO C.K C.cl m.F m.H o (.ref a) (a :: f)) :
    ∃ env', poke x p o' m.env = some env' ∧ ∃ m', m'.env = env' ∧ m'.F = m.F ∧ m'.H = upd m.H a ho ∧ m'.σ = m.σ ∧ Sta C m' ∧ Step (T ++ [x]) m0 m' ∧ ∀ b, b ∈ m'.fps.flatten → b ∈ m.fps.flatten ∨ (m.F b = none ∧ (m0.H b = none ∨ b ∈ m0.fps.flatten)) :=
  poke_ok s S ok (fun f hr na nd inx => by
    obtain ⟨l, g, r, rfl, k⟩ := h f hr
    have nay : a ∉ fy := fun z => (ky a z).1 (inx a (by simp))
    rw [List.nodup_cons] at nd
    have nd2 : (l ++ (g ++ r)).Nodup := by simpa using nd.2
    rw [List.nodup_append] at nd2
    obtain ⟨nl, ngr, dl⟩ := nd2
    rw [List.nodup_append] at ngr
    refine ⟨l ++ fy ++ r, k _ (fun b hb => upd_ne fun z => na (by
      subst z
      simp only [List.mem_append] at hb ⊢
      rcases hb with z | z
      · exact .inl (.inl z)
      · exact .inr z)) upd_same (ry.upd nay), ?_, fun b hb => ?_⟩
    · rw [List.nodup_cons]
      refine ⟨fun z => ?_, ?_⟩
      · simp only [List.mem_append] at z
        rcases z with (z | z) | z
        · exact na (by simp [z])
        · exact nay z
        · exact na (by simp [z])
      · have : (l ++ (fy ++ r)).Nodup := by
          rw [List.nodup_append]
          refine ⟨nl, ?_, fun b hb c hc e => ?_⟩
          · rw [List.nodup_append]
            refine ⟨ny, ngr.2.1, fun b hb c hc e => ?_⟩
            subst e
            exact (ky b hb).1 (inx b (by simp [hc]))
          · subst e
            rcases List.mem_append.mp hc with z | z
            · exact (ky b z).1 (inx b (by simp [hb]))
            · exact dl b hb b (by simp [z]) rfl
        simpa using this
    · simp only [List.mem_append] at hb
      rcases hb with (z | z) | z
      · exact .inl (by simp [z])
      · exact .inr (ky b z)
      · exact .inl (by simp [z])) hn
section
variable {K : PySem.W.Frag} {cl : Nat → Addr} {F H : Hp}
theorem RpOs.setV : ∀ {os : List O} {vs : List V} {fp : Fp} {n : Nat}, RpOs K cl F H os vs fp → n < os.length → ∃ l g r, fp = l ++ g ++ r ∧ ∀ H' oy vy fy, (∀ b ∈ l ++ r, H' b = H b) → RpO K cl F H' oy vy fy → RpOs K cl F H' (os.set n oy) (vs.set n vy) (l ++ fy ++ r)
  | [], vs, fp, n, _, h => by simp at h
  | o :: os, vs, fp, 0, r, h => by
    obtain ⟨v, vr, f, g, rfl, rfl, r1, r2⟩ := r
    exact ⟨[], f, g, by simp, fun H' oy vy fy k r' => ⟨vy, vr, fy, g, rfl, by simp, r', r2.mono (Ex.refl _) _ _ _ (fun b hb => k b (by simp [hb]))⟩⟩
  | o :: os, vs, fp, n + 1, r, h => by
    obtain ⟨v, vr, f, g, rfl, rfl, r1, r2⟩ := r
    obtain ⟨l, g0, rr, e, k⟩ := RpOs.setV r2 (by simpa using h)
    subst e
    exact ⟨f ++ l, g0, rr, by simp, fun H' oy vy fy q r' => ⟨v, _, f, l ++ fy ++ rr, rfl, by simp, r1.mono (Ex.refl _) _ _ _ (fun b hb => q b (by simp [hb])), k H' oy vy fy (fun b hb => q b (by
      rcases List.mem_append.mp hb with z | z
      · simp [z]
      · simp [z])) r'⟩⟩
end
def putNs : List Str → Str → List Str
  | [], f => [f]
  | n :: ns, f => if n = f then n :: ns else n :: putNs ns f
def putL {α : Type} : List Str → List α → Str → α → List α
  | [], _, _, y => [y]
  | n :: ns, d :: ds, f, y => if n = f then y :: ds else d :: putL ns ds f y
  | _ :: _, [], _, y => [y]
theorem putF_zip {f : Str} {v : V} : ∀ {ns : List Str} {xs : List V}, ns.length = xs.length → putF f v (ns.zip xs) = (putNs ns f).zip (putL ns xs f v) ∧ (putNs ns f).length = (putL ns xs f v).length ∧ (putNs ns f).length ≤ ns.length + 1
  | [], [], _ => ⟨rfl, rfl, Nat.le_refl _⟩
  | [], x :: xs, h => by simp at h
  | n :: ns, [], h => by simp at h
  | n :: ns, x :: xs, h => by
    have h : ns.length = xs.length := by simpa using h
    obtain ⟨i1, i2, i3⟩ := putF_zip (f := f) (v := v) h
    show (if n = f then (n, v) :: ns.zip xs else (n, x) :: putF f v (ns.zip xs)) = _ ∧ _
    unfold putNs putL
    by_cases e : n = f
    · simp only [if_pos e]
      exact ⟨rfl, by simpa using h, by simp⟩
    · simp only [if_neg e]
      exact ⟨by rw [i1]; rfl, by simpa using i2, by simpa using i3⟩
theorem RpOs.putV {K : PySem.W.Frag} {cl : Nat → Addr} {F H : Hp} {n : Str} : ∀ {ns : List Str} {os : List O} {vs : List V} {fp : Fp}, RpOs K cl F H os vs fp → ns.length = os.length → ∃ l g r, fp = l ++ g ++ r ∧ ∀ H' oy vy fy, (∀ b ∈ l ++ r, H' b = H b) → RpO K cl F H' oy vy fy → RpOs K cl F H' (putL ns os n oy) (putL ns vs n vy) (l ++ fy ++ r)
  | [], [], vs, fp, r, _ => by
    obtain ⟨rfl, rfl⟩ := r
    exact ⟨[], [], [], rfl, fun H' oy vy fy k r' => ⟨vy, [], fy, [], rfl, by simp, r', rfl, rfl⟩⟩
  | [], o :: os, vs, fp, r, h => by simp at h
  | m :: ns, [], vs, fp, r, h => by simp at h
  | m :: ns, o :: os, vs, fp, r, h => by
    obtain ⟨v, vr, f, g, rfl, rfl, r1, r2⟩ := r
    by_cases e : m = n
    · refine ⟨[], f, g, by simp, fun H' oy vy fy k r' => ?_⟩
      unfold putL
      simp only [if_pos e]
      exact ⟨vy, vr, fy, g, rfl, by simp, r', r2.mono (Ex.refl _) _ _ _ (fun b hb => k b (by simp [hb]))⟩
    · obtain ⟨l, g0, rr, e2, k⟩ := RpOs.putV (n := n) r2 (by simpa using h)
      subst e2
      refine ⟨f ++ l, g0, rr, by simp, fun H' oy vy fy q r' => ?_⟩
      unfold putL
      simp only [if_neg e]
      exact ⟨v, _, f, l ++ fy ++ rr, rfl, by simp, r1.mono (Ex.refl _) _ _ _ (fun b hb => q b (by simp [hb])), k H' oy vy fy (fun b hb => q b (by
        rcases List.mem_append.mp hb with z | z
        · simp [z]
        · simp [z])) r'⟩
section
variable {X : Cx} {C : Cn} {E : WX} {e a b : Expr} {st : Stmt} {pos : Pos} {T T1 T2 T3 : List Nat} {fs : MA} {es : List Expr} {f f1 f2 f3 : ME} {g : MS}
theorem mem3 {T1 T2 T3 Tx : List Nat} {x : Nat} (hx : x ∈ Tx) : ∀ i ∈ T1 ++ (T2 ++ T3) ++ [x], i ∈ T1 ++ (T2 ++ (T3 ++ Tx)) := fun i hi => by
  simp only [List.mem_append] at hi ⊢
  rcases hi with (z | z | z) | z
  · exact .inl z
  · exact .inr (.inl z)
  · exact .inr (.inr (.inl z))
  · have : i = x := by simpa using z
    exact .inr (.inr (.inr (by rw [this]; exact hx)))
theorem Rt.o_hot {r : Rt} {o : O} (h : r.o = some o) (T : List Nat) : r.hot T = false := by
  cases r with
  | val d => rfl
  | own o' => rfl
  | bor x p o' => cases h
  | sl x => cases h
def msSetIx (Tx T2 T3 : List Nat) (fe fo fi : ME) : MS := fun env => (fe env).bind fun y e1 => match y.o with
  | some oy => (fo e1).bind fun r e2 => (match r with
    | .bor x p (.lst os) => if x ∈ T3 then .bad else (fi e2).bind fun ri e3 => (match ri with
      | .val (.int i) => (match ixN os.length i with
        | some j => if x ∈ Tx then (match poke x p (.lst (os.set j oy)) e3 with
          | some e4 => .ok .nx e4
          | none => .bad) else .bad
        | none => .bad)
      | _ => .bad)
    | _ => .bad)
  | none => .bad
theorem s_setIx (Tx : List Nat) {tg : Expr} (h : PS X (.Assign [tg] e pos) (tAsg (rdE C E T1 f1) (gSub (rdE C E T2 f2) (rdE C E T3 f3) rSetL))) : PS X (.Assign [tg] e pos) (rdS C E (T1 ++ (T2 ++ (T3 ++ Tx))) (msSetIx Tx T2 T3 f1 f2 f3)) :=
  PS.wk h fun D σ H ⟨m, e1, e2, S, w⟩ => ⟨m, e1, e2, S, Want.imp w.bind fun y env w => fun vy m1 e3 e4 S1 s1 oky => by
    subst e3
    cases ho : y.o with
    | none => rw [ho] at w; exact w.elim
    | some oy =>
      rw [ho] at w
      refine ⟨m1, rfl, e4, S1, Want.mono w.bind s1 fun r env2 w vr m2 a1 a2 S2 s2 okr => ?_⟩
      subst a1
      have oky2 := oky.step S1 s2 (Rt.o_hot ho _) (a2.trans e4.symm)
      split at w
      · rename_i x p os
        by_cases hh : x ∈ T3
        · rw [if_pos hh] at w; exact w.elim
        rw [if_neg hh] at w
        refine ⟨m2, rfl, a2, S2, Want.mono w.bind (s1.trans s2) fun ri env3 w vi m3 b1 b2 S3 s3 oki => ?_⟩
        subst b1
        split at w
        · rename_i i
          split at w
          · rename_i j hj
            by_cases hx : x ∈ Tx
            · rw [if_pos hx] at w
              have okr3 := okr.step S2 s3 (by simpa [Rt.hot] using hh) (b2.trans a2.symm)
              have oky3 := oky2.step S2 s3 (Rt.o_hot ho _) (b2.trans a2.symm)
              have s13 := s1.trans (s2.trans s3)
              obtain ⟨fy, ry, ny, ky⟩ := new_o S3 oky3 ho
              obtain ⟨f0, a, xs, fl, rfl, rfl, hl, rr⟩ := okr3.bor S3
              obtain ⟨env', hp, m4, c1, c2, c3, c4, S4, s4, c5⟩ := poke_put (ho := .lst (xs.set j vy)) (o' := .lst (os.set j oy)) s13 S3 okr3 ry ny ky (fun fr hr => by
                obtain ⟨a2, xs2, f4, e, e', hl4, rr4⟩ := hr
                cases e; cases e'
                rw [hl] at hl4; cases hl4
                obtain ⟨l, g0, r0, e5, k⟩ := rr4.setV (n := j) (ixN_seq hj).2.1
                exact ⟨l, g0, r0, e5, fun H' h1 h2 h3 => ⟨a, _, _, rfl, rfl, h2, k H' oy vy fy h1 h3⟩⟩) ⟨fl, a, xs, fl, rfl, rfl, hl, rr⟩
              rw [hp] at w
              refine ⟨a, xs, i, j, rfl, oki, hl, by rw [rr.length]; exact hj, ?_⟩
              have := w m4 c1 S4 (s4.wk (mem3 hx))
              have q : D.nx m4.σ m4.H := this
              rw [c3, c4, b2] at q
              exact q
            · rw [if_neg hx] at w; exact w.elim
          · exact w.elim
        · exact w.elim
      · exact w.elim⟩
def msSetAttr (Tx T2 : List Nat) (cs : List Nat) (n : Str) (fe fo : ME) : MS := fun env => (fe env).bind fun y e1 => match y.o with
  | some oy => (fo e1).bind fun r e2 => (match r with
    | .bor x p (.ins c ns os) => if c ∈ cs ∧ x ∈ Tx ∧ ns.length < 1000 ∧ ns.length = os.length then (match poke x p (.ins c (putNs ns n) (putL ns os n oy)) e2 with
      | some e4 => .ok .nx e4
      | none => .bad) else .bad
    | _ => .bad)
  | none => .bad
theorem s_setAttr (Tx : List Nat) {cs : List Nat} {n : Str} {tg : Expr} (hK : X.K = C.K) (hc : ∀ c ∈ cs, Cls C.K (C.cl c) ∧ NoAttr C.K (C.cl c) n) (h : PS X (.Assign [tg] e pos) (sFld X.K (rdE C E T2 f2) (rdE C E T1 f1) n)) :
    PS X (.Assign [tg] e pos) (rdS C E (T1 ++ (T2 ++ ([] ++ Tx))) (msSetAttr Tx T2 cs n f1 f2)) :=
  PS.wk h fun D σ H ⟨m, e1, e2, S, w⟩ => ⟨m, e1, e2, S, Want.imp w.bind fun y env w => fun vy m1 e3 e4 S1 s1 oky => by
    subst e3
    cases ho : y.o with
    | none => rw [ho] at w; exact w.elim
    | some oy =>
      rw [ho] at w
      refine ⟨m1, rfl, e4, S1, Want.mono w.bind s1 fun r env2 w vr m2 a1 a2 S2 s2 okr => ?_⟩
      subst a1
      have oky2 := oky.step S1 s2 (Rt.o_hot ho _) (a2.trans e4.symm)
      split at w
      · rename_i x p c ns os
        by_cases hx : c ∈ cs ∧ x ∈ Tx ∧ ns.length < 1000 ∧ ns.length = os.length
        · rw [if_pos hx] at w
          obtain ⟨hcc, hx, hns, hno⟩ := hx
          have s13 := s1.trans s2
          obtain ⟨fy, ry, ny, ky⟩ := new_o S2 oky2 ho
          obtain ⟨f0, a, dx, xs, fl, rfl, rfl, hl, hlen, rr⟩ := okr.bor S2
          obtain ⟨p1, p2, p3⟩ := putF_zip (f := n) (v := vy) hlen
          obtain ⟨env', hp, m4, c1, c2, c3, c4, S4, s4, c5⟩ := poke_put (ho := .ins (C.cl c) dx ((putNs ns n).zip (putL ns xs n vy))) (o' := .ins c (putNs ns n) (putL ns os n oy)) s13 S2 okr ry ny ky (fun fr hr => by
            obtain ⟨a2, dx2, xs2, f4, e, e', hl4, hl5, rr4⟩ := hr
            cases e; cases e'
            rw [hl] at hl4
            have q'' := Option.some.inj hl4
            injection q'' with _ qd q''
            obtain rfl := zip_inj hlen hl5 q''
            subst qd
            obtain ⟨l, g0, r0, e5, k⟩ := rr4.putV (n := n) (ns := ns) hno
            exact ⟨l, g0, r0, e5, fun H' h1 h2 h3 => ⟨a, dx, _, _, rfl, rfl, h2, p2, k H' oy vy fy h1 h3⟩⟩) ⟨fl, a, dx, xs, fl, rfl, rfl, hl, hlen, rr⟩
          rw [hp] at w
          rw [hK]
          refine ⟨a, _, dx, _, rfl, hl, (hc c hcc).1, (hc c hcc).2, by rw [List.length_zip, ← hlen]; simpa using hns, ?_⟩
          rw [p1]
          have := w m4 c1 S4 (s4.wk fun i hi => by
            simp only [List.mem_append, List.nil_append] at hi ⊢
            rcases hi with (z | z) | z
            · exact .inl z
            · exact .inr (.inl z)
            · have : i = x := by simpa using z
              exact .inr (.inr (by rw [this]; exact hx)))
          have q : D.nx m4.σ m4.H := this
          rw [c3, c4, a2] at q
          exact q
        · rw [if_neg hx] at w; exact w.elim
      · exact w.elim⟩
def hasNo (cs : List Nat) (mn : Str) (env : Env) : Rt → Bool
  | .val (.ins c ns ds) => decide (c ∈ cs) && (lk ns ds mn).isNone
  | .sl x => match env[x]? with
    | some (some (.ins c ns os)) => decide (c ∈ cs) && (lk ns os mn).isNone
    | some (some (.s (.ins c ns ds))) => decide (c ∈ cs) && (lk ns ds mn).isNone
    | _ => false
  | _ => false
theorem lk_none {α β : Type} {f : Str} : ∀ {ns : List Str} {ds : List α} {xs : List β}, ds.length = xs.length → lk ns ds f = none → lk ns xs f = none
  | [], ds, xs, _, _ => by simp [lk]
  | n :: ns, [], xs, h, _ => by
    have : xs = [] := List.eq_nil_of_length_eq_zero h.symm
    subst this; simp [lk]
  | n :: ns, d :: ds, [], h, _ => by simp at h
  | n :: ns, d :: ds, x :: xs, h, h2 => by
    unfold lk at h2 ⊢
    by_cases e : n = f
    · rw [if_pos e] at h2; cases h2
    · rw [if_neg e] at h2 ⊢
      exact lk_none (by simpa using h) h2
def mMeth (Sl T2 : List Nat) (c : Nat) (mn : Str) (n : Nat) (fn : List O → Rr) (fo : ME) (fs : MA) : ME := fun env => (fo env).bind fun r e1 =>
  if hasNo [c] mn e1 r = true then mCall Sl n fn (fun e => (fs e).bind fun rs e2 => .ok (r :: rs) e2) e1 else .bad
theorem rdMeth {Sl : List Nat} {c n : Nat} {mn : Str} {fn : List O → Rr} {fo : ME} {σ : L2.St} {H : Hp} {Q : VK} (h : rdE C E (T1 ++ (T2 ++ Sl)) (mMeth Sl T2 c mn n fn fo fs) σ H Q) :
    tMethS (C.cl c) mn (spG C.K C.cl n fn) (WE E) (rdE C E T1 fo) (rdA C E T2 fs) σ H Q := by
  obtain ⟨m, e1, e2, S, w⟩ := h
  refine ⟨m, e1, e2, S, Want.imp w.bind fun r env w => fun v m1 e3 e4 S1 s1 ok => ?_⟩
  subst e3
  by_cases hh : hasNo [c] mn m1.env r = true
  · rw [if_pos hh] at w
    -- the receiver
    have rc : r.hot T2 = false ∧ ∃ a dx fs, v = .ref a ∧ m1.H a = some (.ins (C.cl c) dx fs) ∧ fs.lookup mn = none := by
      unfold hasNo at hh
      split at hh
      · rename_i c' ns ds
        rw [Bool.and_eq_true] at hh
        have hc' : c' = c := by simpa using hh.1
        subst hc'
        obtain ⟨a, dx, xs, rfl, q, l, rr⟩ := ok
        exact ⟨rfl, a, dx, _, rfl, S1.ex _ _ q, by rw [lk_zip]; exact lk_none rr.length.symm (by simpa using hh.2)⟩
      · rename_i x
        split at hh
        · rename_i c' ns os he
          rw [Bool.and_eq_true] at hh
          have hc' : c' = c := by simpa using hh.1
          subst hc'
          obtain ⟨v', f', s1', s2, s3⟩ := S1.slot he
          have ok : m1.σ[x]? = some (some v) := ok
          rw [ok] at s1'; cases s1'
          obtain ⟨a, dx, xs, f, rfl, rfl, q, l, rr⟩ := s3
          exact ⟨rfl, a, dx, _, rfl, q, by rw [lk_zip]; exact lk_none rr.length.symm (by simpa using hh.2)⟩
        · rename_i c' ns ds he
          rw [Bool.and_eq_true] at hh
          have hc' : c' = c := by simpa using hh.1
          subst hc'
          obtain ⟨v', f', s1', s2, s3⟩ := S1.slot he
          have ok : m1.σ[x]? = some (some v) := ok
          rw [ok] at s1'; cases s1'
          obtain ⟨rfl, a, dx, xs, rfl, q, l, rr⟩ := s3
          exact ⟨rfl, a, dx, _, rfl, S1.ex _ _ q, by rw [lk_zip]; exact lk_none rr.length.symm (by simpa using hh.2)⟩
        · cases hh
      · cases hh
    obtain ⟨hot, a, dx, fs', rfl, q1, q2⟩ := rc
    refine ⟨a, dx, fs', rfl, q1, q2, ?_⟩
    have w1 : Want C E m ((fs m1.env).bind fun rs e2 => Rs.ok (r :: rs) e2) _ := w.bind
    refine ⟨m1, rfl, e4, S1, Want.mono w1.bind s1 fun rs0 env w => fun vs m2 f1 f2 S2 s2 ok2 => ?_⟩
    subst f1
    have okr := ok.step S1 s2 hot (f2.trans e4.symm)
    have s12 := s1.trans s2
    refine call_core (T := T1 ++ T2) (Sl := Sl) s12 S2 (.cons okr ok2) f2 ?_
    have e : T1 ++ T2 ++ Sl = T1 ++ (T2 ++ Sl) := List.append_assoc _ _ _
    rw [e]
    exact w
  · rw [if_neg hh] at w; exact w.elim
end
end L3
namespace L3
open PySem L2
section
variable {X : Cx} {C : Cn} {E : WX} {e a b o : Expr} {pos : Pos} {T T1 T2 T3 Sl : List Nat} {fs : MA} {es : List Expr} {f fo f1 f2 : ME} {n : Nat} {fn : List O → Rr}
theorem e_call0 {CX : CXT} {k : Nat} {fa : Addr} {fd : FuncData} {ps : List Str} {x : Str} {p : Pos} (Sl : List Nat) (hK : X.K = C.K) (F : FnOk X.prog X.w X.K X.mg X.base CX k fa fd ps (spG C.K C.cl n fn)) (hr : Room k X.A) (hg : Gl X x) (hm : X.mg x = some (.ref fa)) (hk : PySem.W.keepIn X.K (.ref fa) = true)
    (hb : Binds X.K fd ps []) (hx : ∀ σ, PassesAt CX X σ (WE E σ))
    (hdb : (x == ("__debug__" : Str)) = false := by decide) : PE X (.Call (.Name x p) [] [] pos) (rdE C E ([] ++ Sl) (mCall Sl n fn mNil)) :=
  PE.wk (pe_callS0 F hr hg hm hk hb hx hdb) fun σ H Q h => rdNil (rdCall h)
theorem e_mth {CX : CXT} {k : Nat} {fa : Addr} {fd : FuncData} {ps : List Str} {m : Str} {apos : Pos} {pl : Sem Bool} (Sl : List Nat) (c : Nat) (hc : Cls X.K (C.cl c)) (hm : Meth X.K (C.cl c) m fa) (F : FnOk X.prog X.w X.K X.mg X.base CX k fa fd ps (spG C.K C.cl n fn)) (hr : Room k X.A)
    (hb : Binds X.K fd ps []) (hx : ∀ σ, PassesAt CX X σ (WE E σ)) (he : PE X o (rdE C E T1 fo)) (ha : PA X (e :: es) (rdA C E T2 fs)) (hst : starEach (e :: es) X.env = (false, eval e X.env) :: starEach es X.env := by rfl) (hpl : ((backTo pos (starEach es X.env)).any fun z => z.1) = false := by rfl)
    (ht : eval (.Call (.Attribute o m apos) (e :: es) [] pos) X.env = (do
      let u0 ← eval o X.env
      standAt apos.atName
      let (fu, fi) ← holding [u0] (getMethod u0 m pl)
      callWith pos fu fi (backTo pos (starEach (e :: es) X.env)) (backToKw pos (keywordEach [] X.env))) := by rfl) :
    PE X (.Call (.Attribute o m apos) (e :: es) [] pos) (rdE C E (T1 ++ (T2 ++ Sl)) (mMeth Sl T2 c m n fn fo fs)) :=
  PE.wk (pe_methS (pl := pl) he hc hm F hr hb hx ha hst hpl ht) fun σ H Q h => rdMeth h
theorem e_mth0 {CX : CXT} {k : Nat} {fa : Addr} {fd : FuncData} {ps : List Str} {m : Str} {apos : Pos} {pl : Sem Bool} (Sl : List Nat) (c : Nat) (hc : Cls X.K (C.cl c)) (hm : Meth X.K (C.cl c) m fa) (F : FnOk X.prog X.w X.K X.mg X.base CX k fa fd ps (spG C.K C.cl n fn)) (hr : Room k X.A)
    (hb : Binds X.K fd ps []) (hx : ∀ σ, PassesAt CX X σ (WE E σ)) (he : PE X o (rdE C E T1 fo))
    (ht : eval (.Call (.Attribute o m apos) [] [] pos) X.env = (do
      let u0 ← eval o X.env
      standAt apos.atName
      let (fu, fi) ← holding [u0] (getMethod u0 m pl)
      callWith pos fu fi (backTo pos (starEach [] X.env)) (backToKw pos (keywordEach [] X.env))) := by rfl) :
    PE X (.Call (.Attribute o m apos) [] [] pos) (rdE C E (T1 ++ ([] ++ Sl)) (mMeth Sl [] c m n fn fo mNil)) :=
  PE.wk (pe_methS0 (pl := pl) he hc hm F hr hb hx ht) fun σ H Q h => by
    obtain ⟨m0, e1, e2, S, w⟩ := rdMeth h
    refine ⟨m0, e1, e2, S, Want.imp w fun r env w v m' e3 e4 S' s ok => ?_⟩
    obtain ⟨a, dx, fs, q1, q2, q3, q4⟩ := w v m' e3 e4 S' s ok
    exact ⟨a, dx, fs, q1, q2, q3, rdNil q4⟩
def mMake (Sl : List Nat) (c n : Nat) (fn : List O → Rr) (fs : MA) : ME := fun env => (fs env).bind fun rs e =>
  match argsO e rs with
  | some os => if rs.length + 1 = n ∧ (slots rs).Nodup ∧ (∀ x ∈ slots rs, x ∈ Sl) then
      (match fn (.ins c [] [] :: os) with
      | .ok (.s .non) (self :: outs) => if outs.length + 1 = n then .ok self.rr (putOuts e rs outs) else .bad
      | .exc c ds (_ :: outs) => if outs.length + 1 = n then .exc c ds (putOuts e rs outs) else .bad
      | _ => .bad) else .bad
  | none => .bad
theorem make_post {m1 : Mo} {x dx : Addr} {ob1 ob2 : HO} {F' H' : Hp} {fp : Fp} (h1 : m1.H x = none) (h2 : m1.H dx = none) (G : GPost m1.F (upd (upd m1.H dx ob1) x ob2) (x :: fp) F' H') : GPost m1.F m1.H fp F' H' := by
  have ne : ∀ b o, m1.H b = some o → (upd (upd m1.H dx ob1) x ob2) b = some o ∧ b ≠ x := fun b o h => by
    have a1 : b ≠ x := fun z => by subst z; rw [h1] at h; cases h
    have a2 : b ≠ dx := fun z => by subst z; rw [h2] at h; cases h
    exact ⟨by rw [upd_ne a1, upd_ne a2]; exact h, a1⟩
  refine ⟨G.exF, G.ex, fun b o h n => ?_, fun b h => ?_, fun a h n => ?_⟩
  · obtain ⟨q1, q2⟩ := ne b o h
    exact G.keep b o q1 (fun z => (List.mem_cons.mp z).elim q2 n)
  · cases q : m1.H b with
    | none => exact absurd q h
    | some o => exact G.dom b (by rw [(ne b o q).1]; exact fun z => nomatch z)
  · cases q : m1.H a with
    | none => exact .inl rfl
    | some o =>
      obtain ⟨q1, q2⟩ := ne a o q
      rcases G.newF a h n with z | z
      · rw [q1] at z; cases z
      · exact .inr ((List.mem_cons.mp z).resolve_left q2)
theorem rdMake {c : Nat} {σ : L2.St} {H : Hp} {Q : VK} (h : rdE C E (T ++ Sl) (mMake Sl c n fn fs) σ H Q) : tMakeS (C.cl c) (spG C.K C.cl n fn) (WE E) (rdA C E T fs) σ H Q := by
  obtain ⟨m, e1, e2, S, w⟩ := h
  refine ⟨m, e1, e2, S, Want.imp w.bind fun rs env w => fun vs m' e3 e4 S' s ok => ?_⟩
  subst e3
  intro x dx hx hdx hne
  cases ho : argsO m'.env rs with
  | none => rw [ho] at w; exact w.elim
  | some os =>
    rw [ho] at w
    dsimp only at w
    by_cases hc : rs.length + 1 = n ∧ (slots rs).Nodup ∧ (∀ x ∈ slots rs, x ∈ Sl)
    · rw [if_pos hc] at w
      obtain ⟨c1, c2, c3⟩ := hc
      obtain ⟨fp, r1, r2, r3, r4⟩ := args_ok S' ok ho
      have hm : ∀ b o, m'.H b = some o → (upd (upd m'.H dx (.own x)) x (.ins (C.cl c) dx [])) b = some o := fun b o h => by
        have a1 : b ≠ x := fun z => by subst z; rw [hx] at h; cases h
        have a2 : b ≠ dx := fun z => by subst z; rw [hdx] at h; cases h
        rw [upd_ne a1, upd_ne a2]; exact h
      have fpi : ∀ a ∈ fp, a ∈ m'.fps.flatten := fun a ha => by
        obtain ⟨y, f, _, a2, a3⟩ := r2 a ha
        exact mem_fps a2 a3
      have xfp : x ∉ fp := fun z => S'.inH x (fpi x z) hx
      refine ⟨m'.F, .ins c [] [] :: os, x :: fp, by rw [List.length_cons, argsO_len ho, c1], fun b o h => hm b o (S'.ex b o h), ?_, ?_, fun a ha => ?_, ?_⟩
      · refine ⟨_, _, [x], fp, rfl, rfl, ⟨x, dx, [], [], rfl, rfl, upd_same, rfl, rfl, rfl⟩, ?_⟩
        refine r1.mono (Ex.refl _) _ _ _ (fun b hb => ?_)
        cases q : m'.H b with
        | none => exact absurd q (S'.inH b (fpi b hb))
        | some o => exact hm b o q
      · exact List.nodup_cons.mpr ⟨xfp, r3 c2⟩
      · rcases List.mem_cons.mp ha with z | z
        · subst z; exact S'.fNone hx
        · exact S'.df a (fpi a z)
      · have tail : ∀ {F' H' : Hp} {fr fp' : Fp} {self : O} {outs : List O}, GPost m'.F (upd (upd m'.H dx (.own x)) x (.ins (C.cl c) dx [])) (x :: fp) F' H' → GOuts C.K C.cl (upd (upd m'.H dx (.own x)) x (.ins (C.cl c) dx [])) (x :: fp) F' H' (.ref x :: vs) (self :: outs) fr fp' →
            ∃ f g, RpO C.K C.cl F' H' self (.ref x) f ∧ GPost m'.F m'.H fp F' H' ∧ GOuts C.K C.cl m'.H fp F' H' vs outs f g := by
          intro F' H' fr fp' self outs G Go
          obtain ⟨v, r, f, g, ev, rfl, q1, q2⟩ := Go.rp
          cases ev
          have nd := Go.nd
          rw [List.nodup_append] at nd
          refine ⟨f, g, q1, make_post hx hdx G, q2, nd.2.1, fun a ha => Go.fF a (List.mem_append_right _ ha), fun a ha => ?_⟩
          cases q : m'.H a with
          | none => exact .inl rfl
          | some ob =>
            rcases Go.newO a (List.mem_append_right _ ha) with z | z
            · rw [hm a ob q] at z; cases z
            · exact .inr ((List.mem_cons.mp z).resolve_left fun y => by subst y; rw [hx] at q; cases q)
        cases hf : fn (.ins c [] [] :: os) with
        | bad => rw [hf] at w; exact w.elim
        | ok r outs0 =>
          rw [hf] at w
          split at w
          · rename_i self outs heq
            cases heq
            by_cases hl : outs.length + 1 = n
            · rw [if_pos hl] at w
              dsimp only
              intro v F' H' fr fp' G rr Go
              refine ⟨rr.2, ?_⟩
              obtain ⟨f, g, rr2, G2, Go2⟩ := tail G Go
              obtain ⟨m2, S2, s2, q1, q2, q3, q4, q5⟩ := call_ok (os := os) s S' ok r2 r4 c2 c3 G2 Go2 (by omega)
              have q := w (.ref x) m2 q4 (q3.trans e4) S2 s2
              subst q1 q2
              refine q ?_
              have own : RtOk C m2 (Old m) (.own self) (.ref x) := by
                have nd := Go2.nd
                rw [List.nodup_append] at nd
                refine ⟨f, rr2, nd.1, fun a ha => ⟨Go2.fF a (by simp [ha]), (q5 a ha).1, (q5 a ha).2.2, fun z => ?_⟩⟩
                rcases (q5 a ha).2.1 with y | y
                · exact z.1 y
                · exact z.2 y
              cases self with
              | s d => exact rr2.2
              | lst _ => exact own
              | dk _ _ => exact own
              | dt _ _ => exact own
              | ins _ _ _ => exact own
            · rw [if_neg hl] at w; exact w.elim
          · rename_i heq; cases heq
          · exact w.elim
        | exc c' ds outs0 =>
          rw [hf] at w
          split at w
          · rename_i heq; cases heq
          · rename_i c2' ds2 x0 outs heq
            cases heq
            by_cases hl : outs.length + 1 = n
            · rw [if_pos hl] at w
              dsimp only
              intro F' H' dd fp' G Go h1 h2
              obtain ⟨f, g, rr2, G2, Go2⟩ := tail G Go
              obtain ⟨m2, S2, s2, q1, q2, q3, q4, q5⟩ := call_ok (os := os) s S' ok r2 r4 c2 c3 G2 Go2 (by omega)
              subst q1 q2
              have q := w m2 q4 S2 _ s2 dd h1 h2
              rw [q3, e4] at q
              exact q
            · rw [if_neg hl] at w; exact w.elim
          · exact w.elim
    · rw [if_neg hc] at w; exact w.elim
theorem e_make {CX : CXT} {k : Nat} {fa : Addr} {fd : FuncData} {ps : List Str} {x : Str} {p : Pos} (Sl : List Nat) (c : Nat) (M : Mk X.K (C.cl c) fa) (F : FnOk X.prog X.w X.K X.mg X.base CX k fa fd ps (spG C.K C.cl n fn)) (hr : Room (k + 1) X.A) (hg : Gl X x) (hm : X.mg x = some (.ref (C.cl c)))
    (hb : Binds X.K fd ps []) (hx : ∀ σ, PassesAt CX X σ (WE E σ)) (ha : PA X (e :: es) (rdA C E T fs)) (hdb : (x == ("__debug__" : Str)) = false := by decide) (he : starEach (e :: es) X.env = (false, eval e X.env) :: starEach es X.env := by rfl) (hpl : ((backTo pos (starEach es X.env)).any fun z => z.1) = false := by rfl) :
    PE X (.Call (.Name x p) (e :: es) [] pos) (rdE C E (T ++ Sl) (mMake Sl c n fn fs)) :=
  PE.wk (pe_makeS M F hr hg hm hb hx ha hdb he hpl) fun σ H Q h => rdMake h
end
end L3
namespace L3
open PySem L2
section
variable {X : Cx} {C : Cn} {E : WX} {e a b o : Expr} {pos : Pos} {T T1 T2 T3 Sl : List Nat} {fs : MA} {es : List Expr} {f fo f1 f2 : ME} {n : Nat} {fn : List O → Rr}
def roRun (n : Nat) (fn : List O → Rr) (rs : List Rt) (e : Env) : Rs Rt :=
  if rs.length = n ∧ rs.all (fun r => !r.isSl) = true then (match fn (rs.map fun r => .s r.d) with
    | .ok (.s d) _ => if d.flat = true then .ok (.val d) e else .bad
    | .exc c ds _ => if ds.all D.flat = true then .exc c ds e else .bad
    | _ => .bad) else .bad
theorem RtsOk.rds {m : Mo} (S : Sta C m) : ∀ {rs : List Rt} {vs : List V}, RtsOk C m rs vs → rs.all (fun r => !r.isSl) = true → RpOs C.K C.cl m.H m.H (rs.map fun r => .s r.d) vs []
  | [], vs, h, _ => by cases h; exact ⟨rfl, rfl⟩
  | r :: rs, vs, h, q => by
    cases h with
    | cons h t =>
      rw [List.all_cons, Bool.and_eq_true] at q
      exact ⟨_, _, [], [], rfl, rfl, ⟨rfl, h.rd S (by simpa using q.1)⟩, t.rds S q.2⟩
theorem flat_any {K : PySem.W.Frag} {cl : Nat → Addr} {F F' : Hp} {d : D} {v : V} (h : RpD K cl F d v) (hf : d.flat = true) : RpD K cl F' d v := by
  cases d with
  | non => exact h
  | bl b => exact h
  | int b => exact h
  | str b => exact h
  | _ => cases hf
theorem ro_core {σ : L2.St} {Q : VK} {m m' : Mo} {rs : List Rt} {vs : List V} (s : Step T m m') (S' : Sta C m') (ok : RtsOk C m' rs vs) (e4 : m'.σ = σ)
    (w : Want C E m (roRun n fn rs m'.env) fun r env' => ∀ v m', m'.env = env' → m'.σ = σ → Sta C m' → Step T m m' → RtOk C m' (Old m) r v → Q v m'.H) : spG C.K C.cl n fn vs m'.H Q (WE E σ) := by
  unfold roRun at w
  by_cases hc : rs.length = n ∧ rs.all (fun r => !r.isSl) = true
  · rw [if_pos hc] at w
    refine ⟨m'.H, rs.map fun r => .s r.d, [], by simp [hc.1], Ex.refl _, ok.rds S' hc.2, List.nodup_nil, fun a ha => by simp at ha, ?_⟩
    have gro : ∀ {F' H' : Hp}, GPost m'.H m'.H [] F' H' → Gro m' { m' with H := H' } := fun {F' H'} G =>
      ⟨rfl, rfl, rfl, Ex.refl _, fun b o h => G.keep b o h (by simp), fun b o h => G.keep b o (S'.ex b o h) (by simp), fun a h n => absurd n h⟩
    cases hf : fn (rs.map fun r => .s r.d) with
    | bad => rw [hf] at w; exact w.elim
    | ok r outs =>
      rw [hf] at w
      cases r with
      | s d =>
        dsimp only at w ⊢
        by_cases hd : d.flat = true
        · rw [if_pos hd] at w
          intro v F' H' fr fp' G rr Go
          exact w v { m' with H := H' } rfl e4 (S'.gro (gro G)) (step_nil S' s (gro G)) (flat_any rr.2 hd)
        · rw [if_neg hd] at w; exact w.elim
      | lst _ => exact w.elim
      | dk _ _ => exact w.elim
      | dt _ _ => exact w.elim
      | ins _ _ _ => exact w.elim
    | exc c ds outs =>
      rw [hf] at w
      dsimp only at w ⊢
      by_cases hd : ds.all D.flat = true
      · rw [if_pos hd] at w
        intro F' H' dd fp' G Go h1 h2
        have fin := w { m' with H := H' } rfl (S'.gro (gro G)) _ (step_nil S' s (gro G)) dd h1
        dsimp only at fin
        rw [e4] at fin
        refine fin fun d hds => ?_
        obtain ⟨a, v, q1, q2, q3⟩ := h2 d hds
        subst hds
        exact ⟨a, v, q1, q2, flat_any q3 (by simpa using hd)⟩
      · rw [if_neg hd] at w; exact w.elim
  · rw [if_neg hc] at w; exact w.elim
def mRo (n : Nat) (fn : List O → Rr) (fs : MA) : ME := fun env => (fs env).bind fun rs e => roRun n fn rs e
theorem rdRo {σ : L2.St} {H : Hp} {Q : VK} (h : rdE C E T (mRo n fn fs) σ H Q) : rdA C E T fs σ H fun vs H1 => spG C.K C.cl n fn vs H1 Q (WE E σ) := by
  obtain ⟨m, e1, e2, S, w⟩ := h
  refine ⟨m, e1, e2, S, Want.imp w.bind fun rs env w => fun vs m' e3 e4 S' s ok => ?_⟩
  subst e3
  exact ro_core s S' ok e4 w
theorem e_ro {CX : CXT} {k : Nat} {fa : Addr} {fd : FuncData} {ps : List Str} {x : Str} {p : Pos} (F : FnOk X.prog X.w X.K X.mg X.base CX k fa fd ps (spG C.K C.cl n fn)) (hr : Room k X.A) (hg : Gl X x) (hm : X.mg x = some (.ref fa)) (hk : PySem.W.keepIn X.K (.ref fa) = true)
    (hb : Binds X.K fd ps []) (hx : ∀ σ, PassesAt CX X σ (WE E σ)) (ha : PA X (e :: es) (rdA C E T fs)) (hst : starEach (e :: es) X.env = (false, eval e X.env) :: starEach es X.env := by rfl) (hpl : ((backTo pos (starEach es X.env)).any fun x => x.1) = false := by rfl)
    (hdb : (x == ("__debug__" : Str)) = false := by decide) : PE X (.Call (.Name x p) (e :: es) [] pos) (rdE C E T (mRo n fn fs)) :=
  PE.wk (pe_callS F hr hg hm hk hb hx ha hdb hst hpl) fun σ H Q h => rdRo h
def roHas (c : Nat) (mn : Str) : D → Bool
  | .ins c' ns ds => decide (c' = c) && (lk ns ds mn).isNone
  | _ => false
def mMethR (T2 : List Nat) (c : Nat) (mn : Str) (n : Nat) (fn : List O → Rr) (fo : ME) (fs : MA) : ME := fun env => (fo env).bind fun r e1 =>
  if r.isSl = false ∧ r.hot T2 = false ∧ roHas c mn r.d = true then (fs e1).bind fun rs e2 => roRun n fn (r :: rs) e2 else .bad
theorem rdMethR {c : Nat} {mn : Str} {σ : L2.St} {H : Hp} {Q : VK} (h : rdE C E (T1 ++ T2) (mMethR T2 c mn n fn fo fs) σ H Q) :
    tMethS (C.cl c) mn (spG C.K C.cl n fn) (WE E) (rdE C E T1 fo) (rdA C E T2 fs) σ H Q := by
  obtain ⟨m, e1, e2, S, w⟩ := h
  refine ⟨m, e1, e2, S, Want.imp w.bind fun r env w => fun v m1 e3 e4 S1 s1 ok => ?_⟩
  subst e3
  by_cases hh : r.isSl = false ∧ r.hot T2 = false ∧ roHas c mn r.d = true
  · rw [if_pos hh] at w
    obtain ⟨h1, h2, h3⟩ := hh
    have rd := ok.rd S1 h1
    have rc : ∃ a dx fs, v = .ref a ∧ m1.H a = some (.ins (C.cl c) dx fs) ∧ fs.lookup mn = none := by
      unfold roHas at h3
      split at h3
      · rename_i c' ns ds hd
        rw [hd] at rd
        rw [Bool.and_eq_true] at h3
        have hc' : c' = c := by simpa using h3.1
        subst hc'
        obtain ⟨a, dx, xs, rfl, q, l, rr⟩ := rd
        exact ⟨a, dx, _, rfl, q, by rw [lk_zip]; exact lk_none rr.length.symm (by simpa using h3.2)⟩
      · cases h3
    obtain ⟨a, dx, fs', rfl, q1, q2⟩ := rc
    refine ⟨a, dx, fs', rfl, q1, q2, ?_⟩
    refine ⟨m1, rfl, e4, S1, Want.mono w.bind s1 fun rs0 env w => fun vs m2 f1 f2 S2 s2 ok2 => ?_⟩
    subst f1
    have okr := ok.step S1 s2 h2 (f2.trans e4.symm)
    exact ro_core (T := T1 ++ T2) (s1.trans s2) S2 (.cons okr ok2) f2 w
  · rw [if_neg hh] at w; exact w.elim
theorem e_mthR {CX : CXT} {k : Nat} {fa : Addr} {fd : FuncData} {ps : List Str} {m : Str} {apos : Pos} {pl : Sem Bool} (c : Nat) (hc : Cls X.K (C.cl c)) (hm : Meth X.K (C.cl c) m fa) (F : FnOk X.prog X.w X.K X.mg X.base CX k fa fd ps (spG C.K C.cl n fn)) (hr : Room k X.A)
    (hb : Binds X.K fd ps []) (hx : ∀ σ, PassesAt CX X σ (WE E σ)) (he : PE X o (rdE C E T1 fo)) (ha : PA X (e :: es) (rdA C E T2 fs)) (hst : starEach (e :: es) X.env = (false, eval e X.env) :: starEach es X.env := by rfl) (hpl : ((backTo pos (starEach es X.env)).any fun z => z.1) = false := by rfl)
    (ht : eval (.Call (.Attribute o m apos) (e :: es) [] pos) X.env = (do
      let u0 ← eval o X.env
      standAt apos.atName
      let (fu, fi) ← holding [u0] (getMethod u0 m pl)
      callWith pos fu fi (backTo pos (starEach (e :: es) X.env)) (backToKw pos (keywordEach [] X.env))) := by rfl) :
    PE X (.Call (.Attribute o m apos) (e :: es) [] pos) (rdE C E (T1 ++ T2) (mMethR T2 c m n fn fo fs)) :=
  PE.wk (pe_methS (pl := pl) he hc hm F hr hb hx ha hst hpl ht) fun σ H Q h => rdMethR h
theorem e_mthR0 {CX : CXT} {k : Nat} {fa : Addr} {fd : FuncData} {ps : List Str} {m : Str} {apos : Pos} {pl : Sem Bool} (c : Nat) (hc : Cls X.K (C.cl c)) (hm : Meth X.K (C.cl c) m fa) (F : FnOk X.prog X.w X.K X.mg X.base CX k fa fd ps (spG C.K C.cl n fn)) (hr : Room k X.A)
    (hb : Binds X.K fd ps []) (hx : ∀ σ, PassesAt CX X σ (WE E σ)) (he : PE X o (rdE C E T1 fo))
    (ht : eval (.Call (.Attribute o m apos) [] [] pos) X.env = (do
      let u0 ← eval o X.env
      standAt apos.atName
      let (fu, fi) ← holding [u0] (getMethod u0 m pl)
      callWith pos fu fi (backTo pos (starEach [] X.env)) (backToKw pos (keywordEach [] X.env))) := by rfl) :
    PE X (.Call (.Attribute o m apos) [] [] pos) (rdE C E (T1 ++ []) (mMethR [] c m n fn fo mNil)) :=
  PE.wk (pe_methS0 (pl := pl) he hc hm F hr hb hx ht) fun σ H Q h => by
    obtain ⟨m0, e1, e2, S, w⟩ := rdMethR h
    refine ⟨m0, e1, e2, S, Want.imp w fun r env w v m' e3 e4 S' s ok => ?_⟩
    obtain ⟨a, dx, fs, q1, q2, q3, q4⟩ := w v m' e3 e4 S' s ok
    exact ⟨a, dx, fs, q1, q2, q3, rdNil q4⟩
end
def RtFp (C : Cn) (m : Mo) (m0 : Mo) (r : Rt) (v : V) (fp : Fp) : Prop :=
  match r with
  | .own o => RpO C.K C.cl m.F m.H o v fp ∧ fp.Nodup ∧ ∀ a ∈ fp, m.F a = none ∧ a ∉ m.fps.flatten ∧ (C.H0 a = none ∨ a ∈ C.io) ∧ ¬ Old m0 a
  | r => fp = [] ∧ RtOk C m (Old m0) r v
inductive RtsD (C : Cn) (m m0 : Mo) : List Rt → List V → Fp → Prop where
  | nil : RtsD C m m0 [] [] []
  | cons {r : Rt} {v : V} {rs : List Rt} {vs : List V} {f g : Fp} : RtFp C m m0 r v f → RtsD C m m0 rs vs g → (∀ a ∈ f, a ∉ g) → RtsD C m m0 (r :: rs) (v :: vs) (f ++ g)
theorem RtFp.of {C : Cn} {m m0 : Mo} {r : Rt} {v : V} (h : RtOk C m (Old m0) r v) : ∃ f, RtFp C m m0 r v f := by
  cases r with
  | own o => exact h
  | val d => exact ⟨[], rfl, h⟩
  | bor x p o => exact ⟨[], rfl, h⟩
  | sl x => exact ⟨[], rfl, h⟩
theorem RtFp.ok {C : Cn} {m m0 : Mo} {r : Rt} {v : V} {f : Fp} (h : RtFp C m m0 r v f) : RtOk C m (Old m0) r v := by
  cases r with
  | own o => exact ⟨f, h⟩
  | val d => exact h.2
  | bor x p o => exact h.2
  | sl x => exact h.2
def rdD (C : Cn) (E : WX) (T : List Nat) (f : MA) : TA := fun σ H Q => ∃ m : Mo, m.H = H ∧ m.σ = σ ∧ Sta C m ∧
  Want C E m (f m.env) fun rs env' => ∀ vs m' fp, m'.env = env' → m'.σ = σ → Sta C m' → Step T m m' → RtsD C m' m rs vs fp → Q vs m'.H
theorem RtFp.step {C : Cn} {T : List Nat} {m0 m m' : Mo} {r : Rt} {v : V} {f : Fp} (S : Sta C m) (h : RtFp C m m0 r v f) (t : Step T m m') (c : r.hot T = false) (hσ : m'.σ = m.σ) : RtFp C m' m0 r v f := by
  cases r with
  | own o =>
    obtain ⟨r, nd, k⟩ := h
    refine ⟨r.mono t.exF o v f (fun a ha => ?_), nd, fun a ha => ?_⟩
    · obtain ⟨_, k2, _⟩ := k a ha
      cases q : m.H a with
      | none => exact absurd q (r.inH o v f a ha)
      | some o => exact t.keep a o q k2
    · obtain ⟨k1, k2, k3⟩ := k a ha
      have hH := r.inH o v f a ha
      refine ⟨?_, fun z => ?_, k3⟩
      · exact Classical.byContradiction fun w => (t.newF a w k1).elim hH k2
      · exact (t.newO a z).elim hH k2
  | val d => exact ⟨h.1, h.2.step S t c hσ⟩
  | bor x p o => exact ⟨h.1, h.2.step S t c hσ⟩
  | sl x => exact ⟨h.1, h.2.step S t c hσ⟩
section
variable {X : Cx} {C : Cn} {E : WX} {e a b o : Expr} {pos : Pos} {T T1 T2 T3 Sl : List Nat} {fs : MA} {es : List Expr} {f fo f1 f2 : ME} {n : Nat} {fn : List O → Rr}
theorem rdNilD {σ : L2.St} {H : Hp} {Q : List V → Hp → Prop} (h : rdD C E [] mNil σ H Q) : tNil σ H Q := by
  obtain ⟨m, e1, e2, S, w⟩ := h
  subst e1
  exact w [] m [] rfl e2 S (Step.refl _ _) .nil
theorem old_trans {T : List Nat} {m m' : Mo} (s : Step T m m') {a : Addr} (h : Old m a) : Old m' a := ⟨s.dom a h.1, fun z => (s.newO a z).elim h.1 h.2⟩
theorem RtFp.old {m m0 m1 : Mo} {r : Rt} {v : V} {f : Fp} (h : RtFp C m m1 r v f) (k : ∀ a, Old m0 a → Old m1 a) : RtFp C m m0 r v f := by
  cases r with
  | own o => exact ⟨h.1, h.2.1, fun a ha => let ⟨q1, q2, q3, q4⟩ := h.2.2 a ha; ⟨q1, q2, q3, fun z => q4 (k a z)⟩⟩
  | val d => exact ⟨h.1, h.2.av k⟩
  | bor x p o => exact ⟨h.1, h.2.av k⟩
  | sl x => exact ⟨h.1, h.2.av k⟩
theorem RtsD.old {m m0 m1 : Mo} {rs : List Rt} {vs : List V} {f : Fp} (h : RtsD C m m1 rs vs f) (k : ∀ a, Old m0 a → Old m1 a) : RtsD C m m0 rs vs f := by
  induction h with
  | nil => exact .nil
  | cons a _ c ih => exact .cons (a.old k) ih c
theorem RtsD.notOld {m m0 : Mo} {rs : List Rt} {vs : List V} {f : Fp} (h : RtsD C m m0 rs vs f) : ∀ a ∈ f, ¬ Old m0 a := by
  induction h with
  | nil => intro a ha; simp at ha
  | cons a _ _ ih =>
    rename_i r v rs vs f g _ _
    intro b hb
    rcases List.mem_append.mp hb with z | z
    · cases r with
      | own o => exact (a.2.2 b z).2.2.2
      | val d => rw [a.1] at z; simp at z
      | bor x p o => rw [a.1] at z; simp at z
      | sl x => rw [a.1] at z; simp at z
    · exact ih b z
theorem rdConsD {σ : L2.St} {H : Hp} {Q : List V → Hp → Prop} (h : rdD C E (T1 ++ T2) (mCons T2 f fs) σ H Q) : tCons (rdE C E T1 f) (rdD C E T2 fs) σ H Q := by
  obtain ⟨m, e1, e2, S, w⟩ := h
  refine ⟨m, e1, e2, S, Want.imp w.bind fun rx env w => ?_⟩
  intro v m' e3 e4 S' s ok
  by_cases hh : rx.hot T2 = true
  · rw [if_pos hh] at w; exact w.elim
  rw [if_neg hh] at w
  obtain ⟨fr, ok⟩ := RtFp.of ok
  refine ⟨m', rfl, e4, S', ?_⟩
  rw [e3]
  refine Want.mono w.bind s fun ry env2 w => ?_
  intro v2 m2 fp e5 e6 S2 s2 ok2
  refine w (v :: v2) m2 (fr ++ fp) e5 e6 S2 (s.trans s2) (.cons (ok.step S' s2 (by simpa using hh) (e6.trans e4.symm)) (ok2.old fun a ha => old_trans s ha) fun a ha hb => ?_)
  -- what came later is not what was
  refine ok2.notOld a hb ?_
  cases rx with
  | own o => exact ⟨ok.1.inH o v fr a ha, (ok.2.2 a ha).2.1⟩
  | val d => rw [ok.1] at ha; simp at ha
  | bor x p o => rw [ok.1] at ha; simp at ha
  | sl x => rw [ok.1] at ha; simp at ha
theorem d_nil : PA X [] (rdD C E [] mNil) := PA.wk pa_nil fun _ _ _ h => rdNilD h
theorem d_cons (h : PE X e (rdE C E T1 f)) (hs : PA X es (rdD C E T2 fs)) (hst : starEach (e :: es) X.env = (false, eval e X.env) :: starEach es X.env := by rfl) : PA X (e :: es) (rdD C E (T1 ++ T2) (mCons T2 f fs)) :=
  PA.wk (pa_cons h hs hst) fun _ _ _ h => rdConsD h
end
end L3
namespace L3
open PySem L2
theorem RtsD.os {C : Cn} {m m0 : Mo} {rs : List Rt} {vs : List V} {fp : Fp} {os : List O} (h : RtsD C m m0 rs vs fp) : (rs.mapM Rt.o) = some os → RpOs C.K C.cl m.F m.H os vs fp ∧ fp.Nodup ∧ ∀ a ∈ fp, m.F a = none ∧ a ∉ m.fps.flatten ∧ (C.H0 a = none ∨ a ∈ C.io) ∧ ¬ Old m0 a := by
  induction h generalizing os with
  | nil => intro e; cases e; exact ⟨⟨rfl, rfl⟩, List.nodup_nil, fun a ha => by simp at ha⟩
  | cons a _ c ih =>
    rename_i r v rs vs f g _
    intro e
    rw [List.mapM_cons] at e
    cases ho : r.o with
    | none => rw [ho] at e; cases e
    | some o =>
      rw [ho] at e
      cases hr : rs.mapM Rt.o with
      | none => rw [hr] at e; cases e
      | some os' =>
        rw [hr] at e; cases e
        obtain ⟨i1, i2, i3⟩ := ih hr
        have key : RpO C.K C.cl m.F m.H o v f ∧ f.Nodup ∧ ∀ a ∈ f, m.F a = none ∧ a ∉ m.fps.flatten ∧ (C.H0 a = none ∨ a ∈ C.io) ∧ ¬ Old m0 a := by
          cases r with
          | own o' => cases ho; exact a
          | val d => cases ho; obtain ⟨rfl, a⟩ := a; exact ⟨⟨rfl, a⟩, List.nodup_nil, fun b hb => by simp at hb⟩
          | bor x p o' => cases ho
          | sl x => cases ho
        refine ⟨⟨v, vs, f, g, rfl, rfl, key.1, i1⟩, ?_, fun b hb => ?_⟩
        · rw [List.nodup_append]
          exact ⟨key.2.1, i2, fun x hx y hy e => c x hx (by rw [e]; exact hy)⟩
        · rcases List.mem_append.mp hb with z | z
          · exact key.2.2 b z
          · exact i3 b z
def mLstD (fs : MA) : ME := fun env => (fs env).bind fun rs e => match rs.mapM Rt.o with
  | some os => if os.length ≤ 16777216 then .ok (.own (.lst os)) e else .bad
  | none => .bad
section
variable {X : Cx} {C : Cn} {E : WX} {e a b o : Expr} {pos : Pos} {T T1 T2 T3 Sl : List Nat} {fs : MA} {es : List Expr} {f fo f1 f2 f3 : ME} {n : Nat} {fn : List O → Rr} {st : Stmt}
theorem e_lstD (h : PA X es (rdD C E T fs)) : PE X (.List es pos) (rdE C E T (mLstD fs)) := PE.wk (pe_lst h) fun σ H Q ⟨m, e1, e2, S, w⟩ =>
  ⟨m, e1, e2, S, Want.imp w.bind fun rs env w => fun vs m' fp e3 e4 S' s ok => by
    cases hm : rs.mapM Rt.o with
    | none => rw [hm] at w; exact w.elim
    | some os =>
      rw [hm] at w
      dsimp only at w
      by_cases hz : os.length ≤ 16777216
      · rw [if_pos hz] at w
        obtain ⟨r, nd, k⟩ := ok.os hm
        refine ⟨by rw [r.length, sizeLine_is]; exact hz, fun p hp => ?_⟩
        have G := gro_own (o := .lst vs) S' hp
        have pf : p ∉ fp := fun z => r.inH os vs fp p z hp
        refine w (.ref p) { m' with H := upd m'.H p (.lst vs) } (e3 : _ = env) e4 (S'.gro G) (step_nil S' s G) ⟨p :: fp, ⟨p, vs, fp, rfl, rfl, upd_same, r.upd pf⟩, List.nodup_cons.mpr ⟨pf, nd⟩, fun b hb => ?_⟩
        rcases List.mem_cons.mp hb with z | z
        · subst z
          exact ⟨S'.fNone hp, fun z => S'.inH b z hp, .inl (S'.h0None hp), fun z => s.dom b z.1 hp⟩
        · exact k b z
      · rw [if_neg hz] at w; exact w.elim⟩
def storeL : List Nat → List Rt → Env → Option Env
  | [], [], e => some e
  | i :: is, r :: rs, e => match r.o with
    | some o => storeL is rs (e.set i (some o))
    | none => none
  | _, _, _ => none
def setL : L2.St → List Nat → List V → L2.St
  | σ, i :: is, v :: vs => setL (σ.set i (some v)) is vs
  | σ, _, _ => σ
theorem RtFp.put {m m0 : Mo} {r : Rt} {v w : V} {f g : Fp} {i : Nat} {o : O} (h : RtFp C m m0 r v g) (hr : ∃ o, r.o = some o) (d : ∀ a ∈ f, a ∉ g) : RtFp C (m.put m.F m.H i o w f) m0 r v g := by
  cases r with
  | own o' =>
    refine ⟨h.1, h.2.1, fun a ha => ?_⟩
    obtain ⟨k1, k2, k3⟩ := h.2.2 a ha
    refine ⟨k1, fun z => ?_, k3⟩
    rcases mem_flat_set z with y | ⟨j, f', _, e, y⟩
    · exact d a y ha
    · exact k2 (mem_fps e y)
  | val d' => exact h
  | bor x p o' => obtain ⟨_, z⟩ := hr; cases z
  | sl x => obtain ⟨_, z⟩ := hr; cases z
theorem RtsD.put {m m0 : Mo} {rs : List Rt} {vs : List V} {w : V} {f g : Fp} {i : Nat} {o : O} (h : RtsD C m m0 rs vs g) : (∀ r ∈ rs, ∃ o, r.o = some o) → (∀ a ∈ f, a ∉ g) → RtsD C (m.put m.F m.H i o w f) m0 rs vs g := by
  induction h with
  | nil => intro _ _; exact .nil
  | cons a _ c ih =>
    intro h1 h2
    exact .cons (a.put (h1 _ (by simp)) fun b hb z => h2 b hb (by simp [z])) (ih (fun r hr => h1 r (by simp [hr])) fun b hb z => h2 b hb (by simp [z])) c
theorem storeL_o : ∀ {is : List Nat} {rs : List Rt} {e e' : Env}, storeL is rs e = some e' → ∀ r ∈ rs, ∃ o, r.o = some o
  | [], [], e, e', _ => fun r hr => by simp at hr
  | [], _ :: _, e, e', h => by cases h
  | _ :: _, [], e, e', h => by cases h
  | i :: is, r :: rs, e, e', h => by
    unfold storeL at h
    cases ho : r.o with
    | none => rw [ho] at h; cases h
    | some o =>
      rw [ho] at h
      intro r' hr'
      rcases List.mem_cons.mp hr' with z | z
      · rw [z]; exact ⟨o, ho⟩
      · exact storeL_o h r' z
theorem stores {m0 : Mo} : ∀ {is : List Nat} {m : Mo} {T : List Nat} {rs : List Rt} {vs : List V} {fp : Fp} {env' : Env}, Step T m0 m → Sta C m → RtsD C m m0 rs vs fp → storeL is rs m.env = some env' → (∀ i ∈ is, i < C.n ∧ i ∉ C.IO) →
    vs.length = is.length ∧ ∃ m', m'.env = env' ∧ m'.H = m.H ∧ m'.σ = setL m.σ is vs ∧ Sta C m' ∧ Step (T ++ is) m0 m'
  | [], m, T, rs, vs, fp, env', s, S, ok, h, hi => by
    cases ok with
    | nil =>
      have h : some m.env = some env' := h
      cases h
      exact ⟨rfl, m, rfl, rfl, rfl, S, by simpa using s⟩
    | cons _ _ _ => cases h
  | i :: is, m, T, rs, vs, fp, env', s, S, ok, h, hi => by
    cases ok with
    | nil => cases h
    | cons a b c =>
      rename_i r v rs vs f g
      have hall := storeL_o h
      unfold storeL at h
      cases ho : r.o with
      | none => rw [ho] at h; cases h
      | some o =>
        rw [ho] at h
        have h : storeL is rs (m.env.set i (some o)) = some env' := h
        obtain ⟨hn, hIO⟩ := hi i (by simp)
        have hi' : i < m.fps.length := by rw [S.l2, S.ln]; exact hn
        have hf := List.getElem?_eq_getElem hi'
        have key : RpO C.K C.cl m.F m.H o v f ∧ f.Nodup ∧ ∀ a ∈ f, m.F a = none ∧ a ∉ m.fps.flatten ∧ (C.H0 a = none ∨ a ∈ C.io) ∧ ¬ Old m0 a := by
          cases r with
          | own o' => cases ho; exact a
          | val d => cases ho; obtain ⟨rfl, a⟩ := a; exact ⟨⟨rfl, a⟩, List.nodup_nil, fun b hb => by simp at hb⟩
          | bor x p o' => cases ho
          | sl x => cases ho
        obtain ⟨S2, s2⟩ := put (i := i) (v' := v) s S hf (Ex.refl _) S.ex (fun _ _ h _ => h) (fun _ h => h) (fun a h n => absurd n h) key.1 key.2.1 (fun a h => (key.2.2 a h).1) (fun a h => .inr (.inr ⟨fun j f' e z => (key.2.2 a h).2.1 (mem_fps e z), by
          have q := (key.2.2 a h).2.2.2
          by_cases y : m0.H a = none
          · exact .inl y
          · exact .inr (Classical.byContradiction fun w => q ⟨y, w⟩), (key.2.2 a h).2.2.1⟩)) fun z => absurd z hIO
        obtain ⟨l, m', p1, p2, p3, p4, p5⟩ := stores (is := is) s2 S2 (b.put (fun r' hr' => hall r' (by simp [hr'])) c) h (fun j hj => hi j (by simp [hj]))
        exact ⟨by simp [l], m', p1, p2, p3, p4, by simpa using p5⟩
def msPar (is : List Nat) (fs : MA) : MS := fun env => (fs env).bind fun rs e => match storeL is rs e with
  | some e' => .ok .nx e'
  | none => .bad
theorem par_rd {is : List Nat} {D : Ends} {σ : L2.St} {H : Hp} (hi : ∀ i ∈ is, i < C.n ∧ i ∉ C.IO) (h : rdS C E (T ++ is) (msPar is fs) D σ H) : rdD C E T fs σ H fun vs H1 => vs.length = is.length ∧ D.nx (setL σ is vs) H1 := by
  obtain ⟨m, e1, e2, S, w⟩ := h
  refine ⟨m, e1, e2, S, Want.imp w.bind fun rs env w => fun vs m' fp e3 e4 S' s ok => ?_⟩
  subst e3
  cases hs : storeL is rs m'.env with
  | none => rw [hs] at w; exact w.elim
  | some env' =>
    rw [hs] at w
    obtain ⟨l, m2, p1, p2, p3, p4, p5⟩ := stores (T := T) s S' ok hs hi
    refine ⟨l, ?_⟩
    have := w m2 p1 p4 p5
    rw [← e4, ← p2, ← p3]
    exact this
theorem s_par2 {i j : Nat} (hi : ∀ x ∈ [i, j], x < C.n ∧ x ∉ C.IO) (h : PS X st (tPar i j (rdD C E T fs))) : PS X st (rdS C E (T ++ [i, j]) (msPar [i, j] fs)) := PS.wk h fun D σ H h => by
  obtain ⟨m, e1, e2, S, w⟩ := par_rd hi h
  refine ⟨m, e1, e2, S, Want.imp w fun rs env w => fun vs m' fp e3 e4 S' s ok => ?_⟩
  obtain ⟨l, q⟩ := w vs m' fp e3 e4 S' s ok
  match vs, l, q with
  | [v, w], _, q => exact ⟨v, w, rfl, q⟩
theorem s_par3 {i j k : Nat} (hi : ∀ x ∈ [i, j, k], x < C.n ∧ x ∉ C.IO) (h : PS X st (tPar3 i j k (rdD C E T fs))) : PS X st (rdS C E (T ++ [i, j, k]) (msPar [i, j, k] fs)) := PS.wk h fun D σ H h => by
  obtain ⟨m, e1, e2, S, w⟩ := par_rd hi h
  refine ⟨m, e1, e2, S, Want.imp w fun rs env w => fun vs m' fp e3 e4 S' s ok => ?_⟩
  obtain ⟨l, q⟩ := w vs m' fp e3 e4 S' s ok
  match vs, l, q with
  | [u, v, w], _, q => exact ⟨u, v, w, rfl, q⟩
theorem sets_names : ∀ {is : List Nat} {vs : List V} {σ : L2.St} {H : Hp} {Q : L2.St → Hp → Prop}, vs.length = is.length → Q (setL σ is vs) H → (is.foldr (fun i gs => gCons (gName i) gs) gNil) vs σ H Q
  | [], vs, σ, H, Q, l, q => by
    have : vs = [] := List.eq_nil_of_length_eq_zero l
    subst this
    exact ⟨rfl, q⟩
  | i :: is, [], σ, H, Q, l, q => by simp at l
  | i :: is, v :: vs, σ, H, Q, l, q => ⟨v, vs, rfl, sets_names (is := is) (by simpa using l) q⟩
theorem RtFp.gro {m m' m0 : Mo} {r : Rt} {v : V} {f : Fp} (S : Sta C m) (h : RtFp C m m0 r v f) (g : Gro m m') : RtFp C m' m0 r v f :=
  h.step S (g.step S) (by cases r <;> simp [Rt.hot]) g.σ
theorem RtsD.gro {m m' m0 : Mo} {rs : List Rt} {vs : List V} {f : Fp} (S : Sta C m) (h : RtsD C m m0 rs vs f) (g : Gro m m') : RtsD C m' m0 rs vs f := by
  induction h with
  | nil => exact .nil
  | cons a _ c ih => exact .cons (a.gro S g) ih c
theorem s_parN {is : List Nat} {k : Nat} (hk : k = is.length) (hz : is.length ≤ 1000) (hi : ∀ i ∈ is, i < C.n ∧ i ∉ C.IO) (h : PS X st (tAsg (tTup (rdD C E T fs)) (L2.gTup C.K k (is.foldr (fun i gs => gCons (gName i) gs) gNil)))) : PS X st (rdS C E (T ++ is) (msPar is fs)) := PS.wk h fun D σ H h => by
  obtain ⟨m, e1, e2, S, w⟩ := h
  refine ⟨m, e1, e2, S, Want.imp w.bind fun rs env w => fun vs m' fp e3 e4 S' s ok => ?_⟩
  subst e3
  cases hs : storeL is rs m'.env with
  | none => rw [hs] at w; exact w.elim
  | some env' =>
    rw [hs] at w
    have l0 := (stores (T := T) s S' ok hs hi).1
    refine ⟨by rw [l0, sizeLine_is]; omega, fun p hp => ?_⟩
    have G := gro_own (o := .tup vs) S' hp
    obtain ⟨l, m2, p1, p2, p3, p4, p5⟩ := stores (T := T) (m := { m' with H := upd m'.H p (.tup vs) }) (step_nil S' s G) (S'.gro G) (ok.gro S' G) hs hi
    refine ⟨p, vs, rfl, .inl (.inl upd_same), by rw [l, hk], sets_names l ?_⟩
    have := w m2 p1 p4 p5
    have q : D.nx m2.σ m2.H := this
    rw [p2, p3] at q
    rw [← e4]
    exact q
def msAug (i : Nat) (g : Rt → Rt → Option Rt) (f : ME) : MS := fun env => match env[i]? with
  | some (some (.s d)) => (f env).bind fun r e => match (g (.val d) r).bind Rt.o with
    | some o => .ok .nx (e.set i (some o))
    | none => .bad
  | _ => .bad
theorem s_aug (i : Nat) {g : Rt → Rt → Option Rt} {ti : TIp} (L : Loc2 C ti g) (hi : i < C.n) (hIO : i ∉ C.IO) (h : PS X st (tAug i (rdE C E T f) ti)) : PS X st (rdS C E (T ++ [i]) (msAug i g f)) := PS.wk h fun D σ H ⟨m, e1, e2, S, w⟩ => by
  subst e1 e2
  unfold msAug at w
  cases he : m.env[i]? with
  | none => rw [he] at w; exact w.elim
  | some oo =>
    cases oo with
    | none => rw [he] at w; exact w.elim
    | some o0 =>
      cases o0 with
      | s d =>
        rw [he] at w
        obtain ⟨v, f0, s1, s2, rfl, r⟩ := S.slot he
        refine ⟨v, s1, m, rfl, rfl, S, Want.imp w.bind fun ry env w => fun y m' e3 e4 S' s ok => ?_⟩
        subst e3
        cases hg : g (.val d) ry with
        | none => rw [hg] at w; exact w.elim
        | some rz =>
          rw [hg] at w
          refine L m' v y (.val d) ry rz (fun _ => True) _ _ S' (RpD.mono s.exF _ _ r) ok hg fun z m2 G ok2 => ?_
          simp only [Option.bind_some] at w
          cases ho : rz.o with
          | none => rw [ho] at w; exact w.elim
          | some o =>
            rw [ho] at w
            obtain ⟨fp, S3, s3⟩ := store_rd (i := i) (step_nil S' s G) (S'.gro G) (ok2.av (old_new s)) ho (by rw [(S'.gro G).ln]; exact hi) hIO
            have := w _ (by show m2.env.set i (some o) = _; rw [G.env]) S3 s3
            have q : D.nx (m2.σ.set i (some z)) m2.H := this
            rw [G.σ, e4] at q
            exact q
      | lst _ => rw [he] at w; exact w.elim
      | dk _ _ => rw [he] at w; exact w.elim
      | dt _ _ => rw [he] at w; exact w.elim
      | ins _ _ _ => rw [he] at w; exact w.elim
end
end L3
namespace L3
open PySem L2
def wipeE : Env → List Nat → Env
  | e, [] => e
  | e, v :: vs => wipeE (e.set v none) vs
def Mo.reset (m : Mo) (vs : List Nat) (σ' : L2.St) : Mo := { fgs m vs with σ := σ' }
theorem fgs_env : ∀ {vs : List Nat} {m : Mo}, (fgs m vs).env = wipeE m.env vs
  | [], m => rfl
  | v :: vs, m => fgs_env (vs := vs) (m := m.fg v)
theorem wipeE_none : ∀ {vs : List Nat} {e : Env} {i : Nat}, i ∈ vs → i < e.length → (wipeE e vs)[i]? = some none
  | [], e, i, h, _ => by simp at h
  | v :: vs, e, i, h, hl => by
    show (wipeE (e.set v none) vs)[i]? = some none
    by_cases q : i ∈ vs
    · exact wipeE_none q (by rw [List.length_set]; exact hl)
    · have hv : i = v := (List.mem_cons.mp h).resolve_right q
      subst hv
      have z : ∀ {vs : List Nat} {e : Env}, i ∉ vs → e[i]? = some none → (wipeE e vs)[i]? = some none := by
        intro vs
        induction vs with
        | nil => intro e _ h; exact h
        | cons v vs ih =>
          intro e hn h
          refine ih (fun q => hn (by simp [q])) ?_
          rw [List.getElem?_set_ne (fun q => hn (by simp [q]))]; exact h
      exact z q (by rw [List.getElem?_set_self hl])
theorem Sta.resig {C : Cn} {m : Mo} {σ' : L2.St} (S : Sta C m) (hl : σ'.length = m.σ.length) (h : ∀ i : Nat, σ'[i]? = m.σ[i]? ∨ m.env[i]? = some none) (hp : ∀ i ∈ C.IO, σ'[i]? = m.σ[i]?) : Sta C { m with σ := σ' } :=
  ⟨S.ln, by show σ'.length = _; rw [hl]; exact S.l1, S.l2, fun i o s f h1 h2 h3 => by
    rcases h i with e | e
    · exact S.sl i o s f h1 (by rw [← e]; exact h2) h3
    · have h1 : m.env[i]? = some o := h1
      rw [e] at h1; cases h1
      obtain ⟨o', s', q1, q2, q3⟩ := S.slotF h3
      rw [e] at q1; cases q1
      exact q3, S.ex, S.exF, S.newF, S.nd, S.dj, S.df, S.own, S.frame, S.dom, fun i hi => by show σ'[i]? = _; rw [hp i hi]; exact S.pin i hi⟩
theorem Step.resig {m0 m : Mo} {T : List Nat} {σ' : L2.St} (s : Step T m0 m) (h : ∀ i : Nat, i ∉ T → σ'[i]? = m.σ[i]?) : Step T m0 { m with σ := σ' } :=
  ⟨s.exF, s.keep, s.dom, s.newF, s.newO, s.len, fun i hi => by
    obtain ⟨u1, u2, u3, u4⟩ := s.unt i hi
    exact ⟨u1, u2, (h i hi).trans u3, u4⟩⟩
theorem reset_ok {C : Cn} {T : List Nat} {m0 m : Mo} {vs : List Nat} {σ' : L2.St} (s : Step T m0 m) (S : Sta C m) (hvs : ∀ v ∈ vs, v ∉ C.IO) (hl : σ'.length = m.σ.length) (h : ∀ j, j ∉ vs → σ'[j]? = m.σ[j]?) :
    Sta C (m.reset vs σ') ∧ Step (T ++ vs) m0 (m.reset vs σ') ∧ (m.reset vs σ').F = m.F ∧ (m.reset vs σ').H = m.H ∧ (m.reset vs σ').env = wipeE m.env vs ∧ ∀ a ∈ (m.reset vs σ').fps.flatten, a ∈ m.fps.flatten := by
  obtain ⟨S1, s1, e1, e2, e3, k, _⟩ := fgs_ok (xs := vs) s S
  have q1 : ∀ i : Nat, σ'[i]? = (fgs m vs).σ[i]? ∨ (fgs m vs).env[i]? = some none := fun i => by
    by_cases q : i ∈ vs
    · by_cases hi : i < m.env.length
      · right; rw [fgs_env]; exact wipeE_none q hi
      · left
        rw [e3, List.getElem?_eq_none (by rw [hl, S.l1]; omega), List.getElem?_eq_none (by rw [S.l1]; omega)]
    · left; rw [e3]; exact h i q
  exact ⟨S1.resig (by rw [hl, e3]) q1 (fun i hi => by rw [e3]; exact h i fun z => hvs i z hi), s1.resig (fun i hi => by rw [e3]; exact h i fun z => hi (by simp [z])), e1, e2, fgs_env, fun a ha => by
    obtain ⟨j, f, _, e, z⟩ := k a ha
    exact mem_fps e z⟩
theorem Sta.junk {C : Cn} {m : Mo} {d : Addr} {o : HO} (S : Sta C m) (hF : m.F d = none) (hp : d ∉ m.fps.flatten) (h0 : C.H0 d = none) : Sta C { m with H := upd m.H d o } :=
  ⟨S.ln, S.l1, S.l2, fun i oo s f h1 h2 h3 => by
    have q := S.sl i oo s f h1 h2 h3
    cases oo with
    | none => exact q
    | some t =>
      obtain ⟨v, e, r⟩ := q
      exact ⟨v, e, r.upd fun z => hp (mem_fps h3 z)⟩, fun a u h => by
    show upd m.H d o a = _
    rw [upd_ne (fun z => by subst z; rw [hF] at h; cases h)]; exact S.ex a u h, S.exF, S.newF, S.nd, S.dj, S.df, S.own, fun b u h n => by
    show upd m.H d o b = _
    rw [upd_ne (fun z => by subst z; rw [h0] at h; cases h)]; exact S.frame b u h n, fun b h => by
    show upd m.H d o b ≠ _
    rw [upd_ne (fun z => by subst z; exact h h0)]; exact S.dom b h, S.pin⟩
theorem Step.junk {C : Cn} {T : List Nat} {m0 m : Mo} {d : Addr} {o : HO} (S0 : Sta C m0) (s : Step T m0 m) (h0 : m0.H d = none) : Step T m0 { m with H := upd m.H d o } :=
  ⟨s.exF, fun b u h n => by
    show upd m.H d o b = _
    rw [upd_ne (fun z => by subst z; rw [h0] at h; cases h)]; exact s.keep b u h n, fun b h => by
    show upd m.H d o b ≠ _
    rw [upd_ne (fun z => by subst z; exact h h0)]; exact s.dom b h, s.newF, s.newO, s.len, fun i hi => by
    obtain ⟨u1, u2, u3, u4⟩ := s.unt i hi
    refine ⟨u1, u2, u3, fun f hf a ha => ?_⟩
    show upd m.H d o a = _
    rw [upd_ne (fun z => by subst z; exact S0.inH a (mem_fps hf ha) h0)]; exact u4 f hf a ha⟩
theorem wipe_get {σ : L2.St} : ∀ {vs : List Nat} {i : Nat}, i ∉ vs → (wipe σ vs)[i]? = σ[i]?
  | [], i, _ => rfl
  | v :: vs, i, h => by
    show ((wipe σ vs).set v none)[i]? = _
    rw [List.getElem?_set_ne (fun z => h (by simp [z]))]
    exact wipe_get fun z => h (by simp [z])
theorem wipe_in {σ : L2.St} : ∀ {vs : List Nat} {i : Nat}, i ∈ vs → i < σ.length → (wipe σ vs)[i]? = some none
  | [], i, h, _ => by simp at h
  | v :: vs, i, h, hl => by
    show ((wipe σ vs).set v none)[i]? = _
    by_cases q : v = i
    · subst q; rw [List.getElem?_set_self (by rw [wipe_length]; exact hl)]
    · rw [List.getElem?_set_ne q]
      exact wipe_in ((List.mem_cons.mp h).resolve_left fun z => q z.symm) hl
theorem wipe_ext {σ σ' : L2.St} {vs : List Nat} (hl : σ'.length = σ.length) (h : ∀ j, j ∉ vs → σ'[j]? = σ[j]?) : wipe σ' vs = wipe σ vs := by
  apply List.ext_getElem?
  intro i
  by_cases q : i ∈ vs
  · by_cases z : i < σ.length
    · rw [wipe_in q z, wipe_in q (by rw [hl]; exact z)]
    · rw [List.getElem?_eq_none (by rw [wipe_length, hl]; omega), List.getElem?_eq_none (by rw [wipe_length]; omega)]
  · rw [wipe_get q, wipe_get q, h i q]
def lcL (vs : List Nat) (set : D → Env → Option Env) (t : MT) (f : ME) : List D → Env → Rs (List D)
  | [], e => .ok [] e
  | d :: ds, e => match set d (wipeE e vs) with
    | none => .bad
    | some e1 => (t e1).bind fun b e2 => if b = true then (f e2).bind fun r e3 => (match r with
      | .val y => (lcL vs set t f ds e3).bind fun ys e4 => .ok (y :: ys) e4
      | _ => .bad) else lcL vs set t f ds e2
def mLc (Tb vs : List Nat) (set : D → Env → Option Env) (fi : MI) (t : MT) (f : ME) : ME := fun env => (fi env).bind fun src e => if src.hot Tb then .bad else if src.items.length ≤ 16777216 then
  (lcL vs set t f src.items e).bind fun ys e2 => .ok (.own (.lst (ys.map O.s))) (wipeE e2 vs) else .bad
def mYes : MT := fun env => .ok true env
section
variable {X : Cx} {C : Cn} {E : WX} {e a b tg : Expr} {pos : Pos} {T T1 T2 T3 Tt vs : List Nat} {fs : MA} {es : List Expr} {f f1 f2 : ME} {g : MS} {t : MT} {st : Stmt}
theorem PTs.wk {es : List Expr} {t t' : TT} (h : PTs X es t) (w : ∀ σ H Q, t' σ H Q → t σ H Q) : PTs X es t' := ⟨fun pins s σ H Q I q => h.run pins s σ H Q I (w σ H Q q)⟩
theorem ts_nil : PTs X [] (rdT C E [] mYes) := PTs.wk pts_nil fun σ H Q ⟨m, e1, e2, S, w⟩ => by
  subst e1
  exact w m rfl e2 S (Step.refl _ _)
theorem ts_one (h : PT X e (rdT C E T t)) : PTs X [e] (rdT C E T t) := pts_one h
theorem rdLc {set : D → Env → Option Env} {gt : TG} {fi : MI} {σ : L2.St} {H : Hp} {Q : VK} (hg : TgOk C gt Tt set) (hTt : ∀ i ∈ Tt, i ∈ vs) (hvs : ∀ i ∈ vs, i ∉ C.IO)
    (h : rdE C E (T1 ++ (vs ++ (Tt ++ (T2 ++ T3)))) (mLc (vs ++ (Tt ++ (T2 ++ T3))) vs set fi t f) σ H Q) : tLc (rdI C E T1 fi) gt (rdT C E T2 t) (rdE C E T3 f) vs σ H Q := by
  obtain ⟨m, e1, e2, S, w⟩ := h
  refine ⟨m, e1, e2, S, Want.imp w.bind fun src env w => fun J m1 e3 e4 S1 s1 jok => ?_⟩
  generalize hTb : vs ++ (Tt ++ (T2 ++ T3)) = Tb at w
  have tbv : ∀ i ∈ vs, i ∈ Tb := fun i hi => by rw [← hTb]; simp [hi]
  by_cases hh : src.hot Tb = true
  · rw [if_pos hh] at w; exact w.elim
  rw [if_neg hh] at w
  by_cases hz : src.items.length ≤ 16777216
  rotate_left
  · rw [if_neg hz] at w; exact w.elim
  rw [if_pos hz] at w
  have w := Want.bind w
  have hdep : ∀ x, src.dep = some x → x ∉ Tb := fun x hx z => hh (by unfold Src.hot; rw [hx]; simpa using z)
  subst e3
  intro d hd
  have dF : m1.F d = none := S1.fNone hd
  have d0 : C.H0 d = none := S1.h0None hd
  -- what stays true between the turns
  refine ⟨fun i n H' => n = src.items.length - i ∧ i ≤ src.items.length ∧ ∃ (m2 : Mo) (ds : List D) (xs : List V), m2.H = H' ∧ m2.σ.length = σ.length ∧ (∀ j, j ∉ vs → m2.σ[j]? = σ[j]?) ∧ Sta C m2 ∧ Step Tb m1 m2 ∧ m2.H d = some (.lst xs) ∧ m2.F d = none ∧ d ∉ m2.fps.flatten ∧
    RpDs C.K C.cl m2.F ds xs ∧ ds.length ≤ i ∧ Want C E m (lcL vs set t f (src.items.drop i) m2.env) fun ys env' => ∀ (m3 : Mo) (xs' : List V), m3.env = env' → m3.σ.length = σ.length → (∀ j, j ∉ vs → m3.σ[j]? = σ[j]?) → Sta C m3 → Step Tb m1 m3 → m3.H d = some (.lst xs') → m3.F d = none → d ∉ m3.fps.flatten →
      RpDs C.K C.cl m3.F (ds ++ ys) xs' → Q (.ref d) m3.H, ⟨_, rfl, Nat.zero_le _, { m1 with H := upd m1.H d (.lst []) }, [], [], rfl, by rw [← e4], fun j _ => by rw [← e4], S1.gro (gro_own S1 hd), ((gro_own S1 hd).step S1).wk (by simp), upd_same, dF, fun z => S1.inH d z hd, rfl, Nat.le_refl _, ?_⟩, ?_⟩
  · rw [List.drop_zero]
    refine Want.imp w fun ys env' w m3 xs' a1 a2 a3 a4 a5 a6 a7 a8 a9 => ?_
    -- the end
    obtain ⟨S4, s4, b1, b2, b3, b4⟩ := reset_ok (σ' := σ) a5 a4 hvs (by rw [a2]) (fun j hj => (a3 j hj).symm)
    rw [List.nil_append] at a9
    have s5 : Step (T1 ++ Tb) m (m3.reset vs σ) := (s1.trans s4).wk fun i hi => by
      simp only [List.mem_append] at hi ⊢
      rcases hi with z | z | z
      · exact .inl z
      · exact .inr z
      · exact .inr (tbv i z)
    have := w (.ref d) (m3.reset vs σ) (by rw [b3, a1]) rfl S4 (hTb ▸ s5) ⟨[d], ⟨d, xs', [], rfl, rfl, by rw [b2]; exact a6, by rw [b1]; exact a9.os⟩, by simp, fun a ha => by
      have ha : a = d := by simpa using ha
      subst ha
      exact ⟨by rw [b1]; exact a7, fun z => a8 (b4 a z), .inl d0, fun z => s1.dom a z.1 hd⟩⟩
    rw [b2] at this
    exact this
  · rintro i n H' ⟨rfl, hi, m2, ds, xs, rfl, hl, hσ, S2, s2, hD, hF, hp, r2, hds, w2⟩
    have hdepJ : ∀ x, src.dep = some x → x ∉ Tb := hdep
    obtain ⟨j1, j2⟩ := jok m2 Tb S2 s2 rfl hdepJ i
    by_cases hlt : i < src.items.length
    · obtain ⟨go, yl⟩ := j1 src.items[i] (List.getElem?_eq_getElem hlt)
      rw [List.drop_eq_getElem_cons hlt] at w2
      unfold lcL at w2
      refine .inr ⟨go, fun H' => ∃ (m3 : Mo) (ds : List D) (xs : List V), m3.H = H' ∧ m3.σ.length = σ.length ∧ (∀ j, j ∉ vs → m3.σ[j]? = σ[j]?) ∧ Sta C m3 ∧ Step Tb m1 m3 ∧ m3.H d = some (.lst xs) ∧ m3.F d = none ∧ d ∉ m3.fps.flatten ∧
        RpDs C.K C.cl m3.F ds xs ∧ ds.length ≤ i + 1 ∧ Want C E m (lcL vs set t f (src.items.drop (i + 1)) m3.env) fun ys env' => ∀ (m3 : Mo) (xs' : List V), m3.env = env' → m3.σ.length = σ.length → (∀ j, j ∉ vs → m3.σ[j]? = σ[j]?) → Sta C m3 → Step Tb m1 m3 → m3.H d = some (.lst xs') → m3.F d = none → d ∉ m3.fps.flatten →
          RpDs C.K C.cl m3.F (ds ++ ys) xs' → Q (.ref d) m3.H, fun H' q => ⟨_, by omega, rfl, hlt, q⟩, fun x H' y => ?_⟩
      obtain ⟨m3, rfl, G, rx⟩ := yl x H' y
      have s3 : Step Tb m1 m3 := step_nil S2 s2 G
      have S3 := S2.gro G
      have wl : (wipe σ vs).length = m3.σ.length := by rw [wipe_length, G.σ, hl]
      obtain ⟨S4, s4, b1, b2, b3, b4⟩ := reset_ok (σ' := wipe σ vs) s3 S3 hvs wl (fun j hj => by rw [wipe_get hj, G.σ]; exact (hσ j hj).symm)
      have s4 : Step Tb m1 (m3.reset vs (wipe σ vs)) := s4.wk fun i hi => (List.mem_append.mp hi).elim id (tbv i)
      have s24 : Step vs m2 (m3.reset vs (wipe σ vs)) := by
        have := (reset_ok (σ' := wipe σ vs) (G.step S2) S3 hvs wl (fun j hj => by rw [wipe_get hj, G.σ]; exact (hσ j hj).symm)).2.1
        simpa using this
      cases hs : set src.items[i] (wipeE m2.env vs) with
      | none => rw [hs] at w2; exact w2.elim
      | some e1' =>
        rw [hs] at w2
        have w2 := Want.bind w2
        have dne : m2.H d ≠ none := by rw [hD]; exact fun z => nomatch z
        rw [← b2]
        refine hg (m3.reset vs (wipe σ vs)) _ x e1' _ S4 (by rw [b1]; exact rx) (by rw [b3, G.env]; exact hs) fun m4 a1 a2 a3 a4 => ?_
        have s5 : Step (Tb ++ Tt) m1 m4 := a4 _ _ s4
        have s5 : Step Tb m1 m4 := s5.wk fun i hi => (List.mem_append.mp hi).elim id fun z => tbv i (hTt i z)
        have s25 : Step (vs ++ Tt) m2 m4 := a4 _ _ s24
        have sig4 : m4.σ.length = σ.length ∧ ∀ j, j ∉ vs → m4.σ[j]? = σ[j]? := by
          have q := a4 [] _ (Step.refl [] (m3.reset vs (wipe σ vs)))
          refine ⟨?_, fun j hj => ?_⟩
          · rw [a3.l1, q.len, ← S4.l1]; exact wipe_length σ vs
          · rw [(q.unt j (by simpa using fun z => hj (hTt j z))).2.2.1]
            show (wipe σ vs)[j]? = _
            exact wipe_get hj
        refine ⟨wipe_ext sig4.1 sig4.2, m4, rfl, rfl, a3, ?_⟩
        rw [a1]
        refine Want.mono w2 (s1.trans s5) fun b env' w m5 c1 c2 S5 s6 => ?_
        subst c1
        have s7 : Step Tb m1 m5 := (s5.trans s6).wk fun i hi => (List.mem_append.mp hi).elim id fun z => by rw [← hTb]; simp [z]
        have s27 := s25.trans s6
        have d7 : m5.H d = some (.lst xs) := s27.keep d _ hD hp
        have F7 : m5.F d = none := Classical.byContradiction fun z => (s27.newF d z hF).elim dne hp
        have p7 : d ∉ m5.fps.flatten := fun z => (s27.newO d z).elim dne hp
        cases b with
        | false =>
          dsimp only
          rw [if_neg Bool.false_ne_true] at w ⊢
          exact ⟨m5, ds, xs, rfl, by rw [c2]; exact sig4.1, by rw [c2]; exact sig4.2, S5, s7, d7, F7, p7, r2.mono s27.exF _ _, by omega, w⟩
        | true =>
          dsimp only
          rw [if_pos rfl] at w ⊢
          refine ⟨m5, rfl, c2, S5, ?_⟩
          refine Want.mono w.bind (s1.trans s7) fun r env2 w v m6 c3 c4 S6 s8 ok => ?_
          subst c3
          have s9 : Step Tb m1 m6 := (s7.trans s8).wk fun i hi => (List.mem_append.mp hi).elim id fun z => by rw [← hTb]; simp [z]
          have s29 := s27.trans s8
          have d9 : m6.H d = some (.lst xs) := s29.keep d _ hD hp
          have F9 : m6.F d = none := Classical.byContradiction fun z => (s29.newF d z hF).elim dne hp
          have p9 : d ∉ m6.fps.flatten := fun z => (s29.newO d z).elim dne hp
          split at w
          · rename_i yd
            have rl := r2.length
            have r9 : RpDs C.K C.cl m6.F (ds ++ [yd]) (xs ++ [v]) := by
              have := r2.mono s29.exF
              exact RpDs.append this ⟨v, [], rfl, ok, rfl⟩
            refine ⟨xs, d9, by rw [sizeLine_is, rl]; omega, { m6 with H := upd m6.H d (.lst (xs ++ [v])) }, ds ++ [yd], xs ++ [v], rfl, by show m6.σ.length = _; rw [c4]; exact sig4.1, by show ∀ j, j ∉ vs → m6.σ[j]? = _; rw [c4]; exact sig4.2, S6.junk F9 p9 d0, Step.junk S1 s9 hd, upd_same, F9, p9, r9, by simp; omega, ?_⟩
            refine Want.imp w.bind fun ys env' w m8 xs' a1 a2 a3 a4 a5 a6 a7 a8 a9 => ?_
            exact w m8 xs' a1 a2 a3 a4 a5 a6 a7 a8 (by rw [List.append_assoc] at a9; exact a9)
          · exact w.elim
    · have e : i = src.items.length := by omega
      subst e
      rw [List.drop_length] at w2
      refine .inl ⟨j2 rfl, w2 m2 xs rfl hl hσ S2 s2 hD hF hp (by rw [List.append_nil]; exact r2)⟩
end
end L3
namespace L3
open PySem PySem.Spec PyProof.Rows L2
def SqB (t : Bool) (K : PySem.W.Frag) (H : Hp) (a : Addr) (xs : List V) : Prop := if t = true then SqT K H a xs else SqL K H a xs
def IsB (t : Bool) (h : Heap) (a : Addr) (its : Array Value) : Prop := if t = true then h.IsTuple a its else h.IsList a its
def ItB (t : Bool) (h : Heap) (it a : Addr) (i : Nat) : Prop := if t = true then h.IsTupleIter it a i else h.IsListIter it a i
theorem ItB.obj {t : Bool} {h : Heap} {it a : Addr} {i : Nat} (x : ItB t h it a i) : ∃ o, h.get? it = some o ∧ o.data = .fields #[.ref a, .int i 0] ∧ o.cls = .type (if t = true then "tuple_iterator" else "list_iterator") := by
  cases t with
  | true => obtain ⟨o, e, c, d⟩ := x; exact ⟨o, e, d, c⟩
  | false => obtain ⟨o, e, c, d⟩ := x; exact ⟨o, e, d, c⟩
theorem ItB.at {t : Bool} {h h' : Heap} {it a : Addr} {i : Nat} (x : ItB t h it a i) (k : ∀ o, h.get? it = some o → h'.get? it = some o) : ItB t h' it a i := by
  cases t with
  | true => obtain ⟨o, e, c, d⟩ := x; exact ⟨o, k o e, c, d⟩
  | false => obtain ⟨o, e, c, d⟩ := x; exact ⟨o, k o e, c, d⟩
theorem IsB.obj {t : Bool} {h : Heap} {a : Addr} {its : Array Value} (x : IsB t h a its) : ∃ o, h.get? a = some o ∧ (∃ n, o.data = .seq its n) ∧ o.cls = .type (if t = true then "tuple" else "list") := by
  cases t with
  | true => obtain ⟨o, e, c, d⟩ := x; exact ⟨o, e, d, c⟩
  | false => obtain ⟨o, e, c, d⟩ := x; exact ⟨o, e, d, c⟩
theorem ItB.ne {t t' : Bool} {h : Heap} {it a b : Addr} {i : Nat} {its : Array Value} (x : ItB t h it a i) (y : IsB t' h b its) : b ≠ it := fun e => by
  subst e
  obtain ⟨o, e1, d1, _⟩ := x.obj
  obtain ⟨o', e2, ⟨n, d2⟩, _⟩ := y.obj
  rw [e1] at e2; cases e2
  rw [d1] at d2; cases d2
def drawsB {prog : Program} {w : World} {A : Around} (hh : A.handled = none) (t : Bool) (it a : Addr) (hne : a ≠ it) (its : Array Value) : Draws prog w A it [it, a] its.size (fun i v => its[i]? = some v) (fun i h => ItB t h it a i ∧ IsB t h a its) := by
  cases t with
  | true => exact Draws.tuple hh it a hne its
  | false => exact Draws.list hh it a hne its
theorem beginsB (t : Bool) (a : Addr) (its : Array Value) : Begins (.ref a) { cls := .type (if t = true then "tuple_iterator" else "list_iterator"), data := .fields #[.ref a, .int 0 0] } fun h => IsB t h a its := by
  cases t with
  | true => exact begins_tuple a its
  | false => exact begins_list a its
theorem seqB {X : Cx} {pins : List (Addr × Obj)} {σ : L2.St} {H : Hp} {s : Shared} {t : Bool} {a : Addr} {xs : List V} (I : Inv X pins σ H s) (h : SqB t X.K H a xs) : ∃ its : List Value, Vals xs its ∧ IsB t s.heap a its.toArray := by
  cases t with
  | true => obtain ⟨its, r, p, _⟩ := I.tuple h; exact ⟨its, r, p⟩
  | false => obtain ⟨its, r, p, _⟩ := I.list h; exact ⟨its, r, p.isList⟩
theorem seqB_inj {X : Cx} {pins : List (Addr × Obj)} {σ : L2.St} {H : Hp} {s : Shared} {t : Bool} {a : Addr} {xs ys : List V} (I : Inv X pins σ H s) (h : SqB t X.K H a xs) (h' : SqB t X.K H a ys) : xs = ys := by
  cases t with
  | true => exact I.tuple_inj h h'
  | false => exact I.list_inj h h'

def IteG (K : PySem.W.Frag) (t : Bool) (a : Addr) : It :=
  ⟨fun i H => ∃ (xs : List V) (x : V), SqB t K H a xs ∧ xs[i]? = some x, fun i H v H' => ∃ T x o, v = .ref T ∧ H T = none ∧ o.dict = none ∧ H' = upd H T (.frz o (.tup [.int (i : Nat), x])) ∧ ∀ xs, SqB t K H a xs → xs[i]? = some x, fun i H => ∃ xs : List V, SqB t K H a xs ∧ xs.length = i⟩
theorem turn_enumG {P : Program} {w : World} {K : PySem.W.Frag} {t : Bool} {elts : List Expr} {kk : Nat} {tpos : Pos} (a e it : Addr) :
    Turn P w K (.Tuple elts kk tpos) (IteG K t a) [e, it] e (fun i h => (∃ old, IsEnum h e it ((i : Nat) : Int) old) ∧ ItB t h it a i ∧ e ≠ it) where
  mem := by simp
  obj := fun i h st b hb => by
    obtain ⟨⟨old, he⟩, hit, _⟩ := st
    obtain ⟨o, ho, hd, hc⟩ := hit.obj
    have e' : b = e ∨ b = it := by simpa using hb
    rcases e' with z | z
    · rw [z]; exact ⟨_, he, fun v q => nomatch q⟩
    · rw [z]; exact ⟨o, ho, fun v q => by rw [hd] at q; cases q⟩
  keep := fun i h h' st k => let ⟨⟨old, he⟩, hi, hne⟩ := st; ⟨⟨old, k e (by simp) _ he⟩, hi.at fun o q => k it (by simp) o q, hne⟩
  item := by
    intro X hP hw hK hc i pins s σ H E I hf st hg
    subst hP hw hK
    obtain ⟨⟨old, he⟩, hit, hne⟩ := st
    obtain ⟨xs, x, hq, hx⟩ := hg
    obtain ⟨its, rv, p⟩ := seqB I hq
    obtain ⟨u, hu, ru⟩ := rv.get hx
    have hel : e < s.heap.objs.size := Heap.lt_size he
    have hil : it < s.heap.objs.size := by obtain ⟨_, q, _⟩ := hit.obj; exact Heap.lt_size q
    have nai := hit.ne p
    have hlt : i < its.toArray.size := by
      have := (List.getElem?_eq_some_iff.mp hu).1
      simpa using this
    have hea : e ≠ a := fun z => by
      subst z
      obtain ⟨o', e2, ⟨n, d2⟩, _⟩ := p.obj
      rw [he] at e2; cases e2
      cases d2
    refine wpAny_pyNext_enum_itemC (drawsB (show X.A.in1.handled = none from I.ok.hd hc) t it a nai its.toArray) he ⟨hit, p⟩ hlt hne (by simp [hne, hea]) fun x' h' tk hP ho hit' hT hsz hk => ?_
    have hx' : x' = u := by
      have q : its.toArray[i]? = some x' := hP
      rw [List.getElem?_toArray, hu] at q
      exact (Option.some.inj q).symm
    subst hx'
    refine ⟨_, rfl, wpAny_letOwnedTupleGo_enum (s := { s with heap := h', toks := tk + 1 }) ho fun h'' he' sb => ?_⟩
    have hT2 : h''.get? s.heap.objs.size = some { cls := .type "tuple", data := .seq #[.int i tk, x'] } := (sb.2 _ (Nat.ne_of_gt hel)).trans hT
    have new : ObjOk X.prog X.w (upd H s.heap.objs.size (.frz { cls := .type "tuple", data := .seq #[.int i tk, x'] } (.tup [.int (i : Nat), x]))) h'' s.heap.objs.size (.frz { cls := .type "tuple", data := .seq #[.int i tk, x'] } (.tup [.int (i : Nat), x])) :=
      ⟨hT2, by show 2 ≤ sizeLine; decide, [.int i tk, x'], .cons ⟨_, rfl⟩ (.cons ru .nil), ⟨_, hT2, rfl, _, rfl⟩⟩
    have I1 : Inv X pins σ (upd H s.heap.objs.size (.frz { cls := .type "tuple", data := .seq #[.int i tk, x'] } (.tup [.int (i : Nat), x]))) { s with heap := h'', toks := tk + 1 } :=
      I.turnedNew (ch := [e, it]) (fun b ob hb q => (sb.2 b (fun z => hb (by simp [z]))).trans (hk b ob (fun z => hb (by simp [z])) (fun z => hb (by simp [z])) q)) hf (Nat.le_refl _) new
    refine ⟨.ref s.heap.objs.size, _, I1, rfl, ⟨_, x, _, rfl, I.hok.fresh (Nat.le_refl _), rfl, rfl, fun ys hy => by rw [seqB_inj I hy hq]; exact hx⟩, ⟨⟨x', ?_⟩, hit'.1.at fun o q => (sb.2 it (Ne.symm hne)).trans q, hne⟩, fun b hb => ?_⟩
    · have e1 : ((i + 1 : Nat) : Int) = (i : Int) + 1 := by omega
      rw [e1]; exact he'
    · have hb' : b < s.heap.objs.size := by
        have e' : b = e ∨ b = it := by simpa using hb
        rcases e' with z | z
        · rw [z]; exact hel
        · rw [z]; exact hil
      rw [upd_ne (Nat.ne_of_lt hb')]
      exact (hf b hb).1
  done := by
    intro X hP hw hK hc i pins s σ H E I hf st hg
    subst hP hw hK
    obtain ⟨⟨old, he⟩, hit, hne⟩ := st
    obtain ⟨xs, hq, hx⟩ := hg
    obtain ⟨its, rv, p⟩ := seqB I hq
    obtain ⟨f0, f1, f2, f3, f4, f5⟩ := hf it (by simp)
    have hl := rv.length
    have hsz : i = its.toArray.size := by simp; omega
    subst hsz
    exact wpAny_pyNext_enum_endD (drawsB (show X.A.in1.handled = none from I.ok.hd hc) t it a (hit.ne p) its.toArray) he ⟨hit, p⟩ fun h' eb => ⟨rfl, I.turned (t' := s.toks) (fun b o hb q => eb b o hb q) f0 f1 f3 f4 f5⟩
  self := fun A i s Q E st h => let ⟨⟨_, he⟩, _⟩ := st; wpAny_pyIter_enum he h
theorem meets_enum1 {v : Value} {o : Obj} {H : Heap → Prop} (B : Begins v o H) :
    Meets (Builtin.«enumerate.__new__» ⟨[.type "enumerate", v], []⟩) (fun _ R s => H s.heap ∧
      R (.ok (.ret (.ref (s.heap.push o).objs.size))) { s with heap := (s.heap.push o).push { cls := .type "enumerate", data := .fields #[.none, .bool false, .ref s.heap.objs.size, rawInt 0, .none, .none] } }) :=
  .of_wp fun prog w A R s h => by
    obtain ⟨hp, g, d, tk, os⟩ := s; obtain ⟨h1, h⟩ := h
    have hsub := sub_enumerate
    have q1 : ∀ {A' : Around} {E : Value → Shared → Prop} {Q : Value → Shared → Prop}, Q (.ref hp.objs.size) ⟨hp.push o, g, d, tk, os⟩ → wpAny (model prog w) A' (pyIter v) Q E ⟨hp, g, d, tk, os⟩ :=
      fun q => B.iter prog w _ _ ⟨hp, g, d, tk, os⟩ _ h1 q
    wp_walk using q1
    refine wpAny_stack_any fun st => wpAny_pure ?_
    split
    · rename_i c _ _ _ _ _
      cases (c == Value.type "enumerate")
      · wp_walk using q1
        exact ⟨_, rfl, h⟩
      · wp_walk using q1
        exact ⟨_, rfl, h⟩
    · wp_walk using q1
      exact ⟨_, rfl, h⟩
theorem call_enum1 {prog : Program} {w : World} {A : Around} {E : Value → Shared → Prop} {s : Shared} {v : Value} {o : Obj} {H : Heap → Prop} {Q : Value → Shared → Prop} (B : Begins v o H) (h1 : H s.heap)
    (h : ∀ h', IsEnum h' (s.heap.objs.size + 1) s.heap.objs.size 0 .none → h'.get? s.heap.objs.size = some o → h'.objs.size = s.heap.objs.size + 2 →
      (∀ b o, s.heap.get? b = some o → h'.get? b = some o) → Q (.ref (s.heap.objs.size + 1)) { s with heap := h' }) :
    wpAny (model prog w) A (call (.type "enumerate") [v]) Q E s := by
  refine callType_new F.called_enumerate (by decide) (F.typeCall_enumerate_1 _) (F.newCall_enumerate_1 _) (fun obj => F.args_object_init_2 obj _) F.entry_enumerate_new (meets_enum1 B) ⟨h1, ?_⟩
  have hz : (s.heap.push o).objs.size = s.heap.objs.size + 1 := Heap.size_push ..
  show _ ∧ _
  rw [hz]
  have he : IsEnum ((s.heap.push o).push { cls := .type "enumerate", data := .fields #[.none, .bool false, .ref s.heap.objs.size, rawInt 0, .none, .none] }) (s.heap.objs.size + 1) s.heap.objs.size 0 .none := by
    have := Heap.get?_push_size (s.heap.push o) (o := { cls := .type "enumerate", data := .fields #[.none, .bool false, .ref s.heap.objs.size, rawInt 0, .none, .none] }) rfl
    rw [hz] at this; exact this
  exact ⟨⟨_, he, rfl⟩, h _ he (Heap.get?_push_of_some _ (Heap.get?_push_size _ B.free)) (by rw [Heap.size_push, hz]) fun b o x => Heap.get?_push_of_some _ (Heap.get?_push_of_some _ x)⟩
def iEnumG (K : PySem.W.Frag) (ta : TA) : TI := fun σ H R => ta σ H fun vs H1 => ∃ t a xs, vs = [.ref a] ∧ SqB t K H1 a xs ∧ R (IteG K t a) H1
theorem pi_enumG {X : Cx} {e : Expr} {ta : TA} {p pos tpos : Pos} {elts : List Expr} {kk : Nat} (hg : Gl X "enumerate") (hm : X.mg "enumerate" = none) (ha : PA X [e] ta) (hs : starEach [e] X.env = [(false, eval e X.env)] := by rfl) :
    PI X (.Tuple elts kk tpos) (.Call (.Name "enumerate" p) [e] [] pos) (iEnumG X.K ta) := by
  refine ⟨fun pins s σ H R I h => ?_⟩
  refine Call_ (ld_blt I hg hm boot_enumerate (PyProof.Rows.callWith_type1 (thn (ha.run pos pins s σ H _ I h) fun us s1 ⟨vs, H1, I1, r1, q1⟩ => ?_) hs rfl))
  obtain ⟨t, a, xs, ex, hq, q⟩ := q1
  subst ex
  cases r1 with
  | cons r rr =>
    cases rr
    cases r
    obtain ⟨its, rv, p'⟩ := seqB I1 hq
    refine call_enum1 (beginsB t a its.toArray) p' fun h' he hit hsz hk => wpAny_pyIter_enum he ?_
    have I2 : Inv X pins σ H1 { s1 with heap := h' } := I1.kept (t' := s1.toks) hk
    have hit' : ItB t h' s1.heap.objs.size a 0 := by
      cases t with
      | true => exact ⟨_, hit, rfl, rfl⟩
      | false => exact ⟨_, hit, rfl, rfl⟩
    refine ⟨s1.heap.objs.size + 1, [s1.heap.objs.size + 1, s1.heap.objs.size], _, _, H1, rfl, I2, turn_enumG a (s1.heap.objs.size + 1) s1.heap.objs.size, ⟨⟨.none, he⟩, hit', Nat.succ_ne_self _⟩, fun b hb => ?_, q⟩
    have e' : b = s1.heap.objs.size + 1 ∨ b = s1.heap.objs.size := by simpa using hb
    have hle : s1.heap.objs.size ≤ b := by
      rcases e' with z | z
      · rw [z]; exact Nat.le_add_right _ _
      · rw [z]; exact Nat.le_refl _
    exact I1.fpOk hle (I1.hok.fresh hle)
theorem nadd {n i j : Nat} (h : i ≠ j) : n + i ≠ n + j := fun e => h (by omega)
def ItzG (K : PySem.W.Frag) (t t' : Bool) (a b : Addr) : It :=
  ⟨fun i H => ∃ (xs ys : List V) (x y : V), SqB t K H a xs ∧ SqB t' K H b ys ∧ xs[i]? = some x ∧ ys[i]? = some y,
    fun i H v H' => ∃ T x y o, v = .ref T ∧ H T = none ∧ o.dict = none ∧ H' = upd H T (.frz o (.tup [x, y])) ∧ (∀ xs, SqB t K H a xs → xs[i]? = some x) ∧ ∀ ys, SqB t' K H b ys → ys[i]? = some y,
    fun i H => ∃ xs ys : List V, SqB t K H a xs ∧ SqB t' K H b ys ∧ min xs.length ys.length = i⟩
theorem turn_zipG {P : Program} {w : World} {K : PySem.W.Frag} {t t' : Bool} {elts : List Expr} {kk : Nat} {tpos : Pos} {a b z TI TO i1 i2 : Addr} (n1 : TI ≠ z) (n2 : TO ≠ z) (n3 : TI ≠ TO) (n4 : TI ≠ i1) (n5 : TI ≠ i2) (n6 : z ≠ i1) (n7 : z ≠ i2) (n8 : TO ≠ i1) (n9 : TO ≠ i2) (n10 : i1 ≠ i2)
    (m1 : a ≠ TO) (m2 : b ≠ TO) :
    Turn P w K (.Tuple elts kk tpos) (ItzG K t t' a b) [z, TI, TO, i1, i2] z (fun i h => IsZip h z TI TO .none ∧ IsTupOf2 h TI (.ref i1) (.ref i2) ∧ (∃ x y, IsTupOf2 h TO x y) ∧ ItB t h i1 a i ∧ ItB t' h i2 b i) where
  mem := by simp
  obj := fun i h st c hc => by
    obtain ⟨hz, hTI, ⟨x, y, hTO⟩, q1, q2⟩ := st
    obtain ⟨o1, e1, d1, _⟩ := q1.obj
    obtain ⟨o2, e2, d2, _⟩ := q2.obj
    have e' : c = z ∨ c = TI ∨ c = TO ∨ c = i1 ∨ c = i2 := by simpa using hc
    rcases e' with q | q | q | q | q
    · rw [q]; exact ⟨_, hz, fun v q => nomatch q⟩
    · rw [q]; exact ⟨_, hTI, fun v q => nomatch q⟩
    · rw [q]; exact ⟨_, hTO, fun v q => nomatch q⟩
    · rw [q]; exact ⟨o1, e1, fun v q => by rw [d1] at q; cases q⟩
    · rw [q]; exact ⟨o2, e2, fun v q => by rw [d2] at q; cases q⟩
  keep := fun i h h' st k => by
    obtain ⟨hz, hTI, ⟨x, y, hTO⟩, h1, h2⟩ := st
    exact ⟨k z (by simp) _ hz, k TI (by simp) _ hTI, ⟨x, y, k TO (by simp) _ hTO⟩, h1.at fun o q => k i1 (by simp) o q, h2.at fun o q => k i2 (by simp) o q⟩
  item := by
    intro X hP hw hK hc i pins s σ H E I hf st hg
    subst hP hw hK
    obtain ⟨hz, hTI, ⟨x0, y0, hTO⟩, h1, h2⟩ := st
    obtain ⟨xs, ys, x, y, hqx, hqy, hx, hy⟩ := hg
    obtain ⟨its, rv, p⟩ := seqB I hqx
    obtain ⟨its2, rv2, p2⟩ := seqB I hqy
    obtain ⟨u, hu, ru⟩ := rv.get hx
    obtain ⟨u2, hu2, ru2⟩ := rv2.get hy
    have hzl : z < s.heap.objs.size := Heap.lt_size hz
    have lt1 : i < its.toArray.size := by have := (List.getElem?_eq_some_iff.mp hu).1; simpa using this
    have lt2 : i < its2.toArray.size := by have := (List.getElem?_eq_some_iff.mp hu2).1; simpa using this
    have nz : ∀ {t : Bool} {a : Addr} {its : Array Value}, IsB t s.heap a its → z ≠ a := fun p e => by
      subst e
      obtain ⟨o', e2, ⟨n, d2⟩, _⟩ := p.obj
      rw [hz] at e2; cases e2
      cases d2
    have sep : ZipSep2 z TI TO i1 i2 [i1, a] [i2, b] := ⟨n1, n2, n3, n4, by simp, by simp [n6, nz p], by simp [n8, Ne.symm m1], n5, by simp, by simp [n7, nz p2], by simp [n9, Ne.symm m2], by simp [n10, Ne.symm (h1.ne p2)], by simp [Ne.symm n10, Ne.symm (h2.ne p)]⟩
    have hh : X.A.in1.handled = none := I.ok.hd hc
    refine wpAny_pyNext_zipD2_item sep (drawsB hh t i1 a (h1.ne p) its.toArray) (drawsB hh t' i2 b (h2.ne p2) its2.toArray) hz hTI hTO ⟨h1, p⟩ ⟨h2, p2⟩ lt1 lt2 fun x1 x2 h' tk hP1 hP2 z' TO' h1' h2' hT hsz hk => ?_
    have e1 : x1 = u := by
      have q : its.toArray[i]? = some x1 := hP1
      rw [List.getElem?_toArray, hu] at q
      exact (Option.some.inj q).symm
    have e2 : x2 = u2 := by
      have q : its2.toArray[i]? = some x2 := hP2
      rw [List.getElem?_toArray, hu2] at q
      exact (Option.some.inj q).symm
    subst e1 e2
    refine ⟨_, rfl, wpAny_letOwnedTupleGo_zip (s := { s with heap := h', toks := tk }) z' fun h'' z'' sb => ?_⟩
    have hT2 : h''.get? s.heap.objs.size = some { cls := .type "tuple", data := .seq #[x1, x2] } := (sb.2 _ (Nat.ne_of_gt hzl)).trans hT
    have new : ObjOk X.prog X.w (upd H s.heap.objs.size (.frz { cls := .type "tuple", data := .seq #[x1, x2] } (.tup [x, y]))) h'' s.heap.objs.size (.frz { cls := .type "tuple", data := .seq #[x1, x2] } (.tup [x, y])) :=
      ⟨hT2, by show 2 ≤ sizeLine; decide, [x1, x2], .cons ru (.cons ru2 .nil), ⟨_, hT2, rfl, _, rfl⟩⟩
    have I1 : Inv X pins σ (upd H s.heap.objs.size (.frz { cls := .type "tuple", data := .seq #[x1, x2] } (.tup [x, y]))) { s with heap := h'', toks := tk } :=
      I.turnedNew (ch := [z, TI, TO, i1, i2]) (fun c o hb q => (sb.2 c (fun q' => hb (by simp [q']))).trans (hk c o (fun q' => hb (by simp [q'])) (fun q' => hb (by simp [q'])) (fun q' => hb (by simp [q'])) (fun q' => hb (by simp [q'])) q)) hf (Nat.le_refl _) new
    refine ⟨.ref s.heap.objs.size, _, I1, rfl, ⟨_, x, y, _, rfl, I.hok.fresh (Nat.le_refl _), rfl, rfl, fun l hl => by rw [seqB_inj I hl hqx]; exact hx, fun l hl => by rw [seqB_inj I hl hqy]; exact hy⟩, ⟨z'', ?_, ⟨x1, x2, ?_⟩, ?_, ?_⟩, fun c hcm => ?_⟩
    · exact (sb.2 _ n1).trans (hk _ _ n1 n3 n4 n5 hTI)
    · exact (sb.2 _ n2).trans TO'
    · exact h1'.1.at fun o q => (sb.2 _ n6.symm).trans q
    · exact h2'.1.at fun o q => (sb.2 _ n7.symm).trans q
    · have hlt : c < s.heap.objs.size := by
        have e' : c = z ∨ c = TI ∨ c = TO ∨ c = i1 ∨ c = i2 := by simpa using hcm
        rcases e' with q | q | q | q | q
        · rw [q]; exact hzl
        · rw [q]; exact Heap.lt_size hTI
        · rw [q]; exact Heap.lt_size hTO
        · rw [q]; obtain ⟨_, e1, _⟩ := h1.obj; exact Heap.lt_size e1
        · rw [q]; obtain ⟨_, e2, _⟩ := h2.obj; exact Heap.lt_size e2
      rw [upd_ne (Nat.ne_of_lt hlt)]
      exact (hf c hcm).1
  done := by
    intro X hP hw hK hc i pins s σ H E I hf st hg
    subst hP hw hK
    obtain ⟨hz, hTI, ⟨x0, y0, hTO⟩, h1, h2⟩ := st
    obtain ⟨xs, ys, hqx, hqy, hend⟩ := hg
    obtain ⟨its, rv, p⟩ := seqB I hqx
    obtain ⟨its2, rv2, p2⟩ := seqB I hqy
    have l1 := rv.length
    have l2 := rv2.length
    have nz : ∀ {t : Bool} {a : Addr} {its : Array Value}, IsB t s.heap a its → z ≠ a := fun p e => by
      subst e
      obtain ⟨o', e2, ⟨n, d2⟩, _⟩ := p.obj
      rw [hz] at e2; cases e2
      cases d2
    have sep : ZipSep2 z TI TO i1 i2 [i1, a] [i2, b] := ⟨n1, n2, n3, n4, by simp, by simp [n6, nz p], by simp [n8, Ne.symm m1], n5, by simp, by simp [n7, nz p2], by simp [n9, Ne.symm m2], by simp [n10, Ne.symm (h1.ne p2)], by simp [Ne.symm n10, Ne.symm (h2.ne p)]⟩
    have hh : X.A.in1.handled = none := I.ok.hd hc
    exact wpAny_pyNext_zipD2_end sep (drawsB hh t i1 a (h1.ne p) its.toArray) (drawsB hh t' i2 b (h2.ne p2) its2.toArray) hz hTI hTO ⟨h1, p⟩ ⟨h2, p2⟩ (by simp; omega) (by simp; omega) (by simp; omega) fun h' tk hk => ⟨rfl, I.turnedL (t' := tk) (ch := [z, TI, TO, i1, i2]) (fun c o hb q =>
      hk c o (fun q' => hb (by simp [q'])) (fun q' => hb (by simp [q'])) (fun q' => hb (by simp [q'])) (fun q' => hb (by simp [q'])) q) hf⟩
  self := fun A i s Q E st h => wpAny_pyIter_zip st.1 h
def iZipG (K : PySem.W.Frag) (ta : TA) : TI := fun σ H R => ta σ H fun vs H1 => ∃ t t' a b xs ys, vs = [.ref a, .ref b] ∧ SqB t K H1 a xs ∧ SqB t' K H1 b ys ∧ R (ItzG K t t' a b) H1
theorem pi_zipG {X : Cx} {e e2 : Expr} {ta : TA} {p pos tpos : Pos} {elts : List Expr} {kk : Nat} (hg : Gl X "zip") (hm : X.mg "zip" = none) (ha : PA X [e, e2] ta)
    (hs : starEach [e, e2] X.env = (false, eval e X.env) :: starEach [e2] X.env := by rfl) (hpl : (backTo pos (starEach [e2] X.env)).any (·.1) = false := by rfl) :
    PI X (.Tuple elts kk tpos) (.Call (.Name "zip" p) [e, e2] [] pos) (iZipG X.K ta) := by
  refine ⟨fun pins s σ H R I h => ?_⟩
  refine Call_ (ld_blt I hg hm PyProof.Rows.boot_zip (PyProof.Rows.callWith_type1 (thn (ha.run pos pins s σ H _ I h) fun us s1 ⟨vs, H1, I1, r1, q1⟩ => ?_) hs hpl))
  obtain ⟨t, t', a, b, xs, ys, ex, hqx, hqy, q⟩ := q1
  subst ex
  cases r1 with
  | cons r rr =>
    cases rr with
    | cons r' rr =>
      cases rr
      cases r
      cases r'
      have fresh5 : ∀ c, c ∈ [s1.heap.objs.size + 4, s1.heap.objs.size + 2, s1.heap.objs.size + 3, s1.heap.objs.size, s1.heap.objs.size + 1] → FpOk X pins H1 c := fun c hcm => by
        have e' : c = s1.heap.objs.size + 4 ∨ c = s1.heap.objs.size + 2 ∨ c = s1.heap.objs.size + 3 ∨ c = s1.heap.objs.size ∨ c = s1.heap.objs.size + 1 := by simpa using hcm
        have hle : s1.heap.objs.size ≤ c := by
          rcases e' with z | z | z | z | z
          · rw [z]; exact Nat.le_add_right _ _
          · rw [z]; exact Nat.le_add_right _ _
          · rw [z]; exact Nat.le_add_right _ _
          · rw [z]; exact Nat.le_refl _
          · rw [z]; exact Nat.le_add_right _ _
        exact I1.fpOk hle (I1.hok.fresh hle)
      obtain ⟨its, rv, p1⟩ := seqB I1 hqx
      obtain ⟨its2, rv2, p2⟩ := seqB I1 hqy
      have la : a < s1.heap.objs.size := by obtain ⟨_, e1, _⟩ := p1.obj; exact Heap.lt_size e1
      have lb : b < s1.heap.objs.size := by obtain ⟨_, e1, _⟩ := p2.obj; exact Heap.lt_size e1
      refine zip_begins2 (beginsB t a its.toArray) (beginsB t' b its2.toArray) p1 p2 fun h' hz hTI hTO h1 h2 hsz hk => wpAny_pyIter_zip hz ?_
      have I2 : Inv X pins σ H1 { s1 with heap := h' } := I1.kept (t' := s1.toks) hk
      have it1 : ItB t h' s1.heap.objs.size a 0 := by
        cases t with
        | true => exact ⟨_, h1, rfl, rfl⟩
        | false => exact ⟨_, h1, rfl, rfl⟩
      have it2 : ItB t' h' (s1.heap.objs.size + 1) b 0 := by
        cases t' with
        | true => exact ⟨_, h2, rfl, rfl⟩
        | false => exact ⟨_, h2, rfl, rfl⟩
      exact ⟨s1.heap.objs.size + 4, [s1.heap.objs.size + 4, s1.heap.objs.size + 2, s1.heap.objs.size + 3, s1.heap.objs.size, s1.heap.objs.size + 1], _, _, H1, rfl, I2,
        turn_zipG (a := a) (b := b) (z := s1.heap.objs.size + 4) (TI := s1.heap.objs.size + 2) (TO := s1.heap.objs.size + 3) (i1 := s1.heap.objs.size) (i2 := s1.heap.objs.size + 1) (nadd (by decide)) (nadd (by decide)) (nadd (by decide)) (nadd (j := 0) (by decide)) (nadd (by decide)) (nadd (j := 0) (by decide)) (nadd (by decide)) (nadd (j := 0) (by decide)) (nadd (by decide)) (nadd (i := 0) (by decide)) (Nat.ne_of_lt (Nat.lt_of_lt_of_le la (Nat.le_add_right _ _))) (Nat.ne_of_lt (Nat.lt_of_lt_of_le lb (Nat.le_add_right _ _))), ⟨hz, hTI, ⟨_, _, hTO⟩, it1, it2⟩, fresh5, q⟩
end L3
namespace L3
open PySem L2
section
variable {X : Cx} {C : Cn} {E : WX} {e a b tg : Expr} {pos : Pos} {T T1 T2 T3 Tt vs : List Nat} {fs : MA} {es : List Expr} {f f1 f2 : ME} {g : MS} {t : MT} {st : Stmt}
theorem e_lc {set : D → Env → Option Env} {gt : TG} {fi : MI} (hg : TgOk C gt Tt set) (hTt : ∀ i ∈ Tt, i ∈ vs) (hvs : ∀ i ∈ vs, i ∉ C.IO) (h : PE X e (tLc (rdI C E T1 fi) gt (rdT C E T2 t) (rdE C E T3 f) vs)) :
    PE X e (rdE C E (T1 ++ (vs ++ (Tt ++ (T2 ++ T3)))) (mLc (vs ++ (Tt ++ (T2 ++ T3))) vs set fi t f)) := PE.wk h fun σ H Q h => rdLc hg hTt hvs h
theorem set_rd {i : Nat} {D : Ends} {σ : L2.St} {H : Hp} (hlen : i < C.n) (hIO : i ∉ C.IO) (h : rdS C E (T ++ [i]) (msSet i f) D σ H) : rdE C E T f σ H fun x H1 => D.nx (σ.set i (some x)) H1 := by
  obtain ⟨m, e1, e2, S, w⟩ := h
  exact ⟨m, e1, e2, S, Want.imp w.bind fun r env w => fun v m' e3 e4 S' s ok => by
    cases ho : r.o with
    | none => rw [ho] at w; exact w.elim
    | some o =>
      rw [ho] at w
      obtain ⟨fp, S2, s2⟩ := store_rd (i := i) s S' ok ho (by rw [S'.ln]; exact hlen) hIO
      have := w _ (by show m'.env.set i (some o) = _; rw [e3]) S2 s2
      show D.nx (σ.set i (some v)) m'.H
      rw [← e4]
      exact this⟩
theorem settle_rd {σ : L2.St} {H : Hp} {Q : VK} (h : rdE C E T (mStl f) σ H Q) : rdE C E T f σ H Q := by
  obtain ⟨m, e1, e2, S, w⟩ := h
  refine ⟨m, e1, e2, S, Want.imp w.bind fun r env w => fun v m' e3 e4 S' s ok => ?_⟩
  cases r with
  | own o =>
    obtain ⟨F', fp, k1, k2, S2, eF, r⟩ := settle_ok S' ok fun _ _ _ _ => trivial
    refine w v { m' with F := F' } e3 e4 S2 ⟨s.exF.trans eF, s.keep, s.dom, fun a h n => ?_, s.newO, s.len, s.unt⟩ r
    by_cases q : m'.F a = none
    · have z := k1 a (k2 a h q)
      by_cases y : m.H a = none
      · exact .inl y
      · exact .inr (Classical.byContradiction fun w => z ⟨y, w⟩)
    · exact s.newF a q n
  | val d => exact w v m' e3 e4 S' s ok
  | sl x => exact w v m' e3 e4 S' s ok
  | bor x p o => exact w v m' e3 e4 S' s ok
theorem s_setLc {set : D → Env → Option Env} {gt : TG} {fi : MI} {i : Nat} (hg : TgOk C gt Tt set) (hTt : ∀ i ∈ Tt, i ∈ vs) (hvs : ∀ i ∈ vs, i ∉ C.IO) (hlen : i < C.n) (hIO : i ∉ C.IO) (h : PS X st (tAsg (tLc (rdI C E T1 fi) gt (rdT C E T2 t) (rdE C E T3 f) vs) (gName i))) :
    PS X st (rdS C E ((T1 ++ (vs ++ (Tt ++ (T2 ++ T3)))) ++ [i]) (msSet i (mLc (vs ++ (Tt ++ (T2 ++ T3))) vs set fi t f))) := PS.wk h fun D σ H h => rdLc hg hTt hvs (set_rd hlen hIO h)
theorem s_setLcS {set : D → Env → Option Env} {gt : TG} {fi : MI} {i : Nat} (hg : TgOk C gt Tt set) (hTt : ∀ i ∈ Tt, i ∈ vs) (hvs : ∀ i ∈ vs, i ∉ C.IO) (hlen : i < C.n) (hIO : i ∉ C.IO) (h : PS X st (tAsg (tLc (rdI C E T1 fi) gt (rdT C E T2 t) (rdE C E T3 f) vs) (gName i))) :
    PS X st (rdS C E ((T1 ++ (vs ++ (Tt ++ (T2 ++ T3)))) ++ [i]) (msSet i (mStl (mLc (vs ++ (Tt ++ (T2 ++ T3))) vs set fi t f)))) := PS.wk h fun D σ H h => rdLc hg hTt hvs (settle_rd (set_rd hlen hIO h))
def anySrc (r : Rt) : Option (Bool × Src) := match srcOf true r with
  | some s => some (true, s)
  | none => (srcOf false r).map fun s => (false, s)
theorem anySrc_items {m : Mo} {r : Rt} {src : Src} {tup : Bool} {v : V} {av : Addr → Prop} (S : Sta C m) (ok : RtOk C m av r v) (h : anySrc r = some (tup, src)) :
    ∃ a, v = .ref a ∧ ∃ xs, ∀ (m2 : Mo) (T : List Nat), Sta C m2 → Step T m m2 → (∀ x, src.dep = some x → x ∉ T) → SqB tup C.K m2.H a xs ∧ RpDs C.K C.cl m2.F src.items xs := by
  have h' : srcOf tup r = some src := by
    unfold anySrc at h
    split at h
    · rename_i s q; cases h; exact q
    · cases q : srcOf false r with
      | none => rw [q] at h; cases h
      | some s => rw [q] at h; cases h; exact q
  obtain ⟨a, e, xs, k⟩ := seq_items S ok h'
  exact ⟨a, e, xs, k⟩
def enumD : Nat → List D → List D
  | _, [] => []
  | k, d :: ds => .tup [.int (k : Nat), d] :: enumD (k + 1) ds
theorem enumD_get : ∀ {ds : List D} {k i : Nat}, (enumD k ds)[i]? = (ds[i]?).map fun d => .tup [.int ((k + i : Nat) : Int), d]
  | [], k, i => by simp [enumD]
  | d :: ds, k, 0 => by simp [enumD]
  | d :: ds, k, i + 1 => by
    show (enumD (k + 1) ds)[i]? = _
    rw [enumD_get]
    simp only [List.getElem?_cons_succ]
    rw [show k + 1 + i = k + (i + 1) from by omega]
theorem enumD_len : ∀ {ds : List D} {k : Nat}, (enumD k ds).length = ds.length
  | [], k => rfl
  | d :: ds, k => by show (enumD (k + 1) ds).length + 1 = _; rw [enumD_len]; rfl
theorem seqB_fun {t : Bool} {K : PySem.W.Frag} {H : Hp} : True := trivial
theorem j_enum {m : Mo} {a : Addr} {src : Src} {tup : Bool} (h : ∃ xs, ∀ (m2 : Mo) (T : List Nat), Sta C m2 → Step T m m2 → (∀ x, src.dep = some x → x ∉ T) → SqB tup C.K m2.H a xs ∧ RpDs C.K C.cl m2.F src.items xs) : JOk C ⟨enumD 0 src.items, src.dep⟩ m (IteG C.K tup a) := by
  obtain ⟨xs, h⟩ := h
  intro m2 T S2 s2 _ hd i
  obtain ⟨q, r⟩ := h m2 T S2 s2 hd
  refine ⟨fun d hd => ?_, fun hl => ⟨xs, q, by rw [r.length, ← hl]; exact enumD_len.symm⟩⟩
  have hd : (enumD 0 src.items)[i]? = some d := hd
  rw [enumD_get] at hd
  cases hi : src.items[i]? with
  | none => rw [hi] at hd; cases hd
  | some d0 =>
    rw [hi] at hd
    have hd := Option.some.inj hd
    subst hd
    obtain ⟨v, e, rv⟩ := r.get hi
    refine ⟨⟨xs, v, q, e⟩, fun x H' ⟨p, x', o, e1, e2, hdo, e3, e4⟩ => ⟨{ m2 with F := upd m2.F p (.frz o (.tup [.int (i : Nat), x'])), H := upd m2.H p (.frz o (.tup [.int (i : Nat), x'])) }, e3.symm, gro_new S2 e2, ?_⟩⟩
    have := e4 xs q
    rw [e] at this; cases this
    subst e1
    refine ⟨p, _, rfl, SqP.new hdo, .int (i : Nat), [v], rfl, by simp [RpD], v, [], rfl, RpD.mono (gro_new S2 e2).exF _ _ rv, rfl⟩
def iEnumM (fs : MA) : MI := fun env => (fs env).bind fun rs e => match rs with
  | [r] => ofO ((anySrc r).map fun s => ⟨enumD 0 s.2.items, s.2.dep⟩) e
  | _ => .bad
theorem i_enum (hK : X.K = C.K) (h : PI X tg e (iEnumG X.K (rdA C E T fs))) : PI X tg e (rdI C E T (iEnumM fs)) :=
  PI.wk h fun σ H R ⟨m, e1, e2, S, w⟩ => ⟨m, e1, e2, S, Want.imp w.bind fun rs env w => fun vs m' e3 e4 S' s ok => by
    split at w
    · rename_i r
      obtain ⟨x, av, rfl, hx⟩ := ok.one
      cases hs : anySrc r with
      | none => rw [hs] at w; exact w.elim
      | some p =>
        obtain ⟨tup, src⟩ := p
        rw [hs] at w
        obtain ⟨a, rfl, k⟩ := anySrc_items S' hx hs
        rw [hK]
        have k' := k
        obtain ⟨xs, k0⟩ := k'
        exact ⟨tup, a, xs, rfl, (k0 m' [] S' (Step.refl _ _) (fun _ _ => by simp)).1, w _ m' e3 e4 S' s (j_enum k)⟩
    · exact w.elim⟩
def zipD (ds es : List D) : List D := List.zipWith (fun d e => D.tup [d, e]) ds es
def depJ : Option Nat → Option Nat → Option (Option Nat)
  | none, d => some d
  | d, none => some d
  | some x, some y => if x = y then some (some x) else none
theorem depJ_1 {a b d : Option Nat} {x : Nat} (h : depJ a b = some d) (hx : a = some x) : d = some x := by
  subst hx
  cases b with
  | none => exact (Option.some.inj h).symm
  | some y =>
    have h : (if x = y then some (some x) else none) = some d := h
    by_cases e : x = y
    · rw [if_pos e] at h; exact (Option.some.inj h).symm
    · rw [if_neg e] at h; cases h
theorem depJ_2 {a b d : Option Nat} {x : Nat} (h : depJ a b = some d) (hx : b = some x) : d = some x := by
  subst hx
  cases a with
  | none => exact (Option.some.inj h).symm
  | some y =>
    have h : (if y = x then some (some y) else none) = some d := h
    by_cases e : y = x
    · rw [if_pos e] at h; rw [← e]; exact (Option.some.inj h).symm
    · rw [if_neg e] at h; cases h
theorem j_zip {m : Mo} {a b : Addr} {s1 s2 : Src} {t1 t2 : Bool} {dep : Option Nat} (hdep : depJ s1.dep s2.dep = some dep) (h1 : ∃ xs, ∀ (m2 : Mo) (T : List Nat), Sta C m2 → Step T m m2 → (∀ x, s1.dep = some x → x ∉ T) → SqB t1 C.K m2.H a xs ∧ RpDs C.K C.cl m2.F s1.items xs)
    (h2 : ∃ xs, ∀ (m2 : Mo) (T : List Nat), Sta C m2 → Step T m m2 → (∀ x, s2.dep = some x → x ∉ T) → SqB t2 C.K m2.H b xs ∧ RpDs C.K C.cl m2.F s2.items xs) : JOk C ⟨zipD s1.items s2.items, dep⟩ m (ItzG C.K t1 t2 a b) := by
  obtain ⟨xs, h1⟩ := h1
  obtain ⟨ys, h2⟩ := h2
  intro m2 T S2 s _ hd i
  have d1 : ∀ x, s1.dep = some x → x ∉ T := fun x hx => hd x (depJ_1 hdep hx)
  have d2 : ∀ x, s2.dep = some x → x ∉ T := fun x hx => hd x (depJ_2 hdep hx)
  obtain ⟨q1, r1⟩ := h1 m2 T S2 s d1
  obtain ⟨q2, r2⟩ := h2 m2 T S2 s d2
  refine ⟨fun d hd => ?_, fun hl => ⟨xs, ys, q1, q2, ?_⟩⟩
  · have hd : (zipD s1.items s2.items)[i]? = some d := hd
    unfold zipD at hd
    rw [List.getElem?_zipWith] at hd
    cases e1 : s1.items[i]? with
    | none => rw [e1] at hd; cases hd
    | some da =>
      cases e2 : s2.items[i]? with
      | none => rw [e1, e2] at hd; cases hd
      | some db =>
        rw [e1, e2] at hd
        have hd := Option.some.inj hd
        subst hd
        obtain ⟨v, e3, rv⟩ := r1.get e1
        obtain ⟨w, e4, rw'⟩ := r2.get e2
        refine ⟨⟨xs, ys, v, w, q1, q2, e3, e4⟩, fun x H' ⟨p, x', y', o, f1, f2, hdo, f3, f4, f5⟩ => ⟨{ m2 with F := upd m2.F p (.frz o (.tup [x', y'])), H := upd m2.H p (.frz o (.tup [x', y'])) }, f3.symm, gro_new S2 f2, ?_⟩⟩
        have z1 := f4 xs q1
        have z2 := f5 ys q2
        rw [e3] at z1; cases z1
        rw [e4] at z2; cases z2
        subst f1
        exact ⟨p, _, rfl, SqP.new hdo, v, [w], rfl, RpD.mono (gro_new S2 f2).exF _ _ rv, w, [], rfl, RpD.mono (gro_new S2 f2).exF _ _ rw', rfl⟩
  · have hl : (zipD s1.items s2.items).length = i := hl
    unfold zipD at hl
    rw [List.length_zipWith] at hl
    rw [r1.length, r2.length, hl]
def iZipM (fs : MA) : MI := fun env => (fs env).bind fun rs e => match rs with
  | [r, r'] => match anySrc r, anySrc r' with
    | some (_, s), some (_, s') => ofO ((depJ s.dep s'.dep).map fun dep => ⟨zipD s.items s'.items, dep⟩) e
    | _, _ => .bad
  | _ => .bad
theorem i_zip (hK : X.K = C.K) (h : PI X tg e (iZipG X.K (rdA C E T fs))) : PI X tg e (rdI C E T (iZipM fs)) :=
  PI.wk h fun σ H R ⟨m, e1, e2, S, w⟩ => ⟨m, e1, e2, S, Want.imp w.bind fun rs env w => fun vs m' e3 e4 S' s ok => by
    split at w
    · rename_i r r'
      obtain ⟨x, y, av, av', rfl, hx, hy⟩ := ok.two
      split at w
      · rename_i tup src tup' src' hs hs'
        cases hdep : depJ src.dep src'.dep with
        | none => rw [hdep] at w; exact w.elim
        | some dep =>
          rw [hdep] at w
          obtain ⟨a, rfl, k⟩ := anySrc_items S' hx hs
          obtain ⟨b, rfl, k'⟩ := anySrc_items S' hy hs'
          rw [hK]
          have l := k
          have l' := k'
          obtain ⟨xs, k0⟩ := l
          obtain ⟨ys, k0'⟩ := l'
          exact ⟨tup, tup', a, b, xs, ys, rfl, (k0 m' [] S' (Step.refl _ _) (fun _ _ => by simp)).1, (k0' m' [] S' (Step.refl _ _) (fun _ _ => by simp)).1, w _ m' e3 e4 S' s (j_zip hdep k k')⟩
      · exact w.elim
    · exact w.elim⟩
end
end L3
namespace L3
open PySem L2
section
variable {C : Cn}
def lstOf : Rt → Option (List D)
  | .own (.lst os) => leaves os
  | .bor _ _ (.lst os) => leaves os
  | _ => none
theorem RtOk.lstOf {m : Mo} {r : Rt} {v : V} {av : Addr → Prop} {ds : List D} (S : Sta C m) (h : RtOk C m av r v) (e : L3.lstOf r = some ds) : ∃ a xs, v = .ref a ∧ m.H a = some (.lst xs) ∧ RpDs C.K C.cl m.F ds xs := by
  unfold L3.lstOf at e
  split at e
  · obtain rfl := leaves_some e
    obtain ⟨fp, ⟨a, xs, f, rfl, _, h1, h2⟩, _⟩ := h
    exact ⟨a, xs, rfl, h1, (RpOs.leaves h2).2⟩
  · obtain rfl := leaves_some e
    obtain ⟨fp, a, xs, f, rfl, _, h1, h2⟩ := h.bor S
    exact ⟨a, xs, rfl, h1, (RpOs.leaves h2).2⟩
  · cases e
def gAdd : Rt → Rt → Option Rt
  | .val (.int i), .val (.int j) => some (.val (.int (i + j)))
  | .val (.str s), .val (.str t) => if s.length + t.length ≤ 16777216 then some (.val (.str (s ++ t))) else none
  | .val (.tup ds), .val (.tup es) => if ds.length + es.length ≤ 16777216 then some (.val (.tup (ds ++ es))) else none
  | r, r' => match L3.lstOf r, L3.lstOf r' with
    | some ds, some es => if ds.length + es.length ≤ 16777216 then some (.own (.lst ((ds ++ es).map O.s))) else none
    | _, _ => none
def rAdd (K : PySem.W.Frag) : R2 := fun x y H Q => (rI0 fun i j => .int (i + j)) x y H Q ∨ (∃ i j, x = .str i ∧ y = .str j ∧ i.length + j.length ≤ sizeLine ∧ Q (.str (i ++ j)) H) ∨ rCatF K x y H Q ∨ rCat x y H Q
theorem op_addAll {X : Cx} : OpR X (binaryOp .Add) (rAdd X.K) := OpR.or op_add (OpR.or op_add_str (OpR.or op_catF op_cat))
theorem loc_add : Loc2 C (rAdd C.K) gAdd := by
  intro m x y rx ry rz av av' Q S h1 h2 h k
  unfold gAdd at h
  split at h
  · cases h
    exact .inl ⟨_, _, h1, h2, k _ m (Gro.refl S) rfl⟩
  · split at h
    · rename_i z
      cases h
      exact .inr (.inl ⟨_, _, h1, h2, by rw [sizeLine_is]; exact z, k _ m (Gro.refl S) rfl⟩)
    · cases h
  · rename_i ds es
    split at h
    · rename_i z
      cases h
      obtain ⟨a, xs, rfl, q1, r1⟩ := h1
      obtain ⟨b, ys, rfl, q2, r2⟩ := h2
      refine .inr (.inr (.inl ⟨a, b, xs, ys, rfl, rfl, S.ex.sqT q1.1, S.ex.sqT q2.1, by rw [sizeLine_is, r1.length, r2.length]; exact z, fun e => ?_, fun n e => ?_, fun _ _ p o hp hd => ?_⟩))
      · subst e
        have : ds = [] := List.eq_nil_of_length_eq_zero r1.length.symm
        subst this
        exact k _ m (Gro.refl S) ⟨b, ys, rfl, q2, r2⟩
      · subst e
        have : es = [] := List.eq_nil_of_length_eq_zero r2.length.symm
        subst this
        rw [List.append_nil] at k
        exact k _ m (Gro.refl S) ⟨a, xs, rfl, q1, r1⟩
      · have g := gro_new (o := .frz o (.tup (xs ++ ys))) S hp
        exact k _ _ g ⟨p, _, rfl, SqP.new hd, RpDs.append (r1.mono g.exF _ _) (r2.mono g.exF _ _)⟩
    · cases h
  · split at h
    · rename_i ds es e1 e2
      split at h
      · rename_i z
        cases h
        obtain ⟨a, xs, rfl, q1, r1⟩ := h1.lstOf S e1
        obtain ⟨b, ys, rfl, q2, r2⟩ := h2.lstOf S e2
        exact .inr (.inr (.inr ⟨a, b, xs, ys, rfl, rfl, q1, q2, by rw [sizeLine_is, r1.length, r2.length]; exact z, fun p hp => k _ _ (gro_own S hp) (own_lst S hp (RpDs.append r1 r2) (fun z => z hp))⟩))
      · cases h
    · cases h
def cMul2 (i j : Int) : Bool := (decide (i.natAbs < 18446744073709551616) || decide (j.natAbs < 18446744073709551616)) || cMul i j
def gMul : Rt → Rt → Option Rt
  | .val (.tup ds), .val (.int k) => if ds ≠ [] ∧ 2 ≤ k ∧ k ≤ 1000 ∧ ds.length ≤ 1000 then some (.val (.tup (List.replicate k.toNat ds).flatten)) else none
  | .own (.lst os), .val (.int k) => (leaves os).bind fun ds => if 0 ≤ k ∧ k ≤ 1000 ∧ ds.length ≤ 1000 then some (.own (.lst ((List.replicate k.toNat ds).flatten.map O.s))) else none
  | r, r' => gIc cMul2 (fun i j => .int (i * j)) r r'
def rMul (K : PySem.W.Frag) : R2 := fun x y H Q => rRepF K x y H Q ∨ rRep x y H Q ∨ rI (fun i j => CMul i j ∨ CMulW i j) (fun i j => .int (i * j)) x y H Q
theorem op_mulE {X : Cx} : OpR X (binaryOp .Mult) (rI (fun i j => CMul i j ∨ CMulW i j) fun i j => .int (i * j)) := fun pins s σ H x y v u Q I rx ry h => by
  obtain ⟨i, j, e1, e2, c, q⟩ := h
  rcases c with c | c
  · exact op_mul pins s σ H x y v u Q I rx ry ⟨i, j, e1, e2, c, q⟩
  · exact op_mulW pins s σ H x y v u Q I rx ry ⟨i, j, e1, e2, c, q⟩
theorem op_mulAll {X : Cx} : OpR X (binaryOp .Mult) (rMul X.K) := OpR.or op_repF (OpR.or op_rep op_mulE)
def cPow2 (i j : Int) : Bool := decide (0 ≤ j ∧ ((i.natAbs.log2 + 1 : Nat) : Int) * j ≤ 134217728)
theorem op_powW {X : Cx} : OpR X (binaryOp .Pow) (rI (fun i j => 0 ≤ j ∧ ((i.natAbs.log2 + 1 : Nat) : Int) * j ≤ 134217728) fun i j => .int (i ^ j.toNat)) := opI fun i j _ _ _ _ _ hc q => PyProof.Rows.pow_int hc.1 (by
  have b : ∀ x : Int, Builtin.Int.intBits x ≤ x.natAbs.log2 + 1 := fun x => by
    unfold Builtin.Int.intBits
    split <;> omega
  have h1 : (Builtin.Int.intBits i : Int) ≤ ((i.natAbs.log2 + 1 : Nat) : Int) := by exact_mod_cast b i
  exact Int.le_trans (Int.mul_le_mul_of_nonneg_right h1 hc.1) hc.2) q
theorem loc_powW : Loc2 C (rI (fun i j => 0 ≤ j ∧ ((i.natAbs.log2 + 1 : Nat) : Int) * j ≤ 134217728) fun i j => .int (i ^ j.toNat)) (gIc cPow2 fun i j => .int (i ^ j.toNat)) := loc_Ic (fun _ _ h => by simpa [cPow2] using h) fun _ _ _ => rfl
theorem rpDs_rep {K : PySem.W.Frag} {cl : Nat → Addr} {H : Hp} {ds : List D} {xs : List V} (h : RpDs K cl H ds xs) : ∀ n : Nat, RpDs K cl H (List.replicate n ds).flatten (List.replicate n xs).flatten
  | 0 => rfl
  | n + 1 => by
    rw [List.replicate_succ, List.replicate_succ, List.flatten_cons, List.flatten_cons]
    exact RpDs.append h (rpDs_rep h n)
theorem loc_mul : Loc2 C (rMul C.K) gMul := by
  intro m x y rx ry rz av av' Q S h1 h2 h k
  unfold gMul at h
  split at h
  · rename_i ds j
    split at h
    · rename_i z
      cases h
      obtain ⟨a, xs, rfl, q1, r1⟩ := h1
      refine .inl ⟨a, j, xs, rfl, h2, S.ex.sqT q1.1, fun e => z.1 (by subst e; exact List.eq_nil_of_length_eq_zero r1.length.symm), z.2.1, z.2.2.1, by rw [r1.length]; exact z.2.2.2, fun p o hp hd => ?_⟩
      have g : Gro m { m with F := upd m.F p (.frz o (.tup (List.replicate j.toNat xs).flatten)), H := upd m.H p (.frz o (.tup (List.replicate j.toNat xs).flatten)) } := gro_new S hp
      exact k _ _ g ⟨p, _, rfl, SqP.new hd, (rpDs_rep r1 _).mono g.exF _ _⟩
    · cases h
  · rename_i os j
    cases e : leaves os with
    | none => rw [e] at h; cases h
    | some ds =>
      rw [e] at h
      simp only [Option.bind_some] at h
      split at h
      · rename_i z
        cases h
        obtain rfl := leaves_some e
        obtain ⟨fp, ⟨a, xs, f, rfl, _, q1, r1⟩, _⟩ := h1
        have r1 := (RpOs.leaves r1).2
        have a1 : xs.length * j.toNat ≤ 1000 * 1000 := Nat.mul_le_mul (by rw [r1.length]; exact z.2.2) (by omega)
        refine .inr (.inl ⟨a, j, xs, rfl, h2, q1, by omega, by omega, by rw [sizeLine_is]; omega, fun p hp => k _ _ (gro_own S hp) (own_lst S hp (rpDs_rep r1 _) (fun z => z hp))⟩)
      · cases h
  · refine .inr (.inr (loc_Ic (C := C) (c := fun i j => CMul i j ∨ CMulW i j) (cd := cMul2) (g := fun i j => .int (i * j)) (gd := fun i j => .int (i * j)) (fun i j h => ?_) (fun _ _ _ => rfl) m x y rx ry rz av av' Q S h1 h2 h k))
    unfold cMul2 at h
    simp only [Bool.or_eq_true, decide_eq_true_eq] at h
    rcases h with (z | z) | z
    · exact .inl (.inl ⟨by omega, by omega⟩)
    · exact .inl (.inr ⟨by omega, by omega⟩)
    · exact .inr (by simpa [cMul, CMulW] using z)
def gInD (neg : Bool) (rx ry : Rt) : Option Rt := if rx.isSl = true ∨ ry.isSl = true then none else match rx.d.py, ry.d.py with
  | some p, some (.list ps) => if SeqAt.shaped p = true ∧ SeqAt.shaped (.list ps) = true then some (.val (.bl ((ps.any fun z => PyData.eqv z p) != neg))) else none
  | _, _ => none
theorem loc_inD : Loc2 C (rInD C.K) (gInD false) := by
  intro m x y rx ry rz av av' Q S h1 h2 h k
  unfold gInD at h
  by_cases hs : rx.isSl = true ∨ ry.isSl = true
  · rw [if_pos hs] at h; cases h
  rw [if_neg hs] at h
  split at h
  · rename_i p ps e1 e2
    split at h
    · rename_i z
      cases h
      exact ⟨p, ps, RpD.dp _ _ _ (h1.rd S (by cases q : rx.isSl <;> simp_all)) e1, RpD.dp _ _ _ (h2.rd S (by cases q : ry.isSl <;> simp_all)) e2, z.1, z.2, k _ m (Gro.refl S) (by show V.bl _ = V.bl _; simp)⟩
    · cases h
  · cases h
theorem loc_notInD : Loc2 C (rNotInD C.K) (gInD true) := by
  intro m x y rx ry rz av av' Q S h1 h2 h k
  unfold gInD at h
  by_cases hs : rx.isSl = true ∨ ry.isSl = true
  · rw [if_pos hs] at h; cases h
  rw [if_neg hs] at h
  split at h
  · rename_i p ps e1 e2
    split at h
    · rename_i z
      cases h
      exact ⟨p, ps, RpD.dp _ _ _ (h1.rd S (by cases q : rx.isSl <;> simp_all)) e1, RpD.dp _ _ _ (h2.rd S (by cases q : ry.isSl <;> simp_all)) e2, z.1, z.2, k _ m (Gro.refl S) (by show V.bl _ = V.bl _; simp)⟩
    · cases h
  · cases h
def maxI : List Int → Option Int
  | [] => none
  | x :: xs => some (xs.foldl max x)
def minI : List Int → Option Int
  | [] => none
  | x :: xs => some (xs.foldl min x)
theorem foldl_max (xs : List Int) (x : Int) : x ≤ xs.foldl max x ∧ ∀ y ∈ xs, y ≤ xs.foldl max x := by
  induction xs generalizing x with
  | nil => exact ⟨Int.le_refl _, fun y h => by simp at h⟩
  | cons z zs ih =>
    obtain ⟨i1, i2⟩ := ih (max x z)
    refine ⟨Int.le_trans (Int.le_max_left x z) i1, fun y hy => ?_⟩
    rcases List.mem_cons.mp hy with e | e
    · rw [e]; exact Int.le_trans (Int.le_max_right x z) i1
    · exact i2 y e
theorem foldl_min (xs : List Int) (x : Int) : xs.foldl min x ≤ x ∧ ∀ y ∈ xs, xs.foldl min x ≤ y := by
  induction xs generalizing x with
  | nil => exact ⟨Int.le_refl _, fun y h => by simp at h⟩
  | cons z zs ih =>
    obtain ⟨i1, i2⟩ := ih (min x z)
    refine ⟨Int.le_trans i1 (Int.min_le_left x z), fun y hy => ?_⟩
    rcases List.mem_cons.mp hy with e | e
    · rw [e]; exact Int.le_trans i1 (Int.min_le_right x z)
    · exact i2 y e
theorem foldl_max_mem (xs : List Int) (x : Int) : xs.foldl max x = x ∨ xs.foldl max x ∈ xs := by
  induction xs generalizing x with
  | nil => exact .inl rfl
  | cons z zs ih =>
    show zs.foldl max (max x z) = x ∨ zs.foldl max (max x z) ∈ z :: zs
    rcases ih (max x z) with e | e
    · rw [e]
      by_cases h : z ≤ x
      · left; omega
      · right; rw [show max x z = z from by omega]; simp
    · right; simp [e]
theorem foldl_min_mem (xs : List Int) (x : Int) : xs.foldl min x = x ∨ xs.foldl min x ∈ xs := by
  induction xs generalizing x with
  | nil => exact .inl rfl
  | cons z zs ih =>
    show zs.foldl min (min x z) = x ∨ zs.foldl min (min x z) ∈ z :: zs
    rcases ih (min x z) with e | e
    · rw [e]
      by_cases h : x ≤ z
      · left; omega
      · right; rw [show min x z = z from by omega]; simp
    · right; simp [e]
theorem maxI_is {ns : List Int} {k : Int} (h : maxI ns = some k) {m : Int} (hm : m ∈ ns) (h2 : ∀ y ∈ ns, y ≤ m) : m = k := by
  cases ns with
  | nil => cases h
  | cons x xs =>
    have h := Option.some.inj h
    obtain ⟨a, b⟩ := foldl_max xs x
    have le1 : m ≤ k := by
      rw [← h]
      rcases List.mem_cons.mp hm with e | e
      · rw [e]; exact a
      · exact b m e
    have le2 : k ≤ m := h2 k (by
      rw [← h]
      rcases foldl_max_mem xs x with e | e
      · rw [e]; simp
      · simp [e])
    omega
theorem minI_is {ns : List Int} {k : Int} (h : minI ns = some k) {m : Int} (hm : m ∈ ns) (h2 : ∀ y ∈ ns, m ≤ y) : m = k := by
  cases ns with
  | nil => cases h
  | cons x xs =>
    have h := Option.some.inj h
    obtain ⟨a, b⟩ := foldl_min xs x
    have le1 : k ≤ m := by
      rw [← h]
      rcases List.mem_cons.mp hm with e | e
      · rw [e]; exact a
      · exact b m e
    have le2 : m ≤ k := h2 k (by
      rw [← h]
      rcases foldl_min_mem xs x with e | e
      · rw [e]; simp
      · simp [e])
    omega
def gMaxL : List Rt → Option Rt
  | [r] => match r.items with
    | some (true, ds) => (intsOf ds).bind fun ns => (maxI ns).map fun k => .val (.int k)
    | _ => none
  | _ => none
def gMinL : List Rt → Option Rt
  | [r] => match r.items with
    | some (true, ds) => (intsOf ds).bind fun ns => (minI ns).map fun k => .val (.int k)
    | _ => none
  | _ => none
theorem loc_maxL : LocN C (rMax C.K) gMaxL := by
  intro m xs rs ry Q S h e k
  unfold gMaxL at e
  split at e
  · rename_i r
    obtain ⟨x, av, rfl, hx⟩ := h.one
    split at e
    · rename_i ds q
      obtain ⟨a, xs, rfl, h1, h2⟩ := hx.items S q
      rw [if_pos rfl] at h2
      cases z : intsOf ds with
      | none => rw [z] at e; cases e
      | some ns =>
        rw [z] at e
        simp only [Option.bind_some] at e
        cases zk : maxI ns with
        | none => rw [zk] at e; cases e
        | some j =>
          rw [zk] at e; cases e
          refine ⟨a, ns, rfl, by rw [← h1.toInts z]; exact h2, ?_, fun m' hm h3 => ?_⟩
          · cases ns with
            | nil => cases zk
            | cons _ _ => simp
          · rw [maxI_is zk hm h3]
            exact k _ m (Gro.refl S) rfl
    · cases e
  · cases e
theorem loc_minL : LocN C (rMin C.K) gMinL := by
  intro m xs rs ry Q S h e k
  unfold gMinL at e
  split at e
  · rename_i r
    obtain ⟨x, av, rfl, hx⟩ := h.one
    split at e
    · rename_i ds q
      obtain ⟨a, xs, rfl, h1, h2⟩ := hx.items S q
      rw [if_pos rfl] at h2
      cases z : intsOf ds with
      | none => rw [z] at e; cases e
      | some ns =>
        rw [z] at e
        simp only [Option.bind_some] at e
        cases zk : minI ns with
        | none => rw [zk] at e; cases e
        | some j =>
          rw [zk] at e; cases e
          refine ⟨a, ns, rfl, by rw [← h1.toInts z]; exact h2, ?_, fun m' hm h3 => ?_⟩
          · cases ns with
            | nil => cases zk
            | cons _ _ => simp
          · rw [minI_is zk hm h3]
            exact k _ m (Gro.refl S) rfl
    · cases e
  · cases e
section
variable {X : Cx} {E : WX} {e a b o : Expr} {pos : Pos} {T T1 T2 T3 : List Nat} {fs : MA} {es : List Expr} {f f1 f2 f3 : ME}
def mChain (g g' : Rt → Rt → Option Rt) (f1 f2 f3 : ME) : ME := fun env => (f1 env).bind fun r1 e1 => (f2 e1).bind fun r2 e2 => match r1, r2 with
  | .val d1, .val d2 => (match g (.val d1) (.val d2) with
    | some (.val (.bl true)) => (f3 e2).bind fun r3 e3 => ofO (g' (.val d2) r3) e3
    | some (.val (.bl false)) => .ok (.val (.bl false)) e2
    | _ => .bad)
  | _, _ => .bad
theorem chain_rd {r r' : R2} {g g' : Rt → Rt → Option Rt} {σ : L2.St} {H : Hp} {Q : VK} (L : Loc2 C r g) (L' : Loc2 C r' g') (h : rdE C E (T1 ++ (T2 ++ T3)) (mChain g g' f1 f2 f3) σ H Q) : tChain r r' (rdE C E T1 f1) (rdE C E T2 f2) (rdE C E T3 f3) σ H Q :=
  let ⟨m, e1, e2, S, w⟩ := h
  ⟨m, e1, e2, S, Want.imp w.bind fun r1 env w => fun v1 m1 a1 a2 S1 s1 ok1 => by
    subst a1
    refine ⟨m1, rfl, a2, S1, Want.mono w.bind s1 fun r2 env2 w => fun v2 m2 b1 b2 S2 s2 ok2 => ?_⟩
    subst b1
    cases r1 with
    | own o => exact w.elim
    | bor x p o => exact w.elim
    | sl x => exact w.elim
    | val d1 =>
     cases r2 with
     | own o => exact w.elim
     | bor x p o => exact w.elim
     | sl x => exact w.elim
     | val d2 =>
      dsimp only at w
      have s12 := s1.trans s2
      have ok1' : RpD C.K C.cl m2.F d1 v1 := RpD.mono s2.exF _ _ ok1
      split at w
      · rename_i hg
        refine L m2 v1 v2 (.val d1) (.val d2) _ (fun _ => True) (fun _ => True) _ S2 ok1' ok2 hg fun z m3 G okz => ?_
        refine ⟨true, okz, ?_⟩
        rw [if_pos rfl]
        have s13 := step_nil S2 s12 G
        refine ⟨m3, rfl, G.σ.trans b2, S2.gro G, ?_⟩
        rw [G.env]
        refine Want.mono w.bind s13 fun r3 env3 w => fun v3 m4 c1 c2 S4 s4 ok3 => ?_
        subst c1
        cases hg' : g' (.val d2) r3 with
        | none => rw [hg'] at w; exact w.elim
        | some rz =>
          rw [hg'] at w
          have ok2' : RpD C.K C.cl m4.F d2 v2 := RpD.mono (G.exF.trans s4.exF) _ _ ok2
          refine L' m4 v2 v3 (.val d2) r3 rz (fun _ => True) _ _ S4 ok2' ok3 hg' fun y m5 G5 ok5 => ?_
          have s14 : Step (T1 ++ (T2 ++ T3)) m m4 := by have := s13.trans s4; rwa [List.append_assoc] at this
          exact w y m5 G5.env (G5.σ.trans c2) (S4.gro G5) (step_nil S4 s14 G5) (ok5.av (old_new s14))
      · rename_i hg
        refine L m2 v1 v2 (.val d1) (.val d2) _ (fun _ => True) (fun _ => True) _ S2 ok1' ok2 hg fun z m3 G okz => ?_
        refine ⟨false, okz, ?_⟩
        rw [if_neg Bool.false_ne_true]
        have s13 : Step (T1 ++ (T2 ++ T3)) m m3 := (step_nil S2 s12 G).wk fun i hi => by
          simp only [List.mem_append] at hi ⊢
          rcases hi with z | z
          · exact .inl z
          · exact .inr (.inl z)
        exact w _ m3 G.env (G.σ.trans b2) (S2.gro G) s13 rfl
      · exact w.elim⟩
theorem e_chain {r r' : R2} {g g' : Rt → Rt → Option Rt} (L : Loc2 C r g) (L' : Loc2 C r' g') (h : PE X e (tChain r r' (rdE C E T1 f1) (rdE C E T2 f2) (rdE C E T3 f3))) : PE X e (rdE C E (T1 ++ (T2 ++ T3)) (mChain g g' f1 f2 f3)) :=
  PE.wk h fun _ _ _ h => chain_rd L L' h
theorem t_chain {r r' : R2} {g g' : Rt → Rt → Option Rt} (L : Loc2 C r g) (L' : Loc2 C r' g') (h : PT X e (tTest (tChain r r' (rdE C E T1 f1) (rdE C E T2 f2) (rdE C E T3 f3)))) : PT X e (rdT C E (T1 ++ (T2 ++ T3)) (mTest (mChain g g' f1 f2 f3))) :=
  PT.wk h fun _ _ Q h => chain_rd (Q := fun x H' => ∃ k, x = .bl k ∧ Q k H') L L' (rdTest h)
def gRev (r : Rt) : Option Rt := match r.items with
  | some (true, ds) => some (.own (.lst (ds.reverse.map O.s)))
  | _ => none
theorem rpDs_rev {K : PySem.W.Frag} {cl : Nat → Addr} {H : Hp} : ∀ {ds : List D} {xs : List V}, RpDs K cl H ds xs → RpDs K cl H ds.reverse xs.reverse
  | [], xs, h => by rw [show xs = [] from h]; exact rfl
  | d :: ds, xs, h => by
    obtain ⟨v, r, rfl, h1, h2⟩ := h
    rw [List.reverse_cons, List.reverse_cons]
    exact RpDs.append (rpDs_rev h2) ⟨v, [], rfl, h1, rfl⟩
theorem e_rev (hK : X.K = C.K) (h : PE X e (tRevL X.K (rdE C E T f))) : PE X e (rdE C E T (m1 gRev f)) := PE.wk h fun σ H Q h => by
  unfold tRevL
  rw [hK]
  refine rd1 (r := fun x H1 Q => ∃ a xs, x = .ref a ∧ SqL C.K H1 a xs ∧ ∀ p, H1 p = none → Q (.ref p) (upd H1 p (.lst xs.reverse))) ?_ h
  intro m x rx ry av Q S h1 h k
  unfold gRev at h
  split at h
  · rename_i ds q
    cases h
    obtain ⟨a, xs, rfl, r1, h2⟩ := h1.items S q
    rw [if_pos rfl] at h2
    exact ⟨a, xs, rfl, h2, fun p hp => k _ _ (gro_own S hp) (own_lst S hp (rpDs_rev r1) (fun z => z hp))⟩
  · cases h
def gLRg : Rt → Option Rt
  | .val (.int n) => if 0 ≤ n ∧ n ≤ 16777216 then some (.own (.lst ((rngD 0 n.toNat).map O.s))) else none
  | _ => none
theorem rngD_rp {K : PySem.W.Frag} {cl : Nat → Addr} {H : Hp} {lo : Int} (ks : List Nat) : RpDs K cl H (ks.map fun (i : Nat) => D.int (lo + (i : Int))) (ks.map fun (i : Nat) => V.int (lo + (i : Int))) := by
  induction ks with
  | nil => rfl
  | cons k ks ih => exact ⟨_, _, rfl, rfl, ih⟩
theorem e_listRg (h : PE X e (tLstRg (tRg1 (rdE C E T f)))) : PE X e (rdE C E T (m1 gLRg f)) := PE.wk h fun σ H Q h => by
  refine rd1 (r := fun x H1 Q => ∃ n, x = .int n ∧ RgOk 0 n ∧ ∀ q, H1 q = none → Q (.ref q) (upd H1 q (.lst (rgV 0 n)))) ?_ h
  intro m x rx ry av Q S h1 h k
  unfold gLRg at h
  split at h
  · rename_i n
    split at h
    · rename_i z
      cases h
      refine ⟨n, h1, RgOk.of_le (by omega) z.2 (by omega) z.1, fun p hp => k _ _ (gro_own S hp) (own_lst S hp ?_ (fun z => z hp))⟩
      unfold rngD rgV
      rw [Int.sub_zero]
      exact rngD_rp _
    · cases h
  · cases h
def tysR (ns : List String) : TA := ns.foldr (fun n t => tCons (tC (.ty n)) t) tNil
theorem tysR_go (ns : List String) {σ : L2.St} {H : Hp} {Q : List V → Hp → Prop} (q : Q (ns.map V.ty) H) : tysR ns σ H Q := by
  induction ns generalizing Q with
  | nil => exact q
  | cons n ns ih => exact ih q
def mIsT (ns : List String) (f : ME) : ME := fun env => (f env).bind fun r e => if r.isSl = true ∨ r.d.plain = false then .bad else ofO ((kitBs r.d.tn ns).map fun b => .val (.bl b)) e
theorem e_isT (ns : List String) (hK : X.K = C.K) (hn : ns.length ≤ 1000) (h : PE X e (tCB (rIsiT X.K) (tCons (rdE C E T f) (tCons (tTup (tysR ns)) tNil)))) : PE X e (rdE C E T (mIsT ns f)) := PE.wk h fun σ H Q ⟨m, e1, e2, S, w⟩ =>
  ⟨m, e1, e2, S, Want.imp w.bind fun r env w => fun v m' e3 e4 S' s ok => by
    subst e3
    refine tysR_go ns ⟨by rw [List.length_map, sizeLine_is]; omega, fun p hp => ?_⟩
    by_cases hs : r.isSl = true ∨ r.d.plain = false
    · rw [if_pos hs] at w; exact w.elim
    rw [if_neg hs] at w
    cases hk : kitBs r.d.tn ns with
    | none => rw [hk] at w; exact w.elim
    | some b =>
      rw [hk] at w
      have rd := ok.rd S' (by cases q : r.isSl <;> simp_all)
      have G := gro_own (o := .tup (ns.map V.ty)) S' hp
      rw [hK]
      have pr : ∀ l : List String, Paired ClsV (l.map V.ty) (l.map Value.type) := fun l => by
        induction l with
        | nil => exact .nil
        | cons n l ih => exact .cons (.ty n) ih
      refine ⟨v, p, ns.map V.ty, _, ns.map Value.type, b, rfl, upd_same, pr ns, (RpD.mono G.exH _ _ rd).tyx (by cases z : r.d.plain <;> simp_all), kitBs_any hk, ?_⟩
      exact w (.bl b) { m' with H := upd m'.H p (.tup (ns.map V.ty)) } rfl e4 (S'.gro G) (step_nil S' s G) rfl⟩
theorem op_inDT {X : Cx} (hu : X.A.units + 1 < cLine) : OpR X (compareOp .In) (fun x y H Q => ∃ a b kvs k, y = .ref a ∧ x = .ref b ∧ Rd H a (.dT kvs) ∧ SqT X.K H b (k.map kV) ∧ Q (.bl (valV kvs k).isSome) H) := by
  intro pins s σ H x y v u Q I rx ry h
  obtain ⟨a, b, kvs, k, rfl, rfl, e, hb, q⟩ := h
  cases rx
  cases ry
  obtain ⟨its, r, p, _⟩ := I.tuple hb
  obtain ⟨o, h1, h2, n, h3⟩ := p
  obtain ⟨z, hd, xs, rel, dd⟩ := dt_rd I.hok e
  refine wpAny_in_heap (tupleKind_room_in1 hu) ⟨o, its.toArray, n, h1, h2, h3, by simpa using items_are r⟩ hd dd ?_
  have q' := (rel.val k).isSome_eq
  rw [Option.isSome_map] at q'
  rw [← q']
  exact ⟨.bl _, H, I.tok _, rfl, q⟩
def D.key : D → Option Key
  | .int i => some (.inl i)
  | .str s => some (.inr s)
  | _ => none
def keysOf : List D → Option (List Key)
  | [] => some []
  | d :: ds => match d.key, keysOf ds with
    | some k, some ks => some (k :: ks)
    | _, _ => none
theorem RpDs.keys {K : PySem.W.Frag} {cl : Nat → Addr} {H : Hp} : ∀ {ds : List D} {vs : List V} {ks : List Key}, RpDs K cl H ds vs → keysOf ds = some ks → vs = ks.map kV
  | [], vs, ks, h, e => by cases e; exact h
  | d :: ds, vs, ks, h, e => by
    obtain ⟨v, r, rfl, h1, h2⟩ := h
    unfold keysOf at e
    split at e
    · rename_i k ks' e1 e2
      cases e
      rw [RpDs.keys h2 e2]
      cases d with
      | int i => cases e1; rw [show v = .int i from h1]; rfl
      | str i => cases e1; rw [show v = .str i from h1]; rfl
      | _ => cases e1
    · cases e
def gInDT : Rt → Rt → Option Rt
  | .val (.tup ds), .bor _ _ (.dt ks os) => (keysOf ds).map fun k => .val (.bl (lkK ks os k).isSome)
  | .val (.tup ds), .val (.dt ks os) => (keysOf ds).map fun k => .val (.bl (lkK ks os k).isSome)
  | _, _ => none
theorem lkK_isSome {α β κ : Type} [DecidableEq κ] {f : κ} : ∀ {ns : List κ} {xs : List α} {ys : List β}, xs.length = ys.length → (lkK ns xs f).isSome = (lkK ns ys f).isSome
  | [], xs, ys, _ => by simp [lkK]
  | n :: ns, [], ys, h => by
    have : ys = [] := List.eq_nil_of_length_eq_zero h.symm
    subst this; simp [lkK]
  | n :: ns, x :: xs, [], h => by simp at h
  | n :: ns, x :: xs, y :: ys, h => by
    unfold lkK
    by_cases e : n = f
    · simp [e]
    · simp only [if_neg e]
      exact lkK_isSome (by simpa using h)
theorem loc_inDT : Loc2 C (fun x y H Q => ∃ a b kvs k, y = .ref a ∧ x = .ref b ∧ Rd H a (.dT kvs) ∧ SqT C.K H b (k.map kV) ∧ Q (.bl (valV kvs k).isSome) H) gInDT := by
  intro m x y rx ry rz av av' Q S h1 h2 h k
  unfold gInDT at h
  split at h
  · rename_i ds x0 p ks os
    cases q : keysOf ds with
    | none => rw [q] at h; cases h
    | some kk =>
      rw [q] at h; cases h
      obtain ⟨b, xs, rfl, q1, r1⟩ := h1
      obtain ⟨fp, a, ys, f, rfl, _, h3, h4, h5⟩ := h2.bor S
      refine ⟨a, b, ks.zip ys, kk, rfl, rfl, .inl h3, by rw [← r1.keys q]; exact S.ex.sqT q1.1, k _ m (Gro.refl S) ?_⟩
      show V.bl _ = V.bl _
      rw [lkK_val, lkK_isSome h5.length]
  · rename_i ds ks os
    cases q : keysOf ds with
    | none => rw [q] at h; cases h
    | some kk =>
      rw [q] at h; cases h
      obtain ⟨b, xs, rfl, q1, r1⟩ := h1
      obtain ⟨a, ys, rfl, h3, h4, h5⟩ := h2
      refine ⟨a, b, ks.zip ys, kk, rfl, rfl, .inl (S.ex _ _ h3), by rw [← r1.keys q]; exact S.ex.sqT q1.1, k _ m (Gro.refl S) ?_⟩
      show V.bl _ = V.bl _
      rw [lkK_val, lkK_isSome h5.length]
  · cases h
def mDT0 : ME := fun env => .ok (.own (.dt [] [])) env
theorem e_dt0 : PE X (.Dict [] [] pos) (rdE C E [] mDT0) := PE.wk pe_dnewT fun σ H Q ⟨m, e1, e2, S, w⟩ p hp => by
  subst e1
  have G := gro_own (o := .dT []) S hp
  exact w (.ref p) { m with H := upd m.H p (.dT []) } rfl e2 (S.gro G) ((G.step S).wk (by simp)) ⟨[p], ⟨p, [], [], rfl, rfl, upd_same, rfl, rfl, rfl⟩, by simp, fun a ha => by
    have ha : a = p := by simpa using ha
    subst ha
    exact ⟨S.fNone hp, fun z => S.inH a z hp, .inl (S.h0None hp), fun z => z.1 hp⟩⟩
end
end
end L3
namespace L3
open PySem L2
section
variable {X : Cx} {C : Cn} {E : WX} {e a b o : Expr} {pos : Pos} {T T1 T2 T3 : List Nat} {fs : MA} {es : List Expr} {f f1 f2 f3 : ME}
theorem RpOs.unsnoc {K : PySem.W.Frag} {cl : Nat → Addr} {F H : Hp} {d : D} : ∀ {os : List O} {vs : List V} {fp : Fp}, RpOs K cl F H (os ++ [.s d]) vs fp → ∃ vs' v, vs = vs' ++ [v] ∧ RpOs K cl F H os vs' fp ∧ RpD K cl F d v
  | [], vs, fp, h => by
    obtain ⟨v, r, f, g, rfl, rfl, ⟨rfl, h1⟩, rfl, rfl⟩ := h
    exact ⟨[], v, rfl, ⟨rfl, rfl⟩, h1⟩
  | o :: os, vs, fp, h => by
    obtain ⟨v, r, f, g, rfl, rfl, h1, h2⟩ := h
    obtain ⟨vs', v', rfl, q1, q2⟩ := RpOs.unsnoc h2
    exact ⟨v :: vs', v', rfl, ⟨v, vs', f, g, rfl, rfl, h1, q1⟩, q2⟩
def unsnoc : List O → Option (List O × D)
  | [] => none
  | [.s d] => some ([], d)
  | o :: os => (unsnoc os).map fun p => (o :: p.1, p.2)
theorem unsnoc_is : ∀ {os : List O} {p : List O × D}, unsnoc os = some p → os = p.1 ++ [.s p.2]
  | [], p, h => by cases h
  | [o], p, h => by
    cases o with
    | s d => cases h; rfl
    | lst _ => cases h
    | dk _ _ => cases h
    | dt _ _ => cases h
    | ins _ _ _ => cases h
  | o :: o2 :: os, p, h => by
    have h' : (unsnoc (o2 :: os)).map (fun p => (o :: p.1, p.2)) = some p := by
      cases o <;> exact h
    cases q : unsnoc (o2 :: os) with
    | none => rw [q] at h'; cases h'
    | some p' =>
      rw [q] at h'; cases h'
      rw [unsnoc_is q]; rfl
def mPop (Tx : List Nat) (f : ME) : ME := fun env => (f env).bind fun r e1 => match r with
  | .bor x p (.lst os) => (match unsnoc os with
    | some q => if x ∈ Tx then (match poke x p (.lst q.1) e1 with
      | some e2 => .ok (.val q.2) e2
      | none => .bad) else .bad
    | none => .bad)
  | _ => .bad
theorem e_pop (Tx : List Nat) (hK : X.K = C.K) (h : PE X e (tBM0 X.K "list" rPop (rdE C E T1 f1))) : PE X e (rdE C E (T1 ++ Tx) (mPop Tx f1)) :=
  PE.wk h fun σ H Q ⟨m, e1, e2, S, w⟩ => ⟨m, e1, e2, S, Want.imp w.bind fun r env w => fun v m' e3 e4 S' s ok => by
    subst e3
    split at w
    · rename_i x p os
      split at w
      · rename_i q hq
        by_cases hz : x ∈ Tx
        · rw [if_pos hz] at w
          have hos := unsnoc_is hq
          obtain ⟨f0, a, xs, fl, rfl, rfl, hl, rr⟩ := ok.bor S'
          rw [hK]
          rw [hos] at rr
          obtain ⟨vs', v', rfl, rr1, rr2⟩ := rr.unsnoc
          obtain ⟨env', hp, m3, b1, b2, b3, b4, S3, s3, b5⟩ := poke_ok (ho := .lst vs') (o' := .lst q.1) s S' ok (fun fr hr na nd inx => by
            obtain ⟨a2, xs2, f4, e, e', hl4, rr4⟩ := hr
            cases e; cases e'
            rw [hl] at hl4; cases hl4
            rw [hos] at rr4
            obtain ⟨vs2, v2, ev, rr5, _⟩ := rr4.unsnoc
            obtain ⟨rfl, _⟩ := List.append_inj' ev rfl
            refine ⟨fr, ⟨a, _, _, rfl, rfl, upd_same, rr5.upd na⟩, nd, fun b hb => .inl hb⟩) ⟨fl, a, _, fl, rfl, rfl, hl, by rw [hos]; exact rr⟩
          rw [hp] at w
          refine ⟨.inl ⟨rfl, _, .inl (.inl hl)⟩, a, _, v', rfl, rfl, hl, by simp, ?_⟩
          rw [List.dropLast_concat]
          have := w v' m3 b1 (b4.trans e4) S3 (s3.wk (fun i hi => by
            simp only [List.mem_append] at hi ⊢
            rcases hi with z | z
            · exact .inl z
            · have : i = x := by simpa using z
              exact .inr (by rw [this]; exact hz))) (by show RpD C.K C.cl m3.F q.2 v'; rw [b2]; exact rr2)
          rw [b3] at this
          exact this
        · rw [if_neg hz] at w; exact w.elim
      · exact w.elim
    · exact w.elim⟩
def mExtend (Tx T2 : List Nat) (f f2 : ME) : ME := fun env => (f env).bind fun r e1 => match r with
  | .bor x p (.lst os) => if x ∈ T2 then .bad else (f2 e1).bind fun y e2 => match lstOf y with
    | some ds => if os.length + ds.length ≤ 16777216 ∧ x ∈ Tx then (match poke x p (.lst (os ++ ds.map O.s)) e2 with
      | some e3 => .ok (.val .non) e3
      | none => .bad) else .bad
    | none => .bad
  | _ => .bad
theorem e_extend (Tx : List Nat) (hK : X.K = C.K) (h : PE X e (tBM X.K "list" rExtend (rdE C E T1 f1) (rdA1 C E T2 f2))) : PE X e (rdE C E (T1 ++ (T2 ++ Tx)) (mExtend Tx T2 f1 f2)) :=
  PE.wk h fun σ H Q ⟨m, e1, e2, S, w⟩ => ⟨m, e1, e2, S, Want.imp w.bind fun r env w => fun v m' e3 e4 S' s ok => by
    subst e3
    split at w
    · rename_i x p os
      by_cases hh : x ∈ T2
      · rw [if_pos hh] at w; exact w.elim
      rw [if_neg hh] at w
      obtain ⟨f0, a, xs, fl, rfl, rfl, hl, rr⟩ := ok.bor S'
      rw [hK]
      refine ⟨.inl ⟨rfl, xs, .inl (.inl hl)⟩, m', rfl, e4, S', Want.mono w.bind s fun y env2 w vy m2 a1 a2 S2 s2 ok2 => ?_⟩
      subst a1
      have ok' := ok.step S' s2 (by simpa [Rt.hot] using hh) (a2.trans e4.symm)
      obtain ⟨f2, a', xs', fl2, e, rfl, hl2, rr2⟩ := ok'.bor S2
      cases e
      cases ho : lstOf y with
      | none => rw [ho] at w; exact w.elim
      | some ds =>
        rw [ho] at w
        dsimp only at w
        by_cases hz : os.length + ds.length ≤ 16777216 ∧ x ∈ Tx
        · rw [if_pos hz] at w
          obtain ⟨b, zs, rfl, hb, rz⟩ := ok2.lstOf S2 ho
          obtain ⟨env', hp, m3, b1, b2, b3, b4, S3, s3, b5⟩ := poke_ok (ho := .lst (xs' ++ zs)) (o' := .lst (os ++ ds.map O.s)) (s.trans s2) S2 ok' (fun fr hr na nd inx => by
            obtain ⟨a2, xs2, f4, e, e', hl4, rr4⟩ := hr
            cases e; cases e'
            rw [hl2] at hl4; cases hl4
            exact ⟨fr, ⟨a, _, _, rfl, rfl, upd_same, by have := (rr4.upd (ho := .lst (xs' ++ zs)) na).append rz.os; rwa [List.append_nil] at this⟩, nd, fun b hb => .inl hb⟩) ⟨fl2, a, xs', fl2, rfl, rfl, hl2, rr2⟩
          rw [hp] at w
          refine ⟨a, b, xs', zs, rfl, rfl, hl2, hb, by rw [rr2.length, rz.length, sizeLine_is]; exact hz.1, ?_⟩
          have := w .non m3 b1 (b4.trans a2) S3 (s3.wk (fun i hi => by
            simp only [List.mem_append] at hi ⊢
            rcases hi with (z | z) | z
            · exact .inl z
            · exact .inr (.inl z)
            · have : i = x := by simpa using z
              exact .inr (.inr (by rw [this]; exact hz.2)))) rfl
          rw [b3] at this
          exact this
        · rw [if_neg hz] at w; exact w.elim
    · exact w.elim⟩
def lookT : List (Str × D) → Str → Option D
  | [], _ => none
  | (k, d) :: r, z => if k = z then some d else lookT r z
def KTab (K : PySem.W.Frag) (cl : Nat → Addr) (d : Addr) (tab : List (Str × D)) : Prop := ∀ z : Str, ∃ r, PySem.W.nsIn K d z = some r ∧ (match lookT tab z with
  | none => r = none
  | some dd => ∃ (u0 : Value) (v0 : V), r = some u0 ∧ RelV v0 u0 ∧ ∀ F : Hp, RpD K cl F dd v0)
def mKGet (tab : List (Str × D)) (f1 f2 : ME) : ME := fun env => (f1 env).bind fun r1 e1 => (f2 e1).bind fun r2 e2 => match r1, r2 with
  | .val (.str z), .val d => .ok (.val ((lookT tab z).getD d)) e2
  | _, _ => .bad
def tKGet (K : PySem.W.Frag) (d : Addr) (ta tb : TE) : TE := fun σ H Q => ta σ H fun x H1 => tb σ H1 fun y H2 => ∃ (z : Str) (r : Option Value), x = .str z ∧ PySem.W.nsIn K d z = some r ∧ (∀ u0, r = some u0 → ∃ v0, RelV v0 u0 ∧ Q v0 H2) ∧ (r = none → Q y H2)
theorem pe_kget {d : Addr} {es : Array DictEntry} {n : Nat} {nm : Str} {p apos cpos : Pos} {ta tb : TE} (Dk : KDict X.K X.w d es n) (hg : Gl X nm) (hm : X.mg nm = some (.ref d)) (ha : PE X a ta) (hb : PE X b tb) (m : M2 X (.Name nm p) "get" apos a b cpos)
    (hdb : (nm == ("__debug__" : Str)) = false := by decide) : PE X (.Call (.Attribute (.Name nm p) "get" apos) [a, b] [] cpos) (tKGet X.K d ta tb) := by
  refine ⟨fun pins s σ H Q I h => ?_⟩
  refine wpAny_Call_method m.base m.few m.line PySem.F.plainAttrs_dict PySem.F.slot_dict_get PySem.F.type_dict_get (ld_glob I hg hm ?_ hdb)
  have mp := PySem.W.mapOf_K (prog := X.prog) (w := X.w) I.kIn Dk.at_ Dk.lit
  refine ⟨mp.typeIs, mp.noDict, ?_⟩
  rw [m.trees]
  refine Calls.callWith_builtin rfl (Calls.evalArgs_plain (Calls.spliced_cons (thn (ha.run pins s σ H _ I h) fun iv s2 ⟨x, H1, I1, rx, q1⟩ =>
    Calls.spliced_cons (thn (hb.run pins s2 σ H1 _ I1 q1) fun fv s3 ⟨y, H2, I3, ry, z, r, ex, en, g1, g2⟩ => Calls.spliced_nil ?_))))
  subst ex
  obtain ⟨t, rfl⟩ := rx
  have mp3 := PySem.W.mapOf_K (prog := X.prog) (w := X.w) I3.kIn Dk.at_ Dk.lit
  refine call_meetsIn PySem.F.slot_dict_get mp3.typeIs PySem.F.entry_dict_get (PySem.F.args_dict_get_3 _ _ _) (meets_dict_get_default (PySem.strKind X.prog X.w) d (PySem.strKind_is X.prog X.w z t) Dk.low fv) ⟨_, mp3, ?_⟩
  rw [PySem.W.find_K Dk.at_ en]
  cases r with
  | none => exact ⟨y, H2, I3.tok _, ry, g2 rfl⟩
  | some u0 =>
    obtain ⟨v0, r0, q0⟩ := g1 u0 rfl
    exact ⟨v0, H2, I3.tok _, r0, q0⟩
theorem e_kget {d : Addr} {tab : List (Str × D)} {e : Expr} (hT : KTab C.K C.cl d tab) (hK : X.K = C.K) (h : PE X e (tKGet X.K d (rdE C E T1 f1) (rdE C E T2 f2))) : PE X e (rdE C E (T1 ++ T2) (mKGet tab f1 f2)) := PE.wk h fun σ H Q ⟨m, e1, e2, S, w⟩ =>
  ⟨m, e1, e2, S, Want.imp w.bind fun r1 env w => fun v1 m1 a1 a2 S1 s1 ok1 => by
    subst a1
    refine ⟨m1, rfl, a2, S1, Want.mono w.bind s1 fun r2 env2 w => fun v2 m2 b1 b2 S2 s2 ok2 => ?_⟩
    subst b1
    split at w
    · rename_i z dd _
      rw [hK]
      obtain ⟨r, en, hr⟩ := hT z
      have ok1 : v1 = .str z := ok1
      refine ⟨z, r, ok1, en, fun u0 hu => ?_, fun hn => ?_⟩
      · subst hu
        cases q : lookT tab z with
        | none => rw [q] at hr; cases hr
        | some d0 =>
          rw [q] at hr w
          obtain ⟨u1, v0, e3, r0, k⟩ := hr
          cases e3
          exact ⟨v0, r0, w v0 m2 rfl b2 S2 (s1.trans s2) (k _)⟩
      · subst hn
        cases q : lookT tab z with
        | some d0 =>
          rw [q] at hr
          obtain ⟨u1, v0, e3, _⟩ := hr
          cases e3
        | none =>
          rw [q] at w
          exact w v2 m2 rfl b2 S2 (s1.trans s2) ok2
    · exact w.elim⟩
end
end L3
namespace L3
open PySem L2
structure CalF (P : Program) (w : World) (K : PySem.W.Frag) (mg : Str → Option Value) (base : Heap) (k : Nat) (x : Str) (ps : List Str) (sp : Sp) (f : Addr) (fd : FuncData) : Prop where
  ok : FnOk P w K mg base CX0 k f fd ps sp
  b : Binds K fd ps []
  g : mg x = some (.ref f)
  kp : PySem.W.keepIn K (.ref f) = true
structure CalM (P : Program) (w : World) (K : PySem.W.Frag) (mg : Str → Option Value) (base : Heap) (k : Nat) (C : Addr) (m : Str) (ps : List Str) (sp : Sp) (f : Addr) (fd : FuncData) : Prop where
  ok : FnOk P w K mg base CX0 k f fd ps sp
  b : Binds K fd ps []
  c : Cls K C
  m : Meth K C m f
structure CalI (P : Program) (w : World) (K : PySem.W.Frag) (mg : Str → Option Value) (base : Heap) (k : Nat) (C : Addr) (x : Str) (ps : List Str) (sp : Sp) (f : Addr) (fd : FuncData) : Prop where
  ok : FnOk P w K mg base CX0 k f fd ps sp
  b : Binds K fd ps []
  made : Mk K C f
  g : mg x = some (.ref C)
theorem CalF.imp {P : Program} {w : World} {K : PySem.W.Frag} {mg : Str → Option Value} {base : Heap} {k : Nat} {x : Str} {ps : List Str} {f : Addr} {fd : FuncData} {cl : Nat → Addr} {n : Nat} {f1 f2 : List O → Rr} (c : CalF P w K mg base k x ps (spG K cl n f1) f fd)
    (h : ∀ os, os.length = n → f2 os = .bad ∨ f1 os = f2 os) : CalF P w K mg base k x ps (spG K cl n f2) f fd := ⟨c.ok.imp (fun vs H Q E q => spG_imp h vs H Q E q), c.b, c.g, c.kp⟩
theorem CalM.imp {P : Program} {w : World} {K : PySem.W.Frag} {mg : Str → Option Value} {base : Heap} {k : Nat} {C : Addr} {m : Str} {ps : List Str} {f : Addr} {fd : FuncData} {cl : Nat → Addr} {n : Nat} {f1 f2 : List O → Rr} (c : CalM P w K mg base k C m ps (spG K cl n f1) f fd)
    (h : ∀ os, os.length = n → f2 os = .bad ∨ f1 os = f2 os) : CalM P w K mg base k C m ps (spG K cl n f2) f fd := ⟨c.ok.imp (fun vs H Q E q => spG_imp h vs H Q E q), c.b, c.c, c.m⟩
theorem CalI.imp {P : Program} {w : World} {K : PySem.W.Frag} {mg : Str → Option Value} {base : Heap} {k : Nat} {C : Addr} {x : Str} {ps : List Str} {f : Addr} {fd : FuncData} {cl : Nat → Addr} {n : Nat} {f1 f2 : List O → Rr} (c : CalI P w K mg base k C x ps (spG K cl n f1) f fd)
    (h : ∀ os, os.length = n → f2 os = .bad ∨ f1 os = f2 os) : CalI P w K mg base k C x ps (spG K cl n f2) f fd := ⟨c.ok.imp (fun vs H Q E q => spG_imp h vs H Q E q), c.b, c.made, c.g⟩
theorem all1 {p : Nat → Prop} {a : Nat} (h : p a) : ∀ c ∈ [a], p c := fun c hc => by
  have e : c = a := by simpa using hc
  rw [e]; exact h
theorem all2 {p : Nat → Prop} {a b : Nat} (h : p a) (h2 : p b) : ∀ c ∈ [a, b], p c := fun c hc => by
  rcases List.mem_cons.mp hc with e | e
  · rw [e]; exact h
  · exact all1 h2 c e
theorem all3 {p : Nat → Prop} {a b d : Nat} (h : p a) (h2 : p b) (h3 : p d) : ∀ c ∈ [a, b, d], p c := fun c hc => by
  rcases List.mem_cons.mp hc with e | e
  · rw [e]; exact h
  · exact all2 h2 h3 c e
theorem loc_ipadd {C : Cn} : Loc2 C (ipI fun i j => i + j) (gI fun i j => .int (i + j)) := by
  intro m x y rx ry rz av av' Q S h1 h2 h k
  obtain ⟨i, j, rfl, rfl, rfl⟩ := gI_some h
  exact ⟨i, j, h1, h2, k _ m (Gro.refl S) rfl⟩
theorem loc_ipsub {C : Cn} : Loc2 C (ipI fun i j => i - j) (gI fun i j => .int (i - j)) := by
  intro m x y rx ry rz av av' Q S h1 h2 h k
  obtain ⟨i, j, rfl, rfl, rfl⟩ := gI_some h
  exact ⟨i, j, h1, h2, k _ m (Gro.refl S) rfl⟩
theorem fn_def2 {P : Program} {w : World} {K : PySem.W.Frag} {mg : Str → Option Value} {base : Heap} {cl : Nat → Addr} {x qual : Str} {st : Stmt} {f : Addr} {fd : FuncData} {N ps : List Str} {k : Nat} {IO : List Nat} {body : MS} (F : Fun K x qual st f fd) (S : FnScope N ps (defScope st)) (hN : ps.length ≤ N.length)
    (hb : ∀ (cdv : Value) (A : Around) (outer : List PySem.Env) (s : Shared) (H : Hp) (E : XK) (F0 H0 : Hp) (io : Fp) (vs : L2.St), Room k (A.deeper (PyProof.Rows.envOfC qual (defScope st) s.heap.objs.size f cdv)) →
      ∃ T, PSs (cxOf CX0 P w K mg base N qual (defScope st) f cdv A outer s H E).nox (defBody st) (rdS ⟨K, cl, F0, H0, io, IO, vs, N.length⟩ (upE E) T body)) :
    FnOk P w K mg base CX0 (k + 1) f fd ps (spG K cl ps.length (runDef IO (N.length - ps.length) body)) :=
  fn_def F S hN fun cdv A outer s H E C h1 h2 h3 h4 hr => by
    obtain ⟨K', cl', F0, H0, io, IO', vs, n⟩ := C
    have h1 : K' = K := h1
    have h2 : cl' = cl := h2
    have h3 : IO' = IO := h3
    have h4 : n = N.length := h4
    subst h1 h2 h3 h4
    exact hb cdv A outer s H E F0 H0 io vs hr
structure CalXF (P : Program) (w : World) (K : PySem.W.Frag) (mg : Str → Option Value) (base : Heap) (k : Nat) (x : Str) (ps : List Str) (sp : Sp) (f : Addr) (fd : FuncData) : Prop where
  ok : FnOk P w K mg base (L2.CX P w) k f fd ps sp
  b : Binds K fd ps []
  g : mg x = some (.ref f)
  kp : PySem.W.keepIn K (.ref f) = true
structure CalXM (P : Program) (w : World) (K : PySem.W.Frag) (mg : Str → Option Value) (base : Heap) (k : Nat) (C : Addr) (m : Str) (ps : List Str) (sp : Sp) (f : Addr) (fd : FuncData) : Prop where
  ok : FnOk P w K mg base (L2.CX P w) k f fd ps sp
  b : Binds K fd ps []
  c : Cls K C
  m : Meth K C m f
structure CalXI (P : Program) (w : World) (K : PySem.W.Frag) (mg : Str → Option Value) (base : Heap) (k : Nat) (C : Addr) (x : Str) (ps : List Str) (sp : Sp) (f : Addr) (fd : FuncData) : Prop where
  ok : FnOk P w K mg base (L2.CX P w) k f fd ps sp
  b : Binds K fd ps []
  made : Mk K C f
  g : mg x = some (.ref C)
theorem CalXF.imp {P : Program} {w : World} {K : PySem.W.Frag} {mg : Str → Option Value} {base : Heap} {k : Nat} {x : Str} {ps : List Str} {f : Addr} {fd : FuncData} {cl : Nat → Addr} {n : Nat} {f1 f2 : List O → Rr} (c : CalXF P w K mg base k x ps (spG K cl n f1) f fd)
    (h : ∀ os, os.length = n → f2 os = .bad ∨ f1 os = f2 os) : CalXF P w K mg base k x ps (spG K cl n f2) f fd := ⟨c.ok.imp (fun vs H Q E q => spG_imp h vs H Q E q), c.b, c.g, c.kp⟩
theorem CalXM.imp {P : Program} {w : World} {K : PySem.W.Frag} {mg : Str → Option Value} {base : Heap} {k : Nat} {C : Addr} {m : Str} {ps : List Str} {f : Addr} {fd : FuncData} {cl : Nat → Addr} {n : Nat} {f1 f2 : List O → Rr} (c : CalXM P w K mg base k C m ps (spG K cl n f1) f fd)
    (h : ∀ os, os.length = n → f2 os = .bad ∨ f1 os = f2 os) : CalXM P w K mg base k C m ps (spG K cl n f2) f fd := ⟨c.ok.imp (fun vs H Q E q => spG_imp h vs H Q E q), c.b, c.c, c.m⟩
theorem CalXI.imp {P : Program} {w : World} {K : PySem.W.Frag} {mg : Str → Option Value} {base : Heap} {k : Nat} {C : Addr} {x : Str} {ps : List Str} {f : Addr} {fd : FuncData} {cl : Nat → Addr} {n : Nat} {f1 f2 : List O → Rr} (c : CalXI P w K mg base k C x ps (spG K cl n f1) f fd)
    (h : ∀ os, os.length = n → f2 os = .bad ∨ f1 os = f2 os) : CalXI P w K mg base k C x ps (spG K cl n f2) f fd := ⟨c.ok.imp (fun vs H Q E q => spG_imp h vs H Q E q), c.b, c.made, c.g⟩
theorem fn_def2X {P : Program} {w : World} {K : PySem.W.Frag} {mg : Str → Option Value} {base : Heap} {cl : Nat → Addr} {x qual : Str} {st : Stmt} {f : Addr} {fd : FuncData} {N ps : List Str} {k : Nat} {IO : List Nat} {body : MS} (F : Fun K x qual st f fd) (S : FnScope N ps (defScope st)) (hN : ps.length ≤ N.length)
    (hb : ∀ (cdv : Value) (A : Around) (outer : List PySem.Env) (s : Shared) (H : Hp) (E : XK) (F0 H0 : Hp) (io : Fp) (vs : L2.St), Room k (A.deeper (PyProof.Rows.envOfC qual (defScope st) s.heap.objs.size f cdv)) →
      Takes (cxOf (L2.CX P w) P w K mg base N qual (defScope st) f cdv A outer s H E) (upE E) → ∃ T, PSs (cxOf (L2.CX P w) P w K mg base N qual (defScope st) f cdv A outer s H E) (defBody st) (rdS ⟨K, cl, F0, H0, io, IO, vs, N.length⟩ (upE E) T body)) :
    FnOk P w K mg base (L2.CX P w) (k + 1) f fd ps (spG K cl ps.length (runDef IO (N.length - ps.length) body)) :=
  fn_defX F S hN fun cdv A outer s H E C h1 h2 h3 h4 hr tk => by
    obtain ⟨K', cl', F0, H0, io, IO', vs, n⟩ := C
    have h1 : K' = K := h1
    have h2 : cl' = cl := h2
    have h3 : IO' = IO := h3
    have h4 : n = N.length := h4
    subst h1 h2 h3 h4
    exact hb cdv A outer s H E F0 H0 io vs hr tk
theorem passX {X : Cx} {E : WX} (tk : Takes X E) : ∀ σ, PassesAt (L2.CX X.prog X.w) X σ (WE E σ) := fun σ => passAt tk σ
theorem units65 {k : Nat} {A : Around} (r : Room k A) : A.units + 65 < cLine := by have := r.un; omega
theorem units1 {k : Nat} {A : Around} (r : Room k A) : A.units + 1 < cLine := by have := r.un; omega
end L3
namespace L3
open PySem L2
theorem shp_int (i : Int) : SeqAt.shaped (.int i) = true := by
  unfold SeqAt.shaped
  rw [Bool.and_eq_true]
  exact ⟨by simp [PyData.canLay0], by simp [PyData.depth]⟩
theorem shp_str {i : Str} (h : PyData.strOk i = true) : SeqAt.shaped (.str i) = true := by
  unfold SeqAt.shaped
  rw [Bool.and_eq_true]
  exact ⟨by simpa [PyData.canLay0] using h, by simp [PyData.depth]⟩
theorem beq_dec {α : Type} [DecidableEq α] [BEq α] [LawfulBEq α] (i j : α) : (i == j) = decide (i = j) := by
  by_cases h : i = j
  · subst h; simp
  · simp [h]
def Rs.ex {α β : Type} : Rs α → Rs β
  | .exc c ds e => .exc c ds e
  | _ => .bad
def seqK (g2 : MS) : Rs Fl → Rs Fl
  | .ok .nx e => g2 e
  | r => r
def testK : Rs Rt → Rs Bool
  | .ok r e => ofO (toB r) e
  | r => r.ex
def ifK {α : Type} (g1 g2 : Env → Rs α) : Rs Bool → Rs α
  | .ok b e => if b = true then g1 e else g2 e
  | r => r.ex
def tandK (t2 : MT) : Rs Bool → Rs Bool
  | .ok b e => if b = true then t2 e else .ok false e
  | r => r
def torK (t2 : MT) : Rs Bool → Rs Bool
  | .ok b e => if b = true then .ok true e else t2 e
  | r => r
def tnotK : Rs Bool → Rs Bool
  | .ok b e => .ok (!b) e
  | r => r
def m2L (g : Rt → Rt → Option Rt) (r1 : Rt) : Rs Rt → Rs Rt
  | .ok r2 e => ofO (g r1 r2) e
  | r => r
def m2K (g : Rt → Rt → Option Rt) (T : List Nat) (f2 : ME) : Rs Rt → Rs Rt
  | .ok r1 e => if r1.hot T = true then .bad else m2L g r1 (f2 e)
  | r => r
def m1K (g : Rt → Option Rt) : Rs Rt → Rs Rt
  | .ok r e => ofO (g r) e
  | r => r
def mNK (g : List Rt → Option Rt) : Rs (List Rt) → Rs Rt
  | .ok r e => ofO (g r) e
  | r => r.ex
def consL (r : Rt) : Rs (List Rt) → Rs (List Rt)
  | .ok rs e => .ok (r :: rs) e
  | r => r
def consK (T : List Nat) (fs : MA) : Rs Rt → Rs (List Rt)
  | .ok r e => if r.hot T = true then .bad else consL r (fs e)
  | r => r.ex
def retK : Rs Rt → Rs Fl
  | .ok r e => .ok (.ret r) e
  | r => r.ex
def setP (i : Nat) (e : Env) : Option O → Rs Fl
  | some o => .ok .nx (e.set i (some o))
  | none => .bad
def setK (i : Nat) : Rs Rt → Rs Fl
  | .ok r e => setP i e r.o
  | r => r.ex
def exprK : Rs Rt → Rs Fl
  | .ok _ e => .ok .nx e
  | r => r.ex
def mAndB (f2 : ME) (e : Env) : Option Bool → Rs Rt
  | some true => f2 e
  | some false => .ok (.val (.bl false)) e
  | none => .bad
def mAndK (f2 : ME) : Rs Rt → Rs Rt
  | .ok r e => mAndB f2 e (toB r)
  | r => r
def mOrB (f2 : ME) (e : Env) : Option Bool → Rs Rt
  | some false => f2 e
  | some true => .ok (.val (.bl true)) e
  | none => .bad
def mOrK (f2 : ME) : Rs Rt → Rs Rt
  | .ok r e => mOrB f2 e (toB r)
  | r => r
def mNotB (e : Env) : Option Bool → Rs Rt
  | some k => .ok (.val (.bl (!k))) e
  | none => .bad
def mNotK : Rs Rt → Rs Rt
  | .ok r e => mNotB e (toB r)
  | r => r
def callR (n : Nat) (rs : List Rt) (e : Env) : Rr → Rs Rt
  | .ok r outs => if outs.length = n then .ok r.rr (putOuts e rs outs) else .bad
  | .exc c ds outs => if outs.length = n then .exc c ds (putOuts e rs outs) else .bad
  | .bad => .bad
def callA (Sl : List Nat) (n : Nat) (fn : List O → Rr) (rs : List Rt) (e : Env) : Option (List O) → Rs Rt
  | some os => if rs.length = n ∧ (slots rs).Nodup ∧ (∀ x ∈ slots rs, x ∈ Sl) then callR n rs e (fn os) else .bad
  | none => .bad
def callK (Sl : List Nat) (n : Nat) (fn : List O → Rr) : Rs (List Rt) → Rs Rt
  | .ok rs e => callA Sl n fn rs e (argsO e rs)
  | r => r.ex
def makeR (n : Nat) (rs : List Rt) (e : Env) : Rr → Rs Rt
  | .ok (.s .non) (self :: outs) => if outs.length + 1 = n then .ok self.rr (putOuts e rs outs) else .bad
  | .exc c ds (_ :: outs) => if outs.length + 1 = n then .exc c ds (putOuts e rs outs) else .bad
  | _ => .bad
def makeA (Sl : List Nat) (c n : Nat) (fn : List O → Rr) (rs : List Rt) (e : Env) : Option (List O) → Rs Rt
  | some os => if rs.length + 1 = n ∧ (slots rs).Nodup ∧ (∀ x ∈ slots rs, x ∈ Sl) then makeR n rs e (fn (.ins c [] [] :: os)) else .bad
  | none => .bad
def makeK (Sl : List Nat) (c n : Nat) (fn : List O → Rr) : Rs (List Rt) → Rs Rt
  | .ok rs e => makeA Sl c n fn rs e (argsO e rs)
  | r => r.ex
def methK (Sl : List Nat) (c : Nat) (mn : Str) (n : Nat) (fn : List O → Rr) (fs : MA) : Rs Rt → Rs Rt
  | .ok r e => if hasNo [c] mn e r = true then callK Sl n fn (consL r (fs e)) else .bad
  | r => r
def roK (n : Nat) (fn : List O → Rr) : Rs (List Rt) → Rs Rt
  | .ok rs e => roRun n fn rs e
  | r => r.ex
def methRK (T2 : List Nat) (c : Nat) (mn : Str) (n : Nat) (fn : List O → Rr) (fs : MA) : Rs Rt → Rs Rt
  | .ok r e => if r.isSl = false ∧ r.hot T2 = false ∧ roHas c mn r.d = true then roK n fn (consL r (fs e)) else .bad
  | r => r
def stlK : Rs Rt → Rs Rt
  | .ok (.own o) e => .ok (.val o.d) e
  | r => r
def chainN (g' : Rt → Rt → Option Rt) (d2 : D) : Rs Rt → Rs Rt
  | .ok r3 e => ofO (g' (.val d2) r3) e
  | r => r
def chainB (g' : Rt → Rt → Option Rt) (f3 : ME) (d2 : D) (e : Env) : Option Rt → Rs Rt
  | some (.val (.bl true)) => chainN g' d2 (f3 e)
  | some (.val (.bl false)) => .ok (.val (.bl false)) e
  | _ => .bad
def chainM (g g' : Rt → Rt → Option Rt) (f3 : ME) (r1 : Rt) : Rs Rt → Rs Rt
  | .ok r2 e => match r1, r2 with
    | .val d1, .val d2 => chainB g' f3 d2 e (g (.val d1) (.val d2))
    | _, _ => .bad
  | r => r
def chainK (g g' : Rt → Rt → Option Rt) (f2 f3 : ME) : Rs Rt → Rs Rt
  | .ok r1 e => chainM g g' f3 r1 (f2 e)
  | r => r
def runF (n : Nat) (fl : Fl) : Option (List O) → Option O → Rr
  | some outs, some r => .ok r outs
  | _, _ => .bad
def runK (IO : List Nat) (os : List O) : Rs Fl → Rr
  | .ok fl e => runF os.length fl (outsFrom IO 0 os e) (retO os.length fl)
  | .exc c ds e => match outsFrom IO 0 os e with
    | some outs => .exc c ds outs
    | none => .bad
  | .bad => .bad
def ixSet (Tx : List Nat) (x : Nat) (p : List Stp) (os : List O) (oy : O) (e : Env) : Option Nat → Rs Fl
  | some j => if x ∈ Tx then (match poke x p (.lst (os.set j oy)) e with
    | some e4 => .ok .nx e4
    | none => .bad) else .bad
  | none => .bad
def setIxI (Tx : List Nat) (oy : O) (r : Rt) : Rs Rt → Rs Fl
  | .ok ri e => match r, ri with
    | .bor x p (.lst os), .val (.int i) => ixSet Tx x p os oy e (ixN os.length i)
    | _, _ => .bad
  | r => r.ex
def setIxO (Tx T3 : List Nat) (fi : ME) (oy : O) : Rs Rt → Rs Fl
  | .ok r e => match r with
    | .bor x p (.lst os) => if x ∈ T3 then .bad else setIxI Tx oy (.bor x p (.lst os)) (fi e)
    | _ => .bad
  | r => r.ex
def setIxY (Tx T3 : List Nat) (fo fi : ME) (e : Env) : Option O → Rs Fl
  | some oy => setIxO Tx T3 fi oy (fo e)
  | none => .bad
def setIxK (Tx T3 : List Nat) (fo fi : ME) : Rs Rt → Rs Fl
  | .ok y e => setIxY Tx T3 fo fi e y.o
  | r => r.ex
section
variable {α β : Type} {env : Env} {e e1 : Env} {T T1 T2 T3 Tx : List Nat} {f f1 f2 f3 fo fi : ME} {fs : MA} {t t1 t2 : MT} {g g1 g2 : MS} {r : Rt} {rs : List Rt} {d : D}
@[simp] theorem ev_seq : msSeq g1 g2 env = seqK g2 (g1 env) := by
  unfold msSeq
  cases g1 env with
  | ok fl e => cases fl <;> rfl
  | exc c ds e => rfl
  | bad => rfl
@[simp] theorem ev_seq1 : seqK g2 (.ok .nx e) = g2 e := Eq.trans rfl rfl
@[simp] theorem ev_seq2 : seqK g2 (.ok (.ret r) e) = .ok (.ret r) e := Eq.trans rfl rfl
@[simp] theorem ev_seq3 : seqK g2 (.ok .brk e) = .ok .brk e := Eq.trans rfl rfl
@[simp] theorem ev_seq4 : seqK g2 (.ok .cont e) = .ok .cont e := Eq.trans rfl rfl
@[simp] theorem ev_seq5 : seqK g2 .bad = .bad := Eq.trans rfl rfl
@[simp] theorem ev_test : mTest f env = testK (f env) := by unfold mTest; cases f env <;> rfl
@[simp] theorem ev_test1 : testK (.ok r e) = ofO (toB r) e := Eq.trans rfl rfl
@[simp] theorem ev_if : msIf t g1 g2 env = ifK g1 g2 (t env) := by unfold msIf; cases t env <;> rfl
@[simp] theorem ev_if1 {b : Bool} {g1 g2 : Env → Rs α} : ifK g1 g2 (.ok b e) = if b = true then g1 e else g2 e := Eq.trans rfl rfl
@[simp] theorem ev_mIf : mIf t f1 f2 env = ifK f1 f2 (t env) := by unfold mIf; cases t env <;> rfl
@[simp] theorem ev_tand : tmAnd t1 t2 env = tandK t2 (t1 env) := by unfold tmAnd; cases t1 env <;> rfl
@[simp] theorem ev_tand1 {b : Bool} : tandK t2 (.ok b e) = if b = true then t2 e else .ok false e := Eq.trans rfl rfl
@[simp] theorem ev_tor : tmOr t1 t2 env = torK t2 (t1 env) := by unfold tmOr; cases t1 env <;> rfl
@[simp] theorem ev_tor1 {b : Bool} : torK t2 (.ok b e) = if b = true then .ok true e else t2 e := Eq.trans rfl rfl
@[simp] theorem ev_tnot : tmNot t1 env = tnotK (t1 env) := by unfold tmNot; cases t1 env <;> rfl
@[simp] theorem ev_tnot1 {b : Bool} : tnotK (.ok b e) = .ok (!b) e := Eq.trans rfl rfl
@[simp] theorem ev_m2 {g : Rt → Rt → Option Rt} : m2 g T f1 f2 env = m2K g T f2 (f1 env) := by
  unfold m2
  cases f1 env with
  | ok r1 e =>
    show (if r1.hot T = true then Rs.bad else (f2 e).bind _) = if r1.hot T = true then .bad else m2L g r1 (f2 e)
    cases f2 e <;> rfl
  | exc c ds e => rfl
  | bad => rfl
@[simp] theorem ev_m21 {g : Rt → Rt → Option Rt} : m2K g T f2 (.ok r e) = if r.hot T = true then .bad else m2L g r (f2 e) := Eq.trans rfl rfl
@[simp] theorem ev_m22 {g : Rt → Rt → Option Rt} {r2 : Rt} : m2L g r (.ok r2 e) = ofO (g r r2) e := Eq.trans rfl rfl
@[simp] theorem ev_m1 {g : Rt → Option Rt} : m1 g f env = m1K g (f env) := by unfold m1; cases f env <;> rfl
@[simp] theorem ev_m11 {g : Rt → Option Rt} : m1K g (.ok r e) = ofO (g r) e := Eq.trans rfl rfl
@[simp] theorem ev_mN {g : List Rt → Option Rt} : mN g fs env = mNK g (fs env) := by unfold mN; cases fs env <;> rfl
@[simp] theorem ev_mN1 {g : List Rt → Option Rt} : mNK g (.ok rs e) = ofO (g rs) e := Eq.trans rfl rfl
@[simp] theorem ev_cons : mCons T f fs env = consK T fs (f env) := by
  unfold mCons
  cases f env with
  | ok r1 e =>
    show (if r1.hot T = true then Rs.bad else (fs e).bind _) = if r1.hot T = true then .bad else consL r1 (fs e)
    cases fs e <;> rfl
  | exc c ds e => rfl
  | bad => rfl
@[simp] theorem ev_cons1 : consK T fs (.ok r e) = if r.hot T = true then .bad else consL r (fs e) := Eq.trans rfl rfl
@[simp] theorem ev_cons2 : consL r (.ok rs e) = .ok (r :: rs) e := Eq.trans rfl rfl
@[simp] theorem ev_nil : mNil env = .ok [] env := Eq.trans rfl rfl
@[simp] theorem ev_mC : mC d env = .ok (.val d) env := Eq.trans rfl rfl
theorem var_is {i : Nat} {o : O} (h : env[i]? = some (some o)) : mVar i env = .ok (o.rt i) env := by unfold mVar; rw [h]
theorem slot_is {i : Nat} {o : O} (h : env[i]? = some (some o)) : mSlot i env = .ok (.sl i) env := by unfold mSlot; rw [h]
@[simp] theorem ev_var0 {o : O} : mVar 0 (some o :: e) = .ok (o.rt 0) (some o :: e) := Eq.trans rfl rfl
@[simp] theorem ev_var1 {a : Option O} {o : O} : mVar 1 (a :: some o :: e) = .ok (o.rt 1) (a :: some o :: e) := Eq.trans rfl rfl
@[simp] theorem ev_var2 {a b : Option O} {o : O} : mVar 2 (a :: b :: some o :: e) = .ok (o.rt 2) (a :: b :: some o :: e) := Eq.trans rfl rfl
@[simp] theorem ev_var3 {a b c : Option O} {o : O} : mVar 3 (a :: b :: c :: some o :: e) = .ok (o.rt 3) (a :: b :: c :: some o :: e) := Eq.trans rfl rfl
@[simp] theorem ev_var4 {a b c d : Option O} {o : O} : mVar 4 (a :: b :: c :: d :: some o :: e) = .ok (o.rt 4) (a :: b :: c :: d :: some o :: e) := Eq.trans rfl rfl
@[simp] theorem ev_var5 {a b c d x : Option O} {o : O} : mVar 5 (a :: b :: c :: d :: x :: some o :: e) = .ok (o.rt 5) (a :: b :: c :: d :: x :: some o :: e) := Eq.trans rfl rfl
@[simp] theorem ev_var6 {a b c d x y : Option O} {o : O} : mVar 6 (a :: b :: c :: d :: x :: y :: some o :: e) = .ok (o.rt 6) (a :: b :: c :: d :: x :: y :: some o :: e) := Eq.trans rfl rfl
@[simp] theorem ev_var7 {a b c d x y z : Option O} {o : O} : mVar 7 (a :: b :: c :: d :: x :: y :: z :: some o :: e) = .ok (o.rt 7) (a :: b :: c :: d :: x :: y :: z :: some o :: e) := Eq.trans rfl rfl
@[simp] theorem ev_var8 {a b c d x y z u : Option O} {o : O} : mVar 8 (a :: b :: c :: d :: x :: y :: z :: u :: some o :: e) = .ok (o.rt 8) (a :: b :: c :: d :: x :: y :: z :: u :: some o :: e) := Eq.trans rfl rfl
@[simp] theorem ev_var9 {a b c d x y z u v : Option O} {o : O} : mVar 9 (a :: b :: c :: d :: x :: y :: z :: u :: v :: some o :: e) = .ok (o.rt 9) (a :: b :: c :: d :: x :: y :: z :: u :: v :: some o :: e) := Eq.trans rfl rfl
@[simp] theorem ev_var10 {a b c d x y z u v w : Option O} {o : O} : mVar 10 (a :: b :: c :: d :: x :: y :: z :: u :: v :: w :: some o :: e) = .ok (o.rt 10) (a :: b :: c :: d :: x :: y :: z :: u :: v :: w :: some o :: e) := Eq.trans rfl rfl
@[simp] theorem ev_slot0 {o : O} : mSlot 0 (some o :: e) = .ok (.sl 0) (some o :: e) := Eq.trans rfl rfl
@[simp] theorem ev_slot1 {a : Option O} {o : O} : mSlot 1 (a :: some o :: e) = .ok (.sl 1) (a :: some o :: e) := Eq.trans rfl rfl
@[simp] theorem ev_slot2 {a b : Option O} {o : O} : mSlot 2 (a :: b :: some o :: e) = .ok (.sl 2) (a :: b :: some o :: e) := Eq.trans rfl rfl
@[simp] theorem ev_slot3 {a b c : Option O} {o : O} : mSlot 3 (a :: b :: c :: some o :: e) = .ok (.sl 3) (a :: b :: c :: some o :: e) := Eq.trans rfl rfl
@[simp] theorem ev_some {a : α} : ofO (some a) e = .ok a e := Eq.trans rfl rfl
@[simp] theorem ev_none : ofO (none : Option α) e = .bad := Eq.trans rfl rfl
@[simp] theorem ev_hv : Rt.hot T (.val d) = false := Eq.trans rfl rfl
@[simp] theorem ev_ho {o : O} : Rt.hot T (.own o) = false := Eq.trans rfl rfl
@[simp] theorem ev_hs {x : Nat} : Rt.hot T (.sl x) = false := Eq.trans rfl rfl
@[simp] theorem ev_hb {x : Nat} {p : List Stp} {o : O} : Rt.hot T (.bor x p o) = T.contains x := Eq.trans rfl rfl
@[simp] theorem ev_rt1 {i : Nat} : O.rt i (.s d) = .val d := Eq.trans rfl rfl
@[simp] theorem ev_rt2 {i : Nat} {os : List O} : O.rt i (.lst os) = .bor i [] (.lst os) := Eq.trans rfl rfl
@[simp] theorem ev_rt3 {i c : Nat} {ns : List Str} {os : List O} : O.rt i (.ins c ns os) = .bor i [] (.ins c ns os) := Eq.trans rfl rfl
@[simp] theorem ev_rt4 {i : Nat} {ks : List (List Key)} {os : List O} : O.rt i (.dt ks os) = .bor i [] (.dt ks os) := Eq.trans rfl rfl
@[simp] theorem ev_at1 {x : Nat} {p : List Stp} : O.at x p (.s d) = .val d := Eq.trans rfl rfl
@[simp] theorem ev_at2 {x : Nat} {p : List Stp} {os : List O} : O.at x p (.lst os) = .bor x p (.lst os) := Eq.trans rfl rfl
@[simp] theorem ev_at3 {x c : Nat} {p : List Stp} {ns : List Str} {os : List O} : O.at x p (.ins c ns os) = .bor x p (.ins c ns os) := Eq.trans rfl rfl
@[simp] theorem ev_at4 {x : Nat} {p : List Stp} {ks : List (List Key)} {os : List O} : O.at x p (.dt ks os) = .bor x p (.dt ks os) := Eq.trans rfl rfl
@[simp] theorem ev_b {b : Bool} : toB (.val (.bl b)) = some b := Eq.trans rfl rfl
@[simp] theorem ev_o1 : Rt.o (.val d) = some (.s d) := Eq.trans rfl rfl
@[simp] theorem ev_o2 {o : O} : Rt.o (.own o) = some o := Eq.trans rfl rfl
@[simp] theorem ev_rr1 : O.rr (.s d) = .val d := Eq.trans rfl rfl
@[simp] theorem ev_rr2 {os : List O} : O.rr (.lst os) = .own (.lst os) := Eq.trans rfl rfl
@[simp] theorem ev_rr3 {c : Nat} {ns : List Str} {os : List O} : O.rr (.ins c ns os) = .own (.ins c ns os) := Eq.trans rfl rfl
@[simp] theorem ev_only : O.only (.s d) = some (.s d) := Eq.trans rfl rfl
@[simp] theorem ev_sl1 {x : Nat} : Rt.isSl (.sl x) = true := Eq.trans rfl rfl
@[simp] theorem ev_sl2 : Rt.isSl (.val d) = false := Eq.trans rfl rfl
@[simp] theorem ev_sl3 {o : O} : Rt.isSl (.own o) = false := Eq.trans rfl rfl
@[simp] theorem ev_sl4 {x : Nat} {p : List Stp} {o : O} : Rt.isSl (.bor x p o) = false := Eq.trans rfl rfl
@[simp] theorem ev_d2 : Rt.d (.val d) = d := Eq.trans rfl rfl
@[simp] theorem ev_d3 {o : O} : Rt.d (.own o) = o.d := Eq.trans rfl rfl
@[simp] theorem ev_d4 {x : Nat} {p : List Stp} {o : O} : Rt.d (.bor x p o) = o.d := Eq.trans rfl rfl
@[simp] theorem ev_ret : msRet f env = retK (f env) := by unfold msRet; cases f env <;> rfl
@[simp] theorem ev_ret1 : retK (.ok r e) = .ok (.ret r) e := Eq.trans rfl rfl
@[simp] theorem ev_set {i : Nat} : msSet i f env = setK i (f env) := by
  unfold msSet
  cases f env with
  | ok r e =>
    show (match r.o with | some o => Rs.ok Fl.nx (e.set i (some o)) | none => .bad) = setP i e r.o
    cases r.o <;> rfl
  | exc c ds e => rfl
  | bad => rfl
@[simp] theorem ev_set1 {i : Nat} : setK i (.ok r e) = setP i e r.o := Eq.trans rfl rfl
@[simp] theorem ev_set2 {i : Nat} {o : O} : setP i e (some o) = .ok .nx (e.set i (some o)) := Eq.trans rfl rfl
@[simp] theorem ev_expr : msExpr f env = exprK (f env) := by unfold msExpr; cases f env <;> rfl
@[simp] theorem ev_expr1 : exprK (.ok r e) = .ok .nx e := Eq.trans rfl rfl
@[simp] theorem ev_msnil : msNil env = .ok .nx env := Eq.trans rfl rfl
@[simp] theorem ev_brk : msBrk env = .ok .brk env := Eq.trans rfl rfl
@[simp] theorem ev_bad : msBad env = .bad := Eq.trans rfl rfl
@[simp] theorem ev_mAnd : mAnd f1 f2 env = mAndK f2 (f1 env) := by
  unfold mAnd
  cases f1 env with
  | ok r e =>
    show (match toB r with | some true => f2 e | some false => Rs.ok (Rt.val (.bl false)) e | none => .bad) = mAndB f2 e (toB r)
    cases toB r with
    | none => rfl
    | some b => cases b <;> rfl
  | exc c ds e => rfl
  | bad => rfl
@[simp] theorem ev_mAnd1 : mAndK f2 (.ok r e) = mAndB f2 e (toB r) := Eq.trans rfl rfl
@[simp] theorem ev_mAnd2 {b : Bool} : mAndB f2 e (some b) = if b = true then f2 e else .ok (.val (.bl false)) e := by cases b <;> rfl
@[simp] theorem ev_mOr : mOr f1 f2 env = mOrK f2 (f1 env) := by
  unfold mOr
  cases f1 env with
  | ok r e =>
    show (match toB r with | some false => f2 e | some true => Rs.ok (Rt.val (.bl true)) e | none => .bad) = mOrB f2 e (toB r)
    cases toB r with
    | none => rfl
    | some b => cases b <;> rfl
  | exc c ds e => rfl
  | bad => rfl
@[simp] theorem ev_mOr1 : mOrK f2 (.ok r e) = mOrB f2 e (toB r) := Eq.trans rfl rfl
@[simp] theorem ev_mOr2 {b : Bool} : mOrB f2 e (some b) = if b = true then .ok (.val (.bl true)) e else f2 e := by cases b <;> rfl
@[simp] theorem ev_mNot : mNot f1 env = mNotK (f1 env) := by
  unfold mNot
  cases f1 env with
  | ok r e =>
    show (match toB r with | some k => Rs.ok (Rt.val (.bl (!k))) e | none => .bad) = mNotB e (toB r)
    cases toB r <;> rfl
  | exc c ds e => rfl
  | bad => rfl
@[simp] theorem ev_mNot1 : mNotK (.ok r e) = mNotB e (toB r) := Eq.trans rfl rfl
@[simp] theorem ev_mNot2 {b : Bool} : mNotB e (some b) = .ok (.val (.bl (!b))) e := Eq.trans rfl rfl
@[simp] theorem ev_call {Sl : List Nat} {n : Nat} {fn : List O → Rr} : mCall Sl n fn fs env = callK Sl n fn (fs env) := by
  unfold mCall
  cases fs env with
  | ok rs e =>
    show (match argsO e rs with | some os => _ | none => Rs.bad) = callA Sl n fn rs e (argsO e rs)
    cases argsO e rs with
    | none => rfl
    | some os =>
      show (if _ then _ else _) = if _ then callR n rs e (fn os) else _
      cases fn os <;> rfl
  | exc c ds e => rfl
  | bad => rfl
@[simp] theorem ev_call1 {Sl : List Nat} {n : Nat} {fn : List O → Rr} : callK Sl n fn (.ok rs e) = callA Sl n fn rs e (argsO e rs) := Eq.trans rfl rfl
@[simp] theorem ev_call2 {Sl : List Nat} {n : Nat} {fn : List O → Rr} {os : List O} : callA Sl n fn rs e (some os) = if rs.length = n ∧ (slots rs).Nodup ∧ (∀ x ∈ slots rs, x ∈ Sl) then callR n rs e (fn os) else .bad := Eq.trans rfl rfl
@[simp] theorem ev_call3 {n : Nat} {o : O} {outs : List O} : callR n rs e (.ok o outs) = if outs.length = n then .ok o.rr (putOuts e rs outs) else .bad := Eq.trans rfl rfl
@[simp] theorem ev_ao0 : argsO e [] = some [] := Eq.trans rfl rfl
@[simp] theorem ev_ao1 : argsO e (.val d :: rs) = (argsO e rs).map (O.s d :: ·) := by show (some (O.s d)).bind _ = _; simp
@[simp] theorem ev_ao2 {x : Nat} : argsO e (.sl x :: rs) = (e[x]?).join.bind fun o => (argsO e rs).map (o :: ·) := Eq.trans rfl rfl
@[simp] theorem ev_sl0 : slots [] = [] := Eq.trans rfl rfl
@[simp] theorem ev_slv : slots (.val d :: rs) = slots rs := Eq.trans rfl rfl
@[simp] theorem ev_sls {x : Nat} : slots (.sl x :: rs) = x :: slots rs := Eq.trans rfl rfl
@[simp] theorem ev_po0 {os : List O} : putOuts e [] os = e := by cases os <;> rfl
@[simp] theorem ev_po1 {o : O} {os : List O} : putOuts e (.val d :: rs) (o :: os) = putOuts e rs os := Eq.trans rfl rfl
@[simp] theorem ev_po2 {x : Nat} {o : O} {os : List O} : putOuts e (.sl x :: rs) (o :: os) = putOuts (e.set x (some o)) rs os := Eq.trans rfl rfl
@[simp] theorem ev_run {IO : List Nat} {k : Nat} {os : List O} : runDef IO k g os = runK IO os (g (os.map some ++ List.replicate k none)) := by
  unfold runDef
  cases g (os.map some ++ List.replicate k none) with
  | ok fl e =>
    show (match outsFrom IO 0 os e, retO os.length fl with | some outs, some r => Rr.ok r outs | _, _ => .bad) = runF os.length fl (outsFrom IO 0 os e) (retO os.length fl)
    cases outsFrom IO 0 os e <;> cases retO os.length fl <;> rfl
  | exc c ds e => rfl
  | bad => rfl
@[simp] theorem ev_run1 {IO : List Nat} {os : List O} {fl : Fl} : runK IO os (.ok fl e) = runF os.length fl (outsFrom IO 0 os e) (retO os.length fl) := Eq.trans rfl rfl
@[simp] theorem ev_run2 {n : Nat} {fl : Fl} {outs : List O} {o : O} : runF n fl (some outs) (some o) = .ok o outs := Eq.trans rfl rfl
@[simp] theorem ev_of0 {IO : List Nat} {i : Nat} : outsFrom IO i [] e = some [] := by cases e <;> rfl
@[simp] theorem ev_of1 {IO : List Nat} {i : Nat} {o : O} {os : List O} {x : Option O} : outsFrom IO i (o :: os) (x :: e) = (if i ∈ IO then x else o.only).bind fun o' => (outsFrom IO (i + 1) os e).map (o' :: ·) := Eq.trans rfl rfl
@[simp] theorem ev_ro1 {n : Nat} : retO n .nx = some (.s .non) := Eq.trans rfl rfl
@[simp] theorem ev_ro2 {n : Nat} : retO n (.ret (.val d)) = some (.s d) := Eq.trans rfl rfl
@[simp] theorem ev_ro3 {n : Nat} {o : O} : retO n (.ret (.own o)) = some o := Eq.trans rfl rfl
@[simp] theorem ev_stlE : mStl f env = stlK (f env) := by
  unfold mStl
  cases f env with
  | ok r e => cases r <;> rfl
  | exc c ds e => rfl
  | bad => rfl
@[simp] theorem ev_stl1 {o : O} : stlK (.ok (.own o) e) = .ok (.val o.d) e := Eq.trans rfl rfl
@[simp] theorem ev_stl2 : stlK (.ok (.val d) e) = .ok (.val d) e := Eq.trans rfl rfl
@[simp] theorem ev_chain {g g' : Rt → Rt → Option Rt} : mChain g g' f1 f2 f3 env = chainK g g' f2 f3 (f1 env) := by
  unfold mChain
  cases f1 env with
  | ok r1 e =>
    show (f2 e).bind _ = chainM g g' f3 r1 (f2 e)
    cases f2 e with
    | ok r2 e2 =>
      cases r1 <;> cases r2 <;> try rfl
      rename_i d1 d2
      show (match g (.val d1) (.val d2) with | some (.val (.bl true)) => _ | some (.val (.bl false)) => _ | _ => Rs.bad) = chainB g' f3 d2 e2 (g (.val d1) (.val d2))
      cases g (.val d1) (.val d2) with
      | none => rfl
      | some r =>
        cases r with
        | val d =>
          cases d with
          | bl b =>
            cases b with
            | true => show (f3 e2).bind _ = chainN g' d2 (f3 e2); cases f3 e2 <;> rfl
            | false => rfl
          | _ => rfl
        | _ => rfl
    | exc c ds e => rfl
    | bad => rfl
  | exc c ds e => rfl
  | bad => rfl
@[simp] theorem ev_chain1 {g g' : Rt → Rt → Option Rt} : chainK g g' f2 f3 (.ok r e) = chainM g g' f3 r (f2 e) := Eq.trans rfl rfl
@[simp] theorem ev_chain2 {g g' : Rt → Rt → Option Rt} {d1 d2 : D} : chainM g g' f3 (.val d1) (.ok (.val d2) e) = chainB g' f3 d2 e (g (.val d1) (.val d2)) := Eq.trans rfl rfl
@[simp] theorem ev_chain3 {g' : Rt → Rt → Option Rt} {d2 : D} {b : Bool} : chainB g' f3 d2 e (some (.val (.bl b))) = if b = true then chainN g' d2 (f3 e) else .ok (.val (.bl false)) e := by cases b <;> rfl
@[simp] theorem ev_chain4 {g' : Rt → Rt → Option Rt} {d2 : D} : chainN g' d2 (.ok r e) = ofO (g' (.val d2) r) e := Eq.trans rfl rfl
@[simp] theorem ev_setIx : msSetIx Tx T2 T3 f fo fi env = setIxK Tx T3 fo fi (f env) := by
  unfold msSetIx
  cases f env with
  | ok y e =>
    show (match y.o with | some oy => (fo e).bind _ | none => Rs.bad) = setIxY Tx T3 fo fi e y.o
    cases y.o with
    | none => rfl
    | some oy =>
      show (fo e).bind _ = setIxO Tx T3 fi oy (fo e)
      cases fo e with
      | ok r e2 =>
        cases r with
        | bor x p o =>
          cases o with
          | lst os =>
            show (if x ∈ T3 then Rs.bad else (fi e2).bind _) = if x ∈ T3 then .bad else setIxI Tx oy (.bor x p (.lst os)) (fi e2)
            cases fi e2 with
            | ok ri e3 =>
              cases ri with
              | val d =>
                cases d with
                | int i =>
                  show (if x ∈ T3 then Rs.bad else (match ixN os.length i with | some j => _ | none => Rs.bad)) = if x ∈ T3 then .bad else ixSet Tx x p os oy e3 (ixN os.length i)
                  cases ixN os.length i <;> rfl
                | _ => rfl
              | _ => rfl
            | exc c ds e => rfl
            | bad => rfl
          | _ => rfl
        | _ => rfl
      | exc c ds e => rfl
      | bad => rfl
  | exc c ds e => rfl
  | bad => rfl
@[simp] theorem ev_setIx1 : setIxK Tx T3 fo fi (.ok r e) = setIxY Tx T3 fo fi e r.o := Eq.trans rfl rfl
@[simp] theorem ev_setIx2 {oy : O} : setIxY Tx T3 fo fi e (some oy) = setIxO Tx T3 fi oy (fo e) := Eq.trans rfl rfl
@[simp] theorem ev_setIx3 {oy : O} {x : Nat} {p : List Stp} {os : List O} : setIxO Tx T3 fi oy (.ok (.bor x p (.lst os)) e) = if x ∈ T3 then .bad else setIxI Tx oy (.bor x p (.lst os)) (fi e) := Eq.trans rfl rfl
@[simp] theorem ev_setIx4 {oy : O} {x : Nat} {p : List Stp} {os : List O} {i : Int} : setIxI Tx oy (.bor x p (.lst os)) (.ok (.val (.int i)) e) = ixSet Tx x p os oy e (ixN os.length i) := Eq.trans rfl rfl
@[simp] theorem ev_gI {g : Int → Int → D} {i j : Int} : gI g (.val (.int i)) (.val (.int j)) = some (.val (g i j)) := Eq.trans rfl rfl
@[simp] theorem ev_gIc {c : Int → Int → Bool} {g : Int → Int → D} {i j : Int} : gIc c g (.val (.int i)) (.val (.int j)) = if c i j = true then some (.val (g i j)) else none := Eq.trans rfl rfl
@[simp] theorem ev_gMul {i j : Int} : gMul (.val (.int i)) (.val (.int j)) = if cMul2 i j = true then some (.val (.int (i * j))) else none := Eq.trans rfl rfl
@[simp] theorem ev_gAdd {i j : Int} : gAdd (.val (.int i)) (.val (.int j)) = some (.val (.int (i + j))) := Eq.trans rfl rfl
@[simp] theorem ev_gAddT {ds es : List D} : gAdd (.val (.tup ds)) (.val (.tup es)) = if ds.length + es.length ≤ 16777216 then some (.val (.tup (ds ++ es))) else none := Eq.trans rfl rfl
@[simp] theorem ev_eqI {i j : Int} : gEq (.val (.int i)) (.val (.int j)) = some (.val (.bl (decide (i = j)))) := by
  simp [gEq, Rt.isSl, Rt.d, eqD, D.py, shp_int, shp_str, PyData.eqv, beq_dec]
@[simp] theorem ev_neI {i j : Int} : gNe (.val (.int i)) (.val (.int j)) = some (.val (.bl (!decide (i = j)))) := by
  simp [gNe, Rt.isSl, Rt.d, eqD, D.py, shp_int, shp_str, PyData.eqv, beq_dec]
@[simp] theorem ev_eqS {i j : Str} (hi : PyData.strOk i = true) (hj : PyData.strOk j = true) : gEq (.val (.str i)) (.val (.str j)) = some (.val (.bl (decide (i = j)))) := by
  simp [gEq, Rt.isSl, Rt.d, eqD, D.py, shp_int, shp_str hi, shp_str hj, PyData.eqv, beq_dec]
@[simp] theorem ev_neS {i j : Str} (hi : PyData.strOk i = true) (hj : PyData.strOk j = true) : gNe (.val (.str i)) (.val (.str j)) = some (.val (.bl (!decide (i = j)))) := by
  simp [gNe, Rt.isSl, Rt.d, eqD, D.py, shp_int, shp_str hi, shp_str hj, PyData.eqv, beq_dec]
@[simp] theorem ev_neg {i : Int} : gNeg (.val (.int i)) = some (.val (.int (-i))) := Eq.trans rfl rfl
@[simp] theorem ev_int {i : Int} : gInt [.val (.int i)] = some (.val (.int i)) := Eq.trans rfl rfl
@[simp] theorem ev_intb {b : Bool} : gInt [.val (.bl b)] = some (.val (.int (if b then 1 else 0))) := Eq.trans rfl rfl
@[simp] theorem ev_len1 {ds : List D} : gLen [.val (.tup ds)] = some (.val (.int ds.length)) := Eq.trans rfl rfl
@[simp] theorem ev_len2 {ds : List D} : gLen [.val (.lst ds)] = some (.val (.int ds.length)) := Eq.trans rfl rfl
@[simp] theorem ev_len3 {x : Nat} {p : List Stp} {os : List O} : gLen [.bor x p (.lst os)] = some (.val (.int os.length)) := Eq.trans rfl rfl
@[simp] theorem ev_min {i j : Int} : gMin2 [.val (.int i), .val (.int j)] = some (.val (.int (if j < i then j else i))) := Eq.trans rfl rfl
@[simp] theorem ev_max {i j : Int} : gMax2 [.val (.int i), .val (.int j)] = some (.val (.int (if j > i then j else i))) := Eq.trans rfl rfl
@[simp] theorem ev_abs {i : Int} : gAbs [.val (.int i)] = some (.val (.int (if i < 0 then -i else i))) := Eq.trans rfl rfl
@[simp] theorem ev_vals0 : vals [] = some [] := Eq.trans rfl rfl
@[simp] theorem ev_vals1 : vals (.val d :: rs) = (vals rs).map (d :: ·) := Eq.trans rfl rfl
@[simp] theorem ev_tup : gTup rs = (vals rs).bind fun ds => if ds.length ≤ 16777216 then some (.val (.tup ds)) else none := Eq.trans rfl rfl
@[simp] theorem ev_lst : gLst rs = (vals rs).bind fun ds => if ds.length ≤ 16777216 then some (.own (.lst (ds.map O.s))) else none := Eq.trans rfl rfl
@[simp] theorem ev_ixt {ds : List D} {i : Int} : gIx (.val (.tup ds)) (.val (.int i)) = (atI ds i).map .val := Eq.trans rfl rfl
@[simp] theorem ev_ixl {ds : List D} {i : Int} : gIx (.val (.lst ds)) (.val (.int i)) = (atI ds i).map .val := Eq.trans rfl rfl
@[simp] theorem ev_ixb {x : Nat} {p : List Stp} {os : List O} {i : Int} : gIx (.bor x p (.lst os)) (.val (.int i)) = match ixN os.length i with | some n => (os[n]?).map fun o => o.at x (p ++ [.idx n]) | none => none := Eq.trans rfl rfl
@[simp] theorem ev_is {n : Bool} : gIs n (.val d) (.val .non) = some (.val (.bl (d.isN != n))) := Eq.trans rfl rfl
@[simp] theorem ev_isn1 : D.isN .non = true := Eq.trans rfl rfl
@[simp] theorem ev_isn2 {i : Int} : D.isN (.int i) = false := Eq.trans rfl rfl
@[simp] theorem ev_isn3 {ds : List D} : D.isN (.tup ds) = false := Eq.trans rfl rfl
@[simp] theorem ev_poke {x : Nat} {p : List Stp} {o' : O} : poke x p o' e = ((e[x]?).join.bind fun o0 => setAt p o0 o').map fun o => e.set x (some o) := by
  unfold poke
  cases h : e[x]? with
  | none => rfl
  | some o => cases o <;> rfl
@[simp] theorem ev_sa0 {o y : O} : setAt [] o y = some y := by cases o <;> rfl
@[simp] theorem ev_sa1 {n : Nat} {p : List Stp} {os : List O} {y : O} : setAt (.idx n :: p) (.lst os) y = (os[n]?).bind fun o => (setAt p o y).map fun o' => .lst (os.set n o') := Eq.trans rfl rfl
@[simp] theorem ev_sa2 {f : Str} {c : Nat} {ns : List Str} {p : List Stp} {os : List O} {y : O} : setAt (.attr f :: p) (.ins c ns os) y = (lk ns os f).bind fun o => (setAt p o y).map fun o' => .ins c ns (setLk ns os f o') := Eq.trans rfl rfl
def pkF : Option Env → Rs Fl
  | some e => .ok .nx e
  | none => .bad
@[simp] theorem ev_pkF {e : Env} : pkF (some e) = .ok .nx e := Eq.trans rfl rfl
@[simp] theorem ev_ixSet {x j : Nat} {p : List Stp} {os : List O} {oy : O} : ixSet Tx x p os oy e (some j) = if x ∈ Tx then pkF (poke x p (.lst (os.set j oy)) e) else .bad := by
  unfold ixSet
  show (if x ∈ Tx then (match poke x p (.lst (os.set j oy)) e with | some e4 => Rs.ok Fl.nx e4 | none => .bad) else .bad) = _
  generalize poke x p (.lst (os.set j oy)) e = q
  cases q <;> rfl
def lcF (vs : List Nat) : Rs (List D) → Rs Rt
  | .ok ys e => .ok (.own (.lst (ys.map O.s))) (wipeE e vs)
  | r => r.ex
def lcK (Tb vs : List Nat) (set : D → Env → Option Env) (t : MT) (f : ME) : Rs Src → Rs Rt
  | .ok src e => if src.hot Tb = true then .bad else if src.items.length ≤ 16777216 then lcF vs (lcL vs set t f src.items e) else .bad
  | r => r.ex
@[simp] theorem ev_lc {Tb vs : List Nat} {set : D → Env → Option Env} {fi : MI} : mLc Tb vs set fi t f env = lcK Tb vs set t f (fi env) := by
  unfold mLc
  cases fi env with
  | ok src e =>
    show (if src.hot Tb = true then Rs.bad else if src.items.length ≤ 16777216 then (lcL vs set t f src.items e).bind _ else .bad) = if src.hot Tb = true then .bad else if src.items.length ≤ 16777216 then lcF vs (lcL vs set t f src.items e) else .bad
    generalize lcL vs set t f src.items e = q
    cases q <;> rfl
  | exc c ds e => rfl
  | bad => rfl
@[simp] theorem ev_lc1 {Tb vs : List Nat} {set : D → Env → Option Env} {src : Src} : lcK Tb vs set t f (.ok src e) = if src.hot Tb = true then .bad else if src.items.length ≤ 16777216 then lcF vs (lcL vs set t f src.items e) else .bad := Eq.trans rfl rfl
@[simp] theorem ev_lc2 {vs : List Nat} {ys : List D} : lcF vs (.ok ys e) = .ok (.own (.lst (ys.map O.s))) (wipeE e vs) := Eq.trans rfl rfl
@[simp] theorem ev_wipe0 : wipeE e [] = e := Eq.trans rfl rfl
@[simp] theorem ev_wipe1 {v : Nat} {vs : List Nat} : wipeE e (v :: vs) = wipeE (e.set v none) vs := Eq.trans rfl rfl
@[simp] theorem ev_yes : mYes env = .ok true env := Eq.trans rfl rfl
@[simp] theorem ev_setT {i : Nat} : setT [i] d e = some (e.set i (some (.s d))) := Eq.trans rfl rfl
@[simp] theorem ev_setTs0 : setTs [] [] e = some e := Eq.trans rfl rfl
@[simp] theorem ev_setTs1 {i : Nat} {is : List Nat} {ds : List D} : setTs (i :: is) (d :: ds) e = setTs is ds (e.set i (some (.s d))) := Eq.trans rfl rfl
@[simp] theorem ev_setTup {is : List Nat} {ds : List D} : setTup is (.tup ds) e = setTs is ds e := Eq.trans rfl rfl
def rg1K : Rs (List Rt) → Rs Src
  | .ok [.val (.int j)] e => if -(2 ^ 62) ≤ j ∧ j < 2 ^ 62 then .ok ⟨rngD 0 j.toNat, none⟩ e else .bad
  | r => r.ex
@[simp] theorem ev_rg1 : iRg1 fs env = rg1K (fs env) := by
  unfold iRg1
  cases fs env with
  | ok rs e =>
    match rs with
    | [] => rfl
    | [.val d] => cases d <;> rfl
    | [.own _] => rfl
    | [.bor _ _ _] => rfl
    | [.sl _] => rfl
    | .val d :: _ :: _ => cases d <;> rfl
    | .own _ :: _ :: _ => rfl
    | .bor _ _ _ :: _ :: _ => rfl
    | .sl _ :: _ :: _ => rfl
  | exc c ds e => rfl
  | bad => rfl
theorem ev_rg11 {j : Int} : rg1K (.ok [.val (.int j)] e) = if -(2 ^ 62) ≤ j ∧ j < 2 ^ 62 then .ok ⟨rngD 0 j.toNat, none⟩ e else .bad := rfl
theorem rg1_is {j : Int} (h0 : 0 ≤ j) (h1 : j ≤ 1000000) : rg1K (.ok [.val (.int j)] e) = .ok ⟨rngD 0 j.toNat, none⟩ e := by
  rw [ev_rg11, if_pos ⟨by omega, by omega⟩]
@[simp] theorem ev_od2 {os : List O} : O.d (.lst os) = .lst (O.ds os) := by simp [O.d]
@[simp] theorem ev_od3 {c : Nat} {ns : List Str} {os : List O} : O.d (.ins c ns os) = .ins c ns (O.ds os) := by simp [O.d]
@[simp] theorem ev_ods0 : O.ds [] = [] := by simp [O.ds]
@[simp] theorem ev_ods1 {o : O} {os : List O} : O.ds (o :: os) = o.d :: O.ds os := by simp [O.ds]
@[simp] theorem ev_ods2 {ds : List D} : O.ds (ds.map O.s) = ds := O.ds_s ds
def seqS (tup : Bool) : Rs Rt → Rs Src
  | .ok r e => ofO (srcOf tup r) e
  | r => r.ex
@[simp] theorem ev_iseq {tup : Bool} : iSeq tup f env = seqS tup (f env) := by unfold iSeq; cases f env <;> rfl
@[simp] theorem ev_iseq1 {tup : Bool} : seqS tup (.ok r e) = ofO (srcOf tup r) e := Eq.trans rfl rfl
@[simp] theorem ev_src1 {ds : List D} : srcOf true (.val (.tup ds)) = some ⟨ds, none⟩ := Eq.trans rfl rfl
@[simp] theorem ev_src2 {ds : List D} : srcOf false (.val (.lst ds)) = some ⟨ds, none⟩ := Eq.trans rfl rfl
@[simp] theorem ev_src3 {x : Nat} {p : List Stp} {os : List O} : srcOf false (.bor x p (.lst os)) = (leaves os).map fun ds => ⟨ds, some x⟩ := Eq.trans rfl rfl
@[simp] theorem ev_leaves {ds : List D} : leaves (ds.map O.s) = some ds := leaves_map ds
@[simp] theorem ev_leaves0 : leaves [] = some [] := Eq.trans rfl rfl
@[simp] theorem ev_leaves1 {os : List O} : leaves (.s d :: os) = (leaves os).map (d :: ·) := Eq.trans rfl rfl
def enumS : Rs (List Rt) → Rs Src
  | .ok [r] e => ofO ((anySrc r).map fun s => ⟨enumD 0 s.2.items, s.2.dep⟩) e
  | r => r.ex
@[simp] theorem ev_enum : iEnumM fs env = enumS (fs env) := by
  unfold iEnumM
  cases fs env with
  | ok rs e =>
    match rs with
    | [] => rfl
    | [_] => rfl
    | _ :: _ :: _ => rfl
  | exc c ds e => rfl
  | bad => rfl
@[simp] theorem ev_enum1 : enumS (.ok [r] e) = ofO ((anySrc r).map fun s => ⟨enumD 0 s.2.items, s.2.dep⟩) e := Eq.trans rfl rfl
@[simp] theorem ev_any1 {ds : List D} : anySrc (.val (.tup ds)) = some (true, ⟨ds, none⟩) := Eq.trans rfl rfl
@[simp] theorem ev_any2 {ds : List D} : anySrc (.val (.lst ds)) = some (false, ⟨ds, none⟩) := Eq.trans rfl rfl
def zipS : Rs (List Rt) → Rs Src
  | .ok [r, r'] e => match anySrc r, anySrc r' with
    | some (_, s), some (_, s') => ofO ((depJ s.dep s'.dep).map fun dep => ⟨zipD s.items s'.items, dep⟩) e
    | _, _ => .bad
  | r => r.ex
@[simp] theorem ev_zip : iZipM fs env = zipS (fs env) := by
  unfold iZipM
  cases fs env with
  | ok rs e =>
    match rs with
    | [] => rfl
    | [_] => rfl
    | [_, _] => rfl
    | _ :: _ :: _ :: _ => rfl
  | exc c ds e => rfl
  | bad => rfl
@[simp] theorem ev_zip1 {ds es : List D} : zipS (.ok [.val (.tup ds), .val (.tup es)] e) = .ok ⟨zipD ds es, none⟩ e := Eq.trans rfl rfl
@[simp] theorem ev_zip2 {ds es : List D} : zipS (.ok [.val (.tup ds), .val (.lst es)] e) = .ok ⟨zipD ds es, none⟩ e := Eq.trans rfl rfl
@[simp] theorem ev_zip3 {ds es : List D} : zipS (.ok [.val (.lst ds), .val (.lst es)] e) = .ok ⟨zipD ds es, none⟩ e := Eq.trans rfl rfl
def forK (Tb : List Nat) (set : D → Env → Option Env) (g : MS) : Rs Src → Rs Fl
  | .ok src e => if src.hot Tb = true then .bad else forL set g src.items e
  | r => r.ex
@[simp] theorem ev_for {Tb : List Nat} {set : D → Env → Option Env} {fi : MI} : msFor Tb set fi g env = forK Tb set g (fi env) := by unfold msFor; cases fi env <;> rfl
@[simp] theorem ev_for1 {Tb : List Nat} {set : D → Env → Option Env} {src : Src} : forK Tb set g (.ok src e) = if src.hot Tb = true then .bad else forL set g src.items e := Eq.trans rfl rfl
@[simp] theorem ev_hot0 {ds : List D} : Src.hot ⟨ds, none⟩ T = false := Eq.trans rfl rfl
@[simp] theorem ev_hot1 {ds : List D} {x : Nat} : Src.hot ⟨ds, some x⟩ T = T.contains x := Eq.trans rfl rfl
@[simp] theorem ev_od1 : O.d (.s d) = d := Eq.trans rfl rfl
theorem lc_all {vs : List Nat} {set : D → Env → Option Env} {f : ME} {I : Env → Prop} {R : D → Prop} {G : D → Prop} (step : ∀ e d, I e → G d → ∃ e1 y e2, set d (wipeE e vs) = some e1 ∧ f e1 = .ok (.val y) e2 ∧ I e2 ∧ R y) :
    ∀ (items : List D) (e : Env), I e → (∀ d ∈ items, G d) → ∃ ys e', lcL vs set mYes f items e = .ok ys e' ∧ I e' ∧ ys.length = items.length ∧ ∀ y ∈ ys, R y
  | [], e, hI, _ => ⟨[], e, rfl, hI, rfl, fun y h => by simp at h⟩
  | d :: ds, e, hI, hG => by
    obtain ⟨e1, y, e2, h1, h2, h3, h4⟩ := step e d hI (hG d (by simp))
    obtain ⟨ys, e', i1, i2, i3, i4⟩ := lc_all step ds e2 h3 (fun d hd => hG d (by simp [hd]))
    refine ⟨y :: ys, e', ?_, i2, by simp [i3], fun z hz => ?_⟩
    · unfold lcL
      rw [h1]
      simp only [mYes, Rs.bind, if_true, h2, i1]
    · rcases List.mem_cons.mp hz with q | q
      · rw [q]; exact h4
      · exact i4 z q
theorem lc_map {vs : List Nat} {set : D → Env → Option Env} {f : ME} {I : Env → Prop} {F : D → D} :
    ∀ (items : List D) (e : Env), (∀ e d, I e → d ∈ items → ∃ e1 e2, set d (wipeE e vs) = some e1 ∧ f e1 = .ok (.val (F d)) e2 ∧ I e2) → I e → ∃ e', lcL vs set mYes f items e = .ok (items.map F) e' ∧ I e'
  | [], e, _, hI => ⟨e, rfl, hI⟩
  | d :: ds, e, step, hI => by
    obtain ⟨e1, e2, h1, h2, h3⟩ := step e d hI (by simp)
    obtain ⟨e', i1, i2⟩ := lc_map ds e2 (fun e d' a b => step e d' a (by simp [b])) h3
    refine ⟨e', ?_, i2⟩
    unfold lcL
    rw [h1]
    simp only [mYes, Rs.bind, if_true, h2, i1]
    rfl

def lcG (y : D) : Rs (List D) → Rs (List D)
  | .ok ys e => .ok (y :: ys) e
  | r => r
def lcE (vs : List Nat) (set : D → Env → Option Env) (t : MT) (f : ME) (ds : List D) : Rs Rt → Rs (List D)
  | .ok (.val y) e => lcG y (lcL vs set t f ds e)
  | .ok _ _ => .bad
  | r => r.ex
def lcB (vs : List Nat) (set : D → Env → Option Env) (t : MT) (f : ME) (ds : List D) : Rs Bool → Rs (List D)
  | .ok b e => if b = true then lcE vs set t f ds (f e) else lcL vs set t f ds e
  | r => r.ex
def lcT (vs : List Nat) (set : D → Env → Option Env) (t : MT) (f : ME) (ds : List D) : Option Env → Rs (List D)
  | some e => lcB vs set t f ds (t e)
  | none => .bad
theorem lc_cons {vs : List Nat} {set : D → Env → Option Env} {d : D} {ds : List D} : lcL vs set t f (d :: ds) e = lcT vs set t f ds (set d (wipeE e vs)) := by
  show (match set d (wipeE e vs) with | none => Rs.bad | some e1 => (t e1).bind _) = _
  cases set d (wipeE e vs) with
  | none => rfl
  | some e1 =>
    show (t e1).bind _ = lcB vs set t f ds (t e1)
    cases t e1 with
    | ok b e2 =>
      show (if b = true then (f e2).bind _ else _) = if b = true then lcE vs set t f ds (f e2) else _
      cases f e2 with
      | ok r e3 =>
        cases r with
        | val y =>
          show (if b = true then (lcL vs set t f ds e3).bind _ else _) = if b = true then lcG y (lcL vs set t f ds e3) else _
          cases lcL vs set t f ds e3 <;> rfl
        | own _ => rfl
        | bor _ _ _ => rfl
        | sl _ => rfl
      | exc c ds e => rfl
      | bad => rfl
    | exc c ds e => rfl
    | bad => rfl
theorem lc_nil {vs : List Nat} {set : D → Env → Option Env} : lcL vs set t f [] e = .ok [] e := rfl
@[simp] theorem ev_lcT {vs : List Nat} {set : D → Env → Option Env} {ds : List D} : lcT vs set t f ds (some e) = lcB vs set t f ds (t e) := Eq.trans rfl rfl
@[simp] theorem ev_lcB {vs : List Nat} {set : D → Env → Option Env} {ds : List D} {b : Bool} : lcB vs set t f ds (.ok b e) = if b = true then lcE vs set t f ds (f e) else lcL vs set t f ds e := Eq.trans rfl rfl
@[simp] theorem ev_lcE {vs : List Nat} {set : D → Env → Option Env} {ds : List D} {y : D} : lcE vs set t f ds (.ok (.val y) e) = lcG y (lcL vs set t f ds e) := Eq.trans rfl rfl
@[simp] theorem ev_lcG {y : D} {ys : List D} : lcG y (.ok ys e) = .ok (y :: ys) e := Eq.trans rfl rfl
theorem for_inv {set : D → Env → Option Env} {g : MS} {I : List D → Env → Prop} (step : ∀ d ds e, I (d :: ds) e → ∃ e1 e2, set d e = some e1 ∧ g e1 = .ok .nx e2 ∧ I ds e2) : ∀ (items : List D) (e : Env), I items e → ∃ e', forL set g items e = .ok .nx e' ∧ I [] e'
  | [], e, h => ⟨e, rfl, h⟩
  | d :: ds, e, h => by
    obtain ⟨e1, e2, h1, h2, h3⟩ := step d ds e h
    obtain ⟨e', i1, i2⟩ := for_inv step ds e2 h3
    refine ⟨e', ?_, i2⟩
    unfold forL
    rw [h1]
    simp only [Rs.bind, h2, i1]
def slN (T : List Nat) (lo : Option Int) (r : Rt) : Rs (Option Int) → Rs Rt
  | .ok hi e => ofO (gSl lo hi r) e
  | r => r.ex
def slM (T : List Nat) (h : MO) (r : Rt) : Rs (Option Int) → Rs Rt
  | .ok lo e => slN T lo r (h e)
  | r => r.ex
def slK (T : List Nat) (l h : MO) : Rs Rt → Rs Rt
  | .ok r e => if r.hot T = true then .bad else slM T h r (l e)
  | r => r
@[simp] theorem ev_sl {l h : MO} : mSl T f l h env = slK T l h (f env) := by
  unfold mSl
  cases f env with
  | ok r e =>
    show (if r.hot T = true then Rs.bad else (l e).bind _) = if r.hot T = true then .bad else slM T h r (l e)
    cases l e with
    | ok lo e2 =>
      show (if r.hot T = true then Rs.bad else (h e2).bind _) = if r.hot T = true then .bad else slN T lo r (h e2)
      cases h e2 <;> rfl
    | exc c ds e => rfl
    | bad => rfl
  | exc c ds e => rfl
  | bad => rfl
@[simp] theorem ev_slk {l h : MO} : slK T l h (.ok r e) = if r.hot T = true then .bad else slM T h r (l e) := Eq.trans rfl rfl
@[simp] theorem ev_slm {h : MO} {lo : Option Int} : slM T h r (.ok lo e) = slN T lo r (h e) := Eq.trans rfl rfl
@[simp] theorem ev_sln {lo hi : Option Int} : slN T lo r (.ok hi e) = ofO (gSl lo hi r) e := Eq.trans rfl rfl
@[simp] theorem ev_on : oNone env = .ok none env := Eq.trans rfl rfl
def oK : Rs Rt → Rs (Option Int)
  | .ok (.val (.int i)) e => .ok (some i) e
  | .ok _ _ => .bad
  | r => r.ex
@[simp] theorem ev_os : oSome f env = oK (f env) := by
  unfold oSome
  cases f env with
  | ok r e =>
    cases r with
    | val d => cases d <;> rfl
    | own _ => rfl
    | bor _ _ _ => rfl
    | sl _ => rfl
  | exc c ds e => rfl
  | bad => rfl
@[simp] theorem ev_ok {i : Int} : oK (.ok (.val (.int i)) e) = .ok (some i) e := Eq.trans rfl rfl
@[simp] theorem ev_gSl {ds : List D} {lo hi : Option Int} : gSl lo hi (.val (.tup ds)) = some (.val (.tup (cut ds lo hi))) := Eq.trans rfl rfl
@[simp] theorem ev_gSl2 {ds : List D} {lo hi : Option Int} : gSl lo hi (.val (.lst ds)) = some (.own (.lst ((cut ds lo hi).map O.s))) := Eq.trans rfl rfl
def parS : Option Env → Rs Fl
  | some e => .ok .nx e
  | none => .bad
def parK (is : List Nat) : Rs (List Rt) → Rs Fl
  | .ok rs e => parS (storeL is rs e)
  | r => r.ex
@[simp] theorem ev_par {is : List Nat} : msPar is fs env = parK is (fs env) := by
  unfold msPar
  cases fs env with
  | ok rs e =>
    show (match storeL is rs e with | some e' => Rs.ok Fl.nx e' | none => .bad) = parS (storeL is rs e)
    cases storeL is rs e <;> rfl
  | exc c ds e => rfl
  | bad => rfl
@[simp] theorem ev_parK {is : List Nat} : parK is (.ok rs e) = parS (storeL is rs e) := Eq.trans rfl rfl
@[simp] theorem ev_parS : parS (some e) = .ok .nx e := Eq.trans rfl rfl
@[simp] theorem ev_st0 : storeL [] [] e = some e := Eq.trans rfl rfl
@[simp] theorem ev_st1 {i : Nat} {is : List Nat} : storeL (i :: is) (.val d :: rs) e = storeL is rs (e.set i (some (.s d))) := Eq.trans rfl rfl
@[simp] theorem ev_st2 {i : Nat} {is : List Nat} {o : O} : storeL (i :: is) (.own o :: rs) e = storeL is rs (e.set i (some o)) := Eq.trans rfl rfl
@[simp] theorem ev_mulT {ds : List D} {i : Int} : gMul (.val (.tup ds)) (.val (.int i)) = if ds ≠ [] ∧ 2 ≤ i ∧ i ≤ 1000 ∧ ds.length ≤ 1000 then some (.val (.tup (List.replicate i.toNat ds).flatten)) else none := Eq.trans rfl rfl
@[simp] theorem ev_attrb {cs : List Nat} {n : Str} {x c : Nat} {p : List Stp} {ns : List Str} {os : List O} : gAttr cs n (.bor x p (.ins c ns os)) = if c ∈ cs then (lk ns os n).map fun o => o.at x (p ++ [.attr n]) else none := Eq.trans rfl rfl
@[simp] theorem ev_attrv {cs : List Nat} {n : Str} {c : Nat} {ns : List Str} {ds : List D} : gAttr cs n (.val (.ins c ns ds)) = if c ∈ cs then (lk ns ds n).map .val else none := Eq.trans rfl rfl
@[simp] theorem ev_lk {n : Str} {ns : List Str} {a : α} {as : List α} {m : Str} : lk (n :: ns) (a :: as) m = if n = m then some a else lk ns as m := Eq.trans rfl rfl
@[simp] theorem ev_setLk {n : Str} {ns : List Str} {a y : α} {as : List α} {m : Str} : setLk (n :: ns) (a :: as) m y = if n = m then y :: as else a :: setLk ns as m y := Eq.trans rfl rfl
@[simp] theorem ev_meth {Sl : List Nat} {c n : Nat} {mn : Str} {fn : List O → Rr} : mMeth Sl T2 c mn n fn fo fs env = methK Sl c mn n fn fs (fo env) := by
  unfold mMeth
  cases fo env with
  | ok r e =>
    show (if hasNo [c] mn e r = true then mCall Sl n fn (fun e => (fs e).bind fun rs e2 => .ok (r :: rs) e2) e else .bad) = if hasNo [c] mn e r = true then callK Sl n fn (consL r (fs e)) else .bad
    rw [ev_call]
    cases fs e <;> rfl
  | exc c ds e => rfl
  | bad => rfl
@[simp] theorem ev_meth1 {Sl : List Nat} {c n : Nat} {mn : Str} {fn : List O → Rr} : methK Sl c mn n fn fs (.ok r e) = if hasNo [c] mn e r = true then callK Sl n fn (consL r (fs e)) else .bad := Eq.trans rfl rfl
@[simp] theorem ev_hasNo {cs : List Nat} {mn : Str} {x : Nat} : hasNo cs mn e (.sl x) = match e[x]? with
    | some (some (.ins c ns os)) => decide (c ∈ cs) && (lk ns os mn).isNone
    | some (some (.s (.ins c ns ds))) => decide (c ∈ cs) && (lk ns ds mn).isNone
    | _ => false := Eq.trans rfl rfl
@[simp] theorem ev_make {Sl : List Nat} {c n : Nat} {fn : List O → Rr} : mMake Sl c n fn fs env = makeK Sl c n fn (fs env) := by
  unfold mMake
  cases fs env with
  | ok rs e =>
    show (match argsO e rs with | some os => _ | none => Rs.bad) = makeA Sl c n fn rs e (argsO e rs)
    cases argsO e rs with
    | none => rfl
    | some os =>
      show (if _ then _ else _) = if _ then makeR n rs e (fn (.ins c [] [] :: os)) else _
      cases fn (.ins c [] [] :: os) with
      | ok r outs =>
        cases r with
        | s d => cases d <;> cases outs <;> rfl
        | lst _ => rfl
        | dk _ _ => rfl
        | dt _ _ => rfl
        | ins _ _ _ => rfl
      | exc c ds outs => cases outs <;> rfl
      | bad => rfl
  | exc c ds e => rfl
  | bad => rfl
@[simp] theorem ev_make1 {Sl : List Nat} {c n : Nat} {fn : List O → Rr} : makeK Sl c n fn (.ok rs e) = makeA Sl c n fn rs e (argsO e rs) := Eq.trans rfl rfl
@[simp] theorem ev_make2 {Sl : List Nat} {c n : Nat} {fn : List O → Rr} {os : List O} : makeA Sl c n fn rs e (some os) = if rs.length + 1 = n ∧ (slots rs).Nodup ∧ (∀ x ∈ slots rs, x ∈ Sl) then makeR n rs e (fn (.ins c [] [] :: os)) else .bad := Eq.trans rfl rfl
@[simp] theorem ev_make3 {n : Nat} {o : O} {outs : List O} : makeR n rs e (.ok (.s .non) (o :: outs)) = if outs.length + 1 = n then .ok o.rr (putOuts e rs outs) else .bad := Eq.trans rfl rfl
@[simp] theorem ev_ro {n : Nat} {fn : List O → Rr} : mRo n fn fs env = roK n fn (fs env) := by unfold mRo; cases fs env <;> rfl
def roR (e : Env) : Rr → Rs Rt
  | .ok (.s d) _ => if d.flat = true then .ok (.val d) e else .bad
  | .exc c ds _ => if ds.all D.flat = true then .exc c ds e else .bad
  | _ => .bad
@[simp] theorem ev_roK {n : Nat} {fn : List O → Rr} : roK n fn (.ok rs e) = if rs.length = n ∧ rs.all (fun r => !r.isSl) = true then roR e (fn (rs.map fun r => .s r.d)) else .bad := by
  show roRun n fn rs e = _
  unfold roRun
  cases fn (rs.map fun r => .s r.d) with
  | ok o outs => cases o <;> rfl
  | exc c ds outs => rfl
  | bad => rfl
@[simp] theorem ev_roR {d : D} {outs : List O} : roR e (.ok (.s d) outs) = if d.flat = true then .ok (.val d) e else .bad := Eq.trans rfl rfl
@[simp] theorem ev_fl1 {i : Int} : D.flat (.int i) = true := Eq.trans rfl rfl
@[simp] theorem ev_fl2 {i : Bool} : D.flat (.bl i) = true := Eq.trans rfl rfl
@[simp] theorem ev_methR {c n : Nat} {mn : Str} {fn : List O → Rr} : mMethR T2 c mn n fn fo fs env = methRK T2 c mn n fn fs (fo env) := by
  unfold mMethR
  cases fo env with
  | ok r e =>
    show (if r.isSl = false ∧ r.hot T2 = false ∧ roHas c mn r.d = true then (fs e).bind _ else .bad) = if r.isSl = false ∧ r.hot T2 = false ∧ roHas c mn r.d = true then roK n fn (consL r (fs e)) else .bad
    cases fs e <;> rfl
  | exc c ds e => rfl
  | bad => rfl
@[simp] theorem ev_methR1 {c n : Nat} {mn : Str} {fn : List O → Rr} : methRK T2 c mn n fn fs (.ok r e) = if r.isSl = false ∧ r.hot T2 = false ∧ roHas c mn r.d = true then roK n fn (consL r (fs e)) else .bad := Eq.trans rfl rfl
def pkV (v : Rt) : Option Env → Rs Rt
  | some e => .ok v e
  | none => .bad
@[simp] theorem ev_pkV {v : Rt} : pkV v (some e) = .ok v e := Eq.trans rfl rfl
def appO (Tx : List Nat) (x : Nat) (p : List Stp) (os : List O) (e : Env) : Option O → Rs Rt
  | some oy => if os.length < 16777216 ∧ x ∈ Tx then pkV (.val .non) (poke x p (.lst (os ++ [oy])) e) else .bad
  | none => .bad
def appY (Tx : List Nat) (x : Nat) (p : List Stp) (os : List O) : Rs Rt → Rs Rt
  | .ok y e => appO Tx x p os e y.o
  | r => r
def appK (Tx T2 : List Nat) (f2 : ME) : Rs Rt → Rs Rt
  | .ok (.bor x p (.lst os)) e => if x ∈ T2 then .bad else appY Tx x p os (f2 e)
  | .ok _ _ => .bad
  | r => r
@[simp] theorem ev_app : mAppend Tx T2 f f2 env = appK Tx T2 f2 (f env) := by
  unfold mAppend
  cases f env with
  | ok r e =>
    cases r with
    | bor x p o =>
      cases o with
      | lst os =>
        show (if x ∈ T2 then Rs.bad else (f2 e).bind _) = if x ∈ T2 then .bad else appY Tx x p os (f2 e)
        cases f2 e with
        | ok y e2 =>
          show (if x ∈ T2 then Rs.bad else (match y.o with | some oy => _ | none => Rs.bad)) = if x ∈ T2 then .bad else appO Tx x p os e2 y.o
          cases y.o with
          | none => rfl
          | some oy =>
            show (if x ∈ T2 then Rs.bad else (if os.length < 16777216 ∧ x ∈ Tx then (match poke x p (.lst (os ++ [oy])) e2 with | some e3 => Rs.ok (.val .non) e3 | none => .bad) else .bad)) = if x ∈ T2 then .bad else (if os.length < 16777216 ∧ x ∈ Tx then pkV (.val .non) (poke x p (.lst (os ++ [oy])) e2) else .bad)
            generalize poke x p (.lst (os ++ [oy])) e2 = q
            cases q <;> rfl
        | exc c ds e => rfl
        | bad => rfl
      | s _ => rfl
      | dk _ _ => rfl
      | dt _ _ => rfl
      | ins _ _ _ => rfl
    | val _ => rfl
    | own _ => rfl
    | sl _ => rfl
  | exc c ds e => rfl
  | bad => rfl
@[simp] theorem ev_app1 {x : Nat} {p : List Stp} {os : List O} : appK Tx T2 f2 (.ok (.bor x p (.lst os)) e) = if x ∈ T2 then .bad else appY Tx x p os (f2 e) := Eq.trans rfl rfl
@[simp] theorem ev_app2 {x : Nat} {p : List Stp} {os : List O} {y : Rt} : appY Tx x p os (.ok y e) = appO Tx x p os e y.o := Eq.trans rfl rfl
@[simp] theorem ev_app3 {x : Nat} {p : List Stp} {os : List O} {oy : O} : appO Tx x p os e (some oy) = if os.length < 16777216 ∧ x ∈ Tx then pkV (.val .non) (poke x p (.lst (os ++ [oy])) e) else .bad := Eq.trans rfl rfl
end
end L3
namespace L3
open PySem L2
def saI (Tx cs : List Nat) (n : Str) (oy : O) : Rs Rt → Rs Fl
  | .ok r e => match r with
    | .bor x p (.ins c ns os) => if c ∈ cs ∧ x ∈ Tx ∧ ns.length < 1000 ∧ ns.length = os.length then pkF (poke x p (.ins c (putNs ns n) (putL ns os n oy)) e) else .bad
    | _ => .bad
  | r => r.ex
def saY (Tx cs : List Nat) (n : Str) (fo : ME) (e : Env) : Option O → Rs Fl
  | some oy => saI Tx cs n oy (fo e)
  | none => .bad
def saK (Tx cs : List Nat) (n : Str) (fo : ME) : Rs Rt → Rs Fl
  | .ok y e => saY Tx cs n fo e y.o
  | r => r.ex
def augK (i : Nat) (g : Rt → Rt → Option Rt) (d : D) : Rs Rt → Rs Fl
  | .ok r e => setP i e ((g (.val d) r).bind Rt.o)
  | r => r.ex
def augE (i : Nat) (g : Rt → Rt → Option Rt) (f : ME) (env : Env) : Option (Option O) → Rs Fl
  | some (some (.s d)) => augK i g d (f env)
  | _ => .bad
def isTK (ns : List String) : Rs Rt → Rs Rt
  | .ok r e => if r.isSl = true ∨ r.d.plain = false then .bad else ofO ((kitBs r.d.tn ns).map fun b => .val (.bl b)) e
  | r => r
def kgV (tab : List (Str × D)) (e : Env) : Rt → Rt → Rs Rt
  | .val (.str z), .val d => .ok (.val ((lookT tab z).getD d)) e
  | _, _ => .bad
def kgL (tab : List (Str × D)) (r1 : Rt) : Rs Rt → Rs Rt
  | .ok r2 e => kgV tab e r1 r2
  | r => r
def kgK (tab : List (Str × D)) (f2 : ME) : Rs Rt → Rs Rt
  | .ok r1 e => kgL tab r1 (f2 e)
  | r => r
def popQ (Tx : List Nat) (x : Nat) (p : List Stp) (e : Env) : Option (List O × D) → Rs Rt
  | some q => if x ∈ Tx then pkV (.val q.2) (poke x p (.lst q.1) e) else .bad
  | none => .bad
def popK (Tx : List Nat) : Rs Rt → Rs Rt
  | .ok r e => match r with
    | .bor x p (.lst os) => popQ Tx x p e (unsnoc os)
    | _ => .bad
  | r => r
def extO (Tx : List Nat) (x : Nat) (p : List Stp) (os : List O) (e : Env) : Option (List D) → Rs Rt
  | some ds => if os.length + ds.length ≤ 16777216 ∧ x ∈ Tx then pkV (.val .non) (poke x p (.lst (os ++ ds.map O.s)) e) else .bad
  | none => .bad
def extY (Tx : List Nat) (x : Nat) (p : List Stp) (os : List O) : Rs Rt → Rs Rt
  | .ok y e => extO Tx x p os e (lstOf y)
  | r => r
def extK (Tx T2 : List Nat) (f2 : ME) : Rs Rt → Rs Rt
  | .ok (.bor x p (.lst os)) e => if x ∈ T2 then .bad else extY Tx x p os (f2 e)
  | .ok _ _ => .bad
  | r => r
def asgTK (set : D → Env → Option Env) : Rs Rt → Rs Fl
  | .ok r e => match r with
    | .val d => parS (set d e)
    | _ => .bad
  | r => r.ex
section
variable {α β : Type} {env : Env} {e e1 : Env} {T T1 T2 T3 Tx : List Nat} {f f1 f2 f3 fo fe fi : ME} {fs : MA} {t t1 t2 : MT} {g g1 g2 : MS} {r : Rt} {rs : List Rt} {d : D}
@[simp] theorem ev_sa {cs : List Nat} {n : Str} : msSetAttr Tx T2 cs n fe fo env = saK Tx cs n fo (fe env) := by
  unfold msSetAttr
  cases fe env with
  | ok y e =>
    show (match y.o with | some oy => _ | none => Rs.bad) = saY Tx cs n fo e y.o
    cases y.o with
    | none => rfl
    | some oy =>
      show (fo e).bind _ = saI Tx cs n oy (fo e)
      cases fo e with
      | ok r e2 =>
        cases r with
        | bor x p o =>
          cases o with
          | ins c ns os =>
            show (if c ∈ cs ∧ x ∈ Tx ∧ ns.length < 1000 ∧ ns.length = os.length then (match poke x p (.ins c (putNs ns n) (putL ns os n oy)) e2 with | some e4 => Rs.ok Fl.nx e4 | none => .bad) else .bad) = if c ∈ cs ∧ x ∈ Tx ∧ ns.length < 1000 ∧ ns.length = os.length then pkF (poke x p (.ins c (putNs ns n) (putL ns os n oy)) e2) else .bad
            generalize poke x p (.ins c (putNs ns n) (putL ns os n oy)) e2 = q
            cases q <;> rfl
          | _ => rfl
        | _ => rfl
      | exc c ds e => rfl
      | bad => rfl
  | exc c ds e => rfl
  | bad => rfl
@[simp] theorem ev_sa4 {cs : List Nat} {n : Str} : saK Tx cs n fo (.ok r e) = saY Tx cs n fo e r.o := Eq.trans rfl rfl
@[simp] theorem ev_sa5 {cs : List Nat} {n : Str} {oy : O} : saY Tx cs n fo e (some oy) = saI Tx cs n oy (fo e) := Eq.trans rfl rfl
@[simp] theorem ev_sa6 {cs : List Nat} {n : Str} {oy : O} {x c : Nat} {p : List Stp} {ns : List Str} {os : List O} : saI Tx cs n oy (.ok (.bor x p (.ins c ns os)) e) = if c ∈ cs ∧ x ∈ Tx ∧ ns.length < 1000 ∧ ns.length = os.length then pkF (poke x p (.ins c (putNs ns n) (putL ns os n oy)) e) else .bad := Eq.trans rfl rfl
@[simp] theorem ev_pn0 {n : Str} : putNs [] n = [n] := Eq.trans rfl rfl
@[simp] theorem ev_pn1 {n m : Str} {ns : List Str} : putNs (n :: ns) m = if n = m then n :: ns else n :: putNs ns m := Eq.trans rfl rfl
@[simp] theorem ev_pl0 {n : Str} {as : List α} {y : α} : putL [] as n y = [y] := by cases as <;> rfl
@[simp] theorem ev_pl1 {n m : Str} {ns : List Str} {a y : α} {as : List α} : putL (n :: ns) (a :: as) m y = if n = m then y :: as else a :: putL ns as m y := Eq.trans rfl rfl
@[simp] theorem ev_aug {i : Nat} {g : Rt → Rt → Option Rt} : msAug i g f env = augE i g f env (env[i]?) := by
  unfold msAug augE
  cases env[i]? with
  | none => rfl
  | some oo =>
    cases oo with
    | none => rfl
    | some o =>
      cases o with
      | s d =>
        show (f env).bind _ = augK i g d (f env)
        cases f env with
        | ok r e =>
          show (match (g (.val d) r).bind Rt.o with | some o => Rs.ok Fl.nx (e.set i (some o)) | none => .bad) = setP i e ((g (.val d) r).bind Rt.o)
          generalize (g (.val d) r).bind Rt.o = q
          cases q <;> rfl
        | exc c ds e => rfl
        | bad => rfl
      | _ => rfl
@[simp] theorem ev_aug1 {i : Nat} {g : Rt → Rt → Option Rt} : augE i g f env (some (some (.s d))) = augK i g d (f env) := Eq.trans rfl rfl
@[simp] theorem ev_aug2 {i : Nat} {g : Rt → Rt → Option Rt} : augK i g d (.ok r e) = setP i e ((g (.val d) r).bind Rt.o) := Eq.trans rfl rfl
@[simp] theorem ev_isT {ns : List String} : mIsT ns f env = isTK ns (f env) := by unfold mIsT; cases f env <;> rfl
@[simp] theorem ev_isT1 {ns : List String} : isTK ns (.ok r e) = if r.isSl = true ∨ r.d.plain = false then .bad else ofO ((kitBs r.d.tn ns).map fun b => .val (.bl b)) e := Eq.trans rfl rfl
@[simp] theorem ev_isi {n : String} : gIsi [r, .val (.ty n)] = if r.isSl = true ∨ r.d.plain = false then none else (kitB r.d.tn n).map fun b => .val (.bl b) := Eq.trans rfl rfl
@[simp] theorem ev_pl2 {ds : List D} : D.plain (.tup ds) = true := Eq.trans rfl rfl
@[simp] theorem ev_pl3 {ds : List D} : D.plain (.lst ds) = true := Eq.trans rfl rfl
@[simp] theorem ev_pl4 {i : Int} : D.plain (.int i) = true := Eq.trans rfl rfl
@[simp] theorem ev_pl5 {i : Str} : D.plain (.str i) = true := Eq.trans rfl rfl
@[simp] theorem ev_pl6 {i : Bool} : D.plain (.bl i) = true := Eq.trans rfl rfl
@[simp] theorem ev_pl7 : D.plain .non = true := Eq.trans rfl rfl
@[simp] theorem ev_tn2 {ds : List D} : D.tn (.tup ds) = "tuple" := Eq.trans rfl rfl
@[simp] theorem ev_tn3 {ds : List D} : D.tn (.lst ds) = "list" := Eq.trans rfl rfl
@[simp] theorem ev_tn4 {i : Int} : D.tn (.int i) = "int" := Eq.trans rfl rfl
@[simp] theorem ev_tn5 {i : Str} : D.tn (.str i) = "str" := Eq.trans rfl rfl
@[simp] theorem ev_tn6 {i : Bool} : D.tn (.bl i) = "bool" := Eq.trans rfl rfl
@[simp] theorem ev_tn7 : D.tn .non = "NoneType" := Eq.trans rfl rfl
@[simp] theorem ev_kb1 : kitB "tuple" "tuple" = some true := by decide +kernel
@[simp] theorem ev_kb2 : kitB "int" "int" = some true := by decide +kernel
@[simp] theorem ev_kb3 : kitB "str" "str" = some true := by decide +kernel
@[simp] theorem ev_kb4 : kitB "int" "bool" = some false := by decide +kernel
@[simp] theorem ev_kb5 : kitB "int" "tuple" = some false := by decide +kernel
@[simp] theorem ev_kb6 : kitB "str" "tuple" = some false := by decide +kernel
@[simp] theorem ev_kb7 : kitB "str" "bool" = some false := by decide +kernel
@[simp] theorem ev_kb8 : kitBs "tuple" ["tuple", "list"] = some true := by decide +kernel
@[simp] theorem ev_kb9 : kitBs "int" ["tuple", "list"] = some false := by decide +kernel
@[simp] theorem ev_kb10 : kitBs "str" ["tuple", "list"] = some false := by decide +kernel
@[simp] theorem ev_kget {tab : List (Str × D)} : mKGet tab f1 f2 env = kgK tab f2 (f1 env) := by
  unfold mKGet
  cases f1 env with
  | ok r1 e =>
    show (f2 e).bind _ = kgL tab r1 (f2 e)
    cases f2 e with
    | ok r2 e2 =>
      cases r1 with
      | val d =>
        cases d with
        | str z => cases r2 <;> rfl
        | _ => rfl
      | _ => rfl
    | exc c ds e => rfl
    | bad => rfl
  | exc c ds e => rfl
  | bad => rfl
@[simp] theorem ev_kg1 {tab : List (Str × D)} : kgK tab f2 (.ok r e) = kgL tab r (f2 e) := Eq.trans rfl rfl
@[simp] theorem ev_kg2 {tab : List (Str × D)} {z : Str} : kgL tab (.val (.str z)) (.ok (.val d) e) = .ok (.val ((lookT tab z).getD d)) e := Eq.trans rfl rfl
@[simp] theorem ev_lt0 {z : Str} : lookT [] z = none := Eq.trans rfl rfl
@[simp] theorem ev_lt1 {z k : Str} {tab : List (Str × D)} : lookT ((k, d) :: tab) z = if k = z then some d else lookT tab z := Eq.trans rfl rfl
@[simp] theorem ev_pop : mPop Tx f env = popK Tx (f env) := by
  unfold mPop
  cases f env with
  | ok r e =>
    cases r with
    | bor x p o =>
      cases o with
      | lst os =>
        show (match unsnoc os with | some q => if x ∈ Tx then (match poke x p (.lst q.1) e with | some e2 => Rs.ok (.val q.2) e2 | none => .bad) else .bad | none => .bad) = popQ Tx x p e (unsnoc os)
        cases unsnoc os with
        | none => rfl
        | some q =>
          show (if x ∈ Tx then (match poke x p (.lst q.1) e with | some e2 => Rs.ok (.val q.2) e2 | none => .bad) else .bad) = if x ∈ Tx then pkV (.val q.2) (poke x p (.lst q.1) e) else .bad
          generalize poke x p (.lst q.1) e = z
          cases z <;> rfl
      | _ => rfl
    | _ => rfl
  | exc c ds e => rfl
  | bad => rfl
@[simp] theorem ev_pop1 {x : Nat} {p : List Stp} {os : List O} : popK Tx (.ok (.bor x p (.lst os)) e) = popQ Tx x p e (unsnoc os) := Eq.trans rfl rfl
@[simp] theorem ev_pop2 {x : Nat} {p : List Stp} {os : List O} : popQ Tx x p e (some (os, d)) = if x ∈ Tx then pkV (.val d) (poke x p (.lst os) e) else .bad := Eq.trans rfl rfl
theorem unsnoc_app : ∀ (os : List O) (d : D), unsnoc (os ++ [.s d]) = some (os, d)
  | [], d => rfl
  | [o], d => by cases o <;> rfl
  | o :: o2 :: os, d => by
    have := unsnoc_app (o2 :: os) d
    show unsnoc (o :: ((o2 :: os) ++ [.s d])) = _
    cases o <;> (show (unsnoc ((o2 :: os) ++ [.s d])).map _ = _; rw [this]; rfl)
@[simp] theorem ev_ext : mExtend Tx T2 f f2 env = extK Tx T2 f2 (f env) := by
  unfold mExtend
  cases f env with
  | ok r e =>
    cases r with
    | bor x p o =>
      cases o with
      | lst os =>
        show (if x ∈ T2 then Rs.bad else (f2 e).bind _) = if x ∈ T2 then .bad else extY Tx x p os (f2 e)
        cases f2 e with
        | ok y e2 =>
          show (if x ∈ T2 then Rs.bad else (match lstOf y with | some ds => _ | none => Rs.bad)) = if x ∈ T2 then .bad else extO Tx x p os e2 (lstOf y)
          cases lstOf y with
          | none => rfl
          | some ds =>
            show (if x ∈ T2 then Rs.bad else (if os.length + ds.length ≤ 16777216 ∧ x ∈ Tx then (match poke x p (.lst (os ++ ds.map O.s)) e2 with | some e3 => Rs.ok (.val .non) e3 | none => .bad) else .bad)) = if x ∈ T2 then .bad else (if os.length + ds.length ≤ 16777216 ∧ x ∈ Tx then pkV (.val .non) (poke x p (.lst (os ++ ds.map O.s)) e2) else .bad)
            generalize poke x p (.lst (os ++ ds.map O.s)) e2 = q
            cases q <;> rfl
        | exc c ds e => rfl
        | bad => rfl
      | _ => rfl
    | _ => rfl
  | exc c ds e => rfl
  | bad => rfl
@[simp] theorem ev_ext1 {x : Nat} {p : List Stp} {os : List O} : extK Tx T2 f2 (.ok (.bor x p (.lst os)) e) = if x ∈ T2 then .bad else extY Tx x p os (f2 e) := Eq.trans rfl rfl
@[simp] theorem ev_ext2 {x : Nat} {p : List Stp} {os : List O} {y : Rt} : extY Tx x p os (.ok y e) = extO Tx x p os e (lstOf y) := Eq.trans rfl rfl
@[simp] theorem ev_ext3 {x : Nat} {p : List Stp} {os : List O} {ds : List D} : extO Tx x p os e (some ds) = if os.length + ds.length ≤ 16777216 ∧ x ∈ Tx then pkV (.val .non) (poke x p (.lst (os ++ ds.map O.s)) e) else .bad := Eq.trans rfl rfl
@[simp] theorem ev_lo {ds : List D} : lstOf (.own (.lst (ds.map O.s))) = some ds := by
  show leaves (ds.map O.s) = some ds
  exact leaves_map ds
@[simp] theorem ev_gAddL {ds es : List D} : gAdd (.own (.lst (ds.map O.s))) (.own (.lst (es.map O.s))) = if ds.length + es.length ≤ 16777216 then some (.own (.lst ((ds ++ es).map O.s))) else none := by
  show (match lstOf (.own (.lst (ds.map O.s))), lstOf (.own (.lst (es.map O.s))) with | some ds, some es => if ds.length + es.length ≤ 16777216 then some (Rt.own (.lst ((ds ++ es).map O.s))) else none | _, _ => none) = _
  rw [ev_lo, ev_lo]
@[simp] theorem ev_asgT {set : D → Env → Option Env} : msAsgT set f env = asgTK set (f env) := by
  unfold msAsgT
  cases f env with
  | ok r e =>
    cases r with
    | val d =>
      show ofO ((set d e).map fun _ => Fl.nx) ((set d e).getD e) = parS (set d e)
      cases set d e <;> rfl
    | _ => rfl
  | exc c ds e => rfl
  | bad => rfl
@[simp] theorem ev_asgT1 {set : D → Env → Option Env} : asgTK set (.ok (.val d) e) = parS (set d e) := Eq.trans rfl rfl
@[simp] theorem ev_dt0 : mDT0 env = .ok (.own (.dt [] [])) env := Eq.trans rfl rfl
@[simp] theorem ev_rev {ds : List D} : gRev (.own (.lst (ds.map O.s))) = some (.own (.lst (ds.reverse.map O.s))) := by
  show (match Rt.items (.own (.lst (ds.map O.s))) with | some (true, ds) => some (Rt.own (.lst (ds.reverse.map O.s))) | _ => none) = _
  show (match (leaves (ds.map O.s)).map fun ds => (true, ds) with | some (true, ds) => some (Rt.own (.lst (ds.reverse.map O.s))) | _ => none) = _
  rw [leaves_map]
  rfl
@[simp] theorem ev_listOf {ds : List D} : gListOf [.val (.tup ds)] = some (.own (.lst (ds.map O.s))) := Eq.trans rfl rfl
@[simp] theorem ev_lrg {n : Int} : gLRg (.val (.int n)) = if 0 ≤ n ∧ n ≤ 16777216 then some (.own (.lst ((rngD 0 n.toNat).map O.s))) else none := Eq.trans rfl rfl
@[simp] theorem ev_gAllE : gAll [.own (.lst [])] = some (.val (.bl true)) := Eq.trans rfl rfl
theorem ev_gAllL {bs : List Bool} : gAll [.own (.lst ((bs.map D.bl).map O.s))] = some (.val (.bl (bs.all id))) := by
  show (match Rt.items (.own (.lst ((bs.map D.bl).map O.s))) with | some (true, ds) => (blsOf ds).map fun (ns : List Bool) => Rt.val (.bl (ns.all id)) | _ => none) = _
  show (match (leaves ((bs.map D.bl).map O.s)).map fun ds => (true, ds) with | some (true, ds) => (blsOf ds).map fun (ns : List Bool) => Rt.val (.bl (ns.all id)) | _ => none) = _
  rw [leaves_map]
  show (blsOf (bs.map D.bl)).map _ = _
  rw [bls_map]
  rfl
theorem ev_gMaxL {ns : List Int} : gMaxL [.own (.lst ((ns.map D.int).map O.s))] = (maxI ns).map fun k => .val (.int k) := by
  show (match Rt.items (.own (.lst ((ns.map D.int).map O.s))) with | some (true, ds) => (intsOf ds).bind fun (ns : List Int) => (maxI ns).map fun k => Rt.val (.int k) | _ => none) = _
  show (match (leaves ((ns.map D.int).map O.s)).map fun ds => (true, ds) with | some (true, ds) => (intsOf ds).bind fun (ns : List Int) => (maxI ns).map fun k => Rt.val (.int k) | _ => none) = _
  rw [leaves_map]
  show (intsOf (ns.map D.int)).bind _ = _
  rw [ints_map]
  rfl
@[simp] theorem ev_inDT {ds : List D} {x : Nat} {p : List Stp} : gInDT (.val (.tup ds)) (.bor x p (.dt [] [])) = (keysOf ds).map fun k => .val (.bl false) := by
  show (keysOf ds).map (fun k => Rt.val (.bl (lkK ([] : List (List Key)) ([] : List O) k).isSome)) = _
  rfl
end
theorem while_inv {t : MT} {g : MS} {I : Nat → Env → Prop} {R : Env → Prop} {S : Rt → Env → Prop}
    (step : ∀ n e, I n e → ∃ b e1, t e = .ok b e1 ∧ ((b = false ∧ R e1) ∨ (b = true ∧ ((∃ e2 m, g e1 = .ok .nx e2 ∧ m < n ∧ I m e2) ∨ (∃ r e2, g e1 = .ok (.ret r) e2 ∧ S r e2))))) :
    ∀ (n : Nat) (e : Env), I n e → (∃ e', msWhile t g e = .ok .nx e' ∧ R e') ∨ (∃ r e', msWhile t g e = .ok (.ret r) e' ∧ S r e') := by
  have key : ∀ (k n : Nat) (e : Env), n < k → I n e → ∃ j, (∃ e', whileN t g j e = .ok .nx e' ∧ R e') ∨ (∃ r e', whileN t g j e = .ok (.ret r) e' ∧ S r e') := by
    intro k
    induction k with
    | zero => intro n e h; omega
    | succ k ih =>
      intro n e hn hI
      obtain ⟨b, e1, h1, h2⟩ := step n e hI
      rcases h2 with ⟨rfl, hR⟩ | ⟨rfl, h2⟩
      · refine ⟨1, .inl ⟨e1, ?_, hR⟩⟩
        unfold whileN
        rw [h1]
        rfl
      · rcases h2 with ⟨e2, m, h2, hm, hI2⟩ | ⟨r, e2, h2, hS⟩
        · obtain ⟨j, hj⟩ := ih m e2 (by omega) hI2
          refine ⟨j + 1, ?_⟩
          have : whileN t g (j + 1) e = whileN t g j e2 := by
            conv => lhs; unfold whileN
            rw [h1]
            show (g e1).bind _ = _
            rw [h2]
            rfl
          rw [this]
          exact hj
        · refine ⟨1, .inr ⟨r, e2, ?_, hS⟩⟩
          unfold whileN
          rw [h1]
          show (g e1).bind _ = _
          rw [h2]
          rfl
  intro n e hI
  obtain ⟨j, hj⟩ := key (n + 1) n e (by omega) hI
  rcases hj with ⟨e', h, hR⟩ | ⟨r, e', h, hS⟩
  · exact .inl ⟨e', msWhile_is h (by simp), hR⟩
  · exact .inr ⟨r, e', msWhile_is h (by simp), hS⟩
end L3
namespace L3
open PySem L2
section
variable {X : Cx} {C : Cn} {E : WX} {e a b : Expr} {pos : Pos} {T T1 T2 T3 : List Nat} {fs : MA} {es : List Expr} {f f1 f2 : ME} {st : Stmt} {sts : List Stmt} {g g1 : MS}
def msRaise1 (c : Nat) (f : ME) : MS := fun env => (f env).bind fun r e => match r with
  | .val d => .exc c [d] e
  | _ => .bad
def msRaise0 (c : Nat) : MS := fun env => .exc c [] env
theorem s_raise0 {c : Nat} (h : PS X st (fun _ σ H => E (.ref (C.cl c)) none σ H)) : PS X st (rdS C E [] (msRaise0 c)) := PS.wk h fun D σ H ⟨m, e1, e2, S, w⟩ => by
  subst e1 e2
  exact w m rfl S [] (Step.refl _ _) none (fun _ => rfl) fun d hd => by cases hd
theorem s_raise1 {c : Nat} (h : PS X st (fun _ σ H => rdE C E T f σ H fun v H1 => ∀ d, H1 d = none → E (.ref (C.cl c)) (some d) σ (upd H1 d (.xd [(xfld c, v)])))) : PS X st (rdS C E T (msRaise1 c f)) :=
  PS.wk h fun D σ H ⟨m, e1, e2, S, w⟩ => ⟨m, e1, e2, S, Want.imp w.bind fun r env w => fun v m' e3 e4 S' s ok d hd => by
    cases r with
    | val x =>
      have G := gro_own (o := .xd [(xfld c, v)]) S' hd
      have q := w { m' with H := upd m'.H d (.xd [(xfld c, v)]) } e3 (S'.gro G) _ (s.trans (G.step S')) (some d) (fun z => by cases z) fun x' hx => by
        obtain rfl : x = x' := by simpa using hx
        exact ⟨d, v, rfl, upd_same, ok⟩
      have q : E (.ref (C.cl c)) (some d) m'.σ (upd m'.H d (.xd [(xfld c, v)])) := q
      rw [e4] at q
      exact q
    | _ => exact w.elim⟩
mutual
theorem RpO.noxd {K : PySem.W.Frag} {cl : Nat → Addr} {F H : Hp} {z : List (Str × V)} : ∀ (o : O) (v : V) (fp : Fp), RpO K cl F H o v fp → ∀ a ∈ fp, H a ≠ some (.xd z)
  | .s d, v, fp, h, a, ha => by rw [h.1] at ha; simp at ha
  | .lst os, v, fp, h, a, ha => by
    obtain ⟨b, xs, f, e1, rfl, q, r⟩ := h
    rcases List.mem_cons.mp ha with rfl | ha
    · rw [q]; intro y; cases y
    · exact RpOs.noxd os xs f r a ha
  | .dk ks os, v, fp, h, a, ha => by
    obtain ⟨b, xs, f, e1, rfl, q, l, r⟩ := h
    rcases List.mem_cons.mp ha with rfl | ha
    · rw [q]; intro y; cases y
    · exact RpOs.noxd os xs f r a ha
  | .dt ks os, v, fp, h, a, ha => by
    obtain ⟨b, xs, f, e1, rfl, q, l, r⟩ := h
    rcases List.mem_cons.mp ha with rfl | ha
    · rw [q]; intro y; cases y
    · exact RpOs.noxd os xs f r a ha
  | .ins c ks os, v, fp, h, a, ha => by
    obtain ⟨b, dx, xs, f, e1, rfl, q, l, r⟩ := h
    rcases List.mem_cons.mp ha with rfl | ha
    · rw [q]; intro y; cases y
    · exact RpOs.noxd os xs f r a ha
theorem RpOs.noxd {K : PySem.W.Frag} {cl : Nat → Addr} {F H : Hp} {z : List (Str × V)} : ∀ (os : List O) (vs : List V) (fp : Fp), RpOs K cl F H os vs fp → ∀ a ∈ fp, H a ≠ some (.xd z)
  | [], _, _, h, a, ha => by rw [h.2] at ha; simp at ha
  | d :: ds, vs, fp, h, a, ha => by
    obtain ⟨v, r, f, g, e1, rfl, h1, h2⟩ := h
    rcases List.mem_append.mp ha with ha | ha
    · exact RpO.noxd d v f h1 a ha
    · exact RpOs.noxd ds r g h2 a ha
end
theorem Sta.noxd {C : Cn} {m : Mo} (S : Sta C m) {a : Addr} {z : List (Str × V)} (h : m.H a = some (.xd z)) : a ∉ m.fps.flatten := fun ha => by
  obtain ⟨f, hf, haf⟩ := List.mem_flatten.mp ha
  obtain ⟨i, hi, e⟩ := List.mem_iff_getElem.mp hf
  have e1 : m.fps[i]? = some f := by rw [List.getElem?_eq_getElem hi, e]
  obtain ⟨o, s, h1, h2, q⟩ := S.slotF e1
  cases o with
  | none => rw [show f = [] from q] at haf; simp at haf
  | some d =>
    obtain ⟨v, _, r⟩ := q
    exact r.noxd d v f a haf h
def cnX (C : Cn) (m : Mo) (i : Nat) (v : V) : Cn := ⟨C.K, C.cl, m.F, m.H, m.fps.flatten, C.IO ++ [i], m.σ.set i (some v), C.n⟩
structure ExcIn (C C' : Cn) (i : Nat) (ea : Addr) (c : Nat) (ds : List D) (dd : Option Addr) : Prop where
  K : C'.K = C.K
  cl : C'.cl = C.cl
  n : C'.n = C.n
  io : C'.IO = C.IO ++ [i]
  v : C'.vs[i]? = some (some (.ref ea))
  e : ds = [] → dd = none
  d : ∀ d, ds = [d] → ∃ a v, dd = some a ∧ C'.H0 a = some (.xd [(xfld c, v)]) ∧ a ∉ C'.io ∧ RpD C'.K C'.cl C'.F0 d v
def isNo : Option (Option O) → Bool
  | some none => true
  | _ => false
theorem isNo_is {o : Option (Option O)} (h : isNo o = true) : o = some none := by
  cases o with
  | none => cases h
  | some x => cases x with
    | none => rfl
    | some y => cases h
def msTryAs (cs : List Nat) (i : Nat) (g1 : MS) (g2 : Nat → List D → MS) : MS := fun env => match g1 env with
  | .exc c ds e => if c ∈ cs ∧ isNo (e[i]?) = true then (match g2 c ds e with
      | .ok .nx e2 => if isNo (e2[i]?) = true then .ok .nx e2 else .bad
      | _ => .bad) else .bad
  | r => r
theorem PSs.ex {X : Cx} {ss : List Stmt} {ι : Type} {P : ι → Prop} {t : ι → TS} (h : ∀ z, P z → PSs X ss (t z)) : PSs X ss (fun D σ H => ∃ z, P z ∧ t z D σ H) :=
  ⟨fun pins s σ H D I ⟨z, hp, q⟩ => (h z hp).run pins s σ H D I q⟩
theorem sta_back {C : Cn} {m0 m4 : Mo} {i : Nat} {v : V} (S0 : Sta C m0) (hi : i ∉ C.IO) (hin : i < C.n) (S4 : Sta (cnX C m0 i v) m4) (h4 : m4.env[i]? = some none) :
    Sta C { m4 with σ := m4.σ.set i none } ∧ Step (List.range C.n) m0 { m4 with σ := m4.σ.set i none } := by
  have ln4 : m4.env.length = C.n := S4.ln
  have l14 : m4.σ.length = m4.env.length := S4.l1
  have l24 : m4.fps.length = m4.env.length := S4.l2
  have f4 : m4.fps[i]? = some [] := by
    have hl : i < m4.fps.length := by omega
    obtain ⟨o, s, q1, q2, q3⟩ := S4.slotF (List.getElem?_eq_getElem hl)
    rw [h4] at q1
    cases q1
    rw [List.getElem?_eq_getElem hl]
    exact congrArg some q3
  refine ⟨?_, ?_⟩
  · refine ⟨ln4, ?_, l24, fun j o s f a1 a2 a3 => ?_, S4.ex, S0.exF.trans S4.exF, fun a h n => ?_, S4.nd, S4.dj, S4.df, fun a ha => ?_, fun b o h n => ?_, fun b h => S4.dom b (S0.dom b h), fun j hj => ?_⟩
    · show (m4.σ.set i none).length = _
      rw [List.length_set]; exact l14
    · have a2 : (m4.σ.set i none)[j]? = some s := a2
      by_cases hj : j = i
      · subst hj
        have a1 : m4.env[j]? = some o := a1
        rw [h4] at a1
        cases a1
        have a3 : m4.fps[j]? = some f := a3
        rw [f4] at a3
        cases a3
        rfl
      · rw [List.getElem?_set_ne (Ne.symm hj)] at a2
        exact S4.sl j o s f a1 a2 a3
    · by_cases q : m0.F a = none
      · rcases S4.newF a h q with z | z
        · exact .inl (Classical.byContradiction fun y => S0.dom a y z)
        · exact S0.own a z
      · exact S0.newF a q n
    · rcases S4.own a ha with z | z
      · exact .inl (Classical.byContradiction fun y => S0.dom a y z)
      · exact S0.own a z
    · refine S4.frame b o (S0.frame b o h n) fun z => ?_
      rcases S0.own b z with y | y
      · rw [h] at y; cases y
      · exact n y
    · have hne : i ≠ j := fun z => hi (z ▸ hj)
      show (m4.σ.set i none)[j]? = _
      rw [List.getElem?_set_ne hne, S4.pin j (List.mem_append_left _ hj)]
      show (m0.σ.set i (some v))[j]? = _
      rw [List.getElem?_set_ne hne]
      exact S0.pin j hj
  · refine ⟨S4.exF, fun b o h n => S4.frame b o h n, fun b h => S4.dom b h, fun a h n => S4.newF a h n, fun a ha => S4.own a ha, by show m4.env.length = _; rw [ln4, S0.ln], fun j hj => ?_⟩
    have hj' : ¬ j < C.n := fun z => hj (List.mem_range.mpr z)
    have n1 : m4.env[j]? = none := List.getElem?_eq_none (by omega)
    have n2 : m0.env[j]? = none := List.getElem?_eq_none (by rw [S0.ln]; omega)
    have n3 : m4.fps[j]? = none := List.getElem?_eq_none (by omega)
    have n4 : m0.fps[j]? = none := List.getElem?_eq_none (by rw [S0.l2, S0.ln]; omega)
    have n5 : (m4.σ.set i none)[j]? = none := List.getElem?_eq_none (by rw [List.length_set]; omega)
    have n6 : m0.σ[j]? = none := List.getElem?_eq_none (by rw [S0.l1, S0.ln]; omega)
    exact ⟨n1.trans n2.symm, n3.trans n4.symm, n5.trans n6.symm, fun f hf => by rw [n4] at hf; cases hf⟩
theorem step_all {C : Cn} {T : List Nat} {m m' : Mo} (s : Step T m m') (S : Sta C m) (S' : Sta C m') : Step (List.range C.n) m m' :=
  ⟨s.exF, s.keep, s.dom, s.newF, s.newO, s.len, fun j hj => by
    have hj' : ¬ j < C.n := fun z => hj (List.mem_range.mpr z)
    have n1 : m'.env[j]? = none := List.getElem?_eq_none (by rw [S'.ln]; omega)
    have n2 : m.env[j]? = none := List.getElem?_eq_none (by rw [S.ln]; omega)
    have n3 : m'.fps[j]? = none := List.getElem?_eq_none (by rw [S'.l2, S'.ln]; omega)
    have n4 : m.fps[j]? = none := List.getElem?_eq_none (by rw [S.l2, S.ln]; omega)
    have n5 : m'.σ[j]? = none := List.getElem?_eq_none (by rw [S'.l1, S'.ln]; omega)
    have n6 : m.σ[j]? = none := List.getElem?_eq_none (by rw [S.l1, S.ln]; omega)
    exact ⟨n1.trans n2.symm, n3.trans n4.symm, n5.trans n6.symm, fun f hf => by rw [n4] at hf; cases hf⟩⟩
theorem s_tryAs {x n : Str} {i : Nat} {CE : Addr} {cs : List Nat} {body suite : List Stmt} {b₀ : Stmt} {np pos' : Pos} {g2 : Nat → List D → MS} (hs : X.stack = X.env :: X.outer) (hf : X.env.frame = some X.env.locals) (hN : X.N.Nodup) (hi : X.N[i]? = some n) (hln : X.env.kindOf n = some .local) (hc : Names X x (.ref CE))
    (hiO : i ∉ C.IO) (hin : i < C.n) (hcs : ∀ c ∈ cs, PySem.W.exmOne X.K (.ref (C.cl c)) (.ref CE) = some true)
    (hb : ∀ (W : WX) (pn : List (Addr × Obj)) (xe : Value → Shared → Prop), Takes (X.tr pn xe) W → PSs (X.tr pn xe) body (rdS C W T1 g1))
    (hsu : ∀ (c : Nat) (ds : List D) (C' : Cn) (ea : Addr) (oe : Obj) (dd : Option Addr) (pn : List (Addr × Obj)), c ∈ cs → ExcIn C C' i ea c ds dd → Zc (.ref (C.cl c)) dd oe → (∃ vs, oe.data = .fields vs) → PSs (X.suite ea ((ea, oe) :: pn)) (b₀ :: suite) (rdS C' (fun _ _ _ _ => True) T2 (g2 c ds))) :
    PS X (.Try body [.ExceptHandler (some (.Name x np)) (some n) (b₀ :: suite) pos'] [] [] pos) (rdS C E (T1 ++ List.range C.n) (msTryAs cs i g1 g2)) := by
  refine PS.wk (ps_try_as (i := i) (Wout := fun _ _ _ _ => False) (tb := fun W => rdS C W T1 g1) (ts := fun ea cls dd En σ H => ∃ z : Nat × List D × Cn, (z.1 ∈ cs ∧ cls = .ref (C.cl z.1) ∧ ExcIn C z.2.2 i ea z.1 z.2.1 dd) ∧ rdS z.2.2 (fun _ _ _ _ => True) T2 (g2 z.1 z.2.1) En σ H)
    hs hf hN hi hln hc takes0 (fun W pn xe tk _ => hb W pn xe tk) (fun ea oe cls dd pn hz hf => PSs.ex fun z hp => ?_)) fun En σ H ⟨m, e1, e2, S, w⟩ => ?_
  · obtain ⟨c, ds, C'⟩ := z
    obtain ⟨h1, h2, h3⟩ := hp
    subst h2
    exact hsu c ds C' ea oe dd pn h1 h3 hz hf
  · refine ⟨m, e1, e2, S, ?_⟩
    unfold msTryAs at w
    cases hg : g1 m.env with
    | bad => rw [hg] at w; exact w.elim
    | ok fl env' =>
      rw [hg] at w
      intro m' h1 S' s'
      exact w m' h1 S' (s'.wk (by simp +contextual [or_imp]))
    | exc c ds env' =>
      rw [hg] at w
      dsimp only at w
      by_cases hh : c ∈ cs ∧ isNo (env'[i]?) = true
      · rw [if_pos hh] at w
        obtain ⟨hc1, hc2⟩ := hh
        intro m' he S' Tm sm dd h1 h2
        refine ⟨true, hcs c hc1, fun _ ea hea => ?_, fun q => by cases q⟩
        have hil : i < m'.σ.length := by rw [S'.l1, S'.ln]; exact hin
        have hil3 : i < m'.fps.length := by rw [S'.l2, S'.ln]; exact hin
        have hei : m'.env[i]? = some none := by rw [he]; exact isNo_is hc2
        have fi : m'.fps[i]? = some [] := by
          obtain ⟨o, s, q1, q2, q3⟩ := S'.slotF (List.getElem?_eq_getElem hil3)
          rw [hei] at q1
          cases q1
          rw [List.getElem?_eq_getElem hil3]
          exact congrArg some q3
        refine ⟨(c, ds, cnX C m' i (.ref ea)), ⟨hc1, rfl, rfl, rfl, rfl, rfl, ?_, h1, fun d hd => ?_⟩, { m' with σ := m'.σ.set i (some (.ref ea)) }, rfl, rfl, ?_, ?_⟩
        · show (m'.σ.set i (some (.ref ea)))[i]? = _
          rw [List.getElem?_set_self hil]
        · obtain ⟨aa, v, q1, q2, q3⟩ := h2 d hd
          exact ⟨aa, v, q1, q2, S'.noxd q2, q3⟩
        · refine ⟨S'.ln, by show (m'.σ.set i _).length = _; rw [List.length_set]; exact S'.l1, S'.l2, fun j o s f a1 a2 a3 => ?_, S'.ex, Ex.refl _, fun a h n => absurd n h, S'.nd, S'.dj, S'.df, fun a ha => .inr ha, fun b o h _ => h, fun b h => h, fun j _ => rfl⟩
          have a2 : (m'.σ.set i (some (.ref ea)))[j]? = some s := a2
          by_cases hj : j = i
          · subst hj
            have a1 : m'.env[j]? = some o := a1
            rw [hei] at a1
            cases a1
            have a3 : m'.fps[j]? = some f := a3
            rw [fi] at a3
            cases a3
            rfl
          · rw [List.getElem?_set_ne (Ne.symm hj)] at a2
            exact S'.sl j o s f a1 a2 a3
        · rw [he]
          dsimp only
          cases hg2 : g2 c ds env' with
          | bad => rw [hg2] at w; exact w.elim
          | exc c2 ds2 e2 => rw [hg2] at w; exact w.elim
          | ok fl e2 =>
            rw [hg2] at w
            cases fl with
            | nx =>
              dsimp only at w
              by_cases h4 : isNo (e2[i]?) = true
              · rw [if_pos h4] at w
                intro m4 q1 S4 s4
                obtain ⟨b1, b2⟩ := sta_back S' hiO hin S4 (by rw [q1]; exact isNo_is h4)
                exact w { m4 with σ := m4.σ.set i none } q1 b1 ((step_all (sm.trans b2) S b1).wk (by simp +contextual))
              · rw [if_neg h4] at w; exact w.elim
            | _ => exact w.elim
      · rw [if_neg hh] at w; exact w.elim
end
end L3
namespace PySem
namespace PartX
open PySem.W PySem.Calls PyProof.Rows PySem.HandSPX
def iA (p1 p2 : Pos) : Arguments := { posonlyargs := [], args := [{ arg := "self", annotation := none, pos := p1 }, { arg := "part", annotation := none, pos := p2 }], vararg := none, kwonlyargs := [], kw_defaults := [], kwarg := none, defaults := [] }
def iB (q1 q2 q3 q4 : Pos) : List Stmt := [.Assign [.Attribute (.Name "self" q1) "part" q2] (.Name "part" q3) q4]
def iS : Scope := { kind := .function, names := [(PySem.Str.ofString "self", .local), (PySem.Str.ofString "part", .local)], isGenerator := false, isCoroutine := false, more := [] }
structure PartTxt (K : Frag) (mg : Str → Option Value) (cn qn : Str) (C fI : Addr) : Prop where
  gC : mg cn = some (.ref C)
  cls : ∃ nm q N bs bm sn sub ab col dd k0 k1 k2 k3 k5, K.lookup C = some (excClassObj nm q C N bs bm true sn sub ab col dd k0 k1 k2 k3 k5 "ValueError.__new__") ∧ refsVE bm = true
  sa : findIn K (.ref C) "__setattr__" = some (some (.builtin "object.__setattr__"))
  ga : findIn K (.ref C) "__getattribute__" = some (some (.builtin "BaseException.__getattribute__"))
  gg : findIn K (.ref C) "__getattr__" = some none
  noN : findIn K (.ref C) "part" = some none
  iC : findIn K (.ref C) "__init__" = some (some (.ref fI))
  tC : typeIn K (.ref fI) = some (.type "function")
  kC : keepIn K (.ref C) = true
  exC : subIn K (.ref C) (.type "BaseException") = some true
  tyC : typeIn K (.ref C) = some (.type "type")
  hdC : hasDictIn K C = true
  te : exmOne K (.ref C) (.ref C) = some true
  fn : ∃ (oc : Value) (od : Option Addr) (doc pm : Value) (an : Option Addr) (cdv ct : Value) (osl : Array (Option Value)) (p1 p2 q1 q2 q3 q4 : Pos),
    K.lookup fI = some ⟨oc, od, .func (fnOf "__init__" qn (iA p1 p2) (iB q1 q2 q3 q4) iS .none .none doc pm an cdv ct), osl⟩ ∧ codeIn K cdv qn = true
theorem one_size (v : Value) : [v].length ≤ sizeLine := by
  rw [sizeLine_eq]
  exact (by decide : 1 ≤ 16777216)
theorem kept_but {K : Frag} {h h' : Heap} {x : Addr} (X : K.In h) (hx : K.lookup x = none) (k : ∀ b o, b ≠ x → h.get? b = some o → h'.get? b = some o) : K.In h' := fun a o e =>
  k a o (fun z => by rw [z, hx] at e; cases e) (X a o e)
theorem ldC {M : Model} {s : Shared} {name : Str} {scope : Scope} {L a : Addr} {cd : Value} {m : Str → Option Value} {x : Str} {pos : Pos} {v : Value} {Q : Value → Shared → Prop} {A : Around} {E : Value → Shared → Prop} (hn : s.heap.Ns L m) (hv : m x = some v) (h : Q v s)
    (hk : scope.kind = .function := by rfl) (hl : (envOfC name scope L a cd).kindOf x = some .local := by rfl) (hd : (x == ("__debug__" : Str)) = false := by decide) :
    wpAny M A (eval (.Name x pos) (envOfC name scope L a cd)) Q E s := wpAny_Name (wpAny_loadName_local hk hl hn hv h) hd
structure InitEnd (h h' : Heap) (x C dx t1 : Addr) (v : Value) : Prop where
  keep : ∀ b o, b ≠ x → h.get? b = some o → h'.get? b = some o
  obj : h'.get? x = some { cls := .ref C, dict := some dx, data := .fields #[.ref t1, .none, .none, .none, .bool false, .none] }
  dbig : h.objs.size ≤ dx
  dne : dx ≠ x
  ns : h'.Ns1 dx (fun y => if y = "part" then some v else none)
structure OwnMade (h h' : Heap) (e C d : Addr) (v : Value) : Prop where
  keep : ∀ b o, h.get? b = some o → h'.get? b = some o
  new : h.objs.size ≤ e
  obj : ∃ oe vs, h'.get? e = some oe ∧ oe.cls = .ref C ∧ oe.dict = some d ∧ oe.data = .fields vs ∧ vs[1]? = some .none
  dbig : h.objs.size ≤ d
  dne : d ≠ e
  ns : h'.Ns1 d (fun y => if y = "part" then some v else none)
section
variable {prog : Program} {w : World} {A : Around} {E : Value → Shared → Prop} {R : Result → Shared → Prop} {s : Shared} {K : Frag} {mg : Str → Option Value} {cn qn : Str} {C fI : Addr}
theorem part_init (T : PartTxt K mg cn qn C fI) {x t0 : Addr} {v : Value} (X : K.In s.heap) (hlim : s.heap.NoLimit) (hx : s.heap.get? x = some (excO C t0)) (hnx : K.lookup x = none) (hroom : A.depth < recursionLimit)
    (hq : ∀ h' tk dx, InitEnd s.heap h' x C dx t0 v → R (.ok (.ret .none)) { s with heap := h', toks := tk }) :
    codeAny (model prog w) A (.call (.ref fI) ⟨[.ref x, v], []⟩) R s := by
  obtain ⟨oc, od, doc, pm, an, cdv, ct, osl, p1, p2, q1, q2, q3, q4, ho, hcd⟩ := T.fn
  obtain ⟨nm, q, N, bs, bm, sn, sub, ab, col, dd, k0, k1, k2, k3, k5, hC, hbm⟩ := T.cls
  have hcl : clsIn K C = some { name := nm, bases := bs, mro := .ref C :: bm, ns := N, qualname := q, hasDict := true, slotNames := sn, subclasses := sub, abstract := ab, collection := col, hasDel := false } := by unfold clsIn; rw [hC] <;> rfl
  refine Att.call_fn (binds := [("self", .ref x), ("part", v)]) X hlim ho hcd hroom (BindsTo.of_eq (by first | rfl | with_unfolding_all rfl)) (by first | rfl | decide | with_unfolding_all rfl) (fun s₁ IC => ?_) rfl rfl rfl
  obtain ⟨h₁, tk₁, rfl⟩ := IC.toInCall.same
  have k : ∀ b o, s.heap.get? b = some o → h₁.get? b = some o := IC.toInCall.keep
  have hn := IC.toInCall.ns
  have hxL : s.heap.objs.size ≠ x := Nat.ne_of_gt (Heap.lt_size hx)
  have X₁ : K.In h₁ := X.keeps k
  have hx₁ := k _ _ hx
  -- self.by = by
  show wpAny _ _ (execs _ _) _ _ _
  refine wpAny_execs_cons (plainObj_wpAny_Assign_Attribute ?_)
  refine ldC (v := v) hn (by first | rfl | with_unfolding_all rfl | kernel_rfl) (ldC (v := .ref x) hn (by first | rfl | with_unfolding_all rfl | kernel_rfl) ?_)
  refine set_plain X₁ (ox := excO C t0) (od := none) ⟨hx₁, rfl, rfl, trivial⟩ T.sa ?_
  refine exc_osa X₁ hx₁ hcl (show refsVE (.ref C :: bm) = true from hbm) rfl T.noN (fun h₃ tk₃ dx k₃ dn dne hx₃ hn₃ => ?_)
  show wpAny _ _ (execs _ _) _ _ _
  have z : s.heap.objs.size < h₁.objs.size := hn.lt
  exact wpAny_execs_nil (hq h₃ tk₃ dx ⟨fun b o hb e => k₃ b o hb (k b o e), hx₃, Nat.le_of_lt (Nat.lt_of_lt_of_le z dn), dne, hn₃⟩)
theorem part_made (T : PartTxt K mg cn qn C fI) {v : Value} (X : K.In s.heap) (hlim : s.heap.NoLimit) (hroom : A.depth + 1 < recursionLimit)
    (hq : ∀ h' tk e d, OwnMade s.heap h' e C d v → R (.ok (.ret (.ref e))) { s with heap := h', toks := tk }) :
    codeAny (model prog w) A (.call (.ref C) ⟨[v], []⟩) R s := by
  obtain ⟨nm, q, N, bs, bm, sn, sub, ab, col, dd, k0, k1, k2, k3, k5, hC, hbm⟩ := T.cls
  obtain ⟨hp, g, dr, tk, os⟩ := s
  have k : ∀ b o, hp.get? b = some o → ((hp.push (kdv_tup [v])).push (excO C hp.objs.size)).get? b = some o := fun b o e => Heap.get?_push_of_some _ (Heap.get?_push_of_some _ e)
  have hget : ((hp.push (kdv_tup [v])).push (excO C hp.objs.size)).get? (hp.objs.size + 1) = some (excO C hp.objs.size) := by heap_get
  have hnx : K.lookup (hp.objs.size + 1) = none := by
    cases e : K.lookup (hp.objs.size + 1) with
    | none => rfl
    | some o =>
      have z : hp.get? (hp.objs.size + 1) = some o := X _ _ e
      exact absurd (Nat.lt_of_succ_lt (Heap.lt_size z)) (Nat.lt_irrefl _)
  refine call_own F.excBase_ValueError (fun X => refsVE_contains X bm hbm) (X _ _ hC) (looks_findIn X T.iC) (fun self => bind_fn X self T.tC) (one_size v) ?_
  refine part_init (s := ⟨(hp.push (kdv_tup [v])).push (excO C hp.objs.size), g, dr, tk, os⟩) T (X.keeps k) (hlim.keeps k) hget hnx ?_ fun h' tk' dx ⟨k', hx, dn, dne, hns⟩ => ?_
  · show A.depth + 1 < recursionLimit
    exact hroom
  · have old : ∀ b o, hp.get? b = some o → h'.get? b = some o := fun b o e => k' b o (Nat.ne_of_lt (Nat.lt_succ_of_lt (Heap.lt_size e))) (k b o e)
    have z : hp.objs.size + 1 + 1 ≤ dx := by
      first
        | (simpa only [Heap.size_push] using dn)
        | exact dn
        | (have q := dn; rw [Heap.size_push, Heap.size_push] at q; exact q)
    exact ⟨rfl, hq h' tk' (hp.objs.size + 1) dx ⟨old, Nat.le_succ _, ⟨_, _, hx, rfl, rfl, rfl, rfl⟩, Nat.le_trans (Nat.le_trans (Nat.le_succ _) (Nat.le_succ _)) z, dne, hns⟩⟩
end
end PartX
end PySem
namespace L2
open PySem PySem.Spec PyProof.Rows
theorem relO_part {v : V} {v' : Value} (r : RelV v v') (f : Str) : RelO (List.lookup f [(("part" : Str), v)]) (if f = "part" then some v' else none) := by
  by_cases hw : f = "part"
  · subst hw
    rw [if_pos rfl]
    have q : List.lookup ("part" : Str) [(("part" : Str), v)] = some v := by simp [List.lookup]
    rw [q]
    exact r
  · rw [if_neg hw]
    have qw : (f == ("part" : Str)) = false := by simpa using hw
    have q2 : List.lookup f [(("part" : Str), v)] = none := by simp [List.lookup, qw]
    rw [q2]
    trivial
section
variable {X : Cx} {cn qn : Str} {C fI : Addr}
def tMkPart (C : Addr) (ta : TA) : St → Hp → XK → Prop := fun σ H Q => ta σ H fun vs H1 => ∃ v, vs = [v] ∧ ∀ d, H1 d = none → Q (.ref C) (some d) (upd H1 d (.xd [(("part" : Str), v)]))
theorem pmk_part {a : Expr} {ta : TA} {p pos : Pos} {k : Nat} (T : PySem.PartX.PartTxt X.K X.mg cn qn C fI) (hr : Room k X.A) (ha : PA X [a] ta) (hg : Gl X cn := by rfl) (hdb : (cn == ("__debug__" : Str)) = false := by decide)
    (he : starEach (a :: []) X.env = (false, eval a X.env) :: starEach [] X.env := by rfl) (hpl : (backTo pos (starEach [] X.env)).any (·.1) = false := by rfl) :
    PMk X (.Call (.Name cn p) [a] [] pos) (tMkPart C ta) := by
  intro pins s σ H Q I h
  refine wpAny_Call_Name_kw (ld_glob I hg T.gC ?_ hdb)
  refine PySem.W.callWith_K (h₀ := X.base) I.ok.mod.kin T.kC (thn (ha.run pos pins s σ H _ I h) fun us s1 hh => ?_) he hpl
  obtain ⟨vs, H1, I1, r1, v, ev, q1⟩ := hh
  subst ev
  refine ⟨I1.kIn, ?_⟩
  cases r1 with
  | cons rv rn =>
    rename_i v' us'
    cases rn
    show wpAny _ _ (call (.ref C) [v']) _ _ _
    have hlim := I1.nolimit
    obtain ⟨hp, g, dr, tk, os⟩ := s1
    refine wpAny_call (PySem.PartX.part_made T I1.kIn hlim (by have := hr.dp; omega) fun h' tk' e d M => ?_)
    show MkP X pins σ Q (.ref e) ⟨h', g, dr, tk', os⟩
    obtain ⟨oe, fv, hoe, hc, hd, hdat, h1⟩ := M.obj
    have hns := M.ns
    obtain ⟨G', g1, g2⟩ := restrict h' fun b => decide (b ≠ e)
    have gk : ∀ b, b ≠ e → G'.get? b = h'.get? b := fun b hb => g1 b (decide_eq_true hb)
    have ge : G'.get? e = none := g2 e (by simp)
    have old : ∀ b o, hp.get? b = some o → G'.get? b = some o := fun b o q => (gk b (Nat.ne_of_lt (Nat.lt_of_lt_of_le (Heap.lt_size q) M.new))).trans (M.keep b o q)
    have ob : ObjOk X.prog X.w (upd H1 d (.xd [(("part" : Str), v)])) G' d (.xd [(("part" : Str), v)]) :=
      ⟨_, hns.at (fun o q => (gk d M.dne).trans q), fun f => relO_part rv f⟩
    have J : Inv X pins σ (upd H1 d (.xd [(("part" : Str), v)])) ⟨G', g, dr, tk', os⟩ := I1.laid (t' := tk') old M.dbig ob
    refine ⟨e, oe, fv, ⟨G', g, dr, tk', os⟩, _, .ref C, some d, rfl, J, fun b o q => ?_, ge, hoe, ⟨hc, hd⟩, hdat, h1, ?_, rfl, I1.bare, raises_own T.exC T.tyC, q1 d (I1.hok.fresh M.dbig)⟩
    · by_cases hb : b = e
      · have q' : G'.get? b = some o := q
        rw [hb, ge] at q'; cases q'
      · exact (gk b hb).symm.trans q
    · rw [upd_ne (Ne.symm M.dne)]
      exact I1.hok.fresh M.new
def tRaisePart (C : Addr) (W : WX) (ta : TA) : TS := fun _ σ H => tMkPart C ta σ H fun cls d H' => W cls d σ H'
theorem ps_raisePart {a : Expr} {ta : TA} {W : WX} {p pos pos2 : Pos} {k : Nat} (hc : X.calm = true) (T : PySem.PartX.PartTxt X.K X.mg cn qn C fI) (hr : Room k X.A) (tk : Takes X W) (ha : PA X [a] ta) (hg : Gl X cn := by rfl) (hdb : (cn == ("__debug__" : Str)) = false := by decide)
    (he : starEach (a :: []) X.env = (false, eval a X.env) :: starEach [] X.env := by rfl) (hpl : (backTo pos (starEach [] X.env)).any (·.1) = false := by rfl) :
    PS X (.Raise (some (.Call (.Name cn p) [a] [] pos)) none pos2) (tRaisePart C W ta) := ps_raise hc tk (pmk_part T hr ha hg hdb he hpl)
def tByPart (C : Addr) (a : Addr) (cls : Value) (d : Option Addr) (te : TE) : TE := fun σ H Q => te σ H fun x H1 => x = .ref a ∧ cls = .ref C ∧ ∃ (dd : Addr) (v : V), d = some dd ∧ H1 dd = some (.xd [(("part" : Str), v)]) ∧ Q v H1
theorem pe_byPart {a : Addr} {oe : Obj} {cls : Value} {d : Option Addr} {pn : List (Addr × Obj)} {e : Expr} {te : TE} {pos : Pos} (T : PySem.PartX.PartTxt X.K X.mg cn qn C fI) (hz : Zc cls d oe) (hf : ∃ vs, oe.data = .fields vs) (he : PE (X.suite a ((a, oe) :: pn)) e te)
    (hb : attributeBase e "part" X.env (eval e X.env) = eval e X.env := by rfl) :
    PE (X.suite a ((a, oe) :: pn)) (.Attribute e "part" pos) (tByPart C a cls d te) := by
  refine ⟨fun pins s σ H Q I h => ?_⟩
  refine attr_of hb (thn (he.run pins s σ H _ I h) fun u s1 hh => ?_)
  obtain ⟨x, H1, I1, rx, ex, ec, dd, v, ed, ea, q⟩ := hh
  subst ex
  obtain rfl : u = Value.ref a := rx
  subst ec
  subst ed
  obtain ⟨ha, _⟩ := I1.pin (a, oe) (List.mem_append_left _ List.mem_cons_self)
  obtain ⟨vs, hd⟩ := hf
  have hx : ObjOk X.prog X.w H1 s1.heap dd (.xd [(("part" : Str), v)]) := I1.hok dd _ ea
  obtain ⟨mA, hns, hr⟩ := hx
  obtain ⟨od, ho, hl⟩ := lookIn_ns hns
  have l : List.lookup ("part" : Str) [(("part" : Str), v)] = some v := by simp [List.lookup]
  obtain ⟨u, hu, ru⟩ := RelO.some_of (v := v) (o := mA "part") (by rw [← l]; exact hr "part")
  have J : PySem.W.InstAt s1.heap a oe C (some od) := ⟨ha, hz.1, by unfold PySem.W.notCls; rw [hd] <;> rfl, by rw [hz.2]; exact ho⟩
  exact HandSPX.exc_get I1.kIn J T.ga T.gg T.exC (PySem.W.findObj_own T.hdC T.noN rfl (by rw [hl, hu])) (handed_of ru) ⟨v, H1, I1.tok _, ru, q⟩
end
end L2
namespace L3
open PySem L2
section
variable {X : Cx} {C C' : Cn} {E : WX} {e a b : Expr} {pos p p2 : Pos} {T T1 T2 T3 : List Nat} {fs : MA} {es : List Expr} {f f1 f2 : ME} {st : Stmt}
theorem s_raisePart {cn qn : Str} {fI : Addr} {k c : Nat} (hc : X.calm = true) (P : PySem.PartX.PartTxt X.K X.mg cn qn (C.cl c) fI) (hx : xfld c = "part") (hr : Room k X.A) (tk : Takes X E) (ha : PE X a (rdE C E T f)) (hg : Gl X cn := by rfl) (hdb : (cn == ("__debug__" : Str)) = false := by decide)
    (he : starEach (a :: []) X.env = (false, eval a X.env) :: starEach [] X.env := by rfl) (hpl : (backTo pos (starEach [] X.env)).any (·.1) = false := by rfl) :
    PS X (.Raise (some (.Call (.Name cn p) [a] [] pos)) none p2) (rdS C E T (msRaise1 c f)) :=
  s_raise1 (PS.wk (ps_raisePart hc P hr tk (a_one ha he) hg hdb he hpl) fun D σ H h => by
    unfold tRaisePart tMkPart rdA1
    obtain ⟨m, e1, e2, S, w⟩ := h
    refine ⟨m, e1, e2, S, Want.imp w fun r env w v m' e3 e4 S' s ok => ?_⟩
    refine ⟨v, rfl, fun d hd => ?_⟩
    have := w v m' e3 e4 S' s ok d hd
    rw [hx] at this
    exact this)
theorem e_part {x cn qn : Str} {fI : Addr} {i c : Nat} {d : D} {ea : Addr} {oe : Obj} {dd : Option Addr} {pn : List (Addr × Obj)} (P : PySem.PartX.PartTxt X.K X.mg cn qn (C.cl c) fI) (hx : xfld c = "part") (hk : X.K = C.K) (I : ExcIn C C' i ea c [d] dd) (hz : Zc (.ref (C.cl c)) dd oe) (hf : ∃ vs, oe.data = .fields vs)
    (hv : PE (X.suite ea ((ea, oe) :: pn)) (.Name x p) (tVar i)) (hb : attributeBase (.Name x p) "part" X.env (eval (.Name x p) X.env) = eval (.Name x p) X.env := by rfl) :
    PE (X.suite ea ((ea, oe) :: pn)) (.Attribute (.Name x p) "part" pos) (rdE C' E [] (mC d)) :=
  PE.wk (pe_byPart P hz hf hv hb) fun σ H Q h => by
    obtain ⟨m, e1, e2, S, w⟩ := h
    subst e1 e2
    have hi : i ∈ C'.IO := by rw [I.io]; exact List.mem_append_right _ (by simp)
    obtain ⟨aa, v, q1, q2, q3, q4⟩ := I.d d rfl
    rw [hx] at q2
    refine ⟨.ref ea, (S.pin i hi).trans I.v, rfl, rfl, aa, v, q1, S.frame aa _ q2 q3, ?_⟩
    exact w v m rfl rfl S (Step.refl _ _) (RpD.mono S.exF _ _ q4)
structure ExT (K : PySem.W.Frag) (A : Addr) : Prop where
  cl : (PySem.W.clsIn K A).isSome = true
  ga : PySem.W.findIn K (.ref A) "__getattribute__" = some (some (.builtin "BaseException.__getattribute__"))
  gg : PySem.W.findIn K (.ref A) "__getattr__" = some none
  sub : PySem.W.subIn K (.ref A) (.type "BaseException") = some true
  at_ : PySem.W.findIn K (.ref A) "__class__" = some (some (.builtin "object.__class__"))
  gt : PySem.W.specialIn K (.builtin "object.__class__") "__get__" = some (some (.builtin "getset_descriptor.__get__"))
  tk : PySem.W.takesIn K (.builtin "object.__class__") = some true
  mr : PySem.W.mroIn K A (.type "object") = some true
def rIsiE (A : Addr) (ea : Addr) (dd : Option Addr) (u : Value) (b : Bool) : List V → Hp → VK → Prop := fun xs H Q => ∃ (c : V), xs = [.ref ea, c] ∧ ClsV c u ∧ (∀ d, dd = some d → ∃ fl, H d = some (.xd fl)) ∧ Q (.bl b) H
theorem call_isiE {A ea : Addr} {oe : Obj} {dd : Option Addr} {pn : List (Addr × Obj)} {u : Value} {b : Bool} (T : ExT X.K A) (hz : Zc (.ref A) dd oe) (hf : ∃ vs, oe.data = .fields vs) (hk : PySem.W.kitOne X.K (.ref A) u = some b) : CallR (X.suite ea ((ea, oe) :: pn)) (.builtin "isinstance") (rIsiE A ea dd u b) := by
  intro pins s σ H xs us Q I r h
  obtain ⟨c, rfl, k, hd, q⟩ := h
  obtain ⟨u1, u2, rfl, r1, r2⟩ := vals2 r
  cases (show u1 = Value.ref ea from r1)
  have e2 := k.eq r2
  subst e2
  obtain ⟨ha, _⟩ := I.pin (ea, oe) (List.mem_append_left _ List.mem_cons_self)
  obtain ⟨vs, hdat⟩ := hf
  have nc : PySem.W.notCls oe = true := by unfold PySem.W.notCls; rw [hdat] <;> rfl
  cases dd with
  | none =>
    have J : PySem.W.InstAt s.heap ea oe A none := ⟨ha, hz.1, nc, by rw [hz.2]; trivial⟩
    exact PySem.W.kia_one (PySem.W.kitx_exc T.cl T.ga T.gg T.sub T.at_ T.gt T.tk T.mr) I.kIn J hk (fun z => nomatch z) fun tk => ⟨.bl b, H, I.tok tk, rfl, q⟩
  | some d =>
    obtain ⟨fl, hfl⟩ := hd d rfl
    have hx : ObjOk X.prog X.w H s.heap d (.xd fl) := I.hok d _ hfl
    obtain ⟨mA, hns, hr⟩ := hx
    obtain ⟨od, ho, hl⟩ := lookIn_ns hns
    have J : PySem.W.InstAt s.heap ea oe A (some od) := ⟨ha, hz.1, nc, by rw [hz.2]; exact ho⟩
    exact PySem.W.kia_one (PySem.W.kitx_exc T.cl T.ga T.gg T.sub T.at_ T.gt T.tk T.mr) I.kIn J hk (fun z => nomatch z) fun tk => ⟨.bl b, H, I.tok tk, rfl, q⟩
theorem e_xisi1 {x : Str} {i c : Nat} {d : D} {ea : Addr} {oe : Obj} {dd : Option Addr} {pn : List (Addr × Obj)} {v : V} {u : Value} {k : Bool} {ec : Expr} (P : ExT X.K (C.cl c)) (I : ExcIn C C' i ea c [d] dd) (hz : Zc (.ref (C.cl c)) dd oe) (hf : ∃ vs, oe.data = .fields vs) (hq : PySem.W.kitOne X.K (.ref (C.cl c)) u = some k) (hcv : ClsV v u)
    (hv : PE (X.suite ea ((ea, oe) :: pn)) (.Name x p) (tVar i)) (hc : PE (X.suite ea ((ea, oe) :: pn)) ec (tC v)) (hg : Gl (X.suite ea ((ea, oe) :: pn)) "isinstance") (hm : X.mg "isinstance" = none)
    (he : starEach (.Name x p :: [ec]) X.env = (false, eval (.Name x p) X.env) :: starEach [ec] X.env := by rfl) (hpl : (backTo pos (starEach [ec] X.env)).any (·.1) = false := by rfl) (hst : starEach (ec :: []) X.env = (false, eval ec X.env) :: starEach [] X.env := by rfl) :
    PE (X.suite ea ((ea, oe) :: pn)) (.Call (.Name "isinstance" p2) [.Name x p, ec] [] pos) (rdE C' E [] (mC (.bl k))) :=
  PE.wk (pe_callB (call_isiE P hz hf hq) hg hm rfl (pa_cons hv (pa_cons hc pa_nil hst) he) (by decide) (by decide) he hpl) fun σ H Q h => by
    obtain ⟨m, e1, e2, S, w⟩ := h
    subst e1 e2
    have hi : i ∈ C'.IO := by rw [I.io]; exact List.mem_append_right _ (by simp)
    obtain ⟨aa, v', q1, q2, q3, q4⟩ := I.d d rfl
    refine ⟨.ref ea, (S.pin i hi).trans I.v, v, rfl, hcv, fun d' hd' => ?_, ?_⟩
    · rw [q1] at hd'
      cases hd'
      exact ⟨_, S.frame aa _ q2 q3⟩
    · exact w (.bl k) m rfl rfl S (Step.refl _ _) rfl
def knT : List String := ["NoneType", "bool", "int", "str", "tuple", "list", "dict"]
structure OwnT (K : PySem.W.Frag) (cl : Nat → Addr) (own : List Nat) : Prop where
  ty : ∀ c ∈ own, Cls K (cl c) ∧ PySem.W.findIn K (.ref (cl c)) "__class__" = some (some (.builtin "object.__class__")) ∧ PySem.W.mroIn K (cl c) (.type "object") = some true
  gt : PySem.W.specialIn K (.builtin "object.__class__") "__get__" = some (some (.builtin "getset_descriptor.__get__"))
  tk : PySem.W.takesIn K (.builtin "object.__class__") = some true
  b : ∀ c ∈ own, ∀ n ∈ knT, PySem.W.kitOne K (.ref (cl c)) (.type n) = some false
  o : ∀ c ∈ own, ∀ n ∈ knT, PySem.W.kitOne K (.type n) (.ref (cl c)) = some false
  oo : ∀ c ∈ own, ∀ c' ∈ own, PySem.W.kitOne K (.ref (cl c)) (.ref (cl c')) = some (decide (c = c'))
def isiD (own : List Nat) (d : D) : D → Option Bool
  | .ty n => match d with
    | .ins c _ _ => if c ∈ own ∧ n ∈ knT then some false else none
    | d => if d.plain = false then none else kitB d.tn n
  | .cls c' => match d with
    | .ins c _ _ => if c ∈ own ∧ c' ∈ own then some (decide (c = c')) else none
    | d => if d.plain = true ∧ c' ∈ own ∧ d.tn ∈ knT then some false else none
  | _ => none
def gIsiX (own : List Nat) : List Rt → Option Rt
  | [r, .val t] => if r.isSl = true then none else (isiD own r.d t).map fun b => .val (.bl b)
  | _ => none
theorem e_own {x : Str} {c : Nat} (hg : Gl X x) (hm : X.mg x = some (.ref (C.cl c))) (hd : (x == ("__debug__" : Str)) = false := by decide) : PE X (.Name x pos) (rdE C E [] (mC (.cls c))) :=
  e_const (pe_glob hg hm (v := .ref (C.cl c)) rfl hd) fun _ => rfl
theorem isiD_ok {own : List Nat} (O : OwnT C.K C.cl own) {H : Hp} {d t : D} {b : Bool} {x y : V} (h1 : RpD C.K C.cl H d x) (h2 : ∀ F, RpD C.K C.cl F t y ∨ True) (h3 : isiD own d t = some b) (hy : ∀ n, t = .ty n → y = .ty n) (hy2 : ∀ c, t = .cls c → y = .ref (C.cl c)) :
    ∃ tt u, ClsV y u ∧ TyX C.K H x tt ∧ PySem.W.kitOne C.K tt u = some b := by
  cases t with
  | ty n =>
    have := hy n rfl
    subst this
    cases d with
    | ins c ns ds =>
      have h3 : (if c ∈ own ∧ n ∈ knT then some false else none) = some b := h3
      by_cases hh : c ∈ own ∧ n ∈ knT
      · rw [if_pos hh] at h3
        cases h3
        obtain ⟨a, dx, xs, rfl, q, l, r⟩ := h1
        obtain ⟨t1, t2, t3⟩ := O.ty c hh.1
        exact ⟨.ref (C.cl c), .type n, .ty n, .base (.ins q t1 t2 O.gt O.tk t3), O.b c hh.1 n hh.2⟩
      · rw [if_neg hh] at h3; cases h3
    | ty z => cases h3
    | cls z => cases h3
    | _ => exact ⟨_, .type n, .ty n, h1.tyx rfl, kit_ty h3⟩
  | cls c' =>
    have := hy2 c' rfl
    subst this
    cases d with
    | ins c ns ds =>
      have h3 : (if c ∈ own ∧ c' ∈ own then some (decide (c = c')) else none) = some b := h3
      by_cases hh : c ∈ own ∧ c' ∈ own
      · rw [if_pos hh] at h3
        cases h3
        obtain ⟨a, dx, xs, rfl, q, l, r⟩ := h1
        obtain ⟨t1, t2, t3⟩ := O.ty c hh.1
        exact ⟨.ref (C.cl c), .ref (C.cl c'), .own _, .base (.ins q t1 t2 O.gt O.tk t3), O.oo c hh.1 c' hh.2⟩
      · rw [if_neg hh] at h3; cases h3
    | ty z => simp [isiD, D.plain] at h3
    | cls z => simp [isiD, D.plain] at h3
    | _ =>
      simp [isiD, D.plain] at h3
      obtain ⟨⟨q1, q2⟩, q3⟩ := h3
      subst q3
      exact ⟨_, .ref (C.cl c'), .own _, h1.tyx rfl, O.o c' q1 _ q2⟩
  | _ => cases h3
theorem loc_isiX {own : List Nat} (O : OwnT C.K C.cl own) : LocN C (rIsi C.K) (gIsiX own) := by
  intro m xs rs ry Q S h e k
  unfold gIsiX at e
  split at e
  · rename_i r t
    obtain ⟨x, y, av, av', rfl, h1, h2⟩ := h.two
    split at e
    · cases e
    · rename_i hs
      cases q : isiD own r.d t with
      | none => rw [q] at e; cases e
      | some b =>
        rw [q] at e; cases e
        have rd := h1.rd S (by cases z : r.isSl <;> simp_all)
        have rt : RpD C.K C.cl m.F t y := h2
        obtain ⟨tt, u, a1, a2, a3⟩ := isiD_ok (C := C) O rd (fun _ => .inr trivial) q (fun n hn => by subst hn; exact rt) (fun c hc => by subst hc; exact rt)
        exact ⟨x, y, tt, u, b, rfl, a1, a2, a3, k _ m (Gro.refl S) rfl⟩
  · cases e
end
end L3
namespace PySem.W
open PySem PySem.Calls PyProof.Rows Builtin
section
variable {prog : Program} {w : World} {A : Around} {E : Value → Shared → Prop} {s : Shared} {K : Frag} {x C L f : Addr} {h₀ : Heap} {m : Str → Option Value} {ox : Obj} {od : Option Obj} {b tb : Value}
theorem ifBoundB_K {M : Model} {id : String} {name : Str} {args : List Value} {Q : Option Value → Shared → Prop} (X : K.In s.heap) (I : InstAt s.heap x ox C od) (hs : findIn K (.ref C) name = some (some (.builtin id))) (hb : ∀ self, bindSpecial (.builtin id) self = pure (.builtin id, [self]))
    (h : wpAny M A (call (.builtin id) (.ref x :: args)) (fun v => Q (some v)) E s) : wpAny M A (callSpecialIfBound? (.ref x) name args) Q E s := by
  simp only [callSpecialIfBound?, bindSpecialIfBound?]
  refine wpAny_holding (wpAny_bind (wpAny_bind (wpAny_bind (I.type.here ((looks_findIn X hs).here ?_)))))
  simp only [hb]
  refine wpAny_bind (wpAny_askSetting (wpAny_ite ?_))
  have fin : wpAny M A (call (.builtin id) ([.ref x] ++ args) >>= fun v => pure (some v)) Q E s := wpAny_bind (wpAny_mono h (fun v s' h' => wpAny_pure h') fun _ _ h' => h')
  split
  · exact wpAny_bind (wpAny_pure (wpAny_pure fin))
  · exact wpAny_tryCatch (wpAny_bind (wpAny_pure (wpAny_pure fin)))
theorem objNe_K (hu : A.units < cLine) (X : K.In s.heap) (I : InstAt s.heap x ox C od) (hs : findIn K (.ref C) "__eq__" = some (some (.ref f))) (hf : isFn K (.ref f) = true) {Q : Fin → Shared → Prop}
    (hcall : wpAny (model prog w) A (call (.ref f) [.ref x, b]) (fun v s' => ∃ r, v = .bool r ∧ Q (.done (.ret (.bool (!r)))) s') E s) :
    wpAny (model prog w) A (Builtin.«object.__ne__» ⟨[.ref x, b], []⟩) Q E s := by
  unfold Builtin.«object.__ne__»
  repeat (first
    | with_reducible refine wpAny_cRoomFor hu ?_
    | (refine wpAny_bind (m := callSpecialIfBound? (.ref x) (Str.ofString "__eq__") [b])
        (ifBound_K X I hs hf (wpAny_mono hcall (fun v s' hr => by
          obtain ⟨r, rfl, hq⟩ := hr
          repeat (first | exact hq | exact wpAny_pure hq | exact wpAny_truthy_bool hq | (refine wpAny_bind (m := truthy (.bool _)) (wpAny_truthy_bool ?_)) | wp_step)) fun _ _ e => e)))
    | wp_step)
theorem objNe_bind : ∀ self, bindSpecial (.builtin "object.__ne__") self = pure (.builtin "object.__ne__", [self]) := F.cmp_object.ne.bind
theorem ne_K {Q : Value → Shared → Prop} (hu : A.units + 1 < cLine) (X : K.In s.heap) (I : InstAt s.heap x ox C od) (hb : Looks (model prog w) s.heap (typeOf b) tb) (hn : notFirst K C tb = true)
    (hne : findIn K (.ref C) "__ne__" = some (some (.builtin "object.__ne__"))) (hob : subIn K (.ref C) (.type "object") = some true)
    (hs : findIn K (.ref C) "__eq__" = some (some (.ref f))) (hf : isFn K (.ref f) = true)
    (h : wpAny (model prog w) A.in1 (call (.ref f) [.ref x, b]) (fun v s' => ∃ r, v = .bool r ∧ Q (.bool (!r)) s') E s) : wpAny (model prog w) A (richCompare .NotEq (.ref x) b) Q E s := by
  have ho : Looks (model prog w) s.heap (isInstance (.ref x) (.type "object")) true := I.type.andThen (looks_subIn X hob)
  have one : wpAny (model prog w) A (tryCompare (.ref x) "__ne__" b) (fun r s' => ∃ v, r = some v ∧ Q v s') E s := by
    unfold tryCompare
    refine wpAny_bind (ifBoundB_K X I hne objNe_bind (wpAny_call (codeAny_call_builtin F.cmp_object.ne.plain F.cmpEntry_ne
      (check_slot F.cmpKind_ne F.cmpSplit_ne ho (F.cmpArgs_ne _ _) (objNe_K (A := A.in1) hu X I hs hf (wpAny_mono h (fun v s' hv => ?_) fun _ _ e => e))))))
    obtain ⟨r, rfl, hq⟩ := hv
    first | exact ⟨r, rfl, wpAny_pure ⟨_, rfl, hq⟩⟩ | exact ⟨r, rfl, wpAny_pure (wpAny_pure ⟨_, rfl, hq⟩)⟩
  unfold richCompare
  simp only [oneThing_ref]
  refine wpAny_holding (wpAny_bind (wpAny_cRoomFor (Nat.lt_of_succ_lt hu) ?_))
  refine wpAny_bind (I.type.here (wpAny_bind (hb.here ?_)))
  split
  · rename_i q
    have e : subIn K tb (.ref C) = some false := by
      rcases Bool.or_eq_true_iff.mp hn with e | e
      · rw [beq_iff_eq.mp e] at q; simp at q
      · exact beq_iff_eq.mp e
    refine wpAny_bind ((looks_subIn X e).here ?_)
    simp only [Bool.false_eq_true, if_false]
    refine wpAny_bind (wpAny_mono one (fun r s' z => ?_) fun _ _ e => e)
    obtain ⟨v, rfl, hq⟩ := z
    exact wpAny_pure hq
  · refine wpAny_bind (wpAny_pure ?_)
    simp only [Bool.false_eq_true, if_false]
    refine wpAny_bind (wpAny_mono one (fun r s' z => ?_) fun _ _ e => e)
    obtain ⟨v, rfl, hq⟩ := z
    exact wpAny_pure hq
end
end PySem.W
namespace L3
open PySem L2
inductive TyL (K : PySem.W.Frag) (H : Hp) : V → Value → Prop where
  | ins {a C dx : Addr} {fs : List (Str × V)} (e : H a = some (.ins C dx fs)) : TyL K H (.ref a) (.ref C)
  | tup {a : Addr} {xs : List V} (e : SqT K H a xs) : TyL K H (.ref a) (.type "tuple")
theorem TyL.looks {X : Cx} {pins : List (Addr × Obj)} {σ : L2.St} {H : Hp} {s : Shared} {x : V} {u tt : Value} (I : Inv X pins σ H s) (rx : RelV x u) (t : TyL X.K H x tt) : PySem.W.Looks (model X.prog X.w) s.heap (typeOf u) tt := by
  cases t with
  | ins e =>
    cases (show u = Value.ref _ from rx)
    obtain ⟨mA, J, _⟩ := ins_get I.hok e
    obtain ⟨od, J, _⟩ := J.look
    exact J.type
  | tup e =>
    cases (show u = Value.ref _ from rx)
    obtain ⟨its, r, pl, hz⟩ := I.tuple e
    obtain ⟨o, ho, hc, _⟩ := pl
    exact fun A Q E s k q => wpAny_typeOf (T := "tuple") ⟨_, k _ _ ho, hc⟩ q
def rOwn (K : PySem.W.Frag) (C : Addr) (sp : Sp) (neg : Bool) : R2 := fun x y H Q => ∃ a dx fs tt, x = .ref a ∧ H a = some (.ins C dx fs) ∧ TyL K H y tt ∧ PySem.W.notFirst K C tt = true ∧ sp [x, y] H (fun v H' => ∃ r, v = .bl r ∧ Q (.bl (r != neg)) H') E0
section
variable {X : Cx} {C f : Addr} {fd : FuncData} {ps : List Str} {k : Nat} {sp : Sp}
theorem op_ownEq (F : FnOk X.prog X.w X.K X.mg X.base CX0 k f fd ps sp) (hr : Room k X.A) (hb : Binds X.K fd ps []) (hs : PySem.W.findIn X.K (.ref C) "__eq__" = some (some (.ref f))) (hf : PySem.W.isFn X.K (.ref f) = true) :
    OpR X (compareOp .Eq) (rOwn X.K C sp false) := by
  intro pins s σ H x y v u Q I rx ry h
  obtain ⟨a, dx, fs, tt, rfl, ha, ty, hn, h⟩ := h
  have L := ty.looks I ry
  cases (show v = Value.ref a from rx)
  obtain ⟨mA, J, _⟩ := ins_get I.hok ha
  obtain ⟨od, J, _⟩ := J.look
  obtain ⟨m, hF⟩ := I.fr
  refine PySem.W.cmp_K (op := .Eq) hr.units0 hF I.ok.mod.kin J L hn hs hf ?_
  refine wpAny_mono (run_fnS (E := fun _ => E0) F hr hb (fun _ _ _ _ _ _ z => z.elim) I (us := [Value.ref a, u]) (vs := [V.ref a, y]) (.cons rfl (.cons ry .nil)) h) (fun r s' z => ?_) fun _ _ x => x
  obtain ⟨z, H', I', rz, r, rfl, q⟩ := z
  cases (show _ = Value.bool r from rz)
  exact ⟨.bl r, H', I', rfl, by rw [show (r != false) = r by cases r <;> rfl] at q; exact q⟩
theorem op_ownNe (F : FnOk X.prog X.w X.K X.mg X.base CX0 k f fd ps sp) (hr : Room (k + 1) X.A) (hb : Binds X.K fd ps []) (hs : PySem.W.findIn X.K (.ref C) "__eq__" = some (some (.ref f))) (hf : PySem.W.isFn X.K (.ref f) = true)
    (hne : PySem.W.findIn X.K (.ref C) "__ne__" = some (some (.builtin "object.__ne__"))) (hob : PySem.W.subIn X.K (.ref C) (.type "object") = some true) :
    OpR X (compareOp .NotEq) (rOwn X.K C sp true) := by
  intro pins s σ H x y v u Q I rx ry h
  obtain ⟨a, dx, fs, tt, rfl, ha, ty, hn, h⟩ := h
  have L := ty.looks I ry
  cases (show v = Value.ref a from rx)
  obtain ⟨mA, J, _⟩ := ins_get I.hok ha
  obtain ⟨od, J, _⟩ := J.look
  have hu : X.A.units + 1 < cLine := by have := hr.un; omega
  refine PySem.W.ne_K hu I.kIn J L hn hne hob hs hf ?_
  have e0 : Env0 X.prog X.w X.K X.mg X.base X.A.in1 X.stack s H := by
    have e := I.env0
    exact ⟨e.frames, e.mod, e.bs, e.bsz, e.funs, e.frf, e.hok, e.bare⟩
  have r2 : Vals [V.ref a, y] [Value.ref a, u] := .cons rfl (.cons ry .nil)
  have hl := F.len _ _ _ _ h
  have bd := hb s [Value.ref a, u] I.kIn (by rw [List.append_nil]; exact hl)
  rw [List.append_nil] at bd
  refine wpAny_call (codeAny_mono (F.run X.A.in1 X.stack s H ⟨[Value.ref a, u], []⟩ _ _ _ E0 hr.in1 e0 bd r2 h) fun r s' hq => ?_)
  cases r with
  | error e => exact (show False from hq).elim
  | ok fl =>
    cases fl with
    | ret w =>
      obtain ⟨z, H', I', rz, r, rfl, q⟩ := I.after hq
      cases (show _ = Value.bool r from rz)
      exact ⟨r, rfl, .bl (!r), H', I', rfl, by rw [show (r != true) = !r by cases r <;> rfl] at q; exact q⟩
    | next => exact False.elim hq
    | brk => exact False.elim hq
    | cont => exact False.elim hq
end
def tyD (cl : Nat → Addr) : D → Option Value
  | .ins c _ _ => some (.ref (cl c))
  | .tup _ => some (.type "tuple")
  | _ => none
def isIns (c : Nat) : D → Bool
  | .ins c' _ _ => c' == c
  | _ => false
def seenD (own : List Nat) : D → Bool
  | .ins c _ _ => own.contains c
  | .tup _ => true
  | _ => false
def gOwn (own : List Nat) (c : Nat) (fn : List O → Rr) (neg : Bool) (rx ry : Rt) : Option Rt :=
  if rx.isSl = false ∧ ry.isSl = false ∧ isIns c rx.d = true ∧ seenD own ry.d = true then (match fn [.s rx.d, .s ry.d] with
    | .ok (.s (.bl b)) _ => some (.val (.bl (b != neg)))
    | _ => none) else none
theorem loc_own {C : Cn} {own : List Nat} {c : Nat} {fn : List O → Rr} {neg : Bool} (hn : ∀ c' ∈ own, PySem.W.notFirst C.K (C.cl c) (.ref (C.cl c')) = true) (ht : PySem.W.notFirst C.K (C.cl c) (.type "tuple") = true) :
    Loc2 C (rOwn C.K (C.cl c) (spG C.K C.cl 2 fn) neg) (gOwn own c fn neg) := by
  intro m x y rx ry rz av av' Q S h1 h2 h k
  unfold gOwn at h
  split at h
  · rename_i hh
    obtain ⟨s1, s2, hi, hs⟩ := hh
    have r1 := h1.rd S s1
    have r2 := h2.rd S s2
    obtain ⟨a, dx, fs, rfl, q⟩ : ∃ a dx fs, x = .ref a ∧ m.H a = some (.ins (C.cl c) dx fs) := by
      unfold isIns at hi
      split at hi
      · rename_i c' ns ds hd
        rw [hd] at r1
        have : c' = c := by simpa using hi
        subst this
        obtain ⟨a, dx, xs, rfl, q, l, rr⟩ := r1
        exact ⟨a, dx, _, rfl, q⟩
      · cases hi
    obtain ⟨tt, ty, nf⟩ : ∃ tt, TyL C.K m.H y tt ∧ PySem.W.notFirst C.K (C.cl c) tt = true := by
      unfold seenD at hs
      split at hs
      · rename_i c' ns ds hd
        rw [hd] at r2
        obtain ⟨b, dy, ys, rfl, q, l, rr⟩ := r2
        exact ⟨_, .ins q, hn c' (by simpa using hs)⟩
      · rename_i ds hd
        rw [hd] at r2
        obtain ⟨b, ys, rfl, q, rr⟩ := r2
        exact ⟨_, .tup q.1, ht⟩
      · cases hs
    refine ⟨a, dx, fs, tt, rfl, q, ty, nf, m.H, [.s rx.d, .s ry.d], [], rfl, Ex.refl _, ⟨_, _, [], [], rfl, rfl, ⟨rfl, r1⟩, _, _, [], [], rfl, rfl, ⟨rfl, r2⟩, rfl, rfl⟩, List.nodup_nil, fun a ha => by simp at ha, ?_⟩
    have gro : ∀ {F' H' : Hp}, GPost m.H m.H [] F' H' → Gro m { m with H := H' } := fun {F' H'} G =>
      ⟨rfl, rfl, rfl, Ex.refl _, fun b o h => G.keep b o h (by simp), fun b o h => G.keep b o (S.ex b o h) (by simp), fun a h n => absurd n h⟩
    split at h
    · rename_i b outs hf
      cases h
      rw [hf]
      intro v F' H' fr fp' G rr Go
      have hv : v = .bl b := rr.2
      exact ⟨b, hv, k _ { m with H := H' } (gro G) rfl⟩
    · cases h
  · cases h
end L3
namespace L3
open PySem L2 PySem.Spec PyProof.Rows
def rSortedT (K : PySem.W.Frag) : List V → Hp → VK → Prop := fun vs H Q => ∃ (a : Addr) (ns : List Int), vs = [V.ref a] ∧ SqT K H a (ns.map V.int) ∧
  ∀ (ns' : List Int) (p : Addr), ns'.Perm ns → ns'.Pairwise (· ≤ ·) → H p = none → Q (.ref p) (upd H p (.lst (ns'.map V.int)))
section
variable {prog : Program} {w : World} {A : Around} {E : Value → Shared → Prop} {s : Shared}
theorem sorted_tup {l : Addr} {vs : List Value} {ltv : Value → Value → Bool} {Q : Value → Shared → Prop} (O : SrtO.Swo ltv) (hl : IsTup s.heap l vs.toArray) (hz : vs.length ≤ sizeLine)
    (hS : 2 ≤ vs.length → ∀ (h₁ : Heap) (a : Addr), h₁.get? a = some (seqObj "list" vs.toArray 0) → (∀ b o, s.heap.get? b = some o → b ≠ a ∧ h₁.get? b = some o) → SrtO.SortableO prog w A.in1.in1 { s with heap := h₁ } a vs ltv)
    (h : ∀ (out : List Value) (h' : Heap) (p : Addr) (e : Nat), SrtO.Srtd ltv out → SrtO.Stb ltv out vs → (∀ b o, s.heap.get? b = some o → h'.get? b = some o ∧ b < p) → h'.get? p = some (seqObj "list" out.toArray e) → p < h'.objs.size → s.heap.get? p = none → Q (.ref p) { s with heap := h' }) :
    wpAny (model prog w) A (call (.builtin "sorted") [.ref l]) Q E s := by
  obtain ⟨o, ho, hc, n, hd⟩ := hl
  refine Calls.call_function_entry kind_sorted plain_sorted entry_sorted (args_sorted1 _) ?_
  unfold Builtin.«sorted»
  refine wpAny_bind (m := checkCount "sorted" 1 1 _) (wpAny_pure ?_)
  refine wpAny_bind (wpAny_collect_seq l (.inr rfl) ho hc hd (fun h1 k1 => ?_) (by rw [List.size_toArray]; exact hz))
  refine wpAny_bind (wpAny_newList ?_ hz)
  show wpAny _ _ _ _ _ { s with heap := h1.push (seqObj "list" vs.toArray 0) }
  have hoL : (h1.push (seqObj "list" vs.toArray 0)).get? h1.objs.size = some (seqObj "list" vs.toArray 0) := Heap.get?_push_size _ rfl
  have keep : ∀ b o, s.heap.get? b = some o → b ≠ h1.objs.size ∧ (h1.push (seqObj "list" vs.toArray 0)).get? b = some o := fun b o q => by
    have q1 := k1 b o q
    exact ⟨Nat.ne_of_lt (Heap.lt_size q1), Heap.get?_push_of_some _ q1⟩
  refine wpAny_bind (wpAny_holding (wpAny_call_entry slot_list_sort ⟨_, hoL, rfl⟩ entry_list_sort (SrtO.list_sort_ord O hoL hz (fun h2 => hS h2 _ _ hoL keep) fun out hs hb => ⟨_, rfl, ?_⟩) (args_list_sort _)))
  obtain ⟨ep, he⟩ := PyProof.Rows.sortedHeap_at (vs := vs) (out := out.toArray) hoL
  refine wpAny_pure ⟨_, rfl, h out _ _ ep hs hb (fun b o q => ?_) he ?_ ?_⟩
  · have q1 := k1 b o q
    refine ⟨?_, Heap.lt_size q1⟩
    rw [PyProof.Rows.sortedHeap_old (Nat.ne_of_lt (Heap.lt_size q1)) (Heap.lt_size (keep b o q).2)]
    exact (keep b o q).2
  · exact Heap.lt_size he
  · cases q : s.heap.get? h1.objs.size with
    | none => rfl
    | some o => exact absurd (Heap.lt_size (k1 _ _ q)) (Nat.lt_irrefl _)
end

section
variable {prog : Program} {w : World} {A : Around} {E : Value → Shared → Prop} {s : Shared} {l : Addr}
theorem min_intTup {xs : Array (Int × Tok)} {Q : Value → Shared → Prop} (hh : A.handled = none) (hl : s.heap.IsTuple l (PySem.intItems xs)) (hne : 0 < xs.size)
    (h : ∀ v h' tk, (PySem.intItems xs)[argBest (fun i j => decide (PySem.numAt xs i < PySem.numAt xs j)) (xs.size - 1)]? = some v → (∀ b o, s.heap.get? b = some o → h'.get? b = some o) → Q v { s with heap := h', toks := tk }) :
    wpAny (model prog w) A (call (.builtin "min") [.ref l]) Q E s := by
  have hlt : l < s.heap.objs.size := by obtain ⟨_, e, _⟩ := hl; exact Heap.lt_size e
  refine PySem.call_min_walk (wpAny_pyIter_tuple hl ?_)
  refine ⟨_, _, _, _, _, _, _, rfl, Walks.tuple (A := A.in1) hh _ l (Nat.ne_of_lt hlt) (PySem.intItems xs), ⟨⟨_, Heap.get?_push_size _ rfl, rfl, rfl⟩, hl.push _⟩, fun b hb => ?_, by simpa [PySem.intItems] using hne, CmpOf.ints_lt (PySem.numAt xs) (fun _ _ => PySem.intItems_at), fun v h' tk hP hk => ?_⟩
  · show b < (s.heap.push _).objs.size
    rw [Heap.size_push]
    rcases List.mem_cons.mp hb with rfl | hb
    · exact Nat.lt_succ_self _
    · rcases List.mem_cons.mp hb with rfl | hb
      · exact Nat.lt_succ_of_lt hlt
      · cases hb
  · refine h v h' tk (by simpa [PySem.intItems] using hP) fun b o e => ?_
    refine hk b o (fun hm => ?_) (Heap.get?_push_of_some _ e)
    rcases List.mem_cons.mp hm with e1 | hm
    · exact absurd (e1 ▸ Heap.lt_size e) (Nat.lt_irrefl _)
    · cases hm
theorem min_rawT {its : List Value} {ns : List Int} {Q : Value → Shared → Prop} (hh : A.handled = none) (hl : s.heap.IsTuple l its.toArray) (hi : IntsAre its ns) (hne : 0 < ns.length)
    (h : ∀ h' tk M t', (∀ b o, s.heap.get? b = some o → h'.get? b = some o) → M ∈ ns → (∀ a, a ∈ ns → M ≤ a) → Q (.int M t') { s with heap := h', toks := tk }) : wpAny (model prog w) A (call (.builtin "min") [.ref l]) Q E s := by
  obtain ⟨xs, e⟩ := hi.allInts.items
  have hn : numsOf (intItems xs).toList = ns := by rw [← e]; exact hi.numsOf
  rw [nums_intItems] at hn
  subst hn
  rw [e] at hl
  have hsz : 0 < xs.size := by simpa using hne
  refine min_intTup hh hl hsz fun v h' tk hv hk => ?_
  obtain ⟨t, rfl⟩ := intItems_at hv
  obtain ⟨h1, h2⟩ := argBest_lt (numAt xs) (xs.size - 1)
  refine h h' tk _ t hk ?_ fun a ha => ?_
  · rw [numAt_eq]; exact PySem.getD_mem (by rw [List.length_map, Array.length_toList]; omega)
  · obtain ⟨j, hj, rfl⟩ := mem_getD ha
    rw [List.length_map, Array.length_toList] at hj
    rw [← numAt_eq]; exact h2 j (by omega)
end
def rMinT (K : PySem.W.Frag) : List V → Hp → VK → Prop := fun vs H Q => ∃ (a : Addr) (ns : List Int), vs = [V.ref a] ∧ SqT K H a (ns.map V.int) ∧ 0 < ns.length ∧ ∀ m, m ∈ ns → (∀ y, y ∈ ns → m ≤ y) → Q (.int m) H
section
variable {X : Cx}
theorem cr_sortedT : CallR X (.builtin "sorted") (rSortedT X.K) := by
  intro pins s σ H vs us Q I r h
  obtain ⟨a, ns, rfl, hs, q⟩ := h
  obtain ⟨its, rv, hl, hz⟩ := I.tuple hs
  rw [Vals.ref1 r]
  have hi := rv.ints
  refine sorted_tup SrtO.swo_int hl (by rw [← rv.length]; exact hz) (fun h2 h₁ a' _ _ => SrtO.ints_sortable hi h2) fun out h' p ep h1 h2 kp he' lt hp => ?_
  obtain ⟨k1, k2, k3⟩ := SrtO.ints_out hi h1 h2
  have hlen : ((out.map SrtO.iv).map V.int).length ≤ sizeLine := by
    rw [List.length_map, k2.length_eq]
    rw [List.length_map] at hz
    exact hz
  have hpn : H p = none := by
    cases z : H p with
    | none => rfl
    | some o =>
      obtain ⟨o', ho'⟩ := objOk_get (I.hok p o z)
      rw [hp] at ho'; cases ho'
  exact ⟨.ref _, upd H p (.lst ((out.map SrtO.iv).map V.int)), I.laidN (t' := s.toks) (fun b o e => (kp b o e).1) hp hpn ⟨hlen, out, ep, vals_of_ints k1, he'⟩, rfl, q _ _ k2 k3 hpn⟩
theorem cr_minT (hc : X.calm = true) : CallR X (.builtin "min") (rMinT X.K) := by
  intro pins s σ H vs us Q I r h
  obtain ⟨a, ns, rfl, hs, hne, q⟩ := h
  obtain ⟨its, rv, hl, _⟩ := I.tuple hs
  rw [Vals.ref1 r]
  exact min_rawT (I.ok.hd hc) hl rv.ints hne fun h' tk m t' hk h1 h2 => ⟨.int _, H, I.kept hk, ⟨_, rfl⟩, q m h1 h2⟩
end
end L3
namespace L3
open PySem L2 PySem.Spec PyProof.Rows
def sortI (ns : List Int) : List Int := ns.mergeSort fun a b => decide (a ≤ b)
theorem sortI_perm (ns : List Int) : (sortI ns).Perm ns := List.mergeSort_perm _ _
theorem sortI_pw (ns : List Int) : (sortI ns).Pairwise (· ≤ ·) :=
  (List.pairwise_mergeSort (le := fun a b : Int => decide (a ≤ b)) (fun a b c h1 h2 => by simp only [decide_eq_true_eq] at *; omega) (fun a b => by simp only [Bool.or_eq_true, decide_eq_true_eq]; omega) ns).imp fun h => by simpa using h
theorem sortI_is {ns ms : List Int} (h : ms.Perm ns) (p : ms.Pairwise (· ≤ ·)) : ms = sortI ns :=
  List.Perm.eq_of_pairwise (fun a b _ _ h1 h2 => by omega) p (sortI_pw ns) (h.trans (sortI_perm ns).symm)
def gSortI : List Rt → Option Rt
  | [r] => match r.items with
    | some (_, ds) => (intsOf ds).map fun ns => .own (.lst ((sortI ns).map fun i => O.s (.int i)))
    | _ => none
  | _ => none
theorem rpDs_ints {K : PySem.W.Frag} {cl : Nat → Addr} {H : Hp} : ∀ ns : List Int, RpDs K cl H (ns.map D.int) (ns.map V.int)
  | [] => rfl
  | _ :: ns => ⟨_, _, rfl, rfl, rpDs_ints ns⟩
def rSorted2 (K : PySem.W.Frag) : List V → Hp → VK → Prop := fun xs H Q => rSortedI K xs H Q ∨ rSortedT K xs H Q
section
variable {C : Cn}
theorem loc_sortI : LocN C (rSorted2 C.K) gSortI := by
  intro m xs rs ry Q S h e k
  unfold gSortI at e
  split at e
  · rename_i r
    obtain ⟨x, av, rfl, hx⟩ := h.one
    split at e
    · rename_i b ds q
      obtain ⟨a, xs, rfl, h1, h2⟩ := hx.items S q
      cases z : intsOf ds with
      | none => rw [z] at e; cases e
      | some ns =>
        rw [z] at e; cases e
        have hxs := h1.toInts z
        subst hxs
        have fin : ∀ (ns' : List Int) (p : Addr), ns'.Perm ns → ns'.Pairwise (· ≤ ·) → m.H p = none → Q (.ref p) (upd m.H p (.lst (ns'.map V.int))) := fun ns' p q1 q2 hp => by
          rw [sortI_is q1 q2]
          have := own_lst (C := C) (av := fun a => m.H a ≠ none) (xs := (sortI ns).map V.int) (ds := (sortI ns).map D.int) S hp (rpDs_ints _) (fun z => z hp)
          rw [List.map_map] at this
          exact k _ _ (gro_own S hp) this
        cases b with
        | true => rw [if_pos rfl] at h2; exact .inl ⟨a, ns, rfl, h2, fin⟩
        | false => rw [if_neg (by decide)] at h2; exact .inr ⟨a, ns, rfl, h2, fin⟩
    · cases e
  · cases e
def gMin1 : List Rt → Option Rt
  | [r] => match r.items with
    | some (_, ds) => (intsOf ds).bind fun ns => (minI ns).map fun k => .val (.int k)
    | _ => none
  | _ => none
def rMin1 (K : PySem.W.Frag) : List V → Hp → VK → Prop := fun xs H Q => rMin K xs H Q ∨ rMinT K xs H Q
theorem loc_min1 : LocN C (rMin1 C.K) gMin1 := by
  intro m xs rs ry Q S h e k
  unfold gMin1 at e
  split at e
  · rename_i r
    obtain ⟨x, av, rfl, hx⟩ := h.one
    split at e
    · rename_i b ds q
      obtain ⟨a, xs, rfl, h1, h2⟩ := hx.items S q
      cases z : intsOf ds with
      | none => rw [z] at e; cases e
      | some ns =>
        rw [z] at e
        simp only [Option.bind_some] at e
        have hxs := h1.toInts z
        subst hxs
        cases zk : minI ns with
        | none => rw [zk] at e; cases e
        | some j =>
          rw [zk] at e; cases e
          have pos : 0 < ns.length := by
            cases ns with
            | nil => cases zk
            | cons _ _ => simp
          have fin : ∀ m', m' ∈ ns → (∀ y, y ∈ ns → m' ≤ y) → Q (.int m') m.H := fun m' hm h3 => by
            rw [minI_is zk hm h3]
            exact k _ m (Gro.refl S) rfl
          cases b with
          | true => rw [if_pos rfl] at h2; exact .inl ⟨a, ns, rfl, h2, pos, fin⟩
          | false => rw [if_neg (by decide)] at h2; exact .inr ⟨a, ns, rfl, h2, pos, fin⟩
    · cases e
  · cases e
end
section
variable {X : Cx}
theorem cr_sort2 : CallR X (.builtin "sorted") (rSorted2 X.K) := CallR.or cr_sortedI cr_sortedT
theorem cr_min1 (hc : X.calm = true) : CallR X (.builtin "min") (rMin1 X.K) := CallR.or (cr_min hc) (cr_minT hc)
theorem mt_tup_indexI : MtR X "tuple.index" (fun x xs H Q => ∃ p, ∃ ys : List Int, ∃ z j, x = .ref p ∧ xs = [.int z] ∧ SqT X.K H p (ys.map V.int) ∧ ys[j]? = some z ∧ (∀ m, m < j → ys[m]? ≠ some z) ∧ Q (.int (j : Nat)) H) := by
  intro pins s σ H x xs v us Q I rx rs h
  obtain ⟨p, ys, z, j, rfl, rfl, hq, hy, hno, q⟩ := h
  cases rx
  obtain ⟨u, rfl, t, rfl⟩ := vals1 rs
  obtain ⟨its, r, pl, hz⟩ := I.tuple hq
  obtain ⟨⟨cls, dd, dt, sl⟩, ho, hc, n, hd⟩ := pl
  simp only at hc hd
  subst hc
  subst hd
  have hl : its.toArray.size = ys.length := by rw [List.size_toArray, ← r.length, List.length_map]
  have hj : j < its.toArray.size := by rw [hl]; exact (List.getElem?_eq_some_iff.mp hy).1
  have at' : ∀ (m : Nat) (hm : m < its.toArray.size), ∃ y t', ys[m]? = some y ∧ its.toArray[m] = Value.int y t' := fun m hm => by
    have hm' : m < ys.length := by rw [← hl]; exact hm
    obtain ⟨w, hw, t', hw'⟩ := r.get (i := m) (x := .int ys[m]) (by simp [hm'])
    refine ⟨ys[m], t', List.getElem?_eq_getElem hm', ?_⟩
    have e := (List.getElem?_eq_some_iff.mp hw).2
    rw [← hw', ← e]
    simp
  have flat : (ys.map V.int).all flatV = true := by
    rw [List.all_map]
    exact List.all_eq_true.mpr fun _ _ => rfl
  refine call_meets PySem.F.slot_tuple_index ⟨_, ho, rfl⟩ PySem.F.entry_tuple_index (PySem.F.args_tuple_index_2 _ _) (TI.tuple_indexAt p its.toArray n dd sl (.int z t) (eqU (.int z)) j hj ?_ ?_)
    ⟨ho, fun w hw => mem_eqAt (x := .int z) ⟨t, rfl⟩ rfl r flat w (by simpa using hw), ⟨.int (j : Nat), H, I.tok _, ⟨_, rfl⟩, q⟩⟩
  · obtain ⟨y, t', h1, h2⟩ := at' j hj
    rw [hy] at h1
    cases h1
    rw [h2]
    show (z == z) = true
    exact beq_self_eq_true z
  · intro m hm hmj
    obtain ⟨y, t', h1, h2⟩ := at' m hm
    rw [h2]
    show (y == z) = false
    exact beq_eq_false_iff_ne.mpr fun e => hno m hmj (e ▸ h1)
def tBMT (K : PySem.W.Frag) (r : V → List V → Hp → VK → Prop) (to : TE) (t : TA) : TE := fun σ H Q => to σ H fun x H1 => (∃ p xs, x = .ref p ∧ SqP K H1 p xs) ∧ t σ H1 fun xs H2 => r x xs H2 Q
theorem pe_bmT {o e : Expr} {es : List Expr} {to : TE} {t : TA} {name : Str} {apos cpos : Pos} {id : String} {r : V → List V → Hp → VK → Prop} (slot : Slot "tuple" name id) (hty : typeOf (.builtin id) = pure (.type "method_descriptor")) (hm : MtR X id r) (ho : PE X o to) (ha : PA X (e :: es) t)
    (hbase : attributeBase o name X.env (eval o X.env) = eval o X.env := by rfl)
    (hfew : ((backTo cpos (starEach (e :: es) X.env)).all (fun x => !x.1) && (backToKw cpos (keywordEach [] X.env)).all (fun x => x.1.isSome)
      && decide ((e :: es).length + ([] : List Keyword).length + (if ([] : List Keyword).isEmpty then 0 else 1) < 30)) = true := by rfl)
    (hline : (apos.endLine == cpos.line) = true := by rfl) (hs : starEach (e :: es) X.env = (false, eval e X.env) :: starEach es X.env := by rfl) (hplain : (backTo cpos (starEach es X.env)).any (·.1) = false := by rfl) :
    PE X (.Call (.Attribute o name apos) (e :: es) [] cpos) (tBMT X.K r to t) := by
  refine ⟨fun pins s σ H Q I h => ?_⟩
  refine wpAny_Call_method_late hbase hfew hline rfl (thn (ho.run pins s σ H _ I h) fun v s1 ⟨x, H1, I1, r1, ty, q1⟩ => ?_)
  obtain ⟨p, xs, rfl, sq, pl⟩ := ty
  cases (show v = Value.ref p from r1)
  obtain ⟨its, _, tp, _⟩ := I1.tuple sq
  have h1 : s1.TypeIs (.ref p) "tuple" := by obtain ⟨o, e1, c, _⟩ := tp; exact ⟨o, e1, c⟩
  have h2 : ∀ a, Value.ref p = .ref a → ∃ ob, s1.heap.get? a = some ob ∧ ob.dict = none := fun a e => by
    cases e
    rcases pl with ⟨o, u, e1, d⟩ | ⟨o, e1, d⟩
    · obtain ⟨e2, _⟩ := (show ObjOk X.prog X.w H1 s1.heap p (.frz o u) from I1.hok p _ e1)
      exact ⟨o, e2, d⟩
    · exact ⟨o, I1.kIn _ o e1, d⟩
  refine ⟨"tuple", id, PySem.F.plainAttrs_tuple, slot, hty, h1, h2, ?_⟩
  have hA := ha.run cpos pins s1 σ H1 _ I1 q1
  rw [hs] at hA ⊢
  refine Calls.callWith_builtin (by show (false || (backTo cpos (starEach es X.env)).any (·.1)) = false; rw [hplain] <;> rfl) (Calls.evalArgs_plain ?_)
  exact thn hA fun us s2 ⟨vs, H2, I2, r2, q2⟩ => hm pins s2 σ H2 (.ref p) vs _ us Q I2 r1 r2 q2
end
def ixI : List Int → Int → Option Nat
  | [], _ => none
  | x :: xs, z => if x = z then some 0 else (ixI xs z).map (· + 1)
theorem ixI_is : ∀ {ys : List Int} {z : Int} {j : Nat}, ixI ys z = some j → ys[j]? = some z ∧ ∀ m, m < j → ys[m]? ≠ some z
  | [], _, _, h => by cases h
  | x :: xs, z, j, h => by
    unfold ixI at h
    by_cases e : x = z
    · rw [if_pos e] at h
      cases h
      exact ⟨by simp [e], fun m hm => absurd hm (Nat.not_lt_zero _)⟩
    · rw [if_neg e] at h
      cases q : ixI xs z with
      | none => rw [q] at h; cases h
      | some k =>
        rw [q] at h
        cases h
        obtain ⟨h1, h2⟩ := ixI_is q
        refine ⟨by simpa using h1, fun m hm => ?_⟩
        cases m with
        | zero => simpa using e
        | succ m => simpa using h2 m (Nat.lt_of_succ_lt_succ hm)
def mTIx (f1 f2 : ME) : ME := fun env => (f1 env).bind fun r1 e1 => match r1 with
  | .val (.tup ds) => (f2 e1).bind fun r2 e2 => match r2 with
    | .val (.int z) => ofO (((intsOf ds).bind fun ns => ixI ns z).map fun j => .val (.int (j : Nat))) e2
    | _ => .bad
  | _ => .bad
section
variable {X : Cx} {C : Cn} {E : WX} {e a b o : Expr} {pos apos cpos : Pos} {T1 T2 : List Nat} {f1 f2 : ME}
theorem e_tix (hK : X.K = C.K) (h : PE X e (tBMT X.K (fun x xs H Q => ∃ p, ∃ ys : List Int, ∃ z j, x = .ref p ∧ xs = [.int z] ∧ SqT X.K H p (ys.map V.int) ∧ ys[j]? = some z ∧ (∀ m, m < j → ys[m]? ≠ some z) ∧ Q (.int (j : Nat)) H) (rdE C E T1 f1) (rdA1 C E T2 f2))) :
    PE X e (rdE C E (T1 ++ T2) (mTIx f1 f2)) := PE.wk h fun σ H Q ⟨m, e1, e2, S, w⟩ =>
  ⟨m, e1, e2, S, Want.imp w.bind fun r1 env w => fun v1 m1 a1 a2 S1 s1 ok1 => by
    subst a1
    split at w
    · rename_i ds
      obtain ⟨p, xs, rfl, sp, rr⟩ := ok1
      refine ⟨⟨p, xs, rfl, by rw [hK]; exact S1.ex.sqP sp⟩, m1, rfl, a2, S1, Want.mono w.bind s1 fun r2 env2 w => fun v2 m2 b1 b2 S2 s2 ok2 => ?_⟩
      subst b1
      split at w
      · rename_i z
        cases zi : intsOf ds with
        | none => rw [zi] at w; exact w.elim
        | some ns =>
          cases zj : ixI ns z with
          | none => rw [zi] at w; simp only [Option.bind_some, zj] at w; exact w.elim
          | some j =>
            rw [zi] at w
            simp only [Option.bind_some, zj] at w
            have hxs := rr.toInts zi
            subst hxs
            obtain ⟨i1, i2⟩ := ixI_is zj
            have ok2 : v2 = .int z := ok2
            subst ok2
            refine ⟨p, ns, z, j, rfl, rfl, by rw [hK]; exact S2.ex.sqT (s2.exF.sqT sp.1), i1, i2, ?_⟩
            exact w (.int (j : Nat)) m2 rfl b2 S2 (s1.trans s2) rfl
      · exact w.elim
    · exact w.elim⟩
end
end L3
namespace L3
open PySem L2 PySem.Spec PyProof.Rows
def calmF (f : List O → Rr) (os : List O) : Rr := match f os with
  | .exc _ _ _ => .bad
  | r => r
theorem spG_calm {K : PySem.W.Frag} {cl : Nat → Addr} {n : Nat} {f : List O → Rr} {vs : List V} {H : Hp} {Q : VK} {E : XK} (h : spG K cl n (calmF f) vs H Q E) : spG K cl n f vs H Q E0 := by
  obtain ⟨F, os, fp, hl, ex, r, nd, fF, w⟩ := h
  refine ⟨F, os, fp, hl, ex, r, nd, fF, ?_⟩
  unfold calmF at w
  cases q : f os with
  | ok r outs => rw [q] at w; exact w
  | bad => rw [q] at w; exact w.elim
  | exc c ds outs => rw [q] at w; exact w.elim
theorem fn_calm {P : Program} {w : World} {K : PySem.W.Frag} {mg : Str → Option Value} {base : Heap} {cl : Nat → Addr} {k n : Nat} {a : Addr} {fd : FuncData} {ps : List Str} {f : List O → Rr} (F : FnOk P w K mg base (L2.CX P w) k a fd ps (spG K cl n f)) :
    FnOk P w K mg base CX0 k a fd ps (spG K cl n (calmF f)) :=
  ⟨fun vs H Q E q => F.len _ _ _ _ (spG_calm q), fun A outer s H args us vs Q E hr he hb hv hs => codeAny_mono (F.run A outer s H args us vs Q E0 hr he hb hv (spG_calm hs)) fun r s' q => by
    cases r with
    | ok fl => cases fl <;> exact q
    | error e =>
      obtain ⟨_, _, _, _, _, _, _, _, _, _, _, _, z⟩ := (show L2.CX P w outer H s E0 e s' from q)
      exact z.elim⟩
theorem CalXI.calm {P : Program} {w : World} {K : PySem.W.Frag} {mg : Str → Option Value} {base : Heap} {k : Nat} {C : Addr} {x : Str} {ps : List Str} {a : Addr} {fd : FuncData} {cl : Nat → Addr} {n : Nat} {f : List O → Rr} (c : CalXI P w K mg base k C x ps (spG K cl n f) a fd) :
    CalI P w K mg base k C x ps (spG K cl n (calmF f)) a fd := ⟨fn_calm c.ok, c.b, c.made, c.g⟩
theorem CalXF.calm {P : Program} {w : World} {K : PySem.W.Frag} {mg : Str → Option Value} {base : Heap} {k : Nat} {x : Str} {ps : List Str} {a : Addr} {fd : FuncData} {cl : Nat → Addr} {n : Nat} {f : List O → Rr} (c : CalXF P w K mg base k x ps (spG K cl n f) a fd) :
    CalF P w K mg base k x ps (spG K cl n (calmF f)) a fd := ⟨fn_calm c.ok, c.b, c.g, c.kp⟩
def g2X (g : D → MS) : Nat → List D → MS := fun _ ds => match ds with
  | [d] => g d
  | _ => msBad
section
variable {X : Cx} {C : Cn} {E : WX} {pos : Pos} {T1 T2 : List Nat} {g1 : MS}
theorem s_never {ss : List Stmt} {C' : Cn} {W : WX} {T : List Nat} : PSs X ss (rdS C' W T msBad) := ⟨fun pins s σ H D I ⟨m, e1, e2, S, w⟩ => (show False from w).elim⟩
theorem s_tryPart {x n : Str} {i c : Nat} {body suite : List Stmt} {b₀ : Stmt} {np pos' : Pos} {g2 : D → MS} (hs : X.stack = X.env :: X.outer) (hf : X.env.frame = some X.env.locals) (hN : X.N.Nodup) (hi : X.N[i]? = some n) (hln : X.env.kindOf n = some .local) (hc : Names X x (.ref (C.cl c)))
    (hiO : i ∉ C.IO) (hin : i < C.n) (hcs : PySem.W.exmOne X.K (.ref (C.cl c)) (.ref (C.cl c)) = some true)
    (hb : ∀ (W : WX) (pn : List (Addr × Obj)) (xe : Value → Shared → Prop), Takes (X.tr pn xe) W → PSs (X.tr pn xe) body (rdS C W T1 g1))
    (hsu : ∀ (d : D) (C' : Cn) (ea : Addr) (oe : Obj) (dd : Option Addr) (pn : List (Addr × Obj)), ExcIn C C' i ea c [d] dd → Zc (.ref (C.cl c)) dd oe → (∃ vs, oe.data = .fields vs) → PSs (X.suite ea ((ea, oe) :: pn)) (b₀ :: suite) (rdS C' (fun _ _ _ _ => True) T2 (g2 d))) :
    PS X (.Try body [.ExceptHandler (some (.Name x np)) (some n) (b₀ :: suite) pos'] [] [] pos) (rdS C E (T1 ++ List.range C.n) (msTryAs [c] i g1 (g2X g2))) := by
  refine s_tryAs (T2 := T2) (cs := [c]) hs hf hN hi hln hc hiO hin (fun c' hc' => ?_) hb fun c' ds C' ea oe dd pn hc' I hz hf => ?_
  · rw [show c' = c by simpa using hc']; exact hcs
  · rw [show c' = c by simpa using hc'] at I hz
    unfold g2X
    split
    · exact hsu _ C' ea oe dd pn I hz hf
    · exact s_never
end
end L3
namespace L3
open PySem L2 PySem.Spec PyProof.Rows HT
section
variable {prog : Program} {w : World} {A : Around} {E : Value → Shared → Prop} {s : Shared}
theorem sliceApplied_rev {sl : Addr} {vs : Value} {n : Nat} {Q : Int × Int × Nat → Shared → Prop} (hs : s.heap.IsSliceOf sl .none .none vs) (ps : IsPart vs (some (-1)))
    (h : Q ((n : Int) - 1, -1, n) s) : wpAny (model prog w) A (Builtin.Slice.sliceApplied (.ref sl) (pure (n : Int))) Q E s := by
  obtain ⟨os, hos, hcs, hds⟩ := id hs
  unfold Builtin.Slice.sliceApplied Builtin.Slice.sliceFields
  refine wpAny_bind (wpAny_bind (wpAny_field hos hds (x := .none) rfl (wpAny_bind (wpAny_field hos hds (x := .none) rfl (wpAny_bind (wpAny_field hos hds (x := vs) rfl (wpAny_pure ?_)))))))
  refine wpAny_bind (slicePart_ ps ?_)
  show wpAny _ _ (if ((-1 : Int) == 0) = true then _ else _) _ _ s
  rw [if_neg (by decide)]
  refine wpAny_bind (slicePart_none (wpAny_bind (slicePart_none (wpAny_bind (wpAny_pure ?_)))))
  show wpAny _ _ (pure ((n : Int) - 1, (-1 : Int), Builtin.Slice.slicePlaces ((n : Int) - 1) (-1) (-1))) _ _ s
  have e : Builtin.Slice.slicePlaces ((n : Int) - 1) (-1) (-1) = n := by
    unfold Builtin.Slice.slicePlaces
    rw [if_neg (by decide)]
    split
    · show (((n : Int) - 1 - (-1) - 1) / (-(-1)) + 1).toNat = n
      have : (-(-1 : Int)) = 1 := by decide
      rw [this, Int.ediv_one]
      omega
    · omega
  rw [e]
  exact wpAny_pure h
theorem pick_rev (xs : Array Value) : ((List.range xs.size).filterMap fun (k : Nat) => xs[(((xs.size : Nat) : Int) - 1 + (k : Int) * (-1)).toNat]?).toArray = xs.toList.reverse.toArray := by
  have e1 : (fun (k : Nat) => xs[(((xs.size : Nat) : Int) - 1 + (k : Int) * (-1)).toNat]?) = (xs[·]?) ∘ fun k => xs.size - 1 - k := by
    funext k
    have e : (((xs.size : Nat) : Int) - 1 + (k : Int) * (-1)).toNat = xs.size - 1 - k := by omega
    show xs[_]? = xs[_]?
    rw [e]
  have e2 : (List.range xs.size).map (fun k => xs.size - 1 - k) = (List.range xs.size).reverse := by
    refine List.ext_getElem (by simp) fun i h1 h2 => ?_
    simp
  rw [e1, ← List.filterMap_map, e2, List.filterMap_reverse, PySem.W.krv_all]
theorem getItem_tuple_rev {t sl : Addr} {items : Array Value} {vs : Value} {Q : Value → Shared → Prop} (ht : IsTup s.heap t items) (hs : s.heap.IsSliceOf sl .none .none vs) (ps : IsPart vs (some (-1)))
    (h : Q (.ref s.heap.objs.size) { s with heap := s.heap.push { cls := .type "tuple", data := .seq items.toList.reverse.toArray } })
    (hsz : items.size ≤ sizeLine) : wpAny (model prog w) A (getItem (.ref t) (.ref sl)) Q E s := by
  have htake : sizeOk (.seq items.toList.reverse.toArray) := by
    show (items.toList.reverse.toArray).size ≤ sizeLine
    rw [List.size_toArray, List.length_reverse, Array.length_toList]
    omega
  obtain ⟨os, hos, hcs, hds⟩ := id hs
  have hTs : s.TypeIs (.ref sl) "slice" := ⟨os, hos, hcs⟩
  unfold getItem
  try with_reducible refine wpAny_holding ?_
  first | refine wpAny_bind (wpAny_pure ?_) | skip
  refine wpAny_bind (wpAny_sequenceKey ht.typeIs (by decide) ?_)
  refine wpAny_bind (wpAny_callSpecial?_slot (name := Str.ofString "__getitem__") ht.typeIs PyProof.Rows.slot_tuple_getitem
    (wpAny_call_entry PyProof.Rows.slot_tuple_getitem ht.typeIs entry_tuple_getitem ?_ (args_tuple_getitem _ _)))
  show wpAny _ _ (Builtin.Tuple.tupleItemsOf (.ref t) >>= _) _ _ s
  refine wpAny_bind (tupleItemsOf_ ht ?_)
  refine wpAny_bind (wpAny_typeOf hTs ?_)
  rw [if_pos (by decide)]
  refine wpAny_bind (sliceApplied_rev hs ps ?_)
  have hno : ¬ ((((items.size : Nat) : Int) - 1 == 0 && (-1 : Int) == 1 && items.size == items.size) = true) := by
    rw [show ((-1 : Int) == 1) = false from by decide]
    simp
  show wpAny _ _ (if (((items.size : Nat) : Int) - 1 == 0 && (-1 : Int) == 1 && items.size == items.size) = true then _ else _) _ _ s
  rw [if_neg hno, pick_rev]
  first
    | exact wpAny_bind (m := Builtin.Tuple.tupleExact _) (wpAny_newObj_type (wpAny_pure ⟨_, rfl, wpAny_pure h⟩) htake)
    | exact wpAny_bind (m := Builtin.Tuple.tupleExact _) (wpAny_newObj_type (wpAny_bind (wpAny_pure (wpAny_pure ⟨_, rfl, wpAny_pure h⟩))) htake)
    | exact wpAny_bind (wpAny_bind (m := Builtin.Tuple.tupleExact _) (wpAny_newObj_type (wpAny_pure (wpAny_pure ⟨_, rfl, wpAny_pure h⟩)) htake))
    | exact wpAny_bind (wpAny_bind (m := Builtin.Tuple.tupleExact _) (wpAny_newObj_type (wpAny_pure ⟨_, rfl, wpAny_pure h⟩) htake))
end
def tRevT (K : PySem.W.Frag) (te : TE) : TE := fun σ H Q => te σ H fun x H1 => ∃ a xs, x = .ref a ∧ SqT K H1 a xs ∧ NewT Q H1 xs.reverse
section
variable {X : Cx} {C : Cn} {E : WX} {T : List Nat} {f : ME}
theorem pe_revT {e : Expr} {te : TE} {k : Nat} {p1 p2 p3 pos : Pos} (he : PE X e te) : PE X (.Subscript e (.Slice none none (some (.UnaryOp .USub (.Constant (.int 1) k p1) p2)) p3) pos) (tRevT X.K te) := by
  refine ⟨fun pins s σ H Q I h => ?_⟩
  refine Subscript_ (thn (he.run pins s σ H _ I h) fun v s1 ⟨x, H1, I1, r1, q1⟩ => ?_)
  obtain ⟨a, xs, ex, hx, q⟩ := q1
  subst ex
  cases r1
  have hst : PO X (some (.UnaryOp .USub (.Constant (.int 1) k p1) p2)) (tPart (tUn (rU fun i => .int (-i)) (tC (.int 1)))) := po_some (pe_un un_neg pe_int)
  refine wpAny_Slice (thn (po_none.run pins s1 σ H1 (fun o H2 => o = none ∧ H2 = H1) I1 ⟨rfl, rfl⟩) fun vl s2 ⟨l, H2, I2, pl, el, e2⟩ => ?_)
  subst el e2
  refine thn (po_none.run pins s2 σ H2 (fun o H3 => o = none ∧ H3 = H2) I2 ⟨rfl, rfl⟩) fun vu s3 ⟨u, H3, I3, pu, eu, e3⟩ => ?_
  subst eu e3
  refine thn (hst.run pins s3 σ H3 (fun o H4 => o = some (-1) ∧ H4 = H3) I3 ⟨1, rfl, -1, rfl, rfl, rfl⟩) fun vs s4 ⟨o, H4, I4, ps, eo, e4⟩ => ?_
  subst eo e4
  cases pl
  cases pu
  have I5 : Inv X pins σ H4 { s4 with heap := s4.heap.push { cls := .type "slice", data := .fields #[.none, .none, vs] } } := I4.kept (t' := s4.toks) fun b ob q => Heap.get?_push_of_some _ q
  obtain ⟨its, r, ht, hz⟩ := I5.tuple hx
  have hlen := r.length
  show wpAny (model X.prog X.w) X.A (subscriptTail e (.Slice none none (some (.UnaryOp .USub (.Constant (.int 1) k p1) p2)) p3) (.ref a) (.ref s4.heap.objs.size)) (EP X pins σ Q) X.xe { s4 with heap := s4.heap.push { cls := .type "slice", data := .fields #[.none, .none, vs] } }
  refine tail_any (ops := [.ref a, .ref s4.heap.objs.size]) ht.typeIs (PyProof.Rows.slot_tuple_getitem.lookup) ?_ (by with_unfolding_all rfl)
  refine getItem_tuple_rev ht (Heap.IsSliceOf.new _ .none .none vs) ps ?_ (by rw [List.size_toArray]; omega)
  exact newT_go I5 r.reverse (by rw [List.length_reverse]; exact hz) q
def gRevT (r : Rt) : Option Rt := match r.items with
  | some (false, ds) => some (.val (.tup ds.reverse))
  | _ => none
theorem e_revT (hK : X.K = C.K) {e : Expr} (h : PE X e (tRevT X.K (rdE C E T f))) : PE X e (rdE C E T (m1 gRevT f)) := PE.wk h fun σ H Q h => by
  unfold tRevT
  rw [hK]
  refine rd1 (r := fun x H1 Q => ∃ a xs, x = .ref a ∧ SqT C.K H1 a xs ∧ NewT Q H1 xs.reverse) ?_ h
  intro m x rx ry av Q S h1 h k
  unfold gRevT at h
  split at h
  · rename_i ds q
    cases h
    obtain ⟨a, xs, rfl, r1, h2⟩ := h1.items S q
    rw [if_neg (by decide)] at h2
    exact ⟨a, xs, rfl, h2, fun p o hp hd => k _ _ (gro_new S hp) ⟨p, _, rfl, SqP.new hd, (rpDs_rev r1).mono (gro_new S hp).exF _ _⟩⟩
  · cases h
end
end L3
namespace L3
open PySem L2
def top (i : Nat) : Stmt := PySem.Challenge.pw_bigcorners_k32_whole_books_judged_and_ke.main.body.getD i (.Pass ⟨0, 0, 0, 0⟩)
def tab_SIZES : List (Str × D) := [("set", .int 3), ("say", .int 2), ("call", .int 2), ("if", .int 4), ("while", .int 3)]
structure Txt (w : World) (K : PySem.W.Frag) (mg : Str → Option Value) (cl : Nat → Addr) (aS : Addr) (eS : Array DictEntry) (nS : Nat) (aI_BadBook : Addr) : Prop where
  c_Book : mg "Book" = some (.ref (cl 0))
  c_Chart : mg "Chart" = some (.ref (cl 1))
  c_ChartError : mg "ChartError" = some (.ref (cl 12))
  nf_Book : ∀ c2 ∈ ([0, 1] : List Nat), PySem.W.notFirst K (cl 0) (.ref (cl c2)) = true
  nt_Book : PySem.W.notFirst K (cl 0) (.type "tuple") = true
  ne_Book : PySem.W.findIn K (.ref (cl 0)) "__ne__" = some (some (.builtin "object.__ne__"))
  nb_Book : PySem.W.subIn K (.ref (cl 0)) (.type "object") = some true
  nf_Chart : ∀ c2 ∈ ([0, 1] : List Nat), PySem.W.notFirst K (cl 1) (.ref (cl c2)) = true
  nt_Chart : PySem.W.notFirst K (cl 1) (.type "tuple") = true
  ne_Chart : PySem.W.findIn K (.ref (cl 1)) "__ne__" = some (some (.builtin "object.__ne__"))
  nb_Chart : PySem.W.subIn K (.ref (cl 1)) (.type "object") = some true
  g_CALL : ∃ t, mg "CALL" = some (.str "call" t)
  g_LESS : ∃ t, mg "LESS" = some (.str "less" t)
  g_MOST_ARROWS : ∃ t, mg "MOST_ARROWS" = some (.int 80 t)
  g_MOST_CELLS : ∃ t, mg "MOST_CELLS" = some (.int 4 t)
  g_MOST_DEEP : ∃ t, mg "MOST_DEEP" = some (.int 8 t)
  g_MOST_MULTIPLE : ∃ t, mg "MOST_MULTIPLE" = some (.int 1000 t)
  g_MOST_PLACES_books : ∃ t, mg "MOST_PLACES_books" = some (.int 40 t)
  g_MOST_PLACES_charts : ∃ t, mg "MOST_PLACES_charts" = some (.int 40 t)
  g_MOST_PRICE : ∃ t, mg "MOST_PRICE" = some (.int 1000 t)
  g_MOST_ROUTINES : ∃ t, mg "MOST_ROUTINES" = some (.int 5 t)
  g_SAME : ∃ t, mg "SAME" = some (.str "same" t)
  g_SAY : ∃ t, mg "SAY" = some (.str "say" t)
  g_SET : ∃ t, mg "SET" = some (.str "set" t)
  k_BadBook_ChartError : PySem.W.kitOne K (.ref (cl 4)) (.ref (cl 12)) = some true
  k_BadBook_ValueError : PySem.W.kitOne K (.ref (cl 4)) (.type "ValueError") = some true
  n_Book_cells : Cls K (cl 0) ∧ NoAttr K (cl 0) "cells"
  n_Book_routines : Cls K (cl 0) ∧ NoAttr K (cl 0) "routines"
  n_Chart_ahead : Cls K (cl 1) ∧ NoAttr K (cl 1) "ahead"
  n_Chart_all_rims : Cls K (cl 1) ∧ NoAttr K (cl 1) "all_rims"
  n_Chart_arrows : Cls K (cl 1) ∧ NoAttr K (cl 1) "arrows"
  n_Chart_numbers : Cls K (cl 1) ∧ NoAttr K (cl 1) "numbers"
  n_Chart_outer : Cls K (cl 1) ∧ NoAttr K (cl 1) "outer"
  n_Chart_places : Cls K (cl 1) ∧ NoAttr K (cl 1) "places"
  n_Chart_prices : Cls K (cl 1) ∧ NoAttr K (cl 1) "prices"
  n_Chart_rounds : Cls K (cl 1) ∧ NoAttr K (cl 1) "rounds"
  p_BadBook : PySem.PartX.PartTxt K mg "BadBook" "BadBook.__init__" (cl 4) aI_BadBook
  x_BadBook : ExT K (cl 4)
  z_ValueError : mg "ValueError" = none
  z_abs : mg "abs" = none
  z_all : mg "all" = none
  z_bool : mg "bool" = none
  z_enumerate : mg "enumerate" = none
  z_int : mg "int" = none
  z_isinstance : mg "isinstance" = none
  z_len : mg "len" = none
  z_list : mg "list" = none
  z_min : mg "min" = none
  z_range : mg "range" = none
  z_sorted : mg "sorted" = none
  z_str : mg "str" = none
  z_sum : mg "sum" = none
  z_tuple : mg "tuple" = none
  z_zip : mg "zip" = none
  d_SIZES : KDict K w aS eS nS
  k_SIZES : KTab K cl aS tab_SIZES
  m_SIZES : mg "SIZES" = some (.ref aS)
  own : OwnT K cl [0, 1]
section
variable {P : Program} {w : World} {K : PySem.W.Frag} {mg : Str → Option Value} {base : Heap} {cl : Nat → Addr} {aS : Addr} {eS : Array DictEntry} {nS : Nat} {aI_BadBook : Addr}
abbrev s_is_integer : Stmt := top 5
theorem sc_is_integer : FnScope ["thing"] ["thing"] (defScope s_is_integer) := ⟨rfl, rfl, rfl, by decide +kernel, rfl, by decide +kernel, by decide +kernel⟩
def b_is_integer : MS := (msRet (mAnd (mN (gIsiX [0, 1]) (mCons [] (mVar 0) (mCons [] (mC (.ty "int")) mNil))) (mNot (mN (gIsiX [0, 1]) (mCons [] (mVar 0) (mCons [] (mC (.ty "bool")) mNil))))))
theorem ok_is_integer {f : Addr} {fd : FuncData} {k : Nat} (T : Txt w K mg cl aS eS nS aI_BadBook)  (F : Fun K "is_integer" "is_integer" s_is_integer f fd) : FnOk P w K mg base CX0 (k + 1) f fd ["thing"] (spG K cl 1 (runDef [] 0 (b_is_integer))) :=
  fn_def2 F sc_is_integer (by decide) fun cdv A outer s H E F0 H0 io vs hr => ⟨_, (s_one (s_ret (e_and (e_cb (loc_isiX T.own) (pe_callB call_isi (by rfl) T.z_isinstance rfl (a_cons (e_var 0) (a_cons (e_ty (by rfl) T.z_int rfl) a_nil)))) (e_one (e_not (e_cb (loc_isiX T.own) (pe_callB call_isi (by rfl) T.z_isinstance rfl (a_cons (e_var 0) (a_cons (e_ty (by rfl) T.z_bool rfl) a_nil)))))))))⟩
abbrev s_is_within : Stmt := top 6
theorem sc_is_within : FnScope ["thing", "least", "most"] ["thing", "least", "most"] (defScope s_is_within) := ⟨rfl, rfl, rfl, by decide +kernel, rfl, by decide +kernel, by decide +kernel⟩
def b_is_within (f_is_integer : List O → Rr) : MS := (msRet (mAnd (mCall [] 1 f_is_integer (mCons [] (mVar 0) mNil)) (mChain (gI fun i j => .bl (decide (i ≤ j))) (gI fun i j => .bl (decide (i ≤ j))) (mVar 1) (mVar 0) (mVar 2))))
theorem ok_is_within {f : Addr} {fd : FuncData} {k : Nat} (T : Txt w K mg cl aS eS nS aI_BadBook) {f_is_integer : List O → Rr} {a_is_integer : Addr} {d_is_integer : FuncData} {k_is_integer : Nat} (l_is_integer : k_is_integer ≤ k) (c_is_integer : CalF P w K mg base k_is_integer "is_integer" ["thing"] (spG K cl 1 f_is_integer) a_is_integer d_is_integer) (F : Fun K "is_within" "is_within" s_is_within f fd) : FnOk P w K mg base CX0 (k + 1) f fd ["thing", "least", "most"] (spG K cl 3 (runDef [] 0 (b_is_within f_is_integer))) :=
  fn_def2 F sc_is_within (by decide) fun cdv A outer s H E F0 H0 io vs hr => ⟨_, (s_one (s_ret (e_and (e_call [] rfl c_is_integer.ok (hr.mono (by omega)) (by rfl) c_is_integer.g c_is_integer.kp c_is_integer.b passN (a_cons (e_var 0) a_nil)) (e_one (e_chain loc_le loc_le (pe_chain op_le op_le (e_var 1) (e_var 0) (e_var 2)))))))⟩
abbrev s_is_pair : Stmt := top 7
theorem sc_is_pair : FnScope ["thing"] ["thing"] (defScope s_is_pair) := ⟨rfl, rfl, rfl, by decide +kernel, rfl, by decide +kernel, by decide +kernel⟩
def b_is_pair : MS := (msRet (mAnd (mN (gIsiX [0, 1]) (mCons [] (mVar 0) (mCons [] (mC (.ty "tuple")) mNil))) (m2 gEq [] (mN gLen (mCons [] (mVar 0) mNil)) (mC (.int 2)))))
theorem ok_is_pair {f : Addr} {fd : FuncData} {k : Nat} (T : Txt w K mg cl aS eS nS aI_BadBook)  (F : Fun K "is_pair" "is_pair" s_is_pair f fd) : FnOk P w K mg base CX0 (k + 1) f fd ["thing"] (spG K cl 1 (runDef [] 0 (b_is_pair))) :=
  fn_def2 F sc_is_pair (by decide) fun cdv A outer s H E F0 H0 io vs hr => ⟨_, (s_one (s_ret (e_and (e_cb (loc_isiX T.own) (pe_callB call_isi (by rfl) T.z_isinstance rfl (a_cons (e_var 0) (a_cons (e_ty (by rfl) T.z_tuple rfl) a_nil)))) (e_one (e_cmp (op_eqD hr.units) (loc_eq) (e_cb (loc_len) (pe_callB call_len (by rfl) T.z_len rfl (a_cons (e_var 0) a_nil))) e_int)))))⟩
abbrev s_is_sized : Stmt := top 8
theorem sc_is_sized : FnScope ["thing", "least", "most"] ["thing", "least", "most"] (defScope s_is_sized) := ⟨rfl, rfl, rfl, by decide +kernel, rfl, by decide +kernel, by decide +kernel⟩
def b_is_sized : MS := (msRet (mAnd (mN (gIsiX [0, 1]) (mCons [] (mVar 0) (mCons [] (mC (.ty "tuple")) mNil))) (mChain (gI fun i j => .bl (decide (i ≤ j))) (gI fun i j => .bl (decide (i ≤ j))) (mVar 1) (mN gLen (mCons [] (mVar 0) mNil)) (mVar 2))))
theorem ok_is_sized {f : Addr} {fd : FuncData} {k : Nat} (T : Txt w K mg cl aS eS nS aI_BadBook)  (F : Fun K "is_sized" "is_sized" s_is_sized f fd) : FnOk P w K mg base CX0 (k + 1) f fd ["thing", "least", "most"] (spG K cl 3 (runDef [] 0 (b_is_sized))) :=
  fn_def2 F sc_is_sized (by decide) fun cdv A outer s H E F0 H0 io vs hr => ⟨_, (s_one (s_ret (e_and (e_cb (loc_isiX T.own) (pe_callB call_isi (by rfl) T.z_isinstance rfl (a_cons (e_var 0) (a_cons (e_ty (by rfl) T.z_tuple rfl) a_nil)))) (e_one (e_chain loc_le loc_le (pe_chain op_le op_le (e_var 1) (e_cb (loc_len) (pe_callB call_len (by rfl) T.z_len rfl (a_cons (e_var 0) a_nil))) (e_var 2)))))))⟩
abbrev s_place_at : Stmt := top 13
theorem sc_place_at : FnScope ["arrows", "end"] ["arrows", "end"] (defScope s_place_at) := ⟨rfl, rfl, rfl, by decide +kernel, rfl, by decide +kernel, by decide +kernel⟩
def b_place_at : MS := (msRet (m2 gIx [] (m2 gIx [] (mVar 0) (m2 (gIc cDiv fun i j => .int (i / j)) [] (mVar 1) (mC (.int 2)))) (m2 (gIc cMod fun i j => .int (i % j)) [] (mVar 1) (mC (.int 2)))))
theorem ok_place_at {f : Addr} {fd : FuncData} {k : Nat} (T : Txt w K mg cl aS eS nS aI_BadBook)  (F : Fun K "place_at" "place_at" s_place_at f fd) : FnOk P w K mg base CX0 (k + 1) f fd ["arrows", "end"] (spG K cl 2 (runDef [] 0 (b_place_at))) :=
  fn_def2 F sc_place_at (by decide) fun cdv A outer s H E F0 H0 io vs hr => ⟨_, (s_one (s_ret (e_ix ix_seq (loc_ix) (e_ix ix_seq (loc_ix) (e_var 0) (e_op op_fdiv loc_fdiv (e_var 1) e_int) (fun _ _ => rfl)) (e_op op_mod loc_mod (e_var 1) e_int) (fun _ _ => rfl))))⟩
abbrev s_is_arrow : Stmt := top 14
theorem sc_is_arrow : FnScope ["thing", "places"] ["thing", "places"] (defScope s_is_arrow) := ⟨rfl, rfl, rfl, by decide +kernel, rfl, by decide +kernel, by decide +kernel⟩
def b_is_arrow (f_is_pair : List O → Rr) (f_is_within : List O → Rr) : MS := (msRet (mAnd (mCall [] 1 f_is_pair (mCons [] (mVar 0) mNil)) (mAnd (mCall [] 3 f_is_within (mCons [] (m2 gIx [] (mVar 0) (mC (.int 0))) (mCons [] (mC (.int 0)) (mCons [] (m2 (gI fun i j => .int (i - j)) [] (mVar 1) (mC (.int 1))) mNil)))) (mCall [] 3 f_is_within (mCons [] (m2 gIx [] (mVar 0) (mC (.int 1))) (mCons [] (mC (.int 0)) (mCons [] (m2 (gI fun i j => .int (i - j)) [] (mVar 1) (mC (.int 1))) mNil)))))))
theorem ok_is_arrow {f : Addr} {fd : FuncData} {k : Nat} (T : Txt w K mg cl aS eS nS aI_BadBook) {f_is_pair : List O → Rr} {a_is_pair : Addr} {d_is_pair : FuncData} {k_is_pair : Nat} (l_is_pair : k_is_pair ≤ k) (c_is_pair : CalF P w K mg base k_is_pair "is_pair" ["thing"] (spG K cl 1 f_is_pair) a_is_pair d_is_pair) {f_is_within : List O → Rr} {a_is_within : Addr} {d_is_within : FuncData} {k_is_within : Nat} (l_is_within : k_is_within ≤ k) (c_is_within : CalF P w K mg base k_is_within "is_within" ["thing", "least", "most"] (spG K cl 3 f_is_within) a_is_within d_is_within) (F : Fun K "is_arrow" "is_arrow" s_is_arrow f fd) : FnOk P w K mg base CX0 (k + 1) f fd ["thing", "places"] (spG K cl 2 (runDef [] 0 (b_is_arrow f_is_pair f_is_within))) :=
  fn_def2 F sc_is_arrow (by decide) fun cdv A outer s H E F0 H0 io vs hr => ⟨_, (s_one (s_ret (e_and (e_call [] rfl c_is_pair.ok (hr.mono (by omega)) (by rfl) c_is_pair.g c_is_pair.kp c_is_pair.b passN (a_cons (e_var 0) a_nil)) (e_and (e_call [] rfl c_is_within.ok (hr.mono (by omega)) (by rfl) c_is_within.g c_is_within.kp c_is_within.b passN (a_cons (e_ix ix_seq (loc_ix) (e_var 0) e_int (fun _ _ => rfl)) (a_cons e_int (a_cons (e_op op_sub loc_sub (e_var 1) e_int) a_nil)))) (e_one (e_call [] rfl c_is_within.ok (hr.mono (by omega)) (by rfl) c_is_within.g c_is_within.kp c_is_within.b passN (a_cons (e_ix ix_seq (loc_ix) (e_var 0) e_int (fun _ _ => rfl)) (a_cons e_int (a_cons (e_op op_sub loc_sub (e_var 1) e_int) a_nil)))))))))⟩
abbrev s_is_round : Stmt := top 15
theorem sc_is_round : FnScope ["thing", "ends", "end"] ["thing", "ends"] (defScope s_is_round) := ⟨rfl, rfl, rfl, by decide +kernel, rfl, by decide +kernel, by decide +kernel⟩
def e1_is_round (f_is_sized : List O → Rr) (f_is_integer : List O → Rr) : ME := (mStl (mCall [] 1 f_is_integer (mCons [] (mVar 2) mNil)))
def b_is_round (f_is_sized : List O → Rr) (f_is_integer : List O → Rr) : MS := (msSeq (msIf (tmOr (tmNot (mTest (mCall [] 3 f_is_sized (mCons [] (mVar 0) (mCons [] (mN gLen (mCons [] (mVar 1) mNil)) (mCons [] (mN gLen (mCons [] (mVar 1) mNil)) mNil)))))) (tmNot (mTest (mN gAll (mCons [] (mLc [2, 2] [2] (setT [2]) (iSeq true (mVar 0)) mYes (e1_is_round f_is_sized f_is_integer)) mNil))))) (msRet (mC (.bl false))) msNil)
  (msRet (m2 gEq [] (mN gSortI (mCons [] (mVar 0) mNil)) (mVar 1))))
theorem ok_is_round {f : Addr} {fd : FuncData} {k : Nat} (T : Txt w K mg cl aS eS nS aI_BadBook) {f_is_sized : List O → Rr} {a_is_sized : Addr} {d_is_sized : FuncData} {k_is_sized : Nat} (l_is_sized : k_is_sized ≤ k) (c_is_sized : CalF P w K mg base k_is_sized "is_sized" ["thing", "least", "most"] (spG K cl 3 f_is_sized) a_is_sized d_is_sized) {f_is_integer : List O → Rr} {a_is_integer : Addr} {d_is_integer : FuncData} {k_is_integer : Nat} (l_is_integer : k_is_integer ≤ k) (c_is_integer : CalF P w K mg base k_is_integer "is_integer" ["thing"] (spG K cl 1 f_is_integer) a_is_integer d_is_integer) (F : Fun K "is_round" "is_round" s_is_round f fd) : FnOk P w K mg base CX0 (k + 1) f fd ["thing", "ends"] (spG K cl 2 (runDef [] 1 (b_is_round f_is_sized f_is_integer))) :=
  fn_def2 F sc_is_round (by decide) fun cdv A outer s H E F0 H0 io vs hr => ⟨_, (s_cons (s_if (t_w (w_or (t_not (t_val (e_call [] rfl c_is_sized.ok (hr.mono (by omega)) (by rfl) c_is_sized.g c_is_sized.kp c_is_sized.b passN (a_cons (e_var 0) (a_cons (e_cb (loc_len) (pe_callB call_len (by rfl) T.z_len rfl (a_cons (e_var 1) a_nil))) (a_cons (e_cb (loc_len) (pe_callB call_len (by rfl) T.z_len rfl (a_cons (e_var 1) a_nil))) a_nil)))))) (w_or1 (t_not (t_val (e_cb (loc_all) (pe_callB (cr_all rfl) (by rfl) T.z_all rfl (a_cons (e_lc (vs := [2]) (tg_name (by show 2 < 3; decide) (by show 2 ∉ ([] : List Nat); decide)) (by decide) (by show ∀ i ∈ ([2] : List Nat), i ∉ ([] : List Nat); decide) (pe_lc (own := [("end", 2)]) rfl sc_is_round.nd (i_tup rfl (e_var 0)) (blkOk_by (N := ["thing", "ends", "end"]) (sc := defScope s_is_round) (by decide +kernel)) (fun _ _ _ _ _ => (pg_name (i := 2) sc_is_round.nd rfl (by first | exact Or.inl rfl | exact Or.inr rfl))) (fun _ _ _ _ _ => ts_nil) (fun _ _ _ _ _ => (e_stl (e_call [] rfl c_is_integer.ok (hr.mono (by omega)) (by rfl) c_is_integer.g c_is_integer.kp c_is_integer.b passN (a_cons (e_var 2) a_nil)))))) a_nil)))))))) (s_one (s_ret e_bl)) s_nil)
  (s_one (s_ret (e_cmp (op_eqD hr.units) (loc_eq) (e_cb (loc_sortI) (pe_callB cr_sort2 (by rfl) T.z_sorted rfl (a_cons (e_var 0) a_nil))) (e_var 1)))))⟩
abbrev s_is_price : Stmt := top 16
theorem sc_is_price : FnScope ["thing"] ["thing"] (defScope s_is_price) := ⟨rfl, rfl, rfl, by decide +kernel, rfl, by decide +kernel, by decide +kernel⟩
def b_is_price (f_is_within : List O → Rr) : MS := (msRet (mOr (m2 (gIs false) [] (mVar 0) (mC .non)) (mCall [] 3 f_is_within (mCons [] (mVar 0) (mCons [] (mC (.int 1)) (mCons [] (mC (.int 1000)) mNil))))))
theorem ok_is_price {f : Addr} {fd : FuncData} {k : Nat} (T : Txt w K mg cl aS eS nS aI_BadBook) {f_is_within : List O → Rr} {a_is_within : Addr} {d_is_within : FuncData} {k_is_within : Nat} (l_is_within : k_is_within ≤ k) (c_is_within : CalF P w K mg base k_is_within "is_within" ["thing", "least", "most"] (spG K cl 3 f_is_within) a_is_within d_is_within) (F : Fun K "is_price" "is_price" s_is_price f fd) : FnOk P w K mg base CX0 (k + 1) f fd ["thing"] (spG K cl 1 (runDef [] 0 (b_is_price f_is_within))) :=
  fn_def2 F sc_is_price (by decide) fun cdv A outer s H E F0 H0 io vs hr => ⟨_, (s_one (s_ret (e_or (e_cmp op_isN loc_is (e_var 0) e_non) (e_one (e_call [] rfl c_is_within.ok (hr.mono (by omega)) (by rfl) c_is_within.g c_is_within.kp c_is_within.b passN (a_cons (e_var 0) (a_cons e_int (a_cons (e_gint (by rfl) T.g_MOST_PRICE) a_nil))))))))⟩
abbrev s_ends_at : Stmt := top 17
theorem sc_ends_at : FnScope ["arrows", "place", "end"] ["arrows", "place"] (defScope s_ends_at) := ⟨rfl, rfl, rfl, by decide +kernel, rfl, by decide +kernel, by decide +kernel⟩
def e1_ends_at (f_place_at : List O → Rr) : MT := (mTest (m2 gEq [] (mCall [] 2 f_place_at (mCons [] (mVar 0) (mCons [] (mVar 2) mNil))) (mVar 1)))
def e2_ends_at (f_place_at : List O → Rr) : ME := (mVar 2)
def b_ends_at (f_place_at : List O → Rr) : MS := (msRet (mLc [2, 2] [2] (setT [2]) (iRg1 (mCons [] (m2 gMul [] (mC (.int 2)) (mN gLen (mCons [] (mVar 0) mNil))) mNil)) (e1_ends_at f_place_at) (e2_ends_at f_place_at)))
theorem ok_ends_at {f : Addr} {fd : FuncData} {k : Nat} (T : Txt w K mg cl aS eS nS aI_BadBook) {f_place_at : List O → Rr} {a_place_at : Addr} {d_place_at : FuncData} {k_place_at : Nat} (l_place_at : k_place_at ≤ k) (c_place_at : CalF P w K mg base k_place_at "place_at" ["arrows", "end"] (spG K cl 2 f_place_at) a_place_at d_place_at) (F : Fun K "ends_at" "ends_at" s_ends_at f fd) : FnOk P w K mg base CX0 (k + 1) f fd ["arrows", "place"] (spG K cl 2 (runDef [] 1 (b_ends_at f_place_at))) :=
  fn_def2 F sc_ends_at (by decide) fun cdv A outer s H E F0 H0 io vs hr => ⟨_, (s_one (s_ret (e_lc (vs := [2]) (tg_name (by show 2 < 3; decide) (by show 2 ∉ ([] : List Nat); decide)) (by decide) (by show ∀ i ∈ ([2] : List Nat), i ∉ ([] : List Nat); decide) (pe_lc (own := [("end", 2)]) rfl sc_ends_at.nd (i_rg1 (pi_range1 (by rfl) T.z_range (a_cons (e_op op_mulAll (loc_mul) e_int (e_cb (loc_len) (pe_callB call_len (by rfl) T.z_len rfl (a_cons (e_var 0) a_nil)))) a_nil))) (blkOk_by (N := ["arrows", "place", "end"]) (sc := defScope s_ends_at) (by decide +kernel)) (fun _ _ _ _ _ => (pg_name (i := 2) sc_ends_at.nd rfl (by first | exact Or.inl rfl | exact Or.inr rfl))) (fun _ _ _ _ _ => (ts_one (t_cmp (op_eqD hr.units) (loc_eq) (e_call [] rfl c_place_at.ok (hr.mono (by omega)) (by rfl) c_place_at.g c_place_at.kp c_place_at.b passN (a_cons (e_var 0) (a_cons (e_var 2) a_nil))) (e_var 1)))) (fun _ _ _ _ _ => (e_var 2))))))⟩
abbrev s_hang_together : Stmt := top 18
theorem sc_hang_together : FnScope ["places", "arrows", "found", "done", "tail", "head"] ["places", "arrows"] (defScope s_hang_together) := ⟨rfl, rfl, rfl, by decide +kernel, rfl, by decide +kernel, by decide +kernel⟩
def e1_hang_together : MS := (msSeq (msIf (tmAnd (mTest (m2 gEq [] (mVar 4) (m2 gIx [] (mVar 2) (mVar 3)))) (mTest (m2 (gIn true) [] (mVar 5) (mVar 2)))) (msExpr (mAppend [2] [] (mVar 2) (mVar 5))) msNil)
  (msIf (tmAnd (mTest (m2 gEq [] (mVar 5) (m2 gIx [] (mVar 2) (mVar 3)))) (mTest (m2 (gIn true) [] (mVar 4) (mVar 2)))) (msExpr (mAppend [2] [] (mVar 2) (mVar 4))) msNil))
def e2_hang_together : MT := (mTest (m2 (gI fun i j => .bl (decide (i < j))) [] (mVar 3) (mN gLen (mCons [] (mVar 2) mNil))))
def e3_hang_together : MS := (msSeq (msFor [4, 5, 2, 2] (setTup [4, 5]) (iSeq true (mVar 1)) (e1_hang_together))
  (msAug 3 (gI fun i j => .int (i + j)) (mC (.int 1))))
noncomputable def b_hang_together : MS := (msSeq (msSet 2 (mN gLst (mCons [] (mC (.int 0)) mNil)))
  (msSeq (msSet 3 (mC (.int 0)))
  (msSeq (msWhile (e2_hang_together) (e3_hang_together))
  (msRet (m2 gEq [] (mN gLen (mCons [] (mVar 2) mNil)) (mVar 0))))))
theorem ok_hang_together {f : Addr} {fd : FuncData} {k : Nat} (T : Txt w K mg cl aS eS nS aI_BadBook)  (F : Fun K "hang_together" "hang_together" s_hang_together f fd) : FnOk P w K mg base CX0 (k + 1) f fd ["places", "arrows"] (spG K cl 2 (runDef [] 4 (b_hang_together))) :=
  fn_def2 F sc_hang_together (by decide) fun cdv A outer s H E F0 H0 io vs hr => ⟨_, (s_cons (s_set 2 sc_hang_together.nd rfl (by first | exact Or.inl rfl | exact Or.inr rfl) (e_lst (a_cons e_int a_nil)) (by show 2 ∉ ([] : List Nat); decide) (by show 2 < 6; decide))
  (s_cons (s_set 3 sc_hang_together.nd rfl (by first | exact Or.inl rfl | exact Or.inr rfl) e_int (by show 3 ∉ ([] : List Nat); decide) (by show 3 < 6; decide))
  (s_cons (s_while PassesOwn.never (t_cmp op_lt loc_lt (e_var 3) (e_cb (loc_len) (pe_callB call_len (by rfl) T.z_len rfl (a_cons (e_var 2) a_nil)))) (s_cons (s_for PassesOwn.never rfl (tg_tup (is := [4, 5]) (n := 2) rfl (by show ∀ i ∈ ([4, 5] : List Nat), i < 6 ∧ i ∉ ([] : List Nat); decide)) (i_tup rfl (e_var 1)) (pg_tup rfl (pgs_cons (pg_name (i := 4) sc_hang_together.nd rfl (by first | exact Or.inl rfl | exact Or.inr rfl)) (pgs_cons (pg_name (i := 5) sc_hang_together.nd rfl (by first | exact Or.inl rfl | exact Or.inr rfl)) pgs_nil))) (s_cons (s_if (t_w (w_and (t_cmp (op_eqD hr.units) (loc_eq) (e_var 4) (e_ix ix_seq (loc_ix) (e_var 2) (e_var 3) (fun _ _ => rfl))) (w_and1 (t_cmp op_notIn_seq (loc_in) (e_var 5) (e_var 2))))) (s_one (s_expr (e_append [2] rfl (pe_bm PySem.F.plainAttrs_list PySem.F.slot_list_append PySem.F.type_list_append mt_append (e_var 2) (a_one (e_var 5)))))) s_nil)
  (s_one (s_if (t_w (w_and (t_cmp (op_eqD hr.units) (loc_eq) (e_var 5) (e_ix ix_seq (loc_ix) (e_var 2) (e_var 3) (fun _ _ => rfl))) (w_and1 (t_cmp op_notIn_seq (loc_in) (e_var 4) (e_var 2))))) (s_one (s_expr (e_append [2] rfl (pe_bm PySem.F.plainAttrs_list PySem.F.slot_list_append PySem.F.type_list_append mt_append (e_var 2) (a_one (e_var 4)))))) s_nil))))
  (s_one (s_aug 3 loc_ipadd (by show 3 < 6; decide) (by show 3 ∉ ([] : List Nat); decide) (ps_aug (i := 3) sc_hang_together.nd rfl (by first | exact Or.inl rfl | exact Or.inr rfl) e_int ip_add)))))
  (s_one (s_ret (e_cmp (op_eqD hr.units) (loc_eq) (e_cb (loc_len) (pe_callB call_len (by rfl) T.z_len rfl (a_cons (e_var 2) a_nil))) (e_var 0)))))))⟩
abbrev s_begun_least : Stmt := top 19
theorem sc_begun_least : FnScope ["items", "at"] ["items"] (defScope s_begun_least) := ⟨rfl, rfl, rfl, by decide +kernel, rfl, by decide +kernel, by decide +kernel⟩
def b_begun_least : MS := (msSeq (msSet 1 (mIf (mTest (m2 (gI fun i j => .bl (decide (j < i))) [] (mN gLen (mCons [] (mVar 0) mNil)) (mC (.int 0)))) (mTIx (mVar 0) (mN gMin1 (mCons [] (mVar 0) mNil))) (mC (.int 0))))
  (msRet (m2 gAdd [] (mSl [] (mVar 0) (oSome (mVar 1)) oNone) (mSl [] (mVar 0) oNone (oSome (mVar 1))))))
theorem ok_begun_least {f : Addr} {fd : FuncData} {k : Nat} (T : Txt w K mg cl aS eS nS aI_BadBook)  (F : Fun K "begun_least" "begun_least" s_begun_least f fd) : FnOk P w K mg base CX0 (k + 1) f fd ["items"] (spG K cl 1 (runDef [] 1 (b_begun_least))) :=
  fn_def2 F sc_begun_least (by decide) fun cdv A outer s H E F0 H0 io vs hr => ⟨_, (s_cons (s_set 1 sc_begun_least.nd rfl (by first | exact Or.inl rfl | exact Or.inr rfl) (e_if (t_cmp op_gt loc_gt (e_cb (loc_len) (pe_callB call_len (by rfl) T.z_len rfl (a_cons (e_var 0) a_nil))) e_int) (e_tix rfl (pe_bmT PySem.F.slot_tuple_index PySem.F.type_tuple_index mt_tup_indexI (e_var 0) (a_one (e_cb (loc_min1) (pe_callB (cr_min1 rfl) (by rfl) T.z_min rfl (a_cons (e_var 0) a_nil)))))) e_int) (by show 1 ∉ ([] : List Nat); decide) (by show 1 < 2; decide))
  (s_one (s_ret (e_op op_addAll loc_add (e_sl rfl (e_var 0) (o_some (e_var 1)) o_none) (e_sl rfl (e_var 0) o_none (o_some (e_var 1)))))))⟩
abbrev s_befores : Stmt := top 20
theorem sc_befores : FnScope ["rounds", "many", "found", "ends", "at", "end"] ["rounds", "many"] (defScope s_befores) := ⟨rfl, rfl, rfl, by decide +kernel, rfl, by decide +kernel, by decide +kernel⟩
def e1_befores : MS := (msSetIx [2] [] [] (m2 gIx [] (mVar 3) (m2 (gI fun i j => .int (i - j)) [] (mVar 4) (mC (.int 1)))) (mVar 2) (mVar 5))
def e2_befores : MS := (msFor [4, 5, 2] (setTup [4, 5]) (iEnumM (mCons [] (mVar 3) mNil)) (e1_befores))
def b_befores : MS := (msSeq (msSet 2 (m2 gMul [] (mN gLst (mCons [] (mC (.int 0)) mNil)) (mVar 1)))
  (msSeq (msFor [3, 4, 5, 2] (setT [3]) (iSeq true (mVar 0)) (e2_befores))
  (msRet (mVar 2))))
theorem ok_befores {f : Addr} {fd : FuncData} {k : Nat} (T : Txt w K mg cl aS eS nS aI_BadBook)  (F : Fun K "befores" "befores" s_befores f fd) : FnOk P w K mg base CX0 (k + 1) f fd ["rounds", "many"] (spG K cl 2 (runDef [] 4 (b_befores))) :=
  fn_def2 F sc_befores (by decide) fun cdv A outer s H E F0 H0 io vs hr => ⟨_, (s_cons (s_set 2 sc_befores.nd rfl (by first | exact Or.inl rfl | exact Or.inr rfl) (e_op op_mulAll (loc_mul) (e_lst (a_cons e_int a_nil)) (e_var 1)) (by show 2 ∉ ([] : List Nat); decide) (by show 2 < 6; decide))
  (s_cons (s_for PassesOwn.never rfl (tg_name (by show 3 < 6; decide) (by show 3 ∉ ([] : List Nat); decide)) (i_tup rfl (e_var 0)) (pg_name (i := 3) sc_befores.nd rfl (by first | exact Or.inl rfl | exact Or.inr rfl)) (s_one (s_for PassesOwn.never rfl (tg_tup (is := [4, 5]) (n := 2) rfl (by show ∀ i ∈ ([4, 5] : List Nat), i < 6 ∧ i ∉ ([] : List Nat); decide)) (i_enum rfl (pi_enumG (by rfl) T.z_enumerate (a_cons (e_var 3) a_nil))) (pg_tup rfl (pgs_cons (pg_name (i := 4) sc_befores.nd rfl (by first | exact Or.inl rfl | exact Or.inr rfl)) (pgs_cons (pg_name (i := 5) sc_befores.nd rfl (by first | exact Or.inl rfl | exact Or.inr rfl)) pgs_nil))) (s_one (s_setIx [2] (ps_asg (e_ix ix_seq (loc_ix) (e_var 3) (e_op op_sub loc_sub (e_var 4) e_int) (fun _ _ => rfl)) (pg_sub (e_var 2) (e_var 5) set_list)))))))
  (s_one (s_ret (e_var 2)))))⟩
abbrev s_other_end : Stmt := top 21
theorem sc_other_end : FnScope ["end"] ["end"] (defScope s_other_end) := ⟨rfl, rfl, rfl, by decide +kernel, rfl, by decide +kernel, by decide +kernel⟩
def b_other_end : MS := (msRet (m2 (gI fun i j => .int (i - j)) [] (m2 gAdd [] (mVar 0) (mC (.int 1))) (m2 gMul [] (mC (.int 2)) (m2 (gIc cMod fun i j => .int (i % j)) [] (mVar 0) (mC (.int 2))))))
theorem ok_other_end {f : Addr} {fd : FuncData} {k : Nat} (T : Txt w K mg cl aS eS nS aI_BadBook)  (F : Fun K "other_end" "other_end" s_other_end f fd) : FnOk P w K mg base CX0 (k + 1) f fd ["end"] (spG K cl 1 (runDef [] 0 (b_other_end))) :=
  fn_def2 F sc_other_end (by decide) fun cdv A outer s H E F0 H0 io vs hr => ⟨_, (s_one (s_ret (e_op op_sub loc_sub (e_op op_addAll loc_add (e_var 0) e_int) (e_op op_mulAll (loc_mul) e_int (e_op op_mod loc_mod (e_var 0) e_int)))))⟩
abbrev s_walked : Stmt := top 22
theorem sc_walked : FnScope ["ahead", "angle", "found", "here"] ["ahead", "angle"] (defScope s_walked) := ⟨rfl, rfl, rfl, by decide +kernel, rfl, by decide +kernel, by decide +kernel⟩
def e1_walked (f_other_end : List O → Rr) : MT := (mTest (m2 gNe [] (mVar 3) (mVar 1)))
def e2_walked (f_other_end : List O → Rr) : MS := (msSeq (msExpr (mAppend [2] [] (mVar 2) (mVar 3)))
  (msSet 3 (m2 gIx [] (mVar 0) (mCall [] 1 f_other_end (mCons [] (mVar 3) mNil)))))
noncomputable def b_walked (f_other_end : List O → Rr) : MS := (msSeq (msSet 2 (mN gLst (mCons [] (mVar 1) mNil)))
  (msSeq (msSet 3 (m2 gIx [] (mVar 0) (mCall [] 1 f_other_end (mCons [] (mVar 1) mNil))))
  (msSeq (msWhile (e1_walked f_other_end) (e2_walked f_other_end))
  (msRet (mVar 2)))))
theorem ok_walked {f : Addr} {fd : FuncData} {k : Nat} (T : Txt w K mg cl aS eS nS aI_BadBook) {f_other_end : List O → Rr} {a_other_end : Addr} {d_other_end : FuncData} {k_other_end : Nat} (l_other_end : k_other_end ≤ k) (c_other_end : CalF P w K mg base k_other_end "other_end" ["end"] (spG K cl 1 f_other_end) a_other_end d_other_end) (F : Fun K "walked" "walked" s_walked f fd) : FnOk P w K mg base CX0 (k + 1) f fd ["ahead", "angle"] (spG K cl 2 (runDef [] 2 (b_walked f_other_end))) :=
  fn_def2 F sc_walked (by decide) fun cdv A outer s H E F0 H0 io vs hr => ⟨_, (s_cons (s_set 2 sc_walked.nd rfl (by first | exact Or.inl rfl | exact Or.inr rfl) (e_lst (a_cons (e_var 1) a_nil)) (by show 2 ∉ ([] : List Nat); decide) (by show 2 < 4; decide))
  (s_cons (s_set 3 sc_walked.nd rfl (by first | exact Or.inl rfl | exact Or.inr rfl) (e_ix ix_seq (loc_ix) (e_var 0) (e_call [] rfl c_other_end.ok (hr.mono (by omega)) (by rfl) c_other_end.g c_other_end.kp c_other_end.b passN (a_cons (e_var 1) a_nil)) (fun _ _ => rfl)) (by show 3 ∉ ([] : List Nat); decide) (by show 3 < 4; decide))
  (s_cons (s_while PassesOwn.never (t_cmp (op_neD hr.units) (loc_ne) (e_var 3) (e_var 1)) (s_cons (s_expr (e_append [2] rfl (pe_bm PySem.F.plainAttrs_list PySem.F.slot_list_append PySem.F.type_list_append mt_append (e_var 2) (a_one (e_var 3)))))
  (s_one (s_set 3 sc_walked.nd rfl (by first | exact Or.inl rfl | exact Or.inr rfl) (e_ix ix_seq (loc_ix) (e_var 0) (e_call [] rfl c_other_end.ok (hr.mono (by omega)) (by rfl) c_other_end.g c_other_end.kp c_other_end.b passN (a_cons (e_var 3) a_nil)) (fun _ _ => rfl)) (by show 3 ∉ ([] : List Nat); decide) (by show 3 < 4; decide)))))
  (s_one (s_ret (e_var 2))))))⟩
abbrev s_rims_by : Stmt := top 23
theorem sc_rims_by : FnScope ["ahead", "found", "seen", "angle", "rim", "other"] ["ahead"] (defScope s_rims_by) := ⟨rfl, rfl, rfl, by decide +kernel, rfl, by decide +kernel, by decide +kernel⟩
def e1_rims_by (f_walked : List O → Rr) : MS := (msSetIx [2] [] [] (mC (.bl true)) (mVar 2) (mVar 5))
def e2_rims_by (f_walked : List O → Rr) : MS := (msIf (tmNot (mTest (m2 gIx [] (mVar 2) (mVar 3)))) (msSeq (msSet 4 (mCall [] 2 f_walked (mCons [] (mVar 0) (mCons [] (mVar 3) mNil))))
  (msSeq (msFor [5, 2] (setT [5]) (iSeq false (mVar 4)) (e1_rims_by f_walked))
  (msExpr (mAppend [1] [] (mVar 1) (mN gTupleOf (mCons [] (mVar 4) mNil)))))) msNil)
def b_rims_by (f_walked : List O → Rr) : MS := (msSeq (msSet 1 (mN gLst mNil))
  (msSeq (msSet 2 (m2 gMul [] (mN gLst (mCons [] (mC (.bl false)) mNil)) (mN gLen (mCons [] (mVar 0) mNil))))
  (msSeq (msFor [3, 4, 5, 2, 1] (setT [3]) (iRg1 (mCons [] (mN gLen (mCons [] (mVar 0) mNil)) mNil)) (e2_rims_by f_walked))
  (msRet (mVar 1)))))
theorem ok_rims_by {f : Addr} {fd : FuncData} {k : Nat} (T : Txt w K mg cl aS eS nS aI_BadBook) {f_walked : List O → Rr} {a_walked : Addr} {d_walked : FuncData} {k_walked : Nat} (l_walked : k_walked ≤ k) (c_walked : CalF P w K mg base k_walked "walked" ["ahead", "angle"] (spG K cl 2 f_walked) a_walked d_walked) (F : Fun K "rims_by" "rims_by" s_rims_by f fd) : FnOk P w K mg base CX0 (k + 1) f fd ["ahead"] (spG K cl 1 (runDef [] 5 (b_rims_by f_walked))) :=
  fn_def2 F sc_rims_by (by decide) fun cdv A outer s H E F0 H0 io vs hr => ⟨_, (s_cons (s_set 1 sc_rims_by.nd rfl (by first | exact Or.inl rfl | exact Or.inr rfl) (e_lst a_nil) (by show 1 ∉ ([] : List Nat); decide) (by show 1 < 6; decide))
  (s_cons (s_set 2 sc_rims_by.nd rfl (by first | exact Or.inl rfl | exact Or.inr rfl) (e_op op_mulAll (loc_mul) (e_lst (a_cons e_bl a_nil)) (e_cb (loc_len) (pe_callB call_len (by rfl) T.z_len rfl (a_cons (e_var 0) a_nil)))) (by show 2 ∉ ([] : List Nat); decide) (by show 2 < 6; decide))
  (s_cons (s_for PassesOwn.never rfl (tg_name (by show 3 < 6; decide) (by show 3 ∉ ([] : List Nat); decide)) (i_rg1 (pi_range1 (by rfl) T.z_range (a_cons (e_cb (loc_len) (pe_callB call_len (by rfl) T.z_len rfl (a_cons (e_var 0) a_nil))) a_nil))) (pg_name (i := 3) sc_rims_by.nd rfl (by first | exact Or.inl rfl | exact Or.inr rfl)) (s_one (s_if (t_not (t_val (e_ix ix_seq (loc_ix) (e_var 2) (e_var 3) (fun _ _ => rfl)))) (s_cons (s_set 4 sc_rims_by.nd rfl (by first | exact Or.inl rfl | exact Or.inr rfl) (e_call [] rfl c_walked.ok (hr.mono (by omega)) (by rfl) c_walked.g c_walked.kp c_walked.b passN (a_cons (e_var 0) (a_cons (e_var 3) a_nil))) (by show 4 ∉ ([] : List Nat); decide) (by show 4 < 6; decide))
  (s_cons (s_for PassesOwn.never rfl (tg_name (by show 5 < 6; decide) (by show 5 ∉ ([] : List Nat); decide)) (i_list rfl (e_var 4)) (pg_name (i := 5) sc_rims_by.nd rfl (by first | exact Or.inl rfl | exact Or.inr rfl)) (s_one (s_setIx [2] (ps_asg e_bl (pg_sub (e_var 2) (e_var 5) set_list)))))
  (s_one (s_expr (e_append [1] rfl (pe_bm PySem.F.plainAttrs_list PySem.F.slot_list_append PySem.F.type_list_append mt_append (e_var 1) (a_one (e_cb (loc_tupleOf) (pe_callTy call_tuple_ofF (by rfl) T.z_tuple rfl (a_cons (e_var 4) a_nil)))))))))) s_nil)))
  (s_one (s_ret (e_var 1))))))⟩
abbrev s_check_parts : Stmt := top 24
theorem sc_check_parts : FnScope ["places", "arrows", "rounds", "number", "arrow", "place", "ends"] ["places", "arrows", "rounds"] (defScope s_check_parts) := ⟨rfl, rfl, rfl, by decide +kernel, rfl, by decide +kernel, by decide +kernel⟩
def e1_check_parts (f_is_within : List O → Rr) (f_is_sized : List O → Rr) (f_is_arrow : List O → Rr) (f_is_round : List O → Rr) (f_ends_at : List O → Rr) (f_hang_together : List O → Rr) : MS := (msIf (tmNot (mTest (mCall [] 2 f_is_arrow (mCons [] (mVar 4) (mCons [] (mVar 0) mNil))))) msBad msNil)
def e2_check_parts (f_is_within : List O → Rr) (f_is_sized : List O → Rr) (f_is_arrow : List O → Rr) (f_is_round : List O → Rr) (f_ends_at : List O → Rr) (f_hang_together : List O → Rr) : MS := (msIf (tmNot (mTest (mCall [] 2 f_is_round (mCons [] (mVar 6) (mCons [] (mStl (mCall [] 2 f_ends_at (mCons [] (mVar 1) (mCons [] (mVar 5) mNil)))) mNil))))) msBad msNil)
def b_check_parts (f_is_within : List O → Rr) (f_is_sized : List O → Rr) (f_is_arrow : List O → Rr) (f_is_round : List O → Rr) (f_ends_at : List O → Rr) (f_hang_together : List O → Rr) : MS := (msSeq (msIf (tmNot (mTest (mCall [] 3 f_is_within (mCons [] (mVar 0) (mCons [] (mC (.int 1)) (mCons [] (mC (.int 40)) mNil)))))) msBad msNil)
  (msSeq (msIf (tmNot (mTest (mCall [] 3 f_is_sized (mCons [] (mVar 1) (mCons [] (mC (.int 1)) (mCons [] (mC (.int 80)) mNil)))))) msBad msNil)
  (msSeq (msFor [3, 4] (setTup [3, 4]) (iEnumM (mCons [] (mVar 1) mNil)) (e1_check_parts f_is_within f_is_sized f_is_arrow f_is_round f_ends_at f_hang_together))
  (msSeq (msIf (tmNot (mTest (mCall [] 3 f_is_sized (mCons [] (mVar 2) (mCons [] (mVar 0) (mCons [] (mVar 0) mNil)))))) msBad msNil)
  (msSeq (msFor [5, 6] (setTup [5, 6]) (iEnumM (mCons [] (mVar 2) mNil)) (e2_check_parts f_is_within f_is_sized f_is_arrow f_is_round f_ends_at f_hang_together))
  (msIf (tmNot (mTest (mCall [] 2 f_hang_together (mCons [] (mVar 0) (mCons [] (mVar 1) mNil))))) msBad msNil))))))
theorem ok_check_parts {f : Addr} {fd : FuncData} {k : Nat} (T : Txt w K mg cl aS eS nS aI_BadBook) {f_is_within : List O → Rr} {a_is_within : Addr} {d_is_within : FuncData} {k_is_within : Nat} (l_is_within : k_is_within ≤ k) (c_is_within : CalF P w K mg base k_is_within "is_within" ["thing", "least", "most"] (spG K cl 3 f_is_within) a_is_within d_is_within) {f_is_sized : List O → Rr} {a_is_sized : Addr} {d_is_sized : FuncData} {k_is_sized : Nat} (l_is_sized : k_is_sized ≤ k) (c_is_sized : CalF P w K mg base k_is_sized "is_sized" ["thing", "least", "most"] (spG K cl 3 f_is_sized) a_is_sized d_is_sized) {f_is_arrow : List O → Rr} {a_is_arrow : Addr} {d_is_arrow : FuncData} {k_is_arrow : Nat} (l_is_arrow : k_is_arrow ≤ k) (c_is_arrow : CalF P w K mg base k_is_arrow "is_arrow" ["thing", "places"] (spG K cl 2 f_is_arrow) a_is_arrow d_is_arrow) {f_is_round : List O → Rr} {a_is_round : Addr} {d_is_round : FuncData} {k_is_round : Nat} (l_is_round : k_is_round ≤ k) (c_is_round : CalF P w K mg base k_is_round "is_round" ["thing", "ends"] (spG K cl 2 f_is_round) a_is_round d_is_round) {f_ends_at : List O → Rr} {a_ends_at : Addr} {d_ends_at : FuncData} {k_ends_at : Nat} (l_ends_at : k_ends_at ≤ k) (c_ends_at : CalF P w K mg base k_ends_at "ends_at" ["arrows", "place"] (spG K cl 2 f_ends_at) a_ends_at d_ends_at) {f_hang_together : List O → Rr} {a_hang_together : Addr} {d_hang_together : FuncData} {k_hang_together : Nat} (l_hang_together : k_hang_together ≤ k) (c_hang_together : CalF P w K mg base k_hang_together "hang_together" ["places", "arrows"] (spG K cl 2 f_hang_together) a_hang_together d_hang_together) (F : Fun K "check_parts" "check_parts" s_check_parts f fd) : FnOk P w K mg base CX0 (k + 1) f fd ["places", "arrows", "rounds"] (spG K cl 3 (runDef [] 4 (b_check_parts f_is_within f_is_sized f_is_arrow f_is_round f_ends_at f_hang_together))) :=
  fn_def2 F sc_check_parts (by decide) fun cdv A outer s H E F0 H0 io vs hr => ⟨_, (s_cons (s_if (t_not (t_val (e_call [] rfl c_is_within.ok (hr.mono (by omega)) (by rfl) c_is_within.g c_is_within.kp c_is_within.b passN (a_cons (e_var 0) (a_cons e_int (a_cons (e_gint (by rfl) T.g_MOST_PLACES_charts) a_nil)))))) (s_one s_bad) s_nil)
  (s_cons (s_if (t_not (t_val (e_call [] rfl c_is_sized.ok (hr.mono (by omega)) (by rfl) c_is_sized.g c_is_sized.kp c_is_sized.b passN (a_cons (e_var 1) (a_cons e_int (a_cons (e_gint (by rfl) T.g_MOST_ARROWS) a_nil)))))) (s_one s_bad) s_nil)
  (s_cons (s_for PassesOwn.never rfl (tg_tup (is := [3, 4]) (n := 2) rfl (by show ∀ i ∈ ([3, 4] : List Nat), i < 7 ∧ i ∉ ([] : List Nat); decide)) (i_enum rfl (pi_enumG (by rfl) T.z_enumerate (a_cons (e_var 1) a_nil))) (pg_tup rfl (pgs_cons (pg_name (i := 3) sc_check_parts.nd rfl (by first | exact Or.inl rfl | exact Or.inr rfl)) (pgs_cons (pg_name (i := 4) sc_check_parts.nd rfl (by first | exact Or.inl rfl | exact Or.inr rfl)) pgs_nil))) (s_one (s_if (t_not (t_val (e_call [] rfl c_is_arrow.ok (hr.mono (by omega)) (by rfl) c_is_arrow.g c_is_arrow.kp c_is_arrow.b passN (a_cons (e_var 4) (a_cons (e_var 0) a_nil))))) (s_one s_bad) s_nil)))
  (s_cons (s_if (t_not (t_val (e_call [] rfl c_is_sized.ok (hr.mono (by omega)) (by rfl) c_is_sized.g c_is_sized.kp c_is_sized.b passN (a_cons (e_var 2) (a_cons (e_var 0) (a_cons (e_var 0) a_nil)))))) (s_one s_bad) s_nil)
  (s_cons (s_for PassesOwn.never rfl (tg_tup (is := [5, 6]) (n := 2) rfl (by show ∀ i ∈ ([5, 6] : List Nat), i < 7 ∧ i ∉ ([] : List Nat); decide)) (i_enum rfl (pi_enumG (by rfl) T.z_enumerate (a_cons (e_var 2) a_nil))) (pg_tup rfl (pgs_cons (pg_name (i := 5) sc_check_parts.nd rfl (by first | exact Or.inl rfl | exact Or.inr rfl)) (pgs_cons (pg_name (i := 6) sc_check_parts.nd rfl (by first | exact Or.inl rfl | exact Or.inr rfl)) pgs_nil))) (s_one (s_if (t_not (t_val (e_call [] rfl c_is_round.ok (hr.mono (by omega)) (by rfl) c_is_round.g c_is_round.kp c_is_round.b passN (a_cons (e_var 6) (a_cons (e_stl (e_call [] rfl c_ends_at.ok (hr.mono (by omega)) (by rfl) c_ends_at.g c_ends_at.kp c_ends_at.b passN (a_cons (e_var 1) (a_cons (e_var 5) a_nil)))) a_nil))))) (s_one s_bad) s_nil)))
  (s_one (s_if (t_not (t_val (e_call [] rfl c_hang_together.ok (hr.mono (by omega)) (by rfl) c_hang_together.g c_hang_together.kp c_hang_together.b passN (a_cons (e_var 0) (a_cons (e_var 1) a_nil))))) (s_one s_bad) s_nil)))))))⟩
abbrev s_Chart_keep : Stmt := inClass (top 25) 1
theorem sc_Chart_keep : FnScope ["self", "places", "arrows", "rounds", "outer", "prices", "ends", "number", "rim", "angle"] ["self", "places", "arrows", "rounds", "outer", "prices"] (defScope s_Chart_keep) := ⟨rfl, rfl, rfl, by decide +kernel, rfl, by decide +kernel, by decide +kernel⟩
def e1_Chart_keep (f_begun_least : List O → Rr) (f_befores : List O → Rr) (f_rims_by : List O → Rr) : ME := (mStl (mCall [] 1 f_begun_least (mCons [] (mVar 6) mNil)))
def e2_Chart_keep (f_begun_least : List O → Rr) (f_befores : List O → Rr) (f_rims_by : List O → Rr) : MS := (msSetIx [0] [] [] (mVar 7) (m1 (gAttr [1] "numbers") (mVar 0)) (mVar 9))
def e3_Chart_keep (f_begun_least : List O → Rr) (f_befores : List O → Rr) (f_rims_by : List O → Rr) : MS := (msFor [9, 0] (setT [9]) (iSeq true (mVar 8)) (e2_Chart_keep f_begun_least f_befores f_rims_by))
def b_Chart_keep (f_begun_least : List O → Rr) (f_befores : List O → Rr) (f_rims_by : List O → Rr) : MS := (msSeq (msSetAttr [0] [] [1] "places" (mVar 1) (mVar 0))
  (msSeq (msSetAttr [0] [] [1] "arrows" (mVar 2) (mVar 0))
  (msSeq (msSetAttr [0] [] [1] "rounds" (mN gTupleOf (mCons [] (mLc [6, 6] [6] (setT [6]) (iSeq true (mVar 3)) mYes (e1_Chart_keep f_begun_least f_befores f_rims_by)) mNil)) (mVar 0))
  (msSeq (msSetAttr [0] [] [1] "prices" (mVar 5) (mVar 0))
  (msSeq (msSetAttr [0] [] [1] "ahead" (mStl (mCall [] 2 f_befores (mCons [] (mVar 3) (mCons [] (m2 gMul [] (mC (.int 2)) (mN gLen (mCons [] (mVar 2) mNil))) mNil)))) (mVar 0))
  (msSeq (msSetAttr [0] [] [1] "all_rims" (mStl (mCall [] 1 f_rims_by (mCons [] (m1 (gAttr [1] "ahead") (mVar 0)) mNil))) (mVar 0))
  (msSeq (msSetAttr [0] [] [1] "numbers" (m2 gMul [] (mN gLst (mCons [] (mC (.int 0)) mNil)) (m2 gMul [] (mC (.int 2)) (mN gLen (mCons [] (mVar 2) mNil)))) (mVar 0))
  (msSeq (msFor [7, 8, 9, 0] (setTup [7, 8]) (iEnumM (mCons [] (m1 (gAttr [1] "all_rims") (mVar 0)) mNil)) (e3_Chart_keep f_begun_least f_befores f_rims_by))
  (msSetAttr [0] [] [1] "outer" (m2 gIx [] (m2 gIx [] (m1 (gAttr [1] "all_rims") (mVar 0)) (m2 gIx [] (m1 (gAttr [1] "numbers") (mVar 0)) (mVar 4))) (mC (.int 0))) (mVar 0))))))))))
theorem ok_Chart_keep {f : Addr} {fd : FuncData} {k : Nat} (T : Txt w K mg cl aS eS nS aI_BadBook) {f_begun_least : List O → Rr} {a_begun_least : Addr} {d_begun_least : FuncData} {k_begun_least : Nat} (l_begun_least : k_begun_least ≤ k) (c_begun_least : CalF P w K mg base k_begun_least "begun_least" ["items"] (spG K cl 1 f_begun_least) a_begun_least d_begun_least) {f_befores : List O → Rr} {a_befores : Addr} {d_befores : FuncData} {k_befores : Nat} (l_befores : k_befores ≤ k) (c_befores : CalF P w K mg base k_befores "befores" ["rounds", "many"] (spG K cl 2 f_befores) a_befores d_befores) {f_rims_by : List O → Rr} {a_rims_by : Addr} {d_rims_by : FuncData} {k_rims_by : Nat} (l_rims_by : k_rims_by ≤ k) (c_rims_by : CalF P w K mg base k_rims_by "rims_by" ["ahead"] (spG K cl 1 f_rims_by) a_rims_by d_rims_by) (F : Fun K "keep" "Chart.keep" s_Chart_keep f fd) : FnOk P w K mg base CX0 (k + 1) f fd ["self", "places", "arrows", "rounds", "outer", "prices"] (spG K cl 6 (runDef [0] 4 (b_Chart_keep f_begun_least f_befores f_rims_by))) :=
  fn_def2 F sc_Chart_keep (by decide) fun cdv A outer s H E F0 H0 io vs hr => ⟨_, (s_cons (s_setAttr [0] (cs := [1]) rfl (all1 T.n_Chart_places) (ps_fld (e_var 0) (e_var 1) rfl))
  (s_cons (s_setAttr [0] (cs := [1]) rfl (all1 T.n_Chart_arrows) (ps_fld (e_var 0) (e_var 2) rfl))
  (s_cons (s_setAttr [0] (cs := [1]) rfl (all1 T.n_Chart_rounds) (ps_fld (e_var 0) (e_cb (loc_tupleOf) (pe_callTy call_tuple_ofF (by rfl) T.z_tuple rfl (a_cons (e_lc (vs := [6]) (tg_name (by show 6 < 10; decide) (by show 6 ∉ ([0] : List Nat); decide)) (by decide) (by show ∀ i ∈ ([6] : List Nat), i ∉ ([0] : List Nat); decide) (pe_lc (own := [("ends", 6)]) rfl sc_Chart_keep.nd (i_tup rfl (e_var 3)) (blkOk_by (N := ["self", "places", "arrows", "rounds", "outer", "prices", "ends", "number", "rim", "angle"]) (sc := defScope s_Chart_keep) (by decide +kernel)) (fun _ _ _ _ _ => (pg_name (i := 6) sc_Chart_keep.nd rfl (by first | exact Or.inl rfl | exact Or.inr rfl))) (fun _ _ _ _ _ => ts_nil) (fun _ _ _ _ _ => (e_stl (e_call [] rfl c_begun_least.ok (hr.mono (by omega)) (by rfl) c_begun_least.g c_begun_least.kp c_begun_least.b passN (a_cons (e_var 6) a_nil)))))) a_nil))) rfl))
  (s_cons (s_setAttr [0] (cs := [1]) rfl (all1 T.n_Chart_prices) (ps_fld (e_var 0) (e_var 5) rfl))
  (s_cons (s_setAttr [0] (cs := [1]) rfl (all1 T.n_Chart_ahead) (ps_fld (e_var 0) (e_stl (e_call [] rfl c_befores.ok (hr.mono (by omega)) (by rfl) c_befores.g c_befores.kp c_befores.b passN (a_cons (e_var 3) (a_cons (e_op op_mulAll (loc_mul) e_int (e_cb (loc_len) (pe_callB call_len (by rfl) T.z_len rfl (a_cons (e_var 2) a_nil)))) a_nil)))) rfl))
  (s_cons (s_setAttr [0] (cs := [1]) rfl (all1 T.n_Chart_all_rims) (ps_fld (e_var 0) (e_stl (e_call [] rfl c_rims_by.ok (hr.mono (by omega)) (by rfl) c_rims_by.g c_rims_by.kp c_rims_by.b passN (a_cons (e_attr (cs := [1]) rfl (all1 T.n_Chart_ahead) (e_var 0) rfl) a_nil))) rfl))
  (s_cons (s_setAttr [0] (cs := [1]) rfl (all1 T.n_Chart_numbers) (ps_fld (e_var 0) (e_op op_mulAll (loc_mul) (e_lst (a_cons e_int a_nil)) (e_op op_mulAll (loc_mul) e_int (e_cb (loc_len) (pe_callB call_len (by rfl) T.z_len rfl (a_cons (e_var 2) a_nil))))) rfl))
  (s_cons (s_for PassesOwn.never rfl (tg_tup (is := [7, 8]) (n := 2) rfl (by show ∀ i ∈ ([7, 8] : List Nat), i < 10 ∧ i ∉ ([0] : List Nat); decide)) (i_enum rfl (pi_enumG (by rfl) T.z_enumerate (a_cons (e_attr (cs := [1]) rfl (all1 T.n_Chart_all_rims) (e_var 0) rfl) a_nil))) (pg_tup rfl (pgs_cons (pg_name (i := 7) sc_Chart_keep.nd rfl (by first | exact Or.inl rfl | exact Or.inr rfl)) (pgs_cons (pg_name (i := 8) sc_Chart_keep.nd rfl (by first | exact Or.inl rfl | exact Or.inr rfl)) pgs_nil))) (s_one (s_for PassesOwn.never rfl (tg_name (by show 9 < 10; decide) (by show 9 ∉ ([0] : List Nat); decide)) (i_tup rfl (e_var 8)) (pg_name (i := 9) sc_Chart_keep.nd rfl (by first | exact Or.inl rfl | exact Or.inr rfl)) (s_one (s_setIx [0] (ps_asg (e_var 7) (pg_sub (e_attr (cs := [1]) rfl (all1 T.n_Chart_numbers) (e_var 0) rfl) (e_var 9) set_list)))))))
  (s_one (s_setAttr [0] (cs := [1]) rfl (all1 T.n_Chart_outer) (ps_fld (e_var 0) (e_ix ix_seq (loc_ix) (e_ix ix_seq (loc_ix) (e_attr (cs := [1]) rfl (all1 T.n_Chart_all_rims) (e_var 0) rfl) (e_ix ix_seq (loc_ix) (e_attr (cs := [1]) rfl (all1 T.n_Chart_numbers) (e_var 0) rfl) (e_var 4) (fun _ _ => rfl)) (fun _ _ => rfl)) e_int (fun _ _ => rfl)) rfl)))))))))))⟩
abbrev s_Chart___init__ : Stmt := inClass (top 25) 0
theorem sc_Chart___init__ : FnScope ["self", "places", "arrows", "rounds", "outer", "prices", "price"] ["self", "places", "arrows", "rounds", "outer", "prices"] (defScope s_Chart___init__) := ⟨rfl, rfl, rfl, by decide +kernel, rfl, by decide +kernel, by decide +kernel⟩
def e1_Chart___init__ (f_check_parts : List O → Rr) (f_rims_by : List O → Rr) (f_befores : List O → Rr) (f_is_within : List O → Rr) (f_is_sized : List O → Rr) (f_is_price : List O → Rr) (f_Chart_keep : List O → Rr) : ME := (mStl (mCall [] 1 f_is_price (mCons [] (mVar 6) mNil)))
def b_Chart___init__ (f_check_parts : List O → Rr) (f_rims_by : List O → Rr) (f_befores : List O → Rr) (f_is_within : List O → Rr) (f_is_sized : List O → Rr) (f_is_price : List O → Rr) (f_Chart_keep : List O → Rr) : MS := (msSeq (msExpr (mCall [] 3 f_check_parts (mCons [] (mVar 1) (mCons [] (mVar 2) (mCons [] (mVar 3) mNil)))))
  (msSeq (msIf (mTest (m2 gNe [] (m2 gAdd [] (mVar 1) (mN gLen (mCons [] (mCall [] 1 f_rims_by (mCons [] (mStl (mCall [] 2 f_befores (mCons [] (mVar 3) (mCons [] (m2 gMul [] (mC (.int 2)) (mN gLen (mCons [] (mVar 2) mNil))) mNil)))) mNil)) mNil))) (m2 gAdd [] (mN gLen (mCons [] (mVar 2) mNil)) (mC (.int 2))))) msBad msNil)
  (msSeq (msIf (tmNot (mTest (mCall [] 3 f_is_within (mCons [] (mVar 4) (mCons [] (mC (.int 0)) (mCons [] (m2 (gI fun i j => .int (i - j)) [] (m2 gMul [] (mC (.int 2)) (mN gLen (mCons [] (mVar 2) mNil))) (mC (.int 1))) mNil)))))) msBad msNil)
  (msSeq (msIf (tmOr (tmNot (mTest (mCall [] 3 f_is_sized (mCons [] (mVar 5) (mCons [] (mN gLen (mCons [] (mVar 2) mNil)) (mCons [] (mN gLen (mCons [] (mVar 2) mNil)) mNil)))))) (tmNot (mTest (mN gAll (mCons [] (mLc [6, 6] [6] (setT [6]) (iSeq true (mVar 5)) mYes (e1_Chart___init__ f_check_parts f_rims_by f_befores f_is_within f_is_sized f_is_price f_Chart_keep)) mNil))))) msBad msNil)
  (msExpr (mMeth [0] [] 1 "keep" 6 f_Chart_keep (mSlot 0) (mCons [] (mVar 1) (mCons [] (mVar 2) (mCons [] (mVar 3) (mCons [] (mVar 4) (mCons [] (mVar 5) mNil)))))))))))
theorem ok_Chart___init__ {f : Addr} {fd : FuncData} {k : Nat} (T : Txt w K mg cl aS eS nS aI_BadBook) {f_check_parts : List O → Rr} {a_check_parts : Addr} {d_check_parts : FuncData} {k_check_parts : Nat} (l_check_parts : k_check_parts ≤ k) (c_check_parts : CalF P w K mg base k_check_parts "check_parts" ["places", "arrows", "rounds"] (spG K cl 3 f_check_parts) a_check_parts d_check_parts) {f_rims_by : List O → Rr} {a_rims_by : Addr} {d_rims_by : FuncData} {k_rims_by : Nat} (l_rims_by : k_rims_by ≤ k) (c_rims_by : CalF P w K mg base k_rims_by "rims_by" ["ahead"] (spG K cl 1 f_rims_by) a_rims_by d_rims_by) {f_befores : List O → Rr} {a_befores : Addr} {d_befores : FuncData} {k_befores : Nat} (l_befores : k_befores ≤ k) (c_befores : CalF P w K mg base k_befores "befores" ["rounds", "many"] (spG K cl 2 f_befores) a_befores d_befores) {f_is_within : List O → Rr} {a_is_within : Addr} {d_is_within : FuncData} {k_is_within : Nat} (l_is_within : k_is_within ≤ k) (c_is_within : CalF P w K mg base k_is_within "is_within" ["thing", "least", "most"] (spG K cl 3 f_is_within) a_is_within d_is_within) {f_is_sized : List O → Rr} {a_is_sized : Addr} {d_is_sized : FuncData} {k_is_sized : Nat} (l_is_sized : k_is_sized ≤ k) (c_is_sized : CalF P w K mg base k_is_sized "is_sized" ["thing", "least", "most"] (spG K cl 3 f_is_sized) a_is_sized d_is_sized) {f_is_price : List O → Rr} {a_is_price : Addr} {d_is_price : FuncData} {k_is_price : Nat} (l_is_price : k_is_price ≤ k) (c_is_price : CalF P w K mg base k_is_price "is_price" ["thing"] (spG K cl 1 f_is_price) a_is_price d_is_price) {f_Chart_keep : List O → Rr} {a_Chart_keep : Addr} {d_Chart_keep : FuncData} {k_Chart_keep : Nat} (l_Chart_keep : k_Chart_keep ≤ k) (c_Chart_keep : CalM P w K mg base k_Chart_keep (cl 1) "keep" ["self", "places", "arrows", "rounds", "outer", "prices"] (spG K cl 6 f_Chart_keep) a_Chart_keep d_Chart_keep) (F : Fun K "__init__" "Chart.__init__" s_Chart___init__ f fd) : FnOk P w K mg base CX0 (k + 1) f fd ["self", "places", "arrows", "rounds", "outer", "prices"] (spG K cl 6 (runDef [0] 1 (b_Chart___init__ f_check_parts f_rims_by f_befores f_is_within f_is_sized f_is_price f_Chart_keep))) :=
  fn_def2 F sc_Chart___init__ (by decide) fun cdv A outer s H E F0 H0 io vs hr => ⟨_, (s_cons (s_expr (e_call [] rfl c_check_parts.ok (hr.mono (by omega)) (by rfl) c_check_parts.g c_check_parts.kp c_check_parts.b passN (a_cons (e_var 1) (a_cons (e_var 2) (a_cons (e_var 3) a_nil)))))
  (s_cons (s_if (t_cmp (op_neD hr.units) (loc_ne) (e_op op_addAll loc_add (e_var 1) (e_cb (loc_len) (pe_callB call_len (by rfl) T.z_len rfl (a_cons (e_call [] rfl c_rims_by.ok (hr.mono (by omega)) (by rfl) c_rims_by.g c_rims_by.kp c_rims_by.b passN (a_cons (e_stl (e_call [] rfl c_befores.ok (hr.mono (by omega)) (by rfl) c_befores.g c_befores.kp c_befores.b passN (a_cons (e_var 3) (a_cons (e_op op_mulAll (loc_mul) e_int (e_cb (loc_len) (pe_callB call_len (by rfl) T.z_len rfl (a_cons (e_var 2) a_nil)))) a_nil)))) a_nil)) a_nil)))) (e_op op_addAll loc_add (e_cb (loc_len) (pe_callB call_len (by rfl) T.z_len rfl (a_cons (e_var 2) a_nil))) e_int)) (s_one s_bad) s_nil)
  (s_cons (s_if (t_not (t_val (e_call [] rfl c_is_within.ok (hr.mono (by omega)) (by rfl) c_is_within.g c_is_within.kp c_is_within.b passN (a_cons (e_var 4) (a_cons e_int (a_cons (e_op op_sub loc_sub (e_op op_mulAll (loc_mul) e_int (e_cb (loc_len) (pe_callB call_len (by rfl) T.z_len rfl (a_cons (e_var 2) a_nil)))) e_int) a_nil)))))) (s_one s_bad) s_nil)
  (s_cons (s_if (t_w (w_or (t_not (t_val (e_call [] rfl c_is_sized.ok (hr.mono (by omega)) (by rfl) c_is_sized.g c_is_sized.kp c_is_sized.b passN (a_cons (e_var 5) (a_cons (e_cb (loc_len) (pe_callB call_len (by rfl) T.z_len rfl (a_cons (e_var 2) a_nil))) (a_cons (e_cb (loc_len) (pe_callB call_len (by rfl) T.z_len rfl (a_cons (e_var 2) a_nil))) a_nil)))))) (w_or1 (t_not (t_val (e_cb (loc_all) (pe_callB (cr_all rfl) (by rfl) T.z_all rfl (a_cons (e_lc (vs := [6]) (tg_name (by show 6 < 7; decide) (by show 6 ∉ ([0] : List Nat); decide)) (by decide) (by show ∀ i ∈ ([6] : List Nat), i ∉ ([0] : List Nat); decide) (pe_lc (own := [("price", 6)]) rfl sc_Chart___init__.nd (i_tup rfl (e_var 5)) (blkOk_by (N := ["self", "places", "arrows", "rounds", "outer", "prices", "price"]) (sc := defScope s_Chart___init__) (by decide +kernel)) (fun _ _ _ _ _ => (pg_name (i := 6) sc_Chart___init__.nd rfl (by first | exact Or.inl rfl | exact Or.inr rfl))) (fun _ _ _ _ _ => ts_nil) (fun _ _ _ _ _ => (e_stl (e_call [] rfl c_is_price.ok (hr.mono (by omega)) (by rfl) c_is_price.g c_is_price.kp c_is_price.b passN (a_cons (e_var 6) a_nil)))))) a_nil)))))))) (s_one s_bad) s_nil)
  (s_one (s_expr (e_mth [0] 1 c_Chart_keep.c c_Chart_keep.m c_Chart_keep.ok (hr.mono (by omega)) c_Chart_keep.b passN (e_slot 0) (a_cons (e_var 1) (a_cons (e_var 2) (a_cons (e_var 3) (a_cons (e_var 4) (a_cons (e_var 5) a_nil))))))))))))⟩
abbrev s_Chart___eq__ : Stmt := inClass (top 25) 2
theorem sc_Chart___eq__ : FnScope ["self", "other"] ["self", "other"] (defScope s_Chart___eq__) := ⟨rfl, rfl, rfl, by decide +kernel, rfl, by decide +kernel, by decide +kernel⟩
def b_Chart___eq__ : MS := (msSeq (msIf (tmOr (tmNot (mTest (mN (gIsiX [0, 1]) (mCons [] (mVar 1) (mCons [] (mC (.cls 1)) mNil))))) (tmOr (mTest (m2 gNe [] (m1 (gAttr [1] "places") (mVar 0)) (m1 (gAttr [1] "places") (mVar 1)))) (mTest (m2 gNe [] (m1 (gAttr [1] "arrows") (mVar 0)) (m1 (gAttr [1] "arrows") (mVar 1)))))) (msRet (mC (.bl false))) msNil)
  (msRet (m2 gEq [] (mN gTup (mCons [] (m1 (gAttr [1] "rounds") (mVar 0)) (mCons [] (m1 (gAttr [1] "outer") (mVar 0)) (mCons [] (m1 (gAttr [1] "prices") (mVar 0)) mNil)))) (mN gTup (mCons [] (m1 (gAttr [1] "rounds") (mVar 1)) (mCons [] (m1 (gAttr [1] "outer") (mVar 1)) (mCons [] (m1 (gAttr [1] "prices") (mVar 1)) mNil)))))))
theorem ok_Chart___eq__ {f : Addr} {fd : FuncData} {k : Nat} (T : Txt w K mg cl aS eS nS aI_BadBook)  (F : Fun K "__eq__" "Chart.__eq__" s_Chart___eq__ f fd) : FnOk P w K mg base CX0 (k + 1) f fd ["self", "other"] (spG K cl 2 (runDef [] 0 (b_Chart___eq__))) :=
  fn_def2 F sc_Chart___eq__ (by decide) fun cdv A outer s H E F0 H0 io vs hr => ⟨_, (s_cons (s_if (t_w (w_or (t_not (t_val (e_cb (loc_isiX T.own) (pe_callB call_isi (by rfl) T.z_isinstance rfl (a_cons (e_var 1) (a_cons (e_own (by rfl) T.c_Chart) a_nil)))))) (w_or (t_cmp (op_neD hr.units) (loc_ne) (e_attr (cs := [1]) rfl (all1 T.n_Chart_places) (e_var 0) rfl) (e_attr (cs := [1]) rfl (all1 T.n_Chart_places) (e_var 1) rfl)) (w_or1 (t_cmp (op_neD hr.units) (loc_ne) (e_attr (cs := [1]) rfl (all1 T.n_Chart_arrows) (e_var 0) rfl) (e_attr (cs := [1]) rfl (all1 T.n_Chart_arrows) (e_var 1) rfl)))))) (s_one (s_ret e_bl)) s_nil)
  (s_one (s_ret (e_cmp (op_eqD hr.units) (loc_eq) (e_tup (a_cons (e_attr (cs := [1]) rfl (all1 T.n_Chart_rounds) (e_var 0) rfl) (a_cons (e_attr (cs := [1]) rfl (all1 T.n_Chart_outer) (e_var 0) rfl) (a_cons (e_attr (cs := [1]) rfl (all1 T.n_Chart_prices) (e_var 0) rfl) a_nil)))) (e_tup (a_cons (e_attr (cs := [1]) rfl (all1 T.n_Chart_rounds) (e_var 1) rfl) (a_cons (e_attr (cs := [1]) rfl (all1 T.n_Chart_outer) (e_var 1) rfl) (a_cons (e_attr (cs := [1]) rfl (all1 T.n_Chart_prices) (e_var 1) rfl) a_nil))))))))⟩
abbrev s_is_sum : Stmt := top 40
theorem sc_is_sum : FnScope ["thing", "cells", "item"] ["thing", "cells"] (defScope s_is_sum) := ⟨rfl, rfl, rfl, by decide +kernel, rfl, by decide +kernel, by decide +kernel⟩
def e1_is_sum (f_is_within : List O → Rr) : ME := (mStl (mCall [] 3 f_is_within (mCons [] (mVar 2) (mCons [] (m1 gNeg (mC (.int 1000))) (mCons [] (mC (.int 1000)) mNil)))))
def b_is_sum (f_is_within : List O → Rr) : MS := (msSeq (msIf (tmOr (tmNot (mTest (mN (gIsiX [0, 1]) (mCons [] (mVar 0) (mCons [] (mC (.ty "tuple")) mNil))))) (mTest (m2 gNe [] (mN gLen (mCons [] (mVar 0) mNil)) (m2 gAdd [] (mVar 1) (mC (.int 1)))))) (msRet (mC (.bl false))) msNil)
  (msRet (mN gAll (mCons [] (mLc [2, 2] [2] (setT [2]) (iSeq true (mVar 0)) mYes (e1_is_sum f_is_within)) mNil))))
theorem ok_is_sum {f : Addr} {fd : FuncData} {k : Nat} (T : Txt w K mg cl aS eS nS aI_BadBook) {f_is_within : List O → Rr} {a_is_within : Addr} {d_is_within : FuncData} {k_is_within : Nat} (l_is_within : k_is_within ≤ k) (c_is_within : CalF P w K mg base k_is_within "is_within" ["thing", "least", "most"] (spG K cl 3 f_is_within) a_is_within d_is_within) (F : Fun K "is_sum" "is_sum" s_is_sum f fd) : FnOk P w K mg base CX0 (k + 1) f fd ["thing", "cells"] (spG K cl 2 (runDef [] 1 (b_is_sum f_is_within))) :=
  fn_def2 F sc_is_sum (by decide) fun cdv A outer s H E F0 H0 io vs hr => ⟨_, (s_cons (s_if (t_w (w_or (t_not (t_val (e_cb (loc_isiX T.own) (pe_callB call_isi (by rfl) T.z_isinstance rfl (a_cons (e_var 0) (a_cons (e_ty (by rfl) T.z_tuple rfl) a_nil)))))) (w_or1 (t_cmp (op_neD hr.units) (loc_ne) (e_cb (loc_len) (pe_callB call_len (by rfl) T.z_len rfl (a_cons (e_var 0) a_nil))) (e_op op_addAll loc_add (e_var 1) e_int))))) (s_one (s_ret e_bl)) s_nil)
  (s_one (s_ret (e_cb (loc_all) (pe_callB (cr_all rfl) (by rfl) T.z_all rfl (a_cons (e_lc (vs := [2]) (tg_name (by show 2 < 3; decide) (by show 2 ∉ ([] : List Nat); decide)) (by decide) (by show ∀ i ∈ ([2] : List Nat), i ∉ ([] : List Nat); decide) (pe_lc (own := [("item", 2)]) rfl sc_is_sum.nd (i_tup rfl (e_var 0)) (blkOk_by (N := ["thing", "cells", "item"]) (sc := defScope s_is_sum) (by decide +kernel)) (fun _ _ _ _ _ => (pg_name (i := 2) sc_is_sum.nd rfl (by first | exact Or.inl rfl | exact Or.inr rfl))) (fun _ _ _ _ _ => ts_nil) (fun _ _ _ _ _ => (e_stl (e_call [] rfl c_is_within.ok (hr.mono (by omega)) (by rfl) c_is_within.g c_is_within.kp c_is_within.b passN (a_cons (e_var 2) (a_cons (e_un un_neg loc_neg (e_gint (by rfl) T.g_MOST_MULTIPLE)) (a_cons (e_gint (by rfl) T.g_MOST_MULTIPLE) a_nil)))))))) a_nil))))))⟩
abbrev s_is_test : Stmt := top 41
theorem sc_is_test : FnScope ["thing", "cells"] ["thing", "cells"] (defScope s_is_test) := ⟨rfl, rfl, rfl, by decide +kernel, rfl, by decide +kernel, by decide +kernel⟩
def b_is_test (f_is_sum : List O → Rr) : MS := (msSeq (msIf (tmOr (tmNot (mTest (mN (gIsiX [0, 1]) (mCons [] (mVar 0) (mCons [] (mC (.ty "tuple")) mNil))))) (tmOr (mTest (m2 gNe [] (mN gLen (mCons [] (mVar 0) mNil)) (mC (.int 3)))) (tmNot (mTest (mN (gIsiX [0, 1]) (mCons [] (m2 gIx [] (mVar 0) (mC (.int 0))) (mCons [] (mC (.ty "str")) mNil))))))) (msRet (mC (.bl false))) msNil)
  (msRet (mAnd (m2 (gIn false) [] (m2 gIx [] (mVar 0) (mC (.int 0))) (mN gTup (mCons [] (mC (.str "less")) (mCons [] (mC (.str "same")) mNil)))) (mAnd (mCall [] 2 f_is_sum (mCons [] (m2 gIx [] (mVar 0) (mC (.int 1))) (mCons [] (mVar 1) mNil))) (mCall [] 2 f_is_sum (mCons [] (m2 gIx [] (mVar 0) (mC (.int 2))) (mCons [] (mVar 1) mNil)))))))
theorem ok_is_test {f : Addr} {fd : FuncData} {k : Nat} (T : Txt w K mg cl aS eS nS aI_BadBook) {f_is_sum : List O → Rr} {a_is_sum : Addr} {d_is_sum : FuncData} {k_is_sum : Nat} (l_is_sum : k_is_sum ≤ k) (c_is_sum : CalF P w K mg base k_is_sum "is_sum" ["thing", "cells"] (spG K cl 2 f_is_sum) a_is_sum d_is_sum) (F : Fun K "is_test" "is_test" s_is_test f fd) : FnOk P w K mg base CX0 (k + 1) f fd ["thing", "cells"] (spG K cl 2 (runDef [] 0 (b_is_test f_is_sum))) :=
  fn_def2 F sc_is_test (by decide) fun cdv A outer s H E F0 H0 io vs hr => ⟨_, (s_cons (s_if (t_w (w_or (t_not (t_val (e_cb (loc_isiX T.own) (pe_callB call_isi (by rfl) T.z_isinstance rfl (a_cons (e_var 0) (a_cons (e_ty (by rfl) T.z_tuple rfl) a_nil)))))) (w_or (t_cmp (op_neD hr.units) (loc_ne) (e_cb (loc_len) (pe_callB call_len (by rfl) T.z_len rfl (a_cons (e_var 0) a_nil))) e_int) (w_or1 (t_not (t_val (e_cb (loc_isiX T.own) (pe_callB call_isi (by rfl) T.z_isinstance rfl (a_cons (e_ix ix_seq (loc_ix) (e_var 0) e_int (fun _ _ => rfl)) (a_cons (e_ty (by rfl) T.z_str rfl) a_nil)))))))))) (s_one (s_ret e_bl)) s_nil)
  (s_one (s_ret (e_and (e_cmp op_in_seq (loc_in) (e_ix ix_seq (loc_ix) (e_var 0) e_int (fun _ _ => rfl)) (e_tup (a_cons (e_gstr (by rfl) T.g_LESS) (a_cons (e_gstr (by rfl) T.g_SAME) a_nil)))) (e_and (e_call [] rfl c_is_sum.ok (hr.mono (by omega)) (by rfl) c_is_sum.g c_is_sum.kp c_is_sum.b passN (a_cons (e_ix ix_seq (loc_ix) (e_var 0) e_int (fun _ _ => rfl)) (a_cons (e_var 1) a_nil))) (e_one (e_call [] rfl c_is_sum.ok (hr.mono (by omega)) (by rfl) c_is_sum.g c_is_sum.kp c_is_sum.b passN (a_cons (e_ix ix_seq (loc_ix) (e_var 0) e_int (fun _ _ => rfl)) (a_cons (e_var 1) a_nil)))))))))⟩
abbrev s_statement_size : Stmt := top 42
theorem sc_statement_size : FnScope ["thing", "cells", "routines", "deep", "word", "sizes", "body"] ["thing", "cells", "routines", "deep"] (defScope s_statement_size) := ⟨rfl, rfl, rfl, by decide +kernel, rfl, by decide +kernel, by decide +kernel⟩
def e1_statement_size (f_is_within : List O → Rr) (f_is_sum : List O → Rr) (f_is_test : List O → Rr) (f_body_size : List O → Rr) : ME := (mStl (mCall [] 4 f_body_size (mCons [] (mVar 6) (mCons [] (mVar 1) (mCons [] (mVar 2) (mCons [] (mStl (m2 gAdd [] (mVar 3) (mC (.int 1)))) mNil))))))
def b_statement_size (f_is_within : List O → Rr) (f_is_sum : List O → Rr) (f_is_test : List O → Rr) (f_body_size : List O → Rr) : MS := (msSeq (msIf (tmOr (tmNot (mTest (mN (gIsiX [0, 1]) (mCons [] (mVar 0) (mCons [] (mC (.ty "tuple")) mNil))))) (tmOr (mTest (m2 gEq [] (mN gLen (mCons [] (mVar 0) mNil)) (mC (.int 0)))) (tmNot (mTest (mN (gIsiX [0, 1]) (mCons [] (m2 gIx [] (mVar 0) (mC (.int 0))) (mCons [] (mC (.ty "str")) mNil))))))) (msRet (mC .non)) msNil)
  (msSeq (msSet 4 (m2 gIx [] (mVar 0) (mC (.int 0))))
  (msSeq (msIf (mTest (m2 gNe [] (mKGet tab_SIZES (mVar 4) (mC (.int 0))) (mN gLen (mCons [] (mVar 0) mNil)))) (msRet (mC .non)) msNil)
  (msSeq (msIf (mTest (m2 gEq [] (mVar 4) (mC (.str "set")))) (msRet (mIf (tmAnd (mTest (mCall [] 3 f_is_within (mCons [] (m2 gIx [] (mVar 0) (mC (.int 1))) (mCons [] (mC (.int 0)) (mCons [] (m2 (gI fun i j => .int (i - j)) [] (mVar 1) (mC (.int 1))) mNil))))) (mTest (mCall [] 2 f_is_sum (mCons [] (m2 gIx [] (mVar 0) (mC (.int 2))) (mCons [] (mVar 1) mNil))))) (mC (.int 1)) (mC .non))) msNil)
  (msSeq (msIf (mTest (m2 gEq [] (mVar 4) (mC (.str "say")))) (msRet (mIf (mTest (mCall [] 2 f_is_sum (mCons [] (m2 gIx [] (mVar 0) (mC (.int 1))) (mCons [] (mVar 1) mNil)))) (mC (.int 1)) (mC .non))) msNil)
  (msSeq (msIf (mTest (m2 gEq [] (mVar 4) (mC (.str "call")))) (msRet (mIf (mTest (mCall [] 3 f_is_within (mCons [] (m2 gIx [] (mVar 0) (mC (.int 1))) (mCons [] (mC (.int 0)) (mCons [] (m2 (gI fun i j => .int (i - j)) [] (mVar 2) (mC (.int 1))) mNil))))) (mC (.int 1)) (mC .non))) msNil)
  (msSeq (msIf (tmNot (mTest (mCall [] 2 f_is_test (mCons [] (m2 gIx [] (mVar 0) (mC (.int 1))) (mCons [] (mVar 1) mNil))))) (msRet (mC .non)) msNil)
  (msSeq (msSet 5 (mLc [6, 6] [6] (setT [6]) (iSeq true (mStl (mSl [] (mVar 0) (oSome (mC (.int 2))) oNone))) mYes (e1_statement_size f_is_within f_is_sum f_is_test f_body_size)))
  (msRet (mIf (mTest (m2 (gIn false) [] (mC .non) (mVar 5))) (mC .non) (m2 gAdd [] (mN gLen (mCons [] (mVar 5) mNil)) (mN gSum (mCons [] (mVar 5) mNil)))))))))))))
theorem ok_statement_size {f : Addr} {fd : FuncData} {k : Nat} (T : Txt w K mg cl aS eS nS aI_BadBook) {f_is_within : List O → Rr} {a_is_within : Addr} {d_is_within : FuncData} {k_is_within : Nat} (l_is_within : k_is_within ≤ k) (c_is_within : CalF P w K mg base k_is_within "is_within" ["thing", "least", "most"] (spG K cl 3 f_is_within) a_is_within d_is_within) {f_is_sum : List O → Rr} {a_is_sum : Addr} {d_is_sum : FuncData} {k_is_sum : Nat} (l_is_sum : k_is_sum ≤ k) (c_is_sum : CalF P w K mg base k_is_sum "is_sum" ["thing", "cells"] (spG K cl 2 f_is_sum) a_is_sum d_is_sum) {f_is_test : List O → Rr} {a_is_test : Addr} {d_is_test : FuncData} {k_is_test : Nat} (l_is_test : k_is_test ≤ k) (c_is_test : CalF P w K mg base k_is_test "is_test" ["thing", "cells"] (spG K cl 2 f_is_test) a_is_test d_is_test) {f_body_size : List O → Rr} {a_body_size : Addr} {d_body_size : FuncData} {k_body_size : Nat} (l_body_size : k_body_size ≤ k) (c_body_size : CalF P w K mg base k_body_size "body_size" ["thing", "cells", "routines", "deep"] (spG K cl 4 f_body_size) a_body_size d_body_size) (F : Fun K "statement_size" "statement_size" s_statement_size f fd) : FnOk P w K mg base CX0 (k + 1) f fd ["thing", "cells", "routines", "deep"] (spG K cl 4 (runDef [] 3 (b_statement_size f_is_within f_is_sum f_is_test f_body_size))) :=
  fn_def2 F sc_statement_size (by decide) fun cdv A outer s H E F0 H0 io vs hr => ⟨_, (s_cons (s_if (t_w (w_or (t_not (t_val (e_cb (loc_isiX T.own) (pe_callB call_isi (by rfl) T.z_isinstance rfl (a_cons (e_var 0) (a_cons (e_ty (by rfl) T.z_tuple rfl) a_nil)))))) (w_or (t_cmp (op_eqD hr.units) (loc_eq) (e_cb (loc_len) (pe_callB call_len (by rfl) T.z_len rfl (a_cons (e_var 0) a_nil))) e_int) (w_or1 (t_not (t_val (e_cb (loc_isiX T.own) (pe_callB call_isi (by rfl) T.z_isinstance rfl (a_cons (e_ix ix_seq (loc_ix) (e_var 0) e_int (fun _ _ => rfl)) (a_cons (e_ty (by rfl) T.z_str rfl) a_nil)))))))))) (s_one (s_ret e_non)) s_nil)
  (s_cons (s_set 4 sc_statement_size.nd rfl (by first | exact Or.inl rfl | exact Or.inr rfl) (e_ix ix_seq (loc_ix) (e_var 0) e_int (fun _ _ => rfl)) (by show 4 ∉ ([] : List Nat); decide) (by show 4 < 7; decide))
  (s_cons (s_if (t_cmp (op_neD hr.units) (loc_ne) (e_kget T.k_SIZES rfl (pe_kget T.d_SIZES (by rfl) T.m_SIZES (e_var 4) e_int ⟨rfl, rfl, rfl, rfl⟩)) (e_cb (loc_len) (pe_callB call_len (by rfl) T.z_len rfl (a_cons (e_var 0) a_nil)))) (s_one (s_ret e_non)) s_nil)
  (s_cons (s_if (t_cmp (op_eqD hr.units) (loc_eq) (e_var 4) (e_gstr (by rfl) T.g_SET)) (s_one (s_ret (e_if (t_w (w_and (t_val (e_call [] rfl c_is_within.ok (hr.mono (by omega)) (by rfl) c_is_within.g c_is_within.kp c_is_within.b passN (a_cons (e_ix ix_seq (loc_ix) (e_var 0) e_int (fun _ _ => rfl)) (a_cons e_int (a_cons (e_op op_sub loc_sub (e_var 1) e_int) a_nil))))) (w_and1 (t_val (e_call [] rfl c_is_sum.ok (hr.mono (by omega)) (by rfl) c_is_sum.g c_is_sum.kp c_is_sum.b passN (a_cons (e_ix ix_seq (loc_ix) (e_var 0) e_int (fun _ _ => rfl)) (a_cons (e_var 1) a_nil))))))) e_int e_non))) s_nil)
  (s_cons (s_if (t_cmp (op_eqD hr.units) (loc_eq) (e_var 4) (e_gstr (by rfl) T.g_SAY)) (s_one (s_ret (e_if (t_val (e_call [] rfl c_is_sum.ok (hr.mono (by omega)) (by rfl) c_is_sum.g c_is_sum.kp c_is_sum.b passN (a_cons (e_ix ix_seq (loc_ix) (e_var 0) e_int (fun _ _ => rfl)) (a_cons (e_var 1) a_nil)))) e_int e_non))) s_nil)
  (s_cons (s_if (t_cmp (op_eqD hr.units) (loc_eq) (e_var 4) (e_gstr (by rfl) T.g_CALL)) (s_one (s_ret (e_if (t_val (e_call [] rfl c_is_within.ok (hr.mono (by omega)) (by rfl) c_is_within.g c_is_within.kp c_is_within.b passN (a_cons (e_ix ix_seq (loc_ix) (e_var 0) e_int (fun _ _ => rfl)) (a_cons e_int (a_cons (e_op op_sub loc_sub (e_var 2) e_int) a_nil))))) e_int e_non))) s_nil)
  (s_cons (s_if (t_not (t_val (e_call [] rfl c_is_test.ok (hr.mono (by omega)) (by rfl) c_is_test.g c_is_test.kp c_is_test.b passN (a_cons (e_ix ix_seq (loc_ix) (e_var 0) e_int (fun _ _ => rfl)) (a_cons (e_var 1) a_nil))))) (s_one (s_ret e_non)) s_nil)
  (s_cons (s_setLc (vs := [6]) (tg_name (by show 6 < 7; decide) (by show 6 ∉ ([] : List Nat); decide)) (by decide) (by show ∀ i ∈ ([6] : List Nat), i ∉ ([] : List Nat); decide) (by show 5 < 7; decide) (by show 5 ∉ ([] : List Nat); decide) (ps_setLc (i := 5) (own := [("body", 6)]) rfl sc_statement_size.nd rfl rfl (sw_true rfl rfl rfl (by decide +kernel)) (i_tup rfl (e_stl (e_sl rfl (e_var 0) (o_some e_int) o_none))) (blkOk_by (N := ["thing", "cells", "routines", "deep", "word", "sizes", "body"]) (sc := defScope s_statement_size) (by decide +kernel)) (fun _ _ _ _ _ => (pg_name (i := 6) sc_statement_size.nd rfl (by first | exact Or.inl rfl | exact Or.inr rfl))) (fun _ _ _ _ _ => ts_nil) (fun _ _ _ _ _ => (e_stl (e_call [] rfl c_body_size.ok (hr.mono (by omega)) (by rfl) c_body_size.g c_body_size.kp c_body_size.b passN (a_cons (e_var 6) (a_cons (e_var 1) (a_cons (e_var 2) (a_cons (e_stl (e_op op_addAll loc_add (e_var 3) e_int)) a_nil)))))))))
  (s_one (s_ret (e_if (t_cmp op_in_seq (loc_in) e_non (e_var 5)) e_non (e_op op_addAll loc_add (e_cb (loc_len) (pe_callB call_len (by rfl) T.z_len rfl (a_cons (e_var 5) a_nil))) (e_cb (loc_sum) (pe_callB (cr_sum rfl) (by rfl) T.z_sum rfl (a_cons (e_var 5) a_nil)))))))))))))))⟩
abbrev s_body_size : Stmt := top 43
theorem sc_body_size : FnScope ["thing", "cells", "routines", "deep", "found", "statement", "size"] ["thing", "cells", "routines", "deep"] (defScope s_body_size) := ⟨rfl, rfl, rfl, by decide +kernel, rfl, by decide +kernel, by decide +kernel⟩
def e1_body_size (f_statement_size : List O → Rr) : MS := (msSeq (msSet 6 (mCall [] 4 f_statement_size (mCons [] (mVar 5) (mCons [] (mVar 1) (mCons [] (mVar 2) (mCons [] (mVar 3) mNil))))))
  (msSeq (msIf (mTest (m2 (gIs false) [] (mVar 6) (mC .non))) (msRet (mC .non)) msNil)
  (msAug 4 (gI fun i j => .int (i + j)) (mVar 6))))
def b_body_size (f_statement_size : List O → Rr) : MS := (msSeq (msIf (tmOr (mTest (m2 (gI fun i j => .bl (decide (j < i))) [] (mVar 3) (mC (.int 8)))) (tmNot (mTest (mN (gIsiX [0, 1]) (mCons [] (mVar 0) (mCons [] (mC (.ty "tuple")) mNil)))))) (msRet (mC .non)) msNil)
  (msSeq (msSet 4 (mC (.int 0)))
  (msSeq (msFor [5, 6, 4] (setT [5]) (iSeq true (mVar 0)) (e1_body_size f_statement_size))
  (msRet (mVar 4)))))
theorem ok_body_size {f : Addr} {fd : FuncData} {k : Nat} (T : Txt w K mg cl aS eS nS aI_BadBook) {f_statement_size : List O → Rr} {a_statement_size : Addr} {d_statement_size : FuncData} {k_statement_size : Nat} (l_statement_size : k_statement_size ≤ k) (c_statement_size : CalF P w K mg base k_statement_size "statement_size" ["thing", "cells", "routines", "deep"] (spG K cl 4 f_statement_size) a_statement_size d_statement_size) (F : Fun K "body_size" "body_size" s_body_size f fd) : FnOk P w K mg base CX0 (k + 1) f fd ["thing", "cells", "routines", "deep"] (spG K cl 4 (runDef [] 3 (b_body_size f_statement_size))) :=
  fn_def2 F sc_body_size (by decide) fun cdv A outer s H E F0 H0 io vs hr => ⟨_, (s_cons (s_if (t_w (w_or (t_cmp op_gt loc_gt (e_var 3) (e_gint (by rfl) T.g_MOST_DEEP)) (w_or1 (t_not (t_val (e_cb (loc_isiX T.own) (pe_callB call_isi (by rfl) T.z_isinstance rfl (a_cons (e_var 0) (a_cons (e_ty (by rfl) T.z_tuple rfl) a_nil))))))))) (s_one (s_ret e_non)) s_nil)
  (s_cons (s_set 4 sc_body_size.nd rfl (by first | exact Or.inl rfl | exact Or.inr rfl) e_int (by show 4 ∉ ([] : List Nat); decide) (by show 4 < 7; decide))
  (s_cons (s_for PassesOwn.never rfl (tg_name (by show 5 < 7; decide) (by show 5 ∉ ([] : List Nat); decide)) (i_tup rfl (e_var 0)) (pg_name (i := 5) sc_body_size.nd rfl (by first | exact Or.inl rfl | exact Or.inr rfl)) (s_cons (s_set 6 sc_body_size.nd rfl (by first | exact Or.inl rfl | exact Or.inr rfl) (e_call [] rfl c_statement_size.ok (hr.mono (by omega)) (by rfl) c_statement_size.g c_statement_size.kp c_statement_size.b passN (a_cons (e_var 5) (a_cons (e_var 1) (a_cons (e_var 2) (a_cons (e_var 3) a_nil))))) (by show 6 ∉ ([] : List Nat); decide) (by show 6 < 7; decide))
  (s_cons (s_if (t_cmp op_isN loc_is (e_var 6) e_non) (s_one (s_ret e_non)) s_nil)
  (s_one (s_aug 4 loc_ipadd (by show 4 < 7; decide) (by show 4 ∉ ([] : List Nat); decide) (ps_aug (i := 4) sc_body_size.nd rfl (by first | exact Or.inl rfl | exact Or.inr rfl) (e_var 6) ip_add))))))
  (s_one (s_ret (e_var 4))))))⟩
abbrev s_wrong_part : Stmt := top 44
theorem sc_wrong_part : FnScope ["cells", "routines", "number", "body", "size"] ["cells", "routines"] (defScope s_wrong_part) := ⟨rfl, rfl, rfl, by decide +kernel, rfl, by decide +kernel, by decide +kernel⟩
def e1_wrong_part (f_is_within : List O → Rr) (f_body_size : List O → Rr) : MS := (msSeq (msSet 4 (mCall [] 4 f_body_size (mCons [] (mVar 3) (mCons [] (mVar 0) (mCons [] (mN gLen (mCons [] (mVar 1) mNil)) (mCons [] (mC (.int 1)) mNil))))))
  (msIf (tmOr (mTest (m2 (gIs false) [] (mVar 4) (mC .non))) (mTest (m2 (gI fun i j => .bl (decide (j < i))) [] (m2 gAdd [] (mVar 4) (mC (.int 2))) (mC (.int 40))))) (msRet (mN gTup (mCons [] (mC (.str "routine")) (mCons [] (mVar 2) mNil)))) msNil))
def b_wrong_part (f_is_within : List O → Rr) (f_body_size : List O → Rr) : MS := (msSeq (msIf (tmNot (mTest (mCall [] 3 f_is_within (mCons [] (mVar 0) (mCons [] (mC (.int 1)) (mCons [] (mC (.int 4)) mNil)))))) (msRet (mN gTup (mCons [] (mC (.str "cells")) mNil))) msNil)
  (msSeq (msIf (tmOr (tmNot (mTest (mN (gIsiX [0, 1]) (mCons [] (mVar 1) (mCons [] (mC (.ty "tuple")) mNil))))) (tmNot (mTest (mChain (gI fun i j => .bl (decide (i ≤ j))) (gI fun i j => .bl (decide (i ≤ j))) (mC (.int 1)) (mN gLen (mCons [] (mVar 1) mNil)) (mC (.int 5)))))) (msRet (mN gTup (mCons [] (mC (.str "routines")) mNil))) msNil)
  (msSeq (msFor [2, 3, 4] (setTup [2, 3]) (iEnumM (mCons [] (mVar 1) mNil)) (e1_wrong_part f_is_within f_body_size))
  (msRet (mC .non)))))
theorem ok_wrong_part {f : Addr} {fd : FuncData} {k : Nat} (T : Txt w K mg cl aS eS nS aI_BadBook) {f_is_within : List O → Rr} {a_is_within : Addr} {d_is_within : FuncData} {k_is_within : Nat} (l_is_within : k_is_within ≤ k) (c_is_within : CalF P w K mg base k_is_within "is_within" ["thing", "least", "most"] (spG K cl 3 f_is_within) a_is_within d_is_within) {f_body_size : List O → Rr} {a_body_size : Addr} {d_body_size : FuncData} {k_body_size : Nat} (l_body_size : k_body_size ≤ k) (c_body_size : CalF P w K mg base k_body_size "body_size" ["thing", "cells", "routines", "deep"] (spG K cl 4 f_body_size) a_body_size d_body_size) (F : Fun K "wrong_part" "wrong_part" s_wrong_part f fd) : FnOk P w K mg base CX0 (k + 1) f fd ["cells", "routines"] (spG K cl 2 (runDef [] 3 (b_wrong_part f_is_within f_body_size))) :=
  fn_def2 F sc_wrong_part (by decide) fun cdv A outer s H E F0 H0 io vs hr => ⟨_, (s_cons (s_if (t_not (t_val (e_call [] rfl c_is_within.ok (hr.mono (by omega)) (by rfl) c_is_within.g c_is_within.kp c_is_within.b passN (a_cons (e_var 0) (a_cons e_int (a_cons (e_gint (by rfl) T.g_MOST_CELLS) a_nil)))))) (s_one (s_ret (e_tup (a_cons e_str a_nil)))) s_nil)
  (s_cons (s_if (t_w (w_or (t_not (t_val (e_cb (loc_isiX T.own) (pe_callB call_isi (by rfl) T.z_isinstance rfl (a_cons (e_var 1) (a_cons (e_ty (by rfl) T.z_tuple rfl) a_nil)))))) (w_or1 (t_not (t_chain loc_le loc_le (pt_chain op_le op_le e_int (e_cb (loc_len) (pe_callB call_len (by rfl) T.z_len rfl (a_cons (e_var 1) a_nil))) (e_gint (by rfl) T.g_MOST_ROUTINES))))))) (s_one (s_ret (e_tup (a_cons e_str a_nil)))) s_nil)
  (s_cons (s_for PassesOwn.never rfl (tg_tup (is := [2, 3]) (n := 2) rfl (by show ∀ i ∈ ([2, 3] : List Nat), i < 5 ∧ i ∉ ([] : List Nat); decide)) (i_enum rfl (pi_enumG (by rfl) T.z_enumerate (a_cons (e_var 1) a_nil))) (pg_tup rfl (pgs_cons (pg_name (i := 2) sc_wrong_part.nd rfl (by first | exact Or.inl rfl | exact Or.inr rfl)) (pgs_cons (pg_name (i := 3) sc_wrong_part.nd rfl (by first | exact Or.inl rfl | exact Or.inr rfl)) pgs_nil))) (s_cons (s_set 4 sc_wrong_part.nd rfl (by first | exact Or.inl rfl | exact Or.inr rfl) (e_call [] rfl c_body_size.ok (hr.mono (by omega)) (by rfl) c_body_size.g c_body_size.kp c_body_size.b passN (a_cons (e_var 3) (a_cons (e_var 0) (a_cons (e_cb (loc_len) (pe_callB call_len (by rfl) T.z_len rfl (a_cons (e_var 1) a_nil))) (a_cons e_int a_nil))))) (by show 4 ∉ ([] : List Nat); decide) (by show 4 < 5; decide))
  (s_one (s_if (t_w (w_or (t_cmp op_isN loc_is (e_var 4) e_non) (w_or1 (t_cmp op_gt loc_gt (e_op op_addAll loc_add (e_var 4) e_int) (e_gint (by rfl) T.g_MOST_PLACES_books))))) (s_one (s_ret (e_tup (a_cons e_str (a_cons (e_var 2) a_nil))))) s_nil))))
  (s_one (s_ret e_non)))))⟩
abbrev s_Book___init__ : Stmt := inClass (top 45) 0
theorem sc_Book___init__ : FnScope ["self", "cells", "routines", "part"] ["self", "cells", "routines"] (defScope s_Book___init__) := ⟨rfl, rfl, rfl, by decide +kernel, rfl, by decide +kernel, by decide +kernel⟩
def b_Book___init__ (f_wrong_part : List O → Rr) : MS := (msSeq (msSet 3 (mCall [] 2 f_wrong_part (mCons [] (mVar 1) (mCons [] (mVar 2) mNil))))
  (msSeq (msIf (mTest (m2 (gIs true) [] (mVar 3) (mC .non))) (msRaise1 4 (mVar 3)) msNil)
  (msSeq (msSetAttr [0] [] [0] "cells" (mVar 1) (mVar 0))
  (msSetAttr [0] [] [0] "routines" (mVar 2) (mVar 0)))))
theorem ok_Book___init__ {f : Addr} {fd : FuncData} {k : Nat} (T : Txt w K mg cl aS eS nS aI_BadBook) {f_wrong_part : List O → Rr} {a_wrong_part : Addr} {d_wrong_part : FuncData} {k_wrong_part : Nat} (l_wrong_part : k_wrong_part ≤ k) (c_wrong_part : CalF P w K mg base k_wrong_part "wrong_part" ["cells", "routines"] (spG K cl 2 f_wrong_part) a_wrong_part d_wrong_part) (F : Fun K "__init__" "Book.__init__" s_Book___init__ f fd) : FnOk P w K mg base (L2.CX P w) (k + 1) f fd ["self", "cells", "routines"] (spG K cl 3 (runDef [0] 1 (b_Book___init__ f_wrong_part))) :=
  fn_def2X F sc_Book___init__ (by decide) fun cdv A outer s H E F0 H0 io vs hr tk => ⟨_, (s_cons (s_set 3 sc_Book___init__.nd rfl (by first | exact Or.inl rfl | exact Or.inr rfl) (e_call [] rfl c_wrong_part.ok (hr.mono (by omega)) (by rfl) c_wrong_part.g c_wrong_part.kp c_wrong_part.b passN (a_cons (e_var 1) (a_cons (e_var 2) a_nil))) (by show 3 ∉ ([0] : List Nat); decide) (by show 3 < 4; decide))
  (s_cons (s_if (t_cmp op_notN loc_isNot (e_var 3) e_non) (s_one (s_raisePart rfl T.p_BadBook (by rfl) (hr.mono (by omega)) tk (e_var 3))) s_nil)
  (s_cons (s_setAttr [0] (cs := [0]) rfl (all1 T.n_Book_cells) (ps_fld (e_var 0) (e_var 1) rfl))
  (s_one (s_setAttr [0] (cs := [0]) rfl (all1 T.n_Book_routines) (ps_fld (e_var 0) (e_var 2) rfl))))))⟩
abbrev s_Book___eq__ : Stmt := inClass (top 45) 1
theorem sc_Book___eq__ : FnScope ["self", "other"] ["self", "other"] (defScope s_Book___eq__) := ⟨rfl, rfl, rfl, by decide +kernel, rfl, by decide +kernel, by decide +kernel⟩
def b_Book___eq__ : MS := (msRet (mAnd (mN (gIsiX [0, 1]) (mCons [] (mVar 1) (mCons [] (mC (.cls 0)) mNil))) (mAnd (m2 gEq [] (m1 (gAttr [0] "cells") (mVar 0)) (m1 (gAttr [0] "cells") (mVar 1))) (m2 gEq [] (m1 (gAttr [0] "routines") (mVar 0)) (m1 (gAttr [0] "routines") (mVar 1))))))
theorem ok_Book___eq__ {f : Addr} {fd : FuncData} {k : Nat} (T : Txt w K mg cl aS eS nS aI_BadBook)  (F : Fun K "__eq__" "Book.__eq__" s_Book___eq__ f fd) : FnOk P w K mg base CX0 (k + 1) f fd ["self", "other"] (spG K cl 2 (runDef [] 0 (b_Book___eq__))) :=
  fn_def2 F sc_Book___eq__ (by decide) fun cdv A outer s H E F0 H0 io vs hr => ⟨_, (s_one (s_ret (e_and (e_cb (loc_isiX T.own) (pe_callB call_isi (by rfl) T.z_isinstance rfl (a_cons (e_var 1) (a_cons (e_own (by rfl) T.c_Book) a_nil)))) (e_and (e_cmp (op_eqD hr.units) (loc_eq) (e_attr (cs := [0]) rfl (all1 T.n_Book_cells) (e_var 0) rfl) (e_attr (cs := [0]) rfl (all1 T.n_Book_cells) (e_var 1) rfl)) (e_one (e_cmp (op_eqD hr.units) (loc_eq) (e_attr (cs := [0]) rfl (all1 T.n_Book_routines) (e_var 0) rfl) (e_attr (cs := [0]) rfl (all1 T.n_Book_routines) (e_var 1) rfl)))))))⟩
abbrev s__law_hand : Stmt := top 47
theorem sc__law_hand : FnScope ["script", "cells", "cell"] ["script"] (defScope s__law_hand) := ⟨rfl, rfl, rfl, by decide +kernel, rfl, by decide +kernel, by decide +kernel⟩
def e1__law_hand : ME := (mN gAbs (mCons [] (mN gInt (mCons [] (mVar 2) mNil)) mNil))
def b__law_hand : MS := (msSeq (msSet 1 (mStl (mLc [2, 2] [2] (setT [2]) (iSeq false (mStl (mSl [] (mVar 0) oNone (oSome (mC (.int 63)))))) mYes (e1__law_hand))))
  (msRet (mN gLst (mCons [] (mVar 1) (mCons [] (mC (.int 0)) (mCons [] (mC (.int 0)) (mCons [] (mStl (m2 gAdd [] (mC (.int 1)) (mN gLen (mCons [] (mVar 1) mNil)))) (mCons [] (mC (.int 0)) mNil))))))))
theorem ok__law_hand {f : Addr} {fd : FuncData} {k : Nat} (T : Txt w K mg cl aS eS nS aI_BadBook)  (F : Fun K "_law_hand" "_law_hand" s__law_hand f fd) : FnOk P w K mg base CX0 (k + 1) f fd ["script"] (spG K cl 1 (runDef [] 2 (b__law_hand))) :=
  fn_def2 F sc__law_hand (by decide) fun cdv A outer s H E F0 H0 io vs hr => ⟨_, (s_cons (s_setLcS (vs := [2]) (tg_name (by show 2 < 3; decide) (by show 2 ∉ ([] : List Nat); decide)) (by decide) (by show ∀ i ∈ ([2] : List Nat), i ∉ ([] : List Nat); decide) (by show 1 < 3; decide) (by show 1 ∉ ([] : List Nat); decide) (ps_setLc (i := 1) (own := [("cell", 2)]) rfl sc__law_hand.nd rfl rfl (sw_true rfl rfl rfl (by decide +kernel)) (i_list rfl (e_stl (e_sl rfl (e_var 0) o_none (o_some e_int)))) (blkOk_by (N := ["script", "cells", "cell"]) (sc := defScope s__law_hand) (by decide +kernel)) (fun _ _ _ _ _ => (pg_name (i := 2) sc__law_hand.nd rfl (by first | exact Or.inl rfl | exact Or.inr rfl))) (fun _ _ _ _ _ => ts_nil) (fun _ _ _ _ _ => (e_cb loc_abs (pe_callB call_abs (by rfl) T.z_abs rfl (a_cons (e_cb loc_int (pe_callTy call_int1 (by rfl) T.z_int rfl (a_cons (e_var 2) a_nil))) a_nil))))))
  (s_one (s_ret (e_lst (a_cons (e_var 1) (a_cons e_int (a_cons e_int (a_cons (e_stl (e_op op_addAll loc_add e_int (e_cb (loc_len) (pe_callB call_len (by rfl) T.z_len rfl (a_cons (e_var 1) a_nil))))) (a_cons e_int a_nil)))))))))⟩
abbrev s__law_draw : Stmt := top 48
theorem sc__law_draw : FnScope ["hand", "many", "cell", "digit", "number"] ["hand", "many"] (defScope s__law_draw) := ⟨rfl, rfl, rfl, by decide +kernel, rfl, by decide +kernel, by decide +kernel⟩
def b__law_draw : MS := (msSeq (msIf (tmAnd (mTest (m2 gEq [] (m2 gIx [] (mVar 0) (mC (.int 2))) (mC (.int 0)))) (mTest (m2 (gI fun i j => .bl (decide (i < j))) [] (m2 gIx [] (mVar 0) (mC (.int 1))) (mN gLen (mCons [] (m2 gIx [] (mVar 0) (mC (.int 0))) mNil))))) (msSeq (msSet 2 (m2 gIx [] (m2 gIx [] (mVar 0) (mC (.int 0))) (m2 gIx [] (mVar 0) (mC (.int 1)))))
  (msSeq (msSetIx [0] [] [] (m2 gAdd [] (m2 gIx [] (mVar 0) (mC (.int 1))) (mC (.int 1))) (mVar 0) (mC (.int 1)))
  (msSeq (msSetIx [0] [] [] (m2 (gIc cMod fun i j => .int (i % j)) [] (mN gInt (mCons [] (m2 gAdd [] (m2 gAdd [] (m2 gMul [] (m2 gIx [] (mVar 0) (mC (.int 3))) (mC (.int 69621))) (mVar 2)) (mC (.int 11))) mNil)) (mC (.int 2147483629))) (mVar 0) (mC (.int 3)))
  (msIf (mTest (m2 (gI fun i j => .bl (decide (j ≤ i))) [] (mVar 2) (m2 (gIc cPow2 fun i j => .int (i ^ j.toNat)) [] (mC (.int 10)) (mC (.int 18))))) (msSetIx [0] [] [] (mVar 2) (mVar 0) (mC (.int 2))) msNil)))) msNil)
  (msSeq (msIf (mTest (m2 (gI fun i j => .bl (decide (j < i))) [] (m2 gIx [] (mVar 0) (mC (.int 2))) (mC (.int 0)))) (msSeq (msSet 3 (m2 (gIc cMod fun i j => .int (i % j)) [] (mN gInt (mCons [] (m2 gIx [] (mVar 0) (mC (.int 2))) mNil)) (mVar 1)))
  (msSeq (msSetIx [0] [] [] (m2 (gIc cDiv fun i j => .int (i / j)) [] (m2 gIx [] (mVar 0) (mC (.int 2))) (mVar 1)) (mVar 0) (mC (.int 2)))
  (msRet (mVar 3)))) msNil)
  (msSeq (msSetIx [0] [] [] (m2 gAdd [] (m2 gIx [] (mVar 0) (mC (.int 4))) (mC (.int 1))) (mVar 0) (mC (.int 4)))
  (msSeq (msSet 4 (m2 (gIc cMod fun i j => .int (i % j)) [] (mN gInt (mCons [] (m2 gMul [] (mN gInt (mCons [] (m2 gAdd [] (m2 gIx [] (mVar 0) (mC (.int 3))) (m2 gMul [] (mC (.int 7919)) (m2 gIx [] (mVar 0) (mC (.int 4))))) mNil)) (mC (.int 48271))) mNil)) (mC (.int 2147483647))))
  (msSeq (msSet 4 (m2 (gIc cMod fun i j => .int (i % j)) [] (mN gInt (mCons [] (m2 gMul [] (mVar 4) (m2 gAdd [] (m2 (gIc cDiv fun i j => .int (i / j)) [] (mVar 4) (mC (.int 1009))) (mC (.int 69621)))) mNil)) (mC (.int 2147483647))))
  (msSeq (msSet 4 (m2 (gIc cMod fun i j => .int (i % j)) [] (mN gInt (mCons [] (m2 gMul [] (mVar 4) (m2 gAdd [] (m2 (gIc cDiv fun i j => .int (i / j)) [] (mVar 4) (mC (.int 2003))) (mC (.int 40692)))) mNil)) (mC (.int 2147483399))))
  (msRet (m2 (gIc cMod fun i j => .int (i % j)) [] (mN gInt (mCons [] (m2 (gIc cDiv fun i j => .int (i / j)) [] (mVar 4) (mC (.int 16))) mNil)) (mVar 1)))))))))
theorem ok__law_draw {f : Addr} {fd : FuncData} {k : Nat} (T : Txt w K mg cl aS eS nS aI_BadBook)  (F : Fun K "_law_draw" "_law_draw" s__law_draw f fd) : FnOk P w K mg base CX0 (k + 1) f fd ["hand", "many"] (spG K cl 2 (runDef [0] 3 (b__law_draw))) :=
  fn_def2 F sc__law_draw (by decide) fun cdv A outer s H E F0 H0 io vs hr => ⟨_, (s_cons (s_if (t_w (w_and (t_cmp (op_eqD hr.units) (loc_eq) (e_ix ix_seq (loc_ix) (e_var 0) e_int (fun _ _ => rfl)) e_int) (w_and1 (t_cmp op_lt loc_lt (e_ix ix_seq (loc_ix) (e_var 0) e_int (fun _ _ => rfl)) (e_cb (loc_len) (pe_callB call_len (by rfl) T.z_len rfl (a_cons (e_ix ix_seq (loc_ix) (e_var 0) e_int (fun _ _ => rfl)) a_nil))))))) (s_cons (s_set 2 sc__law_draw.nd rfl (by first | exact Or.inl rfl | exact Or.inr rfl) (e_ix ix_seq (loc_ix) (e_ix ix_seq (loc_ix) (e_var 0) e_int (fun _ _ => rfl)) (e_ix ix_seq (loc_ix) (e_var 0) e_int (fun _ _ => rfl)) (fun _ _ => rfl)) (by show 2 ∉ ([0] : List Nat); decide) (by show 2 < 5; decide))
  (s_cons (s_setIx [0] (ps_asg (e_op op_addAll loc_add (e_ix ix_seq (loc_ix) (e_var 0) e_int (fun _ _ => rfl)) e_int) (pg_sub (e_var 0) e_int set_list)))
  (s_cons (s_setIx [0] (ps_asg (e_op op_mod loc_mod (e_cb loc_int (pe_callTy call_int1 (by rfl) T.z_int rfl (a_cons (e_op op_addAll loc_add (e_op op_addAll loc_add (e_op op_mulAll (loc_mul) (e_ix ix_seq (loc_ix) (e_var 0) e_int (fun _ _ => rfl)) e_int) (e_var 2)) e_int) a_nil))) e_int) (pg_sub (e_var 0) e_int set_list)))
  (s_one (s_if (t_cmp op_ge loc_ge (e_var 2) (e_op op_powW loc_powW e_int e_int)) (s_one (s_setIx [0] (ps_asg (e_var 2) (pg_sub (e_var 0) e_int set_list)))) s_nil))))) s_nil)
  (s_cons (s_if (t_cmp op_gt loc_gt (e_ix ix_seq (loc_ix) (e_var 0) e_int (fun _ _ => rfl)) e_int) (s_cons (s_set 3 sc__law_draw.nd rfl (by first | exact Or.inl rfl | exact Or.inr rfl) (e_op op_mod loc_mod (e_cb loc_int (pe_callTy call_int1 (by rfl) T.z_int rfl (a_cons (e_ix ix_seq (loc_ix) (e_var 0) e_int (fun _ _ => rfl)) a_nil))) (e_var 1)) (by show 3 ∉ ([0] : List Nat); decide) (by show 3 < 5; decide))
  (s_cons (s_setIx [0] (ps_asg (e_op op_fdiv loc_fdiv (e_ix ix_seq (loc_ix) (e_var 0) e_int (fun _ _ => rfl)) (e_var 1)) (pg_sub (e_var 0) e_int set_list)))
  (s_one (s_ret (e_var 3))))) s_nil)
  (s_cons (s_setIx [0] (ps_asg (e_op op_addAll loc_add (e_ix ix_seq (loc_ix) (e_var 0) e_int (fun _ _ => rfl)) e_int) (pg_sub (e_var 0) e_int set_list)))
  (s_cons (s_set 4 sc__law_draw.nd rfl (by first | exact Or.inl rfl | exact Or.inr rfl) (e_op op_mod loc_mod (e_cb loc_int (pe_callTy call_int1 (by rfl) T.z_int rfl (a_cons (e_op op_mulAll (loc_mul) (e_cb loc_int (pe_callTy call_int1 (by rfl) T.z_int rfl (a_cons (e_op op_addAll loc_add (e_ix ix_seq (loc_ix) (e_var 0) e_int (fun _ _ => rfl)) (e_op op_mulAll (loc_mul) e_int (e_ix ix_seq (loc_ix) (e_var 0) e_int (fun _ _ => rfl)))) a_nil))) e_int) a_nil))) e_int) (by show 4 ∉ ([0] : List Nat); decide) (by show 4 < 5; decide))
  (s_cons (s_set 4 sc__law_draw.nd rfl (by first | exact Or.inl rfl | exact Or.inr rfl) (e_op op_mod loc_mod (e_cb loc_int (pe_callTy call_int1 (by rfl) T.z_int rfl (a_cons (e_op op_mulAll (loc_mul) (e_var 4) (e_op op_addAll loc_add (e_op op_fdiv loc_fdiv (e_var 4) e_int) e_int)) a_nil))) e_int) (by show 4 ∉ ([0] : List Nat); decide) (by show 4 < 5; decide))
  (s_cons (s_set 4 sc__law_draw.nd rfl (by first | exact Or.inl rfl | exact Or.inr rfl) (e_op op_mod loc_mod (e_cb loc_int (pe_callTy call_int1 (by rfl) T.z_int rfl (a_cons (e_op op_mulAll (loc_mul) (e_var 4) (e_op op_addAll loc_add (e_op op_fdiv loc_fdiv (e_var 4) e_int) e_int)) a_nil))) e_int) (by show 4 ∉ ([0] : List Nat); decide) (by show 4 < 5; decide))
  (s_one (s_ret (e_op op_mod loc_mod (e_cb loc_int (pe_callTy call_int1 (by rfl) T.z_int rfl (a_cons (e_op op_fdiv loc_fdiv (e_var 4) e_int) a_nil))) (e_var 1))))))))))⟩
abbrev s__law_any : Stmt := top 49
theorem sc__law_any : FnScope ["hand", "items"] ["hand", "items"] (defScope s__law_any) := ⟨rfl, rfl, rfl, by decide +kernel, rfl, by decide +kernel, by decide +kernel⟩
def b__law_any (f__law_draw : List O → Rr) : MS := (msRet (m2 gIx [0] (mVar 1) (mCall [0] 2 f__law_draw (mCons [] (mSlot 0) (mCons [] (mN gLen (mCons [] (mVar 1) mNil)) mNil)))))
theorem ok__law_any {f : Addr} {fd : FuncData} {k : Nat} (T : Txt w K mg cl aS eS nS aI_BadBook) {f__law_draw : List O → Rr} {a__law_draw : Addr} {d__law_draw : FuncData} {k__law_draw : Nat} (l__law_draw : k__law_draw ≤ k) (c__law_draw : CalF P w K mg base k__law_draw "_law_draw" ["hand", "many"] (spG K cl 2 f__law_draw) a__law_draw d__law_draw) (F : Fun K "_law_any" "_law_any" s__law_any f fd) : FnOk P w K mg base CX0 (k + 1) f fd ["hand", "items"] (spG K cl 2 (runDef [0] 0 (b__law_any f__law_draw))) :=
  fn_def2 F sc__law_any (by decide) fun cdv A outer s H E F0 H0 io vs hr => ⟨_, (s_one (s_ret (e_ix ix_seq (loc_ix) (e_var 1) (e_call [0] rfl c__law_draw.ok (hr.mono (by omega)) (by rfl) c__law_draw.g c__law_draw.kp c__law_draw.b passN (a_cons (e_slot 0) (a_cons (e_cb (loc_len) (pe_callB call_len (by rfl) T.z_len rfl (a_cons (e_var 1) a_nil))) a_nil))) (fun _ _ => rfl))))⟩
abbrev s__law_is : Stmt := top 50
theorem sc__law_is : FnScope ["told", "due", "one", "two"] ["told", "due"] (defScope s__law_is) := ⟨rfl, rfl, rfl, by decide +kernel, rfl, by decide +kernel, by decide +kernel⟩
def e1__law_is (f__law_is : List O → Rr) : ME := (mStl (mCall [] 2 f__law_is (mCons [] (mVar 2) (mCons [] (mVar 3) mNil))))
def b__law_is (f__law_is : List O → Rr) : MS := (msSeq (msIf (mTest (mIsT ["tuple", "list"] (mVar 1))) (msSeq (msIf (tmOr (mTest (m2 gNe [] (mN (gIsiX [0, 1]) (mCons [] (mVar 0) (mCons [] (mC (.ty "tuple")) mNil))) (mN (gIsiX [0, 1]) (mCons [] (mVar 1) (mCons [] (mC (.ty "tuple")) mNil))))) (tmNot (mTest (mIsT ["tuple", "list"] (mVar 0))))) (msRet (mC (.bl false))) msNil)
  (msRet (mAnd (m2 gEq [] (mN gLen (mCons [] (mVar 0) mNil)) (mN gLen (mCons [] (mVar 1) mNil))) (mN gAll (mCons [] (mLc [2, 3, 2, 3] [2, 3] (setTup [2, 3]) (iZipM (mCons [] (mVar 0) (mCons [] (mVar 1) mNil))) mYes (e1__law_is f__law_is)) mNil))))) msNil)
  (msRet (mAnd (m2 gEq [] (mN (gIsiX [0, 1]) (mCons [] (mVar 0) (mCons [] (mC (.ty "bool")) mNil))) (mN (gIsiX [0, 1]) (mCons [] (mVar 1) (mCons [] (mC (.ty "bool")) mNil)))) (m2 gEq [] (mVar 0) (mVar 1)))))
theorem ok__law_is {f : Addr} {fd : FuncData} {k : Nat} (T : Txt w K mg cl aS eS nS aI_BadBook) {f__law_is : List O → Rr} {a__law_is : Addr} {d__law_is : FuncData} {k__law_is : Nat} (l__law_is : k__law_is ≤ k) (c__law_is : CalF P w K mg base k__law_is "_law_is" ["told", "due"] (spG K cl 2 f__law_is) a__law_is d__law_is) (F : Fun K "_law_is" "_law_is" s__law_is f fd) : FnOk P w K mg base CX0 (k + 1) f fd ["told", "due"] (spG K cl 2 (runDef [] 2 (b__law_is f__law_is))) :=
  fn_def2 F sc__law_is (by decide) fun cdv A outer s H E F0 H0 io vs hr => ⟨_, (s_cons (s_if (t_val (e_isT ["tuple", "list"] rfl (by decide) (pe_callB call_isiT (by rfl) T.z_isinstance rfl (pa_cons (e_var 1) (pa_cons (pe_tup (pa_cons (pe_bltn (by rfl) T.z_tuple rfl (v := .ty "tuple") rfl) (pa_cons (pe_bltn (by rfl) T.z_list rfl (v := .ty "list") rfl) pa_nil))) pa_nil))))) (s_cons (s_if (t_w (w_or (t_cmp (op_neD hr.units) (loc_ne) (e_cb (loc_isiX T.own) (pe_callB call_isi (by rfl) T.z_isinstance rfl (a_cons (e_var 0) (a_cons (e_ty (by rfl) T.z_tuple rfl) a_nil)))) (e_cb (loc_isiX T.own) (pe_callB call_isi (by rfl) T.z_isinstance rfl (a_cons (e_var 1) (a_cons (e_ty (by rfl) T.z_tuple rfl) a_nil))))) (w_or1 (t_not (t_val (e_isT ["tuple", "list"] rfl (by decide) (pe_callB call_isiT (by rfl) T.z_isinstance rfl (pa_cons (e_var 0) (pa_cons (pe_tup (pa_cons (pe_bltn (by rfl) T.z_tuple rfl (v := .ty "tuple") rfl) (pa_cons (pe_bltn (by rfl) T.z_list rfl (v := .ty "list") rfl) pa_nil))) pa_nil))))))))) (s_one (s_ret e_bl)) s_nil)
  (s_one (s_ret (e_and (e_cmp (op_eqD hr.units) (loc_eq) (e_cb (loc_len) (pe_callB call_len (by rfl) T.z_len rfl (a_cons (e_var 0) a_nil))) (e_cb (loc_len) (pe_callB call_len (by rfl) T.z_len rfl (a_cons (e_var 1) a_nil)))) (e_one (e_cb (loc_all) (pe_callB (cr_all rfl) (by rfl) T.z_all rfl (a_cons (e_lc (vs := [2, 3]) (tg_tup (is := [2, 3]) (n := 2) rfl (by show ∀ i ∈ ([2, 3] : List Nat), i < 4 ∧ i ∉ ([] : List Nat); decide)) (by decide) (by show ∀ i ∈ ([2, 3] : List Nat), i ∉ ([] : List Nat); decide) (pe_lc (own := [("one", 2), ("two", 3)]) rfl sc__law_is.nd (i_zip rfl (pi_zipG (by rfl) T.z_zip (a_cons (e_var 0) (a_cons (e_var 1) a_nil)))) (blkOk_by (N := ["told", "due", "one", "two"]) (sc := defScope s__law_is) (by decide +kernel)) (fun _ _ _ _ _ => (pg_tup rfl (pgs_cons (pg_name (i := 2) sc__law_is.nd rfl (by first | exact Or.inl rfl | exact Or.inr rfl)) (pgs_cons (pg_name (i := 3) sc__law_is.nd rfl (by first | exact Or.inl rfl | exact Or.inr rfl)) pgs_nil)))) (fun _ _ _ _ _ => ts_nil) (fun _ _ _ _ _ => (e_stl (e_call [] rfl c__law_is.ok (hr.mono (by omega)) (by rfl) c__law_is.g c__law_is.kp c__law_is.b passN (a_cons (e_var 2) (a_cons (e_var 3) a_nil))))))) a_nil)))))))) s_nil)
  (s_one (s_ret (e_and (e_cmp (op_eqD hr.units) (loc_eq) (e_cb (loc_isiX T.own) (pe_callB call_isi (by rfl) T.z_isinstance rfl (a_cons (e_var 0) (a_cons (e_ty (by rfl) T.z_bool rfl) a_nil)))) (e_cb (loc_isiX T.own) (pe_callB call_isi (by rfl) T.z_isinstance rfl (a_cons (e_var 1) (a_cons (e_ty (by rfl) T.z_bool rfl) a_nil))))) (e_one (e_cmp (op_eqD hr.units) (loc_eq) (e_var 0) (e_var 1)))))))⟩
abbrev s__law_nested : Stmt := top 51
theorem sc__law_nested : FnScope ["hand", "thing", "turn"] ["hand"] (defScope s__law_nested) := ⟨rfl, rfl, rfl, by decide +kernel, rfl, by decide +kernel, by decide +kernel⟩
def e1__law_nested (f__law_any : List O → Rr) : MS := (msSet 1 (mIf (mTest (m2 gEq [] (m2 (gIc cMod fun i j => .int (i % j)) [] (mN gInt (mCons [] (mVar 2) mNil)) (mC (.int 5))) (mC (.int 4)))) (mStl (mN gLst (mCons [] (mVar 1) mNil))) (mN gTup (mCons [] (mVar 1) mNil))))
def b__law_nested (f__law_any : List O → Rr) : MS := (msSeq (msSet 1 (mCall [0] 2 f__law_any (mCons [] (mSlot 0) (mCons [] (mStl (mN gLst (mCons [] (mN gTup mNil) (mCons [] (mC (.int 0)) (mCons [] (mC (.str "a")) (mCons [] (mC .non) mNil)))))) mNil))))
  (msSeq (msFor [2, 1] (setT [2]) (iRg1 (mCons [] (mC (.int 24)) mNil)) (e1__law_nested f__law_any))
  (msRet (mVar 1))))
theorem ok__law_nested {f : Addr} {fd : FuncData} {k : Nat} (T : Txt w K mg cl aS eS nS aI_BadBook) {f__law_any : List O → Rr} {a__law_any : Addr} {d__law_any : FuncData} {k__law_any : Nat} (l__law_any : k__law_any ≤ k) (c__law_any : CalF P w K mg base k__law_any "_law_any" ["hand", "items"] (spG K cl 2 f__law_any) a__law_any d__law_any) (F : Fun K "_law_nested" "_law_nested" s__law_nested f fd) : FnOk P w K mg base CX0 (k + 1) f fd ["hand"] (spG K cl 1 (runDef [0] 2 (b__law_nested f__law_any))) :=
  fn_def2 F sc__law_nested (by decide) fun cdv A outer s H E F0 H0 io vs hr => ⟨_, (s_cons (s_set 1 sc__law_nested.nd rfl (by first | exact Or.inl rfl | exact Or.inr rfl) (e_call [0] rfl c__law_any.ok (hr.mono (by omega)) (by rfl) c__law_any.g c__law_any.kp c__law_any.b passN (a_cons (e_slot 0) (a_cons (e_stl (e_lst (a_cons (e_tup a_nil) (a_cons e_int (a_cons e_str (a_cons e_non a_nil)))))) a_nil))) (by show 1 ∉ ([0] : List Nat); decide) (by show 1 < 3; decide))
  (s_cons (s_for PassesOwn.never rfl (tg_name (by show 2 < 3; decide) (by show 2 ∉ ([0] : List Nat); decide)) (i_rg1 (pi_range1 (by rfl) T.z_range (a_cons e_int a_nil))) (pg_name (i := 2) sc__law_nested.nd rfl (by first | exact Or.inl rfl | exact Or.inr rfl)) (s_one (s_set 1 sc__law_nested.nd rfl (by first | exact Or.inl rfl | exact Or.inr rfl) (e_if (t_cmp (op_eqD hr.units) (loc_eq) (e_op op_mod loc_mod (e_cb loc_int (pe_callTy call_int1 (by rfl) T.z_int rfl (a_cons (e_var 2) a_nil))) e_int) e_int) (e_stl (e_lst (a_cons (e_var 1) a_nil))) (e_tup (a_cons (e_var 1) a_nil))) (by show 1 ∉ ([0] : List Nat); decide) (by show 1 < 3; decide))))
  (s_one (s_ret (e_var 1)))))⟩
abbrev s__law_int : Stmt := top 52
theorem sc__law_int : FnScope ["thing", "least", "most"] ["thing", "least", "most"] (defScope s__law_int) := ⟨rfl, rfl, rfl, by decide +kernel, rfl, by decide +kernel, by decide +kernel⟩
def b__law_int : MS := (msRet (mAnd (mN (gIsiX [0, 1]) (mCons [] (mVar 0) (mCons [] (mC (.ty "int")) mNil))) (mAnd (mNot (mN (gIsiX [0, 1]) (mCons [] (mVar 0) (mCons [] (mC (.ty "bool")) mNil)))) (mChain (gI fun i j => .bl (decide (i ≤ j))) (gI fun i j => .bl (decide (i ≤ j))) (mVar 1) (mVar 0) (mVar 2)))))
theorem ok__law_int {f : Addr} {fd : FuncData} {k : Nat} (T : Txt w K mg cl aS eS nS aI_BadBook)  (F : Fun K "_law_int" "_law_int" s__law_int f fd) : FnOk P w K mg base CX0 (k + 1) f fd ["thing", "least", "most"] (spG K cl 3 (runDef [] 0 (b__law_int))) :=
  fn_def2 F sc__law_int (by decide) fun cdv A outer s H E F0 H0 io vs hr => ⟨_, (s_one (s_ret (e_and (e_cb (loc_isiX T.own) (pe_callB call_isi (by rfl) T.z_isinstance rfl (a_cons (e_var 0) (a_cons (e_ty (by rfl) T.z_int rfl) a_nil)))) (e_and (e_not (e_cb (loc_isiX T.own) (pe_callB call_isi (by rfl) T.z_isinstance rfl (a_cons (e_var 0) (a_cons (e_ty (by rfl) T.z_bool rfl) a_nil))))) (e_one (e_chain loc_le loc_le (pe_chain op_le op_le (e_var 1) (e_var 0) (e_var 2))))))))⟩
abbrev s__law_sum : Stmt := top 53
theorem sc__law_sum : FnScope ["hand", "cells", "some", "cell"] ["hand", "cells"] (defScope s__law_sum) := ⟨rfl, rfl, rfl, by decide +kernel, rfl, by decide +kernel, by decide +kernel⟩
def e1__law_sum (f__law_draw : List O → Rr) (f__law_any : List O → Rr) : ME := (m2 gIx [0, 0] (mVar 2) (mCall [0] 2 f__law_draw (mCons [0] (mSlot 0) (mCons [] (mStl (mCall [0] 2 f__law_any (mCons [] (mSlot 0) (mCons [] (mStl (mN gLst (mCons [] (mC (.int 3)) (mCons [] (mC (.int 5)) (mCons [] (mC (.int 7)) (mCons [] (mC (.int 10)) mNil)))))) mNil)))) mNil))))
def b__law_sum (f__law_draw : List O → Rr) (f__law_any : List O → Rr) : MS := (msSeq (msSet 2 (mN gLst (mCons [] (mC (.int 0)) (mCons [] (mC (.int 0)) (mCons [] (mC (.int 1)) (mCons [] (m1 gNeg (mC (.int 1))) (mCons [] (mC (.int 2)) (mCons [] (m1 gNeg (mC (.int 2))) (mCons [] (mC (.int 3)) (mCons [] (mC (.int 1000)) (mCons [] (m1 gNeg (mC (.int 1000))) (mCons [] (mC (.int 7)) mNil))))))))))))
  (msRet (mN gTupleOf (mCons [] (mLc [3, 3, 0, 0] [3] (setT [3]) (iRg1 (mCons [] (m2 gAdd [] (mVar 1) (mC (.int 1))) mNil)) mYes (e1__law_sum f__law_draw f__law_any)) mNil))))
theorem ok__law_sum {f : Addr} {fd : FuncData} {k : Nat} (T : Txt w K mg cl aS eS nS aI_BadBook) {f__law_draw : List O → Rr} {a__law_draw : Addr} {d__law_draw : FuncData} {k__law_draw : Nat} (l__law_draw : k__law_draw ≤ k) (c__law_draw : CalF P w K mg base k__law_draw "_law_draw" ["hand", "many"] (spG K cl 2 f__law_draw) a__law_draw d__law_draw) {f__law_any : List O → Rr} {a__law_any : Addr} {d__law_any : FuncData} {k__law_any : Nat} (l__law_any : k__law_any ≤ k) (c__law_any : CalF P w K mg base k__law_any "_law_any" ["hand", "items"] (spG K cl 2 f__law_any) a__law_any d__law_any) (F : Fun K "_law_sum" "_law_sum" s__law_sum f fd) : FnOk P w K mg base CX0 (k + 1) f fd ["hand", "cells"] (spG K cl 2 (runDef [0] 2 (b__law_sum f__law_draw f__law_any))) :=
  fn_def2 F sc__law_sum (by decide) fun cdv A outer s H E F0 H0 io vs hr => ⟨_, (s_cons (s_set 2 sc__law_sum.nd rfl (by first | exact Or.inl rfl | exact Or.inr rfl) (e_lst (a_cons e_int (a_cons e_int (a_cons e_int (a_cons (e_un un_neg loc_neg e_int) (a_cons e_int (a_cons (e_un un_neg loc_neg e_int) (a_cons e_int (a_cons e_int (a_cons (e_un un_neg loc_neg e_int) (a_cons e_int a_nil))))))))))) (by show 2 ∉ ([0] : List Nat); decide) (by show 2 < 4; decide))
  (s_one (s_ret (e_cb (loc_tupleOf) (pe_callTy call_tuple_ofF (by rfl) T.z_tuple rfl (a_cons (e_lc (vs := [3]) (tg_name (by show 3 < 4; decide) (by show 3 ∉ ([0] : List Nat); decide)) (by decide) (by show ∀ i ∈ ([3] : List Nat), i ∉ ([0] : List Nat); decide) (pe_lc (own := [("cell", 3)]) rfl sc__law_sum.nd (i_rg1 (pi_range1 (by rfl) T.z_range (a_cons (e_op op_addAll loc_add (e_var 1) e_int) a_nil))) (blkOk_by (N := ["hand", "cells", "some", "cell"]) (sc := defScope s__law_sum) (by decide +kernel)) (fun _ _ _ _ _ => (pg_name (i := 3) sc__law_sum.nd rfl (by first | exact Or.inl rfl | exact Or.inr rfl))) (fun _ _ _ _ _ => ts_nil) (fun _ _ _ _ _ => (e_ix ix_seq (loc_ix) (e_var 2) (e_call [0] rfl c__law_draw.ok (hr.mono (by omega)) (by rfl) c__law_draw.g c__law_draw.kp c__law_draw.b passN (a_cons (e_slot 0) (a_cons (e_stl (e_call [0] rfl c__law_any.ok (hr.mono (by omega)) (by rfl) c__law_any.g c__law_any.kp c__law_any.b passN (a_cons (e_slot 0) (a_cons (e_stl (e_lst (a_cons e_int (a_cons e_int (a_cons e_int (a_cons e_int a_nil)))))) a_nil)))) a_nil))) (fun _ _ => rfl))))) a_nil))))))⟩
abbrev s__law_alone : Stmt := top 54
theorem sc__law_alone : FnScope ["cells", "cell", "number", "at"] ["cells", "cell", "number"] (defScope s__law_alone) := ⟨rfl, rfl, rfl, by decide +kernel, rfl, by decide +kernel, by decide +kernel⟩
def e1__law_alone : ME := (mN gInt (mCons [] (m2 gEq [] (mVar 3) (mVar 1)) mNil))
def b__law_alone : MS := (msRet (m2 gAdd [] (mN gTupleOf (mCons [] (mLc [3, 3] [3] (setT [3]) (iRg1 (mCons [] (mVar 0) mNil)) mYes (e1__law_alone)) mNil)) (mN gTup (mCons [] (mVar 2) mNil))))
theorem ok__law_alone {f : Addr} {fd : FuncData} {k : Nat} (T : Txt w K mg cl aS eS nS aI_BadBook)  (F : Fun K "_law_alone" "_law_alone" s__law_alone f fd) : FnOk P w K mg base CX0 (k + 1) f fd ["cells", "cell", "number"] (spG K cl 3 (runDef [] 1 (b__law_alone))) :=
  fn_def2 F sc__law_alone (by decide) fun cdv A outer s H E F0 H0 io vs hr => ⟨_, (s_one (s_ret (e_op op_addAll loc_add (e_cb (loc_tupleOf) (pe_callTy call_tuple_ofF (by rfl) T.z_tuple rfl (a_cons (e_lc (vs := [3]) (tg_name (by show 3 < 4; decide) (by show 3 ∉ ([] : List Nat); decide)) (by decide) (by show ∀ i ∈ ([3] : List Nat), i ∉ ([] : List Nat); decide) (pe_lc (own := [("at", 3)]) rfl sc__law_alone.nd (i_rg1 (pi_range1 (by rfl) T.z_range (a_cons (e_var 0) a_nil))) (blkOk_by (N := ["cells", "cell", "number", "at"]) (sc := defScope s__law_alone) (by decide +kernel)) (fun _ _ _ _ _ => (pg_name (i := 3) sc__law_alone.nd rfl (by first | exact Or.inl rfl | exact Or.inr rfl))) (fun _ _ _ _ _ => ts_nil) (fun _ _ _ _ _ => (e_cb loc_int (pe_callTy call_int1 (by rfl) T.z_int rfl (a_cons (e_cmp (op_eqD hr.units) (loc_eq) (e_var 3) (e_var 1)) a_nil)))))) a_nil))) (e_tup (a_cons (e_var 2) a_nil)))))⟩
abbrev s__law_test : Stmt := top 55
theorem sc__law_test : FnScope ["hand", "cells"] ["hand", "cells"] (defScope s__law_test) := ⟨rfl, rfl, rfl, by decide +kernel, rfl, by decide +kernel, by decide +kernel⟩
def b__law_test (f__law_any : List O → Rr) (f__law_sum : List O → Rr) : MS := (msRet (mN gTup (mCons [0, 0] (mStl (mCall [0] 2 f__law_any (mCons [] (mSlot 0) (mCons [] (mStl (mN gLst (mCons [] (mC (.str "less")) (mCons [] (mC (.str "less")) (mCons [] (mC (.str "same")) mNil))))) mNil)))) (mCons [0] (mStl (mCall [0] 2 f__law_sum (mCons [] (mSlot 0) (mCons [] (mVar 1) mNil)))) (mCons [] (mStl (mCall [0] 2 f__law_sum (mCons [] (mSlot 0) (mCons [] (mVar 1) mNil)))) mNil)))))
theorem ok__law_test {f : Addr} {fd : FuncData} {k : Nat} (T : Txt w K mg cl aS eS nS aI_BadBook) {f__law_any : List O → Rr} {a__law_any : Addr} {d__law_any : FuncData} {k__law_any : Nat} (l__law_any : k__law_any ≤ k) (c__law_any : CalF P w K mg base k__law_any "_law_any" ["hand", "items"] (spG K cl 2 f__law_any) a__law_any d__law_any) {f__law_sum : List O → Rr} {a__law_sum : Addr} {d__law_sum : FuncData} {k__law_sum : Nat} (l__law_sum : k__law_sum ≤ k) (c__law_sum : CalF P w K mg base k__law_sum "_law_sum" ["hand", "cells"] (spG K cl 2 f__law_sum) a__law_sum d__law_sum) (F : Fun K "_law_test" "_law_test" s__law_test f fd) : FnOk P w K mg base CX0 (k + 1) f fd ["hand", "cells"] (spG K cl 2 (runDef [0] 0 (b__law_test f__law_any f__law_sum))) :=
  fn_def2 F sc__law_test (by decide) fun cdv A outer s H E F0 H0 io vs hr => ⟨_, (s_one (s_ret (e_tup (a_cons (e_stl (e_call [0] rfl c__law_any.ok (hr.mono (by omega)) (by rfl) c__law_any.g c__law_any.kp c__law_any.b passN (a_cons (e_slot 0) (a_cons (e_stl (e_lst (a_cons e_str (a_cons e_str (a_cons e_str a_nil))))) a_nil)))) (a_cons (e_stl (e_call [0] rfl c__law_sum.ok (hr.mono (by omega)) (by rfl) c__law_sum.g c__law_sum.kp c__law_sum.b passN (a_cons (e_slot 0) (a_cons (e_var 1) a_nil)))) (a_cons (e_stl (e_call [0] rfl c__law_sum.ok (hr.mono (by omega)) (by rfl) c__law_sum.g c__law_sum.kp c__law_sum.b passN (a_cons (e_slot 0) (a_cons (e_var 1) a_nil)))) a_nil))))))⟩
abbrev s__law_size : Stmt := top 56
theorem sc__law_size : FnScope ["body", "found", "statement", "inner", "part"] ["body"] (defScope s__law_size) := ⟨rfl, rfl, rfl, by decide +kernel, rfl, by decide +kernel, by decide +kernel⟩
def e1__law_size (f__law_size : List O → Rr) : MT := (mTest (m2 (gIn false) [] (m2 gIx [] (mVar 2) (mC (.int 0))) (mN gLst (mCons [] (mC (.str "if")) (mCons [] (mC (.str "while")) mNil)))))
def e2__law_size (f__law_size : List O → Rr) : ME := (mVar 4)
def e3__law_size (f__law_size : List O → Rr) : ME := (mStl (mCall [] 1 f__law_size (mCons [] (mVar 4) mNil)))
def e4__law_size (f__law_size : List O → Rr) : MS := (msSeq (msSet 3 (mLc [4, 4] [4] (setT [4]) (iSeq true (mStl (mSl [] (mVar 2) (oSome (mC (.int 2))) oNone))) (e1__law_size f__law_size) (e2__law_size f__law_size)))
  (msSet 1 (m2 gAdd [4, 4] (m2 gAdd [] (mVar 1) (mIf (mTest (m2 gEq [] (m2 gIx [] (mVar 2) (mC (.int 0))) (mC (.str "if")))) (mC (.int 2)) (mC (.int 1)))) (mN gSum (mCons [] (mLc [4, 4] [4] (setT [4]) (iSeq false (mVar 3)) mYes (e3__law_size f__law_size)) mNil)))))
def b__law_size (f__law_size : List O → Rr) : MS := (msSeq (msSet 1 (mC (.int 0)))
  (msSeq (msFor [2, 4, 4, 3, 4, 4, 1] (setT [2]) (iSeq true (mVar 0)) (e4__law_size f__law_size))
  (msRet (mVar 1))))
theorem ok__law_size {f : Addr} {fd : FuncData} {k : Nat} (T : Txt w K mg cl aS eS nS aI_BadBook) {f__law_size : List O → Rr} {a__law_size : Addr} {d__law_size : FuncData} {k__law_size : Nat} (l__law_size : k__law_size ≤ k) (c__law_size : CalF P w K mg base k__law_size "_law_size" ["body"] (spG K cl 1 f__law_size) a__law_size d__law_size) (F : Fun K "_law_size" "_law_size" s__law_size f fd) : FnOk P w K mg base CX0 (k + 1) f fd ["body"] (spG K cl 1 (runDef [] 4 (b__law_size f__law_size))) :=
  fn_def2 F sc__law_size (by decide) fun cdv A outer s H E F0 H0 io vs hr => ⟨_, (s_cons (s_set 1 sc__law_size.nd rfl (by first | exact Or.inl rfl | exact Or.inr rfl) e_int (by show 1 ∉ ([] : List Nat); decide) (by show 1 < 5; decide))
  (s_cons (s_for PassesOwn.never rfl (tg_name (by show 2 < 5; decide) (by show 2 ∉ ([] : List Nat); decide)) (i_tup rfl (e_var 0)) (pg_name (i := 2) sc__law_size.nd rfl (by first | exact Or.inl rfl | exact Or.inr rfl)) (s_cons (s_setLc (vs := [4]) (tg_name (by show 4 < 5; decide) (by show 4 ∉ ([] : List Nat); decide)) (by decide) (by show ∀ i ∈ ([4] : List Nat), i ∉ ([] : List Nat); decide) (by show 3 < 5; decide) (by show 3 ∉ ([] : List Nat); decide) (ps_setLc (i := 3) (own := [("part", 4)]) rfl sc__law_size.nd rfl rfl (sw_true rfl rfl rfl (by decide +kernel)) (i_tup rfl (e_stl (e_sl rfl (e_var 2) (o_some e_int) o_none))) (blkOk_by (N := ["body", "found", "statement", "inner", "part"]) (sc := defScope s__law_size) (by decide +kernel)) (fun _ _ _ _ _ => (pg_name (i := 4) sc__law_size.nd rfl (by first | exact Or.inl rfl | exact Or.inr rfl))) (fun _ _ _ _ _ => (ts_one (t_cmp op_in_seq (loc_in) (e_ix ix_seq (loc_ix) (e_var 2) e_int (fun _ _ => rfl)) (e_lst (a_cons e_str (a_cons e_str a_nil)))))) (fun _ _ _ _ _ => (e_var 4))))
  (s_one (s_set 1 sc__law_size.nd rfl (by first | exact Or.inl rfl | exact Or.inr rfl) (e_op op_addAll loc_add (e_op op_addAll loc_add (e_var 1) (e_if (t_cmp (op_eqD hr.units) (loc_eq) (e_ix ix_seq (loc_ix) (e_var 2) e_int (fun _ _ => rfl)) e_str) e_int e_int)) (e_cb (loc_sum) (pe_callB (cr_sum rfl) (by rfl) T.z_sum rfl (a_cons (e_lc (vs := [4]) (tg_name (by show 4 < 5; decide) (by show 4 ∉ ([] : List Nat); decide)) (by decide) (by show ∀ i ∈ ([4] : List Nat), i ∉ ([] : List Nat); decide) (pe_lc (own := [("part", 4)]) rfl sc__law_size.nd (i_list rfl (e_var 3)) (blkOk_by (N := ["body", "found", "statement", "inner", "part"]) (sc := defScope s__law_size) (by decide +kernel)) (fun _ _ _ _ _ => (pg_name (i := 4) sc__law_size.nd rfl (by first | exact Or.inl rfl | exact Or.inr rfl))) (fun _ _ _ _ _ => ts_nil) (fun _ _ _ _ _ => (e_stl (e_call [] rfl c__law_size.ok (hr.mono (by omega)) (by rfl) c__law_size.g c__law_size.kp c__law_size.b passN (a_cons (e_var 4) a_nil)))))) a_nil)))) (by show 1 ∉ ([] : List Nat); decide) (by show 1 < 5; decide)))))
  (s_one (s_ret (e_var 1)))))⟩
abbrev s__law_statement : Stmt := top 57
theorem sc__law_statement : FnScope ["hand", "cells", "routines", "deep", "kind", "cell", "body", "zero"] ["hand", "cells", "routines", "deep"] (defScope s__law_statement) := ⟨rfl, rfl, rfl, by decide +kernel, rfl, by decide +kernel, by decide +kernel⟩
def b__law_statement (f__law_draw : List O → Rr) (f__law_sum : List O → Rr) (f__law_alone : List O → Rr) (f__law_any : List O → Rr) (f__law_body : List O → Rr) (f__law_test : List O → Rr) : MS := (msSeq (msPar [4, 5] (mCons [0] (mCall [0] 2 f__law_draw (mCons [] (mSlot 0) (mCons [] (mC (.int 10)) mNil))) (mCons [] (mCall [0] 2 f__law_draw (mCons [] (mSlot 0) (mCons [] (mVar 1) mNil))) mNil)))
  (msSeq (msIf (mTest (m2 (gI fun i j => .bl (decide (i < j))) [] (mVar 4) (mC (.int 2)))) (msRet (mN gTup (mCons [0] (mC (.str "set")) (mCons [0] (mVar 5) (mCons [] (mStl (mCall [0] 2 f__law_sum (mCons [] (mSlot 0) (mCons [] (mVar 1) mNil)))) mNil))))) msNil)
  (msSeq (msIf (mTest (m2 (gI fun i j => .bl (decide (i < j))) [] (mVar 4) (mC (.int 4)))) (msRet (mN gTup (mCons [0] (mC (.str "say")) (mCons [] (mStl (mCall [0] 2 f__law_sum (mCons [] (mSlot 0) (mCons [] (mVar 1) mNil)))) mNil)))) msNil)
  (msSeq (msIf (mTest (m2 gEq [] (mVar 4) (mC (.int 4)))) (msRet (mN gTup (mCons [0] (mC (.str "call")) (mCons [] (mStl (mCall [0] 2 f__law_draw (mCons [] (mSlot 0) (mCons [] (mVar 2) mNil)))) mNil)))) msNil)
  (msSeq (msIf (tmOr (mTest (m2 (gI fun i j => .bl (decide (j < i))) [] (mVar 3) (mC (.int 7)))) (mTest (m2 gEq [] (mVar 4) (mC (.int 5))))) (msRet (mN gTup (mCons [0] (mC (.str "set")) (mCons [0] (mVar 5) (mCons [] (mStl (mCall [] 3 f__law_alone (mCons [0] (mVar 1) (mCons [0] (mVar 5) (mCons [] (mStl (mCall [0] 2 f__law_any (mCons [] (mSlot 0) (mCons [] (mStl (mN gLst (mCons [] (m1 gNeg (mC (.int 1))) (mCons [] (mC (.int 1)) (mCons [] (mC (.int 2)) (mCons [] (m1 gNeg (mC (.int 3))) mNil)))))) mNil)))) mNil))))) mNil))))) msNil)
  (msSeq (msIf (mTest (m2 (gI fun i j => .bl (decide (i < j))) [] (mVar 4) (mC (.int 8)))) (msSeq (msSet 6 (mCall [0] 4 f__law_body (mCons [] (mSlot 0) (mCons [] (mVar 1) (mCons [] (mVar 2) (mCons [] (mStl (m2 gAdd [] (mVar 3) (mC (.int 1)))) mNil))))))
  (msRet (mN gTup (mCons [0, 0] (mC (.str "if")) (mCons [0] (mStl (mCall [0] 2 f__law_test (mCons [] (mSlot 0) (mCons [] (mVar 1) mNil)))) (mCons [0] (mVar 6) (mCons [] (mStl (mCall [0] 4 f__law_body (mCons [] (mSlot 0) (mCons [] (mVar 1) (mCons [] (mVar 2) (mCons [] (mStl (m2 gAdd [] (mVar 3) (mC (.int 1)))) mNil)))))) mNil))))))) msNil)
  (msSeq (msSet 6 (mCall [0] 4 f__law_body (mCons [] (mSlot 0) (mCons [] (mVar 1) (mCons [] (mVar 2) (mCons [] (mStl (m2 gAdd [] (mVar 3) (mC (.int 1)))) mNil))))))
  (msSeq (msIf (mTest (m2 gEq [] (mVar 4) (mC (.int 8)))) (msRet (mN gTup (mCons [0] (mC (.str "while")) (mCons [] (mStl (mCall [0] 2 f__law_test (mCons [] (mSlot 0) (mCons [] (mVar 1) mNil)))) (mCons [] (mVar 6) mNil))))) msNil)
  (msSeq (msSet 7 (m2 gMul [] (mN gTup (mCons [] (mC (.int 0)) mNil)) (m2 gAdd [] (mVar 1) (mC (.int 1)))))
  (msRet (mN gTup (mCons [] (mC (.str "while")) (mCons [] (mN gTup (mCons [] (mC (.str "less")) (mCons [] (mVar 7) (mCons [] (mStl (mCall [] 3 f__law_alone (mCons [] (mVar 1) (mCons [] (mVar 5) (mCons [] (mC (.int 0)) mNil))))) mNil)))) (mCons [] (mStl (m2 gAdd [] (mVar 6) (mN gTup (mCons [] (mN gTup (mCons [] (mC (.str "set")) (mCons [] (mVar 5) (mCons [] (mStl (mCall [] 3 f__law_alone (mCons [] (mVar 1) (mCons [] (mVar 5) (mCons [] (m1 gNeg (mC (.int 1))) mNil))))) mNil)))) mNil)))) mNil))))))))))))))
theorem ok__law_statement {f : Addr} {fd : FuncData} {k : Nat} (T : Txt w K mg cl aS eS nS aI_BadBook) {f__law_draw : List O → Rr} {a__law_draw : Addr} {d__law_draw : FuncData} {k__law_draw : Nat} (l__law_draw : k__law_draw ≤ k) (c__law_draw : CalF P w K mg base k__law_draw "_law_draw" ["hand", "many"] (spG K cl 2 f__law_draw) a__law_draw d__law_draw) {f__law_sum : List O → Rr} {a__law_sum : Addr} {d__law_sum : FuncData} {k__law_sum : Nat} (l__law_sum : k__law_sum ≤ k) (c__law_sum : CalF P w K mg base k__law_sum "_law_sum" ["hand", "cells"] (spG K cl 2 f__law_sum) a__law_sum d__law_sum) {f__law_alone : List O → Rr} {a__law_alone : Addr} {d__law_alone : FuncData} {k__law_alone : Nat} (l__law_alone : k__law_alone ≤ k) (c__law_alone : CalF P w K mg base k__law_alone "_law_alone" ["cells", "cell", "number"] (spG K cl 3 f__law_alone) a__law_alone d__law_alone) {f__law_any : List O → Rr} {a__law_any : Addr} {d__law_any : FuncData} {k__law_any : Nat} (l__law_any : k__law_any ≤ k) (c__law_any : CalF P w K mg base k__law_any "_law_any" ["hand", "items"] (spG K cl 2 f__law_any) a__law_any d__law_any) {f__law_body : List O → Rr} {a__law_body : Addr} {d__law_body : FuncData} {k__law_body : Nat} (l__law_body : k__law_body ≤ k) (c__law_body : CalF P w K mg base k__law_body "_law_body" ["hand", "cells", "routines", "deep"] (spG K cl 4 f__law_body) a__law_body d__law_body) {f__law_test : List O → Rr} {a__law_test : Addr} {d__law_test : FuncData} {k__law_test : Nat} (l__law_test : k__law_test ≤ k) (c__law_test : CalF P w K mg base k__law_test "_law_test" ["hand", "cells"] (spG K cl 2 f__law_test) a__law_test d__law_test) (F : Fun K "_law_statement" "_law_statement" s__law_statement f fd) : FnOk P w K mg base CX0 (k + 1) f fd ["hand", "cells", "routines", "deep"] (spG K cl 4 (runDef [0] 4 (b__law_statement f__law_draw f__law_sum f__law_alone f__law_any f__law_body f__law_test))) :=
  fn_def2 F sc__law_statement (by decide) fun cdv A outer s H E F0 H0 io vs hr => ⟨_, (s_cons (s_par2 (by show ∀ i ∈ ([4, 5] : List Nat), i < 8 ∧ i ∉ ([0] : List Nat); decide) (ps_par rfl sc__law_statement.nd rfl rfl (by decide) rfl rfl (d_cons (e_call [0] rfl c__law_draw.ok (hr.mono (by omega)) (by rfl) c__law_draw.g c__law_draw.kp c__law_draw.b passN (a_cons (e_slot 0) (a_cons e_int a_nil))) (d_cons (e_call [0] rfl c__law_draw.ok (hr.mono (by omega)) (by rfl) c__law_draw.g c__law_draw.kp c__law_draw.b passN (a_cons (e_slot 0) (a_cons (e_var 1) a_nil))) d_nil)) (by with_unfolding_all rfl)))
  (s_cons (s_if (t_cmp op_lt loc_lt (e_var 4) e_int) (s_one (s_ret (e_tup (a_cons e_str (a_cons (e_var 5) (a_cons (e_stl (e_call [0] rfl c__law_sum.ok (hr.mono (by omega)) (by rfl) c__law_sum.g c__law_sum.kp c__law_sum.b passN (a_cons (e_slot 0) (a_cons (e_var 1) a_nil)))) a_nil)))))) s_nil)
  (s_cons (s_if (t_cmp op_lt loc_lt (e_var 4) e_int) (s_one (s_ret (e_tup (a_cons e_str (a_cons (e_stl (e_call [0] rfl c__law_sum.ok (hr.mono (by omega)) (by rfl) c__law_sum.g c__law_sum.kp c__law_sum.b passN (a_cons (e_slot 0) (a_cons (e_var 1) a_nil)))) a_nil))))) s_nil)
  (s_cons (s_if (t_cmp (op_eqD hr.units) (loc_eq) (e_var 4) e_int) (s_one (s_ret (e_tup (a_cons e_str (a_cons (e_stl (e_call [0] rfl c__law_draw.ok (hr.mono (by omega)) (by rfl) c__law_draw.g c__law_draw.kp c__law_draw.b passN (a_cons (e_slot 0) (a_cons (e_var 2) a_nil)))) a_nil))))) s_nil)
  (s_cons (s_if (t_w (w_or (t_cmp op_gt loc_gt (e_var 3) e_int) (w_or1 (t_cmp (op_eqD hr.units) (loc_eq) (e_var 4) e_int)))) (s_one (s_ret (e_tup (a_cons e_str (a_cons (e_var 5) (a_cons (e_stl (e_call [] rfl c__law_alone.ok (hr.mono (by omega)) (by rfl) c__law_alone.g c__law_alone.kp c__law_alone.b passN (a_cons (e_var 1) (a_cons (e_var 5) (a_cons (e_stl (e_call [0] rfl c__law_any.ok (hr.mono (by omega)) (by rfl) c__law_any.g c__law_any.kp c__law_any.b passN (a_cons (e_slot 0) (a_cons (e_stl (e_lst (a_cons (e_un un_neg loc_neg e_int) (a_cons e_int (a_cons e_int (a_cons (e_un un_neg loc_neg e_int) a_nil)))))) a_nil)))) a_nil))))) a_nil)))))) s_nil)
  (s_cons (s_if (t_cmp op_lt loc_lt (e_var 4) e_int) (s_cons (s_set 6 sc__law_statement.nd rfl (by first | exact Or.inl rfl | exact Or.inr rfl) (e_call [0] rfl c__law_body.ok (hr.mono (by omega)) (by rfl) c__law_body.g c__law_body.kp c__law_body.b passN (a_cons (e_slot 0) (a_cons (e_var 1) (a_cons (e_var 2) (a_cons (e_stl (e_op op_addAll loc_add (e_var 3) e_int)) a_nil))))) (by show 6 ∉ ([0] : List Nat); decide) (by show 6 < 8; decide))
  (s_one (s_ret (e_tup (a_cons e_str (a_cons (e_stl (e_call [0] rfl c__law_test.ok (hr.mono (by omega)) (by rfl) c__law_test.g c__law_test.kp c__law_test.b passN (a_cons (e_slot 0) (a_cons (e_var 1) a_nil)))) (a_cons (e_var 6) (a_cons (e_stl (e_call [0] rfl c__law_body.ok (hr.mono (by omega)) (by rfl) c__law_body.g c__law_body.kp c__law_body.b passN (a_cons (e_slot 0) (a_cons (e_var 1) (a_cons (e_var 2) (a_cons (e_stl (e_op op_addAll loc_add (e_var 3) e_int)) a_nil)))))) a_nil)))))))) s_nil)
  (s_cons (s_set 6 sc__law_statement.nd rfl (by first | exact Or.inl rfl | exact Or.inr rfl) (e_call [0] rfl c__law_body.ok (hr.mono (by omega)) (by rfl) c__law_body.g c__law_body.kp c__law_body.b passN (a_cons (e_slot 0) (a_cons (e_var 1) (a_cons (e_var 2) (a_cons (e_stl (e_op op_addAll loc_add (e_var 3) e_int)) a_nil))))) (by show 6 ∉ ([0] : List Nat); decide) (by show 6 < 8; decide))
  (s_cons (s_if (t_cmp (op_eqD hr.units) (loc_eq) (e_var 4) e_int) (s_one (s_ret (e_tup (a_cons e_str (a_cons (e_stl (e_call [0] rfl c__law_test.ok (hr.mono (by omega)) (by rfl) c__law_test.g c__law_test.kp c__law_test.b passN (a_cons (e_slot 0) (a_cons (e_var 1) a_nil)))) (a_cons (e_var 6) a_nil)))))) s_nil)
  (s_cons (s_set 7 sc__law_statement.nd rfl (by first | exact Or.inl rfl | exact Or.inr rfl) (e_op op_mulAll (loc_mul) (e_tup (a_cons e_int a_nil)) (e_op op_addAll loc_add (e_var 1) e_int)) (by show 7 ∉ ([0] : List Nat); decide) (by show 7 < 8; decide))
  (s_one (s_ret (e_tup (a_cons e_str (a_cons (e_tup (a_cons e_str (a_cons (e_var 7) (a_cons (e_stl (e_call [] rfl c__law_alone.ok (hr.mono (by omega)) (by rfl) c__law_alone.g c__law_alone.kp c__law_alone.b passN (a_cons (e_var 1) (a_cons (e_var 5) (a_cons e_int a_nil))))) a_nil)))) (a_cons (e_stl (e_op op_addAll loc_add (e_var 6) (e_tup (a_cons (e_tup (a_cons e_str (a_cons (e_var 5) (a_cons (e_stl (e_call [] rfl c__law_alone.ok (hr.mono (by omega)) (by rfl) c__law_alone.g c__law_alone.kp c__law_alone.b passN (a_cons (e_var 1) (a_cons (e_var 5) (a_cons (e_un un_neg loc_neg e_int) a_nil))))) a_nil)))) a_nil)))) a_nil)))))))))))))))⟩
abbrev s__law_body : Stmt := top 58
theorem sc__law_body : FnScope ["hand", "cells", "routines", "deep", "found", "turn"] ["hand", "cells", "routines", "deep"] (defScope s__law_body) := ⟨rfl, rfl, rfl, by decide +kernel, rfl, by decide +kernel, by decide +kernel⟩
def e1__law_body (f__law_draw : List O → Rr) (f__law_statement : List O → Rr) (f__law_size : List O → Rr) : MS := (msSet 4 (m2 gAdd [0] (mVar 4) (mN gTup (mCons [] (mStl (mCall [0] 4 f__law_statement (mCons [] (mSlot 0) (mCons [] (mVar 1) (mCons [] (mVar 2) (mCons [] (mVar 3) mNil)))))) mNil))))
def b__law_body (f__law_draw : List O → Rr) (f__law_statement : List O → Rr) (f__law_size : List O → Rr) : MS := (msSeq (msSet 4 (mN gTup mNil))
  (msSeq (msFor [5, 0, 4] (setT [5]) (iRg1 (mCons [] (mCall [0] 2 f__law_draw (mCons [] (mSlot 0) (mCons [] (m2 (gI fun i j => .int (i - j)) [] (mC (.int 5)) (mN gMin2 (mCons [] (mC (.int 3)) (mCons [] (m2 (gIc cDiv fun i j => .int (i / j)) [] (mVar 3) (mC (.int 2))) mNil)))) mNil))) mNil)) (e1__law_body f__law_draw f__law_statement f__law_size))
  (msRet (mIf (mTest (m2 (gI fun i j => .bl (decide (i < j))) [] (mCall [] 1 f__law_size (mCons [] (mVar 4) mNil)) (mC (.int 37)))) (mVar 4) (mIf (mTest (m2 (gI fun i j => .bl (decide (i < j))) [] (mCall [] 1 f__law_size (mCons [] (mStl (mSl [] (mVar 4) oNone (oSome (mC (.int 1))))) mNil)) (mC (.int 37)))) (mSl [] (mVar 4) oNone (oSome (mC (.int 1)))) (mN gTup mNil))))))
theorem ok__law_body {f : Addr} {fd : FuncData} {k : Nat} (T : Txt w K mg cl aS eS nS aI_BadBook) {f__law_draw : List O → Rr} {a__law_draw : Addr} {d__law_draw : FuncData} {k__law_draw : Nat} (l__law_draw : k__law_draw ≤ k) (c__law_draw : CalF P w K mg base k__law_draw "_law_draw" ["hand", "many"] (spG K cl 2 f__law_draw) a__law_draw d__law_draw) {f__law_statement : List O → Rr} {a__law_statement : Addr} {d__law_statement : FuncData} {k__law_statement : Nat} (l__law_statement : k__law_statement ≤ k) (c__law_statement : CalF P w K mg base k__law_statement "_law_statement" ["hand", "cells", "routines", "deep"] (spG K cl 4 f__law_statement) a__law_statement d__law_statement) {f__law_size : List O → Rr} {a__law_size : Addr} {d__law_size : FuncData} {k__law_size : Nat} (l__law_size : k__law_size ≤ k) (c__law_size : CalF P w K mg base k__law_size "_law_size" ["body"] (spG K cl 1 f__law_size) a__law_size d__law_size) (F : Fun K "_law_body" "_law_body" s__law_body f fd) : FnOk P w K mg base CX0 (k + 1) f fd ["hand", "cells", "routines", "deep"] (spG K cl 4 (runDef [0] 2 (b__law_body f__law_draw f__law_statement f__law_size))) :=
  fn_def2 F sc__law_body (by decide) fun cdv A outer s H E F0 H0 io vs hr => ⟨_, (s_cons (s_set 4 sc__law_body.nd rfl (by first | exact Or.inl rfl | exact Or.inr rfl) (e_tup a_nil) (by show 4 ∉ ([0] : List Nat); decide) (by show 4 < 6; decide))
  (s_cons (s_for PassesOwn.never rfl (tg_name (by show 5 < 6; decide) (by show 5 ∉ ([0] : List Nat); decide)) (i_rg1 (pi_range1 (by rfl) T.z_range (a_cons (e_call [0] rfl c__law_draw.ok (hr.mono (by omega)) (by rfl) c__law_draw.g c__law_draw.kp c__law_draw.b passN (a_cons (e_slot 0) (a_cons (e_op op_sub loc_sub e_int (e_cb loc_min2 (pe_callB (call_min2 rfl) (by rfl) T.z_min rfl (a_cons e_int (a_cons (e_op op_fdiv loc_fdiv (e_var 3) e_int) a_nil))))) a_nil))) a_nil))) (pg_name (i := 5) sc__law_body.nd rfl (by first | exact Or.inl rfl | exact Or.inr rfl)) (s_one (s_set 4 sc__law_body.nd rfl (by first | exact Or.inl rfl | exact Or.inr rfl) (e_op op_addAll loc_add (e_var 4) (e_tup (a_cons (e_stl (e_call [0] rfl c__law_statement.ok (hr.mono (by omega)) (by rfl) c__law_statement.g c__law_statement.kp c__law_statement.b passN (a_cons (e_slot 0) (a_cons (e_var 1) (a_cons (e_var 2) (a_cons (e_var 3) a_nil)))))) a_nil))) (by show 4 ∉ ([0] : List Nat); decide) (by show 4 < 6; decide))))
  (s_one (s_ret (e_if (t_cmp op_lt loc_lt (e_call [] rfl c__law_size.ok (hr.mono (by omega)) (by rfl) c__law_size.g c__law_size.kp c__law_size.b passN (a_cons (e_var 4) a_nil)) e_int) (e_var 4) (e_if (t_cmp op_lt loc_lt (e_call [] rfl c__law_size.ok (hr.mono (by omega)) (by rfl) c__law_size.g c__law_size.kp c__law_size.b passN (a_cons (e_stl (e_sl rfl (e_var 4) o_none (o_some e_int))) a_nil)) e_int) (e_sl rfl (e_var 4) o_none (o_some e_int)) (e_tup a_nil)))))))⟩
abbrev s__law_parts : Stmt := top 59
theorem sc__law_parts : FnScope ["hand", "cells", "many", "found", "number", "body"] ["hand"] (defScope s__law_parts) := ⟨rfl, rfl, rfl, by decide +kernel, rfl, by decide +kernel, by decide +kernel⟩
def e1__law_parts (f__law_draw : List O → Rr) (f__law_body : List O → Rr) : MS := (msSeq (msSet 5 (mCall [0] 4 f__law_body (mCons [] (mSlot 0) (mCons [] (mVar 1) (mCons [] (mVar 2) (mCons [] (mC (.int 1)) mNil))))))
  (msSet 3 (m2 gAdd [] (mVar 3) (mN gTup (mCons [] (mVar 5) mNil)))))
def b__law_parts (f__law_draw : List O → Rr) (f__law_body : List O → Rr) : MS := (msSeq (msPar [1, 2, 3] (mCons [0] (m2 gAdd [0] (mC (.int 1)) (mCall [0] 2 f__law_draw (mCons [] (mSlot 0) (mCons [] (mC (.int 4)) mNil)))) (mCons [] (m2 gAdd [0] (mC (.int 1)) (mCall [0] 2 f__law_draw (mCons [] (mSlot 0) (mCons [] (mC (.int 5)) mNil)))) (mCons [] (mN gTup mNil) mNil))))
  (msSeq (msFor [4, 0, 5, 3] (setT [4]) (iRg1 (mCons [] (mVar 2) mNil)) (e1__law_parts f__law_draw f__law_body))
  (msRet (mN gTup (mCons [] (mVar 1) (mCons [] (mVar 3) mNil))))))
theorem ok__law_parts {f : Addr} {fd : FuncData} {k : Nat} (T : Txt w K mg cl aS eS nS aI_BadBook) {f__law_draw : List O → Rr} {a__law_draw : Addr} {d__law_draw : FuncData} {k__law_draw : Nat} (l__law_draw : k__law_draw ≤ k) (c__law_draw : CalF P w K mg base k__law_draw "_law_draw" ["hand", "many"] (spG K cl 2 f__law_draw) a__law_draw d__law_draw) {f__law_body : List O → Rr} {a__law_body : Addr} {d__law_body : FuncData} {k__law_body : Nat} (l__law_body : k__law_body ≤ k) (c__law_body : CalF P w K mg base k__law_body "_law_body" ["hand", "cells", "routines", "deep"] (spG K cl 4 f__law_body) a__law_body d__law_body) (F : Fun K "_law_parts" "_law_parts" s__law_parts f fd) : FnOk P w K mg base CX0 (k + 1) f fd ["hand"] (spG K cl 1 (runDef [0] 5 (b__law_parts f__law_draw f__law_body))) :=
  fn_def2 F sc__law_parts (by decide) fun cdv A outer s H E F0 H0 io vs hr => ⟨_, (s_cons (s_par3 (by show ∀ i ∈ ([1, 2, 3] : List Nat), i < 6 ∧ i ∉ ([0] : List Nat); decide) (ps_par3 rfl sc__law_parts.nd rfl rfl rfl (by decide) (by decide) (by decide) rfl rfl rfl (d_cons (e_op op_addAll loc_add e_int (e_call [0] rfl c__law_draw.ok (hr.mono (by omega)) (by rfl) c__law_draw.g c__law_draw.kp c__law_draw.b passN (a_cons (e_slot 0) (a_cons e_int a_nil)))) (d_cons (e_op op_addAll loc_add e_int (e_call [0] rfl c__law_draw.ok (hr.mono (by omega)) (by rfl) c__law_draw.g c__law_draw.kp c__law_draw.b passN (a_cons (e_slot 0) (a_cons e_int a_nil)))) (d_cons (e_tup a_nil) d_nil))) (by with_unfolding_all rfl)))
  (s_cons (s_for PassesOwn.never rfl (tg_name (by show 4 < 6; decide) (by show 4 ∉ ([0] : List Nat); decide)) (i_rg1 (pi_range1 (by rfl) T.z_range (a_cons (e_var 2) a_nil))) (pg_name (i := 4) sc__law_parts.nd rfl (by first | exact Or.inl rfl | exact Or.inr rfl)) (s_cons (s_set 5 sc__law_parts.nd rfl (by first | exact Or.inl rfl | exact Or.inr rfl) (e_call [0] rfl c__law_body.ok (hr.mono (by omega)) (by rfl) c__law_body.g c__law_body.kp c__law_body.b passN (a_cons (e_slot 0) (a_cons (e_var 1) (a_cons (e_var 2) (a_cons e_int a_nil))))) (by show 5 ∉ ([0] : List Nat); decide) (by show 5 < 6; decide))
  (s_one (s_set 3 sc__law_parts.nd rfl (by first | exact Or.inl rfl | exact Or.inr rfl) (e_op op_addAll loc_add (e_var 3) (e_tup (a_cons (e_var 5) a_nil))) (by show 3 ∉ ([0] : List Nat); decide) (by show 3 < 6; decide)))))
  (s_one (s_ret (e_tup (a_cons (e_var 1) (a_cons (e_var 3) a_nil)))))))⟩
abbrev s__law_odd : Stmt := top 60
theorem sc__law_odd : FnScope ["hand", "program", "some"] ["hand", "program"] (defScope s__law_odd) := ⟨rfl, rfl, rfl, by decide +kernel, rfl, by decide +kernel, by decide +kernel⟩
def b__law_odd (f__law_any : List O → Rr) (f__law_nested : List O → Rr) : MS := (msSeq (msSet 2 (mN gLst (mCons [] (mC .non) (mCons [] (mC (.bl true)) (mCons [] (mC (.bl false)) (mCons [] (mC (.int 0)) (mCons [] (mC (.int 1)) (mCons [] (m1 gNeg (mC (.int 1))) (mCons [] (mC (.int 1001)) (mCons [] (m1 gNeg (mC (.int 1000))) (mCons [] (mC (.str "say")) (mCons [] (mC (.str "less")) (mCons [] (mC (.str "if")) (mCons [] (mN gTup mNil) (mCons [] (mStl (mN gLst mNil)) (mCons [] (mStl mDT0) (mCons [] (mN gTup (mCons [] (mC (.int 0)) mNil)) (mCons [] (mN gTup (mCons [] (mC (.int 0)) (mCons [] (mC (.int 0)) mNil))) (mCons [] (m2 (gIc cPow2 fun i j => .int (i ^ j.toNat)) [] (mC (.int 10)) (mC (.int 19))) (mCons [] (mVar 1) mNil))))))))))))))))))))
  (msSeq (msSet 2 (m2 gAdd [] (mVar 2) (mN gLst (mCons [] (mN gTup (mCons [] (mN gTup (mCons [] (mC (.str "say")) (mCons [] (mN gTup (mCons [] (mC (.int 0)) (mCons [] (mC (.int 0)) mNil))) mNil))) mNil)) (mCons [] (mN gTup (mCons [] (mC (.str "say")) (mCons [] (mN gTup (mCons [] (mC (.int 0)) (mCons [] (mC (.int 0)) mNil))) mNil))) (mCons [] (mN gTup (mCons [] (mC (.str "call")) (mCons [] (mC (.int 0)) mNil))) (mCons [] (mN gTup (mCons [] (mC (.str "set")) (mCons [] (mC (.int 0)) (mCons [] (mN gTup (mCons [] (mC (.int 0)) (mCons [] (mC (.int 0)) mNil))) mNil)))) mNil)))))))
  (msRet (mCall [0] 2 f__law_any (mCons [0] (mSlot 0) (mCons [] (mStl (m2 gAdd [0] (mVar 2) (mN gLst (mCons [] (mStl (mCall [0] 1 f__law_nested (mCons [] (mSlot 0) mNil))) mNil)))) mNil))))))
theorem ok__law_odd {f : Addr} {fd : FuncData} {k : Nat} (T : Txt w K mg cl aS eS nS aI_BadBook) {f__law_any : List O → Rr} {a__law_any : Addr} {d__law_any : FuncData} {k__law_any : Nat} (l__law_any : k__law_any ≤ k) (c__law_any : CalF P w K mg base k__law_any "_law_any" ["hand", "items"] (spG K cl 2 f__law_any) a__law_any d__law_any) {f__law_nested : List O → Rr} {a__law_nested : Addr} {d__law_nested : FuncData} {k__law_nested : Nat} (l__law_nested : k__law_nested ≤ k) (c__law_nested : CalF P w K mg base k__law_nested "_law_nested" ["hand"] (spG K cl 1 f__law_nested) a__law_nested d__law_nested) (F : Fun K "_law_odd" "_law_odd" s__law_odd f fd) : FnOk P w K mg base CX0 (k + 1) f fd ["hand", "program"] (spG K cl 2 (runDef [0] 1 (b__law_odd f__law_any f__law_nested))) :=
  fn_def2 F sc__law_odd (by decide) fun cdv A outer s H E F0 H0 io vs hr => ⟨_, (s_cons (s_set 2 sc__law_odd.nd rfl (by first | exact Or.inl rfl | exact Or.inr rfl) (e_lst (a_cons e_non (a_cons e_bl (a_cons e_bl (a_cons e_int (a_cons e_int (a_cons (e_un un_neg loc_neg e_int) (a_cons e_int (a_cons (e_un un_neg loc_neg e_int) (a_cons e_str (a_cons e_str (a_cons e_str (a_cons (e_tup a_nil) (a_cons (e_stl (e_lst a_nil)) (a_cons (e_stl e_dt0) (a_cons (e_tup (a_cons e_int a_nil)) (a_cons (e_tup (a_cons e_int (a_cons e_int a_nil))) (a_cons (e_op op_powW loc_powW e_int e_int) (a_cons (e_var 1) a_nil))))))))))))))))))) (by show 2 ∉ ([0] : List Nat); decide) (by show 2 < 3; decide))
  (s_cons (s_set 2 sc__law_odd.nd rfl (by first | exact Or.inl rfl | exact Or.inr rfl) (e_op op_addAll loc_add (e_var 2) (e_lst (a_cons (e_tup (a_cons (e_tup (a_cons e_str (a_cons (e_tup (a_cons e_int (a_cons e_int a_nil))) a_nil))) a_nil)) (a_cons (e_tup (a_cons e_str (a_cons (e_tup (a_cons e_int (a_cons e_int a_nil))) a_nil))) (a_cons (e_tup (a_cons e_str (a_cons e_int a_nil))) (a_cons (e_tup (a_cons e_str (a_cons e_int (a_cons (e_tup (a_cons e_int (a_cons e_int a_nil))) a_nil)))) a_nil)))))) (by show 2 ∉ ([0] : List Nat); decide) (by show 2 < 3; decide))
  (s_one (s_ret (e_call [0] rfl c__law_any.ok (hr.mono (by omega)) (by rfl) c__law_any.g c__law_any.kp c__law_any.b passN (a_cons (e_slot 0) (a_cons (e_stl (e_op op_addAll loc_add (e_var 2) (e_lst (a_cons (e_stl (e_call [0] rfl c__law_nested.ok (hr.mono (by omega)) (by rfl) c__law_nested.g c__law_nested.kp c__law_nested.b passN (a_cons (e_slot 0) a_nil))) a_nil)))) a_nil)))))))⟩
abbrev s__law_bent : Stmt := top 61
theorem sc__law_bent : FnScope ["hand", "thing", "odd", "deep", "at", "way"] ["hand", "thing", "odd", "deep"] (defScope s__law_bent) := ⟨rfl, rfl, rfl, by decide +kernel, rfl, by decide +kernel, by decide +kernel⟩
def b__law_bent (f__law_draw : List O → Rr) (f__law_bent : List O → Rr) : MS := (msSeq (msIf (tmOr (tmNot (mTest (mN (gIsiX [0, 1]) (mCons [] (mVar 1) (mCons [] (mC (.ty "tuple")) mNil))))) (tmOr (mTest (m2 gEq [] (mN gLen (mCons [] (mVar 1) mNil)) (mC (.int 0)))) (tmOr (mTest (m2 gEq [] (mVar 3) (mC (.int 0)))) (mTest (m2 gEq [] (mCall [0] 2 f__law_draw (mCons [] (mSlot 0) (mCons [] (mC (.int 8)) mNil))) (mC (.int 0))))))) (msRet (mVar 2)) msNil)
  (msSeq (msPar [4, 5] (mCons [0] (mCall [0] 2 f__law_draw (mCons [] (mSlot 0) (mCons [] (mN gLen (mCons [] (mVar 1) mNil)) mNil))) (mCons [] (mCall [0] 2 f__law_draw (mCons [] (mSlot 0) (mCons [] (mC (.int 12)) mNil))) mNil)))
  (msSeq (msIf (mTest (m2 gEq [] (mVar 5) (mC (.int 0)))) (msRet (m2 gAdd [] (mSl [] (mVar 1) oNone (oSome (mVar 4))) (mSl [] (mVar 1) (oSome (m2 gAdd [] (mVar 4) (mC (.int 1)))) oNone))) msNil)
  (msSeq (msIf (mTest (m2 gEq [] (mVar 5) (mC (.int 1)))) (msRet (m2 gAdd [] (m2 gAdd [] (mSl [] (mVar 1) oNone (oSome (mVar 4))) (mSl [] (mVar 1) (oSome (mVar 4)) (oSome (m2 gAdd [] (mVar 4) (mC (.int 1)))))) (mSl [] (mVar 1) (oSome (mVar 4)) oNone))) msNil)
  (msSeq (msIf (mTest (m2 gEq [] (mVar 5) (mC (.int 2)))) (msRet (m2 gAdd [] (m2 gAdd [] (mSl [] (mVar 1) oNone (oSome (mVar 4))) (m1 gRevT (mSl [] (mVar 1) (oSome (mVar 4)) (oSome (m2 gAdd [] (mVar 4) (mC (.int 2))))))) (mSl [] (mVar 1) (oSome (m2 gAdd [] (mVar 4) (mC (.int 2)))) oNone))) msNil)
  (msSeq (msIf (mTest (m2 gEq [] (mVar 5) (mC (.int 3)))) (msRet (mN gListOf (mCons [] (mVar 1) mNil))) msNil)
  (msRet (m2 gAdd [] (m2 gAdd [0] (mSl [] (mVar 1) oNone (oSome (mVar 4))) (mN gTup (mCons [] (mStl (mCall [0] 4 f__law_bent (mCons [] (mSlot 0) (mCons [] (m2 gIx [] (mVar 1) (mVar 4)) (mCons [] (mVar 2) (mCons [] (m2 (gI fun i j => .int (i - j)) [] (mVar 3) (mC (.int 1))) mNil)))))) mNil))) (mSl [] (mVar 1) (oSome (m2 gAdd [] (mVar 4) (mC (.int 1)))) oNone)))))))))
theorem ok__law_bent {f : Addr} {fd : FuncData} {k : Nat} (T : Txt w K mg cl aS eS nS aI_BadBook) {f__law_draw : List O → Rr} {a__law_draw : Addr} {d__law_draw : FuncData} {k__law_draw : Nat} (l__law_draw : k__law_draw ≤ k) (c__law_draw : CalF P w K mg base k__law_draw "_law_draw" ["hand", "many"] (spG K cl 2 f__law_draw) a__law_draw d__law_draw) {f__law_bent : List O → Rr} {a__law_bent : Addr} {d__law_bent : FuncData} {k__law_bent : Nat} (l__law_bent : k__law_bent ≤ k) (c__law_bent : CalF P w K mg base k__law_bent "_law_bent" ["hand", "thing", "odd", "deep"] (spG K cl 4 f__law_bent) a__law_bent d__law_bent) (F : Fun K "_law_bent" "_law_bent" s__law_bent f fd) : FnOk P w K mg base CX0 (k + 1) f fd ["hand", "thing", "odd", "deep"] (spG K cl 4 (runDef [0] 2 (b__law_bent f__law_draw f__law_bent))) :=
  fn_def2 F sc__law_bent (by decide) fun cdv A outer s H E F0 H0 io vs hr => ⟨_, (s_cons (s_if (t_w (w_or (t_not (t_val (e_cb (loc_isiX T.own) (pe_callB call_isi (by rfl) T.z_isinstance rfl (a_cons (e_var 1) (a_cons (e_ty (by rfl) T.z_tuple rfl) a_nil)))))) (w_or (t_cmp (op_eqD hr.units) (loc_eq) (e_cb (loc_len) (pe_callB call_len (by rfl) T.z_len rfl (a_cons (e_var 1) a_nil))) e_int) (w_or (t_cmp (op_eqD hr.units) (loc_eq) (e_var 3) e_int) (w_or1 (t_cmp (op_eqD hr.units) (loc_eq) (e_call [0] rfl c__law_draw.ok (hr.mono (by omega)) (by rfl) c__law_draw.g c__law_draw.kp c__law_draw.b passN (a_cons (e_slot 0) (a_cons e_int a_nil))) e_int)))))) (s_one (s_ret (e_var 2))) s_nil)
  (s_cons (s_par2 (by show ∀ i ∈ ([4, 5] : List Nat), i < 6 ∧ i ∉ ([0] : List Nat); decide) (ps_par rfl sc__law_bent.nd rfl rfl (by decide) rfl rfl (d_cons (e_call [0] rfl c__law_draw.ok (hr.mono (by omega)) (by rfl) c__law_draw.g c__law_draw.kp c__law_draw.b passN (a_cons (e_slot 0) (a_cons (e_cb (loc_len) (pe_callB call_len (by rfl) T.z_len rfl (a_cons (e_var 1) a_nil))) a_nil))) (d_cons (e_call [0] rfl c__law_draw.ok (hr.mono (by omega)) (by rfl) c__law_draw.g c__law_draw.kp c__law_draw.b passN (a_cons (e_slot 0) (a_cons e_int a_nil))) d_nil)) (by with_unfolding_all rfl)))
  (s_cons (s_if (t_cmp (op_eqD hr.units) (loc_eq) (e_var 5) e_int) (s_one (s_ret (e_op op_addAll loc_add (e_sl rfl (e_var 1) o_none (o_some (e_var 4))) (e_sl rfl (e_var 1) (o_some (e_op op_addAll loc_add (e_var 4) e_int)) o_none)))) s_nil)
  (s_cons (s_if (t_cmp (op_eqD hr.units) (loc_eq) (e_var 5) e_int) (s_one (s_ret (e_op op_addAll loc_add (e_op op_addAll loc_add (e_sl rfl (e_var 1) o_none (o_some (e_var 4))) (e_sl rfl (e_var 1) (o_some (e_var 4)) (o_some (e_op op_addAll loc_add (e_var 4) e_int)))) (e_sl rfl (e_var 1) (o_some (e_var 4)) o_none)))) s_nil)
  (s_cons (s_if (t_cmp (op_eqD hr.units) (loc_eq) (e_var 5) e_int) (s_one (s_ret (e_op op_addAll loc_add (e_op op_addAll loc_add (e_sl rfl (e_var 1) o_none (o_some (e_var 4))) (e_revT rfl (pe_revT (e_sl rfl (e_var 1) (o_some (e_var 4)) (o_some (e_op op_addAll loc_add (e_var 4) e_int)))))) (e_sl rfl (e_var 1) (o_some (e_op op_addAll loc_add (e_var 4) e_int)) o_none)))) s_nil)
  (s_cons (s_if (t_cmp (op_eqD hr.units) (loc_eq) (e_var 5) e_int) (s_one (s_ret (e_cb (loc_listOf) (pe_callTy call_list_of (by rfl) T.z_list rfl (a_cons (e_var 1) a_nil))))) s_nil)
  (s_one (s_ret (e_op op_addAll loc_add (e_op op_addAll loc_add (e_sl rfl (e_var 1) o_none (o_some (e_var 4))) (e_tup (a_cons (e_stl (e_call [0] rfl c__law_bent.ok (hr.mono (by omega)) (by rfl) c__law_bent.g c__law_bent.kp c__law_bent.b passN (a_cons (e_slot 0) (a_cons (e_ix ix_seq (loc_ix) (e_var 1) (e_var 4) (fun _ _ => rfl)) (a_cons (e_var 2) (a_cons (e_op op_sub loc_sub (e_var 3) e_int) a_nil)))))) a_nil))) (e_sl rfl (e_var 1) (o_some (e_op op_addAll loc_add (e_var 4) e_int)) o_none))))))))))⟩
abbrev s__law_is_sum : Stmt := top 62
theorem sc__law_is_sum : FnScope ["thing", "cells", "item"] ["thing", "cells"] (defScope s__law_is_sum) := ⟨rfl, rfl, rfl, by decide +kernel, rfl, by decide +kernel, by decide +kernel⟩
def e1__law_is_sum (f__law_int : List O → Rr) : ME := (mStl (mCall [] 3 f__law_int (mCons [] (mVar 2) (mCons [] (m1 gNeg (mC (.int 1000))) (mCons [] (mC (.int 1000)) mNil)))))
def b__law_is_sum (f__law_int : List O → Rr) : MS := (msRet (mAnd (mN (gIsiX [0, 1]) (mCons [] (mVar 0) (mCons [] (mC (.ty "tuple")) mNil))) (mAnd (m2 gEq [] (mN gLen (mCons [] (mVar 0) mNil)) (m2 gAdd [] (mVar 1) (mC (.int 1)))) (mN gAll (mCons [] (mLc [2, 2] [2] (setT [2]) (iSeq true (mVar 0)) mYes (e1__law_is_sum f__law_int)) mNil)))))
theorem ok__law_is_sum {f : Addr} {fd : FuncData} {k : Nat} (T : Txt w K mg cl aS eS nS aI_BadBook) {f__law_int : List O → Rr} {a__law_int : Addr} {d__law_int : FuncData} {k__law_int : Nat} (l__law_int : k__law_int ≤ k) (c__law_int : CalF P w K mg base k__law_int "_law_int" ["thing", "least", "most"] (spG K cl 3 f__law_int) a__law_int d__law_int) (F : Fun K "_law_is_sum" "_law_is_sum" s__law_is_sum f fd) : FnOk P w K mg base CX0 (k + 1) f fd ["thing", "cells"] (spG K cl 2 (runDef [] 1 (b__law_is_sum f__law_int))) :=
  fn_def2 F sc__law_is_sum (by decide) fun cdv A outer s H E F0 H0 io vs hr => ⟨_, (s_one (s_ret (e_and (e_cb (loc_isiX T.own) (pe_callB call_isi (by rfl) T.z_isinstance rfl (a_cons (e_var 0) (a_cons (e_ty (by rfl) T.z_tuple rfl) a_nil)))) (e_and (e_cmp (op_eqD hr.units) (loc_eq) (e_cb (loc_len) (pe_callB call_len (by rfl) T.z_len rfl (a_cons (e_var 0) a_nil))) (e_op op_addAll loc_add (e_var 1) e_int)) (e_one (e_cb (loc_all) (pe_callB (cr_all rfl) (by rfl) T.z_all rfl (a_cons (e_lc (vs := [2]) (tg_name (by show 2 < 3; decide) (by show 2 ∉ ([] : List Nat); decide)) (by decide) (by show ∀ i ∈ ([2] : List Nat), i ∉ ([] : List Nat); decide) (pe_lc (own := [("item", 2)]) rfl sc__law_is_sum.nd (i_tup rfl (e_var 0)) (blkOk_by (N := ["thing", "cells", "item"]) (sc := defScope s__law_is_sum) (by decide +kernel)) (fun _ _ _ _ _ => (pg_name (i := 2) sc__law_is_sum.nd rfl (by first | exact Or.inl rfl | exact Or.inr rfl))) (fun _ _ _ _ _ => ts_nil) (fun _ _ _ _ _ => (e_stl (e_call [] rfl c__law_int.ok (hr.mono (by omega)) (by rfl) c__law_int.g c__law_int.kp c__law_int.b passN (a_cons (e_var 2) (a_cons (e_un un_neg loc_neg e_int) (a_cons e_int a_nil)))))))) a_nil))))))))⟩
abbrev s__law_is_test : Stmt := top 63
theorem sc__law_is_test : FnScope ["thing", "cells"] ["thing", "cells"] (defScope s__law_is_test) := ⟨rfl, rfl, rfl, by decide +kernel, rfl, by decide +kernel, by decide +kernel⟩
def b__law_is_test (f__law_is_sum : List O → Rr) : MS := (msSeq (msIf (tmOr (tmNot (mTest (mN (gIsiX [0, 1]) (mCons [] (mVar 0) (mCons [] (mC (.ty "tuple")) mNil))))) (tmOr (mTest (m2 gNe [] (mN gLen (mCons [] (mVar 0) mNil)) (mC (.int 3)))) (tmNot (mTest (mN (gIsiX [0, 1]) (mCons [] (m2 gIx [] (mVar 0) (mC (.int 0))) (mCons [] (mC (.ty "str")) mNil))))))) (msRet (mC (.bl false))) msNil)
  (msRet (mAnd (m2 (gIn false) [] (m2 gIx [] (mVar 0) (mC (.int 0))) (mN gLst (mCons [] (mC (.str "less")) (mCons [] (mC (.str "same")) mNil)))) (mAnd (mCall [] 2 f__law_is_sum (mCons [] (m2 gIx [] (mVar 0) (mC (.int 1))) (mCons [] (mVar 1) mNil))) (mCall [] 2 f__law_is_sum (mCons [] (m2 gIx [] (mVar 0) (mC (.int 2))) (mCons [] (mVar 1) mNil)))))))
theorem ok__law_is_test {f : Addr} {fd : FuncData} {k : Nat} (T : Txt w K mg cl aS eS nS aI_BadBook) {f__law_is_sum : List O → Rr} {a__law_is_sum : Addr} {d__law_is_sum : FuncData} {k__law_is_sum : Nat} (l__law_is_sum : k__law_is_sum ≤ k) (c__law_is_sum : CalF P w K mg base k__law_is_sum "_law_is_sum" ["thing", "cells"] (spG K cl 2 f__law_is_sum) a__law_is_sum d__law_is_sum) (F : Fun K "_law_is_test" "_law_is_test" s__law_is_test f fd) : FnOk P w K mg base CX0 (k + 1) f fd ["thing", "cells"] (spG K cl 2 (runDef [] 0 (b__law_is_test f__law_is_sum))) :=
  fn_def2 F sc__law_is_test (by decide) fun cdv A outer s H E F0 H0 io vs hr => ⟨_, (s_cons (s_if (t_w (w_or (t_not (t_val (e_cb (loc_isiX T.own) (pe_callB call_isi (by rfl) T.z_isinstance rfl (a_cons (e_var 0) (a_cons (e_ty (by rfl) T.z_tuple rfl) a_nil)))))) (w_or (t_cmp (op_neD hr.units) (loc_ne) (e_cb (loc_len) (pe_callB call_len (by rfl) T.z_len rfl (a_cons (e_var 0) a_nil))) e_int) (w_or1 (t_not (t_val (e_cb (loc_isiX T.own) (pe_callB call_isi (by rfl) T.z_isinstance rfl (a_cons (e_ix ix_seq (loc_ix) (e_var 0) e_int (fun _ _ => rfl)) (a_cons (e_ty (by rfl) T.z_str rfl) a_nil)))))))))) (s_one (s_ret e_bl)) s_nil)
  (s_one (s_ret (e_and (e_cmp op_in_seq (loc_in) (e_ix ix_seq (loc_ix) (e_var 0) e_int (fun _ _ => rfl)) (e_lst (a_cons e_str (a_cons e_str a_nil)))) (e_and (e_call [] rfl c__law_is_sum.ok (hr.mono (by omega)) (by rfl) c__law_is_sum.g c__law_is_sum.kp c__law_is_sum.b passN (a_cons (e_ix ix_seq (loc_ix) (e_var 0) e_int (fun _ _ => rfl)) (a_cons (e_var 1) a_nil))) (e_one (e_call [] rfl c__law_is_sum.ok (hr.mono (by omega)) (by rfl) c__law_is_sum.g c__law_is_sum.kp c__law_is_sum.b passN (a_cons (e_ix ix_seq (loc_ix) (e_var 0) e_int (fun _ _ => rfl)) (a_cons (e_var 1) a_nil)))))))))⟩
abbrev s__law_is_statement : Stmt := top 64
theorem sc__law_is_statement : FnScope ["thing", "cells", "many", "deep", "part"] ["thing", "cells", "many", "deep"] (defScope s__law_is_statement) := ⟨rfl, rfl, rfl, by decide +kernel, rfl, by decide +kernel, by decide +kernel⟩
def e1__law_is_statement (f__law_int : List O → Rr) (f__law_is_sum : List O → Rr) (f__law_is_test : List O → Rr) (f__law_is_body : List O → Rr) : ME := (mStl (mCall [] 4 f__law_is_body (mCons [] (mVar 4) (mCons [] (mVar 1) (mCons [] (mVar 2) (mCons [] (mStl (m2 gAdd [] (mVar 3) (mC (.int 1)))) mNil))))))
def b__law_is_statement (f__law_int : List O → Rr) (f__law_is_sum : List O → Rr) (f__law_is_test : List O → Rr) (f__law_is_body : List O → Rr) : MS := (msSeq (msIf (tmOr (tmNot (mTest (mN (gIsiX [0, 1]) (mCons [] (mVar 0) (mCons [] (mC (.ty "tuple")) mNil))))) (tmOr (mTest (m2 (gI fun i j => .bl (decide (i < j))) [] (mN gLen (mCons [] (mVar 0) mNil)) (mC (.int 2)))) (tmNot (mTest (mN (gIsiX [0, 1]) (mCons [] (m2 gIx [] (mVar 0) (mC (.int 0))) (mCons [] (mC (.ty "str")) mNil))))))) (msRet (mC (.bl false))) msNil)
  (msSeq (msIf (mTest (m2 gEq [] (m2 gIx [] (mVar 0) (mC (.int 0))) (mC (.str "set")))) (msRet (mAnd (m2 gEq [] (mN gLen (mCons [] (mVar 0) mNil)) (mC (.int 3))) (mAnd (mCall [] 3 f__law_int (mCons [] (m2 gIx [] (mVar 0) (mC (.int 1))) (mCons [] (mC (.int 0)) (mCons [] (m2 (gI fun i j => .int (i - j)) [] (mVar 1) (mC (.int 1))) mNil)))) (mCall [] 2 f__law_is_sum (mCons [] (m2 gIx [] (mVar 0) (mC (.int 2))) (mCons [] (mVar 1) mNil)))))) msNil)
  (msSeq (msIf (mTest (m2 gEq [] (m2 gIx [] (mVar 0) (mC (.int 0))) (mC (.str "say")))) (msRet (mAnd (m2 gEq [] (mN gLen (mCons [] (mVar 0) mNil)) (mC (.int 2))) (mCall [] 2 f__law_is_sum (mCons [] (m2 gIx [] (mVar 0) (mC (.int 1))) (mCons [] (mVar 1) mNil))))) msNil)
  (msSeq (msIf (mTest (m2 gEq [] (m2 gIx [] (mVar 0) (mC (.int 0))) (mC (.str "call")))) (msRet (mAnd (m2 gEq [] (mN gLen (mCons [] (mVar 0) mNil)) (mC (.int 2))) (mCall [] 3 f__law_int (mCons [] (m2 gIx [] (mVar 0) (mC (.int 1))) (mCons [] (mC (.int 0)) (mCons [] (m2 (gI fun i j => .int (i - j)) [] (mVar 2) (mC (.int 1))) mNil)))))) msNil)
  (msSeq (msIf (tmOr (mTest (m2 (gIn true) [] (m2 gIx [] (mVar 0) (mC (.int 0))) (mN gLst (mCons [] (mC (.str "if")) (mCons [] (mC (.str "while")) mNil))))) (mTest (m2 gNe [] (mN gLen (mCons [] (mVar 0) mNil)) (mIf (mTest (m2 gEq [] (m2 gIx [] (mVar 0) (mC (.int 0))) (mC (.str "if")))) (mC (.int 4)) (mC (.int 3)))))) (msRet (mC (.bl false))) msNil)
  (msRet (mAnd (mCall [] 2 f__law_is_test (mCons [] (m2 gIx [] (mVar 0) (mC (.int 1))) (mCons [] (mVar 1) mNil))) (mN gAll (mCons [] (mLc [4, 4] [4] (setT [4]) (iSeq true (mStl (mSl [] (mVar 0) (oSome (mC (.int 2))) oNone))) mYes (e1__law_is_statement f__law_int f__law_is_sum f__law_is_test f__law_is_body)) mNil)))))))))
theorem ok__law_is_statement {f : Addr} {fd : FuncData} {k : Nat} (T : Txt w K mg cl aS eS nS aI_BadBook) {f__law_int : List O → Rr} {a__law_int : Addr} {d__law_int : FuncData} {k__law_int : Nat} (l__law_int : k__law_int ≤ k) (c__law_int : CalF P w K mg base k__law_int "_law_int" ["thing", "least", "most"] (spG K cl 3 f__law_int) a__law_int d__law_int) {f__law_is_sum : List O → Rr} {a__law_is_sum : Addr} {d__law_is_sum : FuncData} {k__law_is_sum : Nat} (l__law_is_sum : k__law_is_sum ≤ k) (c__law_is_sum : CalF P w K mg base k__law_is_sum "_law_is_sum" ["thing", "cells"] (spG K cl 2 f__law_is_sum) a__law_is_sum d__law_is_sum) {f__law_is_test : List O → Rr} {a__law_is_test : Addr} {d__law_is_test : FuncData} {k__law_is_test : Nat} (l__law_is_test : k__law_is_test ≤ k) (c__law_is_test : CalF P w K mg base k__law_is_test "_law_is_test" ["thing", "cells"] (spG K cl 2 f__law_is_test) a__law_is_test d__law_is_test) {f__law_is_body : List O → Rr} {a__law_is_body : Addr} {d__law_is_body : FuncData} {k__law_is_body : Nat} (l__law_is_body : k__law_is_body ≤ k) (c__law_is_body : CalF P w K mg base k__law_is_body "_law_is_body" ["thing", "cells", "many", "deep"] (spG K cl 4 f__law_is_body) a__law_is_body d__law_is_body) (F : Fun K "_law_is_statement" "_law_is_statement" s__law_is_statement f fd) : FnOk P w K mg base CX0 (k + 1) f fd ["thing", "cells", "many", "deep"] (spG K cl 4 (runDef [] 1 (b__law_is_statement f__law_int f__law_is_sum f__law_is_test f__law_is_body))) :=
  fn_def2 F sc__law_is_statement (by decide) fun cdv A outer s H E F0 H0 io vs hr => ⟨_, (s_cons (s_if (t_w (w_or (t_not (t_val (e_cb (loc_isiX T.own) (pe_callB call_isi (by rfl) T.z_isinstance rfl (a_cons (e_var 0) (a_cons (e_ty (by rfl) T.z_tuple rfl) a_nil)))))) (w_or (t_cmp op_lt loc_lt (e_cb (loc_len) (pe_callB call_len (by rfl) T.z_len rfl (a_cons (e_var 0) a_nil))) e_int) (w_or1 (t_not (t_val (e_cb (loc_isiX T.own) (pe_callB call_isi (by rfl) T.z_isinstance rfl (a_cons (e_ix ix_seq (loc_ix) (e_var 0) e_int (fun _ _ => rfl)) (a_cons (e_ty (by rfl) T.z_str rfl) a_nil)))))))))) (s_one (s_ret e_bl)) s_nil)
  (s_cons (s_if (t_cmp (op_eqD hr.units) (loc_eq) (e_ix ix_seq (loc_ix) (e_var 0) e_int (fun _ _ => rfl)) e_str) (s_one (s_ret (e_and (e_cmp (op_eqD hr.units) (loc_eq) (e_cb (loc_len) (pe_callB call_len (by rfl) T.z_len rfl (a_cons (e_var 0) a_nil))) e_int) (e_and (e_call [] rfl c__law_int.ok (hr.mono (by omega)) (by rfl) c__law_int.g c__law_int.kp c__law_int.b passN (a_cons (e_ix ix_seq (loc_ix) (e_var 0) e_int (fun _ _ => rfl)) (a_cons e_int (a_cons (e_op op_sub loc_sub (e_var 1) e_int) a_nil)))) (e_one (e_call [] rfl c__law_is_sum.ok (hr.mono (by omega)) (by rfl) c__law_is_sum.g c__law_is_sum.kp c__law_is_sum.b passN (a_cons (e_ix ix_seq (loc_ix) (e_var 0) e_int (fun _ _ => rfl)) (a_cons (e_var 1) a_nil)))))))) s_nil)
  (s_cons (s_if (t_cmp (op_eqD hr.units) (loc_eq) (e_ix ix_seq (loc_ix) (e_var 0) e_int (fun _ _ => rfl)) e_str) (s_one (s_ret (e_and (e_cmp (op_eqD hr.units) (loc_eq) (e_cb (loc_len) (pe_callB call_len (by rfl) T.z_len rfl (a_cons (e_var 0) a_nil))) e_int) (e_one (e_call [] rfl c__law_is_sum.ok (hr.mono (by omega)) (by rfl) c__law_is_sum.g c__law_is_sum.kp c__law_is_sum.b passN (a_cons (e_ix ix_seq (loc_ix) (e_var 0) e_int (fun _ _ => rfl)) (a_cons (e_var 1) a_nil))))))) s_nil)
  (s_cons (s_if (t_cmp (op_eqD hr.units) (loc_eq) (e_ix ix_seq (loc_ix) (e_var 0) e_int (fun _ _ => rfl)) e_str) (s_one (s_ret (e_and (e_cmp (op_eqD hr.units) (loc_eq) (e_cb (loc_len) (pe_callB call_len (by rfl) T.z_len rfl (a_cons (e_var 0) a_nil))) e_int) (e_one (e_call [] rfl c__law_int.ok (hr.mono (by omega)) (by rfl) c__law_int.g c__law_int.kp c__law_int.b passN (a_cons (e_ix ix_seq (loc_ix) (e_var 0) e_int (fun _ _ => rfl)) (a_cons e_int (a_cons (e_op op_sub loc_sub (e_var 2) e_int) a_nil)))))))) s_nil)
  (s_cons (s_if (t_w (w_or (t_cmp op_notIn_seq (loc_in) (e_ix ix_seq (loc_ix) (e_var 0) e_int (fun _ _ => rfl)) (e_lst (a_cons e_str (a_cons e_str a_nil)))) (w_or1 (t_cmp (op_neD hr.units) (loc_ne) (e_cb (loc_len) (pe_callB call_len (by rfl) T.z_len rfl (a_cons (e_var 0) a_nil))) (e_if (t_cmp (op_eqD hr.units) (loc_eq) (e_ix ix_seq (loc_ix) (e_var 0) e_int (fun _ _ => rfl)) e_str) e_int e_int))))) (s_one (s_ret e_bl)) s_nil)
  (s_one (s_ret (e_and (e_call [] rfl c__law_is_test.ok (hr.mono (by omega)) (by rfl) c__law_is_test.g c__law_is_test.kp c__law_is_test.b passN (a_cons (e_ix ix_seq (loc_ix) (e_var 0) e_int (fun _ _ => rfl)) (a_cons (e_var 1) a_nil))) (e_one (e_cb (loc_all) (pe_callB (cr_all rfl) (by rfl) T.z_all rfl (a_cons (e_lc (vs := [4]) (tg_name (by show 4 < 5; decide) (by show 4 ∉ ([] : List Nat); decide)) (by decide) (by show ∀ i ∈ ([4] : List Nat), i ∉ ([] : List Nat); decide) (pe_lc (own := [("part", 4)]) rfl sc__law_is_statement.nd (i_tup rfl (e_stl (e_sl rfl (e_var 0) (o_some e_int) o_none))) (blkOk_by (N := ["thing", "cells", "many", "deep", "part"]) (sc := defScope s__law_is_statement) (by decide +kernel)) (fun _ _ _ _ _ => (pg_name (i := 4) sc__law_is_statement.nd rfl (by first | exact Or.inl rfl | exact Or.inr rfl))) (fun _ _ _ _ _ => ts_nil) (fun _ _ _ _ _ => (e_stl (e_call [] rfl c__law_is_body.ok (hr.mono (by omega)) (by rfl) c__law_is_body.g c__law_is_body.kp c__law_is_body.b passN (a_cons (e_var 4) (a_cons (e_var 1) (a_cons (e_var 2) (a_cons (e_stl (e_op op_addAll loc_add (e_var 3) e_int)) a_nil))))))))) a_nil))))))))))))⟩
abbrev s__law_is_body : Stmt := top 65
theorem sc__law_is_body : FnScope ["thing", "cells", "many", "deep", "statement"] ["thing", "cells", "many", "deep"] (defScope s__law_is_body) := ⟨rfl, rfl, rfl, by decide +kernel, rfl, by decide +kernel, by decide +kernel⟩
def e1__law_is_body (f__law_is_statement : List O → Rr) : ME := (mStl (mCall [] 4 f__law_is_statement (mCons [] (mVar 4) (mCons [] (mVar 1) (mCons [] (mVar 2) (mCons [] (mVar 3) mNil))))))
def b__law_is_body (f__law_is_statement : List O → Rr) : MS := (msSeq (msIf (tmOr (tmNot (mTest (mN (gIsiX [0, 1]) (mCons [] (mVar 0) (mCons [] (mC (.ty "tuple")) mNil))))) (mTest (m2 (gI fun i j => .bl (decide (j < i))) [] (mVar 3) (mC (.int 8))))) (msRet (mC (.bl false))) msNil)
  (msRet (mN gAll (mCons [] (mLc [4, 4] [4] (setT [4]) (iSeq true (mVar 0)) mYes (e1__law_is_body f__law_is_statement)) mNil))))
theorem ok__law_is_body {f : Addr} {fd : FuncData} {k : Nat} (T : Txt w K mg cl aS eS nS aI_BadBook) {f__law_is_statement : List O → Rr} {a__law_is_statement : Addr} {d__law_is_statement : FuncData} {k__law_is_statement : Nat} (l__law_is_statement : k__law_is_statement ≤ k) (c__law_is_statement : CalF P w K mg base k__law_is_statement "_law_is_statement" ["thing", "cells", "many", "deep"] (spG K cl 4 f__law_is_statement) a__law_is_statement d__law_is_statement) (F : Fun K "_law_is_body" "_law_is_body" s__law_is_body f fd) : FnOk P w K mg base CX0 (k + 1) f fd ["thing", "cells", "many", "deep"] (spG K cl 4 (runDef [] 1 (b__law_is_body f__law_is_statement))) :=
  fn_def2 F sc__law_is_body (by decide) fun cdv A outer s H E F0 H0 io vs hr => ⟨_, (s_cons (s_if (t_w (w_or (t_not (t_val (e_cb (loc_isiX T.own) (pe_callB call_isi (by rfl) T.z_isinstance rfl (a_cons (e_var 0) (a_cons (e_ty (by rfl) T.z_tuple rfl) a_nil)))))) (w_or1 (t_cmp op_gt loc_gt (e_var 3) e_int)))) (s_one (s_ret e_bl)) s_nil)
  (s_one (s_ret (e_cb (loc_all) (pe_callB (cr_all rfl) (by rfl) T.z_all rfl (a_cons (e_lc (vs := [4]) (tg_name (by show 4 < 5; decide) (by show 4 ∉ ([] : List Nat); decide)) (by decide) (by show ∀ i ∈ ([4] : List Nat), i ∉ ([] : List Nat); decide) (pe_lc (own := [("statement", 4)]) rfl sc__law_is_body.nd (i_tup rfl (e_var 0)) (blkOk_by (N := ["thing", "cells", "many", "deep", "statement"]) (sc := defScope s__law_is_body) (by decide +kernel)) (fun _ _ _ _ _ => (pg_name (i := 4) sc__law_is_body.nd rfl (by first | exact Or.inl rfl | exact Or.inr rfl))) (fun _ _ _ _ _ => ts_nil) (fun _ _ _ _ _ => (e_stl (e_call [] rfl c__law_is_statement.ok (hr.mono (by omega)) (by rfl) c__law_is_statement.g c__law_is_statement.kp c__law_is_statement.b passN (a_cons (e_var 4) (a_cons (e_var 1) (a_cons (e_var 2) (a_cons (e_var 3) a_nil))))))))) a_nil))))))⟩
abbrev s__law_wrong : Stmt := top 66
theorem sc__law_wrong : FnScope ["cells", "routines", "number", "body"] ["cells", "routines"] (defScope s__law_wrong) := ⟨rfl, rfl, rfl, by decide +kernel, rfl, by decide +kernel, by decide +kernel⟩
def e1__law_wrong (f__law_int : List O → Rr) (f__law_is_body : List O → Rr) (f__law_size : List O → Rr) : MS := (msIf (tmOr (tmNot (mTest (mCall [] 4 f__law_is_body (mCons [] (mVar 3) (mCons [] (mVar 0) (mCons [] (mN gLen (mCons [] (mVar 1) mNil)) (mCons [] (mC (.int 1)) mNil))))))) (mTest (m2 (gI fun i j => .bl (decide (j < i))) [] (mCall [] 1 f__law_size (mCons [] (mVar 3) mNil)) (mC (.int 38))))) (msRet (mN gTup (mCons [] (mC (.str "routine")) (mCons [] (mVar 2) mNil)))) msNil)
def b__law_wrong (f__law_int : List O → Rr) (f__law_is_body : List O → Rr) (f__law_size : List O → Rr) : MS := (msSeq (msIf (tmNot (mTest (mCall [] 3 f__law_int (mCons [] (mVar 0) (mCons [] (mC (.int 1)) (mCons [] (mC (.int 4)) mNil)))))) (msRet (mN gTup (mCons [] (mC (.str "cells")) mNil))) msNil)
  (msSeq (msIf (tmOr (tmNot (mTest (mN (gIsiX [0, 1]) (mCons [] (mVar 1) (mCons [] (mC (.ty "tuple")) mNil))))) (tmNot (mTest (mChain (gI fun i j => .bl (decide (i ≤ j))) (gI fun i j => .bl (decide (i ≤ j))) (mC (.int 1)) (mN gLen (mCons [] (mVar 1) mNil)) (mC (.int 5)))))) (msRet (mN gTup (mCons [] (mC (.str "routines")) mNil))) msNil)
  (msSeq (msFor [2, 3] (setTup [2, 3]) (iEnumM (mCons [] (mVar 1) mNil)) (e1__law_wrong f__law_int f__law_is_body f__law_size))
  (msRet (mC .non)))))
theorem ok__law_wrong {f : Addr} {fd : FuncData} {k : Nat} (T : Txt w K mg cl aS eS nS aI_BadBook) {f__law_int : List O → Rr} {a__law_int : Addr} {d__law_int : FuncData} {k__law_int : Nat} (l__law_int : k__law_int ≤ k) (c__law_int : CalF P w K mg base k__law_int "_law_int" ["thing", "least", "most"] (spG K cl 3 f__law_int) a__law_int d__law_int) {f__law_is_body : List O → Rr} {a__law_is_body : Addr} {d__law_is_body : FuncData} {k__law_is_body : Nat} (l__law_is_body : k__law_is_body ≤ k) (c__law_is_body : CalF P w K mg base k__law_is_body "_law_is_body" ["thing", "cells", "many", "deep"] (spG K cl 4 f__law_is_body) a__law_is_body d__law_is_body) {f__law_size : List O → Rr} {a__law_size : Addr} {d__law_size : FuncData} {k__law_size : Nat} (l__law_size : k__law_size ≤ k) (c__law_size : CalF P w K mg base k__law_size "_law_size" ["body"] (spG K cl 1 f__law_size) a__law_size d__law_size) (F : Fun K "_law_wrong" "_law_wrong" s__law_wrong f fd) : FnOk P w K mg base CX0 (k + 1) f fd ["cells", "routines"] (spG K cl 2 (runDef [] 2 (b__law_wrong f__law_int f__law_is_body f__law_size))) :=
  fn_def2 F sc__law_wrong (by decide) fun cdv A outer s H E F0 H0 io vs hr => ⟨_, (s_cons (s_if (t_not (t_val (e_call [] rfl c__law_int.ok (hr.mono (by omega)) (by rfl) c__law_int.g c__law_int.kp c__law_int.b passN (a_cons (e_var 0) (a_cons e_int (a_cons e_int a_nil)))))) (s_one (s_ret (e_tup (a_cons e_str a_nil)))) s_nil)
  (s_cons (s_if (t_w (w_or (t_not (t_val (e_cb (loc_isiX T.own) (pe_callB call_isi (by rfl) T.z_isinstance rfl (a_cons (e_var 1) (a_cons (e_ty (by rfl) T.z_tuple rfl) a_nil)))))) (w_or1 (t_not (t_chain loc_le loc_le (pt_chain op_le op_le e_int (e_cb (loc_len) (pe_callB call_len (by rfl) T.z_len rfl (a_cons (e_var 1) a_nil))) e_int)))))) (s_one (s_ret (e_tup (a_cons e_str a_nil)))) s_nil)
  (s_cons (s_for PassesOwn.never rfl (tg_tup (is := [2, 3]) (n := 2) rfl (by show ∀ i ∈ ([2, 3] : List Nat), i < 4 ∧ i ∉ ([] : List Nat); decide)) (i_enum rfl (pi_enumG (by rfl) T.z_enumerate (a_cons (e_var 1) a_nil))) (pg_tup rfl (pgs_cons (pg_name (i := 2) sc__law_wrong.nd rfl (by first | exact Or.inl rfl | exact Or.inr rfl)) (pgs_cons (pg_name (i := 3) sc__law_wrong.nd rfl (by first | exact Or.inl rfl | exact Or.inr rfl)) pgs_nil))) (s_one (s_if (t_w (w_or (t_not (t_val (e_call [] rfl c__law_is_body.ok (hr.mono (by omega)) (by rfl) c__law_is_body.g c__law_is_body.kp c__law_is_body.b passN (a_cons (e_var 3) (a_cons (e_var 0) (a_cons (e_cb (loc_len) (pe_callB call_len (by rfl) T.z_len rfl (a_cons (e_var 1) a_nil))) (a_cons e_int a_nil))))))) (w_or1 (t_cmp op_gt loc_gt (e_call [] rfl c__law_size.ok (hr.mono (by omega)) (by rfl) c__law_size.g c__law_size.kp c__law_size.b passN (a_cons (e_var 3) a_nil)) e_int)))) (s_one (s_ret (e_tup (a_cons e_str (a_cons (e_var 2) a_nil))))) s_nil)))
  (s_one (s_ret e_non)))))⟩
abbrev s__law_told_part : Stmt := top 67
theorem sc__law_told_part : FnScope ["cells", "routines", "made", "told", "e"] ["cells", "routines"] (defScope s__law_told_part) := ⟨rfl, rfl, rfl, by decide +kernel, rfl, by decide +kernel, by decide +kernel⟩
def b__law_told_part (f_Book___init__ : List O → Rr) (f__law_is : List O → Rr) : MS := (msSeq (msTryAs [4] 4 (msSeq (msSet 2 (mStl (mMake [] 0 3 f_Book___init__ (mCons [] (mVar 0) (mCons [] (mVar 1) mNil)))))
  (msSet 3 (mIf (mTest (mCall [] 2 f__law_is (mCons [] (mStl (mN gLst (mCons [] (m1 (gAttr [0] "cells") (mVar 2)) (mCons [] (m1 (gAttr [0] "routines") (mVar 2)) mNil)))) (mCons [] (mStl (mN gLst (mCons [] (mVar 0) (mCons [] (mVar 1) mNil)))) mNil)))) (mC .non) (mC (.str "other"))))) (g2X fun d_ => (msSet 3 (mIf (tmAnd (mTest (mC (.bl true))) (mTest (mC (.bl true)))) (mC d_) (mC (.str "other"))))))
  (msRet (mVar 3)))
theorem ok__law_told_part {f : Addr} {fd : FuncData} {k : Nat} (T : Txt w K mg cl aS eS nS aI_BadBook) {f_Book___init__ : List O → Rr} {a_Book___init__ : Addr} {d_Book___init__ : FuncData} {k_Book___init__ : Nat} (l_Book___init__ : k_Book___init__ + 1 ≤ k) (c_Book___init__ : CalXI P w K mg base k_Book___init__ (cl 0) "Book" ["self", "cells", "routines"] (spG K cl 3 f_Book___init__) a_Book___init__ d_Book___init__) {f__law_is : List O → Rr} {a__law_is : Addr} {d__law_is : FuncData} {k__law_is : Nat} (l__law_is : k__law_is ≤ k) (c__law_is : CalF P w K mg base k__law_is "_law_is" ["told", "due"] (spG K cl 2 f__law_is) a__law_is d__law_is) (F : Fun K "_law_told_part" "_law_told_part" s__law_told_part f fd) : FnOk P w K mg base CX0 (k + 1) f fd ["cells", "routines"] (spG K cl 2 (runDef [] 3 (b__law_told_part f_Book___init__ f__law_is))) :=
  fn_def2 F sc__law_told_part (by decide) fun cdv A outer s H E F0 H0 io vs hr => ⟨_, (s_cons (s_tryPart (i := 4) (c := 4) (g2 := fun d_ => (msSet 3 (mIf (tmAnd (mTest (mC (.bl true))) (mTest (mC (.bl true)))) (mC d_) (mC (.str "other"))))) rfl rfl sc__law_told_part.nd rfl rfl ⟨by rfl, by decide, .inl T.p_BadBook.gC⟩ (by show 4 ∉ ([] : List Nat); decide) (by show 4 < 5; decide) T.p_BadBook.te (fun W pn xe tk => (s_cons (s_set 2 sc__law_told_part.nd rfl (by first | exact Or.inl rfl | exact Or.inr rfl) (e_stl (e_make [] 0 c_Book___init__.made c_Book___init__.ok (hr.mono (by omega)) (by rfl) c_Book___init__.g c_Book___init__.b (passX tk) (a_cons (e_var 0) (a_cons (e_var 1) a_nil)))) (by show 2 ∉ ([] : List Nat); decide) (by show 2 < 5; decide))
  (s_one (s_set 3 sc__law_told_part.nd rfl (by first | exact Or.inl rfl | exact Or.inr rfl) (e_if (t_val (e_call [] rfl c__law_is.ok (hr.mono (by omega)) (by rfl) c__law_is.g c__law_is.kp c__law_is.b passN (a_cons (e_stl (e_lst (a_cons (e_attr (cs := [0]) rfl (all1 T.n_Book_cells) (e_var 2) rfl) (a_cons (e_attr (cs := [0]) rfl (all1 T.n_Book_routines) (e_var 2) rfl) a_nil)))) (a_cons (e_stl (e_lst (a_cons (e_var 0) (a_cons (e_var 1) a_nil)))) a_nil)))) e_non e_str) (by show 3 ∉ ([] : List Nat); decide) (by show 3 < 5; decide))))) (fun d_ C2 ea oe dd pn I hz hf => (s_one (s_set 3 sc__law_told_part.nd rfl (by first | exact Or.inl rfl | exact Or.inr rfl) (e_if (t_w (w_and (t_val (e_xisi1 (C := ⟨K, cl, F0, H0, io, [], vs, 5⟩) T.x_BadBook I hz hf T.k_BadBook_ChartError (ClsV.own _) (pe_var (i := 4) rfl (by first | exact Or.inl rfl | exact Or.inr (Or.inl rfl) | exact Or.inr (Or.inr rfl))) (pe_glob (by rfl) T.c_ChartError rfl (by decide)) (by rfl) T.z_isinstance)) (w_and1 (t_val (e_xisi1 (C := ⟨K, cl, F0, H0, io, [], vs, 5⟩) T.x_BadBook I hz hf T.k_BadBook_ValueError (ClsV.ty _) (pe_var (i := 4) rfl (by first | exact Or.inl rfl | exact Or.inr (Or.inl rfl) | exact Or.inr (Or.inr rfl))) (pe_bltn (by rfl) T.z_ValueError rfl (v := .ty "ValueError") rfl) (by rfl) T.z_isinstance))))) (e_part (C := ⟨K, cl, F0, H0, io, [], vs, 5⟩) T.p_BadBook (by rfl) rfl I hz hf (pe_var (i := 4) rfl (by first | exact Or.inl rfl | exact Or.inr (Or.inl rfl) | exact Or.inr (Or.inr rfl)))) e_str) (by rw [I.io]; show 3 ∉ ([] ++ [4] : List Nat); decide) (by rw [I.n]; show 3 < 5; decide)))))
  (s_one (s_ret (e_var 3))))⟩
abbrev s__law_deep_body : Stmt := top 68
theorem sc__law_deep_body : FnScope ["hand", "deep", "found", "turn", "test"] ["hand", "deep"] (defScope s__law_deep_body) := ⟨rfl, rfl, rfl, by decide +kernel, rfl, by decide +kernel, by decide +kernel⟩
def e1__law_deep_body (f__law_any : List O → Rr) : MS := (msSeq (msSet 4 (mN gTup (mCons [] (mC (.str "less")) (mCons [] (mN gTup (mCons [] (mC (.int 0)) (mCons [] (mC (.int 0)) mNil))) (mCons [] (mN gTup (mCons [] (mC (.int 1)) (mCons [] (mC (.int 0)) mNil))) mNil)))))
  (msSet 2 (mCall [0] 2 f__law_any (mCons [] (mSlot 0) (mCons [] (mStl (mN gLst (mCons [] (mN gTup (mCons [] (mN gTup (mCons [] (mC (.str "while")) (mCons [] (mVar 4) (mCons [] (mVar 2) mNil)))) mNil)) (mCons [] (mN gTup (mCons [] (mN gTup (mCons [] (mC (.str "if")) (mCons [] (mVar 4) (mCons [] (mVar 2) (mCons [] (mN gTup mNil) mNil))))) mNil)) (mCons [] (mN gTup (mCons [] (mN gTup (mCons [] (mC (.str "if")) (mCons [] (mVar 4) (mCons [] (mN gTup mNil) (mCons [] (mVar 2) mNil))))) mNil)) mNil))))) mNil)))))
def b__law_deep_body (f__law_any : List O → Rr) : MS := (msSeq (msSet 2 (mN gTup (mCons [] (mN gTup (mCons [] (mC (.str "say")) (mCons [] (mN gTup (mCons [] (mC (.int 0)) (mCons [] (mC (.int 1)) mNil))) mNil))) mNil)))
  (msSeq (msFor [3, 4, 0, 2] (setT [3]) (iRg1 (mCons [] (m2 (gI fun i j => .int (i - j)) [] (mVar 1) (mC (.int 1))) mNil)) (e1__law_deep_body f__law_any))
  (msRet (mVar 2))))
theorem ok__law_deep_body {f : Addr} {fd : FuncData} {k : Nat} (T : Txt w K mg cl aS eS nS aI_BadBook) {f__law_any : List O → Rr} {a__law_any : Addr} {d__law_any : FuncData} {k__law_any : Nat} (l__law_any : k__law_any ≤ k) (c__law_any : CalF P w K mg base k__law_any "_law_any" ["hand", "items"] (spG K cl 2 f__law_any) a__law_any d__law_any) (F : Fun K "_law_deep_body" "_law_deep_body" s__law_deep_body f fd) : FnOk P w K mg base CX0 (k + 1) f fd ["hand", "deep"] (spG K cl 2 (runDef [0] 3 (b__law_deep_body f__law_any))) :=
  fn_def2 F sc__law_deep_body (by decide) fun cdv A outer s H E F0 H0 io vs hr => ⟨_, (s_cons (s_set 2 sc__law_deep_body.nd rfl (by first | exact Or.inl rfl | exact Or.inr rfl) (e_tup (a_cons (e_tup (a_cons e_str (a_cons (e_tup (a_cons e_int (a_cons e_int a_nil))) a_nil))) a_nil)) (by show 2 ∉ ([0] : List Nat); decide) (by show 2 < 5; decide))
  (s_cons (s_for PassesOwn.never rfl (tg_name (by show 3 < 5; decide) (by show 3 ∉ ([0] : List Nat); decide)) (i_rg1 (pi_range1 (by rfl) T.z_range (a_cons (e_op op_sub loc_sub (e_var 1) e_int) a_nil))) (pg_name (i := 3) sc__law_deep_body.nd rfl (by first | exact Or.inl rfl | exact Or.inr rfl)) (s_cons (s_set 4 sc__law_deep_body.nd rfl (by first | exact Or.inl rfl | exact Or.inr rfl) (e_tup (a_cons e_str (a_cons (e_tup (a_cons e_int (a_cons e_int a_nil))) (a_cons (e_tup (a_cons e_int (a_cons e_int a_nil))) a_nil)))) (by show 4 ∉ ([0] : List Nat); decide) (by show 4 < 5; decide))
  (s_one (s_set 2 sc__law_deep_body.nd rfl (by first | exact Or.inl rfl | exact Or.inr rfl) (e_call [0] rfl c__law_any.ok (hr.mono (by omega)) (by rfl) c__law_any.g c__law_any.kp c__law_any.b passN (a_cons (e_slot 0) (a_cons (e_stl (e_lst (a_cons (e_tup (a_cons (e_tup (a_cons e_str (a_cons (e_var 4) (a_cons (e_var 2) a_nil)))) a_nil)) (a_cons (e_tup (a_cons (e_tup (a_cons e_str (a_cons (e_var 4) (a_cons (e_var 2) (a_cons (e_tup a_nil) a_nil))))) a_nil)) (a_cons (e_tup (a_cons (e_tup (a_cons e_str (a_cons (e_var 4) (a_cons (e_tup a_nil) (a_cons (e_var 2) a_nil))))) a_nil)) a_nil))))) a_nil))) (by show 2 ∉ ([0] : List Nat); decide) (by show 2 < 5; decide)))))
  (s_one (s_ret (e_var 2)))))⟩
abbrev s__law_known_parts : Stmt := top 69
theorem sc__law_known_parts : FnScope ["hand", "many", "deep", "row", "wide", "number"] ["hand"] (defScope s__law_known_parts) := ⟨rfl, rfl, rfl, by decide +kernel, rfl, by decide +kernel, by decide +kernel⟩
def b__law_known_parts (f__law_draw : List O → Rr) (f__law_deep_body : List O → Rr) : MS := (msSeq (msPar [1, 2, 3] (mCons [0] (m2 gAdd [0] (mC (.int 38)) (mCall [0] 2 f__law_draw (mCons [] (mSlot 0) (mCons [] (mC (.int 3)) mNil)))) (mCons [] (m2 gAdd [0] (mC (.int 7)) (mCall [0] 2 f__law_draw (mCons [] (mSlot 0) (mCons [] (mC (.int 3)) mNil)))) (mCons [] (mN gTup mNil) mNil))))
  (msSeq (msSet 4 (mN gTup (mCons [0] (mC (.str "if")) (mCons [0] (mN gTup (mCons [] (mC (.str "same")) (mCons [] (mN gTup (mCons [] (mC (.int 0)) (mCons [] (mC (.int 0)) mNil))) (mCons [] (mN gTup (mCons [] (mC (.int 0)) (mCons [] (mC (.int 0)) mNil))) mNil)))) (mCons [0] (m2 gMul [] (mN gTup (mCons [] (mN gTup (mCons [] (mC (.str "say")) (mCons [] (mN gTup (mCons [] (mC (.int 0)) (mCons [] (mC (.int 1)) mNil))) mNil))) mNil)) (mC (.int 17))) (mCons [] (m2 gMul [0] (mN gTup (mCons [] (mN gTup (mCons [] (mC (.str "call")) (mCons [] (mC (.int 0)) mNil))) mNil)) (m2 gAdd [0] (mC (.int 18)) (mCall [0] 2 f__law_draw (mCons [] (mSlot 0) (mCons [] (mC (.int 3)) mNil))))) mNil))))))
  (msSeq (msSet 3 (m2 gAdd [0] (mVar 3) (mN gTup (mCons [0] (mN gTup (mCons [] (mC (.int 1)) (mCons [] (mN gTup (mCons [] (m2 gMul [] (mN gTup (mCons [] (mN gTup (mCons [] (mC (.str "say")) (mCons [] (mN gTup (mCons [] (mC (.int 0)) (mCons [] (mC (.int 1)) mNil))) mNil))) mNil)) (mVar 1)) mNil)) mNil))) (mCons [] (mN gTup (mCons [0] (mC (.int 1)) (mCons [] (mN gTup (mCons [] (mStl (mCall [0] 2 f__law_deep_body (mCons [] (mSlot 0) (mCons [] (mVar 2) mNil)))) mNil)) mNil))) (mCons [] (mN gTup (mCons [] (mC (.int 1)) (mCons [] (mN gTup (mCons [] (mN gTup (mCons [] (mVar 4) mNil)) mNil)) mNil))) mNil))))))
  (msSeq (msSet 3 (m2 gAdd [0, 0, 0] (mVar 3) (mN gTup (mCons [0, 0] (mN gTup (mCons [0] (mC (.int 4)) (mCons [] (m2 gMul [0] (mN gTup (mCons [] (mN gTup mNil) mNil)) (m2 gAdd [0] (mC (.int 5)) (mCall [0] 2 f__law_draw (mCons [] (mSlot 0) (mCons [] (mC (.int 2)) mNil))))) mNil))) (mCons [0] (mN gTup (mCons [] (mStl (m2 gAdd [0] (mC (.int 4)) (mCall [0] 2 f__law_draw (mCons [] (mSlot 0) (mCons [] (mC (.int 2)) mNil))))) (mCons [] (mN gTup (mCons [] (mN gTup mNil) mNil)) mNil))) (mCons [] (mN gTup (mCons [] (mStl (mCall [0] 2 f__law_draw (mCons [] (mSlot 0) (mCons [] (mC (.int 2)) mNil)))) (mCons [] (mN gTup (mCons [] (mN gTup mNil) mNil)) mNil))) mNil))))))
  (msSeq (msSet 5 (m2 gAdd [0] (mC (.int 999)) (mCall [0] 2 f__law_draw (mCons [] (mSlot 0) (mCons [] (mC (.int 3)) mNil)))))
  (msRet (m2 gAdd [0] (mVar 3) (mN gTup (mCons [0] (mN gTup (mCons [] (mC (.int 1)) (mCons [] (mN gTup (mCons [] (mN gTup (mCons [] (mN gTup (mCons [] (mC (.str "set")) (mCons [] (mC (.int 0)) (mCons [] (mN gTup (mCons [] (mVar 5) (mCons [] (m1 gNeg (mVar 5)) mNil))) mNil)))) mNil)) mNil)) mNil))) (mCons [] (mN gTup (mCons [0] (mC (.int 2)) (mCons [] (mN gTup (mCons [] (mN gTup (mCons [] (mN gTup (mCons [0] (mC (.str "call")) (mCons [] (mStl (m2 gAdd [0] (mC (.int 1)) (mCall [0] 2 f__law_draw (mCons [] (mSlot 0) (mCons [] (mC (.int 2)) mNil))))) mNil))) mNil)) (mCons [] (mN gTup mNil) mNil))) mNil))) mNil))))))))))
theorem ok__law_known_parts {f : Addr} {fd : FuncData} {k : Nat} (T : Txt w K mg cl aS eS nS aI_BadBook) {f__law_draw : List O → Rr} {a__law_draw : Addr} {d__law_draw : FuncData} {k__law_draw : Nat} (l__law_draw : k__law_draw ≤ k) (c__law_draw : CalF P w K mg base k__law_draw "_law_draw" ["hand", "many"] (spG K cl 2 f__law_draw) a__law_draw d__law_draw) {f__law_deep_body : List O → Rr} {a__law_deep_body : Addr} {d__law_deep_body : FuncData} {k__law_deep_body : Nat} (l__law_deep_body : k__law_deep_body ≤ k) (c__law_deep_body : CalF P w K mg base k__law_deep_body "_law_deep_body" ["hand", "deep"] (spG K cl 2 f__law_deep_body) a__law_deep_body d__law_deep_body) (F : Fun K "_law_known_parts" "_law_known_parts" s__law_known_parts f fd) : FnOk P w K mg base CX0 (k + 1) f fd ["hand"] (spG K cl 1 (runDef [0] 5 (b__law_known_parts f__law_draw f__law_deep_body))) :=
  fn_def2 F sc__law_known_parts (by decide) fun cdv A outer s H E F0 H0 io vs hr => ⟨_, (s_cons (s_par3 (by show ∀ i ∈ ([1, 2, 3] : List Nat), i < 6 ∧ i ∉ ([0] : List Nat); decide) (ps_par3 rfl sc__law_known_parts.nd rfl rfl rfl (by decide) (by decide) (by decide) rfl rfl rfl (d_cons (e_op op_addAll loc_add e_int (e_call [0] rfl c__law_draw.ok (hr.mono (by omega)) (by rfl) c__law_draw.g c__law_draw.kp c__law_draw.b passN (a_cons (e_slot 0) (a_cons e_int a_nil)))) (d_cons (e_op op_addAll loc_add e_int (e_call [0] rfl c__law_draw.ok (hr.mono (by omega)) (by rfl) c__law_draw.g c__law_draw.kp c__law_draw.b passN (a_cons (e_slot 0) (a_cons e_int a_nil)))) (d_cons (e_tup a_nil) d_nil))) (by with_unfolding_all rfl)))
  (s_cons (s_set 4 sc__law_known_parts.nd rfl (by first | exact Or.inl rfl | exact Or.inr rfl) (e_tup (a_cons e_str (a_cons (e_tup (a_cons e_str (a_cons (e_tup (a_cons e_int (a_cons e_int a_nil))) (a_cons (e_tup (a_cons e_int (a_cons e_int a_nil))) a_nil)))) (a_cons (e_op op_mulAll (loc_mul) (e_tup (a_cons (e_tup (a_cons e_str (a_cons (e_tup (a_cons e_int (a_cons e_int a_nil))) a_nil))) a_nil)) e_int) (a_cons (e_op op_mulAll (loc_mul) (e_tup (a_cons (e_tup (a_cons e_str (a_cons e_int a_nil))) a_nil)) (e_op op_addAll loc_add e_int (e_call [0] rfl c__law_draw.ok (hr.mono (by omega)) (by rfl) c__law_draw.g c__law_draw.kp c__law_draw.b passN (a_cons (e_slot 0) (a_cons e_int a_nil))))) a_nil))))) (by show 4 ∉ ([0] : List Nat); decide) (by show 4 < 6; decide))
  (s_cons (s_set 3 sc__law_known_parts.nd rfl (by first | exact Or.inl rfl | exact Or.inr rfl) (e_op op_addAll loc_add (e_var 3) (e_tup (a_cons (e_tup (a_cons e_int (a_cons (e_tup (a_cons (e_op op_mulAll (loc_mul) (e_tup (a_cons (e_tup (a_cons e_str (a_cons (e_tup (a_cons e_int (a_cons e_int a_nil))) a_nil))) a_nil)) (e_var 1)) a_nil)) a_nil))) (a_cons (e_tup (a_cons e_int (a_cons (e_tup (a_cons (e_stl (e_call [0] rfl c__law_deep_body.ok (hr.mono (by omega)) (by rfl) c__law_deep_body.g c__law_deep_body.kp c__law_deep_body.b passN (a_cons (e_slot 0) (a_cons (e_var 2) a_nil)))) a_nil)) a_nil))) (a_cons (e_tup (a_cons e_int (a_cons (e_tup (a_cons (e_tup (a_cons (e_var 4) a_nil)) a_nil)) a_nil))) a_nil))))) (by show 3 ∉ ([0] : List Nat); decide) (by show 3 < 6; decide))
  (s_cons (s_set 3 sc__law_known_parts.nd rfl (by first | exact Or.inl rfl | exact Or.inr rfl) (e_op op_addAll loc_add (e_var 3) (e_tup (a_cons (e_tup (a_cons e_int (a_cons (e_op op_mulAll (loc_mul) (e_tup (a_cons (e_tup a_nil) a_nil)) (e_op op_addAll loc_add e_int (e_call [0] rfl c__law_draw.ok (hr.mono (by omega)) (by rfl) c__law_draw.g c__law_draw.kp c__law_draw.b passN (a_cons (e_slot 0) (a_cons e_int a_nil))))) a_nil))) (a_cons (e_tup (a_cons (e_stl (e_op op_addAll loc_add e_int (e_call [0] rfl c__law_draw.ok (hr.mono (by omega)) (by rfl) c__law_draw.g c__law_draw.kp c__law_draw.b passN (a_cons (e_slot 0) (a_cons e_int a_nil))))) (a_cons (e_tup (a_cons (e_tup a_nil) a_nil)) a_nil))) (a_cons (e_tup (a_cons (e_stl (e_call [0] rfl c__law_draw.ok (hr.mono (by omega)) (by rfl) c__law_draw.g c__law_draw.kp c__law_draw.b passN (a_cons (e_slot 0) (a_cons e_int a_nil)))) (a_cons (e_tup (a_cons (e_tup a_nil) a_nil)) a_nil))) a_nil))))) (by show 3 ∉ ([0] : List Nat); decide) (by show 3 < 6; decide))
  (s_cons (s_set 5 sc__law_known_parts.nd rfl (by first | exact Or.inl rfl | exact Or.inr rfl) (e_op op_addAll loc_add e_int (e_call [0] rfl c__law_draw.ok (hr.mono (by omega)) (by rfl) c__law_draw.g c__law_draw.kp c__law_draw.b passN (a_cons (e_slot 0) (a_cons e_int a_nil)))) (by show 5 ∉ ([0] : List Nat); decide) (by show 5 < 6; decide))
  (s_one (s_ret (e_op op_addAll loc_add (e_var 3) (e_tup (a_cons (e_tup (a_cons e_int (a_cons (e_tup (a_cons (e_tup (a_cons (e_tup (a_cons e_str (a_cons e_int (a_cons (e_tup (a_cons (e_var 5) (a_cons (e_un un_neg loc_neg (e_var 5)) a_nil))) a_nil)))) a_nil)) a_nil)) a_nil))) (a_cons (e_tup (a_cons e_int (a_cons (e_tup (a_cons (e_tup (a_cons (e_tup (a_cons e_str (a_cons (e_stl (e_op op_addAll loc_add e_int (e_call [0] rfl c__law_draw.ok (hr.mono (by omega)) (by rfl) c__law_draw.g c__law_draw.kp c__law_draw.b passN (a_cons (e_slot 0) (a_cons e_int a_nil))))) a_nil))) a_nil)) (a_cons (e_tup a_nil) a_nil))) a_nil))) a_nil)))))))))))⟩
abbrev s_law : Stmt := top 70
theorem sc_law : FnScope ["script", "hand", "chart", "turn", "parts", "again", "cells", "routines", "change", "due", "one", "some", "two"] ["script"] (defScope s_law) := ⟨rfl, rfl, rfl, by decide +kernel, rfl, by decide +kernel, by decide +kernel⟩
def e1_law (f__law_hand : List O → Rr) (f_Chart___init__ : List O → Rr) (f__law_parts : List O → Rr) (f__law_is : List O → Rr) (f__law_told_part : List O → Rr) (f__law_wrong : List O → Rr) (f__law_draw : List O → Rr) (f__law_bent : List O → Rr) (f__law_odd : List O → Rr) (f__law_any : List O → Rr) (f_Book___eq__ : List O → Rr) (f_Book___init__ : List O → Rr) (f_Chart___eq__ : List O → Rr) (f__law_known_parts : List O → Rr) : MS := (msSet 7 (mStl (mCall [1] 4 f__law_bent (mCons [1] (mSlot 1) (mCons [1] (mVar 7) (mCons [] (mStl (mCall [1] 2 f__law_odd (mCons [] (mSlot 1) (mCons [] (mVar 2) mNil)))) (mCons [] (mC (.int 12)) mNil)))))))
def e2_law (f__law_hand : List O → Rr) (f_Chart___init__ : List O → Rr) (f__law_parts : List O → Rr) (f__law_is : List O → Rr) (f__law_told_part : List O → Rr) (f__law_wrong : List O → Rr) (f__law_draw : List O → Rr) (f__law_bent : List O → Rr) (f__law_odd : List O → Rr) (f__law_any : List O → Rr) (f_Book___eq__ : List O → Rr) (f_Book___init__ : List O → Rr) (f_Chart___eq__ : List O → Rr) (f__law_known_parts : List O → Rr) : MS := (msSeq (msAsgT (setTup [6, 7]) (mVar 4))
  (msSeq (msFor [8, 1, 1, 7] (setT [8]) (iRg1 (mCons [] (m2 gAdd [1] (mC (.int 1)) (mCall [1] 2 f__law_draw (mCons [] (mSlot 1) (mCons [] (mC (.int 3)) mNil)))) mNil)) (e1_law f__law_hand f_Chart___init__ f__law_parts f__law_is f__law_told_part f__law_wrong f__law_draw f__law_bent f__law_odd f__law_any f_Book___eq__ f_Book___init__ f_Chart___eq__ f__law_known_parts))
  (msSeq (msIf (mTest (m2 gEq [] (mCall [1] 2 f__law_draw (mCons [] (mSlot 1) (mCons [] (mC (.int 8)) mNil))) (mC (.int 0)))) (msSet 6 (mCall [1] 2 f__law_any (mCons [] (mSlot 1) (mCons [] (mStl (mN gLst (mCons [] (mC (.int 0)) (mCons [] (mC (.int 5)) (mCons [] (mC (.bl true)) (mCons [] (mC .non) (mCons [] (mC (.str "1")) (mCons [] (mN gTup (mCons [] (mC (.int 1)) mNil)) (mCons [] (mC (.int 4)) (mCons [] (mC (.int 1)) mNil)))))))))) mNil)))) msNil)
  (msSeq (msSet 9 (mCall [] 2 f__law_wrong (mCons [] (mVar 6) (mCons [] (mVar 7) mNil))))
  (msSeq (msIf (tmNot (mTest (mCall [] 2 f__law_is (mCons [] (mStl (mCall [] 2 f__law_told_part (mCons [] (mVar 6) (mCons [] (mVar 7) mNil)))) (mCons [] (mVar 9) mNil))))) (msRet (mC (.bl false))) msNil)
  (msIf (tmAnd (mTest (m2 (gIs false) [] (mVar 9) (mC .non))) (mTest (m2 gNe [] (m2 (gOwn [0, 1] 0 f_Book___eq__ false) [] (mMake [] 0 3 f_Book___init__ (mCons [] (mVar 6) (mCons [] (mVar 7) mNil))) (mStl (mMake [] 0 3 f_Book___init__ (mCons [] (m2 gIx [] (mVar 4) (mC (.int 0))) (mCons [] (m2 gIx [] (mVar 4) (mC (.int 1))) mNil))))) (m2 gEq [] (mN gTup (mCons [] (mVar 6) (mCons [] (mVar 7) mNil))) (mVar 4))))) (msRet (mC (.bl false))) msNil))))))
def e3_law (f__law_hand : List O → Rr) (f_Chart___init__ : List O → Rr) (f__law_parts : List O → Rr) (f__law_is : List O → Rr) (f__law_told_part : List O → Rr) (f__law_wrong : List O → Rr) (f__law_draw : List O → Rr) (f__law_bent : List O → Rr) (f__law_odd : List O → Rr) (f__law_any : List O → Rr) (f_Book___eq__ : List O → Rr) (f_Book___init__ : List O → Rr) (f_Chart___eq__ : List O → Rr) (f__law_known_parts : List O → Rr) : MS := (msSeq (msSet 4 (mCall [1] 1 f__law_parts (mCons [] (mSlot 1) mNil)))
  (msSeq (msIf (tmNot (mTest (mCall [] 2 f__law_is (mCons [] (mStl (mCall [] 2 f__law_told_part (mCons [] (m2 gIx [] (mVar 4) (mC (.int 0))) (mCons [] (m2 gIx [] (mVar 4) (mC (.int 1))) mNil)))) (mCons [] (mStl (mCall [] 2 f__law_wrong (mCons [] (m2 gIx [] (mVar 4) (mC (.int 0))) (mCons [] (m2 gIx [] (mVar 4) (mC (.int 1))) mNil)))) mNil))))) (msRet (mC (.bl false))) msNil)
  (msSeq (msFor [5, 6, 7, 1, 8, 1, 1, 7, 1, 1, 6, 9] (setT [5]) (iRg1 (mCons [] (mC (.int 4)) mNil)) (e2_law f__law_hand f_Chart___init__ f__law_parts f__law_is f__law_told_part f__law_wrong f__law_draw f__law_bent f__law_odd f__law_any f_Book___eq__ f_Book___init__ f_Chart___eq__ f__law_known_parts))
  (msSeq (msSet 10 (mStl (mMake [] 0 3 f_Book___init__ (mCons [] (m2 gIx [] (mVar 4) (mC (.int 0))) (mCons [] (m2 gIx [] (mVar 4) (mC (.int 1))) mNil)))))
  (msIf (tmOr (mTest (m2 (gOwn [0, 1] 0 f_Book___eq__ false) [] (mVar 10) (mVar 4))) (tmOr (mTest (m2 (gOwn [0, 1] 0 f_Book___eq__ false) [] (mVar 10) (mVar 2))) (tmOr (mTest (m2 (gOwn [0, 1] 1 f_Chart___eq__ false) [] (mVar 2) (mVar 10))) (tmOr (tmNot (mTest (m2 (gOwn [0, 1] 0 f_Book___eq__ true) [] (mVar 10) (mVar 2)))) (mTest (m2 (gOwn [0, 1] 0 f_Book___eq__ true) [] (mVar 10) (mStl (mMake [] 0 3 f_Book___init__ (mCons [] (m2 gIx [] (mVar 4) (mC (.int 0))) (mCons [] (m2 gIx [] (mVar 4) (mC (.int 1))) mNil)))))))))) (msRet (mC (.bl false))) msNil)))))
def e4_law (f__law_hand : List O → Rr) (f_Chart___init__ : List O → Rr) (f__law_parts : List O → Rr) (f__law_is : List O → Rr) (f__law_told_part : List O → Rr) (f__law_wrong : List O → Rr) (f__law_draw : List O → Rr) (f__law_bent : List O → Rr) (f__law_odd : List O → Rr) (f__law_any : List O → Rr) (f_Book___eq__ : List O → Rr) (f_Book___init__ : List O → Rr) (f_Chart___eq__ : List O → Rr) (f__law_known_parts : List O → Rr) : ME := (mStl (mCall [] 2 f__law_is (mCons [] (mStl (mCall [] 2 f__law_told_part (mCons [] (mVar 10) (mCons [] (mVar 12) mNil)))) (mCons [] (mStl (mCall [] 2 f__law_wrong (mCons [] (mVar 10) (mCons [] (mVar 12) mNil)))) mNil))))
def b_law (f__law_hand : List O → Rr) (f_Chart___init__ : List O → Rr) (f__law_parts : List O → Rr) (f__law_is : List O → Rr) (f__law_told_part : List O → Rr) (f__law_wrong : List O → Rr) (f__law_draw : List O → Rr) (f__law_bent : List O → Rr) (f__law_odd : List O → Rr) (f__law_any : List O → Rr) (f_Book___eq__ : List O → Rr) (f_Book___init__ : List O → Rr) (f_Chart___eq__ : List O → Rr) (f__law_known_parts : List O → Rr) : MS := (msSeq (msSet 1 (mCall [] 1 f__law_hand (mCons [] (mVar 0) mNil)))
  (msSeq (msSet 2 (mStl (mMake [] 1 6 f_Chart___init__ (mCons [] (mC (.int 2)) (mCons [] (mN gTup (mCons [] (mN gTup (mCons [] (mC (.int 0)) (mCons [] (mC (.int 1)) mNil))) mNil)) (mCons [] (mN gTup (mCons [] (mN gTup (mCons [] (mC (.int 0)) mNil)) (mCons [] (mN gTup (mCons [] (mC (.int 1)) mNil)) mNil))) (mCons [] (mC (.int 0)) (mCons [] (mN gTup (mCons [] (mC (.int 1)) mNil)) mNil))))))))
  (msSeq (msFor [3, 1, 4, 5, 6, 7, 1, 8, 1, 1, 7, 1, 1, 6, 9, 10] (setT [3]) (iRg1 (mCons [] (mC (.int 3)) mNil)) (e3_law f__law_hand f_Chart___init__ f__law_parts f__law_is f__law_told_part f__law_wrong f__law_draw f__law_bent f__law_odd f__law_any f_Book___eq__ f_Book___init__ f_Chart___eq__ f__law_known_parts))
  (msSeq (msSet 11 (mCall [1] 1 f__law_known_parts (mCons [] (mSlot 1) mNil)))
  (msRet (mN gAll (mCons [] (mLc [10, 12, 10, 12] [10, 12] (setTup [10, 12]) (iSeq true (mVar 11)) mYes (e4_law f__law_hand f_Chart___init__ f__law_parts f__law_is f__law_told_part f__law_wrong f__law_draw f__law_bent f__law_odd f__law_any f_Book___eq__ f_Book___init__ f_Chart___eq__ f__law_known_parts)) mNil)))))))
theorem ok_law {f : Addr} {fd : FuncData} {k : Nat} (T : Txt w K mg cl aS eS nS aI_BadBook) {f__law_hand : List O → Rr} {a__law_hand : Addr} {d__law_hand : FuncData} {k__law_hand : Nat} (l__law_hand : k__law_hand ≤ k) (c__law_hand : CalF P w K mg base k__law_hand "_law_hand" ["script"] (spG K cl 1 f__law_hand) a__law_hand d__law_hand) {f_Chart___init__ : List O → Rr} {a_Chart___init__ : Addr} {d_Chart___init__ : FuncData} {k_Chart___init__ : Nat} (l_Chart___init__ : k_Chart___init__ + 1 ≤ k) (c_Chart___init__ : CalI P w K mg base k_Chart___init__ (cl 1) "Chart" ["self", "places", "arrows", "rounds", "outer", "prices"] (spG K cl 6 f_Chart___init__) a_Chart___init__ d_Chart___init__) {f__law_parts : List O → Rr} {a__law_parts : Addr} {d__law_parts : FuncData} {k__law_parts : Nat} (l__law_parts : k__law_parts ≤ k) (c__law_parts : CalF P w K mg base k__law_parts "_law_parts" ["hand"] (spG K cl 1 f__law_parts) a__law_parts d__law_parts) {f__law_is : List O → Rr} {a__law_is : Addr} {d__law_is : FuncData} {k__law_is : Nat} (l__law_is : k__law_is ≤ k) (c__law_is : CalF P w K mg base k__law_is "_law_is" ["told", "due"] (spG K cl 2 f__law_is) a__law_is d__law_is) {f__law_told_part : List O → Rr} {a__law_told_part : Addr} {d__law_told_part : FuncData} {k__law_told_part : Nat} (l__law_told_part : k__law_told_part ≤ k) (c__law_told_part : CalF P w K mg base k__law_told_part "_law_told_part" ["cells", "routines"] (spG K cl 2 f__law_told_part) a__law_told_part d__law_told_part) {f__law_wrong : List O → Rr} {a__law_wrong : Addr} {d__law_wrong : FuncData} {k__law_wrong : Nat} (l__law_wrong : k__law_wrong ≤ k) (c__law_wrong : CalF P w K mg base k__law_wrong "_law_wrong" ["cells", "routines"] (spG K cl 2 f__law_wrong) a__law_wrong d__law_wrong) {f__law_draw : List O → Rr} {a__law_draw : Addr} {d__law_draw : FuncData} {k__law_draw : Nat} (l__law_draw : k__law_draw ≤ k) (c__law_draw : CalF P w K mg base k__law_draw "_law_draw" ["hand", "many"] (spG K cl 2 f__law_draw) a__law_draw d__law_draw) {f__law_bent : List O → Rr} {a__law_bent : Addr} {d__law_bent : FuncData} {k__law_bent : Nat} (l__law_bent : k__law_bent ≤ k) (c__law_bent : CalF P w K mg base k__law_bent "_law_bent" ["hand", "thing", "odd", "deep"] (spG K cl 4 f__law_bent) a__law_bent d__law_bent) {f__law_odd : List O → Rr} {a__law_odd : Addr} {d__law_odd : FuncData} {k__law_odd : Nat} (l__law_odd : k__law_odd ≤ k) (c__law_odd : CalF P w K mg base k__law_odd "_law_odd" ["hand", "program"] (spG K cl 2 f__law_odd) a__law_odd d__law_odd) {f__law_any : List O → Rr} {a__law_any : Addr} {d__law_any : FuncData} {k__law_any : Nat} (l__law_any : k__law_any ≤ k) (c__law_any : CalF P w K mg base k__law_any "_law_any" ["hand", "items"] (spG K cl 2 f__law_any) a__law_any d__law_any) {f_Book___eq__ : List O → Rr} {a_Book___eq__ : Addr} {d_Book___eq__ : FuncData} {k_Book___eq__ : Nat} (l_Book___eq__ : k_Book___eq__ + 1 ≤ k) (c_Book___eq__ : CalM P w K mg base k_Book___eq__ (cl 0) "__eq__" ["self", "other"] (spG K cl 2 f_Book___eq__) a_Book___eq__ d_Book___eq__) {f_Book___init__ : List O → Rr} {a_Book___init__ : Addr} {d_Book___init__ : FuncData} {k_Book___init__ : Nat} (l_Book___init__ : k_Book___init__ + 1 ≤ k) (c_Book___init__ : CalI P w K mg base k_Book___init__ (cl 0) "Book" ["self", "cells", "routines"] (spG K cl 3 f_Book___init__) a_Book___init__ d_Book___init__) {f_Chart___eq__ : List O → Rr} {a_Chart___eq__ : Addr} {d_Chart___eq__ : FuncData} {k_Chart___eq__ : Nat} (l_Chart___eq__ : k_Chart___eq__ + 1 ≤ k) (c_Chart___eq__ : CalM P w K mg base k_Chart___eq__ (cl 1) "__eq__" ["self", "other"] (spG K cl 2 f_Chart___eq__) a_Chart___eq__ d_Chart___eq__) {f__law_known_parts : List O → Rr} {a__law_known_parts : Addr} {d__law_known_parts : FuncData} {k__law_known_parts : Nat} (l__law_known_parts : k__law_known_parts ≤ k) (c__law_known_parts : CalF P w K mg base k__law_known_parts "_law_known_parts" ["hand"] (spG K cl 1 f__law_known_parts) a__law_known_parts d__law_known_parts) (F : Fun K "law" "law" s_law f fd) : FnOk P w K mg base CX0 (k + 1) f fd ["script"] (spG K cl 1 (runDef [] 12 (b_law f__law_hand f_Chart___init__ f__law_parts f__law_is f__law_told_part f__law_wrong f__law_draw f__law_bent f__law_odd f__law_any f_Book___eq__ f_Book___init__ f_Chart___eq__ f__law_known_parts))) :=
  fn_def2 F sc_law (by decide) fun cdv A outer s H E F0 H0 io vs hr => ⟨_, (s_cons (s_set 1 sc_law.nd rfl (by first | exact Or.inl rfl | exact Or.inr rfl) (e_call [] rfl c__law_hand.ok (hr.mono (by omega)) (by rfl) c__law_hand.g c__law_hand.kp c__law_hand.b passN (a_cons (e_var 0) a_nil)) (by show 1 ∉ ([] : List Nat); decide) (by show 1 < 13; decide))
  (s_cons (s_set 2 sc_law.nd rfl (by first | exact Or.inl rfl | exact Or.inr rfl) (e_stl (e_make [] 1 c_Chart___init__.made c_Chart___init__.ok (hr.mono (by omega)) (by rfl) c_Chart___init__.g c_Chart___init__.b passN (a_cons e_int (a_cons (e_tup (a_cons (e_tup (a_cons e_int (a_cons e_int a_nil))) a_nil)) (a_cons (e_tup (a_cons (e_tup (a_cons e_int a_nil)) (a_cons (e_tup (a_cons e_int a_nil)) a_nil))) (a_cons e_int (a_cons (e_tup (a_cons e_int a_nil)) a_nil))))))) (by show 2 ∉ ([] : List Nat); decide) (by show 2 < 13; decide))
  (s_cons (s_for PassesOwn.never rfl (tg_name (by show 3 < 13; decide) (by show 3 ∉ ([] : List Nat); decide)) (i_rg1 (pi_range1 (by rfl) T.z_range (a_cons e_int a_nil))) (pg_name (i := 3) sc_law.nd rfl (by first | exact Or.inl rfl | exact Or.inr rfl)) (s_cons (s_set 4 sc_law.nd rfl (by first | exact Or.inl rfl | exact Or.inr rfl) (e_call [1] rfl c__law_parts.ok (hr.mono (by omega)) (by rfl) c__law_parts.g c__law_parts.kp c__law_parts.b passN (a_cons (e_slot 1) a_nil)) (by show 4 ∉ ([] : List Nat); decide) (by show 4 < 13; decide))
  (s_cons (s_if (t_not (t_val (e_call [] rfl c__law_is.ok (hr.mono (by omega)) (by rfl) c__law_is.g c__law_is.kp c__law_is.b passN (a_cons (e_stl (e_call [] rfl c__law_told_part.ok (hr.mono (by omega)) (by rfl) c__law_told_part.g c__law_told_part.kp c__law_told_part.b passN (a_cons (e_ix ix_seq (loc_ix) (e_var 4) e_int (fun _ _ => rfl)) (a_cons (e_ix ix_seq (loc_ix) (e_var 4) e_int (fun _ _ => rfl)) a_nil)))) (a_cons (e_stl (e_call [] rfl c__law_wrong.ok (hr.mono (by omega)) (by rfl) c__law_wrong.g c__law_wrong.kp c__law_wrong.b passN (a_cons (e_ix ix_seq (loc_ix) (e_var 4) e_int (fun _ _ => rfl)) (a_cons (e_ix ix_seq (loc_ix) (e_var 4) e_int (fun _ _ => rfl)) a_nil)))) a_nil))))) (s_one (s_ret e_bl)) s_nil)
  (s_cons (s_for PassesOwn.never rfl (tg_name (by show 5 < 13; decide) (by show 5 ∉ ([] : List Nat); decide)) (i_rg1 (pi_range1 (by rfl) T.z_range (a_cons e_int a_nil))) (pg_name (i := 5) sc_law.nd rfl (by first | exact Or.inl rfl | exact Or.inr rfl)) (s_cons (s_asgT (tg_tup (is := [6, 7]) (n := 2) rfl (by show ∀ i ∈ ([6, 7] : List Nat), i < 13 ∧ i ∉ ([] : List Nat); decide)) (ps_asg (e_var 4) (pg_tup rfl (pgs_cons (pg_name (i := 6) sc_law.nd rfl (by first | exact Or.inl rfl | exact Or.inr rfl)) (pgs_cons (pg_name (i := 7) sc_law.nd rfl (by first | exact Or.inl rfl | exact Or.inr rfl)) pgs_nil)))))
  (s_cons (s_for PassesOwn.never rfl (tg_name (by show 8 < 13; decide) (by show 8 ∉ ([] : List Nat); decide)) (i_rg1 (pi_range1 (by rfl) T.z_range (a_cons (e_op op_addAll loc_add e_int (e_call [1] rfl c__law_draw.ok (hr.mono (by omega)) (by rfl) c__law_draw.g c__law_draw.kp c__law_draw.b passN (a_cons (e_slot 1) (a_cons e_int a_nil)))) a_nil))) (pg_name (i := 8) sc_law.nd rfl (by first | exact Or.inl rfl | exact Or.inr rfl)) (s_one (s_set 7 sc_law.nd rfl (by first | exact Or.inl rfl | exact Or.inr rfl) (e_stl (e_call [1] rfl c__law_bent.ok (hr.mono (by omega)) (by rfl) c__law_bent.g c__law_bent.kp c__law_bent.b passN (a_cons (e_slot 1) (a_cons (e_var 7) (a_cons (e_stl (e_call [1] rfl c__law_odd.ok (hr.mono (by omega)) (by rfl) c__law_odd.g c__law_odd.kp c__law_odd.b passN (a_cons (e_slot 1) (a_cons (e_var 2) a_nil)))) (a_cons e_int a_nil)))))) (by show 7 ∉ ([] : List Nat); decide) (by show 7 < 13; decide))))
  (s_cons (s_if (t_cmp (op_eqD hr.units) (loc_eq) (e_call [1] rfl c__law_draw.ok (hr.mono (by omega)) (by rfl) c__law_draw.g c__law_draw.kp c__law_draw.b passN (a_cons (e_slot 1) (a_cons e_int a_nil))) e_int) (s_one (s_set 6 sc_law.nd rfl (by first | exact Or.inl rfl | exact Or.inr rfl) (e_call [1] rfl c__law_any.ok (hr.mono (by omega)) (by rfl) c__law_any.g c__law_any.kp c__law_any.b passN (a_cons (e_slot 1) (a_cons (e_stl (e_lst (a_cons e_int (a_cons e_int (a_cons e_bl (a_cons e_non (a_cons e_str (a_cons (e_tup (a_cons e_int a_nil)) (a_cons e_int (a_cons e_int a_nil)))))))))) a_nil))) (by show 6 ∉ ([] : List Nat); decide) (by show 6 < 13; decide))) s_nil)
  (s_cons (s_set 9 sc_law.nd rfl (by first | exact Or.inl rfl | exact Or.inr rfl) (e_call [] rfl c__law_wrong.ok (hr.mono (by omega)) (by rfl) c__law_wrong.g c__law_wrong.kp c__law_wrong.b passN (a_cons (e_var 6) (a_cons (e_var 7) a_nil))) (by show 9 ∉ ([] : List Nat); decide) (by show 9 < 13; decide))
  (s_cons (s_if (t_not (t_val (e_call [] rfl c__law_is.ok (hr.mono (by omega)) (by rfl) c__law_is.g c__law_is.kp c__law_is.b passN (a_cons (e_stl (e_call [] rfl c__law_told_part.ok (hr.mono (by omega)) (by rfl) c__law_told_part.g c__law_told_part.kp c__law_told_part.b passN (a_cons (e_var 6) (a_cons (e_var 7) a_nil)))) (a_cons (e_var 9) a_nil))))) (s_one (s_ret e_bl)) s_nil)
  (s_one (s_if (t_w (w_and (t_cmp op_isN loc_is (e_var 9) e_non) (w_and1 (t_cmp (op_neD hr.units) (loc_ne) (e_cmp (op_ownEq c_Book___eq__.ok (hr.mono (by omega)) c_Book___eq__.b c_Book___eq__.m.at_ c_Book___eq__.m.fn) (loc_own T.nf_Book T.nt_Book) (e_make [] 0 c_Book___init__.made c_Book___init__.ok (hr.mono (by omega)) (by rfl) c_Book___init__.g c_Book___init__.b passN (a_cons (e_var 6) (a_cons (e_var 7) a_nil))) (e_stl (e_make [] 0 c_Book___init__.made c_Book___init__.ok (hr.mono (by omega)) (by rfl) c_Book___init__.g c_Book___init__.b passN (a_cons (e_ix ix_seq (loc_ix) (e_var 4) e_int (fun _ _ => rfl)) (a_cons (e_ix ix_seq (loc_ix) (e_var 4) e_int (fun _ _ => rfl)) a_nil))))) (e_cmp (op_eqD hr.units) (loc_eq) (e_tup (a_cons (e_var 6) (a_cons (e_var 7) a_nil))) (e_var 4)))))) (s_one (s_ret e_bl)) s_nil))))))))
  (s_cons (s_set 10 sc_law.nd rfl (by first | exact Or.inl rfl | exact Or.inr rfl) (e_stl (e_make [] 0 c_Book___init__.made c_Book___init__.ok (hr.mono (by omega)) (by rfl) c_Book___init__.g c_Book___init__.b passN (a_cons (e_ix ix_seq (loc_ix) (e_var 4) e_int (fun _ _ => rfl)) (a_cons (e_ix ix_seq (loc_ix) (e_var 4) e_int (fun _ _ => rfl)) a_nil)))) (by show 10 ∉ ([] : List Nat); decide) (by show 10 < 13; decide))
  (s_one (s_if (t_w (w_or (t_cmp (op_ownEq c_Book___eq__.ok (hr.mono (by omega)) c_Book___eq__.b c_Book___eq__.m.at_ c_Book___eq__.m.fn) (loc_own T.nf_Book T.nt_Book) (e_var 10) (e_var 4)) (w_or (t_cmp (op_ownEq c_Book___eq__.ok (hr.mono (by omega)) c_Book___eq__.b c_Book___eq__.m.at_ c_Book___eq__.m.fn) (loc_own T.nf_Book T.nt_Book) (e_var 10) (e_var 2)) (w_or (t_cmp (op_ownEq c_Chart___eq__.ok (hr.mono (by omega)) c_Chart___eq__.b c_Chart___eq__.m.at_ c_Chart___eq__.m.fn) (loc_own T.nf_Chart T.nt_Chart) (e_var 2) (e_var 10)) (w_or (t_not (t_cmp (op_ownNe c_Book___eq__.ok (hr.mono (by omega)) c_Book___eq__.b c_Book___eq__.m.at_ c_Book___eq__.m.fn T.ne_Book T.nb_Book) (loc_own T.nf_Book T.nt_Book) (e_var 10) (e_var 2))) (w_or1 (t_cmp (op_ownNe c_Book___eq__.ok (hr.mono (by omega)) c_Book___eq__.b c_Book___eq__.m.at_ c_Book___eq__.m.fn T.ne_Book T.nb_Book) (loc_own T.nf_Book T.nt_Book) (e_var 10) (e_stl (e_make [] 0 c_Book___init__.made c_Book___init__.ok (hr.mono (by omega)) (by rfl) c_Book___init__.g c_Book___init__.b passN (a_cons (e_ix ix_seq (loc_ix) (e_var 4) e_int (fun _ _ => rfl)) (a_cons (e_ix ix_seq (loc_ix) (e_var 4) e_int (fun _ _ => rfl)) a_nil))))))))))) (s_one (s_ret e_bl)) s_nil)))))))
  (s_cons (s_set 11 sc_law.nd rfl (by first | exact Or.inl rfl | exact Or.inr rfl) (e_call [1] rfl c__law_known_parts.ok (hr.mono (by omega)) (by rfl) c__law_known_parts.g c__law_known_parts.kp c__law_known_parts.b passN (a_cons (e_slot 1) a_nil)) (by show 11 ∉ ([] : List Nat); decide) (by show 11 < 13; decide))
  (s_one (s_ret (e_cb (loc_all) (pe_callB (cr_all rfl) (by rfl) T.z_all rfl (a_cons (e_lc (vs := [10, 12]) (tg_tup (is := [10, 12]) (n := 2) rfl (by show ∀ i ∈ ([10, 12] : List Nat), i < 13 ∧ i ∉ ([] : List Nat); decide)) (by decide) (by show ∀ i ∈ ([10, 12] : List Nat), i ∉ ([] : List Nat); decide) (pe_lc (own := [("one", 10), ("two", 12)]) rfl sc_law.nd (i_tup rfl (e_var 11)) (blkOk_by (N := ["script", "hand", "chart", "turn", "parts", "again", "cells", "routines", "change", "due", "one", "some", "two"]) (sc := defScope s_law) (by decide +kernel)) (fun _ _ _ _ _ => (pg_tup rfl (pgs_cons (pg_name (i := 10) sc_law.nd rfl (by first | exact Or.inl rfl | exact Or.inr rfl)) (pgs_cons (pg_name (i := 12) sc_law.nd rfl (by first | exact Or.inl rfl | exact Or.inr rfl)) pgs_nil)))) (fun _ _ _ _ _ => ts_nil) (fun _ _ _ _ _ => (e_stl (e_call [] rfl c__law_is.ok (hr.mono (by omega)) (by rfl) c__law_is.g c__law_is.kp c__law_is.b passN (a_cons (e_stl (e_call [] rfl c__law_told_part.ok (hr.mono (by omega)) (by rfl) c__law_told_part.g c__law_told_part.kp c__law_told_part.b passN (a_cons (e_var 10) (a_cons (e_var 12) a_nil)))) (a_cons (e_stl (e_call [] rfl c__law_wrong.ok (hr.mono (by omega)) (by rfl) c__law_wrong.g c__law_wrong.kp c__law_wrong.b passN (a_cons (e_var 10) (a_cons (e_var 12) a_nil)))) a_nil))))))) a_nil)))))))))⟩
end
end L3
namespace L3
open PySem L2
noncomputable def f_is_integer : List O → Rr := runDef [] 0 (b_is_integer)
noncomputable def f_is_within : List O → Rr := runDef [] 0 (b_is_within f_is_integer)
noncomputable def f_is_pair : List O → Rr := runDef [] 0 (b_is_pair)
noncomputable def f_is_sized : List O → Rr := runDef [] 0 (b_is_sized)
noncomputable def f_place_at : List O → Rr := runDef [] 0 (b_place_at)
noncomputable def f_is_arrow : List O → Rr := runDef [] 0 (b_is_arrow f_is_pair f_is_within)
noncomputable def f_is_round : List O → Rr := runDef [] 1 (b_is_round f_is_sized f_is_integer)
noncomputable def f_is_price : List O → Rr := runDef [] 0 (b_is_price f_is_within)
noncomputable def f_ends_at : List O → Rr := runDef [] 1 (b_ends_at f_place_at)
noncomputable def f_hang_together : List O → Rr := runDef [] 4 (b_hang_together)
noncomputable def f_begun_least : List O → Rr := runDef [] 1 (b_begun_least)
noncomputable def f_befores : List O → Rr := runDef [] 4 (b_befores)
noncomputable def f_other_end : List O → Rr := runDef [] 0 (b_other_end)
noncomputable def f_walked : List O → Rr := runDef [] 2 (b_walked f_other_end)
noncomputable def f_rims_by : List O → Rr := runDef [] 5 (b_rims_by f_walked)
noncomputable def f_check_parts : List O → Rr := runDef [] 4 (b_check_parts f_is_within f_is_sized f_is_arrow f_is_round f_ends_at f_hang_together)
noncomputable def f_Chart_keep : List O → Rr := runDef [0] 4 (b_Chart_keep f_begun_least f_befores f_rims_by)
noncomputable def f_Chart___init__ : List O → Rr := runDef [0] 1 (b_Chart___init__ f_check_parts f_rims_by f_befores f_is_within f_is_sized f_is_price f_Chart_keep)
noncomputable def f_Chart___eq__ : List O → Rr := runDef [] 0 (b_Chart___eq__)
noncomputable def f_is_sum : List O → Rr := runDef [] 1 (b_is_sum f_is_within)
noncomputable def f_is_test : List O → Rr := runDef [] 0 (b_is_test f_is_sum)
noncomputable def f_body_size : Nat → List O → Rr
  | 0 => fun _ => .bad
  | n + 1 => runDef [] 3 (b_body_size (runDef [] 3 (b_statement_size f_is_within f_is_sum f_is_test (f_body_size n))))
noncomputable def f_statement_size (n : Nat) : List O → Rr := runDef [] 3 (b_statement_size f_is_within f_is_sum f_is_test (f_body_size n))
noncomputable def f_wrong_part : List O → Rr := runDef [] 3 (b_wrong_part f_is_within (f_body_size 9))
noncomputable def f_Book___init__ : List O → Rr := runDef [0] 1 (b_Book___init__ f_wrong_part)
noncomputable def f_Book___eq__ : List O → Rr := runDef [] 0 (b_Book___eq__)
noncomputable def f__law_hand : List O → Rr := runDef [] 2 (b__law_hand)
noncomputable def f__law_draw : List O → Rr := runDef [0] 3 (b__law_draw)
noncomputable def f__law_any : List O → Rr := runDef [0] 0 (b__law_any f__law_draw)
noncomputable def f__law_is : Nat → List O → Rr
  | 0 => fun _ => .bad
  | n + 1 => runDef [] 2 (b__law_is (f__law_is n))
noncomputable def f__law_nested : List O → Rr := runDef [0] 2 (b__law_nested f__law_any)
noncomputable def f__law_int : List O → Rr := runDef [] 0 (b__law_int)
noncomputable def f__law_sum : List O → Rr := runDef [0] 2 (b__law_sum f__law_draw f__law_any)
noncomputable def f__law_alone : List O → Rr := runDef [] 1 (b__law_alone)
noncomputable def f__law_test : List O → Rr := runDef [0] 0 (b__law_test f__law_any f__law_sum)
noncomputable def f__law_size : Nat → List O → Rr
  | 0 => fun _ => .bad
  | n + 1 => runDef [] 4 (b__law_size (f__law_size n))
noncomputable def f__law_body : Nat → List O → Rr
  | 0 => fun _ => .bad
  | n + 1 => runDef [0] 2 (b__law_body f__law_draw (runDef [0] 4 (b__law_statement f__law_draw f__law_sum f__law_alone f__law_any (f__law_body n) f__law_test)) (f__law_size 20))
noncomputable def f__law_statement (n : Nat) : List O → Rr := runDef [0] 4 (b__law_statement f__law_draw f__law_sum f__law_alone f__law_any (f__law_body n) f__law_test)
noncomputable def f__law_parts : List O → Rr := runDef [0] 5 (b__law_parts f__law_draw (f__law_body 20))
noncomputable def f__law_odd : List O → Rr := runDef [0] 1 (b__law_odd f__law_any f__law_nested)
noncomputable def f__law_bent : Nat → List O → Rr
  | 0 => fun _ => .bad
  | n + 1 => runDef [0] 2 (b__law_bent f__law_draw (f__law_bent n))
noncomputable def f__law_is_sum : List O → Rr := runDef [] 1 (b__law_is_sum f__law_int)
noncomputable def f__law_is_test : List O → Rr := runDef [] 0 (b__law_is_test f__law_is_sum)
noncomputable def f__law_is_body : Nat → List O → Rr
  | 0 => fun _ => .bad
  | n + 1 => runDef [] 1 (b__law_is_body (runDef [] 1 (b__law_is_statement f__law_int f__law_is_sum f__law_is_test (f__law_is_body n))))
noncomputable def f__law_is_statement (n : Nat) : List O → Rr := runDef [] 1 (b__law_is_statement f__law_int f__law_is_sum f__law_is_test (f__law_is_body n))
noncomputable def f__law_wrong : List O → Rr := runDef [] 2 (b__law_wrong f__law_int (f__law_is_body 9) (f__law_size 20))
noncomputable def f__law_told_part : List O → Rr := runDef [] 3 (b__law_told_part f_Book___init__ (f__law_is 30))
noncomputable def f__law_deep_body : List O → Rr := runDef [0] 3 (b__law_deep_body f__law_any)
noncomputable def f__law_known_parts : List O → Rr := runDef [0] 5 (b__law_known_parts f__law_draw f__law_deep_body)
noncomputable def f_law : List O → Rr := runDef [] 12 (b_law f__law_hand f_Chart___init__ f__law_parts (f__law_is 30) f__law_told_part f__law_wrong f__law_draw (f__law_bent 14) f__law_odd f__law_any f_Book___eq__ (calmF f_Book___init__) f_Chart___eq__ f__law_known_parts)
end L3
namespace L3
open PySem L2
@[simp] theorem sok_set : PyData.strOk (Str.ofString "set") = true := by decide +kernel
@[simp] theorem sok_say : PyData.strOk (Str.ofString "say") = true := by decide +kernel
@[simp] theorem sok_call : PyData.strOk (Str.ofString "call") = true := by decide +kernel
@[simp] theorem sok_if : PyData.strOk (Str.ofString "if") = true := by decide +kernel
@[simp] theorem sok_while : PyData.strOk (Str.ofString "while") = true := by decide +kernel
@[simp] theorem sok_less : PyData.strOk (Str.ofString "less") = true := by decide +kernel
@[simp] theorem sok_same : PyData.strOk (Str.ofString "same") = true := by decide +kernel
@[simp] theorem sok_begin : PyData.strOk (Str.ofString "begin") = true := by decide +kernel
@[simp] theorem sok_end : PyData.strOk (Str.ofString "end") = true := by decide +kernel
@[simp] theorem sok_join : PyData.strOk (Str.ofString "join") = true := by decide +kernel
@[simp] theorem sok_runs : PyData.strOk (Str.ofString "runs") = true := by decide +kernel
@[simp] theorem sok_over : PyData.strOk (Str.ofString "over") = true := by decide +kernel
@[simp] theorem sok_fault : PyData.strOk (Str.ofString "fault") = true := by decide +kernel
@[simp] theorem sok_on : PyData.strOk (Str.ofString "on") = true := by decide +kernel
@[simp] theorem sne_set_say : (Str.ofString "set" = Str.ofString "say") = False := eq_false (by decide +kernel)
@[simp] theorem sne_set_call : (Str.ofString "set" = Str.ofString "call") = False := eq_false (by decide +kernel)
@[simp] theorem sne_set_if : (Str.ofString "set" = Str.ofString "if") = False := eq_false (by decide +kernel)
@[simp] theorem sne_set_while : (Str.ofString "set" = Str.ofString "while") = False := eq_false (by decide +kernel)
@[simp] theorem sne_set_less : (Str.ofString "set" = Str.ofString "less") = False := eq_false (by decide +kernel)
@[simp] theorem sne_set_same : (Str.ofString "set" = Str.ofString "same") = False := eq_false (by decide +kernel)
@[simp] theorem sne_set_begin : (Str.ofString "set" = Str.ofString "begin") = False := eq_false (by decide +kernel)
@[simp] theorem sne_set_end : (Str.ofString "set" = Str.ofString "end") = False := eq_false (by decide +kernel)
@[simp] theorem sne_set_join : (Str.ofString "set" = Str.ofString "join") = False := eq_false (by decide +kernel)
@[simp] theorem sne_set_runs : (Str.ofString "set" = Str.ofString "runs") = False := eq_false (by decide +kernel)
@[simp] theorem sne_set_over : (Str.ofString "set" = Str.ofString "over") = False := eq_false (by decide +kernel)
@[simp] theorem sne_set_fault : (Str.ofString "set" = Str.ofString "fault") = False := eq_false (by decide +kernel)
@[simp] theorem sne_set_on : (Str.ofString "set" = Str.ofString "on") = False := eq_false (by decide +kernel)
@[simp] theorem sne_say_set : (Str.ofString "say" = Str.ofString "set") = False := eq_false (by decide +kernel)
@[simp] theorem sne_say_call : (Str.ofString "say" = Str.ofString "call") = False := eq_false (by decide +kernel)
@[simp] theorem sne_say_if : (Str.ofString "say" = Str.ofString "if") = False := eq_false (by decide +kernel)
@[simp] theorem sne_say_while : (Str.ofString "say" = Str.ofString "while") = False := eq_false (by decide +kernel)
@[simp] theorem sne_say_less : (Str.ofString "say" = Str.ofString "less") = False := eq_false (by decide +kernel)
@[simp] theorem sne_say_same : (Str.ofString "say" = Str.ofString "same") = False := eq_false (by decide +kernel)
@[simp] theorem sne_say_begin : (Str.ofString "say" = Str.ofString "begin") = False := eq_false (by decide +kernel)
@[simp] theorem sne_say_end : (Str.ofString "say" = Str.ofString "end") = False := eq_false (by decide +kernel)
@[simp] theorem sne_say_join : (Str.ofString "say" = Str.ofString "join") = False := eq_false (by decide +kernel)
@[simp] theorem sne_say_runs : (Str.ofString "say" = Str.ofString "runs") = False := eq_false (by decide +kernel)
@[simp] theorem sne_say_over : (Str.ofString "say" = Str.ofString "over") = False := eq_false (by decide +kernel)
@[simp] theorem sne_say_fault : (Str.ofString "say" = Str.ofString "fault") = False := eq_false (by decide +kernel)
@[simp] theorem sne_say_on : (Str.ofString "say" = Str.ofString "on") = False := eq_false (by decide +kernel)
@[simp] theorem sne_call_set : (Str.ofString "call" = Str.ofString "set") = False := eq_false (by decide +kernel)
@[simp] theorem sne_call_say : (Str.ofString "call" = Str.ofString "say") = False := eq_false (by decide +kernel)
@[simp] theorem sne_call_if : (Str.ofString "call" = Str.ofString "if") = False := eq_false (by decide +kernel)
@[simp] theorem sne_call_while : (Str.ofString "call" = Str.ofString "while") = False := eq_false (by decide +kernel)
@[simp] theorem sne_call_less : (Str.ofString "call" = Str.ofString "less") = False := eq_false (by decide +kernel)
@[simp] theorem sne_call_same : (Str.ofString "call" = Str.ofString "same") = False := eq_false (by decide +kernel)
@[simp] theorem sne_call_begin : (Str.ofString "call" = Str.ofString "begin") = False := eq_false (by decide +kernel)
@[simp] theorem sne_call_end : (Str.ofString "call" = Str.ofString "end") = False := eq_false (by decide +kernel)
@[simp] theorem sne_call_join : (Str.ofString "call" = Str.ofString "join") = False := eq_false (by decide +kernel)
@[simp] theorem sne_call_runs : (Str.ofString "call" = Str.ofString "runs") = False := eq_false (by decide +kernel)
@[simp] theorem sne_call_over : (Str.ofString "call" = Str.ofString "over") = False := eq_false (by decide +kernel)
@[simp] theorem sne_call_fault : (Str.ofString "call" = Str.ofString "fault") = False := eq_false (by decide +kernel)
@[simp] theorem sne_call_on : (Str.ofString "call" = Str.ofString "on") = False := eq_false (by decide +kernel)
@[simp] theorem sne_if_set : (Str.ofString "if" = Str.ofString "set") = False := eq_false (by decide +kernel)
@[simp] theorem sne_if_say : (Str.ofString "if" = Str.ofString "say") = False := eq_false (by decide +kernel)
@[simp] theorem sne_if_call : (Str.ofString "if" = Str.ofString "call") = False := eq_false (by decide +kernel)
@[simp] theorem sne_if_while : (Str.ofString "if" = Str.ofString "while") = False := eq_false (by decide +kernel)
@[simp] theorem sne_if_less : (Str.ofString "if" = Str.ofString "less") = False := eq_false (by decide +kernel)
@[simp] theorem sne_if_same : (Str.ofString "if" = Str.ofString "same") = False := eq_false (by decide +kernel)
@[simp] theorem sne_if_begin : (Str.ofString "if" = Str.ofString "begin") = False := eq_false (by decide +kernel)
@[simp] theorem sne_if_end : (Str.ofString "if" = Str.ofString "end") = False := eq_false (by decide +kernel)
@[simp] theorem sne_if_join : (Str.ofString "if" = Str.ofString "join") = False := eq_false (by decide +kernel)
@[simp] theorem sne_if_runs : (Str.ofString "if" = Str.ofString "runs") = False := eq_false (by decide +kernel)
@[simp] theorem sne_if_over : (Str.ofString "if" = Str.ofString "over") = False := eq_false (by decide +kernel)
@[simp] theorem sne_if_fault : (Str.ofString "if" = Str.ofString "fault") = False := eq_false (by decide +kernel)
@[simp] theorem sne_if_on : (Str.ofString "if" = Str.ofString "on") = False := eq_false (by decide +kernel)
@[simp] theorem sne_while_set : (Str.ofString "while" = Str.ofString "set") = False := eq_false (by decide +kernel)
@[simp] theorem sne_while_say : (Str.ofString "while" = Str.ofString "say") = False := eq_false (by decide +kernel)
@[simp] theorem sne_while_call : (Str.ofString "while" = Str.ofString "call") = False := eq_false (by decide +kernel)
@[simp] theorem sne_while_if : (Str.ofString "while" = Str.ofString "if") = False := eq_false (by decide +kernel)
@[simp] theorem sne_while_less : (Str.ofString "while" = Str.ofString "less") = False := eq_false (by decide +kernel)
@[simp] theorem sne_while_same : (Str.ofString "while" = Str.ofString "same") = False := eq_false (by decide +kernel)
@[simp] theorem sne_while_begin : (Str.ofString "while" = Str.ofString "begin") = False := eq_false (by decide +kernel)
@[simp] theorem sne_while_end : (Str.ofString "while" = Str.ofString "end") = False := eq_false (by decide +kernel)
@[simp] theorem sne_while_join : (Str.ofString "while" = Str.ofString "join") = False := eq_false (by decide +kernel)
@[simp] theorem sne_while_runs : (Str.ofString "while" = Str.ofString "runs") = False := eq_false (by decide +kernel)
@[simp] theorem sne_while_over : (Str.ofString "while" = Str.ofString "over") = False := eq_false (by decide +kernel)
@[simp] theorem sne_while_fault : (Str.ofString "while" = Str.ofString "fault") = False := eq_false (by decide +kernel)
@[simp] theorem sne_while_on : (Str.ofString "while" = Str.ofString "on") = False := eq_false (by decide +kernel)
@[simp] theorem sne_less_set : (Str.ofString "less" = Str.ofString "set") = False := eq_false (by decide +kernel)
@[simp] theorem sne_less_say : (Str.ofString "less" = Str.ofString "say") = False := eq_false (by decide +kernel)
@[simp] theorem sne_less_call : (Str.ofString "less" = Str.ofString "call") = False := eq_false (by decide +kernel)
@[simp] theorem sne_less_if : (Str.ofString "less" = Str.ofString "if") = False := eq_false (by decide +kernel)
@[simp] theorem sne_less_while : (Str.ofString "less" = Str.ofString "while") = False := eq_false (by decide +kernel)
@[simp] theorem sne_less_same : (Str.ofString "less" = Str.ofString "same") = False := eq_false (by decide +kernel)
@[simp] theorem sne_less_begin : (Str.ofString "less" = Str.ofString "begin") = False := eq_false (by decide +kernel)
@[simp] theorem sne_less_end : (Str.ofString "less" = Str.ofString "end") = False := eq_false (by decide +kernel)
@[simp] theorem sne_less_join : (Str.ofString "less" = Str.ofString "join") = False := eq_false (by decide +kernel)
@[simp] theorem sne_less_runs : (Str.ofString "less" = Str.ofString "runs") = False := eq_false (by decide +kernel)
@[simp] theorem sne_less_over : (Str.ofString "less" = Str.ofString "over") = False := eq_false (by decide +kernel)
@[simp] theorem sne_less_fault : (Str.ofString "less" = Str.ofString "fault") = False := eq_false (by decide +kernel)
@[simp] theorem sne_less_on : (Str.ofString "less" = Str.ofString "on") = False := eq_false (by decide +kernel)
@[simp] theorem sne_same_set : (Str.ofString "same" = Str.ofString "set") = False := eq_false (by decide +kernel)
@[simp] theorem sne_same_say : (Str.ofString "same" = Str.ofString "say") = False := eq_false (by decide +kernel)
@[simp] theorem sne_same_call : (Str.ofString "same" = Str.ofString "call") = False := eq_false (by decide +kernel)
@[simp] theorem sne_same_if : (Str.ofString "same" = Str.ofString "if") = False := eq_false (by decide +kernel)
@[simp] theorem sne_same_while : (Str.ofString "same" = Str.ofString "while") = False := eq_false (by decide +kernel)
@[simp] theorem sne_same_less : (Str.ofString "same" = Str.ofString "less") = False := eq_false (by decide +kernel)
@[simp] theorem sne_same_begin : (Str.ofString "same" = Str.ofString "begin") = False := eq_false (by decide +kernel)
@[simp] theorem sne_same_end : (Str.ofString "same" = Str.ofString "end") = False := eq_false (by decide +kernel)
@[simp] theorem sne_same_join : (Str.ofString "same" = Str.ofString "join") = False := eq_false (by decide +kernel)
@[simp] theorem sne_same_runs : (Str.ofString "same" = Str.ofString "runs") = False := eq_false (by decide +kernel)
@[simp] theorem sne_same_over : (Str.ofString "same" = Str.ofString "over") = False := eq_false (by decide +kernel)
@[simp] theorem sne_same_fault : (Str.ofString "same" = Str.ofString "fault") = False := eq_false (by decide +kernel)
@[simp] theorem sne_same_on : (Str.ofString "same" = Str.ofString "on") = False := eq_false (by decide +kernel)
@[simp] theorem sne_begin_set : (Str.ofString "begin" = Str.ofString "set") = False := eq_false (by decide +kernel)
@[simp] theorem sne_begin_say : (Str.ofString "begin" = Str.ofString "say") = False := eq_false (by decide +kernel)
@[simp] theorem sne_begin_call : (Str.ofString "begin" = Str.ofString "call") = False := eq_false (by decide +kernel)
@[simp] theorem sne_begin_if : (Str.ofString "begin" = Str.ofString "if") = False := eq_false (by decide +kernel)
@[simp] theorem sne_begin_while : (Str.ofString "begin" = Str.ofString "while") = False := eq_false (by decide +kernel)
@[simp] theorem sne_begin_less : (Str.ofString "begin" = Str.ofString "less") = False := eq_false (by decide +kernel)
@[simp] theorem sne_begin_same : (Str.ofString "begin" = Str.ofString "same") = False := eq_false (by decide +kernel)
@[simp] theorem sne_begin_end : (Str.ofString "begin" = Str.ofString "end") = False := eq_false (by decide +kernel)
@[simp] theorem sne_begin_join : (Str.ofString "begin" = Str.ofString "join") = False := eq_false (by decide +kernel)
@[simp] theorem sne_begin_runs : (Str.ofString "begin" = Str.ofString "runs") = False := eq_false (by decide +kernel)
@[simp] theorem sne_begin_over : (Str.ofString "begin" = Str.ofString "over") = False := eq_false (by decide +kernel)
@[simp] theorem sne_begin_fault : (Str.ofString "begin" = Str.ofString "fault") = False := eq_false (by decide +kernel)
@[simp] theorem sne_begin_on : (Str.ofString "begin" = Str.ofString "on") = False := eq_false (by decide +kernel)
@[simp] theorem sne_end_set : (Str.ofString "end" = Str.ofString "set") = False := eq_false (by decide +kernel)
@[simp] theorem sne_end_say : (Str.ofString "end" = Str.ofString "say") = False := eq_false (by decide +kernel)
@[simp] theorem sne_end_call : (Str.ofString "end" = Str.ofString "call") = False := eq_false (by decide +kernel)
@[simp] theorem sne_end_if : (Str.ofString "end" = Str.ofString "if") = False := eq_false (by decide +kernel)
@[simp] theorem sne_end_while : (Str.ofString "end" = Str.ofString "while") = False := eq_false (by decide +kernel)
@[simp] theorem sne_end_less : (Str.ofString "end" = Str.ofString "less") = False := eq_false (by decide +kernel)
@[simp] theorem sne_end_same : (Str.ofString "end" = Str.ofString "same") = False := eq_false (by decide +kernel)
@[simp] theorem sne_end_begin : (Str.ofString "end" = Str.ofString "begin") = False := eq_false (by decide +kernel)
@[simp] theorem sne_end_join : (Str.ofString "end" = Str.ofString "join") = False := eq_false (by decide +kernel)
@[simp] theorem sne_end_runs : (Str.ofString "end" = Str.ofString "runs") = False := eq_false (by decide +kernel)
@[simp] theorem sne_end_over : (Str.ofString "end" = Str.ofString "over") = False := eq_false (by decide +kernel)
@[simp] theorem sne_end_fault : (Str.ofString "end" = Str.ofString "fault") = False := eq_false (by decide +kernel)
@[simp] theorem sne_end_on : (Str.ofString "end" = Str.ofString "on") = False := eq_false (by decide +kernel)
@[simp] theorem sne_join_set : (Str.ofString "join" = Str.ofString "set") = False := eq_false (by decide +kernel)
@[simp] theorem sne_join_say : (Str.ofString "join" = Str.ofString "say") = False := eq_false (by decide +kernel)
@[simp] theorem sne_join_call : (Str.ofString "join" = Str.ofString "call") = False := eq_false (by decide +kernel)
@[simp] theorem sne_join_if : (Str.ofString "join" = Str.ofString "if") = False := eq_false (by decide +kernel)
@[simp] theorem sne_join_while : (Str.ofString "join" = Str.ofString "while") = False := eq_false (by decide +kernel)
@[simp] theorem sne_join_less : (Str.ofString "join" = Str.ofString "less") = False := eq_false (by decide +kernel)
@[simp] theorem sne_join_same : (Str.ofString "join" = Str.ofString "same") = False := eq_false (by decide +kernel)
@[simp] theorem sne_join_begin : (Str.ofString "join" = Str.ofString "begin") = False := eq_false (by decide +kernel)
@[simp] theorem sne_join_end : (Str.ofString "join" = Str.ofString "end") = False := eq_false (by decide +kernel)
@[simp] theorem sne_join_runs : (Str.ofString "join" = Str.ofString "runs") = False := eq_false (by decide +kernel)
@[simp] theorem sne_join_over : (Str.ofString "join" = Str.ofString "over") = False := eq_false (by decide +kernel)
@[simp] theorem sne_join_fault : (Str.ofString "join" = Str.ofString "fault") = False := eq_false (by decide +kernel)
@[simp] theorem sne_join_on : (Str.ofString "join" = Str.ofString "on") = False := eq_false (by decide +kernel)
@[simp] theorem sne_runs_set : (Str.ofString "runs" = Str.ofString "set") = False := eq_false (by decide +kernel)
@[simp] theorem sne_runs_say : (Str.ofString "runs" = Str.ofString "say") = False := eq_false (by decide +kernel)
@[simp] theorem sne_runs_call : (Str.ofString "runs" = Str.ofString "call") = False := eq_false (by decide +kernel)
@[simp] theorem sne_runs_if : (Str.ofString "runs" = Str.ofString "if") = False := eq_false (by decide +kernel)
@[simp] theorem sne_runs_while : (Str.ofString "runs" = Str.ofString "while") = False := eq_false (by decide +kernel)
@[simp] theorem sne_runs_less : (Str.ofString "runs" = Str.ofString "less") = False := eq_false (by decide +kernel)
@[simp] theorem sne_runs_same : (Str.ofString "runs" = Str.ofString "same") = False := eq_false (by decide +kernel)
@[simp] theorem sne_runs_begin : (Str.ofString "runs" = Str.ofString "begin") = False := eq_false (by decide +kernel)
@[simp] theorem sne_runs_end : (Str.ofString "runs" = Str.ofString "end") = False := eq_false (by decide +kernel)
@[simp] theorem sne_runs_join : (Str.ofString "runs" = Str.ofString "join") = False := eq_false (by decide +kernel)
@[simp] theorem sne_runs_over : (Str.ofString "runs" = Str.ofString "over") = False := eq_false (by decide +kernel)
@[simp] theorem sne_runs_fault : (Str.ofString "runs" = Str.ofString "fault") = False := eq_false (by decide +kernel)
@[simp] theorem sne_runs_on : (Str.ofString "runs" = Str.ofString "on") = False := eq_false (by decide +kernel)
@[simp] theorem sne_over_set : (Str.ofString "over" = Str.ofString "set") = False := eq_false (by decide +kernel)
@[simp] theorem sne_over_say : (Str.ofString "over" = Str.ofString "say") = False := eq_false (by decide +kernel)
@[simp] theorem sne_over_call : (Str.ofString "over" = Str.ofString "call") = False := eq_false (by decide +kernel)
@[simp] theorem sne_over_if : (Str.ofString "over" = Str.ofString "if") = False := eq_false (by decide +kernel)
@[simp] theorem sne_over_while : (Str.ofString "over" = Str.ofString "while") = False := eq_false (by decide +kernel)
@[simp] theorem sne_over_less : (Str.ofString "over" = Str.ofString "less") = False := eq_false (by decide +kernel)
@[simp] theorem sne_over_same : (Str.ofString "over" = Str.ofString "same") = False := eq_false (by decide +kernel)
@[simp] theorem sne_over_begin : (Str.ofString "over" = Str.ofString "begin") = False := eq_false (by decide +kernel)
@[simp] theorem sne_over_end : (Str.ofString "over" = Str.ofString "end") = False := eq_false (by decide +kernel)
@[simp] theorem sne_over_join : (Str.ofString "over" = Str.ofString "join") = False := eq_false (by decide +kernel)
@[simp] theorem sne_over_runs : (Str.ofString "over" = Str.ofString "runs") = False := eq_false (by decide +kernel)
@[simp] theorem sne_over_fault : (Str.ofString "over" = Str.ofString "fault") = False := eq_false (by decide +kernel)
@[simp] theorem sne_over_on : (Str.ofString "over" = Str.ofString "on") = False := eq_false (by decide +kernel)
@[simp] theorem sne_fault_set : (Str.ofString "fault" = Str.ofString "set") = False := eq_false (by decide +kernel)
@[simp] theorem sne_fault_say : (Str.ofString "fault" = Str.ofString "say") = False := eq_false (by decide +kernel)
@[simp] theorem sne_fault_call : (Str.ofString "fault" = Str.ofString "call") = False := eq_false (by decide +kernel)
@[simp] theorem sne_fault_if : (Str.ofString "fault" = Str.ofString "if") = False := eq_false (by decide +kernel)
@[simp] theorem sne_fault_while : (Str.ofString "fault" = Str.ofString "while") = False := eq_false (by decide +kernel)
@[simp] theorem sne_fault_less : (Str.ofString "fault" = Str.ofString "less") = False := eq_false (by decide +kernel)
@[simp] theorem sne_fault_same : (Str.ofString "fault" = Str.ofString "same") = False := eq_false (by decide +kernel)
@[simp] theorem sne_fault_begin : (Str.ofString "fault" = Str.ofString "begin") = False := eq_false (by decide +kernel)
@[simp] theorem sne_fault_end : (Str.ofString "fault" = Str.ofString "end") = False := eq_false (by decide +kernel)
@[simp] theorem sne_fault_join : (Str.ofString "fault" = Str.ofString "join") = False := eq_false (by decide +kernel)
@[simp] theorem sne_fault_runs : (Str.ofString "fault" = Str.ofString "runs") = False := eq_false (by decide +kernel)
@[simp] theorem sne_fault_over : (Str.ofString "fault" = Str.ofString "over") = False := eq_false (by decide +kernel)
@[simp] theorem sne_fault_on : (Str.ofString "fault" = Str.ofString "on") = False := eq_false (by decide +kernel)
@[simp] theorem sne_on_set : (Str.ofString "on" = Str.ofString "set") = False := eq_false (by decide +kernel)
@[simp] theorem sne_on_say : (Str.ofString "on" = Str.ofString "say") = False := eq_false (by decide +kernel)
@[simp] theorem sne_on_call : (Str.ofString "on" = Str.ofString "call") = False := eq_false (by decide +kernel)
@[simp] theorem sne_on_if : (Str.ofString "on" = Str.ofString "if") = False := eq_false (by decide +kernel)
@[simp] theorem sne_on_while : (Str.ofString "on" = Str.ofString "while") = False := eq_false (by decide +kernel)
@[simp] theorem sne_on_less : (Str.ofString "on" = Str.ofString "less") = False := eq_false (by decide +kernel)
@[simp] theorem sne_on_same : (Str.ofString "on" = Str.ofString "same") = False := eq_false (by decide +kernel)
@[simp] theorem sne_on_begin : (Str.ofString "on" = Str.ofString "begin") = False := eq_false (by decide +kernel)
@[simp] theorem sne_on_end : (Str.ofString "on" = Str.ofString "end") = False := eq_false (by decide +kernel)
@[simp] theorem sne_on_join : (Str.ofString "on" = Str.ofString "join") = False := eq_false (by decide +kernel)
@[simp] theorem sne_on_runs : (Str.ofString "on" = Str.ofString "runs") = False := eq_false (by decide +kernel)
@[simp] theorem sne_on_over : (Str.ofString "on" = Str.ofString "over") = False := eq_false (by decide +kernel)
@[simp] theorem sne_on_fault : (Str.ofString "on" = Str.ofString "fault") = False := eq_false (by decide +kernel)
@[simp] theorem sin_set : gIn false (.val (.str (Str.ofString "set"))) (.own (.lst [.s (.str (Str.ofString "if")), .s (.str (Str.ofString "while"))])) = some (.val (.bl false)) := Eq.trans rfl rfl
@[simp] theorem sin_say : gIn false (.val (.str (Str.ofString "say"))) (.own (.lst [.s (.str (Str.ofString "if")), .s (.str (Str.ofString "while"))])) = some (.val (.bl false)) := Eq.trans rfl rfl
@[simp] theorem sin_call : gIn false (.val (.str (Str.ofString "call"))) (.own (.lst [.s (.str (Str.ofString "if")), .s (.str (Str.ofString "while"))])) = some (.val (.bl false)) := Eq.trans rfl rfl
@[simp] theorem sin_if : gIn false (.val (.str (Str.ofString "if"))) (.own (.lst [.s (.str (Str.ofString "if")), .s (.str (Str.ofString "while"))])) = some (.val (.bl true)) := Eq.trans rfl rfl
@[simp] theorem sin_while : gIn false (.val (.str (Str.ofString "while"))) (.own (.lst [.s (.str (Str.ofString "if")), .s (.str (Str.ofString "while"))])) = some (.val (.bl true)) := Eq.trans rfl rfl
@[simp] theorem cut22 (a b : D) : cut [a, b] (some 2) none = [] := Eq.trans rfl rfl
@[simp] theorem cut23 (a b c : D) : cut [a, b, c] (some 2) none = [c] := Eq.trans rfl rfl
@[simp] theorem cut24 (a b c d : D) : cut [a, b, c, d] (some 2) none = [c, d] := Eq.trans rfl rfl
theorem log10 : Nat.log2 10 = 3 := by decide
theorem mod_a (x : Int) : (x % 2147483647).natAbs < 18446744073709551616 := by omega
theorem mod_b (x : Int) : (x % 2147483399).natAbs < 18446744073709551616 := by omega
def hnd (cs : List Int) (a b c d : Int) : O := .lst [.s (.lst (cs.map D.int)), .s (.int a), .s (.int b), .s (.int c), .s (.int d)]
def Hd (o : O) : Prop := ∃ (cs : List Int) (a b c d : Int), o = hnd cs a b c d ∧ 0 ≤ a
theorem Hd.mk (cs : List Int) {a : Int} (b c d : Int) (h : 0 ≤ a) : Hd (hnd cs a b c d) := ⟨cs, a, b, c, d, rfl, h⟩
theorem p_draw (cs : List Int) (a b c d many : Int) (ha : 0 ≤ a) (h0 : 0 < many) (h1 : many < 1073741824) : ∃ h' v, f__law_draw [hnd cs a b c d, .s (.int many)] = .ok (.s (.int v)) [h', .s (.int many)] ∧ Hd h' ∧ 0 ≤ v ∧ v < many := by
  have m0 : ∀ x : Int, 0 ≤ x % many := fun x => Int.emod_nonneg x (by omega)
  have m1 : ∀ x : Int, x % many < many := fun x => Int.emod_lt_of_pos x h0
  unfold f__law_draw b__law_draw hnd
  by_cases hb : b = 0
  · subst hb
    by_cases hl : a < cs.length
    · obtain ⟨n, rfl⟩ : ∃ n : Nat, a = n := ⟨a.toNat, by omega⟩
      have hn : n < cs.length := by omega
      have e : atI (cs.map D.int) (n : Int) = some (.int cs[n]) := by
        exact atI_nat (by rw [List.getElem?_map, List.getElem?_eq_getElem hn]; rfl)
      by_cases h18 : (1000000000000000000 : Int) ≤ cs[n]
      · have hpos : (0 : Int) < cs[n] := by omega
        simp [ixN, hl, hn, cMod, cDiv, cMul2, cPow2, h0, h1, mod_a, mod_b, log10, e, h18, hpos]
        exact ⟨_, _, ⟨rfl, rfl⟩, Hd.mk cs _ _ d (by omega), m0 _, m1 _⟩
      · simp [ixN, hl, hn, cMod, cDiv, cMul2, cPow2, h0, h1, mod_a, mod_b, log10, e, h18]
        exact ⟨_, _, ⟨rfl, rfl⟩, Hd.mk cs 0 _ _ (by omega), m0 _, m1 _⟩
    · simp [ixN, hl, cMod, cDiv, cMul2, h0, h1, mod_a, mod_b]
      exact ⟨_, _, ⟨rfl, rfl⟩, Hd.mk cs 0 c (d + 1) ha, m0 _, m1 _⟩
  · by_cases hp : 0 < b
    · simp [ixN, hb, hp, cMod, cDiv, cMul2, h0, h1, mod_a, mod_b]
      exact ⟨_, _, ⟨rfl, rfl⟩, Hd.mk cs _ c d ha, m0 _, m1 _⟩
    · simp [ixN, hb, hp, cMod, cDiv, cMul2, h0, h1, mod_a, mod_b]
      exact ⟨_, _, ⟨rfl, rfl⟩, Hd.mk cs b c (d + 1) ha, m0 _, m1 _⟩
theorem Hd.draw {h : O} (hh : Hd h) {many : Int} (h0 : 0 < many) (h1 : many < 1073741824) : ∃ h' v, f__law_draw [h, .s (.int many)] = .ok (.s (.int v)) [h', .s (.int many)] ∧ Hd h' ∧ 0 ≤ v ∧ v < many := by
  obtain ⟨cs, a, b, c, d, rfl, ha⟩ := hh
  exact p_draw cs a b c d many ha h0 h1
theorem Hd.any {h : O} (hh : Hd h) {ds : List D} (h0 : ds ≠ []) (h1 : ds.length < 1000) : ∃ h' d, f__law_any [h, .s (.lst ds)] = .ok (.s d) [h', .s (.lst ds)] ∧ Hd h' ∧ d ∈ ds := by
  have hl : 0 < ds.length := List.length_pos_iff.mpr h0
  obtain ⟨h', v, e, hh', v0, v1⟩ := hh.draw (many := ds.length) (by omega) (by omega)
  obtain ⟨n, rfl⟩ : ∃ n : Nat, v = n := ⟨v.toNat, by omega⟩
  have hn : n < ds.length := by omega
  have e2 : atI ds (n : Int) = some ds[n] := atI_nat (List.getElem?_eq_getElem hn)
  unfold f__law_any b__law_any
  simp [e, e2]
  exact ⟨_, _, ⟨rfl, rfl⟩, hh', List.getElem_mem hn⟩
def lin (n : Nat) (l : List Int) : Prop := l.length = n + 1 ∧ ∀ i ∈ l, -1000 ≤ i ∧ i ≤ 1000
theorem ints_of {ys : List D} {P : Int → Prop} (h : ∀ y ∈ ys, ∃ i, y = D.int i ∧ P i) : ∃ l : List Int, ys = l.map D.int ∧ ∀ i ∈ l, P i := by
  induction ys with
  | nil => exact ⟨[], rfl, fun i h => by simp at h⟩
  | cons y ys ih =>
    obtain ⟨i, rfl, hi⟩ := h y (by simp)
    obtain ⟨l, rfl, hl⟩ := ih fun y hy => h y (by simp [hy])
    exact ⟨i :: l, rfl, fun j hj => by
      rcases List.mem_cons.mp hj with q | q
      · rw [q]; exact hi
      · exact hl j q⟩
theorem rngD_len (a : Int) (n : Nat) : (rngD a n).length = n := by simp [rngD]
theorem items_own {ds : List D} : Rt.items (.own (.lst (ds.map O.s))) = some (true, ds) := by
  show (leaves (ds.map O.s)).map _ = _
  rw [leaves_map]; rfl
@[simp] theorem ev_tupleOf {ds : List D} : gTupleOf [.own (.lst (ds.map O.s))] = some (.val (.tup ds)) := by
  show (match Rt.items (.own (.lst (ds.map O.s))) with | some (_, ds) => some (Rt.val (.tup ds)) | _ => none) = _
  rw [items_own]
def sumL : List O := [.s (.int 0), .s (.int 0), .s (.int 1), .s (.int (-1)), .s (.int 2), .s (.int (-2)), .s (.int 3), .s (.int 1000), .s (.int (-1000)), .s (.int 7)]
theorem sumL_at {j : Nat} (h : j < 10) : ∃ i : Int, sumL[j]? = some (.s (.int i)) ∧ -1000 ≤ i ∧ i ≤ 1000 := by
  match j, h with
  | 0, _ => exact ⟨_, rfl, by decide, by decide⟩
  | 1, _ => exact ⟨_, rfl, by decide, by decide⟩
  | 2, _ => exact ⟨_, rfl, by decide, by decide⟩
  | 3, _ => exact ⟨_, rfl, by decide, by decide⟩
  | 4, _ => exact ⟨_, rfl, by decide, by decide⟩
  | 5, _ => exact ⟨_, rfl, by decide, by decide⟩
  | 6, _ => exact ⟨_, rfl, by decide, by decide⟩
  | 7, _ => exact ⟨_, rfl, by decide, by decide⟩
  | 8, _ => exact ⟨_, rfl, by decide, by decide⟩
  | 9, _ => exact ⟨_, rfl, by decide, by decide⟩
theorem sumL_len : sumL.length = 10 := rfl
theorem Hd.sum1 {h : O} (hh : Hd h) (n : Int) (x : Option O) (d : D) : ∃ h' i, e1__law_sum f__law_draw f__law_any [some h, some (.s (.int n)), some (.lst sumL), x] = .ok (.val (.int i)) [some h', some (.s (.int n)), some (.lst sumL), x] ∧ Hd h' ∧ -1000 ≤ i ∧ i ≤ 1000 := by
  obtain ⟨h1, m, e1, hh1, hm⟩ := hh.any (ds := [.int 3, .int 5, .int 7, .int 10]) (by simp) (by simp)
  obtain ⟨k, rfl, hk0, hk1⟩ : ∃ k : Int, m = .int k ∧ 0 < k ∧ k ≤ 10 := by
    simp at hm
    rcases hm with rfl | rfl | rfl | rfl
    · exact ⟨_, rfl, by decide, by decide⟩
    · exact ⟨_, rfl, by decide, by decide⟩
    · exact ⟨_, rfl, by decide, by decide⟩
    · exact ⟨_, rfl, by decide, by decide⟩
  obtain ⟨h2, v, e2, hh2, v0, v1⟩ := hh1.draw (many := k) hk0 (by omega)
  obtain ⟨j, rfl⟩ : ∃ j : Nat, v = j := ⟨v.toNat, by omega⟩
  have hj : j < 10 := by omega
  have hix : ixN 10 (j : Int) = some j := by simp [ixN]; omega
  obtain ⟨i, hi, i0, i1⟩ := sumL_at hj
  refine ⟨h2, i, ?_, hh2, i0, i1⟩
  unfold e1__law_sum
  simp [e1, e2, hix, hi, sumL_len]

theorem Hd.sum {h : O} (hh : Hd h) (n : Nat) (hn : n ≤ 8) : ∃ h' l, f__law_sum [h, .s (.int n)] = .ok (.s (.tup (l.map D.int))) [h', .s (.int n)] ∧ Hd h' ∧ lin n l := by
  obtain ⟨ys, e', k1, ⟨h', x', k2, k2'⟩, k3, k4⟩ := lc_all (vs := [3]) (set := setT [3]) (f := e1__law_sum f__law_draw f__law_any)
    (I := fun e => ∃ h x, e = [some h, some (.s (.int n)), some (.lst sumL), x] ∧ Hd h)
    (R := fun y => ∃ i, y = D.int i ∧ -1000 ≤ i ∧ i ≤ 1000) (G := fun _ => True) (by
    rintro e d ⟨h, x, rfl, hh⟩ _
    obtain ⟨h2, i, q, hh2, i0, i1⟩ := hh.sum1 n (some (.s d)) d
    exact ⟨_, _, _, rfl, q, ⟨h2, _, rfl, hh2⟩, i, rfl, i0, i1⟩) (rngD 0 (n + 1)) [some h, some (.s (.int n)), some (.lst sumL), none] ⟨h, none, rfl, hh⟩ (fun _ _ => trivial)
  obtain ⟨l, rfl, hl⟩ := ints_of k4
  subst k2
  rw [rngD_len, List.length_map] at k3
  have hr : ∀ e : Env, rg1K (.ok [.val (.int ((n : Int) + 1))] e) = .ok ⟨rngD 0 (n + 1), none⟩ e := fun e => (rg1_is (by omega) (by omega)).trans (by rw [show ((n : Int) + 1).toNat = n + 1 from by omega])
  have hz : (rngD 0 (n + 1)).length ≤ 16777216 := by rw [rngD_len]; omega
  refine ⟨h', l, ?_, k2', k3, hl⟩
  unfold f__law_sum b__law_sum
  unfold sumL at k1
  simp [-List.map_map, hr, hz, k1]
theorem toInts {ys : List D} {P : Int → Prop} (h : ∀ y ∈ ys, ∃ i, y = D.int i ∧ P i) : ∃ l : List Int, ys = l.map D.int ∧ ∀ i ∈ l, P i := ints_of h
@[simp] theorem ev_items {ds : List D} : Rt.items (.own (.lst (ds.map O.s))) = some (true, ds) := items_own
theorem p_alone (n : Nat) (c k : Int) (hn : n ≤ 8) (k0 : -1000 ≤ k) (k1 : k ≤ 1000) : ∃ l, f__law_alone [.s (.int n), .s (.int c), .s (.int k)] = .ok (.s (.tup (l.map D.int))) [.s (.int n), .s (.int c), .s (.int k)] ∧ lin n l := by
  obtain ⟨ys, e', q1, ⟨x', q2⟩, q3, q4⟩ := lc_all (vs := [3]) (set := setT [3]) (f := e1__law_alone)
    (I := fun e => ∃ x, e = [some (.s (.int n)), some (.s (.int c)), some (.s (.int k)), x])
    (R := fun y => ∃ i, y = D.int i ∧ -1000 ≤ i ∧ i ≤ 1000) (G := fun d => ∃ i : Int, d = .int i) (by
    rintro e d ⟨x, rfl⟩ ⟨i, rfl⟩
    refine ⟨_, .int (if i = c then 1 else 0), _, rfl, ?_, ⟨some (.s (.int i)), rfl⟩, _, rfl, ?_⟩
    · unfold e1__law_alone; simp
    · split <;> omega) (rngD 0 n) [some (.s (.int n)), some (.s (.int c)), some (.s (.int k)), none] ⟨none, rfl⟩ (fun d hd => by
      unfold rngD at hd
      obtain ⟨i, _, rfl⟩ := List.mem_map.mp hd
      exact ⟨_, rfl⟩)
  obtain ⟨l, rfl, hl⟩ := ints_of q4
  subst q2
  rw [rngD_len, List.length_map] at q3
  have hr : ∀ e : Env, rg1K (.ok [.val (.int (n : Int))] e) = .ok ⟨rngD 0 n, none⟩ e := fun e => (rg1_is (by omega) (by omega)).trans (by rw [Int.toNat_natCast])
  have hz : (rngD 0 n).length ≤ 16777216 := by rw [rngD_len]; omega
  have hs : l.length ≤ 16777215 := by omega
  refine ⟨l ++ [k], ?_, by simp [q3], fun i hi => ?_⟩
  · unfold f__law_alone b__law_alone
    simp [-List.map_map, hr, hz, q1, hs]
  · rcases List.mem_append.mp hi with z | z
    · exact hl i z
    · have : i = k := by simpa using z
      omega
def tstD (k : Bool) (l m : List Int) : D := .tup [.str (if k then "less" else "same"), .tup (l.map D.int), .tup (m.map D.int)]
theorem Hd.test {h : O} (hh : Hd h) (n : Nat) (hn : n ≤ 8) : ∃ h' k l m, f__law_test [h, .s (.int n)] = .ok (.s (tstD k l m)) [h', .s (.int n)] ∧ Hd h' ∧ lin n l ∧ lin n m := by
  obtain ⟨h1, w, e1, hh1, hw⟩ := hh.any (ds := [.str "less", .str "less", .str "same"]) (by simp) (by simp)
  obtain ⟨h2, l, e2, hh2, hl⟩ := hh1.sum n hn
  obtain ⟨h3, m, e3, hh3, hm⟩ := hh2.sum n hn
  obtain ⟨k, rfl⟩ : ∃ k : Bool, w = .str (if k then "less" else "same") := by
    simp at hw
    rcases hw with rfl | rfl
    · exact ⟨true, rfl⟩
    · exact ⟨false, rfl⟩
  refine ⟨h3, k, l, m, ?_, hh3, hl, hm⟩
  unfold f__law_test b__law_test tstD
  simp [e1, e2, e3]
inductive Sm where
  | set (c : Nat) (l : List Int)
  | say (l : List Int)
  | call (r : Nat)
  | ifs (k : Bool) (l m : List Int) (a b : List Sm)
  | wh (k : Bool) (l m : List Int) (b : List Sm)
mutual
def Sm.enc : Sm → D
  | .set c l => .tup [.str "set", .int c, .tup (l.map D.int)]
  | .say l => .tup [.str "say", .tup (l.map D.int)]
  | .call r => .tup [.str "call", .int r]
  | .ifs k l m a b => .tup [.str "if", tstD k l m, .tup (Sm.encs a), .tup (Sm.encs b)]
  | .wh k l m b => .tup [.str "while", tstD k l m, .tup (Sm.encs b)]
def Sm.encs : List Sm → List D
  | [] => []
  | s :: r => s.enc :: Sm.encs r
end
mutual
def Sm.size : Sm → Nat
  | .ifs _ _ _ a b => 2 + (Sm.sizes a + Sm.sizes b)
  | .wh _ _ _ b => 1 + Sm.sizes b
  | _ => 1
def Sm.sizes : List Sm → Nat
  | [] => 0
  | s :: r => s.size + Sm.sizes r
end
mutual
def Sm.dep : Nat → Sm → Prop
  | n, .ifs _ _ _ a b => ∃ m, n = m + 1 ∧ Sm.deps m a ∧ Sm.deps m b
  | n, .wh _ _ _ b => ∃ m, n = m + 1 ∧ Sm.deps m b
  | _, _ => True
def Sm.deps : Nat → List Sm → Prop
  | _, [] => True
  | n, s :: r => s.dep n ∧ Sm.deps n r
end
theorem Sm.encs_len (b : List Sm) : (Sm.encs b).length = b.length := by
  induction b with
  | nil => simp [Sm.encs]
  | cons s r ih => simp [Sm.encs, ih]
@[simp] theorem ev_sumO {ns : List Int} : gSum [.own (.lst ((ns.map D.int).map O.s))] = some (.val (.int ns.sum)) := by
  show (match Rt.items (.own (.lst ((ns.map D.int).map O.s))) with | some (true, ds) => (intsOf ds).map fun (ns : List Int) => Rt.val (.int ns.sum) | _ => none) = _
  rw [items_own]
  show (intsOf (ns.map D.int)).map _ = _
  rw [ints_map]; rfl
theorem lst_nil : [] = ([] : List D).map O.s := rfl
theorem size_step (fn : List O → Rr) (n : Nat) (ih : ∀ m, n = m + 1 → ∀ b, Sm.deps m b → fn [.s (.tup (Sm.encs b))] = .ok (.s (.int (Sm.sizes b))) [.s (.tup (Sm.encs b))]) (s : Sm) (hs : s.dep n) (B : D) (k : Nat) (y z : Option O) :
    ∃ y' z', e4__law_size fn [some (.s B), some (.s (.int k)), some (.s s.enc), y, z] = .ok .nx [some (.s B), some (.s (.int ((k + s.size : Nat) : Int))), some (.s s.enc), y', z'] := by
  have sm1 : gSum [.own (.lst [.s (.int 0)])] = some (.val (.int 0)) := rfl
  have sm0 : gSum [.own (.lst [])] = some (.val (.int 0)) := rfl
  have smn : ∀ a : Int, gSum [.own (.lst [.s (.int a)])] = some (.val (.int (a + 0))) := fun a => rfl
  have smm : ∀ a b : Int, gSum [.own (.lst [.s (.int a), .s (.int b)])] = some (.val (.int (a + (b + 0)))) := fun a b => rfl
  cases s with
  | set c l =>
    unfold e4__law_size e1__law_size e2__law_size e3__law_size Sm.enc Sm.size
    simp [lc_cons, lc_nil, ixN, atI, -List.map_map, sm0]
  | say l =>
    unfold e4__law_size e1__law_size e2__law_size e3__law_size Sm.enc Sm.size
    simp [lc_cons, lc_nil, ixN, atI, -List.map_map, sm0]
  | call c =>
    unfold e4__law_size e1__law_size e2__law_size e3__law_size Sm.enc Sm.size
    simp [lc_cons, lc_nil, ixN, atI, -List.map_map, sm0]
  | ifs k l m a c =>
    obtain ⟨m', e, d1, d2⟩ := hs
    have i1 := ih m' e a d1
    have i2 := ih m' e c d2
    unfold e4__law_size e1__law_size e2__law_size e3__law_size Sm.enc Sm.size
    simp [lc_cons, lc_nil, ixN, atI, -List.map_map, smm, i1, i2]
    omega
  | wh k l m c =>
    obtain ⟨m', e, d1⟩ := hs
    have i1 := ih m' e c d1
    unfold e4__law_size e1__law_size e2__law_size e3__law_size Sm.enc Sm.size
    simp [lc_cons, lc_nil, ixN, atI, -List.map_map, smn, i1]
    omega
theorem size_body (fn : List O → Rr) (n : Nat) (ih : ∀ m, n = m + 1 → ∀ b, Sm.deps m b → fn [.s (.tup (Sm.encs b))] = .ok (.s (.int (Sm.sizes b))) [.s (.tup (Sm.encs b))]) (b : List Sm) (hb : Sm.deps n b) :
    runDef [] 4 (b__law_size fn) [.s (.tup (Sm.encs b))] = .ok (.s (.int (Sm.sizes b))) [.s (.tup (Sm.encs b))] := by
  obtain ⟨e', k1, r, k, x, y, z, k2, _, k3, k4⟩ := for_inv (set := setT [2]) (g := e4__law_size fn) (I := fun ds e => ∃ (r : List Sm) (k : Nat) (x y z : Option O), ds = Sm.encs r ∧ Sm.deps n r ∧ e = [some (.s (.tup (Sm.encs b))), some (.s (.int k)), x, y, z] ∧ k + Sm.sizes r = Sm.sizes b)
    (by
      rintro d ds e ⟨r, k, x, y, z, h1, h2, rfl, h3⟩
      cases r with
      | nil => simp [Sm.encs] at h1
      | cons s r =>
        simp only [Sm.encs, List.cons.injEq] at h1
        obtain ⟨rfl, rfl⟩ := h1
        obtain ⟨d1, d2⟩ := h2
        simp only [Sm.sizes] at h3
        obtain ⟨y', z', q⟩ := size_step fn n ih s d1 (.tup (Sm.encs b)) k y z
        exact ⟨_, _, rfl, q, r, k + s.size, _, _, _, rfl, d2, rfl, by omega⟩) (Sm.encs b) [some (.s (.tup (Sm.encs b))), some (.s (.int 0)), none, none, none] ⟨b, 0, none, none, none, rfl, hb, rfl, by omega⟩
  subst k3
  have : r = [] := by
    cases r with
    | nil => rfl
    | cons s r => simp [Sm.encs] at k2
  subst this
  have hk : k = Sm.sizes b := by simpa [Sm.sizes] using k4
  subst hk
  unfold b__law_size
  simp [k1]
theorem p_size : ∀ (n : Nat) (b : List Sm), Sm.deps n b → f__law_size (n + 1) [.s (.tup (Sm.encs b))] = .ok (.s (.int (Sm.sizes b))) [.s (.tup (Sm.encs b))] := by
  intro n
  induction n with
  | zero => exact size_body _ 0 (fun m h => by omega)
  | succ n ih => exact size_body _ (n + 1) (fun m h b hb => by
      obtain rfl : n = m := by omega
      exact ih b hb)
mutual
def Sm.ok (c r : Nat) : Sm → Prop
  | .set x l => x < c ∧ lin c l
  | .say l => lin c l
  | .call x => x < r
  | .ifs _ l m a b => lin c l ∧ lin c m ∧ Sm.oks c r a ∧ Sm.oks c r b
  | .wh _ l m b => lin c l ∧ lin c m ∧ Sm.oks c r b
def Sm.oks (c r : Nat) : List Sm → Prop
  | [] => True
  | s :: b => s.ok c r ∧ Sm.oks c r b
end
theorem Sm.len_size (b : List Sm) : b.length ≤ Sm.sizes b := by
  induction b with
  | nil => simp [Sm.sizes]
  | cons s b ih =>
    have : 1 ≤ s.size := by cases s <;> simp [Sm.size] <;> omega
    simp only [List.length_cons, Sm.sizes]
    omega
theorem Sm.encs_app (a b : List Sm) : Sm.encs (a ++ b) = Sm.encs a ++ Sm.encs b := by
  induction a with
  | nil => simp [Sm.encs]
  | cons s r ih => simp [Sm.encs, ih]
def BodyOk (fb : List O → Rr) (c r : Nat) (d n : Nat) : Prop := ∀ h, Hd h → ∃ h' b, fb [h, .s (.int c), .s (.int r), .s (.int d)] = .ok (.s (.tup (Sm.encs b))) [h', .s (.int c), .s (.int r), .s (.int d)] ∧ Hd h' ∧ Sm.oks c r b ∧ Sm.deps n b ∧ Sm.sizes b ≤ 36
theorem zeros (c : Nat) : (List.replicate (c + 1) [D.int 0]).flatten = (List.replicate (c + 1) (0 : Int)).map D.int := by
  induction c with
  | zero => rfl
  | succ c ih =>
    rw [List.replicate_succ, List.flatten_cons, ih, List.replicate_succ (n := c + 1)]
    rfl
theorem lin_zero (c : Nat) : lin c (List.replicate (c + 1) (0 : Int)) := ⟨by simp, fun i hi => by
  have := (List.mem_replicate.mp hi).2
  omega⟩
theorem p_stat (fb : List O → Rr) (c r d n : Nat) (hc : 1 ≤ c ∧ c ≤ 4) (hr : 1 ≤ r ∧ r ≤ 5) (hd : d ≤ 8) (hb : d ≤ 7 → ∃ m, n = m + 1 ∧ BodyOk fb c r (d + 1) m) {h : O} (hh : Hd h) :
    ∃ h' s, runDef [0] 4 (b__law_statement f__law_draw f__law_sum f__law_alone f__law_any fb f__law_test) [h, .s (.int c), .s (.int r), .s (.int d)] = .ok (.s (Sm.enc s)) [h', .s (.int c), .s (.int r), .s (.int d)] ∧ Hd h' ∧ s.ok c r ∧ s.dep n := by
  obtain ⟨h1, k, e1, hh1, k0, k1⟩ := hh.draw (many := 10) (by decide) (by decide)
  obtain ⟨h2, x, e2, hh2, x0, x1⟩ := hh1.draw (many := c) (by omega) (by omega)
  obtain ⟨x, rfl⟩ : ∃ y : Nat, x = y := ⟨x.toNat, by omega⟩
  have hx : x < c := by omega
  unfold b__law_statement
  by_cases h2' : k < 2
  · obtain ⟨h3, l, e3, hh3, hl⟩ := hh2.sum c (by omega)
    refine ⟨h3, .set x l, ?_, hh3, ⟨hx, hl⟩, by cases n <;> trivial⟩
    simp [e1, e2, e3, h2', Sm.enc]
  by_cases h4 : k < 4
  · obtain ⟨h3, l, e3, hh3, hl⟩ := hh2.sum c (by omega)
    refine ⟨h3, .say l, ?_, hh3, hl, by cases n <;> trivial⟩
    simp [e1, e2, e3, h2', h4, Sm.enc]
  by_cases h5 : k = 4
  · obtain ⟨h3, v, e3, hh3, v0, v1⟩ := hh2.draw (many := r) (by omega) (by omega)
    obtain ⟨v, rfl⟩ : ∃ y : Nat, v = y := ⟨v.toNat, by omega⟩
    refine ⟨h3, .call v, ?_, hh3, (by omega : v < r), by cases n <;> trivial⟩
    subst h5
    simp [e1, e2, e3, Sm.enc]
  have alone : ∀ {h : O}, Hd h → ∃ (h' : O) (z : Int), f__law_any [h, .s (.lst [.int (-1), .int 1, .int 2, .int (-3)])] = .ok (.s (.int z)) [h', .s (.lst [.int (-1), .int 1, .int 2, .int (-3)])] ∧ Hd h' ∧ -1000 ≤ z ∧ z ≤ 1000 := fun {h} hh => by
    obtain ⟨h', w, e, hh', hw⟩ := hh.any (ds := [.int (-1), .int 1, .int 2, .int (-3)]) (by simp) (by simp)
    simp at hw
    rcases hw with rfl | rfl | rfl | rfl
    · exact ⟨h', _, e, hh', by decide, by decide⟩
    · exact ⟨h', _, e, hh', by decide, by decide⟩
    · exact ⟨h', _, e, hh', by decide, by decide⟩
    · exact ⟨h', _, e, hh', by decide, by decide⟩
  by_cases h7 : (7 : Int) < (d : Int)
  · obtain ⟨h3, z, e3, hh3, z0, z1⟩ := alone hh2
    obtain ⟨l, e4, hl⟩ := p_alone c x z (by omega) z0 z1
    refine ⟨h3, .set x l, ?_, hh3, ⟨hx, hl⟩, by cases n <;> trivial⟩
    simp [e1, e2, e3, e4, h2', h4, h5, h7, Sm.enc]
  by_cases h6 : k = 5
  · obtain ⟨h3, z, e3, hh3, z0, z1⟩ := alone hh2
    obtain ⟨l, e4, hl⟩ := p_alone c x z (by omega) z0 z1
    refine ⟨h3, .set x l, ?_, hh3, ⟨hx, hl⟩, by cases n <;> trivial⟩
    subst h6
    simp [e1, e2, e3, e4, h7, Sm.enc]
  obtain ⟨m, rfl, hB⟩ := hb (by omega)
  have hdd : ((d : Int) + 1) = ((d + 1 : Nat) : Int) := by omega
  by_cases h8 : k < 8
  · obtain ⟨h3, b1, e3, hh3, o1, p1, _⟩ := hB _ hh2
    obtain ⟨h4', kk, l, l', e4, hh4, hl, hl'⟩ := hh3.test c (by omega)
    obtain ⟨h5', b2, e5, hh5, o2, p2, _⟩ := hB _ hh4
    refine ⟨h5', .ifs kk l l' b1 b2, ?_, hh5, ⟨hl, hl', o1, o2⟩, m, rfl, p1, p2⟩
    rw [← hdd] at e3 e5
    simp [e1, e2, e3, e4, e5, h2', h4, h5, h6, h7, h8, Sm.enc]
  by_cases h9 : k = 8
  · obtain ⟨h3, b1, e3, hh3, o1, p1, _⟩ := hB _ hh2
    obtain ⟨h4', kk, l, l', e4, hh4, hl, hl'⟩ := hh3.test c (by omega)
    refine ⟨h4', .wh kk l l' b1, ?_, hh4, ⟨hl, hl', o1⟩, m, rfl, p1⟩
    rw [← hdd] at e3
    subst h9
    simp [e1, e2, e3, e4, h7, Sm.enc]
  · obtain ⟨h3, b1, e3, hh3, o1, p1, q1⟩ := hB _ hh2
    obtain ⟨l, e4, hl⟩ := p_alone c x 0 (by omega) (by decide) (by decide)
    obtain ⟨l', e5, hl'⟩ := p_alone c x (-1) (by omega) (by decide) (by decide)
    have oks_app : ∀ b : List Sm, Sm.oks c r b → Sm.oks c r (b ++ [.set x l']) := fun b => by
      induction b with
      | nil => intro _; exact ⟨⟨hx, hl'⟩, trivial⟩
      | cons s b ih => intro h; exact ⟨h.1, ih h.2⟩
    have deps_app : ∀ b : List Sm, Sm.deps m b → Sm.deps m (b ++ [.set x l']) := fun b => by
      induction b with
      | nil => intro _; exact ⟨by cases m <;> trivial, by cases m <;> trivial⟩
      | cons s b ih => intro h; exact ⟨h.1, ih h.2⟩
    refine ⟨h3, .wh true (List.replicate (c + 1) 0) l (b1 ++ [.set x l']), ?_, hh3, ⟨lin_zero c, hl, oks_app b1 o1⟩, m, rfl, deps_app b1 p1⟩
    rw [← hdd] at e3
    have hl1 : b1.length ≤ 16777215 := by have := Sm.len_size b1; omega
    have hk : 2 ≤ (c : Int) + 1 := by omega
    have hk2 : (c : Int) + 1 ≤ 1000 := by omega
    have hz : (List.replicate (c + 1) [D.int 0]).flatten = (List.replicate (c + 1) (0 : Int)).map D.int := zeros c
    simp [e1, e2, e3, e4, e5, h2', h4, h5, h6, h7, h8, h9, Sm.enc, Sm.encs_app, Sm.encs, Sm.encs_len, hl1, hk, hk2, hz, tstD]
mutual
theorem Sm.dep_mono : ∀ (s : Sm) (m n : Nat), s.dep m → m ≤ n → s.dep n
  | .set _ _, m, n, _, _ => by cases n <;> trivial
  | .say _, m, n, _, _ => by cases n <;> trivial
  | .call _, m, n, _, _ => by cases n <;> trivial
  | .ifs k l l' a b, m, n, h, le => by
    obtain ⟨m', rfl, h1, h2⟩ := h
    obtain ⟨n', rfl⟩ : ∃ n', n = n' + 1 := ⟨n - 1, by omega⟩
    exact ⟨n', rfl, Sm.deps_mono a m' n' h1 (by omega), Sm.deps_mono b m' n' h2 (by omega)⟩
  | .wh k l l' a, m, n, h, le => by
    obtain ⟨m', rfl, h1⟩ := h
    obtain ⟨n', rfl⟩ : ∃ n', n = n' + 1 := ⟨n - 1, by omega⟩
    exact ⟨n', rfl, Sm.deps_mono a m' n' h1 (by omega)⟩
theorem Sm.deps_mono : ∀ (b : List Sm) (m n : Nat), Sm.deps m b → m ≤ n → Sm.deps n b
  | [], m, n, _, _ => trivial
  | s :: b, m, n, h, le => ⟨Sm.dep_mono s m n h.1 le, Sm.deps_mono b m n h.2 le⟩
end
theorem cut_1 (b : List Sm) : cut (Sm.encs b) none (some 1) = Sm.encs (b.take 1) := by
  cases b with
  | nil => rfl
  | cons s b => simp [cut, HT.sIx, Sm.encs]
theorem Sm.deps_app {n : Nat} {s : Sm} : ∀ {b : List Sm}, Sm.deps n b → s.dep n → Sm.deps n (b ++ [s])
  | [], _, h => ⟨h, trivial⟩
  | x :: b, h, h2 => ⟨h.1, Sm.deps_app h.2 h2⟩
theorem Sm.oks_app {c r : Nat} {s : Sm} : ∀ {b : List Sm}, Sm.oks c r b → s.ok c r → Sm.oks c r (b ++ [s])
  | [], _, h => ⟨h, trivial⟩
  | x :: b, h, h2 => ⟨h.1, Sm.oks_app h.2 h2⟩
theorem p_body (c r : Nat) (hc : 1 ≤ c ∧ c ≤ 4) (hr : 1 ≤ r ∧ r ≤ 5) : ∀ n d : Nat, d ≤ 8 → 8 - d < n → BodyOk (f__law_body n) c r d (8 - d) := by
  intro n
  induction n with
  | zero => intro d _ h; omega
  | succ n ih =>
    intro d hd hn h hh
    have hm : ∃ q : Int, (if (d : Int) / 2 < 3 then (d : Int) / 2 else 3) = q ∧ 0 ≤ q ∧ q ≤ 3 := ⟨_, rfl, by split <;> omega, by split <;> omega⟩
    obtain ⟨q, hq, q0, q1⟩ := hm
    obtain ⟨h1, v, e1, hh1, v0, v1⟩ := hh.draw (many := 5 - q) (by omega) (by omega)
    obtain ⟨v, rfl⟩ : ∃ y : Nat, v = y := ⟨v.toNat, by omega⟩
    obtain ⟨e', k1, h2, b, x, rfl, hh2, o2, p2, l2⟩ := for_inv (set := setT [5]) (g := e1__law_body f__law_draw (runDef [0] 4 (b__law_statement f__law_draw f__law_sum f__law_alone f__law_any (f__law_body n) f__law_test)) (f__law_size 20))
      (I := fun ds e => ∃ (h : O) (b : List Sm) (x : Option O), e = [some h, some (.s (.int c)), some (.s (.int r)), some (.s (.int d)), some (.s (.tup (Sm.encs b))), x] ∧ Hd h ∧ Sm.oks c r b ∧ Sm.deps (8 - d) b ∧ b.length + ds.length ≤ 5)
      (by
        rintro i ds e ⟨h, b, x, rfl, hh, o, p, l⟩
        obtain ⟨h', s, e2, hh', o2, p2⟩ := p_stat (f__law_body n) c r d (8 - d) hc hr hd (fun h7 => ⟨8 - (d + 1), by omega, ih (d + 1) (by omega) (by omega)⟩) hh
        have hl : b.length ≤ 16777215 := by simp only [List.length_cons] at l; omega
        refine ⟨_, [some h', some (.s (.int c)), some (.s (.int r)), some (.s (.int d)), some (.s (.tup (Sm.encs (b ++ [s])))), some (.s i)], rfl, ?_, h', b ++ [s], _, rfl, hh', Sm.oks_app o o2, Sm.deps_app p p2, by simp only [List.length_cons, List.length_append, List.length_nil] at l ⊢; omega⟩
        unfold e1__law_body
        simp [-ev_run, e2, Sm.encs_app, Sm.encs, Sm.encs_len, hl]) (rngD 0 v) [some h1, some (.s (.int c)), some (.s (.int r)), some (.s (.int d)), some (.s (.tup [])), none] ⟨h1, [], none, rfl, hh1, trivial, trivial, by rw [rngD_len]; simp; omega⟩
    have hz : (rngD 0 v).length ≤ 16777216 := by rw [rngD_len]; omega
    have hrg : ∀ e : Env, rg1K (.ok [.val (.int (v : Int))] e) = .ok ⟨rngD 0 v, none⟩ e := fun e => (rg1_is (by omega) (by omega)).trans (by rw [Int.toNat_natCast])
    have s1 := p_size 19 b (Sm.deps_mono b _ 19 p2 (by omega))
    have ot : Sm.oks c r (b.take 1) ∧ Sm.deps (8 - d) (b.take 1) := by
      cases b with
      | nil => exact ⟨trivial, trivial⟩
      | cons s b => exact ⟨⟨o2.1, trivial⟩, p2.1, trivial⟩
    have s2 := p_size 19 (b.take 1) (Sm.deps_mono _ _ 19 ot.2 (by omega))
    by_cases z1 : Sm.sizes b < 37
    · refine ⟨h2, b, ?_, hh2, o2, p2, by omega⟩
      have z1' : ((Sm.sizes b : Nat) : Int) < 37 := by omega
      show runDef [0] 2 (b__law_body f__law_draw _ (f__law_size 20)) _ = _
      unfold b__law_body
      simp [cDiv, hq, e1, hrg, k1, s1, z1']
    by_cases z2 : Sm.sizes (b.take 1) < 37
    · refine ⟨h2, b.take 1, ?_, hh2, ot.1, ot.2, by omega⟩
      have z1' : ¬ ((Sm.sizes b : Nat) : Int) < 37 := by omega
      have z2' : ((Sm.sizes (b.take 1) : Nat) : Int) < 37 := by omega
      show runDef [0] 2 (b__law_body f__law_draw _ (f__law_size 20)) _ = _
      unfold b__law_body
      simp [cDiv, hq, e1, hrg, k1, s1, s2, z1', z2', cut_1]
    · refine ⟨h2, [], ?_, hh2, trivial, trivial, by simp [Sm.sizes]⟩
      have z1' : ¬ ((Sm.sizes b : Nat) : Int) < 37 := by omega
      have z2' : ¬ ((Sm.sizes (b.take 1) : Nat) : Int) < 37 := by omega
      show runDef [0] 2 (b__law_body f__law_draw _ (f__law_size 20)) _ = _
      unfold b__law_body
      simp [cDiv, hq, e1, hrg, k1, s1, s2, z1', z2', cut_1, Sm.encs]
def BodyIs (c r : Nat) (b : List Sm) : Prop := Sm.oks c r b ∧ Sm.deps 7 b ∧ Sm.sizes b ≤ 36
def encB (b : List Sm) : D := .tup (Sm.encs b)
theorem Hd.parts {h : O} (hh : Hd h) : ∃ (h' : O) (c : Nat) (bs : List (List Sm)), f__law_parts [h] = .ok (.s (.tup [.int (c : Nat), .tup (bs.map encB)])) [h'] ∧ Hd h' ∧ (1 ≤ c ∧ c ≤ 4) ∧ (1 ≤ bs.length ∧ bs.length ≤ 5) ∧ ∀ b ∈ bs, BodyIs c bs.length b := by
  obtain ⟨h1, v, e1, hh1, v0, v1⟩ := hh.draw (many := 4) (by decide) (by decide)
  obtain ⟨v, rfl⟩ : ∃ y : Nat, v = y := ⟨v.toNat, by omega⟩
  obtain ⟨h2, w, e2, hh2, w0, w1⟩ := hh1.draw (many := 5) (by decide) (by decide)
  obtain ⟨w, rfl⟩ : ∃ y : Nat, w = y := ⟨w.toNat, by omega⟩
  have hb := p_body (v + 1) (w + 1) (by omega) (by omega) 20 1 (by omega) (by omega)
  have c1 : ((v + 1 : Nat) : Int) = 1 + (v : Int) := by omega
  have c2 : ((w + 1 : Nat) : Int) = 1 + (w : Int) := by omega
  obtain ⟨e', k1, h3, bs, x, y, k2, rfl, hh3, k3, k4⟩ := for_inv (set := setT [4]) (g := e1__law_parts f__law_draw (f__law_body 20))
    (I := fun ds e => ∃ (h : O) (bs : List (List Sm)) (x y : Option O), bs.length + ds.length = w + 1 ∧ e = [some h, some (.s (.int (1 + (v : Int)))), some (.s (.int (1 + (w : Int)))), some (.s (.tup (bs.map encB))), x, y] ∧ Hd h ∧ (∀ b ∈ bs, BodyIs (v + 1) (w + 1) b) ∧ True)
    (by
      rintro i ds e ⟨h, bs, x, y, l, rfl, hh, o, _⟩
      obtain ⟨h', b, e3, hh', q1, q2, q3⟩ := hb h hh
      rw [c1, c2] at e3
      have e3' : f__law_body 20 [h, .s (.int (1 + (v : Int))), .s (.int (1 + (w : Int))), .s (.int 1)] = .ok (.s (.tup (Sm.encs b))) [h', .s (.int (1 + (v : Int))), .s (.int (1 + (w : Int))), .s (.int 1)] := e3
      have hl : bs.length ≤ 16777215 := by simp only [List.length_cons] at l; omega
      refine ⟨_, [some h', some (.s (.int (1 + (v : Int)))), some (.s (.int (1 + (w : Int)))), some (.s (.tup ((bs ++ [b]).map encB))), some (.s i), some (.s (encB b))], rfl, ?_, h', bs ++ [b], _, _, by simp only [List.length_cons, List.length_append, List.length_nil] at l ⊢; omega, rfl, hh', fun z hz => ?_, trivial⟩
      · unfold e1__law_parts
        simp [e3', hl, encB]
      · rcases List.mem_append.mp hz with q | q
        · exact o z q
        · have : z = b := by simpa using q
          subst this
          exact ⟨q1, q2, q3⟩) (rngD 0 (w + 1)) [some h2, some (.s (.int (1 + (v : Int)))), some (.s (.int (1 + (w : Int)))), some (.s (.tup [])), none, none] ⟨h2, [], none, none, by rw [rngD_len]; simp, rfl, hh2, fun b hb => by simp at hb, trivial⟩
  have hl : bs.length = w + 1 := by simpa using k2
  have hz : (rngD 0 (w + 1)).length ≤ 16777216 := by rw [rngD_len]; omega
  have hrg : ∀ e : Env, rg1K (.ok [.val (.int (1 + (w : Int)))] e) = .ok ⟨rngD 0 (w + 1), none⟩ e := fun e => (rg1_is (by omega) (by omega)).trans (by rw [show (1 + (w : Int)).toNat = w + 1 from by omega])
  refine ⟨h3, v + 1, bs, ?_, hh3, by omega, by omega, by rw [hl]; exact k3⟩
  unfold f__law_parts b__law_parts
  rw [c1]
  simp [-List.map_map, e1, e2, hrg, k1]
theorem cut_sub {α : Type} (xs : List α) (lo hi : Option Int) : ∀ x ∈ cut xs lo hi, x ∈ xs := fun x hx => List.mem_of_mem_drop (List.mem_of_mem_take hx)
theorem cut_len {α : Type} (xs : List α) (lo hi : Option Int) : (cut xs lo hi).length ≤ xs.length := by
  unfold cut
  rw [List.length_take, List.length_drop]
  omega
theorem p_hand (ns : List Int) (hn : ns.length ≤ 63) : ∃ h, f__law_hand [.s (.lst (ns.map D.int))] = .ok h [.s (.lst (ns.map D.int))] ∧ Hd h := by
  obtain ⟨ys, e', k1, ⟨y', x', k2⟩, k3, k4⟩ := lc_all (vs := [2]) (set := setT [2]) (f := e1__law_hand) (I := fun e => ∃ y x : Option O, e = [some (.s (.lst (ns.map D.int))), y, x]) (R := fun y => ∃ i, y = D.int i ∧ True) (G := fun d => ∃ i : Int, d = .int i)
    (by
      rintro e d ⟨y, x, rfl⟩ ⟨i, rfl⟩
      refine ⟨_, .int (if i < 0 then -i else i), _, rfl, ?_, ⟨y, some (.s (.int i)), rfl⟩, _, rfl, trivial⟩
      unfold e1__law_hand
      simp) (cut (ns.map D.int) none (some 63)) [some (.s (.lst (ns.map D.int))), none, none] ⟨none, none, rfl⟩ (fun d hd => by
        obtain ⟨i, _, rfl⟩ := List.mem_map.mp (cut_sub _ _ _ d hd)
        exact ⟨i, rfl⟩)
  obtain ⟨cs, rfl, _⟩ := ints_of k4
  have hz : (cut (ns.map D.int) none (some 63)).length ≤ 16777216 := Nat.le_trans (cut_len _ _ _) (by rw [List.length_map]; omega)
  subst k2
  refine ⟨hnd cs 0 0 (1 + (cs.length : Int)) 0, ?_, Hd.mk cs 0 _ 0 (by decide)⟩
  unfold f__law_hand b__law_hand hnd
  simp [-List.map_map, hz, k1]
end L3
namespace L3
open PySem L2
theorem kb_NoneType_int : kitB "NoneType" "int" = some false := by decide +kernel
theorem kb_NoneType_bool : kitB "NoneType" "bool" = some false := by decide +kernel
theorem kb_NoneType_str : kitB "NoneType" "str" = some false := by decide +kernel
theorem kb_NoneType_tuple : kitB "NoneType" "tuple" = some false := by decide +kernel
theorem kb_bool_int : kitB "bool" "int" = some true := by decide +kernel
theorem kb_bool_bool : kitB "bool" "bool" = some true := by decide +kernel
theorem kb_bool_str : kitB "bool" "str" = some false := by decide +kernel
theorem kb_bool_tuple : kitB "bool" "tuple" = some false := by decide +kernel
theorem kb_int_int : kitB "int" "int" = some true := by decide +kernel
theorem kb_int_bool : kitB "int" "bool" = some false := by decide +kernel
theorem kb_int_str : kitB "int" "str" = some false := by decide +kernel
theorem kb_int_tuple : kitB "int" "tuple" = some false := by decide +kernel
theorem kb_str_int : kitB "str" "int" = some false := by decide +kernel
theorem kb_str_bool : kitB "str" "bool" = some false := by decide +kernel
theorem kb_str_str : kitB "str" "str" = some true := by decide +kernel
theorem kb_str_tuple : kitB "str" "tuple" = some false := by decide +kernel
theorem kb_tuple_int : kitB "tuple" "int" = some false := by decide +kernel
theorem kb_tuple_bool : kitB "tuple" "bool" = some false := by decide +kernel
theorem kb_tuple_str : kitB "tuple" "str" = some false := by decide +kernel
theorem kb_tuple_tuple : kitB "tuple" "tuple" = some true := by decide +kernel
theorem kb_list_int : kitB "list" "int" = some false := by decide +kernel
theorem kb_list_bool : kitB "list" "bool" = some false := by decide +kernel
theorem kb_list_str : kitB "list" "str" = some false := by decide +kernel
theorem kb_list_tuple : kitB "list" "tuple" = some false := by decide +kernel
theorem kb_dict_int : kitB "dict" "int" = some false := by decide +kernel
theorem kb_dict_bool : kitB "dict" "bool" = some false := by decide +kernel
theorem kb_dict_str : kitB "dict" "str" = some false := by decide +kernel
theorem kb_dict_tuple : kitB "dict" "tuple" = some false := by decide +kernel
mutual
def U (k : Nat) : D → Prop
  | .non => True
  | .bl _ => True
  | .int _ => True
  | .str s => PyData.strOk s = true
  | .tup ds => ds.length ≤ k ∧ Us k ds
  | .lst ds => Us k ds
  | .dt _ _ => True
  | .ins c _ _ => c = 1
  | _ => False
def Us (k : Nat) : List D → Prop
  | [] => True
  | d :: ds => U k d ∧ Us k ds
end
theorem Us.mem {k : Nat} : ∀ {ds : List D}, Us k ds → ∀ d ∈ ds, U k d
  | [], _, d, h => by simp at h
  | x :: ds, h, d, hd => by
    rcases List.mem_cons.mp hd with rfl | hd
    · exact h.1
    · exact Us.mem h.2 d hd
theorem Us.of {k : Nat} : ∀ {ds : List D}, (∀ d ∈ ds, U k d) → Us k ds
  | [], _ => trivial
  | x :: ds, h => ⟨h x (by simp), Us.of fun d hd => h d (by simp [hd])⟩
mutual
theorem U.mono {j k : Nat} (h : j ≤ k) : ∀ (d : D), U j d → U k d
  | .non, _ => trivial
  | .bl _, _ => trivial
  | .int _, _ => trivial
  | .str _, q => q
  | .tup ds, q => ⟨Nat.le_trans q.1 h, Us.mono h ds q.2⟩
  | .lst ds, q => Us.mono h ds q
  | .dt _ _, _ => trivial
  | .ins _ _ _, q => q
  | .dk _ _, q => q.elim
  | .ty _, q => q.elim
  | .cls _, q => q.elim
theorem Us.mono {j k : Nat} (h : j ≤ k) : ∀ (ds : List D), Us j ds → Us k ds
  | [], _ => trivial
  | d :: ds, q => ⟨U.mono h d q.1, Us.mono h ds q.2⟩
end
def isTupB : D → Bool | .tup _ => true | _ => false
def isStrB : D → Bool | .str _ => true | _ => false
def isBlB : D → Bool | .bl _ => true | _ => false
def isIB : D → Bool | .bl _ => true | .int _ => true | _ => false
theorem isU_tup {k : Nat} {d : D} (h : U k d) : gIsiX [0, 1] [.val d, .val (.ty "tuple")] = some (.val (.bl (isTupB d))) := by
  cases d <;> simp [U] at h <;> simp [gIsiX, isiD, D.plain, D.tn, Rt.isSl, Rt.d, isTupB, h, knT, kb_NoneType_int, kb_NoneType_bool, kb_NoneType_str, kb_NoneType_tuple, kb_bool_int, kb_bool_bool, kb_bool_str, kb_bool_tuple, kb_int_int, kb_int_bool, kb_int_str, kb_int_tuple, kb_str_int, kb_str_bool, kb_str_str, kb_str_tuple, kb_tuple_int, kb_tuple_bool, kb_tuple_str, kb_tuple_tuple, kb_list_int, kb_list_bool, kb_list_str, kb_list_tuple, kb_dict_int, kb_dict_bool, kb_dict_str, kb_dict_tuple]
theorem isU_str {k : Nat} {d : D} (h : U k d) : gIsiX [0, 1] [.val d, .val (.ty "str")] = some (.val (.bl (isStrB d))) := by
  cases d <;> simp [U] at h <;> simp [gIsiX, isiD, D.plain, D.tn, Rt.isSl, Rt.d, isStrB, h, knT, kb_NoneType_int, kb_NoneType_bool, kb_NoneType_str, kb_NoneType_tuple, kb_bool_int, kb_bool_bool, kb_bool_str, kb_bool_tuple, kb_int_int, kb_int_bool, kb_int_str, kb_int_tuple, kb_str_int, kb_str_bool, kb_str_str, kb_str_tuple, kb_tuple_int, kb_tuple_bool, kb_tuple_str, kb_tuple_tuple, kb_list_int, kb_list_bool, kb_list_str, kb_list_tuple, kb_dict_int, kb_dict_bool, kb_dict_str, kb_dict_tuple]
theorem isU_bl {k : Nat} {d : D} (h : U k d) : gIsiX [0, 1] [.val d, .val (.ty "bool")] = some (.val (.bl (isBlB d))) := by
  cases d <;> simp [U] at h <;> simp [gIsiX, isiD, D.plain, D.tn, Rt.isSl, Rt.d, isBlB, h, knT, kb_NoneType_int, kb_NoneType_bool, kb_NoneType_str, kb_NoneType_tuple, kb_bool_int, kb_bool_bool, kb_bool_str, kb_bool_tuple, kb_int_int, kb_int_bool, kb_int_str, kb_int_tuple, kb_str_int, kb_str_bool, kb_str_str, kb_str_tuple, kb_tuple_int, kb_tuple_bool, kb_tuple_str, kb_tuple_tuple, kb_list_int, kb_list_bool, kb_list_str, kb_list_tuple, kb_dict_int, kb_dict_bool, kb_dict_str, kb_dict_tuple]
theorem isU_int {k : Nat} {d : D} (h : U k d) : gIsiX [0, 1] [.val d, .val (.ty "int")] = some (.val (.bl (isIB d))) := by
  cases d <;> simp [U] at h <;> simp [gIsiX, isiD, D.plain, D.tn, Rt.isSl, Rt.d, isIB, h, knT, kb_NoneType_int, kb_NoneType_bool, kb_NoneType_str, kb_NoneType_tuple, kb_bool_int, kb_bool_bool, kb_bool_str, kb_bool_tuple, kb_int_int, kb_int_bool, kb_int_str, kb_int_tuple, kb_str_int, kb_str_bool, kb_str_str, kb_str_tuple, kb_tuple_int, kb_tuple_bool, kb_tuple_str, kb_tuple_tuple, kb_list_int, kb_list_bool, kb_list_str, kb_list_tuple, kb_dict_int, kb_dict_bool, kb_dict_str, kb_dict_tuple]
def isIn (lo hi : Int) : D → Bool
  | .int i => decide (lo ≤ i) && decide (i ≤ hi)
  | _ => false
def isSum (c : Nat) : D → Bool
  | .tup ds => decide (ds.length = c + 1) && ds.all (isIn (-1000) 1000)
  | _ => false
def isTest (c : Nat) : D → Bool
  | .tup [.str w, a, b] => (decide (w = "less") || decide (w = "same")) && (isSum c a && isSum c b)
  | _ => false
def st2 (c r : Nat) (g : D → Option Nat) (w : Str) (ds : List D) : Option Nat :=
  if w = "set" then (match ds with
    | [x, s] => if isIn 0 ((c : Int) - 1) x && isSum c s then some 1 else none
    | _ => none)
  else if w = "say" then (match ds with
    | [s] => if isSum c s then some 1 else none
    | _ => none)
  else if w = "call" then (match ds with
    | [x] => if isIn 0 ((r : Int) - 1) x then some 1 else none
    | _ => none)
  else if w = "if" then (match ds with
    | [t, a, b] => if isTest c t then (g a).bind fun x => (g b).map fun y => 2 + (x + y) else none
    | _ => none)
  else if w = "while" then (match ds with
    | [t, a] => if isTest c t then (g a).map fun x => 1 + x else none
    | _ => none)
  else none
def st (c r : Nat) (g : D → Option Nat) : D → Option Nat
  | .tup (.str w :: ds) => st2 c r g w ds
  | _ => none
def sts (f : D → Option Nat) : List D → Option Nat
  | [] => some 0
  | d :: ds => (f d).bind fun x => (sts f ds).map fun y => x + y
def sz (c r : Nat) : Nat → D → Option Nat
  | 0, _ => none
  | n + 1, .tup ds => sts (st c r (sz c r n)) ds
  | _ + 1, _ => none
def optD : Option Nat → D
  | some n => .int (n : Nat)
  | none => .non
def badAt (c r : Nat) : Nat → List D → D
  | _, [] => .non
  | k, d :: ds => match sz c r 8 d with
    | some n => if n ≤ 38 then badAt c r (k + 1) ds else .tup [.str "routine", .int (k : Nat)]
    | none => .tup [.str "routine", .int (k : Nat)]
def wrongD : D → D → D
  | .int c, .tup ds => if 1 ≤ c ∧ c ≤ 4 then (if 1 ≤ ds.length ∧ ds.length ≤ 5 then badAt c.toNat ds.length 0 ds else .tup [.str "routines"]) else .tup [.str "cells"]
  | .int c, _ => if 1 ≤ c ∧ c ≤ 4 then .tup [.str "routines"] else .tup [.str "cells"]
  | _, _ => .tup [.str "cells"]
end L3
namespace L3
open PySem L2
theorem c_isint {k : Nat} {d : D} (h : U k d) : f_is_integer [.s d] = .ok (.s (.bl (isIB d && !isBlB d))) [.s d] := by
  have e1 := isU_int h
  have e2 := isU_bl h
  unfold f_is_integer b_is_integer
  cases q : isIB d <;> simp [e1, e2, q]
theorem c_within {k : Nat} {d : D} (h : U k d) (lo hi : Int) : f_is_within [.s d, .s (.int lo), .s (.int hi)] = .ok (.s (.bl (isIn lo hi d))) [.s d, .s (.int lo), .s (.int hi)] := by
  have e := c_isint h
  unfold f_is_within b_is_within
  cases d with
  | int i => by_cases h : lo ≤ i <;> simp [e, h, isIn, isIB, isBlB]
  | _ => simp [e, isIn, isIB, isBlB]
theorem lcb {ds : List D} {f : D → Bool} : ds.map (fun x => D.bl (f x)) = (ds.map f).map D.bl := by rw [List.map_map]; rfl
theorem len_ne {n : Nat} {c : Nat} : gNe (.val (.int (n : Nat))) (.val (.int ((c : Int) + 1))) = some (.val (.bl (!decide (n = c + 1)))) := by
  have : decide ((n : Int) = (c : Int) + 1) = decide (n = c + 1) := by
    by_cases h : n = c + 1
    · simp [h]
    · rw [decide_eq_false h, decide_eq_false (by omega)]
  simp [this]
theorem c_issum {k : Nat} {d : D} (h : U k d) (hk : k ≤ 1000) (c : Nat) : f_is_sum [.s d, .s (.int c)] = .ok (.s (.bl (isSum c d))) [.s d, .s (.int c)] := by
  have e1 := isU_tup h
  by_cases hd : ∃ ds, d = .tup ds
  · obtain ⟨ds, rfl⟩ := hd
    have hl : ds.length ≤ 16777216 := Nat.le_trans h.1 (by omega)
    obtain ⟨e', k1, x, rfl⟩ := lc_map (vs := [2]) (set := setT [2]) (f := e1_is_sum f_is_within) (F := fun x => D.bl (isIn (-1000) 1000 x)) (I := fun e => ∃ x : Option O, e = [some (.s (.tup ds)), some (.s (.int c)), x])
      ds [some (.s (.tup ds)), some (.s (.int c)), none]
      (by
        rintro e d ⟨x, rfl⟩ hd
        have e2 := c_within (Us.mem h.2 d hd) (-1000) 1000
        refine ⟨_, _, rfl, ?_, some (.s d), rfl⟩
        unfold e1_is_sum
        simp [e2]) ⟨none, rfl⟩
    rw [lcb] at k1
    have e3 : gAll [.own (.lst (((ds.map (isIn (-1000) 1000)).map D.bl).map O.s))] = some (.val (.bl ((ds.map (isIn (-1000) 1000)).all id))) := ev_gAllL
    have e4 : (ds.map (isIn (-1000) 1000)).all id = ds.all (isIn (-1000) 1000) := by rw [List.all_map]; rfl
    rw [e4] at e3
    generalize hbs : (ds.map (isIn (-1000) 1000)).map D.bl = bs at k1 e3
    have hb : bs.length ≤ 16777216 := by rw [← hbs, List.length_map, List.length_map]; exact hl
    have e5 := len_ne (n := ds.length) (c := c)
    unfold f_is_sum b_is_sum
    by_cases hc : ds.length = c + 1
    · have hc2 : c ≤ 16777215 := by omega
      simp [-List.map_map, e1, isTupB, isSum, hc, hc2, hb, k1, e3]
    · have hc' : ¬ ((ds.length : Int) = (c : Int) + 1) := by omega
      simp [-List.map_map, e1, isTupB, isSum, hc, hc']
  · have hi : isTupB d = false := by cases d <;> simp [isTupB] at hd ⊢
    have hs : isSum c d = false := by cases d <;> simp [isSum] at hd ⊢
    unfold f_is_sum b_is_sum
    simp [e1, hi, hs]
theorem gin2 (w a b : Str) : gIn false (.val (.str w)) (.val (.tup [.str a, .str b])) = some (.val (.bl (decide (w = a) || decide (w = b)))) := by
  have e : inD (.str w) [.str a, .str b] = (decide (w = a) || decide (w = b)) := by
    show ((a == w) || ((b == w) || false)) = _
    have q : ∀ x : Str, (x == w) = decide (w = x) := fun x => by rw [Bool.eq_iff_iff, beq_iff_eq, decide_eq_true_eq]; exact eq_comm
    rw [Bool.or_false, q, q]
  show some (Rt.val (.bl (inD (.str w) [.str a, .str b] != false))) = _
  rw [e]
  cases (decide (w = a) || decide (w = b)) <;> rfl
theorem c_istest {k : Nat} {d : D} (h : U k d) (hk : k ≤ 1000) (c : Nat) : f_is_test [.s d, .s (.int c)] = .ok (.s (.bl (isTest c d))) [.s d, .s (.int c)] := by
  have e1 := isU_tup h
  unfold f_is_test b_is_test
  by_cases hd : ∃ ds, d = .tup ds
  · obtain ⟨ds, rfl⟩ := hd
    match ds, h with
    | [], _ => simp [e1, isTupB, isTest]
    | [x], _ => simp [e1, isTupB, isTest]
    | [x, y], _ => simp [e1, isTupB, isTest]
    | x :: y :: z :: u :: r, _ =>
      have : ¬ ((r.length : Int) + 1 + 1 + 1 + 1 = 3) := by omega
      simp [e1, isTupB, isTest, this]
    | [x, a, b], h =>
      have hx : U k x := h.2.1
      have e2 := isU_str hx
      have e3 := c_issum (d := a) h.2.2.1 hk c
      have e4 := c_issum (d := b) h.2.2.2.1 hk c
      cases x with
      | str w =>
        have e5 := gin2 w "less" "same"
        cases q : (decide (w = Str.ofString "less") || decide (w = Str.ofString "same")) with
        | true =>
          rw [q] at e5
          cases q2 : isSum c a <;> simp [e1, e2, e3, e4, e5, isTupB, isStrB, isTest, atI, ixN, q, q2]
        | false =>
          rw [q] at e5
          simp [e1, e2, e3, e4, e5, isTupB, isStrB, isTest, atI, ixN, q]
      | _ => simp [e1, e2, isTupB, isStrB, isTest, atI, ixN]
  · have hi : isTupB d = false := by cases d <;> simp [isTupB] at hd ⊢
    have hs : isTest c d = false := by cases d <;> simp [isTest] at hd ⊢
    simp [e1, hi, hs]
end L3
namespace L3
open PySem L2
theorem for_ret {set : D → Env → Option Env} {g : MS} {I : List D → Env → Prop} {R : Fl → Env → Prop} (h0 : ∀ e, I [] e → R .nx e)
    (step : ∀ d ds e, I (d :: ds) e → ∃ e1, set d e = some e1 ∧ ((∃ e2, g e1 = .ok .nx e2 ∧ I ds e2) ∨ (∃ r e2, g e1 = .ok (.ret r) e2 ∧ R (.ret r) e2))) : ∀ (items : List D) (e : Env), I items e → ∃ fl e', forL set g items e = .ok fl e' ∧ R fl e'
  | [], e, h => ⟨.nx, e, rfl, h0 e h⟩
  | d :: ds, e, h => by
    obtain ⟨e1, h1, h2⟩ := step d ds e h
    rcases h2 with ⟨e2, h2, h3⟩ | ⟨r, e2, h2, h3⟩
    · obtain ⟨fl, e', i1, i2⟩ := for_ret h0 step ds e2 h3
      refine ⟨fl, e', ?_, i2⟩
      unfold forL
      rw [h1]
      simp only [Rs.bind, h2, i1]
    · refine ⟨.ret r, e2, ?_, h3⟩
      unfold forL
      rw [h1]
      simp only [Rs.bind, h2]
theorem two_of {ds : List D} (h : ds.length = 2) : ∃ a b, ds = [a, b] := by
  match ds, h with
  | [a, b], _ => exact ⟨a, b, rfl⟩
theorem one_of {ds : List D} (h : ds.length = 1) : ∃ a, ds = [a] := by
  match ds, h with
  | [a], _ => exact ⟨a, rfl⟩
theorem three_of {ds : List D} (h : ds.length = 3) : ∃ a b c, ds = [a, b, c] := by
  match ds, h with
  | [a, b, c], _ => exact ⟨a, b, c, rfl⟩
theorem st2_set {c r : Nat} {g : D → Option Nat} {ds : List D} (h : ds.length ≠ 2) : st2 c r g "set" ds = none := by
  unfold st2
  rw [if_pos rfl]
  match ds, h with
  | [], _ => rfl
  | [a], _ => rfl
  | [a, b], h => exact absurd rfl h
  | a :: b :: c :: r, _ => rfl
theorem st2_say {c r : Nat} {g : D → Option Nat} {ds : List D} (h : ds.length ≠ 1) : st2 c r g "say" ds = none := by
  unfold st2
  rw [if_neg (by decide +kernel), if_pos rfl]
  match ds, h with
  | [], _ => rfl
  | [a], h => exact absurd rfl h
  | a :: b :: r, _ => rfl
theorem st2_call {c r : Nat} {g : D → Option Nat} {ds : List D} (h : ds.length ≠ 1) : st2 c r g "call" ds = none := by
  unfold st2
  rw [if_neg (by decide +kernel), if_neg (by decide +kernel), if_pos rfl]
  match ds, h with
  | [], _ => rfl
  | [a], h => exact absurd rfl h
  | a :: b :: r, _ => rfl
theorem st2_if {c r : Nat} {g : D → Option Nat} {ds : List D} (h : ds.length ≠ 3) : st2 c r g "if" ds = none := by
  unfold st2
  rw [if_neg (by decide +kernel), if_neg (by decide +kernel), if_neg (by decide +kernel), if_pos rfl]
  match ds, h with
  | [], _ => rfl
  | [a], _ => rfl
  | [a, b], _ => rfl
  | [a, b, c], h => exact absurd rfl h
  | a :: b :: c :: d :: r, _ => rfl
theorem st2_while {c r : Nat} {g : D → Option Nat} {ds : List D} (h : ds.length ≠ 2) : st2 c r g "while" ds = none := by
  unfold st2
  rw [if_neg (by decide +kernel), if_neg (by decide +kernel), if_neg (by decide +kernel), if_neg (by decide +kernel), if_pos rfl]
  match ds, h with
  | [], _ => rfl
  | [a], _ => rfl
  | [a, b], h => exact absurd rfl h
  | a :: b :: c :: r, _ => rfl
theorem st2_set' {c r : Nat} {g : D → Option Nat} {x s : D} : st2 c r g "set" [x, s] = if isIn 0 ((c : Int) - 1) x && isSum c s then some 1 else none := by
  unfold st2
  rw [if_pos rfl]
theorem st2_say' {c r : Nat} {g : D → Option Nat} {s : D} : st2 c r g "say" [s] = if isSum c s then some 1 else none := by
  unfold st2
  rw [if_neg (by decide +kernel), if_pos rfl]
theorem st2_call' {c r : Nat} {g : D → Option Nat} {x : D} : st2 c r g "call" [x] = if isIn 0 ((r : Int) - 1) x then some 1 else none := by
  unfold st2
  rw [if_neg (by decide +kernel), if_neg (by decide +kernel), if_pos rfl]
theorem st2_if' {c r : Nat} {g : D → Option Nat} {t a b : D} : st2 c r g "if" [t, a, b] = if isTest c t then (g a).bind fun x => (g b).map fun y => 2 + (x + y) else none := by
  unfold st2
  rw [if_neg (by decide +kernel), if_neg (by decide +kernel), if_neg (by decide +kernel), if_pos rfl]
theorem st2_while' {c r : Nat} {g : D → Option Nat} {t a : D} : st2 c r g "while" [t, a] = if isTest c t then (g a).map fun x => 1 + x else none := by
  unfold st2
  rw [if_neg (by decide +kernel), if_neg (by decide +kernel), if_neg (by decide +kernel), if_neg (by decide +kernel), if_pos rfl]
theorem c_stat (fb : List O → Rr) (g : D → Option Nat) (k c r d0 : Nat) (hk : k ≤ 1000) (ih : ∀ d, U k d → fb [.s d, .s (.int c), .s (.int r), .s (.int ((d0 : Int) + 1))] = .ok (.s (optD (g d))) [.s d, .s (.int c), .s (.int r), .s (.int ((d0 : Int) + 1))])
    {d : D} (h : U k d) : runDef [] 3 (b_statement_size f_is_within f_is_sum f_is_test fb) [.s d, .s (.int c), .s (.int r), .s (.int d0)] = .ok (.s (optD (st c r g d))) [.s d, .s (.int c), .s (.int r), .s (.int d0)] := by
  have e1 := isU_tup h
  unfold b_statement_size e1_statement_size tab_SIZES
  by_cases hd : ∃ ds, d = .tup ds
  · obtain ⟨ds, rfl⟩ := hd
    cases ds with
    | nil => simp [e1, isTupB, st, optD]
    | cons x ds =>
      have hx : U k x := h.2.1
      have hds : Us k ds := h.2.2
      have e2 := isU_str hx
      have z0 : ¬ ((ds.length : Int) + 1 = 0) := by omega
      by_cases hw : ∃ w, x = .str w
      · obtain ⟨w, rfl⟩ := hw
        have ok : PyData.strOk w = true := hx
        have es : st c r g (.tup (.str w :: ds)) = st2 c r g w ds := rfl
        rw [es]
        by_cases h1 : w = "set"
        · subst h1
          by_cases hl : ds.length = 2
          · obtain ⟨a, b, rfl⟩ := two_of hl
            have e3 := c_within (d := a) hds.1 0 ((c : Int) - 1)
            have e4 := c_issum (d := b) hds.2.1 hk c
            rw [st2_set']
            cases q1 : isIn 0 ((c : Int) - 1) a <;> cases q2 : isSum c b <;> simp [e1, e2, isTupB, isStrB, atI, ixN, e3, e4, q1, q2, optD]
          · have hn : ¬ ((3 : Int) = (ds.length : Int) + 1) := by omega
            simp [e1, e2, isTupB, isStrB, atI, ixN, z0, hn, st2_set hl, optD]
        by_cases h2 : w = "say"
        · subst h2
          by_cases hl : ds.length = 1
          · obtain ⟨a, rfl⟩ := one_of hl
            have e4 := c_issum (d := a) hds.1 hk c
            rw [st2_say']
            cases q2 : isSum c a <;> simp [e1, e2, isTupB, isStrB, atI, ixN, e4, q2, optD]
          · have hn : ¬ ((2 : Int) = (ds.length : Int) + 1) := by omega
            simp [e1, e2, isTupB, isStrB, atI, ixN, z0, hn, st2_say hl, optD]
        by_cases h3 : w = "call"
        · subst h3
          by_cases hl : ds.length = 1
          · obtain ⟨a, rfl⟩ := one_of hl
            have e4 := c_within (d := a) hds.1 0 ((r : Int) - 1)
            rw [st2_call']
            cases q2 : isIn 0 ((r : Int) - 1) a <;> simp [e1, e2, isTupB, isStrB, atI, ixN, e4, q2, optD]
          · have hn : ¬ ((2 : Int) = (ds.length : Int) + 1) := by omega
            simp [e1, e2, isTupB, isStrB, atI, ixN, z0, hn, st2_call hl, optD]
        by_cases h4 : w = "if"
        · subst h4
          by_cases hl : ds.length = 3
          · obtain ⟨t, a, b, rfl⟩ := three_of hl
            have e4 := c_istest (d := t) hds.1 hk c
            have e5 := ih a hds.2.1
            have e6 := ih b hds.2.2.1
            rw [st2_if']
            have nn : ∀ (u v : Option Nat) (x : Nat) (p : List Stp), gIn false (.val .non) (.bor x p (.lst [.s (optD u), .s (optD v)])) = some (.val (.bl (u.isNone || v.isNone))) := fun u v x p => by cases u <;> cases v <;> rfl
            cases q : isTest c t with
            | false => simp [e1, e2, isTupB, isStrB, atI, ixN, e4, q, optD]
            | true =>
              cases qa : g a with
              | none =>
                rw [qa] at e5
                have nn := fun x p => nn none (g b) x p
                simp [-List.map_map, e1, e2, isTupB, isStrB, atI, ixN, e4, q, e5, e6, lc_cons, lc_nil, nn, optD]
                simp [optD] at nn
                simp [nn]
              | some va =>
                rw [qa] at e5
                cases qb : g b with
                | none =>
                  rw [qb] at e6
                  have nn := fun x p => nn (some va) none x p
                  simp [optD] at nn e5 e6
                  simp [-List.map_map, e1, e2, isTupB, isStrB, atI, ixN, e4, q, e5, e6, lc_cons, lc_nil, nn, optD]
                | some vb =>
                  rw [qb] at e6
                  have nn := fun x p => nn (some va) (some vb) x p
                  have ns : ∀ (a b : Int) (x : Nat) (p : List Stp), gSum [.bor x p (.lst [.s (.int a), .s (.int b)])] = some (.val (.int (a + (b + 0)))) := fun a b x p => rfl
                  simp [optD] at nn e5 e6
                  simp [-List.map_map, e1, e2, isTupB, isStrB, atI, ixN, e4, q, e5, e6, lc_cons, lc_nil, nn, ns, optD]
          · have hn : ¬ ((4 : Int) = (ds.length : Int) + 1) := by omega
            simp [e1, e2, isTupB, isStrB, atI, ixN, z0, hn, st2_if hl, optD]
        by_cases h5 : w = "while"
        · subst h5
          by_cases hl : ds.length = 2
          · obtain ⟨t, a, rfl⟩ := two_of hl
            have e4 := c_istest (d := t) hds.1 hk c
            have e5 := ih a hds.2.1
            rw [st2_while']
            have nn : ∀ (u : Option Nat) (x : Nat) (p : List Stp), gIn false (.val .non) (.bor x p (.lst [.s (optD u)])) = some (.val (.bl u.isNone)) := fun u x p => by cases u <;> rfl
            cases q : isTest c t with
            | false => simp [e1, e2, isTupB, isStrB, atI, ixN, e4, q, optD]
            | true =>
              cases qa : g a with
              | none =>
                rw [qa] at e5
                have nn := fun x p => nn none x p
                simp [optD] at nn e5
                simp [-List.map_map, e1, e2, isTupB, isStrB, atI, ixN, e4, q, e5, lc_cons, lc_nil, nn, optD]
              | some va =>
                rw [qa] at e5
                have nn := fun x p => nn (some va) x p
                have ns : ∀ (a : Int) (x : Nat) (p : List Stp), gSum [.bor x p (.lst [.s (.int a)])] = some (.val (.int (a + 0))) := fun a x p => rfl
                simp [optD] at nn e5
                simp [-List.map_map, e1, e2, isTupB, isStrB, atI, ixN, e4, q, e5, lc_cons, lc_nil, nn, ns, optD]
          · have hn : ¬ ((3 : Int) = (ds.length : Int) + 1) := by omega
            simp [e1, e2, isTupB, isStrB, atI, ixN, z0, hn, st2_while hl, optD]
        · have hn : ¬ ((0 : Int) = (ds.length : Int) + 1) := by omega
          have eo : st2 c r g w ds = none := by
            unfold st2
            rw [if_neg h1, if_neg h2, if_neg h3, if_neg h4, if_neg h5]
          simp [e1, e2, isTupB, isStrB, atI, ixN, z0, hn, eo, optD, Ne.symm h1, Ne.symm h2, Ne.symm h3, Ne.symm h4, Ne.symm h5]
      · have hi : isStrB x = false := by cases x <;> simp [isStrB] at hw ⊢
        have hs : st c r g (.tup (x :: ds)) = none := by cases x <;> simp [st] at hw ⊢
        simp [e1, e2, isTupB, hi, hs, atI, ixN, z0, optD]
  · have hi : isTupB d = false := by cases d <;> simp [isTupB] at hd ⊢
    have hs : st c r g d = none := by cases d <;> simp [st] at hd ⊢
    simp [e1, hi, hs, optD]
end L3
namespace L3
open PySem L2
theorem sts_cons {f : D → Option Nat} {d : D} {ds : List D} : sts f (d :: ds) = (f d).bind fun x => (sts f ds).map fun y => x + y := rfl
theorem badAt_cons {c r j : Nat} {d : D} {ds : List D} : badAt c r j (d :: ds) = (match sz c r 8 d with
    | some n => if n ≤ 38 then badAt c r (j + 1) ds else .tup [.str "routine", .int (j : Nat)]
    | none => .tup [.str "routine", .int (j : Nat)]) := rfl
theorem wrong_tt {c : Int} {ds : List D} : wrongD (.int c) (.tup ds) = if 1 ≤ c ∧ c ≤ 4 then (if 1 ≤ ds.length ∧ ds.length ≤ 5 then badAt c.toNat ds.length 0 ds else .tup [.str "routines"]) else .tup [.str "cells"] := rfl
theorem c_body (k c r : Nat) (hk : k ≤ 1000) : ∀ (m : Nat), m ≤ 8 → ∀ {d : D}, U k d → f_body_size (m + 1) [.s d, .s (.int c), .s (.int r), .s (.int (9 - (m : Int)))] = .ok (.s (optD (sz c r m d))) [.s d, .s (.int c), .s (.int r), .s (.int (9 - (m : Int)))] := by
  intro m
  induction m with
  | zero =>
    intro _ d h
    show runDef [] 3 (b_body_size _) _ = _
    unfold b_body_size
    simp [sz, optD]
  | succ m ih =>
    intro hm d h
    have e1 := isU_tup h
    have h8 : ¬ (8 : Int) < 9 - ((m + 1 : Nat) : Int) := by omega
    show runDef [] 3 (b_body_size (runDef [] 3 (b_statement_size f_is_within f_is_sum f_is_test (f_body_size (m + 1))))) _ = _
    have hstat : ∀ {x : D}, U k x → runDef [] 3 (b_statement_size f_is_within f_is_sum f_is_test (f_body_size (m + 1))) [.s x, .s (.int c), .s (.int r), .s (.int (9 - ((m + 1 : Nat) : Int)))] = .ok (.s (optD (st c r (sz c r m) x))) [.s x, .s (.int c), .s (.int r), .s (.int (9 - ((m + 1 : Nat) : Int)))] := fun {x} hx => by
      have q := c_stat (f_body_size (m + 1)) (sz c r m) k c r (9 - (m + 1)) hk (fun y hy => by
        have := ih (by omega) hy
        rw [show (((9 - (m + 1) : Nat) : Int) + 1) = 9 - (m : Int) by omega]
        exact this) hx
      rw [show ((9 - (m + 1) : Nat) : Int) = 9 - ((m + 1 : Nat) : Int) by omega] at q
      exact q
    by_cases hd : ∃ ds, d = .tup ds
    · obtain ⟨ds, rfl⟩ := hd
      generalize hfs : runDef [] 3 (b_statement_size f_is_within f_is_sum f_is_test (f_body_size (m + 1))) = fs at hstat
      generalize hq : (9 - ((m + 1 : Nat) : Int)) = q at h8 hstat
      have es : sz c r (m + 1) (.tup ds) = sts (st c r (sz c r m)) ds := rfl
      obtain ⟨fl, e', k1, k2⟩ := for_ret (set := setT [5]) (g := e1_body_size fs)
        (I := fun xs e => ∃ (n : Nat) (x y : Option O), Us k xs ∧ e = [some (.s (.tup ds)), some (.s (.int c)), some (.s (.int r)), some (.s (.int q)), some (.s (.int n)), x, y] ∧ sts (st c r (sz c r m)) ds = (sts (st c r (sz c r m)) xs).map fun z => n + z)
        (R := fun fl e => ∃ (n : Nat) (x y : Option O), e = [some (.s (.tup ds)), some (.s (.int c)), some (.s (.int r)), some (.s (.int q)), some (.s (.int n)), x, y] ∧ ((fl = .nx ∧ sts (st c r (sz c r m)) ds = some n) ∨ (fl = .ret (.val .non) ∧ sts (st c r (sz c r m)) ds = none)))
        (by
          rintro e ⟨n, x, y, _, rfl, h2⟩
          exact ⟨n, x, y, rfl, .inl ⟨rfl, by rw [h2]; simp [sts]⟩⟩)
        (by
          rintro x xs e ⟨n, a, b, hu, rfl, h2⟩
          have e2 := hstat hu.1
          refine ⟨_, rfl, ?_⟩
          rw [sts_cons] at h2
          cases qx : st c r (sz c r m) x with
          | none =>
            rw [qx] at e2 h2
            right
            refine ⟨.val .non, [some (.s (.tup ds)), some (.s (.int c)), some (.s (.int r)), some (.s (.int q)), some (.s (.int n)), some (.s x), some (.s .non)], ?_, n, _, _, rfl, .inr ⟨rfl, by rw [h2]; rfl⟩⟩
            unfold e1_body_size
            simp [optD] at e2
            simp [-ev_run, e2]
          | some v =>
            rw [qx] at e2 h2
            left
            refine ⟨[some (.s (.tup ds)), some (.s (.int c)), some (.s (.int r)), some (.s (.int q)), some (.s (.int (n + v : Nat))), some (.s x), some (.s (.int v))], ?_, n + v, _, _, hu.2, rfl, ?_⟩
            · unfold e1_body_size
              simp [optD] at e2
              simp [-ev_run, e2]
            · rw [h2]
              simp only [Option.bind_some, Option.map_map]
              congr 1
              funext z
              show n + (v + z) = n + v + z
              omega)
        ds [some (.s (.tup ds)), some (.s (.int c)), some (.s (.int r)), some (.s (.int q)), some (.s (.int 0)), none, none] ⟨0, none, none, h.2, rfl, by cases sts (st c r (sz c r m)) ds <;> simp⟩
      obtain ⟨n, x, y, rfl, k3⟩ := k2
      rw [es]
      unfold b_body_size
      rcases k3 with ⟨rfl, k4⟩ | ⟨rfl, k4⟩
      · rw [k4]
        simp [h8, e1, isTupB, k1, optD]
      · rw [k4]
        simp [h8, e1, isTupB, k1, optD]
    · have hi : isTupB d = false := by cases d <;> simp [isTupB] at hd ⊢
      have hs : sz c r (m + 1) d = none := by cases d <;> simp [sz] at hd ⊢
      unfold b_body_size
      simp [h8, e1, hi, hs, optD]
theorem c_wrong {k : Nat} (hk : k ≤ 1000) {a b : D} (ha : U k a) (hb : U k b) : f_wrong_part [.s a, .s b] = .ok (.s (wrongD a b)) [.s a, .s b] := by
  have e1 := c_within ha 1 4
  have e2 := isU_tup hb
  unfold f_wrong_part b_wrong_part
  by_cases hc : ∃ c : Int, a = .int c ∧ 1 ≤ c ∧ c ≤ 4
  · obtain ⟨c, rfl, c1, c2⟩ := hc
    obtain ⟨c, rfl⟩ : ∃ n : Nat, c = (n : Int) := ⟨c.toNat, by omega⟩
    have e1 : f_is_within [.s (.int (c : Int)), .s (.int 1), .s (.int 4)] = .ok (.s (.bl true)) [.s (.int (c : Int)), .s (.int 1), .s (.int 4)] := by rw [e1]; simp [isIn, c1, c2]
    by_cases hd : ∃ ds, b = .tup ds
    · obtain ⟨ds, rfl⟩ := hd
      by_cases hl : 1 ≤ ds.length ∧ ds.length ≤ 5
      · have ew : wrongD (.int (c : Int)) (.tup ds) = badAt c ds.length 0 ds := by
          rw [wrong_tt, if_pos ⟨c1, c2⟩, if_pos hl, Int.toNat_natCast]
        have h3 : (1 : Int) ≤ ds.length := by omega
        have h4 : (ds.length : Int) ≤ 5 := by omega
        obtain ⟨fl, e', k1, k2⟩ := for_ret (set := setTup [2, 3]) (g := e1_wrong_part f_is_within (f_body_size 9))
          (I := fun xs e => ∃ (j : Nat) (ys : List D) (x y z : Option O), xs = enumD j ys ∧ Us k ys ∧ e = [some (.s (.int c)), some (.s (.tup ds)), x, y, z] ∧ badAt c ds.length 0 ds = badAt c ds.length j ys)
          (R := fun fl e => ∃ (x y z : Option O), e = [some (.s (.int c)), some (.s (.tup ds)), x, y, z] ∧ ((fl = .nx ∧ badAt c ds.length 0 ds = .non) ∨ fl = .ret (.val (badAt c ds.length 0 ds))))
          (by
            rintro e ⟨j, ys, x, y, z, h1, _, rfl, h2⟩
            cases ys with
            | nil => exact ⟨x, y, z, rfl, .inl ⟨rfl, h2⟩⟩
            | cons y ys => simp [enumD] at h1)
          (by
            rintro d xs e ⟨j, ys, x, y, z, h1, hu, rfl, h2⟩
            cases ys with
            | nil => simp [enumD] at h1
            | cons w ys =>
              simp only [enumD, List.cons.injEq] at h1
              obtain ⟨rfl, rfl⟩ := h1
              have e3 := c_body k c ds.length hk 8 (by omega) hu.1
              have e3 : f_body_size 9 [.s w, .s (.int c), .s (.int ds.length), .s (.int 1)] = .ok (.s (optD (sz c ds.length 8 w))) [.s w, .s (.int c), .s (.int ds.length), .s (.int 1)] := e3
              refine ⟨_, rfl, ?_⟩
              rw [badAt_cons] at h2
              cases qs : sz c ds.length 8 w with
              | none =>
                rw [qs] at e3 h2
                dsimp only at h2
                right
                refine ⟨.val (.tup [.str "routine", .int (j : Nat)]), [some (.s (.int c)), some (.s (.tup ds)), some (.s (.int j)), some (.s w), some (.s .non)], ?_, _, _, _, rfl, .inr (by rw [h2])⟩
                unfold e1_wrong_part
                simp [optD] at e3
                simp [e3]
              | some n =>
                rw [qs] at e3 h2
                dsimp only at h2
                simp [optD] at e3
                by_cases hn : n ≤ 38
                · have hn2 : ¬ ((40 : Int) < (n : Int) + 2) := by omega
                  rw [if_pos hn] at h2
                  left
                  refine ⟨[some (.s (.int c)), some (.s (.tup ds)), some (.s (.int j)), some (.s w), some (.s (.int n))], ?_, j + 1, ys, _, _, _, rfl, hu.2, rfl, h2⟩
                  unfold e1_wrong_part
                  simp [e3, hn2]
                · have hn2 : ((40 : Int) < (n : Int) + 2) := by omega
                  rw [if_neg hn] at h2
                  right
                  refine ⟨.val (.tup [.str "routine", .int (j : Nat)]), [some (.s (.int c)), some (.s (.tup ds)), some (.s (.int j)), some (.s w), some (.s (.int n))], ?_, _, _, _, rfl, .inr (by rw [h2])⟩
                  unfold e1_wrong_part
                  simp [e3, hn2])
          (enumD 0 ds) [some (.s (.int c)), some (.s (.tup ds)), none, none, none] ⟨0, ds, none, none, none, rfl, hb.2, rfl, rfl⟩
        obtain ⟨x, y, z, rfl, k3⟩ := k2
        rw [ew]
        rcases k3 with ⟨rfl, k4⟩ | rfl
        · rw [k4]
          simp [e1, e2, isTupB, h3, h4, k1]
        · generalize badAt c ds.length 0 ds = B at k1
          simp [e1, e2, isTupB, h3, h4, k1]
      · have ew : wrongD (.int (c : Int)) (.tup ds) = .tup [.str "routines"] := by
          rw [wrong_tt, if_pos ⟨c1, c2⟩, if_neg hl]
        rw [ew]
        by_cases h3 : (1 : Int) ≤ ds.length
        · have h4 : ¬ ((ds.length : Int) ≤ 5) := by omega
          simp [e1, e2, isTupB, h3, h4]
        · simp [e1, e2, isTupB, h3]
    · have hi : isTupB b = false := by cases b <;> simp [isTupB] at hd ⊢
      have ew : wrongD (.int (c : Int)) b = .tup [.str "routines"] := by
        cases b <;> first | (exfalso; exact hd ⟨_, rfl⟩) | (show (if 1 ≤ (c : Int) ∧ (c : Int) ≤ 4 then _ else _) = _; rw [if_pos ⟨c1, c2⟩])
      rw [ew]
      simp [e1, e2, hi]
  · have hi : isIn 1 4 a = false := by
      cases a with
      | int i =>
        cases q : isIn 1 4 (.int i) with
        | false => rfl
        | true =>
          exfalso
          simp [isIn] at q
          exact hc ⟨i, rfl, q.1, q.2⟩
      | _ => rfl
    have ew : wrongD a b = .tup [.str "cells"] := by
      cases a with
      | int i =>
        have hn : ¬ (1 ≤ i ∧ i ≤ 4) := fun z => hc ⟨i, rfl, z.1, z.2⟩
        cases b <;> first | (rw [wrong_tt, if_neg hn]) | (show (if 1 ≤ i ∧ i ≤ 4 then _ else _) = _; rw [if_neg hn])
      | _ => cases b <;> rfl
    rw [ew]
    simp [e1, hi]
end L3
namespace L3
open PySem L2
theorem st_eq {c r : Nat} {g : D → Option Nat} {w : Str} {ds : List D} : st c r g (.tup (.str w :: ds)) = st2 c r g w ds := rfl
theorem isIn_is {lo hi : Int} {d : D} (h : isIn lo hi d = true) : ∃ i : Int, d = .int i ∧ lo ≤ i ∧ i ≤ hi := by
  cases d with
  | int i => simp [isIn] at h; exact ⟨i, rfl, h.1, h.2⟩
  | _ => simp [isIn] at h
theorem isSum_is {c : Nat} {d : D} (h : isSum c d = true) : ∃ l : List Int, d = .tup (l.map D.int) ∧ lin c l := by
  cases d with
  | tup ds =>
    simp only [isSum, Bool.and_eq_true, decide_eq_true_eq, List.all_eq_true] at h
    obtain ⟨l, rfl, hl⟩ := ints_of (P := fun i => -1000 ≤ i ∧ i ≤ 1000) fun y hy => isIn_is (h.2 y hy)
    exact ⟨l, rfl, by rw [← h.1, List.length_map], hl⟩
  | _ => simp [isSum] at h
theorem isSum_of {c : Nat} {l : List Int} (h : lin c l) : isSum c (.tup (l.map D.int)) = true := by
  simp only [isSum, Bool.and_eq_true, decide_eq_true_eq, List.all_eq_true, List.length_map]
  refine ⟨h.1, fun d hd => ?_⟩
  obtain ⟨i, hi, rfl⟩ := List.mem_map.mp hd
  have := h.2 i hi
  simp [isIn, this.1, this.2]
theorem isTest_is {c : Nat} {d : D} (h : isTest c d = true) : ∃ k l m, d = tstD k l m ∧ lin c l ∧ lin c m := by
  unfold isTest at h
  split at h
  · rename_i w a b
    simp only [Bool.and_eq_true, Bool.or_eq_true, decide_eq_true_eq] at h
    obtain ⟨hw, ha, hb⟩ := h
    obtain ⟨l, rfl, hl⟩ := isSum_is ha
    obtain ⟨m, rfl, hm⟩ := isSum_is hb
    rcases hw with rfl | rfl
    · exact ⟨true, l, m, rfl, hl, hm⟩
    · exact ⟨false, l, m, rfl, hl, hm⟩
  · cases h
theorem isTest_of {c : Nat} {k : Bool} {l m : List Int} (h : lin c l) (h2 : lin c m) : isTest c (tstD k l m) = true := by
  cases k <;> simp [tstD, isTest, isSum_of h, isSum_of h2]
theorem st_dec {c r m : Nat} (g : D → Option Nat) (ih : ∀ d n, g d = some n → ∃ j b, m = j + 1 ∧ d = .tup (Sm.encs b) ∧ Sm.deps j b ∧ Sm.oks c r b ∧ Sm.sizes b = n) {d : D} {n : Nat} (h : st c r g d = some n) :
    ∃ s : Sm, d = s.enc ∧ s.dep m ∧ s.ok c r ∧ s.size = n := by
  unfold st at h
  split at h
  · rename_i w ds
    by_cases h1 : w = "set"
    · subst h1
      by_cases hl : ds.length = 2
      · obtain ⟨a, b, rfl⟩ := two_of hl
        rw [st2_set'] at h
        split at h
        · rename_i z
          rw [Bool.and_eq_true] at z
          obtain ⟨i, rfl, i0, i1⟩ := isIn_is z.1
          obtain ⟨l, rfl, hq⟩ := isSum_is z.2
          cases h
          refine ⟨.set i.toNat l, ?_, by cases m <;> trivial, ⟨by omega, hq⟩, rfl⟩
          simp [Sm.enc, Int.toNat_of_nonneg i0]
        · cases h
      · rw [st2_set hl] at h; cases h
    by_cases h2 : w = "say"
    · subst h2
      by_cases hl : ds.length = 1
      · obtain ⟨a, rfl⟩ := one_of hl
        rw [st2_say'] at h
        split at h
        · rename_i z
          obtain ⟨l, rfl, hq⟩ := isSum_is z
          cases h
          exact ⟨.say l, rfl, by cases m <;> trivial, hq, rfl⟩
        · cases h
      · rw [st2_say hl] at h; cases h
    by_cases h3 : w = "call"
    · subst h3
      by_cases hl : ds.length = 1
      · obtain ⟨a, rfl⟩ := one_of hl
        rw [st2_call'] at h
        split at h
        · rename_i z
          obtain ⟨i, rfl, i0, i1⟩ := isIn_is z
          cases h
          refine ⟨.call i.toNat, ?_, by cases m <;> trivial, (by omega : i.toNat < r), rfl⟩
          simp [Sm.enc, Int.toNat_of_nonneg i0]
        · cases h
      · rw [st2_call hl] at h; cases h
    by_cases h4 : w = "if"
    · subst h4
      by_cases hl : ds.length = 3
      · obtain ⟨t, a, b, rfl⟩ := three_of hl
        rw [st2_if'] at h
        split at h
        · rename_i z
          obtain ⟨k, l, l', rfl, hq, hq'⟩ := isTest_is z
          cases qa : g a with
          | none => rw [qa] at h; cases h
          | some x =>
            cases qb : g b with
            | none => rw [qa, qb] at h; cases h
            | some y =>
              rw [qa, qb] at h
              cases h
              obtain ⟨j, p, hj, rfl, d1, o1, s1⟩ := ih _ _ qa
              obtain ⟨j', p', hj', rfl, d2, o2, s2⟩ := ih _ _ qb
              obtain rfl : j = j' := by omega
              exact ⟨.ifs k l l' p p', rfl, by subst hj; exact ⟨j, rfl, d1, d2⟩, ⟨hq, hq', o1, o2⟩, by simp [Sm.size, s1, s2]⟩
        · cases h
      · rw [st2_if hl] at h; cases h
    by_cases h5 : w = "while"
    · subst h5
      by_cases hl : ds.length = 2
      · obtain ⟨t, a, rfl⟩ := two_of hl
        rw [st2_while'] at h
        split at h
        · rename_i z
          obtain ⟨k, l, l', rfl, hq, hq'⟩ := isTest_is z
          cases qa : g a with
          | none => rw [qa] at h; cases h
          | some x =>
            rw [qa] at h
            cases h
            obtain ⟨j, p, hj, rfl, d1, o1, s1⟩ := ih _ _ qa
            exact ⟨.wh k l l' p, rfl, by subst hj; exact ⟨j, rfl, d1⟩, ⟨hq, hq', o1⟩, by simp [Sm.size, s1]⟩
        · cases h
      · rw [st2_while hl] at h; cases h
    · unfold st2 at h
      rw [if_neg h1, if_neg h2, if_neg h3, if_neg h4, if_neg h5] at h
      cases h
  · cases h
theorem sts_dec {c r m : Nat} {f : D → Option Nat} (hf : ∀ d n, f d = some n → ∃ s : Sm, d = s.enc ∧ s.dep m ∧ s.ok c r ∧ s.size = n) : ∀ {ds : List D} {n : Nat}, sts f ds = some n → ∃ b, ds = Sm.encs b ∧ Sm.deps m b ∧ Sm.oks c r b ∧ Sm.sizes b = n
  | [], n, h => by
    cases h
    exact ⟨[], rfl, by cases m <;> trivial, trivial, rfl⟩
  | d :: ds, n, h => by
    rw [sts_cons] at h
    cases q : f d with
    | none => rw [q] at h; cases h
    | some x =>
      cases q2 : sts f ds with
      | none => rw [q, q2] at h; cases h
      | some y =>
        rw [q, q2] at h
        cases h
        obtain ⟨s, rfl, a1, a2, a3⟩ := hf _ _ q
        obtain ⟨b, rfl, b1, b2, b3⟩ := sts_dec hf q2
        exact ⟨s :: b, rfl, ⟨a1, b1⟩, ⟨a2, b2⟩, by simp [Sm.sizes, a3, b3]⟩
theorem sz_dec {c r : Nat} : ∀ {m : Nat} {d : D} {n : Nat}, sz c r m d = some n → ∃ j b, m = j + 1 ∧ d = .tup (Sm.encs b) ∧ Sm.deps j b ∧ Sm.oks c r b ∧ Sm.sizes b = n
  | 0, _, _, h => by cases h
  | m + 1, d, n, h => by
    cases d with
    | tup ds =>
      have h : sts (st c r (sz c r m)) ds = some n := h
      obtain ⟨b, rfl, b1, b2, b3⟩ := sts_dec (m := m) (fun d n q => st_dec (sz c r m) (fun d n z => sz_dec z) q) h
      exact ⟨m, b, rfl, rfl, b1, b2, b3⟩
    | _ => cases h
mutual
theorem st_enc {c r : Nat} : ∀ (m : Nat) (s : Sm), s.ok c r → s.dep m → st c r (sz c r m) s.enc = some s.size
  | m, .set x l, h, _ => by
    simp only [Sm.enc, Sm.size, st_eq]
    rw [st2_set', isSum_of h.2]
    have : isIn 0 ((c : Int) - 1) (.int (x : Int)) = true := by
      have := h.1
      simp [isIn]; omega
    rw [this]
    rfl
  | m, .say l, h, _ => by
    simp only [Sm.enc, Sm.size, st_eq]
    rw [st2_say', isSum_of h]
    rfl
  | m, .call x, h, _ => by
    simp only [Sm.enc, Sm.size, st_eq]
    have h : x < r := h
    have : isIn 0 ((r : Int) - 1) (.int (x : Int)) = true := by
      simp [isIn]; omega
    rw [st2_call', this]
    rfl
  | m, .ifs k l l' a b, h, hd => by
    obtain ⟨j, rfl, d1, d2⟩ := hd
    simp only [Sm.enc, Sm.size, st_eq]
    rw [st2_if', isTest_of h.1 h.2.1, if_pos rfl, sz_enc j a h.2.2.1 d1, sz_enc j b h.2.2.2 d2]
    rfl
  | m, .wh k l l' a, h, hd => by
    obtain ⟨j, rfl, d1⟩ := hd
    simp only [Sm.enc, Sm.size, st_eq]
    rw [st2_while', isTest_of h.1 h.2.1, if_pos rfl, sz_enc j a h.2.2 d1]
    rfl
theorem sts_enc {c r : Nat} : ∀ (m : Nat) (b : List Sm), Sm.oks c r b → Sm.deps m b → sts (st c r (sz c r m)) (Sm.encs b) = some (Sm.sizes b)
  | m, [], _, _ => rfl
  | m, s :: b, h, hd => by
    show sts _ (s.enc :: Sm.encs b) = _
    rw [sts_cons, st_enc m s h.1 hd.1, sts_enc m b h.2 hd.2]
    rfl
theorem sz_enc {c r : Nat} : ∀ (m : Nat) (b : List Sm), Sm.oks c r b → Sm.deps m b → sz c r (m + 1) (.tup (Sm.encs b)) = some (Sm.sizes b)
  | m, b, h, hd => sts_enc m b h hd
end
end L3
namespace L3
open PySem L2
theorem l_int {k : Nat} {d : D} (h : U k d) (lo hi : Int) : f__law_int [.s d, .s (.int lo), .s (.int hi)] = .ok (.s (.bl (isIn lo hi d))) [.s d, .s (.int lo), .s (.int hi)] := by
  have e1 := isU_int h
  have e2 := isU_bl h
  unfold f__law_int b__law_int
  cases d with
  | int i => by_cases h : lo ≤ i <;> simp [e1, e2, h, isIn, isIB, isBlB]
  | _ => simp [e1, e2, isIn, isIB, isBlB]
theorem len_eq {n : Nat} {c : Nat} : gEq (.val (.int (n : Nat))) (.val (.int ((c : Int) + 1))) = some (.val (.bl (decide (n = c + 1)))) := by
  have : decide ((n : Int) = (c : Int) + 1) = decide (n = c + 1) := by
    by_cases h : n = c + 1
    · simp [h]
    · rw [decide_eq_false h, decide_eq_false (by omega)]
  simp [this]
theorem l_issum {k : Nat} {d : D} (h : U k d) (hk : k ≤ 1000) (c : Nat) : f__law_is_sum [.s d, .s (.int c)] = .ok (.s (.bl (isSum c d))) [.s d, .s (.int c)] := by
  have e1 := isU_tup h
  by_cases hd : ∃ ds, d = .tup ds
  · obtain ⟨ds, rfl⟩ := hd
    have hl : ds.length ≤ 16777216 := Nat.le_trans h.1 (by omega)
    obtain ⟨e', k1, x, rfl⟩ := lc_map (vs := [2]) (set := setT [2]) (f := e1__law_is_sum f__law_int) (F := fun x => D.bl (isIn (-1000) 1000 x)) (I := fun e => ∃ x : Option O, e = [some (.s (.tup ds)), some (.s (.int c)), x])
      ds [some (.s (.tup ds)), some (.s (.int c)), none]
      (by
        rintro e d ⟨x, rfl⟩ hd
        have e2 := l_int (Us.mem h.2 d hd) (-1000) 1000
        refine ⟨_, _, rfl, ?_, some (.s d), rfl⟩
        unfold e1__law_is_sum
        simp [e2]) ⟨none, rfl⟩
    rw [lcb] at k1
    have e3 : gAll [.own (.lst (((ds.map (isIn (-1000) 1000)).map D.bl).map O.s))] = some (.val (.bl ((ds.map (isIn (-1000) 1000)).all id))) := ev_gAllL
    have e4 : (ds.map (isIn (-1000) 1000)).all id = ds.all (isIn (-1000) 1000) := by rw [List.all_map]; rfl
    rw [e4] at e3
    generalize hbs : (ds.map (isIn (-1000) 1000)).map D.bl = bs at k1 e3
    have hb : bs.length ≤ 16777216 := by rw [← hbs, List.length_map, List.length_map]; exact hl
    unfold f__law_is_sum b__law_is_sum
    by_cases hc : ds.length = c + 1
    · have hc2 : c ≤ 16777215 := by omega
      simp [-List.map_map, e1, isTupB, isSum, hc, hc2, hb, k1, e3]
    · have hc' : ¬ ((ds.length : Int) = (c : Int) + 1) := by omega
      simp [-List.map_map, e1, isTupB, isSum, hc, hc']
  · have hi : isTupB d = false := by cases d <;> simp [isTupB] at hd ⊢
    have hs : isSum c d = false := by cases d <;> simp [isSum] at hd ⊢
    unfold f__law_is_sum b__law_is_sum
    simp [e1, hi, hs]
theorem gin2l (neg : Bool) (w a b : Str) : gIn neg (.val (.str w)) (.own (.lst [.s (.str a), .s (.str b)])) = some (.val (.bl ((decide (w = a) || decide (w = b)) != neg))) := by
  have e : inD (.str w) [.str a, .str b] = (decide (w = a) || decide (w = b)) := by
    show ((a == w) || ((b == w) || false)) = _
    have q : ∀ x : Str, (x == w) = decide (w = x) := fun x => by rw [Bool.eq_iff_iff, beq_iff_eq, decide_eq_true_eq]; exact eq_comm
    rw [Bool.or_false, q, q]
  show some (Rt.val (.bl (inD (.str w) [.str a, .str b] != neg))) = _
  rw [e]
theorem l_istest {k : Nat} {d : D} (h : U k d) (hk : k ≤ 1000) (c : Nat) : f__law_is_test [.s d, .s (.int c)] = .ok (.s (.bl (isTest c d))) [.s d, .s (.int c)] := by
  have e1 := isU_tup h
  unfold f__law_is_test b__law_is_test
  by_cases hd : ∃ ds, d = .tup ds
  · obtain ⟨ds, rfl⟩ := hd
    match ds, h with
    | [], _ => simp [e1, isTupB, isTest]
    | [x], _ => simp [e1, isTupB, isTest]
    | [x, y], _ => simp [e1, isTupB, isTest]
    | x :: y :: z :: u :: r, _ =>
      have : ¬ ((r.length : Int) + 1 + 1 + 1 + 1 = 3) := by omega
      simp [e1, isTupB, isTest, this]
    | [x, a, b], h =>
      have hx : U k x := h.2.1
      have e2 := isU_str hx
      have e3 := l_issum (d := a) h.2.2.1 hk c
      have e4 := l_issum (d := b) h.2.2.2.1 hk c
      cases x with
      | str w =>
        have e5 := gin2l false w "less" "same"
        cases q : (decide (w = Str.ofString "less") || decide (w = Str.ofString "same")) with
        | true =>
          rw [q] at e5
          cases q2 : isSum c a <;> simp [e1, e2, e3, e4, e5, isTupB, isStrB, isTest, atI, ixN, q, q2]
        | false =>
          rw [q] at e5
          simp [e1, e2, e3, e4, e5, isTupB, isStrB, isTest, atI, ixN, q]
      | _ => simp [e1, e2, isTupB, isStrB, isTest, atI, ixN]
  · have hi : isTupB d = false := by cases d <;> simp [isTupB] at hd ⊢
    have hs : isTest c d = false := by cases d <;> simp [isTest] at hd ⊢
    simp [e1, hi, hs]
theorem l_stat (fb : List O → Rr) (g : D → Option Nat) (k c r d0 : Nat) (hk : k ≤ 1000) (ih : ∀ d, U k d → fb [.s d, .s (.int c), .s (.int r), .s (.int ((d0 : Int) + 1))] = .ok (.s (.bl (g d).isSome)) [.s d, .s (.int c), .s (.int r), .s (.int ((d0 : Int) + 1))])
    {d : D} (h : U k d) : runDef [] 1 (b__law_is_statement f__law_int f__law_is_sum f__law_is_test fb) [.s d, .s (.int c), .s (.int r), .s (.int d0)] = .ok (.s (.bl (st c r g d).isSome)) [.s d, .s (.int c), .s (.int r), .s (.int d0)] := by
  have e1 := isU_tup h
  unfold b__law_is_statement e1__law_is_statement
  by_cases hd : ∃ ds, d = .tup ds
  · obtain ⟨ds, rfl⟩ := hd
    cases ds with
    | nil => simp [e1, isTupB, st]
    | cons x ds =>
      have hx : U k x := h.2.1
      have hds : Us k ds := h.2.2
      have e2 := isU_str hx
      by_cases hn : ds = []
      · subst hn
        have hs : st c r g (.tup [x]) = none := by
          cases x with
          | str w =>
            rw [st_eq]
            by_cases h1 : w = "set"
            · subst h1; exact st2_set (by decide)
            by_cases h2 : w = "say"
            · subst h2; exact st2_say (by decide)
            by_cases h3 : w = "call"
            · subst h3; exact st2_call (by decide)
            by_cases h4 : w = "if"
            · subst h4; exact st2_if (by decide)
            by_cases h5 : w = "while"
            · subst h5; exact st2_while (by decide)
            · unfold st2
              rw [if_neg h1, if_neg h2, if_neg h3, if_neg h4, if_neg h5]
          | _ => rfl
        rw [hs]
        simp [e1, isTupB]
      have z0 : ¬ ((ds.length : Int) + 1 < 2) := by
        cases ds with
        | nil => exact absurd rfl hn
        | cons a b => simp only [List.length_cons]; omega
      by_cases hw : ∃ w, x = .str w
      · obtain ⟨w, rfl⟩ := hw
        have ok : PyData.strOk w = true := hx
        rw [st_eq]
        by_cases h1 : w = "set"
        · subst h1
          by_cases hl : ds.length = 2
          · obtain ⟨a, b, rfl⟩ := two_of hl
            have e3 := l_int (d := a) hds.1 0 ((c : Int) - 1)
            have e4 := l_issum (d := b) hds.2.1 hk c
            rw [st2_set']
            cases q1 : isIn 0 ((c : Int) - 1) a <;> cases q2 : isSum c b <;> simp [e1, e2, isTupB, isStrB, atI, ixN, e3, e4, q1, q2]
          · have hn : ¬ ((ds.length : Int) + 1 = 3) := by omega
            simp [e1, e2, isTupB, isStrB, atI, ixN, z0, hn, st2_set hl]
        by_cases h2 : w = "say"
        · subst h2
          by_cases hl : ds.length = 1
          · obtain ⟨a, rfl⟩ := one_of hl
            have e4 := l_issum (d := a) hds.1 hk c
            rw [st2_say']
            cases q2 : isSum c a <;> simp [e1, e2, isTupB, isStrB, atI, ixN, e4, q2]
          · have hn : ¬ ((ds.length : Int) + 1 = 2) := by omega
            simp [e1, e2, isTupB, isStrB, atI, ixN, z0, hn, st2_say hl]
        by_cases h3 : w = "call"
        · subst h3
          by_cases hl : ds.length = 1
          · obtain ⟨a, rfl⟩ := one_of hl
            have e4 := l_int (d := a) hds.1 0 ((r : Int) - 1)
            rw [st2_call']
            cases q2 : isIn 0 ((r : Int) - 1) a <;> simp [e1, e2, isTupB, isStrB, atI, ixN, e4, q2]
          · have hn : ¬ ((ds.length : Int) + 1 = 2) := by omega
            simp [e1, e2, isTupB, isStrB, atI, ixN, z0, hn, st2_call hl]
        have gi : gIn true (.val (.str w)) (.own (.lst [.s (.str "if"), .s (.str "while")])) = _ := gin2l true w "if" "while"
        have ga : ∀ (a b : Bool), gAll [.own (.lst [.s (.bl a), .s (.bl b)])] = some (.val (.bl (a && b))) := fun a b => by cases a <;> cases b <;> rfl
        have ga1 : ∀ (a : Bool), gAll [.own (.lst [.s (.bl a)])] = some (.val (.bl a)) := fun a => by cases a <;> rfl
        by_cases h4 : w = "if"
        · subst h4
          simp at gi
          by_cases hl : ds.length = 3
          · obtain ⟨t, a, b, rfl⟩ := three_of hl
            have e4 := l_istest (d := t) hds.1 hk c
            have e5 := ih a hds.2.1
            have e6 := ih b hds.2.2.1
            rw [st2_if']
            cases q : isTest c t <;> cases qa : g a <;> cases qb : g b <;> (rw [qa] at e5; rw [qb] at e6; simp at e5 e6; simp [-List.map_map, e1, e2, isTupB, isStrB, atI, ixN, e4, q, e5, e6, gi, lc_cons, lc_nil, ga, cut, HT.sIx])
          · have hn : ¬ ((ds.length : Int) + 1 = 4) := by omega
            simp [e1, e2, isTupB, isStrB, atI, ixN, z0, hn, gi, st2_if hl]
        by_cases h5 : w = "while"
        · subst h5
          simp at gi
          by_cases hl : ds.length = 2
          · obtain ⟨t, a, rfl⟩ := two_of hl
            have e4 := l_istest (d := t) hds.1 hk c
            have e5 := ih a hds.2.1
            rw [st2_while']
            cases q : isTest c t <;> cases qa : g a <;> (rw [qa] at e5; simp at e5; simp [-List.map_map, e1, e2, isTupB, isStrB, atI, ixN, e4, q, e5, gi, lc_cons, lc_nil, ga1, cut, HT.sIx])
          · have hn : ¬ ((ds.length : Int) + 1 = 3) := by omega
            simp [e1, e2, isTupB, isStrB, atI, ixN, z0, hn, gi, st2_while hl]
        · have eo : st2 c r g w ds = none := by
            unfold st2
            rw [if_neg h1, if_neg h2, if_neg h3, if_neg h4, if_neg h5]
          have gi : gIn true (.val (.str w)) (.own (.lst [.s (.str "if"), .s (.str "while")])) = some (.val (.bl true)) := by rw [gi, decide_eq_false h4, decide_eq_false h5]; rfl
          simp [e1, e2, isTupB, isStrB, atI, ixN, z0, eo, ok, h1, h2, h3, gi]
      · have hi : isStrB x = false := by cases x <;> simp [isStrB] at hw ⊢
        have hs : st c r g (.tup (x :: ds)) = none := by cases x <;> simp [st] at hw ⊢
        simp [e1, e2, isTupB, hi, hs, atI, ixN, z0]
  · have hi : isTupB d = false := by cases d <;> simp [isTupB] at hd ⊢
    have hs : st c r g d = none := by cases d <;> simp [st] at hd ⊢
    simp [e1, hi, hs]
end L3
namespace L3
open PySem L2
theorem sts_some {f : D → Option Nat} : ∀ {ds : List D}, (sts f ds).isSome = ds.all fun d => (f d).isSome
  | [] => rfl
  | d :: ds => by
    rw [sts_cons, List.all_cons, ← sts_some]
    cases f d <;> cases sts f ds <;> rfl
theorem l_body (k c r : Nat) (hk : k ≤ 1000) : ∀ (m : Nat), m ≤ 8 → ∀ {d : D}, U k d → f__law_is_body (m + 1) [.s d, .s (.int c), .s (.int r), .s (.int (9 - (m : Int)))] = .ok (.s (.bl (sz c r m d).isSome)) [.s d, .s (.int c), .s (.int r), .s (.int (9 - (m : Int)))] := by
  intro m
  induction m with
  | zero =>
    intro _ d h
    have e1 := isU_tup h
    show runDef [] 1 (b__law_is_body _) _ = _
    unfold b__law_is_body
    cases q : isTupB d <;> simp [e1, q, sz]
  | succ m ih =>
    intro hm d h
    have e1 := isU_tup h
    have h8 : ¬ (8 : Int) < 9 - ((m + 1 : Nat) : Int) := by omega
    show runDef [] 1 (b__law_is_body (runDef [] 1 (b__law_is_statement f__law_int f__law_is_sum f__law_is_test (f__law_is_body (m + 1))))) _ = _
    have hstat : ∀ {x : D}, U k x → runDef [] 1 (b__law_is_statement f__law_int f__law_is_sum f__law_is_test (f__law_is_body (m + 1))) [.s x, .s (.int c), .s (.int r), .s (.int (9 - ((m + 1 : Nat) : Int)))] = .ok (.s (.bl (st c r (sz c r m) x).isSome)) [.s x, .s (.int c), .s (.int r), .s (.int (9 - ((m + 1 : Nat) : Int)))] := fun {x} hx => by
      have q := l_stat (f__law_is_body (m + 1)) (sz c r m) k c r (9 - (m + 1)) hk (fun y hy => by
        have := ih (by omega) hy
        rw [show (((9 - (m + 1) : Nat) : Int) + 1) = 9 - (m : Int) by omega]
        exact this) hx
      rw [show ((9 - (m + 1) : Nat) : Int) = 9 - ((m + 1 : Nat) : Int) by omega] at q
      exact q
    by_cases hd : ∃ ds, d = .tup ds
    · obtain ⟨ds, rfl⟩ := hd
      generalize hfs : runDef [] 1 (b__law_is_statement f__law_int f__law_is_sum f__law_is_test (f__law_is_body (m + 1))) = fs at hstat
      generalize hq : (9 - ((m + 1 : Nat) : Int)) = q at h8 hstat
      have es : sz c r (m + 1) (.tup ds) = sts (st c r (sz c r m)) ds := rfl
      have hl : ds.length ≤ 16777216 := Nat.le_trans h.1 (by omega)
      obtain ⟨e', k1, x, rfl⟩ := lc_map (vs := [4]) (set := setT [4]) (f := e1__law_is_body fs) (F := fun x => D.bl (st c r (sz c r m) x).isSome) (I := fun e => ∃ x : Option O, e = [some (.s (.tup ds)), some (.s (.int c)), some (.s (.int r)), some (.s (.int q)), x])
        ds [some (.s (.tup ds)), some (.s (.int c)), some (.s (.int r)), some (.s (.int q)), none]
        (by
          rintro e d ⟨x, rfl⟩ hd
          have e2 := hstat (Us.mem h.2 d hd)
          refine ⟨_, _, rfl, ?_, some (.s d), rfl⟩
          unfold e1__law_is_body
          simp [e2]) ⟨none, rfl⟩
      rw [lcb] at k1
      have e3 : gAll [.own (.lst (((ds.map fun x => (st c r (sz c r m) x).isSome).map D.bl).map O.s))] = some (.val (.bl ((ds.map fun x => (st c r (sz c r m) x).isSome).all id))) := ev_gAllL
      have e4 : (ds.map fun x => (st c r (sz c r m) x).isSome).all id = ds.all fun x => (st c r (sz c r m) x).isSome := by rw [List.all_map]; rfl
      rw [e4, ← sts_some] at e3
      generalize hbs : (ds.map fun x => (st c r (sz c r m) x).isSome).map D.bl = bs at k1 e3
      have hb : bs.length ≤ 16777216 := by rw [← hbs, List.length_map, List.length_map]; exact hl
      rw [es]
      unfold b__law_is_body
      simp [-List.map_map, h8, e1, isTupB, hl, hb, k1, e3]
    · have hi : isTupB d = false := by cases d <;> simp [isTupB] at hd ⊢
      have hs : sz c r (m + 1) d = none := by cases d <;> simp [sz] at hd ⊢
      unfold b__law_is_body
      simp [h8, e1, hi, hs]
theorem l_size {c r : Nat} {d : D} {n : Nat} (h : sz c r 8 d = some n) : f__law_size 20 [.s d] = .ok (.s (.int (n : Nat))) [.s d] := by
  obtain ⟨j, b, hj, rfl, h2, h3, rfl⟩ := sz_dec h
  exact p_size 19 b (Sm.deps_mono b j 19 h2 (by omega))
theorem l_wrong {k : Nat} (hk : k ≤ 1000) {a b : D} (ha : U k a) (hb : U k b) : f__law_wrong [.s a, .s b] = .ok (.s (wrongD a b)) [.s a, .s b] := by
  have e1 := l_int ha 1 4
  have e2 := isU_tup hb
  unfold f__law_wrong b__law_wrong
  by_cases hc : ∃ c : Int, a = .int c ∧ 1 ≤ c ∧ c ≤ 4
  · obtain ⟨c, rfl, c1, c2⟩ := hc
    obtain ⟨c, rfl⟩ : ∃ n : Nat, c = (n : Int) := ⟨c.toNat, by omega⟩
    have e1 : f__law_int [.s (.int (c : Int)), .s (.int 1), .s (.int 4)] = .ok (.s (.bl true)) [.s (.int (c : Int)), .s (.int 1), .s (.int 4)] := by rw [e1]; simp [isIn, c1, c2]
    by_cases hd : ∃ ds, b = .tup ds
    · obtain ⟨ds, rfl⟩ := hd
      by_cases hl : 1 ≤ ds.length ∧ ds.length ≤ 5
      · have ew : wrongD (.int (c : Int)) (.tup ds) = badAt c ds.length 0 ds := by
          rw [wrong_tt, if_pos ⟨c1, c2⟩, if_pos hl, Int.toNat_natCast]
        have h3 : (1 : Int) ≤ ds.length := by omega
        have h4 : (ds.length : Int) ≤ 5 := by omega
        obtain ⟨fl, e', k1, k2⟩ := for_ret (set := setTup [2, 3]) (g := e1__law_wrong f__law_int (f__law_is_body 9) (f__law_size 20))
          (I := fun xs e => ∃ (j : Nat) (ys : List D) (x y : Option O), xs = enumD j ys ∧ Us k ys ∧ e = [some (.s (.int c)), some (.s (.tup ds)), x, y] ∧ badAt c ds.length 0 ds = badAt c ds.length j ys)
          (R := fun fl e => ∃ (x y : Option O), e = [some (.s (.int c)), some (.s (.tup ds)), x, y] ∧ ((fl = .nx ∧ badAt c ds.length 0 ds = .non) ∨ fl = .ret (.val (badAt c ds.length 0 ds))))
          (by
            rintro e ⟨j, ys, x, y, h1, _, rfl, h2⟩
            cases ys with
            | nil => exact ⟨x, y, rfl, .inl ⟨rfl, h2⟩⟩
            | cons y ys => simp [enumD] at h1)
          (by
            rintro d xs e ⟨j, ys, x, y, h1, hu, rfl, h2⟩
            cases ys with
            | nil => simp [enumD] at h1
            | cons w ys =>
              simp only [enumD, List.cons.injEq] at h1
              obtain ⟨rfl, rfl⟩ := h1
              have e3 := l_body k c ds.length hk 8 (by omega) hu.1
              have e3 : f__law_is_body 9 [.s w, .s (.int c), .s (.int ds.length), .s (.int 1)] = .ok (.s (.bl (sz c ds.length 8 w).isSome)) [.s w, .s (.int c), .s (.int ds.length), .s (.int 1)] := e3
              refine ⟨_, rfl, ?_⟩
              rw [badAt_cons] at h2
              cases qs : sz c ds.length 8 w with
              | none =>
                rw [qs] at e3 h2
                dsimp only at h2
                right
                refine ⟨.val (.tup [.str "routine", .int (j : Nat)]), [some (.s (.int c)), some (.s (.tup ds)), some (.s (.int j)), some (.s w)], ?_, _, _, rfl, .inr (by rw [h2])⟩
                unfold e1__law_wrong
                simp at e3
                simp [e3]
              | some n =>
                have e4 := l_size qs
                rw [qs] at e3 h2
                dsimp only at h2
                simp at e3
                by_cases hn : n ≤ 38
                · have hn2 : ¬ ((38 : Int) < (n : Int)) := by omega
                  rw [if_pos hn] at h2
                  left
                  refine ⟨[some (.s (.int c)), some (.s (.tup ds)), some (.s (.int j)), some (.s w)], ?_, j + 1, ys, _, _, rfl, hu.2, rfl, h2⟩
                  unfold e1__law_wrong
                  simp [e3, e4, hn2]
                · have hn2 : ((38 : Int) < (n : Int)) := by omega
                  rw [if_neg hn] at h2
                  right
                  refine ⟨.val (.tup [.str "routine", .int (j : Nat)]), [some (.s (.int c)), some (.s (.tup ds)), some (.s (.int j)), some (.s w)], ?_, _, _, rfl, .inr (by rw [h2])⟩
                  unfold e1__law_wrong
                  simp [e3, e4, hn2])
          (enumD 0 ds) [some (.s (.int c)), some (.s (.tup ds)), none, none] ⟨0, ds, none, none, rfl, hb.2, rfl, rfl⟩
        obtain ⟨x, y, rfl, k3⟩ := k2
        rw [ew]
        rcases k3 with ⟨rfl, k4⟩ | rfl
        · rw [k4]
          simp [e1, e2, isTupB, h3, h4, k1]
        · generalize badAt c ds.length 0 ds = B at k1
          simp [e1, e2, isTupB, h3, h4, k1]
      · have ew : wrongD (.int (c : Int)) (.tup ds) = .tup [.str "routines"] := by
          rw [wrong_tt, if_pos ⟨c1, c2⟩, if_neg hl]
        rw [ew]
        by_cases h3 : (1 : Int) ≤ ds.length
        · have h4 : ¬ ((ds.length : Int) ≤ 5) := by omega
          simp [e1, e2, isTupB, h3, h4]
        · simp [e1, e2, isTupB, h3]
    · have hi : isTupB b = false := by cases b <;> simp [isTupB] at hd ⊢
      have ew : wrongD (.int (c : Int)) b = .tup [.str "routines"] := by
        cases b <;> first | (exfalso; exact hd ⟨_, rfl⟩) | (show (if 1 ≤ (c : Int) ∧ (c : Int) ≤ 4 then _ else _) = _; rw [if_pos ⟨c1, c2⟩])
      rw [ew]
      simp [e1, e2, hi]
  · have hi : isIn 1 4 a = false := by
      cases a with
      | int i =>
        cases q : isIn 1 4 (.int i) with
        | false => rfl
        | true =>
          exfalso
          simp [isIn] at q
          exact hc ⟨i, rfl, q.1, q.2⟩
      | _ => rfl
    have ew : wrongD a b = .tup [.str "cells"] := by
      cases a with
      | int i =>
        have hn : ¬ (1 ≤ i ∧ i ≤ 4) := fun z => hc ⟨i, rfl, z.1, z.2⟩
        cases b <;> first | (rw [wrong_tt, if_neg hn]) | (show (if 1 ≤ i ∧ i ≤ 4 then _ else _) = _; rw [if_neg hn])
      | _ => cases b <;> rfl
    rw [ew]
    simp [e1, hi]
end L3
namespace L3
open PySem L2
@[simp] theorem nm_cr : ((Str.ofString "cells") = (Str.ofString "routines")) = False := eq_false (by decide +kernel)
def bookO (a b : D) : O := .ins 0 ["cells", "routines"] [.s a, .s b]
def bookD (a b : D) : D := .ins 0 ["cells", "routines"] [a, b]
theorem c_book {k : Nat} (hk : k ≤ 1000) {a b : D} (ha : U k a) (hb : U k b) (h : wrongD a b = .non) : f_Book___init__ [.ins 0 [] [], .s a, .s b] = .ok (.s .non) [bookO a b, .s a, .s b] := by
  have e1 := c_wrong hk ha hb
  rw [h] at e1
  unfold f_Book___init__ b_Book___init__ bookO
  simp [-List.map_map, e1]
theorem c_bookX {k : Nat} (hk : k ≤ 1000) {a b : D} (ha : U k a) (hb : U k b) {l : List D} (h : wrongD a b = .tup l) : f_Book___init__ [.ins 0 [] [], .s a, .s b] = .exc 4 [.tup l] [.ins 0 [] [], .s a, .s b] := by
  have e1 := c_wrong hk ha hb
  rw [h] at e1
  have e2 : gIs true (.val (.tup l)) (.val .non) = some (.val (.bl true)) := rfl
  unfold f_Book___init__ b_Book___init__
  simp [-List.map_map, e1, e2, msRaise1]
  rfl
def Same (n : Nat) (d : D) : Prop := f__law_is n [.s d, .s d] = .ok (.s (.bl true)) [.s d, .s d]
theorem eqb (b : Bool) : gEq (.val (.bl b)) (.val (.bl b)) = some (.val (.bl true)) := by
  cases b <;> rfl
theorem neb (b : Bool) : gNe (.val (.bl b)) (.val (.bl b)) = some (.val (.bl false)) := by
  cases b <;> rfl
@[simp] theorem kbs_int : kitBs "int" ["tuple", "list"] = some false := by decide +kernel
@[simp] theorem kbs_str : kitBs "str" ["tuple", "list"] = some false := by decide +kernel
@[simp] theorem kbs_non : kitBs "NoneType" ["tuple", "list"] = some false := by decide +kernel
@[simp] theorem kbs_tup : kitBs "tuple" ["tuple", "list"] = some true := by decide +kernel
@[simp] theorem kbs_lst : kitBs "list" ["tuple", "list"] = some true := by decide +kernel
theorem same_int (n : Nat) (i : Int) : Same (n + 1) (.int i) := by
  have e := isU_bl (k := 0) (d := .int i) trivial
  show runDef [] 2 (b__law_is (f__law_is n)) _ = _
  unfold b__law_is
  simp [e, eqb, neb, D.tn, D.plain]
theorem same_str (n : Nat) (s : Str) (hs : PyData.strOk s = true) : Same (n + 1) (.str s) := by
  have e := isU_bl (k := 0) (d := .str s) hs
  show runDef [] 2 (b__law_is (f__law_is n)) _ = _
  unfold b__law_is
  simp [e, eqb, neb, hs, D.tn, D.plain]
theorem eq_non : gEq (.val .non) (.val .non) = some (.val (.bl true)) := by rfl
theorem same_non (n : Nat) : Same (n + 1) .non := by
  have e := isU_bl (k := 0) (d := .non) trivial
  show runDef [] 2 (b__law_is (f__law_is n)) _ = _
  unfold b__law_is
  simp [e, eqb, neb, eq_non, D.tn, D.plain]
theorem zip_self : ∀ (ds : List D), zipD ds ds = ds.map fun d => .tup [d, d]
  | [] => rfl
  | d :: ds => by
    show D.tup [d, d] :: zipD ds ds = _
    rw [zip_self ds]
    rfl
theorem all_true {α : Type} (l : List α) : (l.map fun _ => true).all id = true := by simp
theorem same_tup (n : Nat) (ds : List D) (h : ∀ d ∈ ds, Same n d) (hl : ds.length ≤ 100000) : Same (n + 1) (.tup ds) := by
  obtain ⟨e', k1, x, y, rfl⟩ := lc_map (vs := [2, 3]) (set := setTup [2, 3]) (f := e1__law_is (f__law_is n)) (F := fun _ => D.bl true) (I := fun e => ∃ x y : Option O, e = [some (.s (.tup ds)), some (.s (.tup ds)), x, y])
    (zipD ds ds) [some (.s (.tup ds)), some (.s (.tup ds)), none, none]
    (by
      rintro e d ⟨x, y, rfl⟩ hd
      rw [zip_self] at hd
      obtain ⟨z, hz, rfl⟩ := List.mem_map.mp hd
      have e2 : f__law_is n [.s z, .s z] = _ := h z hz
      refine ⟨_, _, rfl, ?_, some (.s z), some (.s z), rfl⟩
      unfold e1__law_is
      simp [e2]) ⟨none, none, rfl⟩
  have e1 : (zipD ds ds).map (fun _ => D.bl true) = ((zipD ds ds).map fun _ => true).map D.bl := by rw [List.map_map]; rfl
  rw [e1] at k1
  have e3 : gAll [.own (.lst ((((zipD ds ds).map fun _ => true).map D.bl).map O.s))] = some (.val (.bl true)) := by rw [ev_gAllL, all_true]
  have hz : (zipD ds ds).length ≤ 16777216 := by rw [zip_self, List.length_map]; omega
  generalize ((zipD ds ds).map fun _ => true).map D.bl = bb at k1 e3
  have e : gIsiX [0, 1] [.val (.tup ds), .val (.ty "tuple")] = some (.val (.bl true)) := by
    simp [gIsiX, isiD, D.plain, D.tn, Rt.isSl, Rt.d]
  show runDef [] 2 (b__law_is (f__law_is n)) _ = _
  unfold b__law_is
  simp [-List.map_map, e, eqb, neb, hz, k1, e3]
theorem same_lst (n : Nat) (ds : List D) (h : ∀ d ∈ ds, Same n d) (hl : ds.length ≤ 100000) : Same (n + 1) (.lst ds) := by
  obtain ⟨e', k1, x, y, rfl⟩ := lc_map (vs := [2, 3]) (set := setTup [2, 3]) (f := e1__law_is (f__law_is n)) (F := fun _ => D.bl true) (I := fun e => ∃ x y : Option O, e = [some (.s (.lst ds)), some (.s (.lst ds)), x, y])
    (zipD ds ds) [some (.s (.lst ds)), some (.s (.lst ds)), none, none]
    (by
      rintro e d ⟨x, y, rfl⟩ hd
      rw [zip_self] at hd
      obtain ⟨z, hz, rfl⟩ := List.mem_map.mp hd
      have e2 : f__law_is n [.s z, .s z] = _ := h z hz
      refine ⟨_, _, rfl, ?_, some (.s z), some (.s z), rfl⟩
      unfold e1__law_is
      simp [e2]) ⟨none, none, rfl⟩
  have e1 : (zipD ds ds).map (fun _ => D.bl true) = ((zipD ds ds).map fun _ => true).map D.bl := by rw [List.map_map]; rfl
  rw [e1] at k1
  have e3 : gAll [.own (.lst ((((zipD ds ds).map fun _ => true).map D.bl).map O.s))] = some (.val (.bl true)) := by rw [ev_gAllL, all_true]
  have hz : (zipD ds ds).length ≤ 16777216 := by rw [zip_self, List.length_map]; omega
  generalize ((zipD ds ds).map fun _ => true).map D.bl = bb at k1 e3
  have e : gIsiX [0, 1] [.val (.lst ds), .val (.ty "tuple")] = some (.val (.bl false)) := by
    simp [gIsiX, isiD, D.plain, D.tn, Rt.isSl, Rt.d, kb_list_tuple]
  show runDef [] 2 (b__law_is (f__law_is n)) _ = _
  unfold b__law_is
  simp [-List.map_map, e, eqb, neb, hz, k1, e3]
theorem same_ints (n : Nat) (l : List Int) (hl : l.length ≤ 100000) : Same (n + 2) (.tup (l.map D.int)) := same_tup (n + 1) _ (fun d hd => by
  obtain ⟨i, _, rfl⟩ := List.mem_map.mp hd
  exact same_int n i) (by rw [List.length_map]; exact hl)
theorem same_test (n : Nat) {c : Nat} (k : Bool) (l m : List Int) (h : lin c l) (h2 : lin c m) (hc : c ≤ 8) : Same (n + 3) (tstD k l m) := by
  refine same_tup (n + 2) _ (fun d hd => ?_) (by simp)
  rcases List.mem_cons.mp hd with rfl | hd
  · refine same_str (n + 1) _ ?_
    cases k <;> simp
  rcases List.mem_cons.mp hd with rfl | hd
  · exact same_ints n l (by rw [h.1]; omega)
  · obtain rfl := List.mem_singleton.mp hd
    exact same_ints n m (by rw [h2.1]; omega)
mutual
theorem same_sm {c r : Nat} (hc : c ≤ 8) : ∀ (j : Nat) (s : Sm), s.ok c r → s.dep j → s.size ≤ 100000 → ∀ n, 2 * j + 4 ≤ n → Same n s.enc
  | j, .set x l, h, _, _, n, hn => by
    obtain ⟨n, rfl⟩ : ∃ m, n = m + 4 := ⟨n - 4, by omega⟩
    simp only [Sm.enc]
    refine same_tup (n + 3) _ (fun d hd => ?_) (by simp)
    rcases List.mem_cons.mp hd with rfl | hd
    · exact same_str (n + 2) _ (by simp)
    rcases List.mem_cons.mp hd with rfl | hd
    · exact same_int (n + 2) _
    · obtain rfl := List.mem_singleton.mp hd
      exact same_ints (n + 1) l (by rw [h.2.1]; omega)
  | j, .say l, h, _, _, n, hn => by
    obtain ⟨n, rfl⟩ : ∃ m, n = m + 4 := ⟨n - 4, by omega⟩
    simp only [Sm.enc]
    refine same_tup (n + 3) _ (fun d hd => ?_) (by simp)
    rcases List.mem_cons.mp hd with rfl | hd
    · exact same_str (n + 2) _ (by simp)
    · obtain rfl := List.mem_singleton.mp hd
      exact same_ints (n + 1) l (by rw [h.1]; omega)
  | j, .call x, h, _, _, n, hn => by
    obtain ⟨n, rfl⟩ : ∃ m, n = m + 4 := ⟨n - 4, by omega⟩
    simp only [Sm.enc]
    refine same_tup (n + 3) _ (fun d hd => ?_) (by simp)
    rcases List.mem_cons.mp hd with rfl | hd
    · exact same_str (n + 2) _ (by simp)
    · obtain rfl := List.mem_singleton.mp hd
      exact same_int (n + 2) _
  | j, .ifs k l l' a b, h, hd, hs, n, hn => by
    obtain ⟨m, rfl, d1, d2⟩ := hd
    obtain ⟨n, rfl⟩ : ∃ m, n = m + 4 := ⟨n - 4, by omega⟩
    simp only [Sm.size] at hs
    simp only [Sm.enc]
    refine same_tup (n + 3) _ (fun d hd => ?_) (by simp)
    rcases List.mem_cons.mp hd with rfl | hd
    · exact same_str (n + 2) _ (by simp)
    rcases List.mem_cons.mp hd with rfl | hd
    · exact same_test n k l l' h.1 h.2.1 hc
    rcases List.mem_cons.mp hd with rfl | hd
    · exact same_tup (n + 2) _ (same_sms hc m a h.2.2.1 d1 (by omega) (n + 2) (by omega)) (by rw [Sm.encs_len]; have := Sm.len_size a; omega)
    · obtain rfl := List.mem_singleton.mp hd
      exact same_tup (n + 2) _ (same_sms hc m b h.2.2.2 d2 (by omega) (n + 2) (by omega)) (by rw [Sm.encs_len]; have := Sm.len_size b; omega)
  | j, .wh k l l' a, h, hd, hs, n, hn => by
    obtain ⟨m, rfl, d1⟩ := hd
    obtain ⟨n, rfl⟩ : ∃ m, n = m + 4 := ⟨n - 4, by omega⟩
    simp only [Sm.size] at hs
    simp only [Sm.enc]
    refine same_tup (n + 3) _ (fun d hd => ?_) (by simp)
    rcases List.mem_cons.mp hd with rfl | hd
    · exact same_str (n + 2) _ (by simp)
    rcases List.mem_cons.mp hd with rfl | hd
    · exact same_test n k l l' h.1 h.2.1 hc
    · obtain rfl := List.mem_singleton.mp hd
      exact same_tup (n + 2) _ (same_sms hc m a h.2.2 d1 (by omega) (n + 2) (by omega)) (by rw [Sm.encs_len]; have := Sm.len_size a; omega)
theorem same_sms {c r : Nat} (hc : c ≤ 8) : ∀ (j : Nat) (b : List Sm), Sm.oks c r b → Sm.deps j b → Sm.sizes b ≤ 100000 → ∀ n, 2 * j + 4 ≤ n → ∀ d ∈ Sm.encs b, Same n d
  | j, [], _, _, _, n, _ => by intro d hd; simp [Sm.encs] at hd
  | j, s :: b, h, hd, hs, n, hn => by
    simp only [Sm.sizes] at hs
    intro d hm
    simp only [Sm.encs] at hm
    rcases List.mem_cons.mp hm with rfl | hm
    · exact same_sm hc j s h.1 hd.1 (by omega) n hn
    · exact same_sms hc j b h.2 hd.2 (by omega) n hn d hm
end
end L3
namespace L3
open PySem L2
theorem badAt_cases {c r : Nat} : ∀ {ds : List D} {j : Nat}, (badAt c r j ds = .non ∧ ∀ d ∈ ds, ∃ n, sz c r 8 d = some n ∧ n ≤ 38) ∨ ∃ i : Nat, badAt c r j ds = .tup [.str "routine", .int (i : Nat)]
  | [], j => .inl ⟨rfl, fun d hd => by simp at hd⟩
  | d :: ds, j => by
    rw [badAt_cons]
    cases q : sz c r 8 d with
    | none => exact .inr ⟨j, rfl⟩
    | some n =>
      dsimp only
      by_cases hn : n ≤ 38
      · rw [if_pos hn]
        rcases badAt_cases (ds := ds) (j := j + 1) with ⟨h1, h2⟩ | ⟨i, h⟩
        · refine .inl ⟨h1, fun x hx => ?_⟩
          rcases List.mem_cons.mp hx with rfl | hx
          · exact ⟨n, q, hn⟩
          · exact h2 x hx
        · exact .inr ⟨i, h⟩
      · rw [if_neg hn]
        exact .inr ⟨j, rfl⟩
theorem wrong_cases (a b : D) : (wrongD a b = .non ∧ ∃ (c : Nat) (ds : List D), a = .int (c : Nat) ∧ b = .tup ds ∧ (1 ≤ c ∧ c ≤ 4) ∧ (1 ≤ ds.length ∧ ds.length ≤ 5) ∧ ∀ d ∈ ds, ∃ n, sz c ds.length 8 d = some n ∧ n ≤ 38) ∨
    wrongD a b = .tup [.str "cells"] ∨ wrongD a b = .tup [.str "routines"] ∨ ∃ i : Nat, wrongD a b = .tup [.str "routine", .int (i : Nat)] := by
  cases a with
  | int c =>
    cases b with
    | tup ds =>
      rw [wrong_tt]
      by_cases hc : 1 ≤ c ∧ c ≤ 4
      · rw [if_pos hc]
        by_cases hl : 1 ≤ ds.length ∧ ds.length ≤ 5
        · rw [if_pos hl]
          obtain ⟨c, rfl⟩ : ∃ n : Nat, c = (n : Int) := ⟨c.toNat, by omega⟩
          rw [Int.toNat_natCast]
          rcases badAt_cases (c := c) (r := ds.length) (ds := ds) (j := 0) with ⟨h1, h2⟩ | h
          · exact .inl ⟨h1, c, ds, rfl, rfl, by omega, hl, h2⟩
          · exact .inr (.inr (.inr h))
        · rw [if_neg hl]; exact .inr (.inr (.inl rfl))
      · rw [if_neg hc]; exact .inr (.inl rfl)
    | _ =>
      right
      by_cases hc : 1 ≤ c ∧ c ≤ 4
      · right; left
        show (if 1 ≤ c ∧ c ≤ 4 then _ else _) = _
        rw [if_pos hc]
      · left
        show (if 1 ≤ c ∧ c ≤ 4 then _ else _) = _
        rw [if_neg hc]
  | _ => right; left; cases b <;> rfl
theorem wrong_tup {a b : D} (h : wrongD a b ≠ .non) : ∃ l, wrongD a b = .tup l ∧ ∀ n, Same (n + 2) (.tup l) := by
  have w1 : ∀ n, Same (n + 2) (.tup [.str "cells"]) := fun n => same_tup (n + 1) _ (fun d hd => by
    obtain rfl := List.mem_singleton.mp hd
    exact same_str n _ (by decide +kernel)) (by simp)
  have w2 : ∀ n, Same (n + 2) (.tup [.str "routines"]) := fun n => same_tup (n + 1) _ (fun d hd => by
    obtain rfl := List.mem_singleton.mp hd
    exact same_str n _ (by decide +kernel)) (by simp)
  rcases wrong_cases a b with ⟨q, _⟩ | q | q | ⟨i, q⟩
  · exact absurd q h
  · exact ⟨_, q, w1⟩
  · exact ⟨_, q, w2⟩
  · refine ⟨_, q, fun n => same_tup (n + 1) _ (fun d hd => ?_) (by simp)⟩
    rcases List.mem_cons.mp hd with rfl | hd
    · exact same_str n _ (by decide +kernel)
    · obtain rfl := List.mem_singleton.mp hd
      exact same_int n _
theorem same_wrong (a b : D) (n : Nat) : Same (n + 2) (wrongD a b) := by
  by_cases h : wrongD a b = .non
  · rw [h]; exact same_non (n + 1)
  · obtain ⟨l, e, q⟩ := wrong_tup h
    rw [e]; exact q n
theorem same_parts {a b : D} (h : wrongD a b = .non) : Same 30 (.lst [a, b]) := by
  rcases wrong_cases a b with ⟨_, c, ds, rfl, rfl, hc, hl, hd⟩ | q | q | ⟨i, q⟩
  · refine same_lst 29 _ (fun d hm => ?_) (by simp)
    rcases List.mem_cons.mp hm with rfl | hm
    · exact same_int 28 _
    · obtain rfl := List.mem_singleton.mp hm
      refine same_tup 28 _ (fun d hm => ?_) (by omega)
      obtain ⟨n, hn, hn2⟩ := hd d hm
      obtain ⟨j, p, hj, rfl, p1, p2, p3⟩ := sz_dec hn
      exact same_tup 27 _ (same_sms (by omega) j p p2 p1 (by omega) 27 (by omega)) (by rw [Sm.encs_len]; have := Sm.len_size p; omega)
  · rw [h] at q; cases q
  · rw [h] at q; cases q
  · rw [h] at q; cases q
noncomputable def tryG : MS := msSeq (msSet 2 (mStl (mMake [] 0 3 f_Book___init__ (mCons [] (mVar 0) (mCons [] (mVar 1) mNil)))))
      (msSet 3 (mIf (mTest (mCall [] 2 (f__law_is 30) (mCons [] (mStl (mN gLst (mCons [] (m1 (gAttr [0] "cells") (mVar 2)) (mCons [] (m1 (gAttr [0] "routines") (mVar 2)) mNil)))) (mCons [] (mStl (mN gLst (mCons [] (mVar 0) (mCons [] (mVar 1) mNil)))) mNil)))) (mC .non) (mC (.str "other"))))
theorem told {k : Nat} (hk : k ≤ 1000) {a b : D} (ha : U k a) (hb : U k b) : f__law_told_part [.s a, .s b] = .ok (.s (wrongD a b)) [.s a, .s b] := by
  unfold f__law_told_part
  show runK [] [.s a, .s b] (msSeq (msTryAs [4] 4 tryG (g2X fun d_ => (msSet 3 (mIf (tmAnd (mTest (mC (.bl true))) (mTest (mC (.bl true)))) (mC d_) (mC (.str "other")))))) (msRet (mVar 3)) [some (.s a), some (.s b), none, none, none]) = _
  by_cases h : wrongD a b = .non
  · have e1 := c_book hk ha hb h
    have e2 : f__law_is 30 [.s (.lst [a, b]), .s (.lst [a, b])] = .ok (.s (.bl true)) [.s (.lst [a, b]), .s (.lst [a, b])] := same_parts h
    rw [h]
    have k1 : tryG [some (.s a), some (.s b), none, none, none] = .ok .nx [some (.s a), some (.s b), some (.s (bookD a b)), some (.s .non), none] := by
      unfold tryG
      simp [-List.map_map, e1, e2, bookO, bookD]
    simp [-ev_run, msTryAs, k1]
  · obtain ⟨l, hw, _⟩ := wrong_tup h
    have e1 := c_bookX hk ha hb hw
    rw [hw]
    have k1 : tryG [some (.s a), some (.s b), none, none, none] = .exc 4 [.tup l] [some (.s a), some (.s b), none, none, none] := by
      unfold tryG
      simp [-List.map_map, e1]
      rfl
    simp [-ev_run, msTryAs, k1, g2X, isNo]
end L3
namespace L3
open PySem L2
theorem Us.app {k : Nat} {a b : List D} (ha : Us k a) (hb : Us k b) : Us k (a ++ b) := Us.of fun d hd => by
  rcases List.mem_append.mp hd with h | h
  · exact ha.mem d h
  · exact hb.mem d h
theorem Us.cut {k : Nat} {a : List D} (ha : Us k a) (lo hi : Option Int) : Us k (L3.cut a lo hi) := Us.of fun d hd => ha.mem d (cut_sub _ _ _ d hd)
theorem Us.rev {k : Nat} {a : List D} (ha : Us k a) : Us k a.reverse := Us.of fun d hd => ha.mem d (by simpa using hd)
theorem p_nested {h : O} (hh : Hd h) : ∃ h' d, f__law_nested [h] = .ok (.s d) [h'] ∧ Hd h' ∧ U 3 d := by
  obtain ⟨h1, w, e1, hh1, hw⟩ := hh.any (ds := [.tup [], .int 0, .str "a", .non]) (by simp) (by simp)
  have uw : U 3 w := by
    simp at hw
    rcases hw with rfl | rfl | rfl | rfl
    · exact ⟨by simp, trivial⟩
    · trivial
    · show PyData.strOk _ = true; decide +kernel
    · trivial
  obtain ⟨e', k1, d, x, rfl, ud, _⟩ := for_inv (set := setT [2]) (g := e1__law_nested f__law_any)
    (I := fun ds e => ∃ (d : D) (x : Option O), e = [some h1, some (.s d), x] ∧ U 3 d ∧ ∀ y ∈ ds, ∃ i : Int, y = .int i ∧ 0 ≤ i ∧ i < 24)
    (by
      rintro y ds e ⟨d, x, rfl, ud, hds⟩
      obtain ⟨i, rfl, i0, i1⟩ := hds y (by simp)
      have hc : cMod i 5 = true := by simp [cMod]
      by_cases q : i % 5 = 4
      · refine ⟨_, [some h1, some (.s (.lst [d])), some (.s (.int i))], rfl, ?_, .lst [d], _, rfl, ⟨ud, trivial⟩, fun y hy => hds y (by simp [hy])⟩
        unfold e1__law_nested
        simp [hc, q]
      · refine ⟨_, [some h1, some (.s (.tup [d])), some (.s (.int i))], rfl, ?_, .tup [d], _, rfl, ⟨by simp, ud, trivial⟩, fun y hy => hds y (by simp [hy])⟩
        unfold e1__law_nested
        simp [hc, q]) (rngD 0 24) [some h1, some (.s w), none] ⟨w, none, rfl, uw, fun y hy => by
          unfold rngD at hy
          obtain ⟨i, hi, rfl⟩ := List.mem_map.mp hy
          have := List.mem_range.mp hi
          exact ⟨_, rfl, by omega, by omega⟩⟩
  have hrg : ∀ e : Env, rg1K (.ok [.val (.int 24)] e) = .ok ⟨rngD 0 24, none⟩ e := fun e => (rg1_is (by omega) (by omega)).trans rfl
  refine ⟨h1, d, ?_, hh1, ud⟩
  unfold f__law_nested b__law_nested
  simp [e1, hrg, k1]
def odd1 (ch : D) : List D := [.non, .bl true, .bl false, .int 0, .int 1, .int (-1), .int 1001, .int (-1000), .str "say", .str "less", .str "if", .tup [], .lst [], .dt [] [], .tup [.int 0], .tup [.int 0, .int 0], .int 10000000000000000000, ch]
def odd2 : List D := [.tup [.tup [.str "say", .tup [.int 0, .int 0]]], .tup [.str "say", .tup [.int 0, .int 0]], .tup [.str "call", .int 0], .tup [.str "set", .int 0, .tup [.int 0, .int 0]]]
theorem odd_g1 (ch : D) : gAdd (.bor 2 [] (.lst ((odd1 ch).map O.s))) (.own (.lst (odd2.map O.s))) = some (.own (.lst ((odd1 ch ++ odd2).map O.s))) := rfl
theorem odd_g2 (ch w : D) : gAdd (.bor 2 [] (.lst ((odd1 ch ++ odd2).map O.s))) (.own (.lst ([w].map O.s))) = some (.own (.lst ((odd1 ch ++ odd2 ++ [w]).map O.s))) := rfl
theorem p_odd {h : O} (hh : Hd h) {ch : D} (hch : U 3 ch) : ∃ h' d, f__law_odd [h, .s ch] = .ok (.s d) [h', .s ch] ∧ Hd h' ∧ U 3 d := by
  obtain ⟨h1, w, e1, hh1, uw⟩ := p_nested hh
  obtain ⟨h2, d, e2, hh2, hd⟩ := hh1.any (ds := [.non, .bl true, .bl false, .int 0, .int 1, .int (-1), .int 1001, .int (-1000), .str "say", .str "less", .str "if", .tup [], .lst [], .dt [] [], .tup [.int 0], .tup [.int 0, .int 0], .int 10000000000000000000, ch,
    .tup [.tup [.str "say", .tup [.int 0, .int 0]]], .tup [.str "say", .tup [.int 0, .int 0]], .tup [.str "call", .int 0], .tup [.str "set", .int 0, .tup [.int 0, .int 0]], w]) (by simp) (by simp)
  refine ⟨h2, d, ?_, hh2, ?_⟩
  · unfold f__law_odd b__law_odd
    have g1 := odd_g1 ch
    have g2 := odd_g2 ch w
    simp only [odd1, odd2, List.map_cons, List.map_nil, List.cons_append, List.nil_append] at g1 g2
    simp [cPow2, log10, e1, e2, g1, g2, O.d, O.ds]
  · simp at hd
    rcases hd with rfl | rfl | rfl | rfl | rfl | rfl | rfl | rfl | rfl | rfl | rfl | rfl | rfl | rfl | rfl | rfl | rfl | rfl | rfl | rfl | rfl | rfl | rfl <;>
      first | exact hch | exact uw | (simp [U, Us]; done)
end L3
namespace L3
open PySem L2
theorem cutTo {α : Type} (xs : List α) (x : Nat) (h : x ≤ xs.length) : cut xs none (some (x : Int)) = xs.take x := by
  unfold cut
  rw [HT.sIx_none, HT.sIx_nat, Nat.sub_zero, List.drop_zero, Nat.min_eq_left h]
theorem cutFrom {α : Type} (xs : List α) (x : Nat) : cut xs (some (x : Int)) none = xs.drop x := by
  unfold cut
  rw [HT.sIx_none, HT.sIx_nat]
  by_cases h : x ≤ xs.length
  · rw [Nat.min_eq_left h]
    exact List.take_of_length_le (by rw [List.length_drop]; exact Nat.le_refl _)
  · rw [Nat.min_eq_right (by omega), List.drop_eq_nil_of_le (Nat.le_refl _), List.take_nil, List.drop_eq_nil_of_le (by omega)]
theorem cutMid {α : Type} (xs : List α) (x y : Nat) (h : x ≤ y) : cut xs (some (x : Int)) (some (y : Int)) = (xs.drop x).take (y - x) := by
  unfold cut
  rw [HT.sIx_nat, HT.sIx_nat]
  by_cases h2 : x ≤ xs.length
  · rw [Nat.min_eq_left h2]
    by_cases h3 : y ≤ xs.length
    · rw [Nat.min_eq_left h3]
    · rw [Nat.min_eq_right (by omega), List.take_of_length_le (by rw [List.length_drop]; exact Nat.le_refl _), List.take_of_length_le (by rw [List.length_drop]; omega)]
  · rw [Nat.min_eq_right (show xs.length ≤ x by omega), Nat.min_eq_right (show xs.length ≤ y by omega), List.drop_eq_nil_of_le (Nat.le_refl _), List.take_nil, List.drop_eq_nil_of_le (by omega), List.take_nil]
def FlatO (o : O) (d : D) : Prop := o = .s d ∨ ∃ ds : List D, o = .lst (ds.map O.s) ∧ d = .lst ds
theorem dsMap : ∀ ds : List D, O.ds (ds.map O.s) = ds
  | [] => rfl
  | d :: ds => by
    show d :: O.ds (ds.map O.s) = _
    rw [dsMap ds]
theorem FlatO.stl {o : O} {d : D} (h : FlatO o d) (e : Env) : stlK (.ok o.rr e) = .ok (.val d) e := by
  rcases h with rfl | ⟨ds, rfl, rfl⟩
  · rfl
  · show (Rs.ok (Rt.val (D.lst (O.ds (ds.map O.s)))) e : Rs Rt) = _
    rw [dsMap]
theorem atI_nat {ds : List D} {a : Nat} (h : a < ds.length) : atI ds (a : Int) = some ds[a] := by
  unfold atI ixN
  have h1 : ¬ ((a : Int) < 0) := by omega
  have h2 : (a : Int) < ds.length := by omega
  simp [h]
theorem p_bent {k : Nat} (hk : k ≤ 100) {odd : D} (hod : U (k + 1) odd) : ∀ (n deep : Nat), deep ≤ n → ∀ {h : O}, Hd h → ∀ {th : D}, U k th → ∃ h' o d, f__law_bent (n + 1) [h, .s th, .s odd, .s (.int deep)] = .ok o [h', .s th, .s odd, .s (.int deep)] ∧ Hd h' ∧ FlatO o d ∧ U (k + 1) d := by
  intro n
  induction n with
  | zero =>
    intro deep hdp h hh th hth
    obtain rfl : deep = 0 := by omega
    have e1 := isU_tup hth
    refine ⟨h, .s odd, odd, ?_, hh, .inl rfl, hod⟩
    show runDef [0] 2 (b__law_bent f__law_draw _) _ = _
    unfold b__law_bent
    by_cases hd : ∃ ds, th = .tup ds
    · obtain ⟨ds, rfl⟩ := hd
      by_cases z : ds = []
      · subst z; simp [e1, isTupB]
      · simp [e1, isTupB, z]
    · have hi : isTupB th = false := by cases th <;> simp [isTupB] at hd ⊢
      simp [e1, hi]
  | succ n ih =>
    intro deep hdp h hh th hth
    have e1 := isU_tup hth
    show ∃ h' o d, runDef [0] 2 (b__law_bent f__law_draw (f__law_bent (n + 1))) _ = _ ∧ _
    unfold b__law_bent
    by_cases hd : ∃ ds, th = .tup ds
    · obtain ⟨ds, rfl⟩ := hd
      by_cases z : ds.length = 0
      · obtain rfl := List.eq_nil_of_length_eq_zero z
        exact ⟨h, .s odd, odd, by simp [e1, isTupB], hh, .inl rfl, hod⟩
      have z0 : ¬ ds = [] := fun q => z (by rw [q]; rfl)
      by_cases zd : deep = 0
      · subst zd
        exact ⟨h, .s odd, odd, by simp [e1, isTupB, z0], hh, .inl rfl, hod⟩
      have zd0 : ¬ ((deep : Int) = 0) := by omega
      have zdn := zd
      obtain ⟨h1, v, e2, hh1, _, _⟩ := hh.draw (many := 8) (by decide) (by decide)
      by_cases zv : v = 0
      · subst zv
        exact ⟨h1, .s odd, odd, by simp [e1, isTupB, z0, zd0, zdn, e2], hh1, .inl rfl, hod⟩
      have hl : ds.length ≤ 100 := Nat.le_trans hth.1 hk
      obtain ⟨h2, a, e3, hh2, a0, a1⟩ := hh1.draw (many := ds.length) (by omega) (by omega)
      obtain ⟨a, rfl⟩ : ∃ y : Nat, a = y := ⟨a.toNat, by omega⟩
      have ha : a < ds.length := by omega
      obtain ⟨h3, w, e4, hh3, w0, w1⟩ := hh2.draw (many := 12) (by decide) (by decide)
      have c1 : cut ds none (some (a : Int)) = ds.take a := cutTo ds a (by omega)
      have c2 : cut ds (some ((a : Int) + 1)) none = ds.drop (a + 1) := cutFrom ds (a + 1)
      have c3 : cut ds (some (a : Int)) (some ((a : Int) + 1)) = (ds.drop a).take 1 := by
        have := cutMid ds a (a + 1) (by omega)
        rw [Nat.add_sub_cancel_left] at this
        exact this
      have c4 : cut ds (some (a : Int)) none = ds.drop a := cutFrom ds a
      have c5 : cut ds (some (a : Int)) (some ((a : Int) + 2)) = (ds.drop a).take 2 := by
        have := cutMid ds a (a + 2) (by omega)
        rw [Nat.add_sub_cancel_left] at this
        exact this
      have c6 : cut ds (some ((a : Int) + 2)) none = ds.drop (a + 2) := cutFrom ds (a + 2)
      have hU : Us k ds := hth.2
      have uU : Us (k + 1) ds := Us.mono (by omega) ds hU
      have ut : ∀ m, Us (k + 1) (ds.take m) := fun m => Us.of fun d hd => uU.mem d (List.mem_of_mem_take hd)
      have ud : ∀ m, Us (k + 1) (ds.drop m) := fun m => Us.of fun d hd => uU.mem d (List.mem_of_mem_drop hd)
      have udt : ∀ m j, Us (k + 1) ((ds.drop m).take j) := fun m j => Us.of fun d hd => (ud m).mem d (List.mem_of_mem_take hd)
      have t1 : (ds.take a).length = a := by rw [List.length_take]; omega
      have t2 : (ds.drop (a + 1)).length = ds.length - (a + 1) := List.length_drop
      have t3 : ((ds.drop a).take 1).length = 1 := by rw [List.length_take, List.length_drop]; omega
      have t4 : (ds.drop a).length = ds.length - a := List.length_drop
      have t5 : ((ds.drop a).take 2).length ≤ 2 := by rw [List.length_take]; omega
      have t5b : ((ds.drop a).take 2).length ≤ ds.length - a := by rw [List.length_take, List.length_drop]; omega
      have t6 : (ds.drop (a + 2)).length = ds.length - (a + 2) := List.length_drop
      have hkk : ds.length ≤ k := hth.1
      have eat := atI_nat ha
      obtain ⟨m, rfl⟩ : ∃ m, deep = m + 1 := ⟨deep - 1, by omega⟩
      obtain ⟨h4, o, x, e5, hh4, fo, ux⟩ := ih m (by omega) hh3 (hU.mem ds[a] (List.getElem_mem ha))
      have e5 : f__law_bent (n + 1) [h3, .s ds[a], .s odd, .s (.int (((m + 1 : Nat) : Int) - 1))] = .ok o [h4, .s ds[a], .s odd, .s (.int (((m + 1 : Nat) : Int) - 1))] := by
        rw [show ((m + 1 : Nat) : Int) - 1 = (m : Int) by omega]; exact e5
      have est := fo.stl
      generalize hdp1 : ((m + 1 : Nat) : Int) = dp at e5 zd0
      generalize ds[a] = y at e5 eat
      have uA := ut a
      have uB := ud (a + 1)
      have uC := udt a 1
      have uD := ud a
      have uE := udt a 2
      have uF := ud (a + 2)
      generalize ds.take a = A at c1 t1 uA
      generalize ds.drop (a + 1) = B at c2 t2 uB
      generalize (ds.drop a).take 1 = C3 at c3 t3 uC
      generalize (ds.drop a).take 2 = E at c5 t5 t5b uE
      generalize ds.drop a = G at c4 t4 uD
      generalize ds.drop (a + 2) = F at c6 t6 uF
      have i1 : (A.length : Int) + (B.length : Int) = (A.length : Int) + (B.length : Int) := rfl
      have b1 : A.length + B.length ≤ 16777216 := by omega
      have b2 : A.length + C3.length ≤ 16777216 := by omega
      have b3 : A.length + C3.length + G.length ≤ 16777216 := by omega
      have b4 : A.length + E.length ≤ 16777216 := by omega
      have b5 : A.length + E.length + F.length ≤ 16777216 := by omega
      have b6 : A.length + 1 ≤ 16777216 := by omega
      have b7 : A.length + 1 + B.length ≤ 16777216 := by omega
      have b8 : A.length + (C3.length + G.length) ≤ 16777216 := by omega
      have b9 : A.length + (E.length + F.length) ≤ 16777216 := by omega
      have b10 : A.length + (B.length + 1) ≤ 16777216 := by omega
      have gr : gRevT (.val (.tup E)) = some (.val (.tup E.reverse)) := rfl
      by_cases w0' : w = 0
      · subst w0'
        refine ⟨h3, .s (.tup (A ++ B)), .tup (A ++ B), ?_, hh3, .inl rfl, by rw [List.length_append]; omega, uA.app uB⟩
        simp [e1, isTupB, z0, zd0, zdn, e2, zv, e3, e4, c1, c2, b1]
      by_cases w1' : w = 1
      · subst w1'
        refine ⟨h3, .s (.tup (A ++ C3 ++ G)), .tup (A ++ C3 ++ G), ?_, hh3, .inl rfl, by rw [List.length_append, List.length_append]; omega, (uA.app uC).app uD⟩
        simp [e1, isTupB, z0, zd0, zdn, e2, zv, e3, e4, c1, c3, c4, b2, b3, b8]
      by_cases w2' : w = 2
      · subst w2'
        refine ⟨h3, .s (.tup (A ++ E.reverse ++ F)), .tup (A ++ E.reverse ++ F), ?_, hh3, .inl rfl, by rw [List.length_append, List.length_append, List.length_reverse]; omega, (uA.app uE.rev).app uF⟩
        simp [e1, isTupB, z0, zd0, zdn, e2, zv, e3, e4, c1, c5, c6, gr, b4, b5, b9]
      by_cases w3' : w = 3
      · subst w3'
        refine ⟨h3, .lst (ds.map O.s), .lst ds, ?_, hh3, .inr ⟨ds, rfl, rfl⟩, uU⟩
        simp [-List.map_map, e1, isTupB, z0, zd0, zdn, e2, zv, e3, e4]
      · refine ⟨h4, .s (.tup (A ++ [x] ++ B)), .tup (A ++ [x] ++ B), ?_, hh4, .inl rfl, by rw [List.length_append, List.length_append, List.length_singleton]; omega, (uA.app (show Us (k + 1) [x] from ⟨ux, trivial⟩)).app uB⟩
        simp [e1, isTupB, z0, zd0, zdn, e2, zv, e3, e4, w0', w1', w2', w3', c1, c2, eat, e5, est, b6, b7, b10]
    · have hi : isTupB th = false := by cases th <;> simp [isTupB] at hd ⊢
      exact ⟨h, .s odd, odd, by simp [e1, hi], hh, .inl rfl, hod⟩
end L3
namespace L3
open PySem L2
theorem us_rep {k : Nat} {d : D} (h : U k d) (n : Nat) : Us k (List.replicate n [d]).flatten := Us.of fun x hx => by
  obtain ⟨l, hl, hx⟩ := List.mem_flatten.mp hx
  obtain rfl := List.eq_of_mem_replicate hl
  obtain rfl := List.mem_singleton.mp hx
  exact h
theorem len_rep {d : D} (n : Nat) : (List.replicate n [d]).flatten.length = n := by simp
theorem mul_rep {k : Nat} {d : D} (h : U k d) (i : Int) (h2 : 2 ≤ i) (h3 : i ≤ 60) : ∃ R, gMul (.val (.tup [d])) (.val (.int i)) = some (.val (.tup R)) ∧ R.length ≤ 60 ∧ Us k R := by
  refine ⟨(List.replicate i.toNat [d]).flatten, ?_, by rw [len_rep]; omega, us_rep h _⟩
  show (if [d] ≠ [] ∧ 2 ≤ i ∧ i ≤ 1000 ∧ [d].length ≤ 1000 then _ else _) = _
  rw [if_pos ⟨by simp, h2, by omega, by simp⟩]
theorem p_deep {h : O} (hh : Hd h) (d : Int) (d0 : 1 ≤ d) (d1 : d ≤ 20) : ∃ h' b, f__law_deep_body [h, .s (.int d)] = .ok (.s b) [h', .s (.int d)] ∧ Hd h' ∧ U 9 b := by
  obtain ⟨e', k1, h1, b, x, y, rfl, hh1, ub⟩ := for_inv (set := setT [3]) (g := e1__law_deep_body f__law_any)
    (I := fun ds e => ∃ (h : O) (b : D) (x y : Option O), e = [some h, some (.s (.int d)), some (.s b), x, y] ∧ Hd h ∧ U 9 b)
    (by
      rintro i ds e ⟨h, b, x, y, rfl, hh, ub⟩
      obtain ⟨h', w, e1, hh', hw⟩ := hh.any (ds := [.tup [.tup [.str "while", .tup [.str "less", .tup [.int 0, .int 0], .tup [.int 1, .int 0]], b]], .tup [.tup [.str "if", .tup [.str "less", .tup [.int 0, .int 0], .tup [.int 1, .int 0]], b, .tup []]],
        .tup [.tup [.str "if", .tup [.str "less", .tup [.int 0, .int 0], .tup [.int 1, .int 0]], .tup [], b]]]) (by simp) (by simp)
      refine ⟨_, [some h', some (.s (.int d)), some (.s w), some (.s i), some (.s (.tup [.str "less", .tup [.int 0, .int 0], .tup [.int 1, .int 0]]))], rfl, ?_, h', w, _, _, rfl, hh', ?_⟩
      · unfold e1__law_deep_body
        simp [e1]
      · simp at hw
        rcases hw with rfl | rfl | rfl <;> simp [U, Us, ub])
    (rngD 0 (d - 1).toNat) [some h, some (.s (.int d)), some (.s (.tup [.tup [.str "say", .tup [.int 0, .int 1]]])), none, none] ⟨h, _, none, none, rfl, hh, by simp [U, Us]⟩
  have hrg : ∀ e : Env, rg1K (.ok [.val (.int (d - 1))] e) = .ok ⟨rngD 0 (d - 1).toNat, none⟩ e := fun e => rg1_is (by omega) (by omega)
  have q : (d - 1).toNat = d.toNat - 1 := by omega
  rw [q] at k1
  refine ⟨h1, b, ?_, hh1, ub⟩
  unfold f__law_deep_body b__law_deep_body
  simp [hrg, k1]
def PairU (d : D) : Prop := ∃ a b, d = .tup [a, b] ∧ U 100 a ∧ U 100 b
theorem p_known {h : O} (hh : Hd h) : ∃ h' row, f__law_known_parts [h] = .ok (.s (.tup row)) [h'] ∧ Hd h' ∧ row.length ≤ 100 ∧ ∀ d ∈ row, PairU d := by
  obtain ⟨h1, v1, e1, hh1, a1, b1⟩ := hh.draw (many := 3) (by decide) (by decide)
  obtain ⟨h2, v2, e2, hh2, a2, b2⟩ := hh1.draw (many := 3) (by decide) (by decide)
  obtain ⟨h3, v3, e3, hh3, a3, b3⟩ := hh2.draw (many := 3) (by decide) (by decide)
  obtain ⟨h4, bd, e4, hh4, ubd⟩ := p_deep hh3 (7 + v2) (by omega) (by omega)
  obtain ⟨h5, v5, e5, hh5, a5, b5⟩ := hh4.draw (many := 2) (by decide) (by decide)
  obtain ⟨h6, v6, e6, hh6, a6, b6⟩ := hh5.draw (many := 2) (by decide) (by decide)
  obtain ⟨h7, v7, e7, hh7, a7, b7⟩ := hh6.draw (many := 2) (by decide) (by decide)
  obtain ⟨h8, v8, e8, hh8, a8, b8⟩ := hh7.draw (many := 3) (by decide) (by decide)
  obtain ⟨h9, v9, e9, hh9, a9, b9⟩ := hh8.draw (many := 2) (by decide) (by decide)
  have us : U 100 (.tup [.str "say", .tup [.int 0, .int 1]]) := by simp [U, Us]
  have uc : U 100 (.tup [.str "call", .int 0]) := by simp [U, Us]
  obtain ⟨R1, m1, l1, u1⟩ := mul_rep us (38 + v1) (by omega) (by omega)
  obtain ⟨R2, m2, l2, u2⟩ := mul_rep us 17 (by omega) (by omega)
  obtain ⟨R3, m3, l3, u3⟩ := mul_rep uc (18 + v3) (by omega) (by omega)
  obtain ⟨R4, m4, l4, u4⟩ := mul_rep (k := 100) (d := .tup []) ⟨by simp, trivial⟩ (5 + v5) (by omega) (by omega)
  have ubd : U 100 bd := ubd.mono (by omega)
  refine ⟨h9, [.tup [.int 1, .tup [.tup R1]], .tup [.int 1, .tup [bd]], .tup [.int 1, .tup [.tup [.tup [.str "if", .tup [.str "same", .tup [.int 0, .int 0], .tup [.int 0, .int 0]], .tup R2, .tup R3]]]],
    .tup [.int 4, .tup R4], .tup [.int (4 + v6), .tup [.tup []]], .tup [.int v7, .tup [.tup []]],
    .tup [.int 1, .tup [.tup [.tup [.str "set", .int 0, .tup [.int (999 + v8), .int (-(999 + v8))]]]]], .tup [.int 2, .tup [.tup [.tup [.str "call", .int (1 + v9)]], .tup []]]], ?_, hh9, by simp, ?_⟩
  · unfold f__law_known_parts b__law_known_parts
    simp [e1, e2, e3, e4, e5, e6, e7, e8, e9, m1, m2, m3, m4]
  · intro d hd
    simp only [List.mem_cons, List.not_mem_nil, or_false] at hd
    rcases hd with rfl | rfl | rfl | rfl | rfl | rfl | rfl | rfl <;> refine ⟨_, _, rfl, trivial, ?_⟩ <;> simp [U, Us, u1, u2, u3, u4, ubd] <;> omega
end L3
namespace L3
open PySem L2
def ARR : D := .tup [.tup [.int 0, .int 1]]
def RND : D := .tup [.tup [.int 0], .tup [.int 1]]
def PRC : D := .tup [.int 1]
theorem n_within (i lo hi : Int) : f_is_within [.s (.int i), .s (.int lo), .s (.int hi)] = .ok (.s (.bl (decide (lo ≤ i) && decide (i ≤ hi)))) [.s (.int i), .s (.int lo), .s (.int hi)] := c_within (k := 0) (d := .int i) trivial lo hi
theorem isT (ds : List D) : gIsiX [0, 1] [.val (.tup ds), .val (.ty "tuple")] = some (.val (.bl true)) := by
  simp [gIsiX, isiD, D.plain, D.tn, Rt.isSl, Rt.d]
theorem n_sized (ds : List D) (lo hi : Int) : f_is_sized [.s (.tup ds), .s (.int lo), .s (.int hi)] = .ok (.s (.bl (decide (lo ≤ ds.length) && decide ((ds.length : Int) ≤ hi)))) [.s (.tup ds), .s (.int lo), .s (.int hi)] := by
  have e := isT ds
  unfold f_is_sized b_is_sized
  by_cases h : lo ≤ ds.length <;> simp [e, h]
theorem n_arrow : f_is_arrow [.s (.tup [.int 0, .int 1]), .s (.int 2)] = .ok (.s (.bl true)) [.s (.tup [.int 0, .int 1]), .s (.int 2)] := by
  have e := isT [.int 0, .int 1]
  have p : f_is_pair [.s (.tup [.int 0, .int 1])] = .ok (.s (.bl true)) [.s (.tup [.int 0, .int 1])] := by
    unfold f_is_pair b_is_pair
    simp [e]
  have e2 := n_within 0 0 1
  have e3 := n_within 1 0 1
  unfold f_is_arrow b_is_arrow
  simp [p, atI, ixN, e2, e3]
theorem sort1 (i : Int) : gSortI [.val (.tup [.int i])] = some (.own (.lst [.s (.int i)])) := by
  have : sortI [i] = [i] := (sortI_is (List.Perm.refl _) (by simp)).symm
  simp [gSortI, Rt.items, intsOf, this]
theorem n_round (i : Int) (hi : i = 0 ∨ i = 1) : f_is_round [.s (.tup [.int i]), .s (.lst [.int i])] = .ok (.s (.bl true)) [.s (.tup [.int i]), .s (.lst [.int i])] := by
  have e1 := n_sized [.int i] 1 1
  have e2 := c_isint (k := 0) (d := .int i) trivial
  have ga1 : ∀ (a : Bool), gAll [.own (.lst [.s (.bl a)])] = some (.val (.bl a)) := fun a => by cases a <;> rfl
  have eq1 : gEq (.own (.lst [.s (.int i)])) (.val (.lst [.int i])) = some (.val (.bl true)) := by
    rcases hi with rfl | rfl <;> rfl
  unfold f_is_round b_is_round e1_is_round
  simp [-List.map_map, e1, e2, isIB, isBlB, lc_cons, lc_nil, ga1, sort1, eq1]
theorem n_ends0 : f_ends_at [.s ARR, .s (.int 0)] = .ok (.lst [.s (.int 0)]) [.s ARR, .s (.int 0)] := by
  rfl
theorem n_ends1 : f_ends_at [.s ARR, .s (.int 1)] = .ok (.lst [.s (.int 1)]) [.s ARR, .s (.int 1)] := by
  rfl
theorem n_hang : f_hang_together [.s (.int 2), .s ARR] = .ok (.s (.bl true)) [.s (.int 2), .s ARR] := by
  have w : msWhile e2_hang_together e3_hang_together [some (.s (.int 2)), some (.s ARR), some (.lst [.s (.int 0)]), some (.s (.int 0)), none, none] = .ok .nx [some (.s (.int 2)), some (.s ARR), some (.lst [.s (.int 0), .s (.int 1)]), some (.s (.int 2)), some (.s (.int 0)), some (.s (.int 1))] :=
    msWhile_is (n := 5) (by rfl) (by simp)
  unfold f_hang_together b_hang_together
  simp [w]
theorem n_other (i : Int) (hi : i = 0 ∨ i = 1) : f_other_end [.s (.int i)] = .ok (.s (.int (1 - i))) [.s (.int i)] := by
  rcases hi with rfl | rfl <;> rfl
theorem forL_nx {set : D → Env → Option Env} {g : MS} {d : D} {ds : List D} {e e1 e2 : Env} (h1 : set d e = some e1) (h2 : g e1 = .ok .nx e2) : forL set g (d :: ds) e = forL set g ds e2 := by
  conv => lhs; unfold forL
  rw [h1]
  simp only [Rs.bind, h2]
def AH : D := .lst [.int 0, .int 1]
theorem n_walked : f_walked [.s AH, .s (.int 0)] = .ok (.lst [.s (.int 0), .s (.int 1)]) [.s AH, .s (.int 0)] := by
  have w : msWhile (e1_walked f_other_end) (e2_walked f_other_end) [some (.s AH), some (.s (.int 0)), some (.lst [.s (.int 0)]), some (.s (.int 1))] = .ok .nx [some (.s AH), some (.s (.int 0)), some (.lst [.s (.int 0), .s (.int 1)]), some (.s (.int 0))] :=
    msWhile_is (n := 5) (by rfl) (by simp)
  have e := n_other 0 (.inl rfl)
  have e2 : gIx (.val AH) (.val (.int 1)) = some (.val (.int 1)) := rfl
  unfold f_walked b_walked
  simp [e, e2, w]
  rfl
theorem n_befores : f_befores [.s RND, .s (.int 2)] = .ok (.lst [.s (.int 0), .s (.int 1)]) [.s RND, .s (.int 2)] := by
  rfl
theorem n_begun (i : Int) (hi : i = 0 ∨ i = 1) : f_begun_least [.s (.tup [.int i])] = .ok (.s (.tup [.int i])) [.s (.tup [.int i])] := by
  rcases hi with rfl | rfl <;> rfl
def RIM : D := .tup [.int 0, .int 1]
theorem n_rims : f_rims_by [.s AH] = .ok (.lst [.s RIM]) [.s AH] := by
  have e := n_walked
  have k1 : forL (setT [3]) (e2_rims_by f_walked) [.int 0, .int 1] [some (.s AH), some (.lst []), some (.lst [.s (.bl false), .s (.bl false)]), none, none, none] = .ok .nx [some (.s AH), some (.lst [.s RIM]), some (.lst [.s (.bl true), .s (.bl true)]), some (.s (.int 1)), some (.lst [.s (.int 0), .s (.int 1)]), some (.s (.int 1))] := by
    generalize f_walked = fw at e
    have s1 : e2_rims_by fw [some (.s AH), some (.lst []), some (.lst [.s (.bl false), .s (.bl false)]), some (.s (.int 0)), none, none] = .ok .nx [some (.s AH), some (.lst [.s RIM]), some (.lst [.s (.bl true), .s (.bl true)]), some (.s (.int 0)), some (.lst [.s (.int 0), .s (.int 1)]), some (.s (.int 1))] := by
      have l1 : ∀ (x : Option O), forL (setT [5]) (e1_rims_by fw) [.int 0, .int 1] [some (.s AH), some (.lst []), some (.lst [.s (.bl false), .s (.bl false)]), some (.s (.int 0)), some (.lst [.s (.int 0), .s (.int 1)]), x] = .ok .nx [some (.s AH), some (.lst []), some (.lst [.s (.bl true), .s (.bl true)]), some (.s (.int 0)), some (.lst [.s (.int 0), .s (.int 1)]), some (.s (.int 1))] := fun x => rfl
      have g0 : gIx (.bor 2 [] (.lst [.s (.bl false), .s (.bl false)])) (.val (.int 0)) = some (.val (.bl false)) := rfl
      have l2 := l1 none
      unfold e2_rims_by
      simp [e, g0, l2]
      rfl
    have s2 : e2_rims_by fw [some (.s AH), some (.lst [.s RIM]), some (.lst [.s (.bl true), .s (.bl true)]), some (.s (.int 1)), some (.lst [.s (.int 0), .s (.int 1)]), some (.s (.int 1))] = .ok .nx [some (.s AH), some (.lst [.s RIM]), some (.lst [.s (.bl true), .s (.bl true)]), some (.s (.int 1)), some (.lst [.s (.int 0), .s (.int 1)]), some (.s (.int 1))] := rfl
    rw [forL_nx (e1 := [some (.s AH), some (.lst []), some (.lst [.s (.bl false), .s (.bl false)]), some (.s (.int 0)), none, none]) rfl s1, forL_nx (e1 := [some (.s AH), some (.lst [.s RIM]), some (.lst [.s (.bl true), .s (.bl true)]), some (.s (.int 1)), some (.lst [.s (.int 0), .s (.int 1)]), some (.s (.int 1))]) rfl s2]
    rfl
  have gm : gMul (.own (.lst [.s (.bl false)])) (.val (.int 2)) = some (.own (.lst [.s (.bl false), .s (.bl false)])) := rfl
  have gl : gLen [.val AH] = some (.val (.int 2)) := rfl
  have hrg : ∀ e : Env, rg1K (.ok [.val (.int 2)] e) = .ok ⟨[.int 0, .int 1], none⟩ e := fun e => rfl
  unfold f_rims_by b_rims_by
  generalize e2_rims_by f_walked = E2 at k1
  simp [gm, gl, hrg, k1]
  rfl
end L3
namespace L3
open PySem L2
def chartO : O := .ins 1 ["places", "arrows", "rounds", "prices", "ahead", "all_rims", "numbers", "outer"] [.s (.int 2), .s ARR, .s RND, .s PRC, .s AH, .s (.lst [RIM]), .lst [.s (.int 0), .s (.int 0)], .s (.int 0)]
theorem n_keep : f_Chart_keep [.ins 1 [] [], .s (.int 2), .s ARR, .s RND, .s (.int 0), .s PRC] = .ok (.s .non) [chartO, .s (.int 2), .s ARR, .s RND, .s (.int 0), .s PRC] := by
  have e := n_rims
  show runDef [0] 4 (b_Chart_keep f_begun_least f_befores f_rims_by) _ = _
  generalize f_rims_by = fr at e
  have q : runDef [0] 4 (b_Chart_keep f_begun_least f_befores fr) [.ins 1 [] [], .s (.int 2), .s ARR, .s RND, .s (.int 0), .s PRC] = runDef [0] 4 (b_Chart_keep f_begun_least f_befores (fun _ => fr [.s AH])) [.ins 1 [] [], .s (.int 2), .s ARR, .s RND, .s (.int 0), .s PRC] := by rfl
  rw [q, e]
  rfl
theorem n_check : f_check_parts [.s (.int 2), .s ARR, .s RND] = .ok (.s .non) [.s (.int 2), .s ARR, .s RND] := by
  have a1 := n_within 2 1 40
  have a2 := n_sized [.tup [.int 0, .int 1]] 1 80
  have a3 := n_sized [.tup [.int 0], .tup [.int 1]] 2 2
  have a4 := n_hang
  have k1 : forL (setTup [3, 4]) (e1_check_parts f_is_within f_is_sized f_is_arrow f_is_round f_ends_at f_hang_together) (enumD 0 [.tup [.int 0, .int 1]]) [some (.s (.int 2)), some (.s ARR), some (.s RND), none, none, none, none] = .ok .nx [some (.s (.int 2)), some (.s ARR), some (.s RND), some (.s (.int 0)), some (.s (.tup [.int 0, .int 1])), none, none] := by
    have e := n_arrow
    refine (forL_nx (e1 := [some (.s (.int 2)), some (.s ARR), some (.s RND), some (.s (.int 0)), some (.s (.tup [.int 0, .int 1])), none, none]) rfl ?_).trans rfl
    unfold e1_check_parts
    simp [e]
  have k2 : forL (setTup [5, 6]) (e2_check_parts f_is_within f_is_sized f_is_arrow f_is_round f_ends_at f_hang_together) (enumD 0 [.tup [.int 0], .tup [.int 1]]) [some (.s (.int 2)), some (.s ARR), some (.s RND), some (.s (.int 0)), some (.s (.tup [.int 0, .int 1])), none, none] = .ok .nx [some (.s (.int 2)), some (.s ARR), some (.s RND), some (.s (.int 0)), some (.s (.tup [.int 0, .int 1])), some (.s (.int 1)), some (.s (.tup [.int 1]))] := by
    have e := n_ends0
    have e' := n_ends1
    have e2 := n_round 0 (.inl rfl)
    have e3 := n_round 1 (.inr rfl)
    refine (forL_nx (e1 := [some (.s (.int 2)), some (.s ARR), some (.s RND), some (.s (.int 0)), some (.s (.tup [.int 0, .int 1])), some (.s (.int 0)), some (.s (.tup [.int 0]))]) (e2 := [some (.s (.int 2)), some (.s ARR), some (.s RND), some (.s (.int 0)), some (.s (.tup [.int 0, .int 1])), some (.s (.int 0)), some (.s (.tup [.int 0]))]) rfl ?_).trans ((forL_nx (e1 := [some (.s (.int 2)), some (.s ARR), some (.s RND), some (.s (.int 0)), some (.s (.tup [.int 0, .int 1])), some (.s (.int 1)), some (.s (.tup [.int 1]))]) rfl ?_).trans rfl)
    · unfold e2_check_parts
      simp [e, e2, O.d, O.ds]
    · unfold e2_check_parts
      simp [e', e3, O.d, O.ds]
  unfold f_check_parts b_check_parts
  unfold ARR RND at *
  simp [a1, a2, a3, a4, k1, k2]
theorem n_chart : f_Chart___init__ [.ins 1 [] [], .s (.int 2), .s ARR, .s RND, .s (.int 0), .s PRC] = .ok (.s .non) [chartO, .s (.int 2), .s ARR, .s RND, .s (.int 0), .s PRC] := by
  have e1 := n_rims
  have e2 := n_check
  have e3 := n_keep
  show runDef [0] 1 (b_Chart___init__ f_check_parts f_rims_by f_befores f_is_within f_is_sized f_is_price f_Chart_keep) _ = _
  generalize f_check_parts = fc at e2
  generalize f_Chart_keep = fk at e3
  generalize f_rims_by = fr at e1
  have q : runDef [0] 1 (b_Chart___init__ fc fr f_befores f_is_within f_is_sized f_is_price fk) [.ins 1 [] [], .s (.int 2), .s ARR, .s RND, .s (.int 0), .s PRC] =
    runDef [0] 1 (b_Chart___init__ (fun _ => fc [.s (.int 2), .s ARR, .s RND]) fr f_befores f_is_within f_is_sized f_is_price fk) [.ins 1 [] [], .s (.int 2), .s ARR, .s RND, .s (.int 0), .s PRC] := by
    rfl
  rw [q, e2]
  have q2 : runDef [0] 1 (b_Chart___init__ (fun _ => .ok (.s .non) [.s (.int 2), .s ARR, .s RND]) fr f_befores f_is_within f_is_sized f_is_price fk) [.ins 1 [] [], .s (.int 2), .s ARR, .s RND, .s (.int 0), .s PRC] =
    runDef [0] 1 (b_Chart___init__ (fun _ => .ok (.s .non) [.s (.int 2), .s ARR, .s RND]) (fun _ => fr [.s AH]) f_befores f_is_within f_is_sized f_is_price fk) [.ins 1 [] [], .s (.int 2), .s ARR, .s RND, .s (.int 0), .s PRC] := by
    rfl
  rw [q2, e1]
  have q3 : runDef [0] 1 (b_Chart___init__ (fun _ => .ok (.s .non) [.s (.int 2), .s ARR, .s RND]) (fun _ => .ok (.lst [.s RIM]) [.s AH]) f_befores f_is_within f_is_sized f_is_price fk) [.ins 1 [] [], .s (.int 2), .s ARR, .s RND, .s (.int 0), .s PRC] =
    runDef [0] 1 (b_Chart___init__ (fun _ => .ok (.s .non) [.s (.int 2), .s ARR, .s RND]) (fun _ => .ok (.lst [.s RIM]) [.s AH]) f_befores f_is_within f_is_sized f_is_price (fun _ => fk [.ins 1 [] [], .s (.int 2), .s ARR, .s RND, .s (.int 0), .s PRC])) [.ins 1 [] [], .s (.int 2), .s ARR, .s RND, .s (.int 0), .s PRC] := by
    rfl
  rw [q3, e3]
  rfl
end L3
namespace L3
open PySem L2
def Shp (n : Nat) (d : D) : Prop := ∃ p, d.py = some p ∧ p.canLay0 = true ∧ p.depth ≤ n
theorem shq_int (n : Nat) (i : Int) : Shp n (.int i) := ⟨.int i, by simp [D.py], by simp [PyData.canLay0], by simp [PyData.depth]⟩
theorem shq_str (n : Nat) {s : Str} (h : PyData.strOk s = true) : Shp n (.str s) := ⟨.str s, by simp [D.py], by simp [PyData.canLay0, h], by simp [PyData.depth]⟩
theorem shq_list {n : Nat} : ∀ {ds : List D}, (∀ d ∈ ds, Shp n d) → ∃ ps, D.pys ds = some ps ∧ PyData.canLayAll0 ps = true ∧ PyData.depthAll ps ≤ n
  | [], _ => ⟨[], by simp [D.pys], by simp [PyData.canLayAll0], by simp [PyData.depthAll]⟩
  | d :: ds, h => by
    obtain ⟨p, p1, p2, p3⟩ := h d (by simp)
    obtain ⟨ps, q1, q2, q3⟩ := shq_list (ds := ds) fun x hx => h x (by simp [hx])
    exact ⟨p :: ps, by simp [D.pys, p1, q1], by simp [PyData.canLayAll0, p2, q2], by simp only [PyData.depthAll]; omega⟩
theorem shq_tup {n : Nat} {ds : List D} (h : ∀ d ∈ ds, Shp n d) : Shp (n + 1) (.tup ds) := by
  obtain ⟨ps, q1, q2, q3⟩ := shq_list h
  exact ⟨.tuple ps, by simp [D.py, q1], by simp [PyData.canLay0, q2], by simp only [PyData.depth]; omega⟩
theorem shq_ints (n : Nat) (l : List Int) : Shp (n + 1) (.tup (l.map D.int)) := shq_tup fun d hd => by
  obtain ⟨i, _, rfl⟩ := List.mem_map.mp hd
  exact shq_int n i
theorem shq_test (n : Nat) (k : Bool) (l m : List Int) : Shp (n + 2) (tstD k l m) := by
  refine shq_tup fun d hd => ?_
  rcases List.mem_cons.mp hd with rfl | hd
  · refine shq_str _ ?_
    cases k <;> simp
  rcases List.mem_cons.mp hd with rfl | hd
  · exact shq_ints n l
  · obtain rfl := List.mem_singleton.mp hd
    exact shq_ints n m
mutual
theorem shq_sm : ∀ (j : Nat) (s : Sm), s.dep j → ∀ n, 2 * j + 4 ≤ n → Shp n s.enc
  | j, .set x l, _, n, hn => by
    obtain ⟨n, rfl⟩ : ∃ m, n = m + 4 := ⟨n - 4, by omega⟩
    simp only [Sm.enc]
    refine shq_tup (n := n + 3) fun d hd => ?_
    rcases List.mem_cons.mp hd with rfl | hd
    · exact shq_str _ (by simp)
    rcases List.mem_cons.mp hd with rfl | hd
    · exact shq_int _ _
    · obtain rfl := List.mem_singleton.mp hd
      exact shq_ints _ l
  | j, .say l, _, n, hn => by
    obtain ⟨n, rfl⟩ : ∃ m, n = m + 4 := ⟨n - 4, by omega⟩
    simp only [Sm.enc]
    refine shq_tup (n := n + 3) fun d hd => ?_
    rcases List.mem_cons.mp hd with rfl | hd
    · exact shq_str _ (by simp)
    · obtain rfl := List.mem_singleton.mp hd
      exact shq_ints _ l
  | j, .call x, _, n, hn => by
    obtain ⟨n, rfl⟩ : ∃ m, n = m + 4 := ⟨n - 4, by omega⟩
    simp only [Sm.enc]
    refine shq_tup (n := n + 3) fun d hd => ?_
    rcases List.mem_cons.mp hd with rfl | hd
    · exact shq_str _ (by simp)
    · obtain rfl := List.mem_singleton.mp hd
      exact shq_int _ _
  | j, .ifs k l l' a b, hd, n, hn => by
    obtain ⟨m, rfl, d1, d2⟩ := hd
    obtain ⟨n, rfl⟩ : ∃ m, n = m + 4 := ⟨n - 4, by omega⟩
    simp only [Sm.enc]
    refine shq_tup (n := n + 3) fun d hd => ?_
    rcases List.mem_cons.mp hd with rfl | hd
    · exact shq_str _ (by simp)
    rcases List.mem_cons.mp hd with rfl | hd
    · exact shq_test (n + 1) k l l'
    rcases List.mem_cons.mp hd with rfl | hd
    · exact shq_tup (shq_sms m a d1 (n + 2) (by omega))
    · obtain rfl := List.mem_singleton.mp hd
      exact shq_tup (shq_sms m b d2 (n + 2) (by omega))
  | j, .wh k l l' a, hd, n, hn => by
    obtain ⟨m, rfl, d1⟩ := hd
    obtain ⟨n, rfl⟩ : ∃ m, n = m + 4 := ⟨n - 4, by omega⟩
    simp only [Sm.enc]
    refine shq_tup (n := n + 3) fun d hd => ?_
    rcases List.mem_cons.mp hd with rfl | hd
    · exact shq_str _ (by simp)
    rcases List.mem_cons.mp hd with rfl | hd
    · exact shq_test (n + 1) k l l'
    · obtain rfl := List.mem_singleton.mp hd
      exact shq_tup (shq_sms m a d1 (n + 2) (by omega))
theorem shq_sms : ∀ (j : Nat) (b : List Sm), Sm.deps j b → ∀ n, 2 * j + 4 ≤ n → ∀ d ∈ Sm.encs b, Shp n d
  | j, [], _, n, _ => by intro d hd; simp [Sm.encs] at hd
  | j, s :: b, hd, n, hn => by
    intro d hm
    simp only [Sm.encs] at hm
    rcases List.mem_cons.mp hm with rfl | hm
    · exact shq_sm j s hd.1 n hn
    · exact shq_sms j b hd.2 n hn d hm
end
theorem shq_book {a b : D} (h : wrongD a b = .non) : Shp 40 a ∧ Shp 40 b := by
  rcases wrong_cases a b with ⟨_, c, ds, rfl, rfl, hc, hl, hd⟩ | q | q | ⟨i, q⟩
  · refine ⟨shq_int _ _, shq_tup (n := 39) fun d hm => ?_⟩
    obtain ⟨n, hn, hn2⟩ := hd d hm
    obtain ⟨j, p, hj, rfl, p1, p2, p3⟩ := sz_dec hn
    exact shq_tup (n := 38) (shq_sms j p p1 38 (by omega))
  · rw [h] at q; cases q
  · rw [h] at q; cases q
  · rw [h] at q; cases q
theorem shq_eq {x y : D} (hx : Shp 60 x) (hy : Shp 60 y) : ∃ p q, x.py = some p ∧ y.py = some q ∧ gEq (.val x) (.val y) = some (.val (.bl (PyData.eqv p q))) := by
  obtain ⟨p, p1, p2, p3⟩ := hx
  obtain ⟨q, q1, q2, q3⟩ := hy
  have sp : SeqAt.shaped p = true := by unfold SeqAt.shaped; rw [p2, decide_eq_true (by omega)]; rfl
  have sq : SeqAt.shaped q = true := by unfold SeqAt.shaped; rw [q2, decide_eq_true (by omega)]; rfl
  refine ⟨p, q, p1, q1, ?_⟩
  show (eqD x y).map _ = _
  unfold eqD
  rw [p1, q1]
  simp only [sp, sq, and_self, if_true, Option.map_some]
theorem Shp.up {m n : Nat} {d : D} (h : Shp m d) (hl : m ≤ n) : Shp n d := let ⟨p, a, b, c⟩ := h; ⟨p, a, b, Nat.le_trans c hl⟩
theorem parts_eq {a b a' b' : D} (ha : Shp 40 a) (hb : Shp 40 b) (ha' : Shp 40 a') (hb' : Shp 40 b') : ∃ x y : Bool, gEq (.val a) (.val a') = some (.val (.bl x)) ∧ gEq (.val b) (.val b') = some (.val (.bl y)) ∧
    gEq (.val (.tup [a, b])) (.val (.tup [a', b'])) = some (.val (.bl (x && y))) := by
  obtain ⟨p, p', e1, e2, g1⟩ := shq_eq (ha.up (by omega : 40 ≤ 60)) (ha'.up (by omega : 40 ≤ 60))
  obtain ⟨q, q', e3, e4, g2⟩ := shq_eq (hb.up (by omega : 40 ≤ 60)) (hb'.up (by omega : 40 ≤ 60))
  have s1 : Shp 60 (.tup [a, b]) := (shq_tup (n := 40) fun d hd => by
    rcases List.mem_cons.mp hd with rfl | hd
    · exact ha
    · obtain rfl := List.mem_singleton.mp hd; exact hb).up (by omega)
  have s2 : Shp 60 (.tup [a', b']) := (shq_tup (n := 40) fun d hd => by
    rcases List.mem_cons.mp hd with rfl | hd
    · exact ha'
    · obtain rfl := List.mem_singleton.mp hd; exact hb').up (by omega)
  obtain ⟨r, r', e5, e6, g3⟩ := shq_eq s1 s2
  refine ⟨_, _, g1, g2, ?_⟩
  rw [g3]
  simp [D.py, D.pys, e1, e3] at e5
  simp [D.py, D.pys, e2, e4] at e6
  subst e5 e6
  simp [PyData.eqv, PyData.eqvAll]
theorem U_ints {k : Nat} (l : List Int) (h : l.length ≤ k) : U k (.tup (l.map D.int)) := ⟨by rw [List.length_map]; exact h, Us.of fun d hd => by
  obtain ⟨i, _, rfl⟩ := List.mem_map.mp hd
  trivial⟩
theorem U_test {c : Nat} (k : Bool) (l m : List Int) (h : lin c l) (h2 : lin c m) (hc : c ≤ 8) : U 50 (tstD k l m) := by
  refine ⟨by simp, ?_, U_ints l (by rw [h.1]; omega), U_ints m (by rw [h2.1]; omega), trivial⟩
  cases k <;> simp [U]
mutual
theorem U_sm {c r : Nat} (hc : c ≤ 8) : ∀ (s : Sm), s.ok c r → s.size ≤ 50 → U 50 s.enc
  | .set x l, h, _ => by
    simp only [Sm.enc]
    exact ⟨by simp, by simp [U], trivial, U_ints l (by rw [h.2.1]; omega), trivial⟩
  | .say l, h, _ => by
    simp only [Sm.enc]
    exact ⟨by simp, by simp [U], U_ints l (by rw [h.1]; omega), trivial⟩
  | .call x, h, _ => by
    simp only [Sm.enc]
    exact ⟨by simp, by simp [U], trivial, trivial⟩
  | .ifs k l l' a b, h, hs => by
    simp only [Sm.size] at hs
    simp only [Sm.enc]
    exact ⟨by simp, by simp [U], U_test k l l' h.1 h.2.1 hc, ⟨by rw [Sm.encs_len]; have := Sm.len_size a; omega, U_sms hc a h.2.2.1 (by omega)⟩, ⟨by rw [Sm.encs_len]; have := Sm.len_size b; omega, U_sms hc b h.2.2.2 (by omega)⟩, trivial⟩
  | .wh k l l' a, h, hs => by
    simp only [Sm.size] at hs
    simp only [Sm.enc]
    exact ⟨by simp, by simp [U], U_test k l l' h.1 h.2.1 hc, ⟨by rw [Sm.encs_len]; have := Sm.len_size a; omega, U_sms hc a h.2.2 (by omega)⟩, trivial⟩
theorem U_sms {c r : Nat} (hc : c ≤ 8) : ∀ (b : List Sm), Sm.oks c r b → Sm.sizes b ≤ 50 → Us 50 (Sm.encs b)
  | [], _, _ => trivial
  | s :: b, h, hs => by
    simp only [Sm.sizes] at hs
    simp only [Sm.encs]
    exact ⟨U_sm hc s h.1 (by omega), U_sms hc b h.2 (by omega)⟩
end
theorem parts_right {c : Nat} {bs : List (List Sm)} (hc : 1 ≤ c ∧ c ≤ 4) (hr : 1 ≤ bs.length ∧ bs.length ≤ 5) (hb : ∀ b ∈ bs, BodyIs c bs.length b) : wrongD (.int (c : Nat)) (.tup (bs.map encB)) = .non ∧ U 50 (.tup (bs.map encB)) := by
  refine ⟨?_, by rw [List.length_map]; omega, Us.of fun d hd => ?_⟩
  · rw [wrong_tt, if_pos (by omega), if_pos (by rw [List.length_map]; exact hr), Int.toNat_natCast, List.length_map]
    rcases badAt_cases (c := c) (r := bs.length) (ds := bs.map encB) (j := 0) with ⟨h, _⟩ | ⟨i, h⟩
    · exact h
    · exfalso
      have key : ∀ (l : List (List Sm)) (j : Nat), (∀ b ∈ l, BodyIs c bs.length b) → badAt c bs.length j (l.map encB) = .non := by
        intro l
        induction l with
        | nil => intro j _; rfl
        | cons b l ih =>
          intro j hl
          obtain ⟨o, dp, s⟩ := hl b (by simp)
          have e : sz c bs.length 8 (encB b) = some (Sm.sizes b) := sz_enc 7 b o dp
          rw [List.map_cons, badAt_cons, e]
          dsimp only
          rw [if_pos (by omega)]
          exact ih (j + 1) fun b hb => hl b (by simp [hb])
      rw [key bs 0 hb] at h
      cases h
  · obtain ⟨b, hbm, rfl⟩ := List.mem_map.mp hd
    obtain ⟨o, dp, s⟩ := hb b hbm
    exact ⟨by rw [Sm.encs_len]; have := Sm.len_size b; omega, U_sms (by omega) b o (by omega)⟩
end L3
namespace L3
open PySem L2
def CH : D := .ins 1 ["places", "arrows", "rounds", "prices", "ahead", "all_rims", "numbers", "outer"] [.int 2, ARR, RND, PRC, AH, .lst [RIM], .lst [.int 0, .int 0], .int 0]
theorem chart_d : chartO.d = CH := rfl
theorem book_d (a b : D) : (bookO a b).d = bookD a b := rfl
theorem uCH (k : Nat) : U k CH := rfl
theorem calm_book {k : Nat} (hk : k ≤ 1000) {a b : D} (ha : U k a) (hb : U k b) (h : wrongD a b = .non) : calmF f_Book___init__ [.ins 0 [] [], .s a, .s b] = .ok (.s .non) [bookO a b, .s a, .s b] := by
  unfold calmF
  rw [c_book hk ha hb h]
theorem isi_bb (a b : D) : gIsiX [0, 1] [.val (bookD a b), .val (.cls 0)] = some (.val (.bl true)) := rfl
theorem isi_tb (ds : List D) : gIsiX [0, 1] [.val (.tup ds), .val (.cls 0)] = some (.val (.bl false)) := rfl
theorem isi_cb : gIsiX [0, 1] [.val CH, .val (.cls 0)] = some (.val (.bl false)) := rfl
theorem isi_bc (a b : D) : gIsiX [0, 1] [.val (bookD a b), .val (.cls 1)] = some (.val (.bl false)) := rfl
theorem att_c (a b : D) : gAttr [0] "cells" (.val (bookD a b)) = some (.val a) := by
  unfold bookD; simp
theorem att_r (a b : D) : gAttr [0] "routines" (.val (bookD a b)) = some (.val b) := by
  unfold bookD; simp
theorem eq_book {a b a' b' : D} {x y : Bool} (h1 : gEq (.val a) (.val a') = some (.val (.bl x))) (h2 : gEq (.val b) (.val b') = some (.val (.bl y))) : f_Book___eq__ [.s (bookD a b), .s (bookD a' b')] = .ok (.s (.bl (x && y))) [.s (bookD a b), .s (bookD a' b')] := by
  have e1 := isi_bb a' b'
  have e2 := att_c a b
  have e3 := att_c a' b'
  have e4 := att_r a b
  have e5 := att_r a' b'
  generalize bookD a b = X at *
  generalize bookD a' b' = Y at *
  unfold f_Book___eq__ b_Book___eq__
  cases x <;> simp [e1, e2, e3, e4, e5, h1, h2]
theorem eq_tupB (a b : D) (ds : List D) : f_Book___eq__ [.s (bookD a b), .s (.tup ds)] = .ok (.s (.bl false)) [.s (bookD a b), .s (.tup ds)] := by
  have e1 := isi_tb ds
  generalize bookD a b = X at *
  unfold f_Book___eq__ b_Book___eq__
  simp [e1]
theorem eq_chB (a b : D) : f_Book___eq__ [.s (bookD a b), .s CH] = .ok (.s (.bl false)) [.s (bookD a b), .s CH] := by
  have e1 := isi_cb
  generalize bookD a b = X at *
  generalize CH = Y at *
  unfold f_Book___eq__ b_Book___eq__
  simp [e1]
theorem ch_eqB (a b : D) : f_Chart___eq__ [.s CH, .s (bookD a b)] = .ok (.s (.bl false)) [.s CH, .s (bookD a b)] := by
  have e1 := isi_bc a b
  generalize bookD a b = X at *
  generalize CH = Y at *
  unfold f_Chart___eq__ b_Chart___eq__
  simp [e1]
theorem gown {c : Nat} {fn : List O → Rr} {neg : Bool} {rx ry : Rt} {r : Bool} {outs : List O} (h : rx.isSl = false ∧ ry.isSl = false ∧ isIns c rx.d = true ∧ seenD [0, 1] ry.d = true) (e : fn [.s rx.d, .s ry.d] = .ok (.s (.bl r)) outs) : gOwn [0, 1] c fn neg rx ry = some (.val (.bl (r != neg))) := by
  unfold gOwn
  rw [if_pos h, e]
noncomputable def E1 : MS := e1_law f__law_hand f_Chart___init__ f__law_parts (f__law_is 30) f__law_told_part f__law_wrong f__law_draw (f__law_bent 14) f__law_odd f__law_any f_Book___eq__ (calmF f_Book___init__) f_Chart___eq__ f__law_known_parts
noncomputable def E2 : MS := e2_law f__law_hand f_Chart___init__ f__law_parts (f__law_is 30) f__law_told_part f__law_wrong f__law_draw (f__law_bent 14) f__law_odd f__law_any f_Book___eq__ (calmF f_Book___init__) f_Chart___eq__ f__law_known_parts
noncomputable def E3 : MS := e3_law f__law_hand f_Chart___init__ f__law_parts (f__law_is 30) f__law_told_part f__law_wrong f__law_draw (f__law_bent 14) f__law_odd f__law_any f_Book___eq__ (calmF f_Book___init__) f_Chart___eq__ f__law_known_parts
noncomputable def E4 : ME := e4_law f__law_hand f_Chart___init__ f__law_parts (f__law_is 30) f__law_told_part f__law_wrong f__law_draw (f__law_bent 14) f__law_odd f__law_any f_Book___eq__ (calmF f_Book___init__) f_Chart___eq__ f__law_known_parts
section
variable {S : O} {x3 x5 x8 x9 x10 x11 x12 : Option O}
theorem turn1 {h : O} (hh : Hd h) {P cells r : D} {j : Nat} (hj : j ≤ 2) (hr : U (50 + j) r) (i : D) : ∃ h' r', E1 [some S, some h, some (.s CH), x3, some (.s P), x5, some (.s cells), some (.s r), some (.s i), x9, x10, x11, x12] = .ok .nx [some S, some h', some (.s CH), x3, some (.s P), x5, some (.s cells), some (.s r'), some (.s i), x9, x10, x11, x12] ∧ Hd h' ∧ U (50 + (j + 1)) r' := by
  obtain ⟨h1, od, e1, hh1, uo⟩ := p_odd hh (uCH 3)
  obtain ⟨h2, o, d, e2, hh2, fo, ud⟩ := p_bent (k := 50 + j) (by omega) (uo.mono (by omega : 3 ≤ 50 + j + 1)) 13 12 (by omega) hh1 hr
  have e2 : f__law_bent 14 [h1, .s r, .s od, .s (.int 12)] = .ok o [h2, .s r, .s od, .s (.int 12)] := e2
  have est := fo.stl
  refine ⟨h2, d, ?_, hh2, ud⟩
  generalize CH = CHH at *
  unfold E1 e1_law
  simp [e1, e2, est]
end
end L3
namespace L3
open PySem L2
noncomputable def TL : MS := (msSeq (msSet 9 (mCall [] 2 f__law_wrong (mCons [] (mVar 6) (mCons [] (mVar 7) mNil))))
  (msSeq (msIf (tmNot (mTest (mCall [] 2 (f__law_is 30) (mCons [] (mStl (mCall [] 2 f__law_told_part (mCons [] (mVar 6) (mCons [] (mVar 7) mNil)))) (mCons [] (mVar 9) mNil))))) (msRet (mC (.bl false))) msNil)
  (msIf (tmAnd (mTest (m2 (gIs false) [] (mVar 9) (mC .non))) (mTest (m2 gNe [] (m2 (gOwn [0, 1] 0 f_Book___eq__ false) [] (mMake [] 0 3 (calmF f_Book___init__) (mCons [] (mVar 6) (mCons [] (mVar 7) mNil))) (mStl (mMake [] 0 3 (calmF f_Book___init__) (mCons [] (m2 gIx [] (mVar 4) (mC (.int 0))) (mCons [] (m2 gIx [] (mVar 4) (mC (.int 1))) mNil))))) (m2 gEq [] (mN gTup (mCons [] (mVar 6) (mCons [] (mVar 7) mNil))) (mVar 4))))) (msRet (mC (.bl false))) msNil)))
section
variable {S : O} {x2 x3 x5 x6 x7 x8 x9 x10 x11 x12 : Option O}
theorem tail {h : O} {a b a0 b0 : D} (ha : U 60 a) (hb : U 60 b) (ha0 : U 60 a0) (hb0 : U 60 b0) (h0 : wrongD a0 b0 = .non) : TL [some S, some h, x2, x3, some (.s (.tup [a0, b0])), x5, some (.s a), some (.s b), x8, x9, x10, x11, x12] = .ok .nx [some S, some h, x2, x3, some (.s (.tup [a0, b0])), x5, some (.s a), some (.s b), x8, some (.s (wrongD a b)), x10, x11, x12] := by
  have e1 := l_wrong (by omega : 60 ≤ 1000) ha hb
  have e2 := told (by omega : 60 ≤ 1000) ha hb
  have e3 : f__law_is 30 [.s (wrongD a b), .s (wrongD a b)] = .ok (.s (.bl true)) [.s (wrongD a b), .s (wrongD a b)] := same_wrong a b 28
  unfold TL
  by_cases hW : wrongD a b = .non
  · have e4 := calm_book (by omega : 60 ≤ 1000) ha hb hW
    have e5 := calm_book (by omega : 60 ≤ 1000) ha0 hb0 h0
    obtain ⟨x, y, q1, q2, q3⟩ := parts_eq (shq_book hW).1 (shq_book hW).2 (shq_book h0).1 (shq_book h0).2
    have e6 : gOwn [0, 1] 0 f_Book___eq__ false (.own (bookO a b)) (.val (bookD a0 b0)) = some (.val (.bl ((x && y) != false))) := gown ⟨rfl, rfl, rfl, rfl⟩ (eq_book q1 q2)
    have e8 : (bookO a b).rr = .own (bookO a b) := rfl
    have e9 : (bookO a0 b0).rr = .own (bookO a0 b0) := rfl
    have e10 := book_d a0 b0
    rw [hW] at e1 e2 e3 ⊢
    generalize bookO a b = B1 at *
    generalize bookO a0 b0 = B2 at *
    generalize bookD a0 b0 = B3 at *
    generalize (x && y) = z at *
    have e7 := neb z
    simp [e1, e2, e3, e4, e5, e6, e7, e8, e9, e10, q3, atI, ixN]
  · obtain ⟨l, hl, _⟩ := wrong_tup hW
    rw [hl] at e1 e2 e3 ⊢
    have e4 : gIs false (.val (.tup l)) (.val .non) = some (.val (.bl false)) := rfl
    simp [e1, e2, e3, e4]
end
section
variable {S : O} {x3 x5 x6 x7 x8 x9 x10 x11 x12 : Option O}
theorem turn2 {h : O} (hh : Hd h) {c : Nat} {b0 : D} (hb0 : U 50 b0) (h0 : wrongD (.int (c : Nat)) b0 = .non) : ∃ h' y6 y7 y8 y9, E2 [some S, some h, some (.s CH), x3, some (.s (.tup [.int (c : Nat), b0])), x5, x6, x7, x8, x9, x10, x11, x12] = .ok .nx [some S, some h', some (.s CH), x3, some (.s (.tup [.int (c : Nat), b0])), x5, y6, y7, y8, y9, x10, x11, x12] ∧ Hd h' := by
  obtain ⟨h1, v, e1, hh1, v0, v1⟩ := hh.draw (many := 3) (by decide) (by decide)
  obtain ⟨e', k1, h2, r, x, j, rfl, hh2, ur, hj⟩ := for_inv (set := setT [8]) (g := E1)
    (I := fun ds e => ∃ (h : O) (r : D) (x : Option O) (j : Nat), e = [some S, some h, some (.s CH), x3, some (.s (.tup [.int (c : Nat), b0])), x5, some (.s (.int (c : Nat))), some (.s r), x, x9, x10, x11, x12] ∧ Hd h ∧ U (50 + j) r ∧ j + ds.length ≤ 3)
    (by
      rintro i ds e ⟨h, r, x, j, rfl, hh, ur, hj⟩
      obtain ⟨h', r', q1, q2, q3⟩ := turn1 (S := S) (x3 := x3) (x5 := x5) (x9 := x9) (x10 := x10) (x11 := x11) (x12 := x12) hh (P := .tup [.int (c : Nat), b0]) (cells := .int (c : Nat)) (j := j) (by simp only [List.length_cons] at hj; omega) ur i
      exact ⟨_, _, rfl, q1, h', r', _, j + 1, rfl, q2, q3, by simp only [List.length_cons] at hj; omega⟩)
    (rngD 0 (1 + v).toNat) [some S, some h1, some (.s CH), x3, some (.s (.tup [.int (c : Nat), b0])), x5, some (.s (.int (c : Nat))), some (.s b0), x8, x9, x10, x11, x12] ⟨h1, b0, x8, 0, rfl, hh1, hb0, by rw [rngD_len]; omega⟩
  have ur : U 60 r := ur.mono (by simp only [List.length_nil] at hj; omega)
  have hrg : ∀ e : Env, rg1K (.ok [.val (.int (1 + v))] e) = .ok ⟨rngD 0 (1 + v).toNat, none⟩ e := fun e => rg1_is (by omega) (by omega)
  obtain ⟨h3, w, e2, hh3, w0, w1⟩ := hh2.draw (many := 8) (by decide) (by decide)
  have fold : E2 = msSeq (msAsgT (setTup [6, 7]) (mVar 4)) (msSeq (msFor [8, 1, 1, 7] (setT [8]) (iRg1 (mCons [] (m2 gAdd [1] (mC (.int 1)) (mCall [1] 2 f__law_draw (mCons [] (mSlot 1) (mCons [] (mC (.int 3)) mNil)))) mNil)) E1)
    (msSeq (msIf (mTest (m2 gEq [] (mCall [1] 2 f__law_draw (mCons [] (mSlot 1) (mCons [] (mC (.int 8)) mNil))) (mC (.int 0)))) (msSet 6 (mCall [1] 2 f__law_any (mCons [] (mSlot 1) (mCons [] (mStl (mN gLst (mCons [] (mC (.int 0)) (mCons [] (mC (.int 5)) (mCons [] (mC (.bl true)) (mCons [] (mC .non) (mCons [] (mC (.str "1")) (mCons [] (mN gTup (mCons [] (mC (.int 1)) mNil)) (mCons [] (mC (.int 4)) (mCons [] (mC (.int 1)) mNil)))))))))) mNil)))) msNil) TL)) := rfl
  rw [fold]
  have ub0 : U 60 b0 := hb0.mono (by omega)
  by_cases z : w = 0
  · subst z
    obtain ⟨h4, a, e3, hh4, ha⟩ := hh3.any (ds := [.int 0, .int 5, .bl true, .non, .str "1", .tup [.int 1], .int 4, .int 1]) (by simp) (by simp)
    have ua : U 60 a := by
      simp at ha
      rcases ha with rfl | rfl | rfl | rfl | rfl | rfl | rfl | rfl <;> simp [U, Us] <;> decide +kernel
    have t := tail (S := S) (x2 := some (.s CH)) (x3 := x3) (x5 := x5) (x8 := x) (x9 := x9) (x10 := x10) (x11 := x11) (x12 := x12) (h := h4) ua ur (a0 := .int (c : Nat)) trivial ub0 h0
    refine ⟨h4, some (.s a), some (.s r), x, some (.s (wrongD a r)), ?_, hh4⟩
    generalize CH = CHH at *
    generalize E1 = EE at *
    generalize TL = TT at *
    simp [e1, hrg, k1, e2, e3, t]
  · have t := tail (S := S) (x2 := some (.s CH)) (x3 := x3) (x5 := x5) (x8 := x) (x9 := x9) (x10 := x10) (x11 := x11) (x12 := x12) (h := h3) (a := .int (c : Nat)) trivial ur (a0 := .int (c : Nat)) trivial ub0 h0
    refine ⟨h3, some (.s (.int (c : Nat))), some (.s r), x, some (.s (wrongD (.int (c : Nat)) r)), ?_, hh3⟩
    generalize CH = CHH at *
    generalize E1 = EE at *
    generalize TL = TT at *
    simp [e1, hrg, k1, e2, z, t]
end
end L3
namespace L3
open PySem L2
@[simp] theorem ev_varz10 {a b c d x y z u v w : Option O} {o : O} {e : Env} : mVar 10 (a :: b :: c :: d :: x :: y :: z :: u :: v :: w :: some o :: e) = .ok (o.rt 10) (a :: b :: c :: d :: x :: y :: z :: u :: v :: w :: some o :: e) := Eq.trans rfl rfl
@[simp] theorem ev_varz11 {a b c d x y z u v w p : Option O} {o : O} {e : Env} : mVar 11 (a :: b :: c :: d :: x :: y :: z :: u :: v :: w :: p :: some o :: e) = .ok (o.rt 11) (a :: b :: c :: d :: x :: y :: z :: u :: v :: w :: p :: some o :: e) := Eq.trans rfl rfl
@[simp] theorem ev_varz12 {a b c d x y z u v w p q : Option O} {o : O} {e : Env} : mVar 12 (a :: b :: c :: d :: x :: y :: z :: u :: v :: w :: p :: q :: some o :: e) = .ok (o.rt 12) (a :: b :: c :: d :: x :: y :: z :: u :: v :: w :: p :: q :: some o :: e) := Eq.trans rfl rfl
mutual
theorem eqv_same : ∀ p : PyData, p.canLay0 = true → PyData.eqv p p = true
  | .none, _ => by simp [PyData.eqv]
  | .bool b, _ => by simp [PyData.eqv]
  | .int i, _ => by simp [PyData.eqv]
  | .str s, _ => by simp [PyData.eqv]
  | .list xs, h => by
    simp only [PyData.canLay0] at h
    simp only [PyData.eqv]
    exact eqvAll_same xs h
  | .tuple xs, h => by
    simp only [PyData.canLay0] at h
    simp only [PyData.eqv]
    exact eqvAll_same xs h
  | .dict kvs, h => by simp [PyData.canLay0] at h
theorem eqvAll_same : ∀ ps : List PyData, PyData.canLayAll0 ps = true → PyData.eqvAll ps ps = true
  | [], _ => by simp [PyData.eqvAll]
  | p :: ps, h => by
    simp only [PyData.canLayAll0, Bool.and_eq_true] at h
    simp only [PyData.eqvAll, Bool.and_eq_true]
    exact ⟨eqv_same p h.1, eqvAll_same ps h.2⟩
end
theorem geq_same {x : D} (hx : Shp 40 x) : gEq (.val x) (.val x) = some (.val (.bl true)) := by
  obtain ⟨p, p1, p2, p3⟩ := hx
  have sp : SeqAt.shaped p = true := by unfold SeqAt.shaped; rw [p2, decide_eq_true (by omega)]; rfl
  show (eqD x x).map _ = _
  unfold eqD
  rw [p1]
  simp only [sp, and_self, if_true, Option.map_some, eqv_same p p2]
section
variable {S : O}
theorem turn3 {h : O} (hh : Hd h) (x4 x5 x6 x7 x8 x9 x10 x11 x12 : Option O) (i : D) : ∃ h' y4 y5 y6 y7 y8 y9 y10, E3 [some S, some h, some (.s CH), some (.s i), x4, x5, x6, x7, x8, x9, x10, x11, x12] = .ok .nx [some S, some h', some (.s CH), some (.s i), y4, y5, y6, y7, y8, y9, y10, x11, x12] ∧ Hd h' := by
  obtain ⟨h1, c, bs, e1, hh1, hc, hr, hb⟩ := hh.parts
  obtain ⟨w0, ub⟩ := parts_right hc hr hb
  generalize D.tup (bs.map encB) = PB at e1 w0 ub
  have e2 := told (by omega : 50 ≤ 1000) (a := .int (c : Nat)) trivial ub
  have e3 := l_wrong (by omega : 50 ≤ 1000) (a := .int (c : Nat)) trivial ub
  have e4 : f__law_is 30 [.s .non, .s .non] = .ok (.s (.bl true)) [.s .non, .s .non] := same_non 29
  rw [w0] at e2 e3
  obtain ⟨e', k1, h2, y5, y6, y7, y8, y9, rfl, hh2⟩ := for_inv (set := setT [5]) (g := E2)
    (I := fun _ e => ∃ (h : O) (y5 y6 y7 y8 y9 : Option O), e = [some S, some h, some (.s CH), some (.s i), some (.s (.tup [.int (c : Nat), PB])), y5, y6, y7, y8, y9, x10, x11, x12] ∧ Hd h)
    (by
      rintro d ds e ⟨h, y5, y6, y7, y8, y9, rfl, hh⟩
      obtain ⟨h', z6, z7, z8, z9, q, hh'⟩ := turn2 (S := S) (x3 := some (.s i)) (x5 := some (.s d)) (x6 := y6) (x7 := y7) (x8 := y8) (x9 := y9) (x10 := x10) (x11 := x11) (x12 := x12) hh ub w0
      exact ⟨_, _, rfl, q, h', _, _, _, _, _, rfl, hh'⟩)
    (rngD 0 4) [some S, some h1, some (.s CH), some (.s i), some (.s (.tup [.int (c : Nat), PB])), x5, x6, x7, x8, x9, x10, x11, x12] ⟨h1, x5, x6, x7, x8, x9, rfl, hh1⟩
  have hrg : ∀ e : Env, rg1K (.ok [.val (.int 4)] e) = .ok ⟨rngD 0 4, none⟩ e := fun e => rg1_is (j := 4) (by decide) (by decide)
  have e5 := calm_book (by omega : 50 ≤ 1000) (a := .int (c : Nat)) trivial ub w0
  have e6 : (bookO (.int (c : Nat)) PB).rr = .own (bookO (.int (c : Nat)) PB) := rfl
  have e7 := book_d (.int (c : Nat)) PB
  have g1 : gOwn [0, 1] 0 f_Book___eq__ false (.val (bookD (.int (c : Nat)) PB)) (.val (.tup [.int (c : Nat), PB])) = some (.val (.bl false)) := gown (r := false) ⟨rfl, rfl, rfl, rfl⟩ (eq_tupB _ _ _)
  have g2 : gOwn [0, 1] 0 f_Book___eq__ false (.val (bookD (.int (c : Nat)) PB)) (.val CH) = some (.val (.bl false)) := gown (r := false) ⟨rfl, rfl, rfl, rfl⟩ (eq_chB _ _)
  have g3 : gOwn [0, 1] 1 f_Chart___eq__ false (.val CH) (.val (bookD (.int (c : Nat)) PB)) = some (.val (.bl false)) := gown (r := false) ⟨rfl, rfl, rfl, rfl⟩ (ch_eqB _ _)
  have g4 : gOwn [0, 1] 0 f_Book___eq__ true (.val (bookD (.int (c : Nat)) PB)) (.val CH) = some (.val (.bl true)) := gown (r := false) ⟨rfl, rfl, rfl, rfl⟩ (eq_chB _ _)
  have g5 : gOwn [0, 1] 0 f_Book___eq__ true (.val (bookD (.int (c : Nat)) PB)) (.val (bookD (.int (c : Nat)) PB)) = some (.val (.bl false)) := gown (r := true) ⟨rfl, rfl, rfl, rfl⟩ (eq_book (x := true) (y := true) (geq_same (shq_book w0).1) (geq_same (shq_book w0).2))
  have fold : E3 = (msSeq (msSet 4 (mCall [1] 1 f__law_parts (mCons [] (mSlot 1) mNil)))
  (msSeq (msIf (tmNot (mTest (mCall [] 2 (f__law_is 30) (mCons [] (mStl (mCall [] 2 f__law_told_part (mCons [] (m2 gIx [] (mVar 4) (mC (.int 0))) (mCons [] (m2 gIx [] (mVar 4) (mC (.int 1))) mNil)))) (mCons [] (mStl (mCall [] 2 f__law_wrong (mCons [] (m2 gIx [] (mVar 4) (mC (.int 0))) (mCons [] (m2 gIx [] (mVar 4) (mC (.int 1))) mNil)))) mNil))))) (msRet (mC (.bl false))) msNil)
  (msSeq (msFor [5, 6, 7, 1, 8, 1, 1, 7, 1, 1, 6, 9] (setT [5]) (iRg1 (mCons [] (mC (.int 4)) mNil)) E2)
  (msSeq (msSet 10 (mStl (mMake [] 0 3 (calmF f_Book___init__) (mCons [] (m2 gIx [] (mVar 4) (mC (.int 0))) (mCons [] (m2 gIx [] (mVar 4) (mC (.int 1))) mNil)))))
  (msIf (tmOr (mTest (m2 (gOwn [0, 1] 0 f_Book___eq__ false) [] (mVar 10) (mVar 4))) (tmOr (mTest (m2 (gOwn [0, 1] 0 f_Book___eq__ false) [] (mVar 10) (mVar 2))) (tmOr (mTest (m2 (gOwn [0, 1] 1 f_Chart___eq__ false) [] (mVar 2) (mVar 10))) (tmOr (tmNot (mTest (m2 (gOwn [0, 1] 0 f_Book___eq__ true) [] (mVar 10) (mVar 2)))) (mTest (m2 (gOwn [0, 1] 0 f_Book___eq__ true) [] (mVar 10) (mStl (mMake [] 0 3 (calmF f_Book___init__) (mCons [] (m2 gIx [] (mVar 4) (mC (.int 0))) (mCons [] (m2 gIx [] (mVar 4) (mC (.int 1))) mNil)))))))))) (msRet (mC (.bl false))) msNil))))) := rfl
  rw [fold]
  refine ⟨h2, some (.s (.tup [.int (c : Nat), PB])), y5, y6, y7, y8, y9, some (.s (bookD (.int (c : Nat)) PB)), ?_, hh2⟩
  generalize bookD (.int (c : Nat)) PB = BD at *
  generalize bookO (.int (c : Nat)) PB = BO at *
  generalize CH = CHH at *
  generalize E2 = EE at *
  simp [e1, e2, e3, e4, e5, e6, e7, hrg, k1, g1, g2, g3, g4, g5, atI, ixN]
end
def LawTrue (f : List O → Rr) : Prop := ∀ ns : List Int, ns.length ≤ 63 → ∃ outs, f [.s (.lst (ns.map D.int))] = .ok (.s (.bl true)) outs
theorem law_true : LawTrue f_law := fun ns hn => by
  obtain ⟨h, e1, hh⟩ := p_hand ns hn
  have e2 := n_chart
  obtain ⟨e', k1, h', x3, x4, x5, x6, x7, x8, x9, x10, rfl, hh'⟩ := for_inv (set := setT [3]) (g := E3)
    (I := fun _ e => ∃ (h : O) (x3 x4 x5 x6 x7 x8 x9 x10 : Option O), e = [some (.s (.lst (ns.map D.int))), some h, some (.s CH), x3, x4, x5, x6, x7, x8, x9, x10, none, none] ∧ Hd h)
    (by
      rintro d ds e ⟨h, x3, x4, x5, x6, x7, x8, x9, x10, rfl, hh⟩
      obtain ⟨h', y4, y5, y6, y7, y8, y9, y10, q, hh'⟩ := turn3 (S := .s (.lst (ns.map D.int))) hh x4 x5 x6 x7 x8 x9 x10 none none d
      exact ⟨_, _, rfl, q, h', _, _, _, _, _, _, _, _, rfl, hh'⟩) (rngD 0 3) [some (.s (.lst (ns.map D.int))), some h, some (.s CH), none, none, none, none, none, none, none, none, none, none] ⟨h, none, none, none, none, none, none, none, none, rfl, hh⟩
  have hrg : ∀ e : Env, rg1K (.ok [.val (.int 3)] e) = .ok ⟨rngD 0 3, none⟩ e := fun e => rg1_is (j := 3) (by decide) (by decide)
  obtain ⟨h2, row, e3, hh2, hl, hrow⟩ := p_known hh'
  obtain ⟨e'', k2, y10, y12, rfl⟩ := lc_map (vs := [10, 12]) (set := setTup [10, 12]) (f := E4) (F := fun _ => D.bl true)
    (I := fun e => ∃ y10 y12 : Option O, e = [some (.s (.lst (ns.map D.int))), some h2, some (.s CH), x3, x4, x5, x6, x7, x8, x9, y10, some (.s (.tup row)), y12])
    row [some (.s (.lst (ns.map D.int))), some h2, some (.s CH), x3, x4, x5, x6, x7, x8, x9, x10, some (.s (.tup row)), none]
    (by
      rintro e d ⟨y10, y12, rfl⟩ hd
      obtain ⟨a, b, rfl, ua, ub⟩ := hrow d hd
      have q1 := told (by omega : 100 ≤ 1000) ua ub
      have q2 := l_wrong (by omega : 100 ≤ 1000) ua ub
      have q3 : f__law_is 30 [.s (wrongD a b), .s (wrongD a b)] = .ok (.s (.bl true)) [.s (wrongD a b), .s (wrongD a b)] := same_wrong a b 28
      refine ⟨_, _, rfl, ?_, some (.s a), some (.s b), rfl⟩
      unfold E4 e4_law
      simp [q1, q2, q3]) ⟨x10, none, rfl⟩
  have f1 : row.map (fun _ => D.bl true) = (row.map fun _ => true).map D.bl := by rw [List.map_map]; rfl
  rw [f1] at k2
  have f3 : gAll [.own (.lst (((row.map fun _ => true).map D.bl).map O.s))] = some (.val (.bl true)) := by rw [ev_gAllL, all_true]
  have hz : ((row.map fun _ => true).map D.bl).length ≤ 16777216 := by rw [List.length_map, List.length_map]; omega
  generalize ((row.map fun _ => true).map D.bl) = bb at k2 f3 hz
  have hz2 : row.length ≤ 16777216 := by omega
  obtain ⟨cs, a, b, c, d, rfl, ha⟩ := hh
  refine ⟨[.s (.lst (ns.map D.int))], ?_⟩
  have hr : (hnd cs a b c d).rr = .own (hnd cs a b c d) := rfl
  have cd : chartO.d = CH := rfl
  have cr : chartO.rr = .own chartO := rfl
  have fold : f_law = runDef [] 12 (msSeq (msSet 1 (mCall [] 1 f__law_hand (mCons [] (mVar 0) mNil)))
    (msSeq (msSet 2 (mStl (mMake [] 1 6 f_Chart___init__ (mCons [] (mC (.int 2)) (mCons [] (mN gTup (mCons [] (mN gTup (mCons [] (mC (.int 0)) (mCons [] (mC (.int 1)) mNil))) mNil)) (mCons [] (mN gTup (mCons [] (mN gTup (mCons [] (mC (.int 0)) mNil)) (mCons [] (mN gTup (mCons [] (mC (.int 1)) mNil)) mNil))) (mCons [] (mC (.int 0)) (mCons [] (mN gTup (mCons [] (mC (.int 1)) mNil)) mNil))))))))
    (msSeq (msFor [3, 1, 4, 5, 6, 7, 1, 8, 1, 1, 7, 1, 1, 6, 9, 10] (setT [3]) (iRg1 (mCons [] (mC (.int 3)) mNil)) E3)
    (msSeq (msSet 11 (mCall [1] 1 f__law_known_parts (mCons [] (mSlot 1) mNil)))
    (msRet (mN gAll (mCons [] (mLc [10, 12, 10, 12] [10, 12] (setTup [10, 12]) (iSeq true (mVar 11)) mYes E4) mNil))))))) := rfl
  rw [fold]
  unfold ARR RND PRC at e2
  generalize hnd cs a b c d = H at *
  generalize CH = CHH at *
  generalize chartO = CO at *
  generalize E3 = EE at *
  generalize E4 = E5 at *
  simp [-List.map_map, e1, e2, hr, cd, cr, hrg, k1, e3, k2, f3, hz, hz2]
end L3
namespace L3
open PySem L2
def clOf (l : List Addr) (n : Nat) : Addr := l.getD n 0
theorem spG_len0 {K : PySem.W.Frag} {cl : Nat → Addr} (n : Nat) : ∀ (vs : List V) (H : Hp) (Q : VK) (E : XK), spG K cl n (fun _ => .bad) vs H Q E → vs.length = n ∧ False := fun vs H Q E h => by
  have l := spG_len h
  obtain ⟨F, os, fp, _, _, _, _, _, w⟩ := h
  exact ⟨l, w⟩
theorem fn_bad {P : Program} {w : World} {K : PySem.W.Frag} {mg : Str → Option Value} {base : Heap} {k : Nat} {f : Addr} {fd : FuncData} {ps : List Str} {sp : Sp} (h : ∀ vs H Q E, sp vs H Q E → vs.length = ps.length ∧ False) : FnOk P w K mg base CX0 k f fd ps sp :=
  ⟨fun vs H Q E q => (h vs H Q E q).1, fun A outer s H args us vs Q E hr he hb hv hs => (h _ _ _ _ hs).2.elim⟩
def spLaw (K : PySem.W.Frag) : Sp := fun vs H Q _ => ∃ (a : Addr) (ns : List Int), vs = [.ref a] ∧ SqL K H a (ns.map V.int) ∧ ns.length ≤ 63 ∧ ∀ H', Q (.bl true) H'
theorem ints_rp {K : PySem.W.Frag} {cl : Nat → Addr} {F : Hp} (ns : List Int) : RpDs K cl F (ns.map D.int) (ns.map V.int) := by
  induction ns with
  | nil => rfl
  | cons n ns ih => exact ⟨_, _, rfl, rfl, ih⟩
theorem spLaw_of {K : PySem.W.Frag} {cl : Nat → Addr} {f : List O → Rr} (hlaw : LawTrue f) {vs : List V} {H : Hp} {Q : VK} {E : XK} (h : spLaw K vs H Q E) : spG K cl 1 f vs H Q E := by
  obtain ⟨a, ns, rfl, hS, hl, k⟩ := h
  obtain ⟨outs, e⟩ := hlaw ns hl
  refine ⟨H, [.s (.lst (ns.map D.int))], [], rfl, Ex.refl _, ⟨_, _, [], [], rfl, rfl, ⟨rfl, a, _, rfl, hS, ints_rp ns⟩, rfl, rfl⟩, List.nodup_nil, fun a ha => by simp at ha, ?_⟩
  rw [e]
  intro v F' H' fr fp' _ r _
  have : v = .bl true := r.2
  subst this
  exact k H'
def TabE : List DictEntry → List (Str × D) → Prop
  | [], [] => True
  | e :: es, (k, d) :: r => (∃ t, e.key = .str k t) ∧ (∃ v0, RelV v0 e.val ∧ ∀ (K : PySem.W.Frag) (cl : Nat → Addr) (F : Hp), RpD K cl F d v0) ∧ e.refKey = false ∧ TabE es r
  | _, _ => False
theorem tabE_find : ∀ {es : List DictEntry} {tab : List (Str × D)} (z : Str), TabE es tab → es.any (·.refKey) = false ∧ match lookT tab z with
    | none => es.find? (·.key.isStr z) = none
    | some dd => ∃ (e : DictEntry) (v0 : V), es.find? (·.key.isStr z) = some e ∧ RelV v0 e.val ∧ ∀ (K : PySem.W.Frag) (cl : Nat → Addr) (F : Hp), RpD K cl F dd v0
  | [], [], z, _ => ⟨rfl, rfl⟩
  | [], _ :: _, z, h => h.elim
  | _ :: _, [], z, h => h.elim
  | e :: es, (k, d) :: r, z, ⟨⟨t, hk⟩, ⟨v0, r0, q⟩, hr, h⟩ => by
    obtain ⟨i1, i2⟩ := tabE_find z h
    refine ⟨by rw [List.any_cons, hr, i1]; rfl, ?_⟩
    unfold lookT
    by_cases e1 : k = z
    · rw [if_pos e1]
      refine ⟨e, v0, ?_, r0, q⟩
      rw [List.find?_cons_of_pos]
      rw [hk]; show (k == z) = true; rw [e1]; exact beq_self_eq_true z
    · rw [if_neg e1]
      have e2 : e.key.isStr z = false := by rw [hk]; show (k == z) = false; exact beq_false_of_ne e1
      rw [List.find?_cons_of_neg (by rw [e2]; exact Bool.false_ne_true)]
      exact i2
theorem ktab_of {K : PySem.W.Frag} {cl : Nat → Addr} {d : Addr} {oc : Value} {od : Option Addr} {sl : Array (Option Value)} {es : Array DictEntry} {n : Nat} {tab : List (Str × D)} (l : K.lookup d = some ⟨oc, od, .dict es n, sl⟩) (h : TabE es.toList tab) : KTab K cl d tab := fun z => by
  obtain ⟨h1, h2⟩ := tabE_find z h
  unfold PySem.W.nsIn
  rw [l]
  dsimp only
  cases q : lookT tab z with
  | none =>
    rw [q] at h2
    have h2 : es.toList.find? (·.key.isStr z) = none := h2
    rw [h2, h1]
    exact ⟨none, rfl, rfl⟩
  | some dd =>
    rw [q] at h2
    obtain ⟨e, v0, f1, r0, k⟩ := h2
    rw [f1]
    exact ⟨_, rfl, _, v0, rfl, r0, fun F => k K cl F⟩
theorem allK {p : String → Prop} (h0 : p "NoneType") (h1 : p "bool") (h2 : p "int") (h3 : p "str") (h4 : p "tuple") (h5 : p "list") (h6 : p "dict") : ∀ n ∈ knT, p n := fun n hn => by
  simp [knT] at hn
  rcases hn with rfl | rfl | rfl | rfl | rfl | rfl | rfl <;> assumption
theorem all_mk {l : PySem.W.OpenLaw} {w : World} {K : PySem.W.Frag} {h : Heap} {mg : Str → Option Value} {fa : Addr} (hlaw : LawTrue f_law) (X : K.In h) (G : h.Ns mainGlobals mg) (hfa : mg "law" = some (.ref fa)) {C_Book : Addr} {C_Chart : Addr} {C_BadBook : Addr} {C_BadChart : Addr} {C_ChartError : Addr} {a_is_integer : Addr} {a_is_within : Addr} {a_is_pair : Addr} {a_is_sized : Addr} {a_place_at : Addr} {a_is_arrow : Addr} {a_is_round : Addr} {a_is_price : Addr} {a_ends_at : Addr} {a_hang_together : Addr} {a_begun_least : Addr} {a_befores : Addr} {a_other_end : Addr} {a_walked : Addr} {a_rims_by : Addr} {a_check_parts : Addr} {a_Chart_keep : Addr} {a_Chart___init__ : Addr} {a_Chart___eq__ : Addr} {a_is_sum : Addr} {a_is_test : Addr} {a_statement_size : Addr} {a_body_size : Addr} {a_wrong_part : Addr} {a_Book___init__ : Addr} {a_Book___eq__ : Addr} {a__law_hand : Addr} {a__law_draw : Addr} {a__law_any : Addr} {a__law_is : Addr} {a__law_nested : Addr} {a__law_int : Addr} {a__law_sum : Addr} {a__law_alone : Addr} {a__law_test : Addr} {a__law_size : Addr} {a__law_statement : Addr} {a__law_body : Addr} {a__law_parts : Addr} {a__law_odd : Addr} {a__law_bent : Addr} {a__law_is_sum : Addr} {a__law_is_test : Addr} {a__law_is_statement : Addr} {a__law_is_body : Addr} {a__law_wrong : Addr} {a__law_told_part : Addr} {a__law_deep_body : Addr} {a__law_known_parts : Addr} {a_law : Addr} {o1_is_integer v1_is_integer v2_is_integer v3_is_integer v4_is_integer v5_is_integer : Value} {o2_is_integer n_is_integer : Option Addr} {sl_is_integer : Array (Option Value)} {o1_is_within v1_is_within v2_is_within v3_is_within v4_is_within v5_is_within : Value} {o2_is_within n_is_within : Option Addr} {sl_is_within : Array (Option Value)} {o1_is_pair v1_is_pair v2_is_pair v3_is_pair v4_is_pair v5_is_pair : Value} {o2_is_pair n_is_pair : Option Addr} {sl_is_pair : Array (Option Value)} {o1_is_sized v1_is_sized v2_is_sized v3_is_sized v4_is_sized v5_is_sized : Value} {o2_is_sized n_is_sized : Option Addr} {sl_is_sized : Array (Option Value)} {o1_place_at v1_place_at v2_place_at v3_place_at v4_place_at v5_place_at : Value} {o2_place_at n_place_at : Option Addr} {sl_place_at : Array (Option Value)} {o1_is_arrow v1_is_arrow v2_is_arrow v3_is_arrow v4_is_arrow v5_is_arrow : Value} {o2_is_arrow n_is_arrow : Option Addr} {sl_is_arrow : Array (Option Value)} {o1_is_round v1_is_round v2_is_round v3_is_round v4_is_round v5_is_round : Value} {o2_is_round n_is_round : Option Addr} {sl_is_round : Array (Option Value)} {o1_is_price v1_is_price v2_is_price v3_is_price v4_is_price v5_is_price : Value} {o2_is_price n_is_price : Option Addr} {sl_is_price : Array (Option Value)} {o1_ends_at v1_ends_at v2_ends_at v3_ends_at v4_ends_at v5_ends_at : Value} {o2_ends_at n_ends_at : Option Addr} {sl_ends_at : Array (Option Value)} {o1_hang_together v1_hang_together v2_hang_together v3_hang_together v4_hang_together v5_hang_together : Value} {o2_hang_together n_hang_together : Option Addr} {sl_hang_together : Array (Option Value)} {o1_begun_least v1_begun_least v2_begun_least v3_begun_least v4_begun_least v5_begun_least : Value} {o2_begun_least n_begun_least : Option Addr} {sl_begun_least : Array (Option Value)} {o1_befores v1_befores v2_befores v3_befores v4_befores v5_befores : Value} {o2_befores n_befores : Option Addr} {sl_befores : Array (Option Value)} {o1_other_end v1_other_end v2_other_end v3_other_end v4_other_end v5_other_end : Value} {o2_other_end n_other_end : Option Addr} {sl_other_end : Array (Option Value)} {o1_walked v1_walked v2_walked v3_walked v4_walked v5_walked : Value} {o2_walked n_walked : Option Addr} {sl_walked : Array (Option Value)} {o1_rims_by v1_rims_by v2_rims_by v3_rims_by v4_rims_by v5_rims_by : Value} {o2_rims_by n_rims_by : Option Addr} {sl_rims_by : Array (Option Value)} {o1_check_parts v1_check_parts v2_check_parts v3_check_parts v4_check_parts v5_check_parts : Value} {o2_check_parts n_check_parts : Option Addr} {sl_check_parts : Array (Option Value)} {o1_Chart_keep v1_Chart_keep v2_Chart_keep v3_Chart_keep v4_Chart_keep v5_Chart_keep : Value} {o2_Chart_keep n_Chart_keep : Option Addr} {sl_Chart_keep : Array (Option Value)} {o1_Chart___init__ v1_Chart___init__ v2_Chart___init__ v3_Chart___init__ v4_Chart___init__ v5_Chart___init__ : Value} {o2_Chart___init__ n_Chart___init__ : Option Addr} {sl_Chart___init__ : Array (Option Value)} {o1_Chart___eq__ v1_Chart___eq__ v2_Chart___eq__ v3_Chart___eq__ v4_Chart___eq__ v5_Chart___eq__ : Value} {o2_Chart___eq__ n_Chart___eq__ : Option Addr} {sl_Chart___eq__ : Array (Option Value)} {o1_is_sum v1_is_sum v2_is_sum v3_is_sum v4_is_sum v5_is_sum : Value} {o2_is_sum n_is_sum : Option Addr} {sl_is_sum : Array (Option Value)} {o1_is_test v1_is_test v2_is_test v3_is_test v4_is_test v5_is_test : Value} {o2_is_test n_is_test : Option Addr} {sl_is_test : Array (Option Value)} {o1_statement_size v1_statement_size v2_statement_size v3_statement_size v4_statement_size v5_statement_size : Value} {o2_statement_size n_statement_size : Option Addr} {sl_statement_size : Array (Option Value)} {o1_body_size v1_body_size v2_body_size v3_body_size v4_body_size v5_body_size : Value} {o2_body_size n_body_size : Option Addr} {sl_body_size : Array (Option Value)} {o1_wrong_part v1_wrong_part v2_wrong_part v3_wrong_part v4_wrong_part v5_wrong_part : Value} {o2_wrong_part n_wrong_part : Option Addr} {sl_wrong_part : Array (Option Value)} {o1_Book___init__ v1_Book___init__ v2_Book___init__ v3_Book___init__ v4_Book___init__ v5_Book___init__ : Value} {o2_Book___init__ n_Book___init__ : Option Addr} {sl_Book___init__ : Array (Option Value)} {o1_Book___eq__ v1_Book___eq__ v2_Book___eq__ v3_Book___eq__ v4_Book___eq__ v5_Book___eq__ : Value} {o2_Book___eq__ n_Book___eq__ : Option Addr} {sl_Book___eq__ : Array (Option Value)} {o1__law_hand v1__law_hand v2__law_hand v3__law_hand v4__law_hand v5__law_hand : Value} {o2__law_hand n__law_hand : Option Addr} {sl__law_hand : Array (Option Value)} {o1__law_draw v1__law_draw v2__law_draw v3__law_draw v4__law_draw v5__law_draw : Value} {o2__law_draw n__law_draw : Option Addr} {sl__law_draw : Array (Option Value)} {o1__law_any v1__law_any v2__law_any v3__law_any v4__law_any v5__law_any : Value} {o2__law_any n__law_any : Option Addr} {sl__law_any : Array (Option Value)} {o1__law_is v1__law_is v2__law_is v3__law_is v4__law_is v5__law_is : Value} {o2__law_is n__law_is : Option Addr} {sl__law_is : Array (Option Value)} {o1__law_nested v1__law_nested v2__law_nested v3__law_nested v4__law_nested v5__law_nested : Value} {o2__law_nested n__law_nested : Option Addr} {sl__law_nested : Array (Option Value)} {o1__law_int v1__law_int v2__law_int v3__law_int v4__law_int v5__law_int : Value} {o2__law_int n__law_int : Option Addr} {sl__law_int : Array (Option Value)} {o1__law_sum v1__law_sum v2__law_sum v3__law_sum v4__law_sum v5__law_sum : Value} {o2__law_sum n__law_sum : Option Addr} {sl__law_sum : Array (Option Value)} {o1__law_alone v1__law_alone v2__law_alone v3__law_alone v4__law_alone v5__law_alone : Value} {o2__law_alone n__law_alone : Option Addr} {sl__law_alone : Array (Option Value)} {o1__law_test v1__law_test v2__law_test v3__law_test v4__law_test v5__law_test : Value} {o2__law_test n__law_test : Option Addr} {sl__law_test : Array (Option Value)} {o1__law_size v1__law_size v2__law_size v3__law_size v4__law_size v5__law_size : Value} {o2__law_size n__law_size : Option Addr} {sl__law_size : Array (Option Value)} {o1__law_statement v1__law_statement v2__law_statement v3__law_statement v4__law_statement v5__law_statement : Value} {o2__law_statement n__law_statement : Option Addr} {sl__law_statement : Array (Option Value)} {o1__law_body v1__law_body v2__law_body v3__law_body v4__law_body v5__law_body : Value} {o2__law_body n__law_body : Option Addr} {sl__law_body : Array (Option Value)} {o1__law_parts v1__law_parts v2__law_parts v3__law_parts v4__law_parts v5__law_parts : Value} {o2__law_parts n__law_parts : Option Addr} {sl__law_parts : Array (Option Value)} {o1__law_odd v1__law_odd v2__law_odd v3__law_odd v4__law_odd v5__law_odd : Value} {o2__law_odd n__law_odd : Option Addr} {sl__law_odd : Array (Option Value)} {o1__law_bent v1__law_bent v2__law_bent v3__law_bent v4__law_bent v5__law_bent : Value} {o2__law_bent n__law_bent : Option Addr} {sl__law_bent : Array (Option Value)} {o1__law_is_sum v1__law_is_sum v2__law_is_sum v3__law_is_sum v4__law_is_sum v5__law_is_sum : Value} {o2__law_is_sum n__law_is_sum : Option Addr} {sl__law_is_sum : Array (Option Value)} {o1__law_is_test v1__law_is_test v2__law_is_test v3__law_is_test v4__law_is_test v5__law_is_test : Value} {o2__law_is_test n__law_is_test : Option Addr} {sl__law_is_test : Array (Option Value)} {o1__law_is_statement v1__law_is_statement v2__law_is_statement v3__law_is_statement v4__law_is_statement v5__law_is_statement : Value} {o2__law_is_statement n__law_is_statement : Option Addr} {sl__law_is_statement : Array (Option Value)} {o1__law_is_body v1__law_is_body v2__law_is_body v3__law_is_body v4__law_is_body v5__law_is_body : Value} {o2__law_is_body n__law_is_body : Option Addr} {sl__law_is_body : Array (Option Value)} {o1__law_wrong v1__law_wrong v2__law_wrong v3__law_wrong v4__law_wrong v5__law_wrong : Value} {o2__law_wrong n__law_wrong : Option Addr} {sl__law_wrong : Array (Option Value)} {o1__law_told_part v1__law_told_part v2__law_told_part v3__law_told_part v4__law_told_part v5__law_told_part : Value} {o2__law_told_part n__law_told_part : Option Addr} {sl__law_told_part : Array (Option Value)} {o1__law_deep_body v1__law_deep_body v2__law_deep_body v3__law_deep_body v4__law_deep_body v5__law_deep_body : Value} {o2__law_deep_body n__law_deep_body : Option Addr} {sl__law_deep_body : Array (Option Value)} {o1__law_known_parts v1__law_known_parts v2__law_known_parts v3__law_known_parts v4__law_known_parts v5__law_known_parts : Value} {o2__law_known_parts n__law_known_parts : Option Addr} {sl__law_known_parts : Array (Option Value)} {o1_law v1_law v2_law v3_law v4_law v5_law : Value} {o2_law n_law : Option Addr} {sl_law : Array (Option Value)} {nm_BadBook q_BadBook : Str} {N_BadBook : Addr} {bs_BadBook bm_BadBook : List Value} {sn_BadBook : List Str} {sub_BadBook : List Value} {ab_BadBook : Bool} {col_BadBook : Option Bool} {dd_BadBook : Option Addr} {k0_BadBook k1_BadBook k2_BadBook k3_BadBook k5_BadBook : Option Value} {aI_BadBook : Addr} {oc_BadBook : Value} {od_BadBook : Option Addr} {doc_BadBook pm_BadBook cdv_BadBook ct_BadBook : Value} {an_BadBook : Option Addr} {osl_BadBook : Array (Option Value)} {p1_BadBook p2_BadBook q1_BadBook q2_BadBook q3_BadBook q4_BadBook : Pos} {t_CALL : Tok} {t_LESS : Tok} {t_MOST_ARROWS : Tok} {t_MOST_CELLS : Tok} {t_MOST_DEEP : Tok} {t_MOST_MULTIPLE : Tok} {t_MOST_PLACES_books : Tok} {t_MOST_PLACES_charts : Tok} {t_MOST_PRICE : Tok} {t_MOST_ROUTINES : Tok} {t_SAME : Tok} {t_SAY : Tok} {t_SET : Tok} {aS : Addr} {eS : Array DictEntry} {nS : Nat}
  (aC_Book : PySem.W.nsIn K mainGlobals "Book" = some (some (.ref C_Book)))
  (aC_Chart : PySem.W.nsIn K mainGlobals "Chart" = some (some (.ref C_Chart)))
  (aC_BadBook : PySem.W.nsIn K mainGlobals "BadBook" = some (some (.ref C_BadBook)))
  (aC_BadChart : PySem.W.nsIn K mainGlobals "BadChart" = some (some (.ref C_BadChart)))
  (aC_ChartError : PySem.W.nsIn K mainGlobals "ChartError" = some (some (.ref C_ChartError)))
  (g_is_integer : PySem.W.nsIn K mainGlobals "is_integer" = some (some (.ref a_is_integer)))
  (l_is_integer : K.lookup a_is_integer = some ⟨o1_is_integer, o2_is_integer, .func (PySem.W.fnOf "is_integer" "is_integer" (defArgs s_is_integer) (defBody s_is_integer) (defScope s_is_integer) .none v1_is_integer v2_is_integer v3_is_integer n_is_integer v4_is_integer v5_is_integer), sl_is_integer⟩)
  (c_is_integer : PySem.W.codeIn K v4_is_integer "is_integer" = true)
  (k_is_integer : PySem.W.keepIn K (.ref a_is_integer) = true)
  (g_is_within : PySem.W.nsIn K mainGlobals "is_within" = some (some (.ref a_is_within)))
  (l_is_within : K.lookup a_is_within = some ⟨o1_is_within, o2_is_within, .func (PySem.W.fnOf "is_within" "is_within" (defArgs s_is_within) (defBody s_is_within) (defScope s_is_within) .none v1_is_within v2_is_within v3_is_within n_is_within v4_is_within v5_is_within), sl_is_within⟩)
  (c_is_within : PySem.W.codeIn K v4_is_within "is_within" = true)
  (k_is_within : PySem.W.keepIn K (.ref a_is_within) = true)
  (g_is_pair : PySem.W.nsIn K mainGlobals "is_pair" = some (some (.ref a_is_pair)))
  (l_is_pair : K.lookup a_is_pair = some ⟨o1_is_pair, o2_is_pair, .func (PySem.W.fnOf "is_pair" "is_pair" (defArgs s_is_pair) (defBody s_is_pair) (defScope s_is_pair) .none v1_is_pair v2_is_pair v3_is_pair n_is_pair v4_is_pair v5_is_pair), sl_is_pair⟩)
  (c_is_pair : PySem.W.codeIn K v4_is_pair "is_pair" = true)
  (k_is_pair : PySem.W.keepIn K (.ref a_is_pair) = true)
  (g_is_sized : PySem.W.nsIn K mainGlobals "is_sized" = some (some (.ref a_is_sized)))
  (l_is_sized : K.lookup a_is_sized = some ⟨o1_is_sized, o2_is_sized, .func (PySem.W.fnOf "is_sized" "is_sized" (defArgs s_is_sized) (defBody s_is_sized) (defScope s_is_sized) .none v1_is_sized v2_is_sized v3_is_sized n_is_sized v4_is_sized v5_is_sized), sl_is_sized⟩)
  (c_is_sized : PySem.W.codeIn K v4_is_sized "is_sized" = true)
  (k_is_sized : PySem.W.keepIn K (.ref a_is_sized) = true)
  (g_place_at : PySem.W.nsIn K mainGlobals "place_at" = some (some (.ref a_place_at)))
  (l_place_at : K.lookup a_place_at = some ⟨o1_place_at, o2_place_at, .func (PySem.W.fnOf "place_at" "place_at" (defArgs s_place_at) (defBody s_place_at) (defScope s_place_at) .none v1_place_at v2_place_at v3_place_at n_place_at v4_place_at v5_place_at), sl_place_at⟩)
  (c_place_at : PySem.W.codeIn K v4_place_at "place_at" = true)
  (k_place_at : PySem.W.keepIn K (.ref a_place_at) = true)
  (g_is_arrow : PySem.W.nsIn K mainGlobals "is_arrow" = some (some (.ref a_is_arrow)))
  (l_is_arrow : K.lookup a_is_arrow = some ⟨o1_is_arrow, o2_is_arrow, .func (PySem.W.fnOf "is_arrow" "is_arrow" (defArgs s_is_arrow) (defBody s_is_arrow) (defScope s_is_arrow) .none v1_is_arrow v2_is_arrow v3_is_arrow n_is_arrow v4_is_arrow v5_is_arrow), sl_is_arrow⟩)
  (c_is_arrow : PySem.W.codeIn K v4_is_arrow "is_arrow" = true)
  (k_is_arrow : PySem.W.keepIn K (.ref a_is_arrow) = true)
  (g_is_round : PySem.W.nsIn K mainGlobals "is_round" = some (some (.ref a_is_round)))
  (l_is_round : K.lookup a_is_round = some ⟨o1_is_round, o2_is_round, .func (PySem.W.fnOf "is_round" "is_round" (defArgs s_is_round) (defBody s_is_round) (defScope s_is_round) .none v1_is_round v2_is_round v3_is_round n_is_round v4_is_round v5_is_round), sl_is_round⟩)
  (c_is_round : PySem.W.codeIn K v4_is_round "is_round" = true)
  (k_is_round : PySem.W.keepIn K (.ref a_is_round) = true)
  (g_is_price : PySem.W.nsIn K mainGlobals "is_price" = some (some (.ref a_is_price)))
  (l_is_price : K.lookup a_is_price = some ⟨o1_is_price, o2_is_price, .func (PySem.W.fnOf "is_price" "is_price" (defArgs s_is_price) (defBody s_is_price) (defScope s_is_price) .none v1_is_price v2_is_price v3_is_price n_is_price v4_is_price v5_is_price), sl_is_price⟩)
  (c_is_price : PySem.W.codeIn K v4_is_price "is_price" = true)
  (k_is_price : PySem.W.keepIn K (.ref a_is_price) = true)
  (g_ends_at : PySem.W.nsIn K mainGlobals "ends_at" = some (some (.ref a_ends_at)))
  (l_ends_at : K.lookup a_ends_at = some ⟨o1_ends_at, o2_ends_at, .func (PySem.W.fnOf "ends_at" "ends_at" (defArgs s_ends_at) (defBody s_ends_at) (defScope s_ends_at) .none v1_ends_at v2_ends_at v3_ends_at n_ends_at v4_ends_at v5_ends_at), sl_ends_at⟩)
  (c_ends_at : PySem.W.codeIn K v4_ends_at "ends_at" = true)
  (k_ends_at : PySem.W.keepIn K (.ref a_ends_at) = true)
  (g_hang_together : PySem.W.nsIn K mainGlobals "hang_together" = some (some (.ref a_hang_together)))
  (l_hang_together : K.lookup a_hang_together = some ⟨o1_hang_together, o2_hang_together, .func (PySem.W.fnOf "hang_together" "hang_together" (defArgs s_hang_together) (defBody s_hang_together) (defScope s_hang_together) .none v1_hang_together v2_hang_together v3_hang_together n_hang_together v4_hang_together v5_hang_together), sl_hang_together⟩)
  (c_hang_together : PySem.W.codeIn K v4_hang_together "hang_together" = true)
  (k_hang_together : PySem.W.keepIn K (.ref a_hang_together) = true)
  (g_begun_least : PySem.W.nsIn K mainGlobals "begun_least" = some (some (.ref a_begun_least)))
  (l_begun_least : K.lookup a_begun_least = some ⟨o1_begun_least, o2_begun_least, .func (PySem.W.fnOf "begun_least" "begun_least" (defArgs s_begun_least) (defBody s_begun_least) (defScope s_begun_least) .none v1_begun_least v2_begun_least v3_begun_least n_begun_least v4_begun_least v5_begun_least), sl_begun_least⟩)
  (c_begun_least : PySem.W.codeIn K v4_begun_least "begun_least" = true)
  (k_begun_least : PySem.W.keepIn K (.ref a_begun_least) = true)
  (g_befores : PySem.W.nsIn K mainGlobals "befores" = some (some (.ref a_befores)))
  (l_befores : K.lookup a_befores = some ⟨o1_befores, o2_befores, .func (PySem.W.fnOf "befores" "befores" (defArgs s_befores) (defBody s_befores) (defScope s_befores) .none v1_befores v2_befores v3_befores n_befores v4_befores v5_befores), sl_befores⟩)
  (c_befores : PySem.W.codeIn K v4_befores "befores" = true)
  (k_befores : PySem.W.keepIn K (.ref a_befores) = true)
  (g_other_end : PySem.W.nsIn K mainGlobals "other_end" = some (some (.ref a_other_end)))
  (l_other_end : K.lookup a_other_end = some ⟨o1_other_end, o2_other_end, .func (PySem.W.fnOf "other_end" "other_end" (defArgs s_other_end) (defBody s_other_end) (defScope s_other_end) .none v1_other_end v2_other_end v3_other_end n_other_end v4_other_end v5_other_end), sl_other_end⟩)
  (c_other_end : PySem.W.codeIn K v4_other_end "other_end" = true)
  (k_other_end : PySem.W.keepIn K (.ref a_other_end) = true)
  (g_walked : PySem.W.nsIn K mainGlobals "walked" = some (some (.ref a_walked)))
  (l_walked : K.lookup a_walked = some ⟨o1_walked, o2_walked, .func (PySem.W.fnOf "walked" "walked" (defArgs s_walked) (defBody s_walked) (defScope s_walked) .none v1_walked v2_walked v3_walked n_walked v4_walked v5_walked), sl_walked⟩)
  (c_walked : PySem.W.codeIn K v4_walked "walked" = true)
  (k_walked : PySem.W.keepIn K (.ref a_walked) = true)
  (g_rims_by : PySem.W.nsIn K mainGlobals "rims_by" = some (some (.ref a_rims_by)))
  (l_rims_by : K.lookup a_rims_by = some ⟨o1_rims_by, o2_rims_by, .func (PySem.W.fnOf "rims_by" "rims_by" (defArgs s_rims_by) (defBody s_rims_by) (defScope s_rims_by) .none v1_rims_by v2_rims_by v3_rims_by n_rims_by v4_rims_by v5_rims_by), sl_rims_by⟩)
  (c_rims_by : PySem.W.codeIn K v4_rims_by "rims_by" = true)
  (k_rims_by : PySem.W.keepIn K (.ref a_rims_by) = true)
  (g_check_parts : PySem.W.nsIn K mainGlobals "check_parts" = some (some (.ref a_check_parts)))
  (l_check_parts : K.lookup a_check_parts = some ⟨o1_check_parts, o2_check_parts, .func (PySem.W.fnOf "check_parts" "check_parts" (defArgs s_check_parts) (defBody s_check_parts) (defScope s_check_parts) .none v1_check_parts v2_check_parts v3_check_parts n_check_parts v4_check_parts v5_check_parts), sl_check_parts⟩)
  (c_check_parts : PySem.W.codeIn K v4_check_parts "check_parts" = true)
  (k_check_parts : PySem.W.keepIn K (.ref a_check_parts) = true)
  (g_Chart_keep : PySem.W.findIn K (.ref C_Chart) "keep" = some (some (.ref a_Chart_keep)))
  (i_Chart_keep : PySem.W.isFn K (.ref a_Chart_keep) = true)
  (l_Chart_keep : K.lookup a_Chart_keep = some ⟨o1_Chart_keep, o2_Chart_keep, .func (PySem.W.fnOf "keep" "Chart.keep" (defArgs s_Chart_keep) (defBody s_Chart_keep) (defScope s_Chart_keep) .none v1_Chart_keep v2_Chart_keep v3_Chart_keep n_Chart_keep v4_Chart_keep v5_Chart_keep), sl_Chart_keep⟩)
  (c_Chart_keep : PySem.W.codeIn K v4_Chart_keep "Chart.keep" = true)
  (k_Chart_keep : PySem.W.keepIn K (.ref a_Chart_keep) = true)
  (g_Chart___init__ : PySem.W.findIn K (.ref C_Chart) "__init__" = some (some (.ref a_Chart___init__)))
  (i_Chart___init__ : PySem.W.isFn K (.ref a_Chart___init__) = true)
  (l_Chart___init__ : K.lookup a_Chart___init__ = some ⟨o1_Chart___init__, o2_Chart___init__, .func (PySem.W.fnOf "__init__" "Chart.__init__" (defArgs s_Chart___init__) (defBody s_Chart___init__) (defScope s_Chart___init__) .none v1_Chart___init__ v2_Chart___init__ v3_Chart___init__ n_Chart___init__ v4_Chart___init__ v5_Chart___init__), sl_Chart___init__⟩)
  (c_Chart___init__ : PySem.W.codeIn K v4_Chart___init__ "Chart.__init__" = true)
  (k_Chart___init__ : PySem.W.keepIn K (.ref a_Chart___init__) = true)
  (g_Chart___eq__ : PySem.W.findIn K (.ref C_Chart) "__eq__" = some (some (.ref a_Chart___eq__)))
  (i_Chart___eq__ : PySem.W.isFn K (.ref a_Chart___eq__) = true)
  (l_Chart___eq__ : K.lookup a_Chart___eq__ = some ⟨o1_Chart___eq__, o2_Chart___eq__, .func (PySem.W.fnOf "__eq__" "Chart.__eq__" (defArgs s_Chart___eq__) (defBody s_Chart___eq__) (defScope s_Chart___eq__) .none v1_Chart___eq__ v2_Chart___eq__ v3_Chart___eq__ n_Chart___eq__ v4_Chart___eq__ v5_Chart___eq__), sl_Chart___eq__⟩)
  (c_Chart___eq__ : PySem.W.codeIn K v4_Chart___eq__ "Chart.__eq__" = true)
  (k_Chart___eq__ : PySem.W.keepIn K (.ref a_Chart___eq__) = true)
  (g_is_sum : PySem.W.nsIn K mainGlobals "is_sum" = some (some (.ref a_is_sum)))
  (l_is_sum : K.lookup a_is_sum = some ⟨o1_is_sum, o2_is_sum, .func (PySem.W.fnOf "is_sum" "is_sum" (defArgs s_is_sum) (defBody s_is_sum) (defScope s_is_sum) .none v1_is_sum v2_is_sum v3_is_sum n_is_sum v4_is_sum v5_is_sum), sl_is_sum⟩)
  (c_is_sum : PySem.W.codeIn K v4_is_sum "is_sum" = true)
  (k_is_sum : PySem.W.keepIn K (.ref a_is_sum) = true)
  (g_is_test : PySem.W.nsIn K mainGlobals "is_test" = some (some (.ref a_is_test)))
  (l_is_test : K.lookup a_is_test = some ⟨o1_is_test, o2_is_test, .func (PySem.W.fnOf "is_test" "is_test" (defArgs s_is_test) (defBody s_is_test) (defScope s_is_test) .none v1_is_test v2_is_test v3_is_test n_is_test v4_is_test v5_is_test), sl_is_test⟩)
  (c_is_test : PySem.W.codeIn K v4_is_test "is_test" = true)
  (k_is_test : PySem.W.keepIn K (.ref a_is_test) = true)
  (g_statement_size : PySem.W.nsIn K mainGlobals "statement_size" = some (some (.ref a_statement_size)))
  (l_statement_size : K.lookup a_statement_size = some ⟨o1_statement_size, o2_statement_size, .func (PySem.W.fnOf "statement_size" "statement_size" (defArgs s_statement_size) (defBody s_statement_size) (defScope s_statement_size) .none v1_statement_size v2_statement_size v3_statement_size n_statement_size v4_statement_size v5_statement_size), sl_statement_size⟩)
  (c_statement_size : PySem.W.codeIn K v4_statement_size "statement_size" = true)
  (k_statement_size : PySem.W.keepIn K (.ref a_statement_size) = true)
  (g_body_size : PySem.W.nsIn K mainGlobals "body_size" = some (some (.ref a_body_size)))
  (l_body_size : K.lookup a_body_size = some ⟨o1_body_size, o2_body_size, .func (PySem.W.fnOf "body_size" "body_size" (defArgs s_body_size) (defBody s_body_size) (defScope s_body_size) .none v1_body_size v2_body_size v3_body_size n_body_size v4_body_size v5_body_size), sl_body_size⟩)
  (c_body_size : PySem.W.codeIn K v4_body_size "body_size" = true)
  (k_body_size : PySem.W.keepIn K (.ref a_body_size) = true)
  (g_wrong_part : PySem.W.nsIn K mainGlobals "wrong_part" = some (some (.ref a_wrong_part)))
  (l_wrong_part : K.lookup a_wrong_part = some ⟨o1_wrong_part, o2_wrong_part, .func (PySem.W.fnOf "wrong_part" "wrong_part" (defArgs s_wrong_part) (defBody s_wrong_part) (defScope s_wrong_part) .none v1_wrong_part v2_wrong_part v3_wrong_part n_wrong_part v4_wrong_part v5_wrong_part), sl_wrong_part⟩)
  (c_wrong_part : PySem.W.codeIn K v4_wrong_part "wrong_part" = true)
  (k_wrong_part : PySem.W.keepIn K (.ref a_wrong_part) = true)
  (g_Book___init__ : PySem.W.findIn K (.ref C_Book) "__init__" = some (some (.ref a_Book___init__)))
  (i_Book___init__ : PySem.W.isFn K (.ref a_Book___init__) = true)
  (l_Book___init__ : K.lookup a_Book___init__ = some ⟨o1_Book___init__, o2_Book___init__, .func (PySem.W.fnOf "__init__" "Book.__init__" (defArgs s_Book___init__) (defBody s_Book___init__) (defScope s_Book___init__) .none v1_Book___init__ v2_Book___init__ v3_Book___init__ n_Book___init__ v4_Book___init__ v5_Book___init__), sl_Book___init__⟩)
  (c_Book___init__ : PySem.W.codeIn K v4_Book___init__ "Book.__init__" = true)
  (k_Book___init__ : PySem.W.keepIn K (.ref a_Book___init__) = true)
  (g_Book___eq__ : PySem.W.findIn K (.ref C_Book) "__eq__" = some (some (.ref a_Book___eq__)))
  (i_Book___eq__ : PySem.W.isFn K (.ref a_Book___eq__) = true)
  (l_Book___eq__ : K.lookup a_Book___eq__ = some ⟨o1_Book___eq__, o2_Book___eq__, .func (PySem.W.fnOf "__eq__" "Book.__eq__" (defArgs s_Book___eq__) (defBody s_Book___eq__) (defScope s_Book___eq__) .none v1_Book___eq__ v2_Book___eq__ v3_Book___eq__ n_Book___eq__ v4_Book___eq__ v5_Book___eq__), sl_Book___eq__⟩)
  (c_Book___eq__ : PySem.W.codeIn K v4_Book___eq__ "Book.__eq__" = true)
  (k_Book___eq__ : PySem.W.keepIn K (.ref a_Book___eq__) = true)
  (g__law_hand : PySem.W.nsIn K mainGlobals "_law_hand" = some (some (.ref a__law_hand)))
  (l__law_hand : K.lookup a__law_hand = some ⟨o1__law_hand, o2__law_hand, .func (PySem.W.fnOf "_law_hand" "_law_hand" (defArgs s__law_hand) (defBody s__law_hand) (defScope s__law_hand) .none v1__law_hand v2__law_hand v3__law_hand n__law_hand v4__law_hand v5__law_hand), sl__law_hand⟩)
  (c__law_hand : PySem.W.codeIn K v4__law_hand "_law_hand" = true)
  (k__law_hand : PySem.W.keepIn K (.ref a__law_hand) = true)
  (g__law_draw : PySem.W.nsIn K mainGlobals "_law_draw" = some (some (.ref a__law_draw)))
  (l__law_draw : K.lookup a__law_draw = some ⟨o1__law_draw, o2__law_draw, .func (PySem.W.fnOf "_law_draw" "_law_draw" (defArgs s__law_draw) (defBody s__law_draw) (defScope s__law_draw) .none v1__law_draw v2__law_draw v3__law_draw n__law_draw v4__law_draw v5__law_draw), sl__law_draw⟩)
  (c__law_draw : PySem.W.codeIn K v4__law_draw "_law_draw" = true)
  (k__law_draw : PySem.W.keepIn K (.ref a__law_draw) = true)
  (g__law_any : PySem.W.nsIn K mainGlobals "_law_any" = some (some (.ref a__law_any)))
  (l__law_any : K.lookup a__law_any = some ⟨o1__law_any, o2__law_any, .func (PySem.W.fnOf "_law_any" "_law_any" (defArgs s__law_any) (defBody s__law_any) (defScope s__law_any) .none v1__law_any v2__law_any v3__law_any n__law_any v4__law_any v5__law_any), sl__law_any⟩)
  (c__law_any : PySem.W.codeIn K v4__law_any "_law_any" = true)
  (k__law_any : PySem.W.keepIn K (.ref a__law_any) = true)
  (g__law_is : PySem.W.nsIn K mainGlobals "_law_is" = some (some (.ref a__law_is)))
  (l__law_is : K.lookup a__law_is = some ⟨o1__law_is, o2__law_is, .func (PySem.W.fnOf "_law_is" "_law_is" (defArgs s__law_is) (defBody s__law_is) (defScope s__law_is) .none v1__law_is v2__law_is v3__law_is n__law_is v4__law_is v5__law_is), sl__law_is⟩)
  (c__law_is : PySem.W.codeIn K v4__law_is "_law_is" = true)
  (k__law_is : PySem.W.keepIn K (.ref a__law_is) = true)
  (g__law_nested : PySem.W.nsIn K mainGlobals "_law_nested" = some (some (.ref a__law_nested)))
  (l__law_nested : K.lookup a__law_nested = some ⟨o1__law_nested, o2__law_nested, .func (PySem.W.fnOf "_law_nested" "_law_nested" (defArgs s__law_nested) (defBody s__law_nested) (defScope s__law_nested) .none v1__law_nested v2__law_nested v3__law_nested n__law_nested v4__law_nested v5__law_nested), sl__law_nested⟩)
  (c__law_nested : PySem.W.codeIn K v4__law_nested "_law_nested" = true)
  (k__law_nested : PySem.W.keepIn K (.ref a__law_nested) = true)
  (g__law_int : PySem.W.nsIn K mainGlobals "_law_int" = some (some (.ref a__law_int)))
  (l__law_int : K.lookup a__law_int = some ⟨o1__law_int, o2__law_int, .func (PySem.W.fnOf "_law_int" "_law_int" (defArgs s__law_int) (defBody s__law_int) (defScope s__law_int) .none v1__law_int v2__law_int v3__law_int n__law_int v4__law_int v5__law_int), sl__law_int⟩)
  (c__law_int : PySem.W.codeIn K v4__law_int "_law_int" = true)
  (k__law_int : PySem.W.keepIn K (.ref a__law_int) = true)
  (g__law_sum : PySem.W.nsIn K mainGlobals "_law_sum" = some (some (.ref a__law_sum)))
  (l__law_sum : K.lookup a__law_sum = some ⟨o1__law_sum, o2__law_sum, .func (PySem.W.fnOf "_law_sum" "_law_sum" (defArgs s__law_sum) (defBody s__law_sum) (defScope s__law_sum) .none v1__law_sum v2__law_sum v3__law_sum n__law_sum v4__law_sum v5__law_sum), sl__law_sum⟩)
  (c__law_sum : PySem.W.codeIn K v4__law_sum "_law_sum" = true)
  (k__law_sum : PySem.W.keepIn K (.ref a__law_sum) = true)
  (g__law_alone : PySem.W.nsIn K mainGlobals "_law_alone" = some (some (.ref a__law_alone)))
  (l__law_alone : K.lookup a__law_alone = some ⟨o1__law_alone, o2__law_alone, .func (PySem.W.fnOf "_law_alone" "_law_alone" (defArgs s__law_alone) (defBody s__law_alone) (defScope s__law_alone) .none v1__law_alone v2__law_alone v3__law_alone n__law_alone v4__law_alone v5__law_alone), sl__law_alone⟩)
  (c__law_alone : PySem.W.codeIn K v4__law_alone "_law_alone" = true)
  (k__law_alone : PySem.W.keepIn K (.ref a__law_alone) = true)
  (g__law_test : PySem.W.nsIn K mainGlobals "_law_test" = some (some (.ref a__law_test)))
  (l__law_test : K.lookup a__law_test = some ⟨o1__law_test, o2__law_test, .func (PySem.W.fnOf "_law_test" "_law_test" (defArgs s__law_test) (defBody s__law_test) (defScope s__law_test) .none v1__law_test v2__law_test v3__law_test n__law_test v4__law_test v5__law_test), sl__law_test⟩)
  (c__law_test : PySem.W.codeIn K v4__law_test "_law_test" = true)
  (k__law_test : PySem.W.keepIn K (.ref a__law_test) = true)
  (g__law_size : PySem.W.nsIn K mainGlobals "_law_size" = some (some (.ref a__law_size)))
  (l__law_size : K.lookup a__law_size = some ⟨o1__law_size, o2__law_size, .func (PySem.W.fnOf "_law_size" "_law_size" (defArgs s__law_size) (defBody s__law_size) (defScope s__law_size) .none v1__law_size v2__law_size v3__law_size n__law_size v4__law_size v5__law_size), sl__law_size⟩)
  (c__law_size : PySem.W.codeIn K v4__law_size "_law_size" = true)
  (k__law_size : PySem.W.keepIn K (.ref a__law_size) = true)
  (g__law_statement : PySem.W.nsIn K mainGlobals "_law_statement" = some (some (.ref a__law_statement)))
  (l__law_statement : K.lookup a__law_statement = some ⟨o1__law_statement, o2__law_statement, .func (PySem.W.fnOf "_law_statement" "_law_statement" (defArgs s__law_statement) (defBody s__law_statement) (defScope s__law_statement) .none v1__law_statement v2__law_statement v3__law_statement n__law_statement v4__law_statement v5__law_statement), sl__law_statement⟩)
  (c__law_statement : PySem.W.codeIn K v4__law_statement "_law_statement" = true)
  (k__law_statement : PySem.W.keepIn K (.ref a__law_statement) = true)
  (g__law_body : PySem.W.nsIn K mainGlobals "_law_body" = some (some (.ref a__law_body)))
  (l__law_body : K.lookup a__law_body = some ⟨o1__law_body, o2__law_body, .func (PySem.W.fnOf "_law_body" "_law_body" (defArgs s__law_body) (defBody s__law_body) (defScope s__law_body) .none v1__law_body v2__law_body v3__law_body n__law_body v4__law_body v5__law_body), sl__law_body⟩)
  (c__law_body : PySem.W.codeIn K v4__law_body "_law_body" = true)
  (k__law_body : PySem.W.keepIn K (.ref a__law_body) = true)
  (g__law_parts : PySem.W.nsIn K mainGlobals "_law_parts" = some (some (.ref a__law_parts)))
  (l__law_parts : K.lookup a__law_parts = some ⟨o1__law_parts, o2__law_parts, .func (PySem.W.fnOf "_law_parts" "_law_parts" (defArgs s__law_parts) (defBody s__law_parts) (defScope s__law_parts) .none v1__law_parts v2__law_parts v3__law_parts n__law_parts v4__law_parts v5__law_parts), sl__law_parts⟩)
  (c__law_parts : PySem.W.codeIn K v4__law_parts "_law_parts" = true)
  (k__law_parts : PySem.W.keepIn K (.ref a__law_parts) = true)
  (g__law_odd : PySem.W.nsIn K mainGlobals "_law_odd" = some (some (.ref a__law_odd)))
  (l__law_odd : K.lookup a__law_odd = some ⟨o1__law_odd, o2__law_odd, .func (PySem.W.fnOf "_law_odd" "_law_odd" (defArgs s__law_odd) (defBody s__law_odd) (defScope s__law_odd) .none v1__law_odd v2__law_odd v3__law_odd n__law_odd v4__law_odd v5__law_odd), sl__law_odd⟩)
  (c__law_odd : PySem.W.codeIn K v4__law_odd "_law_odd" = true)
  (k__law_odd : PySem.W.keepIn K (.ref a__law_odd) = true)
  (g__law_bent : PySem.W.nsIn K mainGlobals "_law_bent" = some (some (.ref a__law_bent)))
  (l__law_bent : K.lookup a__law_bent = some ⟨o1__law_bent, o2__law_bent, .func (PySem.W.fnOf "_law_bent" "_law_bent" (defArgs s__law_bent) (defBody s__law_bent) (defScope s__law_bent) .none v1__law_bent v2__law_bent v3__law_bent n__law_bent v4__law_bent v5__law_bent), sl__law_bent⟩)
  (c__law_bent : PySem.W.codeIn K v4__law_bent "_law_bent" = true)
  (k__law_bent : PySem.W.keepIn K (.ref a__law_bent) = true)
  (g__law_is_sum : PySem.W.nsIn K mainGlobals "_law_is_sum" = some (some (.ref a__law_is_sum)))
  (l__law_is_sum : K.lookup a__law_is_sum = some ⟨o1__law_is_sum, o2__law_is_sum, .func (PySem.W.fnOf "_law_is_sum" "_law_is_sum" (defArgs s__law_is_sum) (defBody s__law_is_sum) (defScope s__law_is_sum) .none v1__law_is_sum v2__law_is_sum v3__law_is_sum n__law_is_sum v4__law_is_sum v5__law_is_sum), sl__law_is_sum⟩)
  (c__law_is_sum : PySem.W.codeIn K v4__law_is_sum "_law_is_sum" = true)
  (k__law_is_sum : PySem.W.keepIn K (.ref a__law_is_sum) = true)
  (g__law_is_test : PySem.W.nsIn K mainGlobals "_law_is_test" = some (some (.ref a__law_is_test)))
  (l__law_is_test : K.lookup a__law_is_test = some ⟨o1__law_is_test, o2__law_is_test, .func (PySem.W.fnOf "_law_is_test" "_law_is_test" (defArgs s__law_is_test) (defBody s__law_is_test) (defScope s__law_is_test) .none v1__law_is_test v2__law_is_test v3__law_is_test n__law_is_test v4__law_is_test v5__law_is_test), sl__law_is_test⟩)
  (c__law_is_test : PySem.W.codeIn K v4__law_is_test "_law_is_test" = true)
  (k__law_is_test : PySem.W.keepIn K (.ref a__law_is_test) = true)
  (g__law_is_statement : PySem.W.nsIn K mainGlobals "_law_is_statement" = some (some (.ref a__law_is_statement)))
  (l__law_is_statement : K.lookup a__law_is_statement = some ⟨o1__law_is_statement, o2__law_is_statement, .func (PySem.W.fnOf "_law_is_statement" "_law_is_statement" (defArgs s__law_is_statement) (defBody s__law_is_statement) (defScope s__law_is_statement) .none v1__law_is_statement v2__law_is_statement v3__law_is_statement n__law_is_statement v4__law_is_statement v5__law_is_statement), sl__law_is_statement⟩)
  (c__law_is_statement : PySem.W.codeIn K v4__law_is_statement "_law_is_statement" = true)
  (k__law_is_statement : PySem.W.keepIn K (.ref a__law_is_statement) = true)
  (g__law_is_body : PySem.W.nsIn K mainGlobals "_law_is_body" = some (some (.ref a__law_is_body)))
  (l__law_is_body : K.lookup a__law_is_body = some ⟨o1__law_is_body, o2__law_is_body, .func (PySem.W.fnOf "_law_is_body" "_law_is_body" (defArgs s__law_is_body) (defBody s__law_is_body) (defScope s__law_is_body) .none v1__law_is_body v2__law_is_body v3__law_is_body n__law_is_body v4__law_is_body v5__law_is_body), sl__law_is_body⟩)
  (c__law_is_body : PySem.W.codeIn K v4__law_is_body "_law_is_body" = true)
  (k__law_is_body : PySem.W.keepIn K (.ref a__law_is_body) = true)
  (g__law_wrong : PySem.W.nsIn K mainGlobals "_law_wrong" = some (some (.ref a__law_wrong)))
  (l__law_wrong : K.lookup a__law_wrong = some ⟨o1__law_wrong, o2__law_wrong, .func (PySem.W.fnOf "_law_wrong" "_law_wrong" (defArgs s__law_wrong) (defBody s__law_wrong) (defScope s__law_wrong) .none v1__law_wrong v2__law_wrong v3__law_wrong n__law_wrong v4__law_wrong v5__law_wrong), sl__law_wrong⟩)
  (c__law_wrong : PySem.W.codeIn K v4__law_wrong "_law_wrong" = true)
  (k__law_wrong : PySem.W.keepIn K (.ref a__law_wrong) = true)
  (g__law_told_part : PySem.W.nsIn K mainGlobals "_law_told_part" = some (some (.ref a__law_told_part)))
  (l__law_told_part : K.lookup a__law_told_part = some ⟨o1__law_told_part, o2__law_told_part, .func (PySem.W.fnOf "_law_told_part" "_law_told_part" (defArgs s__law_told_part) (defBody s__law_told_part) (defScope s__law_told_part) .none v1__law_told_part v2__law_told_part v3__law_told_part n__law_told_part v4__law_told_part v5__law_told_part), sl__law_told_part⟩)
  (c__law_told_part : PySem.W.codeIn K v4__law_told_part "_law_told_part" = true)
  (k__law_told_part : PySem.W.keepIn K (.ref a__law_told_part) = true)
  (g__law_deep_body : PySem.W.nsIn K mainGlobals "_law_deep_body" = some (some (.ref a__law_deep_body)))
  (l__law_deep_body : K.lookup a__law_deep_body = some ⟨o1__law_deep_body, o2__law_deep_body, .func (PySem.W.fnOf "_law_deep_body" "_law_deep_body" (defArgs s__law_deep_body) (defBody s__law_deep_body) (defScope s__law_deep_body) .none v1__law_deep_body v2__law_deep_body v3__law_deep_body n__law_deep_body v4__law_deep_body v5__law_deep_body), sl__law_deep_body⟩)
  (c__law_deep_body : PySem.W.codeIn K v4__law_deep_body "_law_deep_body" = true)
  (k__law_deep_body : PySem.W.keepIn K (.ref a__law_deep_body) = true)
  (g__law_known_parts : PySem.W.nsIn K mainGlobals "_law_known_parts" = some (some (.ref a__law_known_parts)))
  (l__law_known_parts : K.lookup a__law_known_parts = some ⟨o1__law_known_parts, o2__law_known_parts, .func (PySem.W.fnOf "_law_known_parts" "_law_known_parts" (defArgs s__law_known_parts) (defBody s__law_known_parts) (defScope s__law_known_parts) .none v1__law_known_parts v2__law_known_parts v3__law_known_parts n__law_known_parts v4__law_known_parts v5__law_known_parts), sl__law_known_parts⟩)
  (c__law_known_parts : PySem.W.codeIn K v4__law_known_parts "_law_known_parts" = true)
  (k__law_known_parts : PySem.W.keepIn K (.ref a__law_known_parts) = true)
  (g_law : PySem.W.nsIn K mainGlobals "law" = some (some (.ref a_law)))
  (l_law : K.lookup a_law = some ⟨o1_law, o2_law, .func (PySem.W.fnOf "law" "law" (defArgs s_law) (defBody s_law) (defScope s_law) .none v1_law v2_law v3_law n_law v4_law v5_law), sl_law⟩)
  (c_law : PySem.W.codeIn K v4_law "law" = true)
  (k_law : PySem.W.keepIn K (.ref a_law) = true)
  (pg_Book : PySem.W.plainGet K C_Book Str.empty = true)
  (hd_Book : PySem.W.hasDictIn K C_Book = true)
  (po_Book : PySem.W.plainOver K C_Book = true)
  (sa_Book : PySem.W.findIn K (.ref C_Book) "__setattr__" = some (some (.builtin "object.__setattr__")))
  (mk_Book : PySem.W.makesIn K C_Book = true)
  (kc_Book : PySem.W.keepIn K (.ref C_Book) = true)
  (pg_Chart : PySem.W.plainGet K C_Chart Str.empty = true)
  (hd_Chart : PySem.W.hasDictIn K C_Chart = true)
  (po_Chart : PySem.W.plainOver K C_Chart = true)
  (sa_Chart : PySem.W.findIn K (.ref C_Chart) "__setattr__" = some (some (.builtin "object.__setattr__")))
  (mk_Chart : PySem.W.makesIn K C_Chart = true)
  (kc_Chart : PySem.W.keepIn K (.ref C_Chart) = true)
  (nf_Book_Book : PySem.W.notFirst K C_Book (.ref C_Book) = true)
  (nf_Book_Chart : PySem.W.notFirst K C_Book (.ref C_Chart) = true)
  (nt_Book : PySem.W.notFirst K C_Book (.type "tuple") = true)
  (ne_Book : PySem.W.findIn K (.ref C_Book) "__ne__" = some (some (.builtin "object.__ne__")))
  (nb_Book : PySem.W.subIn K (.ref C_Book) (.type "object") = some true)
  (nf_Chart_Book : PySem.W.notFirst K C_Chart (.ref C_Book) = true)
  (nf_Chart_Chart : PySem.W.notFirst K C_Chart (.ref C_Chart) = true)
  (nt_Chart : PySem.W.notFirst K C_Chart (.type "tuple") = true)
  (ne_Chart : PySem.W.findIn K (.ref C_Chart) "__ne__" = some (some (.builtin "object.__ne__")))
  (nb_Chart : PySem.W.subIn K (.ref C_Chart) (.type "object") = some true)
  (q_CALL : PySem.W.nsIn K mainGlobals "CALL" = some (some (.str "call" t_CALL)))
  (q_LESS : PySem.W.nsIn K mainGlobals "LESS" = some (some (.str "less" t_LESS)))
  (q_MOST_ARROWS : PySem.W.nsIn K mainGlobals "MOST_ARROWS" = some (some (.int 80 t_MOST_ARROWS)))
  (q_MOST_CELLS : PySem.W.nsIn K mainGlobals "MOST_CELLS" = some (some (.int 4 t_MOST_CELLS)))
  (q_MOST_DEEP : PySem.W.nsIn K mainGlobals "MOST_DEEP" = some (some (.int 8 t_MOST_DEEP)))
  (q_MOST_MULTIPLE : PySem.W.nsIn K mainGlobals "MOST_MULTIPLE" = some (some (.int 1000 t_MOST_MULTIPLE)))
  (q_MOST_PLACES_books : PySem.W.nsIn K mainGlobals "MOST_PLACES_books" = some (some (.int 40 t_MOST_PLACES_books)))
  (q_MOST_PLACES_charts : PySem.W.nsIn K mainGlobals "MOST_PLACES_charts" = some (some (.int 40 t_MOST_PLACES_charts)))
  (q_MOST_PRICE : PySem.W.nsIn K mainGlobals "MOST_PRICE" = some (some (.int 1000 t_MOST_PRICE)))
  (q_MOST_ROUTINES : PySem.W.nsIn K mainGlobals "MOST_ROUTINES" = some (some (.int 5 t_MOST_ROUTINES)))
  (q_SAME : PySem.W.nsIn K mainGlobals "SAME" = some (some (.str "same" t_SAME)))
  (q_SAY : PySem.W.nsIn K mainGlobals "SAY" = some (some (.str "say" t_SAY)))
  (q_SET : PySem.W.nsIn K mainGlobals "SET" = some (some (.str "set" t_SET)))
  (kk_BadBook_ChartError : PySem.W.kitOne K (.ref C_BadBook) (.ref C_ChartError) = some true)
  (kk_BadBook_ValueError : PySem.W.kitOne K (.ref C_BadBook) (.type "ValueError") = some true)
  (n_Book_cells : PySem.W.findIn K (.ref C_Book) "cells" = some none)
  (n_Book_routines : PySem.W.findIn K (.ref C_Book) "routines" = some none)
  (n_Chart_ahead : PySem.W.findIn K (.ref C_Chart) "ahead" = some none)
  (n_Chart_all_rims : PySem.W.findIn K (.ref C_Chart) "all_rims" = some none)
  (n_Chart_arrows : PySem.W.findIn K (.ref C_Chart) "arrows" = some none)
  (n_Chart_numbers : PySem.W.findIn K (.ref C_Chart) "numbers" = some none)
  (n_Chart_outer : PySem.W.findIn K (.ref C_Chart) "outer" = some none)
  (n_Chart_places : PySem.W.findIn K (.ref C_Chart) "places" = some none)
  (n_Chart_prices : PySem.W.findIn K (.ref C_Chart) "prices" = some none)
  (n_Chart_rounds : PySem.W.findIn K (.ref C_Chart) "rounds" = some none)
  (lk_BadBook : K.lookup C_BadBook = some (excClassObj nm_BadBook q_BadBook C_BadBook N_BadBook bs_BadBook bm_BadBook true sn_BadBook sub_BadBook ab_BadBook col_BadBook dd_BadBook k0_BadBook k1_BadBook k2_BadBook k3_BadBook k5_BadBook "ValueError.__new__"))
  (rf_BadBook : PySem.HandSPX.refsVE bm_BadBook = true)
  (psa_BadBook : PySem.W.findIn K (.ref C_BadBook) "__setattr__" = some (some (.builtin "object.__setattr__")))
  (pga_BadBook : PySem.W.findIn K (.ref C_BadBook) "__getattribute__" = some (some (.builtin "BaseException.__getattribute__")))
  (pgg_BadBook : PySem.W.findIn K (.ref C_BadBook) "__getattr__" = some none)
  (pno_BadBook : PySem.W.findIn K (.ref C_BadBook) "part" = some none)
  (piC_BadBook : PySem.W.findIn K (.ref C_BadBook) "__init__" = some (some (.ref aI_BadBook)))
  (ptC_BadBook : PySem.W.typeIn K (.ref aI_BadBook) = some (.type "function"))
  (pkC_BadBook : PySem.W.keepIn K (.ref C_BadBook) = true)
  (pex_BadBook : PySem.W.subIn K (.ref C_BadBook) (.type "BaseException") = some true)
  (pty_BadBook : PySem.W.typeIn K (.ref C_BadBook) = some (.type "type"))
  (phd_BadBook : PySem.W.hasDictIn K C_BadBook = true)
  (pte_BadBook : PySem.W.exmOne K (.ref C_BadBook) (.ref C_BadBook) = some true)
  (lf_BadBook : K.lookup aI_BadBook = some ⟨oc_BadBook, od_BadBook, .func (PySem.W.fnOf "__init__" "BadBook.__init__" (PySem.PartX.iA p1_BadBook p2_BadBook) (PySem.PartX.iB q1_BadBook q2_BadBook q3_BadBook q4_BadBook) PySem.PartX.iS .none .none doc_BadBook pm_BadBook an_BadBook cdv_BadBook ct_BadBook), osl_BadBook⟩)
  (cf_BadBook : PySem.W.codeIn K cdv_BadBook "BadBook.__init__" = true)
  (xcl_BadBook : (PySem.W.clsIn K C_BadBook).isSome = true)
  (xat_BadBook : PySem.W.findIn K (.ref C_BadBook) "__class__" = some (some (.builtin "object.__class__")))
  (xmr_BadBook : PySem.W.mroIn K C_BadBook (.type "object") = some true)
  (z_ValueError : PySem.W.nsIn K mainGlobals "ValueError" = some none)
  (z_abs : PySem.W.nsIn K mainGlobals "abs" = some none)
  (z_all : PySem.W.nsIn K mainGlobals "all" = some none)
  (z_bool : PySem.W.nsIn K mainGlobals "bool" = some none)
  (z_enumerate : PySem.W.nsIn K mainGlobals "enumerate" = some none)
  (z_int : PySem.W.nsIn K mainGlobals "int" = some none)
  (z_isinstance : PySem.W.nsIn K mainGlobals "isinstance" = some none)
  (z_len : PySem.W.nsIn K mainGlobals "len" = some none)
  (z_list : PySem.W.nsIn K mainGlobals "list" = some none)
  (z_min : PySem.W.nsIn K mainGlobals "min" = some none)
  (z_range : PySem.W.nsIn K mainGlobals "range" = some none)
  (z_sorted : PySem.W.nsIn K mainGlobals "sorted" = some none)
  (z_str : PySem.W.nsIn K mainGlobals "str" = some none)
  (z_sum : PySem.W.nsIn K mainGlobals "sum" = some none)
  (z_tuple : PySem.W.nsIn K mainGlobals "tuple" = some none)
  (z_zip : PySem.W.nsIn K mainGlobals "zip" = some none)
  (xgt : PySem.W.specialIn K (.builtin "object.__class__") "__get__" = some (some (.builtin "getset_descriptor.__get__")))
  (xtk : PySem.W.takesIn K (.builtin "object.__class__") = some true)
  (oa_Book : PySem.W.findIn K (.ref C_Book) "__class__" = some (some (.builtin "object.__class__")))
  (om_Book : PySem.W.mroIn K C_Book (.type "object") = some true)
  (ob_Book_NoneType : PySem.W.kitOne K (.ref C_Book) (.type "NoneType") = some false)
  (oo_Book_NoneType : PySem.W.kitOne K (.type "NoneType") (.ref C_Book) = some false)
  (ob_Book_bool : PySem.W.kitOne K (.ref C_Book) (.type "bool") = some false)
  (oo_Book_bool : PySem.W.kitOne K (.type "bool") (.ref C_Book) = some false)
  (ob_Book_int : PySem.W.kitOne K (.ref C_Book) (.type "int") = some false)
  (oo_Book_int : PySem.W.kitOne K (.type "int") (.ref C_Book) = some false)
  (ob_Book_str : PySem.W.kitOne K (.ref C_Book) (.type "str") = some false)
  (oo_Book_str : PySem.W.kitOne K (.type "str") (.ref C_Book) = some false)
  (ob_Book_tuple : PySem.W.kitOne K (.ref C_Book) (.type "tuple") = some false)
  (oo_Book_tuple : PySem.W.kitOne K (.type "tuple") (.ref C_Book) = some false)
  (ob_Book_list : PySem.W.kitOne K (.ref C_Book) (.type "list") = some false)
  (oo_Book_list : PySem.W.kitOne K (.type "list") (.ref C_Book) = some false)
  (ob_Book_dict : PySem.W.kitOne K (.ref C_Book) (.type "dict") = some false)
  (oo_Book_dict : PySem.W.kitOne K (.type "dict") (.ref C_Book) = some false)
  (oc_Book_Book : PySem.W.kitOne K (.ref C_Book) (.ref C_Book) = some true)
  (oc_Book_Chart : PySem.W.kitOne K (.ref C_Book) (.ref C_Chart) = some false)
  (oa_Chart : PySem.W.findIn K (.ref C_Chart) "__class__" = some (some (.builtin "object.__class__")))
  (om_Chart : PySem.W.mroIn K C_Chart (.type "object") = some true)
  (ob_Chart_NoneType : PySem.W.kitOne K (.ref C_Chart) (.type "NoneType") = some false)
  (oo_Chart_NoneType : PySem.W.kitOne K (.type "NoneType") (.ref C_Chart) = some false)
  (ob_Chart_bool : PySem.W.kitOne K (.ref C_Chart) (.type "bool") = some false)
  (oo_Chart_bool : PySem.W.kitOne K (.type "bool") (.ref C_Chart) = some false)
  (ob_Chart_int : PySem.W.kitOne K (.ref C_Chart) (.type "int") = some false)
  (oo_Chart_int : PySem.W.kitOne K (.type "int") (.ref C_Chart) = some false)
  (ob_Chart_str : PySem.W.kitOne K (.ref C_Chart) (.type "str") = some false)
  (oo_Chart_str : PySem.W.kitOne K (.type "str") (.ref C_Chart) = some false)
  (ob_Chart_tuple : PySem.W.kitOne K (.ref C_Chart) (.type "tuple") = some false)
  (oo_Chart_tuple : PySem.W.kitOne K (.type "tuple") (.ref C_Chart) = some false)
  (ob_Chart_list : PySem.W.kitOne K (.ref C_Chart) (.type "list") = some false)
  (oo_Chart_list : PySem.W.kitOne K (.type "list") (.ref C_Chart) = some false)
  (ob_Chart_dict : PySem.W.kitOne K (.ref C_Chart) (.type "dict") = some false)
  (oo_Chart_dict : PySem.W.kitOne K (.type "dict") (.ref C_Chart) = some false)
  (oc_Chart_Book : PySem.W.kitOne K (.ref C_Chart) (.ref C_Book) = some false)
  (oc_Chart_Chart : PySem.W.kitOne K (.ref C_Chart) (.ref C_Chart) = some true)
  (qS : PySem.W.nsIn K mainGlobals "SIZES" = some (some (.ref aS))) (dS1 : K.lookup aS = some ⟨.type "dict", none, .dict eS nS, #[]⟩) (dS2 : PySem.W.KeysLit w.params eS.toList) (dS3 : (aS == sysModules) = false) (kS0 : TabE eS.toList tab_SIZES)
  : ∃ fd : FuncData, (∀ (s : Shared) (v : Value), BindsTo s fd ⟨[v], []⟩ [("script", v)]) ∧ ∀ base : Heap, K.In base → base.Ns mainGlobals mg → FnOk l.prog w K mg base CX0 62 fa fd ["script"] (spLaw K) := by
  have e := hfa.symm.trans (PySem.W.mg_of X G g_law)
  cases e
  have T : Txt w K mg (clOf [C_Book, C_Chart, 0, 0, C_BadBook, 0, 0, 0, C_BadChart, 0, 0, 0, C_ChartError]) aS eS nS aI_BadBook := ⟨PySem.W.mg_of X G aC_Book, PySem.W.mg_of X G aC_Chart, PySem.W.mg_of X G aC_ChartError, all2 nf_Book_Book nf_Book_Chart, nt_Book, ne_Book, nb_Book, all2 nf_Chart_Book nf_Chart_Chart, nt_Chart, ne_Chart, nb_Chart, ⟨_, PySem.W.mg_of X G q_CALL⟩, ⟨_, PySem.W.mg_of X G q_LESS⟩, ⟨_, PySem.W.mg_of X G q_MOST_ARROWS⟩, ⟨_, PySem.W.mg_of X G q_MOST_CELLS⟩, ⟨_, PySem.W.mg_of X G q_MOST_DEEP⟩, ⟨_, PySem.W.mg_of X G q_MOST_MULTIPLE⟩, ⟨_, PySem.W.mg_of X G q_MOST_PLACES_books⟩, ⟨_, PySem.W.mg_of X G q_MOST_PLACES_charts⟩, ⟨_, PySem.W.mg_of X G q_MOST_PRICE⟩, ⟨_, PySem.W.mg_of X G q_MOST_ROUTINES⟩, ⟨_, PySem.W.mg_of X G q_SAME⟩, ⟨_, PySem.W.mg_of X G q_SAY⟩, ⟨_, PySem.W.mg_of X G q_SET⟩, kk_BadBook_ChartError, kk_BadBook_ValueError, ⟨⟨pg_Book, hd_Book, po_Book, sa_Book⟩, n_Book_cells⟩, ⟨⟨pg_Book, hd_Book, po_Book, sa_Book⟩, n_Book_routines⟩, ⟨⟨pg_Chart, hd_Chart, po_Chart, sa_Chart⟩, n_Chart_ahead⟩, ⟨⟨pg_Chart, hd_Chart, po_Chart, sa_Chart⟩, n_Chart_all_rims⟩, ⟨⟨pg_Chart, hd_Chart, po_Chart, sa_Chart⟩, n_Chart_arrows⟩, ⟨⟨pg_Chart, hd_Chart, po_Chart, sa_Chart⟩, n_Chart_numbers⟩, ⟨⟨pg_Chart, hd_Chart, po_Chart, sa_Chart⟩, n_Chart_outer⟩, ⟨⟨pg_Chart, hd_Chart, po_Chart, sa_Chart⟩, n_Chart_places⟩, ⟨⟨pg_Chart, hd_Chart, po_Chart, sa_Chart⟩, n_Chart_prices⟩, ⟨⟨pg_Chart, hd_Chart, po_Chart, sa_Chart⟩, n_Chart_rounds⟩, ⟨PySem.W.mg_of X G aC_BadBook, ⟨_, _, _, _, _, _, _, _, _, _, _, _, _, _, _, lk_BadBook, rf_BadBook⟩, psa_BadBook, pga_BadBook, pgg_BadBook, pno_BadBook, piC_BadBook, ptC_BadBook, pkC_BadBook, pex_BadBook, pty_BadBook, phd_BadBook, pte_BadBook, ⟨_, _, _, _, _, _, _, _, _, _, _, _, _, _, lf_BadBook, cf_BadBook⟩⟩, ⟨xcl_BadBook, pga_BadBook, pgg_BadBook, pex_BadBook, xat_BadBook, xgt, xtk, xmr_BadBook⟩, PySem.W.mg_none_of X G z_ValueError, PySem.W.mg_none_of X G z_abs, PySem.W.mg_none_of X G z_all, PySem.W.mg_none_of X G z_bool, PySem.W.mg_none_of X G z_enumerate, PySem.W.mg_none_of X G z_int, PySem.W.mg_none_of X G z_isinstance, PySem.W.mg_none_of X G z_len, PySem.W.mg_none_of X G z_list, PySem.W.mg_none_of X G z_min, PySem.W.mg_none_of X G z_range, PySem.W.mg_none_of X G z_sorted, PySem.W.mg_none_of X G z_str, PySem.W.mg_none_of X G z_sum, PySem.W.mg_none_of X G z_tuple, PySem.W.mg_none_of X G z_zip, ⟨dS1, dS2, dS3⟩, ktab_of dS1 kS0, PySem.W.mg_of X G qS, ⟨all2 ⟨⟨pg_Book, hd_Book, po_Book, sa_Book⟩, oa_Book, om_Book⟩ ⟨⟨pg_Chart, hd_Chart, po_Chart, sa_Chart⟩, oa_Chart, om_Chart⟩, xgt, xtk, all2 (allK ob_Book_NoneType ob_Book_bool ob_Book_int ob_Book_str ob_Book_tuple ob_Book_list ob_Book_dict) (allK ob_Chart_NoneType ob_Chart_bool ob_Chart_int ob_Chart_str ob_Chart_tuple ob_Chart_list ob_Chart_dict), all2 (allK oo_Book_NoneType oo_Book_bool oo_Book_int oo_Book_str oo_Book_tuple oo_Book_list oo_Book_dict) (allK oo_Chart_NoneType oo_Chart_bool oo_Chart_int oo_Chart_str oo_Chart_tuple oo_Chart_list oo_Chart_dict), all2 (all2 oc_Book_Book oc_Book_Chart) (all2 oc_Chart_Book oc_Chart_Chart)⟩⟩
  obtain ⟨d_is_integer, F_is_integer, b_is_integer⟩ : ∃ fd, Fun K "is_integer" "is_integer" s_is_integer a_is_integer fd ∧ Binds K fd ["thing"] [] := ⟨_, fun_mk (st := s_is_integer) l_is_integer c_is_integer k_is_integer, (fun_mk (st := s_is_integer) l_is_integer c_is_integer k_is_integer).binds (ps := ["thing"]) fun _ _ _ _ _ _ us hl => match us, hl with | [_], _ => rfl⟩
  obtain ⟨d_is_within, F_is_within, b_is_within⟩ : ∃ fd, Fun K "is_within" "is_within" s_is_within a_is_within fd ∧ Binds K fd ["thing", "least", "most"] [] := ⟨_, fun_mk (st := s_is_within) l_is_within c_is_within k_is_within, (fun_mk (st := s_is_within) l_is_within c_is_within k_is_within).binds (ps := ["thing", "least", "most"]) fun _ _ _ _ _ _ us hl => match us, hl with | [_, _, _], _ => rfl⟩
  obtain ⟨d_is_pair, F_is_pair, b_is_pair⟩ : ∃ fd, Fun K "is_pair" "is_pair" s_is_pair a_is_pair fd ∧ Binds K fd ["thing"] [] := ⟨_, fun_mk (st := s_is_pair) l_is_pair c_is_pair k_is_pair, (fun_mk (st := s_is_pair) l_is_pair c_is_pair k_is_pair).binds (ps := ["thing"]) fun _ _ _ _ _ _ us hl => match us, hl with | [_], _ => rfl⟩
  obtain ⟨d_is_sized, F_is_sized, b_is_sized⟩ : ∃ fd, Fun K "is_sized" "is_sized" s_is_sized a_is_sized fd ∧ Binds K fd ["thing", "least", "most"] [] := ⟨_, fun_mk (st := s_is_sized) l_is_sized c_is_sized k_is_sized, (fun_mk (st := s_is_sized) l_is_sized c_is_sized k_is_sized).binds (ps := ["thing", "least", "most"]) fun _ _ _ _ _ _ us hl => match us, hl with | [_, _, _], _ => rfl⟩
  obtain ⟨d_place_at, F_place_at, b_place_at⟩ : ∃ fd, Fun K "place_at" "place_at" s_place_at a_place_at fd ∧ Binds K fd ["arrows", "end"] [] := ⟨_, fun_mk (st := s_place_at) l_place_at c_place_at k_place_at, (fun_mk (st := s_place_at) l_place_at c_place_at k_place_at).binds (ps := ["arrows", "end"]) fun _ _ _ _ _ _ us hl => match us, hl with | [_, _], _ => rfl⟩
  obtain ⟨d_is_arrow, F_is_arrow, b_is_arrow⟩ : ∃ fd, Fun K "is_arrow" "is_arrow" s_is_arrow a_is_arrow fd ∧ Binds K fd ["thing", "places"] [] := ⟨_, fun_mk (st := s_is_arrow) l_is_arrow c_is_arrow k_is_arrow, (fun_mk (st := s_is_arrow) l_is_arrow c_is_arrow k_is_arrow).binds (ps := ["thing", "places"]) fun _ _ _ _ _ _ us hl => match us, hl with | [_, _], _ => rfl⟩
  obtain ⟨d_is_round, F_is_round, b_is_round⟩ : ∃ fd, Fun K "is_round" "is_round" s_is_round a_is_round fd ∧ Binds K fd ["thing", "ends"] [] := ⟨_, fun_mk (st := s_is_round) l_is_round c_is_round k_is_round, (fun_mk (st := s_is_round) l_is_round c_is_round k_is_round).binds (ps := ["thing", "ends"]) fun _ _ _ _ _ _ us hl => match us, hl with | [_, _], _ => rfl⟩
  obtain ⟨d_is_price, F_is_price, b_is_price⟩ : ∃ fd, Fun K "is_price" "is_price" s_is_price a_is_price fd ∧ Binds K fd ["thing"] [] := ⟨_, fun_mk (st := s_is_price) l_is_price c_is_price k_is_price, (fun_mk (st := s_is_price) l_is_price c_is_price k_is_price).binds (ps := ["thing"]) fun _ _ _ _ _ _ us hl => match us, hl with | [_], _ => rfl⟩
  obtain ⟨d_ends_at, F_ends_at, b_ends_at⟩ : ∃ fd, Fun K "ends_at" "ends_at" s_ends_at a_ends_at fd ∧ Binds K fd ["arrows", "place"] [] := ⟨_, fun_mk (st := s_ends_at) l_ends_at c_ends_at k_ends_at, (fun_mk (st := s_ends_at) l_ends_at c_ends_at k_ends_at).binds (ps := ["arrows", "place"]) fun _ _ _ _ _ _ us hl => match us, hl with | [_, _], _ => rfl⟩
  obtain ⟨d_hang_together, F_hang_together, b_hang_together⟩ : ∃ fd, Fun K "hang_together" "hang_together" s_hang_together a_hang_together fd ∧ Binds K fd ["places", "arrows"] [] := ⟨_, fun_mk (st := s_hang_together) l_hang_together c_hang_together k_hang_together, (fun_mk (st := s_hang_together) l_hang_together c_hang_together k_hang_together).binds (ps := ["places", "arrows"]) fun _ _ _ _ _ _ us hl => match us, hl with | [_, _], _ => rfl⟩
  obtain ⟨d_begun_least, F_begun_least, b_begun_least⟩ : ∃ fd, Fun K "begun_least" "begun_least" s_begun_least a_begun_least fd ∧ Binds K fd ["items"] [] := ⟨_, fun_mk (st := s_begun_least) l_begun_least c_begun_least k_begun_least, (fun_mk (st := s_begun_least) l_begun_least c_begun_least k_begun_least).binds (ps := ["items"]) fun _ _ _ _ _ _ us hl => match us, hl with | [_], _ => rfl⟩
  obtain ⟨d_befores, F_befores, b_befores⟩ : ∃ fd, Fun K "befores" "befores" s_befores a_befores fd ∧ Binds K fd ["rounds", "many"] [] := ⟨_, fun_mk (st := s_befores) l_befores c_befores k_befores, (fun_mk (st := s_befores) l_befores c_befores k_befores).binds (ps := ["rounds", "many"]) fun _ _ _ _ _ _ us hl => match us, hl with | [_, _], _ => rfl⟩
  obtain ⟨d_other_end, F_other_end, b_other_end⟩ : ∃ fd, Fun K "other_end" "other_end" s_other_end a_other_end fd ∧ Binds K fd ["end"] [] := ⟨_, fun_mk (st := s_other_end) l_other_end c_other_end k_other_end, (fun_mk (st := s_other_end) l_other_end c_other_end k_other_end).binds (ps := ["end"]) fun _ _ _ _ _ _ us hl => match us, hl with | [_], _ => rfl⟩
  obtain ⟨d_walked, F_walked, b_walked⟩ : ∃ fd, Fun K "walked" "walked" s_walked a_walked fd ∧ Binds K fd ["ahead", "angle"] [] := ⟨_, fun_mk (st := s_walked) l_walked c_walked k_walked, (fun_mk (st := s_walked) l_walked c_walked k_walked).binds (ps := ["ahead", "angle"]) fun _ _ _ _ _ _ us hl => match us, hl with | [_, _], _ => rfl⟩
  obtain ⟨d_rims_by, F_rims_by, b_rims_by⟩ : ∃ fd, Fun K "rims_by" "rims_by" s_rims_by a_rims_by fd ∧ Binds K fd ["ahead"] [] := ⟨_, fun_mk (st := s_rims_by) l_rims_by c_rims_by k_rims_by, (fun_mk (st := s_rims_by) l_rims_by c_rims_by k_rims_by).binds (ps := ["ahead"]) fun _ _ _ _ _ _ us hl => match us, hl with | [_], _ => rfl⟩
  obtain ⟨d_check_parts, F_check_parts, b_check_parts⟩ : ∃ fd, Fun K "check_parts" "check_parts" s_check_parts a_check_parts fd ∧ Binds K fd ["places", "arrows", "rounds"] [] := ⟨_, fun_mk (st := s_check_parts) l_check_parts c_check_parts k_check_parts, (fun_mk (st := s_check_parts) l_check_parts c_check_parts k_check_parts).binds (ps := ["places", "arrows", "rounds"]) fun _ _ _ _ _ _ us hl => match us, hl with | [_, _, _], _ => rfl⟩
  obtain ⟨d_Chart_keep, F_Chart_keep, b_Chart_keep⟩ : ∃ fd, Fun K "keep" "Chart.keep" s_Chart_keep a_Chart_keep fd ∧ Binds K fd ["self", "places", "arrows", "rounds", "outer", "prices"] [] := ⟨_, fun_mk (st := s_Chart_keep) l_Chart_keep c_Chart_keep k_Chart_keep, (fun_mk (st := s_Chart_keep) l_Chart_keep c_Chart_keep k_Chart_keep).binds (ps := ["self", "places", "arrows", "rounds", "outer", "prices"]) fun _ _ _ _ _ _ us hl => match us, hl with | [_, _, _, _, _, _], _ => rfl⟩
  obtain ⟨d_Chart___init__, F_Chart___init__, b_Chart___init__⟩ : ∃ fd, Fun K "__init__" "Chart.__init__" s_Chart___init__ a_Chart___init__ fd ∧ Binds K fd ["self", "places", "arrows", "rounds", "outer", "prices"] [] := ⟨_, fun_mk (st := s_Chart___init__) l_Chart___init__ c_Chart___init__ k_Chart___init__, (fun_mk (st := s_Chart___init__) l_Chart___init__ c_Chart___init__ k_Chart___init__).binds (ps := ["self", "places", "arrows", "rounds", "outer", "prices"]) fun _ _ _ _ _ _ us hl => match us, hl with | [_, _, _, _, _, _], _ => rfl⟩
  obtain ⟨d_Chart___eq__, F_Chart___eq__, b_Chart___eq__⟩ : ∃ fd, Fun K "__eq__" "Chart.__eq__" s_Chart___eq__ a_Chart___eq__ fd ∧ Binds K fd ["self", "other"] [] := ⟨_, fun_mk (st := s_Chart___eq__) l_Chart___eq__ c_Chart___eq__ k_Chart___eq__, (fun_mk (st := s_Chart___eq__) l_Chart___eq__ c_Chart___eq__ k_Chart___eq__).binds (ps := ["self", "other"]) fun _ _ _ _ _ _ us hl => match us, hl with | [_, _], _ => rfl⟩
  obtain ⟨d_is_sum, F_is_sum, b_is_sum⟩ : ∃ fd, Fun K "is_sum" "is_sum" s_is_sum a_is_sum fd ∧ Binds K fd ["thing", "cells"] [] := ⟨_, fun_mk (st := s_is_sum) l_is_sum c_is_sum k_is_sum, (fun_mk (st := s_is_sum) l_is_sum c_is_sum k_is_sum).binds (ps := ["thing", "cells"]) fun _ _ _ _ _ _ us hl => match us, hl with | [_, _], _ => rfl⟩
  obtain ⟨d_is_test, F_is_test, b_is_test⟩ : ∃ fd, Fun K "is_test" "is_test" s_is_test a_is_test fd ∧ Binds K fd ["thing", "cells"] [] := ⟨_, fun_mk (st := s_is_test) l_is_test c_is_test k_is_test, (fun_mk (st := s_is_test) l_is_test c_is_test k_is_test).binds (ps := ["thing", "cells"]) fun _ _ _ _ _ _ us hl => match us, hl with | [_, _], _ => rfl⟩
  obtain ⟨d_statement_size, F_statement_size, b_statement_size⟩ : ∃ fd, Fun K "statement_size" "statement_size" s_statement_size a_statement_size fd ∧ Binds K fd ["thing", "cells", "routines", "deep"] [] := ⟨_, fun_mk (st := s_statement_size) l_statement_size c_statement_size k_statement_size, (fun_mk (st := s_statement_size) l_statement_size c_statement_size k_statement_size).binds (ps := ["thing", "cells", "routines", "deep"]) fun _ _ _ _ _ _ us hl => match us, hl with | [_, _, _, _], _ => rfl⟩
  obtain ⟨d_body_size, F_body_size, b_body_size⟩ : ∃ fd, Fun K "body_size" "body_size" s_body_size a_body_size fd ∧ Binds K fd ["thing", "cells", "routines", "deep"] [] := ⟨_, fun_mk (st := s_body_size) l_body_size c_body_size k_body_size, (fun_mk (st := s_body_size) l_body_size c_body_size k_body_size).binds (ps := ["thing", "cells", "routines", "deep"]) fun _ _ _ _ _ _ us hl => match us, hl with | [_, _, _, _], _ => rfl⟩
  obtain ⟨d_wrong_part, F_wrong_part, b_wrong_part⟩ : ∃ fd, Fun K "wrong_part" "wrong_part" s_wrong_part a_wrong_part fd ∧ Binds K fd ["cells", "routines"] [] := ⟨_, fun_mk (st := s_wrong_part) l_wrong_part c_wrong_part k_wrong_part, (fun_mk (st := s_wrong_part) l_wrong_part c_wrong_part k_wrong_part).binds (ps := ["cells", "routines"]) fun _ _ _ _ _ _ us hl => match us, hl with | [_, _], _ => rfl⟩
  obtain ⟨d_Book___init__, F_Book___init__, b_Book___init__⟩ : ∃ fd, Fun K "__init__" "Book.__init__" s_Book___init__ a_Book___init__ fd ∧ Binds K fd ["self", "cells", "routines"] [] := ⟨_, fun_mk (st := s_Book___init__) l_Book___init__ c_Book___init__ k_Book___init__, (fun_mk (st := s_Book___init__) l_Book___init__ c_Book___init__ k_Book___init__).binds (ps := ["self", "cells", "routines"]) fun _ _ _ _ _ _ us hl => match us, hl with | [_, _, _], _ => rfl⟩
  obtain ⟨d_Book___eq__, F_Book___eq__, b_Book___eq__⟩ : ∃ fd, Fun K "__eq__" "Book.__eq__" s_Book___eq__ a_Book___eq__ fd ∧ Binds K fd ["self", "other"] [] := ⟨_, fun_mk (st := s_Book___eq__) l_Book___eq__ c_Book___eq__ k_Book___eq__, (fun_mk (st := s_Book___eq__) l_Book___eq__ c_Book___eq__ k_Book___eq__).binds (ps := ["self", "other"]) fun _ _ _ _ _ _ us hl => match us, hl with | [_, _], _ => rfl⟩
  obtain ⟨d__law_hand, F__law_hand, b__law_hand⟩ : ∃ fd, Fun K "_law_hand" "_law_hand" s__law_hand a__law_hand fd ∧ Binds K fd ["script"] [] := ⟨_, fun_mk (st := s__law_hand) l__law_hand c__law_hand k__law_hand, (fun_mk (st := s__law_hand) l__law_hand c__law_hand k__law_hand).binds (ps := ["script"]) fun _ _ _ _ _ _ us hl => match us, hl with | [_], _ => rfl⟩
  obtain ⟨d__law_draw, F__law_draw, b__law_draw⟩ : ∃ fd, Fun K "_law_draw" "_law_draw" s__law_draw a__law_draw fd ∧ Binds K fd ["hand", "many"] [] := ⟨_, fun_mk (st := s__law_draw) l__law_draw c__law_draw k__law_draw, (fun_mk (st := s__law_draw) l__law_draw c__law_draw k__law_draw).binds (ps := ["hand", "many"]) fun _ _ _ _ _ _ us hl => match us, hl with | [_, _], _ => rfl⟩
  obtain ⟨d__law_any, F__law_any, b__law_any⟩ : ∃ fd, Fun K "_law_any" "_law_any" s__law_any a__law_any fd ∧ Binds K fd ["hand", "items"] [] := ⟨_, fun_mk (st := s__law_any) l__law_any c__law_any k__law_any, (fun_mk (st := s__law_any) l__law_any c__law_any k__law_any).binds (ps := ["hand", "items"]) fun _ _ _ _ _ _ us hl => match us, hl with | [_, _], _ => rfl⟩
  obtain ⟨d__law_is, F__law_is, b__law_is⟩ : ∃ fd, Fun K "_law_is" "_law_is" s__law_is a__law_is fd ∧ Binds K fd ["told", "due"] [] := ⟨_, fun_mk (st := s__law_is) l__law_is c__law_is k__law_is, (fun_mk (st := s__law_is) l__law_is c__law_is k__law_is).binds (ps := ["told", "due"]) fun _ _ _ _ _ _ us hl => match us, hl with | [_, _], _ => rfl⟩
  obtain ⟨d__law_nested, F__law_nested, b__law_nested⟩ : ∃ fd, Fun K "_law_nested" "_law_nested" s__law_nested a__law_nested fd ∧ Binds K fd ["hand"] [] := ⟨_, fun_mk (st := s__law_nested) l__law_nested c__law_nested k__law_nested, (fun_mk (st := s__law_nested) l__law_nested c__law_nested k__law_nested).binds (ps := ["hand"]) fun _ _ _ _ _ _ us hl => match us, hl with | [_], _ => rfl⟩
  obtain ⟨d__law_int, F__law_int, b__law_int⟩ : ∃ fd, Fun K "_law_int" "_law_int" s__law_int a__law_int fd ∧ Binds K fd ["thing", "least", "most"] [] := ⟨_, fun_mk (st := s__law_int) l__law_int c__law_int k__law_int, (fun_mk (st := s__law_int) l__law_int c__law_int k__law_int).binds (ps := ["thing", "least", "most"]) fun _ _ _ _ _ _ us hl => match us, hl with | [_, _, _], _ => rfl⟩
  obtain ⟨d__law_sum, F__law_sum, b__law_sum⟩ : ∃ fd, Fun K "_law_sum" "_law_sum" s__law_sum a__law_sum fd ∧ Binds K fd ["hand", "cells"] [] := ⟨_, fun_mk (st := s__law_sum) l__law_sum c__law_sum k__law_sum, (fun_mk (st := s__law_sum) l__law_sum c__law_sum k__law_sum).binds (ps := ["hand", "cells"]) fun _ _ _ _ _ _ us hl => match us, hl with | [_, _], _ => rfl⟩
  obtain ⟨d__law_alone, F__law_alone, b__law_alone⟩ : ∃ fd, Fun K "_law_alone" "_law_alone" s__law_alone a__law_alone fd ∧ Binds K fd ["cells", "cell", "number"] [] := ⟨_, fun_mk (st := s__law_alone) l__law_alone c__law_alone k__law_alone, (fun_mk (st := s__law_alone) l__law_alone c__law_alone k__law_alone).binds (ps := ["cells", "cell", "number"]) fun _ _ _ _ _ _ us hl => match us, hl with | [_, _, _], _ => rfl⟩
  obtain ⟨d__law_test, F__law_test, b__law_test⟩ : ∃ fd, Fun K "_law_test" "_law_test" s__law_test a__law_test fd ∧ Binds K fd ["hand", "cells"] [] := ⟨_, fun_mk (st := s__law_test) l__law_test c__law_test k__law_test, (fun_mk (st := s__law_test) l__law_test c__law_test k__law_test).binds (ps := ["hand", "cells"]) fun _ _ _ _ _ _ us hl => match us, hl with | [_, _], _ => rfl⟩
  obtain ⟨d__law_size, F__law_size, b__law_size⟩ : ∃ fd, Fun K "_law_size" "_law_size" s__law_size a__law_size fd ∧ Binds K fd ["body"] [] := ⟨_, fun_mk (st := s__law_size) l__law_size c__law_size k__law_size, (fun_mk (st := s__law_size) l__law_size c__law_size k__law_size).binds (ps := ["body"]) fun _ _ _ _ _ _ us hl => match us, hl with | [_], _ => rfl⟩
  obtain ⟨d__law_statement, F__law_statement, b__law_statement⟩ : ∃ fd, Fun K "_law_statement" "_law_statement" s__law_statement a__law_statement fd ∧ Binds K fd ["hand", "cells", "routines", "deep"] [] := ⟨_, fun_mk (st := s__law_statement) l__law_statement c__law_statement k__law_statement, (fun_mk (st := s__law_statement) l__law_statement c__law_statement k__law_statement).binds (ps := ["hand", "cells", "routines", "deep"]) fun _ _ _ _ _ _ us hl => match us, hl with | [_, _, _, _], _ => rfl⟩
  obtain ⟨d__law_body, F__law_body, b__law_body⟩ : ∃ fd, Fun K "_law_body" "_law_body" s__law_body a__law_body fd ∧ Binds K fd ["hand", "cells", "routines", "deep"] [] := ⟨_, fun_mk (st := s__law_body) l__law_body c__law_body k__law_body, (fun_mk (st := s__law_body) l__law_body c__law_body k__law_body).binds (ps := ["hand", "cells", "routines", "deep"]) fun _ _ _ _ _ _ us hl => match us, hl with | [_, _, _, _], _ => rfl⟩
  obtain ⟨d__law_parts, F__law_parts, b__law_parts⟩ : ∃ fd, Fun K "_law_parts" "_law_parts" s__law_parts a__law_parts fd ∧ Binds K fd ["hand"] [] := ⟨_, fun_mk (st := s__law_parts) l__law_parts c__law_parts k__law_parts, (fun_mk (st := s__law_parts) l__law_parts c__law_parts k__law_parts).binds (ps := ["hand"]) fun _ _ _ _ _ _ us hl => match us, hl with | [_], _ => rfl⟩
  obtain ⟨d__law_odd, F__law_odd, b__law_odd⟩ : ∃ fd, Fun K "_law_odd" "_law_odd" s__law_odd a__law_odd fd ∧ Binds K fd ["hand", "program"] [] := ⟨_, fun_mk (st := s__law_odd) l__law_odd c__law_odd k__law_odd, (fun_mk (st := s__law_odd) l__law_odd c__law_odd k__law_odd).binds (ps := ["hand", "program"]) fun _ _ _ _ _ _ us hl => match us, hl with | [_, _], _ => rfl⟩
  obtain ⟨d__law_bent, F__law_bent, b__law_bent⟩ : ∃ fd, Fun K "_law_bent" "_law_bent" s__law_bent a__law_bent fd ∧ Binds K fd ["hand", "thing", "odd", "deep"] [] := ⟨_, fun_mk (st := s__law_bent) l__law_bent c__law_bent k__law_bent, (fun_mk (st := s__law_bent) l__law_bent c__law_bent k__law_bent).binds (ps := ["hand", "thing", "odd", "deep"]) fun _ _ _ _ _ _ us hl => match us, hl with | [_, _, _, _], _ => rfl⟩
  obtain ⟨d__law_is_sum, F__law_is_sum, b__law_is_sum⟩ : ∃ fd, Fun K "_law_is_sum" "_law_is_sum" s__law_is_sum a__law_is_sum fd ∧ Binds K fd ["thing", "cells"] [] := ⟨_, fun_mk (st := s__law_is_sum) l__law_is_sum c__law_is_sum k__law_is_sum, (fun_mk (st := s__law_is_sum) l__law_is_sum c__law_is_sum k__law_is_sum).binds (ps := ["thing", "cells"]) fun _ _ _ _ _ _ us hl => match us, hl with | [_, _], _ => rfl⟩
  obtain ⟨d__law_is_test, F__law_is_test, b__law_is_test⟩ : ∃ fd, Fun K "_law_is_test" "_law_is_test" s__law_is_test a__law_is_test fd ∧ Binds K fd ["thing", "cells"] [] := ⟨_, fun_mk (st := s__law_is_test) l__law_is_test c__law_is_test k__law_is_test, (fun_mk (st := s__law_is_test) l__law_is_test c__law_is_test k__law_is_test).binds (ps := ["thing", "cells"]) fun _ _ _ _ _ _ us hl => match us, hl with | [_, _], _ => rfl⟩
  obtain ⟨d__law_is_statement, F__law_is_statement, b__law_is_statement⟩ : ∃ fd, Fun K "_law_is_statement" "_law_is_statement" s__law_is_statement a__law_is_statement fd ∧ Binds K fd ["thing", "cells", "many", "deep"] [] := ⟨_, fun_mk (st := s__law_is_statement) l__law_is_statement c__law_is_statement k__law_is_statement, (fun_mk (st := s__law_is_statement) l__law_is_statement c__law_is_statement k__law_is_statement).binds (ps := ["thing", "cells", "many", "deep"]) fun _ _ _ _ _ _ us hl => match us, hl with | [_, _, _, _], _ => rfl⟩
  obtain ⟨d__law_is_body, F__law_is_body, b__law_is_body⟩ : ∃ fd, Fun K "_law_is_body" "_law_is_body" s__law_is_body a__law_is_body fd ∧ Binds K fd ["thing", "cells", "many", "deep"] [] := ⟨_, fun_mk (st := s__law_is_body) l__law_is_body c__law_is_body k__law_is_body, (fun_mk (st := s__law_is_body) l__law_is_body c__law_is_body k__law_is_body).binds (ps := ["thing", "cells", "many", "deep"]) fun _ _ _ _ _ _ us hl => match us, hl with | [_, _, _, _], _ => rfl⟩
  obtain ⟨d__law_wrong, F__law_wrong, b__law_wrong⟩ : ∃ fd, Fun K "_law_wrong" "_law_wrong" s__law_wrong a__law_wrong fd ∧ Binds K fd ["cells", "routines"] [] := ⟨_, fun_mk (st := s__law_wrong) l__law_wrong c__law_wrong k__law_wrong, (fun_mk (st := s__law_wrong) l__law_wrong c__law_wrong k__law_wrong).binds (ps := ["cells", "routines"]) fun _ _ _ _ _ _ us hl => match us, hl with | [_, _], _ => rfl⟩
  obtain ⟨d__law_told_part, F__law_told_part, b__law_told_part⟩ : ∃ fd, Fun K "_law_told_part" "_law_told_part" s__law_told_part a__law_told_part fd ∧ Binds K fd ["cells", "routines"] [] := ⟨_, fun_mk (st := s__law_told_part) l__law_told_part c__law_told_part k__law_told_part, (fun_mk (st := s__law_told_part) l__law_told_part c__law_told_part k__law_told_part).binds (ps := ["cells", "routines"]) fun _ _ _ _ _ _ us hl => match us, hl with | [_, _], _ => rfl⟩
  obtain ⟨d__law_deep_body, F__law_deep_body, b__law_deep_body⟩ : ∃ fd, Fun K "_law_deep_body" "_law_deep_body" s__law_deep_body a__law_deep_body fd ∧ Binds K fd ["hand", "deep"] [] := ⟨_, fun_mk (st := s__law_deep_body) l__law_deep_body c__law_deep_body k__law_deep_body, (fun_mk (st := s__law_deep_body) l__law_deep_body c__law_deep_body k__law_deep_body).binds (ps := ["hand", "deep"]) fun _ _ _ _ _ _ us hl => match us, hl with | [_, _], _ => rfl⟩
  obtain ⟨d__law_known_parts, F__law_known_parts, b__law_known_parts⟩ : ∃ fd, Fun K "_law_known_parts" "_law_known_parts" s__law_known_parts a__law_known_parts fd ∧ Binds K fd ["hand"] [] := ⟨_, fun_mk (st := s__law_known_parts) l__law_known_parts c__law_known_parts k__law_known_parts, (fun_mk (st := s__law_known_parts) l__law_known_parts c__law_known_parts k__law_known_parts).binds (ps := ["hand"]) fun _ _ _ _ _ _ us hl => match us, hl with | [_], _ => rfl⟩
  have F_law := fun_mk (st := s_law) l_law c_law k_law
  have b_law := F_law.binds (ps := ["script"]) fun _ _ _ _ _ _ us hl => match us, hl with | [_], _ => rfl
  refine ⟨PySem.W.fnOf "law" "law" (defArgs s_law) (defBody s_law) (defScope s_law) .none v1_law v2_law v3_law n_law v4_law v5_law, fun s v => .of_eq rfl, fun base _ _ => ?_⟩
  have h_is_integer : CalF l.prog w K mg base 1 "is_integer" ["thing"] (spG K (clOf [C_Book, C_Chart, 0, 0, C_BadBook, 0, 0, 0, C_BadChart, 0, 0, 0, C_ChartError]) 1 f_is_integer) a_is_integer d_is_integer := ⟨ok_is_integer (k := 0) T  F_is_integer, b_is_integer, PySem.W.mg_of X G g_is_integer, k_is_integer⟩
  have h_is_within : CalF l.prog w K mg base 2 "is_within" ["thing", "least", "most"] (spG K (clOf [C_Book, C_Chart, 0, 0, C_BadBook, 0, 0, 0, C_BadChart, 0, 0, 0, C_ChartError]) 3 f_is_within) a_is_within d_is_within := ⟨ok_is_within (k := 1) T (by decide) h_is_integer F_is_within, b_is_within, PySem.W.mg_of X G g_is_within, k_is_within⟩
  have h_is_pair : CalF l.prog w K mg base 1 "is_pair" ["thing"] (spG K (clOf [C_Book, C_Chart, 0, 0, C_BadBook, 0, 0, 0, C_BadChart, 0, 0, 0, C_ChartError]) 1 f_is_pair) a_is_pair d_is_pair := ⟨ok_is_pair (k := 0) T  F_is_pair, b_is_pair, PySem.W.mg_of X G g_is_pair, k_is_pair⟩
  have h_is_sized : CalF l.prog w K mg base 1 "is_sized" ["thing", "least", "most"] (spG K (clOf [C_Book, C_Chart, 0, 0, C_BadBook, 0, 0, 0, C_BadChart, 0, 0, 0, C_ChartError]) 3 f_is_sized) a_is_sized d_is_sized := ⟨ok_is_sized (k := 0) T  F_is_sized, b_is_sized, PySem.W.mg_of X G g_is_sized, k_is_sized⟩
  have h_place_at : CalF l.prog w K mg base 1 "place_at" ["arrows", "end"] (spG K (clOf [C_Book, C_Chart, 0, 0, C_BadBook, 0, 0, 0, C_BadChart, 0, 0, 0, C_ChartError]) 2 f_place_at) a_place_at d_place_at := ⟨ok_place_at (k := 0) T  F_place_at, b_place_at, PySem.W.mg_of X G g_place_at, k_place_at⟩
  have h_is_arrow : CalF l.prog w K mg base 3 "is_arrow" ["thing", "places"] (spG K (clOf [C_Book, C_Chart, 0, 0, C_BadBook, 0, 0, 0, C_BadChart, 0, 0, 0, C_ChartError]) 2 f_is_arrow) a_is_arrow d_is_arrow := ⟨ok_is_arrow (k := 2) T (by decide) h_is_pair (by decide) h_is_within F_is_arrow, b_is_arrow, PySem.W.mg_of X G g_is_arrow, k_is_arrow⟩
  have h_is_round : CalF l.prog w K mg base 2 "is_round" ["thing", "ends"] (spG K (clOf [C_Book, C_Chart, 0, 0, C_BadBook, 0, 0, 0, C_BadChart, 0, 0, 0, C_ChartError]) 2 f_is_round) a_is_round d_is_round := ⟨ok_is_round (k := 1) T (by decide) h_is_sized (by decide) h_is_integer F_is_round, b_is_round, PySem.W.mg_of X G g_is_round, k_is_round⟩
  have h_is_price : CalF l.prog w K mg base 3 "is_price" ["thing"] (spG K (clOf [C_Book, C_Chart, 0, 0, C_BadBook, 0, 0, 0, C_BadChart, 0, 0, 0, C_ChartError]) 1 f_is_price) a_is_price d_is_price := ⟨ok_is_price (k := 2) T (by decide) h_is_within F_is_price, b_is_price, PySem.W.mg_of X G g_is_price, k_is_price⟩
  have h_ends_at : CalF l.prog w K mg base 2 "ends_at" ["arrows", "place"] (spG K (clOf [C_Book, C_Chart, 0, 0, C_BadBook, 0, 0, 0, C_BadChart, 0, 0, 0, C_ChartError]) 2 f_ends_at) a_ends_at d_ends_at := ⟨ok_ends_at (k := 1) T (by decide) h_place_at F_ends_at, b_ends_at, PySem.W.mg_of X G g_ends_at, k_ends_at⟩
  have h_hang_together : CalF l.prog w K mg base 1 "hang_together" ["places", "arrows"] (spG K (clOf [C_Book, C_Chart, 0, 0, C_BadBook, 0, 0, 0, C_BadChart, 0, 0, 0, C_ChartError]) 2 f_hang_together) a_hang_together d_hang_together := ⟨ok_hang_together (k := 0) T  F_hang_together, b_hang_together, PySem.W.mg_of X G g_hang_together, k_hang_together⟩
  have h_begun_least : CalF l.prog w K mg base 1 "begun_least" ["items"] (spG K (clOf [C_Book, C_Chart, 0, 0, C_BadBook, 0, 0, 0, C_BadChart, 0, 0, 0, C_ChartError]) 1 f_begun_least) a_begun_least d_begun_least := ⟨ok_begun_least (k := 0) T  F_begun_least, b_begun_least, PySem.W.mg_of X G g_begun_least, k_begun_least⟩
  have h_befores : CalF l.prog w K mg base 1 "befores" ["rounds", "many"] (spG K (clOf [C_Book, C_Chart, 0, 0, C_BadBook, 0, 0, 0, C_BadChart, 0, 0, 0, C_ChartError]) 2 f_befores) a_befores d_befores := ⟨ok_befores (k := 0) T  F_befores, b_befores, PySem.W.mg_of X G g_befores, k_befores⟩
  have h_other_end : CalF l.prog w K mg base 1 "other_end" ["end"] (spG K (clOf [C_Book, C_Chart, 0, 0, C_BadBook, 0, 0, 0, C_BadChart, 0, 0, 0, C_ChartError]) 1 f_other_end) a_other_end d_other_end := ⟨ok_other_end (k := 0) T  F_other_end, b_other_end, PySem.W.mg_of X G g_other_end, k_other_end⟩
  have h_walked : CalF l.prog w K mg base 2 "walked" ["ahead", "angle"] (spG K (clOf [C_Book, C_Chart, 0, 0, C_BadBook, 0, 0, 0, C_BadChart, 0, 0, 0, C_ChartError]) 2 f_walked) a_walked d_walked := ⟨ok_walked (k := 1) T (by decide) h_other_end F_walked, b_walked, PySem.W.mg_of X G g_walked, k_walked⟩
  have h_rims_by : CalF l.prog w K mg base 3 "rims_by" ["ahead"] (spG K (clOf [C_Book, C_Chart, 0, 0, C_BadBook, 0, 0, 0, C_BadChart, 0, 0, 0, C_ChartError]) 1 f_rims_by) a_rims_by d_rims_by := ⟨ok_rims_by (k := 2) T (by decide) h_walked F_rims_by, b_rims_by, PySem.W.mg_of X G g_rims_by, k_rims_by⟩
  have h_check_parts : CalF l.prog w K mg base 4 "check_parts" ["places", "arrows", "rounds"] (spG K (clOf [C_Book, C_Chart, 0, 0, C_BadBook, 0, 0, 0, C_BadChart, 0, 0, 0, C_ChartError]) 3 f_check_parts) a_check_parts d_check_parts := ⟨ok_check_parts (k := 3) T (by decide) h_is_within (by decide) h_is_sized (by decide) h_is_arrow (by decide) h_is_round (by decide) h_ends_at (by decide) h_hang_together F_check_parts, b_check_parts, PySem.W.mg_of X G g_check_parts, k_check_parts⟩
  have h_Chart_keep : CalM l.prog w K mg base 4 C_Chart "keep" ["self", "places", "arrows", "rounds", "outer", "prices"] (spG K (clOf [C_Book, C_Chart, 0, 0, C_BadBook, 0, 0, 0, C_BadChart, 0, 0, 0, C_ChartError]) 6 f_Chart_keep) a_Chart_keep d_Chart_keep := ⟨ok_Chart_keep (k := 3) T (by decide) h_begun_least (by decide) h_befores (by decide) h_rims_by F_Chart_keep, b_Chart_keep, ⟨pg_Chart, hd_Chart, po_Chart, sa_Chart⟩, ⟨g_Chart_keep, i_Chart_keep, k_Chart_keep⟩⟩
  have h_Chart___init__ : CalI l.prog w K mg base 5 C_Chart "Chart" ["self", "places", "arrows", "rounds", "outer", "prices"] (spG K (clOf [C_Book, C_Chart, 0, 0, C_BadBook, 0, 0, 0, C_BadChart, 0, 0, 0, C_ChartError]) 6 f_Chart___init__) a_Chart___init__ d_Chart___init__ := ⟨ok_Chart___init__ (k := 4) T (by decide) h_check_parts (by decide) h_rims_by (by decide) h_befores (by decide) h_is_within (by decide) h_is_sized (by decide) h_is_price (by decide) h_Chart_keep F_Chart___init__, b_Chart___init__, ⟨mk_Chart, g_Chart___init__, i_Chart___init__, kc_Chart⟩, PySem.W.mg_of X G aC_Chart⟩
  have h_Chart___eq__ : CalM l.prog w K mg base 1 C_Chart "__eq__" ["self", "other"] (spG K (clOf [C_Book, C_Chart, 0, 0, C_BadBook, 0, 0, 0, C_BadChart, 0, 0, 0, C_ChartError]) 2 f_Chart___eq__) a_Chart___eq__ d_Chart___eq__ := ⟨ok_Chart___eq__ (k := 0) T  F_Chart___eq__, b_Chart___eq__, ⟨pg_Chart, hd_Chart, po_Chart, sa_Chart⟩, ⟨g_Chart___eq__, i_Chart___eq__, k_Chart___eq__⟩⟩
  have h_is_sum : CalF l.prog w K mg base 3 "is_sum" ["thing", "cells"] (spG K (clOf [C_Book, C_Chart, 0, 0, C_BadBook, 0, 0, 0, C_BadChart, 0, 0, 0, C_ChartError]) 2 f_is_sum) a_is_sum d_is_sum := ⟨ok_is_sum (k := 2) T (by decide) h_is_within F_is_sum, b_is_sum, PySem.W.mg_of X G g_is_sum, k_is_sum⟩
  have h_is_test : CalF l.prog w K mg base 4 "is_test" ["thing", "cells"] (spG K (clOf [C_Book, C_Chart, 0, 0, C_BadBook, 0, 0, 0, C_BadChart, 0, 0, 0, C_ChartError]) 2 f_is_test) a_is_test d_is_test := ⟨ok_is_test (k := 3) T (by decide) h_is_sum F_is_test, b_is_test, PySem.W.mg_of X G g_is_test, k_is_test⟩
  have h_body_size : ∀ i, CalF l.prog w K mg base (4 + 2 * i) "body_size" ["thing", "cells", "routines", "deep"] (spG K (clOf [C_Book, C_Chart, 0, 0, C_BadBook, 0, 0, 0, C_BadChart, 0, 0, 0, C_ChartError]) 4 (f_body_size i)) a_body_size d_body_size := by
    intro i
    induction i with
    | zero => exact ⟨fn_bad (spG_len0 _), b_body_size, PySem.W.mg_of X G g_body_size, k_body_size⟩
    | succ i ih =>
      have h_statement_size : CalF l.prog w K mg base (4 + 2 * i + 1) "statement_size" ["thing", "cells", "routines", "deep"] (spG K (clOf [C_Book, C_Chart, 0, 0, C_BadBook, 0, 0, 0, C_BadChart, 0, 0, 0, C_ChartError]) 4 (f_statement_size i)) a_statement_size d_statement_size := ⟨ok_statement_size (k := (4 + 2 * i)) T (by omega) h_is_within (by omega) h_is_sum (by omega) h_is_test (Nat.le_refl _) ih F_statement_size, b_statement_size, PySem.W.mg_of X G g_statement_size, k_statement_size⟩
      exact ⟨ok_body_size (k := (4 + 2 * i + 1)) T (Nat.le_refl _) h_statement_size F_body_size, b_body_size, PySem.W.mg_of X G g_body_size, k_body_size⟩
  have h_wrong_part : CalF l.prog w K mg base 23 "wrong_part" ["cells", "routines"] (spG K (clOf [C_Book, C_Chart, 0, 0, C_BadBook, 0, 0, 0, C_BadChart, 0, 0, 0, C_ChartError]) 2 f_wrong_part) a_wrong_part d_wrong_part := ⟨ok_wrong_part (k := 22) T (by decide) h_is_within (by decide) (h_body_size 9) F_wrong_part, b_wrong_part, PySem.W.mg_of X G g_wrong_part, k_wrong_part⟩
  have h_Book___init__ : CalXI l.prog w K mg base 24 C_Book "Book" ["self", "cells", "routines"] (spG K (clOf [C_Book, C_Chart, 0, 0, C_BadBook, 0, 0, 0, C_BadChart, 0, 0, 0, C_ChartError]) 3 f_Book___init__) a_Book___init__ d_Book___init__ := ⟨ok_Book___init__ (k := 23) T (by decide) h_wrong_part F_Book___init__, b_Book___init__, ⟨mk_Book, g_Book___init__, i_Book___init__, kc_Book⟩, PySem.W.mg_of X G aC_Book⟩
  have h_Book___eq__ : CalM l.prog w K mg base 1 C_Book "__eq__" ["self", "other"] (spG K (clOf [C_Book, C_Chart, 0, 0, C_BadBook, 0, 0, 0, C_BadChart, 0, 0, 0, C_ChartError]) 2 f_Book___eq__) a_Book___eq__ d_Book___eq__ := ⟨ok_Book___eq__ (k := 0) T  F_Book___eq__, b_Book___eq__, ⟨pg_Book, hd_Book, po_Book, sa_Book⟩, ⟨g_Book___eq__, i_Book___eq__, k_Book___eq__⟩⟩
  have h__law_hand : CalF l.prog w K mg base 1 "_law_hand" ["script"] (spG K (clOf [C_Book, C_Chart, 0, 0, C_BadBook, 0, 0, 0, C_BadChart, 0, 0, 0, C_ChartError]) 1 f__law_hand) a__law_hand d__law_hand := ⟨ok__law_hand (k := 0) T  F__law_hand, b__law_hand, PySem.W.mg_of X G g__law_hand, k__law_hand⟩
  have h__law_draw : CalF l.prog w K mg base 1 "_law_draw" ["hand", "many"] (spG K (clOf [C_Book, C_Chart, 0, 0, C_BadBook, 0, 0, 0, C_BadChart, 0, 0, 0, C_ChartError]) 2 f__law_draw) a__law_draw d__law_draw := ⟨ok__law_draw (k := 0) T  F__law_draw, b__law_draw, PySem.W.mg_of X G g__law_draw, k__law_draw⟩
  have h__law_any : CalF l.prog w K mg base 2 "_law_any" ["hand", "items"] (spG K (clOf [C_Book, C_Chart, 0, 0, C_BadBook, 0, 0, 0, C_BadChart, 0, 0, 0, C_ChartError]) 2 f__law_any) a__law_any d__law_any := ⟨ok__law_any (k := 1) T (by decide) h__law_draw F__law_any, b__law_any, PySem.W.mg_of X G g__law_any, k__law_any⟩
  have h__law_is : ∀ i, CalF l.prog w K mg base (0 + i) "_law_is" ["told", "due"] (spG K (clOf [C_Book, C_Chart, 0, 0, C_BadBook, 0, 0, 0, C_BadChart, 0, 0, 0, C_ChartError]) 2 (f__law_is i)) a__law_is d__law_is := by
    intro i
    induction i with
    | zero => exact ⟨fn_bad (spG_len0 _), b__law_is, PySem.W.mg_of X G g__law_is, k__law_is⟩
    | succ i ih => exact ⟨ok__law_is (k := (0 + i)) T (Nat.le_refl _) ih F__law_is, b__law_is, PySem.W.mg_of X G g__law_is, k__law_is⟩
  have h__law_nested : CalF l.prog w K mg base 3 "_law_nested" ["hand"] (spG K (clOf [C_Book, C_Chart, 0, 0, C_BadBook, 0, 0, 0, C_BadChart, 0, 0, 0, C_ChartError]) 1 f__law_nested) a__law_nested d__law_nested := ⟨ok__law_nested (k := 2) T (by decide) h__law_any F__law_nested, b__law_nested, PySem.W.mg_of X G g__law_nested, k__law_nested⟩
  have h__law_int : CalF l.prog w K mg base 1 "_law_int" ["thing", "least", "most"] (spG K (clOf [C_Book, C_Chart, 0, 0, C_BadBook, 0, 0, 0, C_BadChart, 0, 0, 0, C_ChartError]) 3 f__law_int) a__law_int d__law_int := ⟨ok__law_int (k := 0) T  F__law_int, b__law_int, PySem.W.mg_of X G g__law_int, k__law_int⟩
  have h__law_sum : CalF l.prog w K mg base 3 "_law_sum" ["hand", "cells"] (spG K (clOf [C_Book, C_Chart, 0, 0, C_BadBook, 0, 0, 0, C_BadChart, 0, 0, 0, C_ChartError]) 2 f__law_sum) a__law_sum d__law_sum := ⟨ok__law_sum (k := 2) T (by decide) h__law_draw (by decide) h__law_any F__law_sum, b__law_sum, PySem.W.mg_of X G g__law_sum, k__law_sum⟩
  have h__law_alone : CalF l.prog w K mg base 1 "_law_alone" ["cells", "cell", "number"] (spG K (clOf [C_Book, C_Chart, 0, 0, C_BadBook, 0, 0, 0, C_BadChart, 0, 0, 0, C_ChartError]) 3 f__law_alone) a__law_alone d__law_alone := ⟨ok__law_alone (k := 0) T  F__law_alone, b__law_alone, PySem.W.mg_of X G g__law_alone, k__law_alone⟩
  have h__law_test : CalF l.prog w K mg base 4 "_law_test" ["hand", "cells"] (spG K (clOf [C_Book, C_Chart, 0, 0, C_BadBook, 0, 0, 0, C_BadChart, 0, 0, 0, C_ChartError]) 2 f__law_test) a__law_test d__law_test := ⟨ok__law_test (k := 3) T (by decide) h__law_any (by decide) h__law_sum F__law_test, b__law_test, PySem.W.mg_of X G g__law_test, k__law_test⟩
  have h__law_size : ∀ i, CalF l.prog w K mg base (0 + i) "_law_size" ["body"] (spG K (clOf [C_Book, C_Chart, 0, 0, C_BadBook, 0, 0, 0, C_BadChart, 0, 0, 0, C_ChartError]) 1 (f__law_size i)) a__law_size d__law_size := by
    intro i
    induction i with
    | zero => exact ⟨fn_bad (spG_len0 _), b__law_size, PySem.W.mg_of X G g__law_size, k__law_size⟩
    | succ i ih => exact ⟨ok__law_size (k := (0 + i)) T (Nat.le_refl _) ih F__law_size, b__law_size, PySem.W.mg_of X G g__law_size, k__law_size⟩
  have h__law_body : ∀ i, CalF l.prog w K mg base (20 + 2 * i) "_law_body" ["hand", "cells", "routines", "deep"] (spG K (clOf [C_Book, C_Chart, 0, 0, C_BadBook, 0, 0, 0, C_BadChart, 0, 0, 0, C_ChartError]) 4 (f__law_body i)) a__law_body d__law_body := by
    intro i
    induction i with
    | zero => exact ⟨fn_bad (spG_len0 _), b__law_body, PySem.W.mg_of X G g__law_body, k__law_body⟩
    | succ i ih =>
      have h__law_statement : CalF l.prog w K mg base (20 + 2 * i + 1) "_law_statement" ["hand", "cells", "routines", "deep"] (spG K (clOf [C_Book, C_Chart, 0, 0, C_BadBook, 0, 0, 0, C_BadChart, 0, 0, 0, C_ChartError]) 4 (f__law_statement i)) a__law_statement d__law_statement := ⟨ok__law_statement (k := (20 + 2 * i)) T (by omega) h__law_draw (by omega) h__law_sum (by omega) h__law_alone (by omega) h__law_any (Nat.le_refl _) ih (by omega) h__law_test F__law_statement, b__law_statement, PySem.W.mg_of X G g__law_statement, k__law_statement⟩
      exact ⟨ok__law_body (k := (20 + 2 * i + 1)) T (by omega) h__law_draw (Nat.le_refl _) h__law_statement (by omega) (h__law_size 20) F__law_body, b__law_body, PySem.W.mg_of X G g__law_body, k__law_body⟩
  have h__law_parts : CalF l.prog w K mg base 61 "_law_parts" ["hand"] (spG K (clOf [C_Book, C_Chart, 0, 0, C_BadBook, 0, 0, 0, C_BadChart, 0, 0, 0, C_ChartError]) 1 f__law_parts) a__law_parts d__law_parts := ⟨ok__law_parts (k := 60) T (by decide) h__law_draw (by decide) (h__law_body 20) F__law_parts, b__law_parts, PySem.W.mg_of X G g__law_parts, k__law_parts⟩
  have h__law_odd : CalF l.prog w K mg base 4 "_law_odd" ["hand", "program"] (spG K (clOf [C_Book, C_Chart, 0, 0, C_BadBook, 0, 0, 0, C_BadChart, 0, 0, 0, C_ChartError]) 2 f__law_odd) a__law_odd d__law_odd := ⟨ok__law_odd (k := 3) T (by decide) h__law_any (by decide) h__law_nested F__law_odd, b__law_odd, PySem.W.mg_of X G g__law_odd, k__law_odd⟩
  have h__law_bent : ∀ i, CalF l.prog w K mg base (1 + i) "_law_bent" ["hand", "thing", "odd", "deep"] (spG K (clOf [C_Book, C_Chart, 0, 0, C_BadBook, 0, 0, 0, C_BadChart, 0, 0, 0, C_ChartError]) 4 (f__law_bent i)) a__law_bent d__law_bent := by
    intro i
    induction i with
    | zero => exact ⟨fn_bad (spG_len0 _), b__law_bent, PySem.W.mg_of X G g__law_bent, k__law_bent⟩
    | succ i ih => exact ⟨ok__law_bent (k := (1 + i)) T (by omega) h__law_draw (Nat.le_refl _) ih F__law_bent, b__law_bent, PySem.W.mg_of X G g__law_bent, k__law_bent⟩
  have h__law_is_sum : CalF l.prog w K mg base 2 "_law_is_sum" ["thing", "cells"] (spG K (clOf [C_Book, C_Chart, 0, 0, C_BadBook, 0, 0, 0, C_BadChart, 0, 0, 0, C_ChartError]) 2 f__law_is_sum) a__law_is_sum d__law_is_sum := ⟨ok__law_is_sum (k := 1) T (by decide) h__law_int F__law_is_sum, b__law_is_sum, PySem.W.mg_of X G g__law_is_sum, k__law_is_sum⟩
  have h__law_is_test : CalF l.prog w K mg base 3 "_law_is_test" ["thing", "cells"] (spG K (clOf [C_Book, C_Chart, 0, 0, C_BadBook, 0, 0, 0, C_BadChart, 0, 0, 0, C_ChartError]) 2 f__law_is_test) a__law_is_test d__law_is_test := ⟨ok__law_is_test (k := 2) T (by decide) h__law_is_sum F__law_is_test, b__law_is_test, PySem.W.mg_of X G g__law_is_test, k__law_is_test⟩
  have h__law_is_body : ∀ i, CalF l.prog w K mg base (3 + 2 * i) "_law_is_body" ["thing", "cells", "many", "deep"] (spG K (clOf [C_Book, C_Chart, 0, 0, C_BadBook, 0, 0, 0, C_BadChart, 0, 0, 0, C_ChartError]) 4 (f__law_is_body i)) a__law_is_body d__law_is_body := by
    intro i
    induction i with
    | zero => exact ⟨fn_bad (spG_len0 _), b__law_is_body, PySem.W.mg_of X G g__law_is_body, k__law_is_body⟩
    | succ i ih =>
      have h__law_is_statement : CalF l.prog w K mg base (3 + 2 * i + 1) "_law_is_statement" ["thing", "cells", "many", "deep"] (spG K (clOf [C_Book, C_Chart, 0, 0, C_BadBook, 0, 0, 0, C_BadChart, 0, 0, 0, C_ChartError]) 4 (f__law_is_statement i)) a__law_is_statement d__law_is_statement := ⟨ok__law_is_statement (k := (3 + 2 * i)) T (by omega) h__law_int (by omega) h__law_is_sum (by omega) h__law_is_test (Nat.le_refl _) ih F__law_is_statement, b__law_is_statement, PySem.W.mg_of X G g__law_is_statement, k__law_is_statement⟩
      exact ⟨ok__law_is_body (k := (3 + 2 * i + 1)) T (Nat.le_refl _) h__law_is_statement F__law_is_body, b__law_is_body, PySem.W.mg_of X G g__law_is_body, k__law_is_body⟩
  have h__law_wrong : CalF l.prog w K mg base 22 "_law_wrong" ["cells", "routines"] (spG K (clOf [C_Book, C_Chart, 0, 0, C_BadBook, 0, 0, 0, C_BadChart, 0, 0, 0, C_ChartError]) 2 f__law_wrong) a__law_wrong d__law_wrong := ⟨ok__law_wrong (k := 21) T (by decide) h__law_int (by decide) (h__law_is_body 9) (by decide) (h__law_size 20) F__law_wrong, b__law_wrong, PySem.W.mg_of X G g__law_wrong, k__law_wrong⟩
  have h__law_told_part : CalF l.prog w K mg base 31 "_law_told_part" ["cells", "routines"] (spG K (clOf [C_Book, C_Chart, 0, 0, C_BadBook, 0, 0, 0, C_BadChart, 0, 0, 0, C_ChartError]) 2 f__law_told_part) a__law_told_part d__law_told_part := ⟨ok__law_told_part (k := 30) T (by decide) h_Book___init__ (by decide) (h__law_is 30) F__law_told_part, b__law_told_part, PySem.W.mg_of X G g__law_told_part, k__law_told_part⟩
  have h__law_deep_body : CalF l.prog w K mg base 3 "_law_deep_body" ["hand", "deep"] (spG K (clOf [C_Book, C_Chart, 0, 0, C_BadBook, 0, 0, 0, C_BadChart, 0, 0, 0, C_ChartError]) 2 f__law_deep_body) a__law_deep_body d__law_deep_body := ⟨ok__law_deep_body (k := 2) T (by decide) h__law_any F__law_deep_body, b__law_deep_body, PySem.W.mg_of X G g__law_deep_body, k__law_deep_body⟩
  have h__law_known_parts : CalF l.prog w K mg base 4 "_law_known_parts" ["hand"] (spG K (clOf [C_Book, C_Chart, 0, 0, C_BadBook, 0, 0, 0, C_BadChart, 0, 0, 0, C_ChartError]) 1 f__law_known_parts) a__law_known_parts d__law_known_parts := ⟨ok__law_known_parts (k := 3) T (by decide) h__law_draw (by decide) h__law_deep_body F__law_known_parts, b__law_known_parts, PySem.W.mg_of X G g__law_known_parts, k__law_known_parts⟩
  have h_law : CalF l.prog w K mg base 62 "law" ["script"] (spG K (clOf [C_Book, C_Chart, 0, 0, C_BadBook, 0, 0, 0, C_BadChart, 0, 0, 0, C_ChartError]) 1 f_law) fa (PySem.W.fnOf "law" "law" (defArgs s_law) (defBody s_law) (defScope s_law) .none v1_law v2_law v3_law n_law v4_law v5_law) := ⟨ok_law (k := 61) T (by decide) h__law_hand (by decide) h_Chart___init__ (by decide) h__law_parts (by decide) (h__law_is 30) (by decide) h__law_told_part (by decide) h__law_wrong (by decide) h__law_draw (by decide) (h__law_bent 14) (by decide) h__law_odd (by decide) h__law_any (by decide) h_Book___eq__ (by decide) h_Book___init__.calm (by decide) h_Chart___eq__ (by decide) h__law_known_parts F_law, b_law, PySem.W.mg_of X G g_law, k_law⟩
  exact h_law.ok.imp fun vs H Q E h => spLaw_of hlaw h
end L3
open PySem PySem.W PyProof.Rows
theorem PySem.Challenge.cw_bigcorners_k32_whole_books_judged_and_ke_holds : PySem.Challenge.rw_bigcorners_k32_whole_books_judged_and_ke.Holds := by
  w_on; o_law; k_head; (case hw => w_witness2)
  k_fill
  refine L2.walk_of (l := PySem.Challenge.rw_bigcorners_k32_whole_books_judged_and_ke) (n := 63) (k := 62) (x := "script") (CX := fun _ => L2.CX0) (sp := fun w => L3.spLaw _) rfl (by decide) rfl ⟨rfl, by decide, by decide⟩ (fun w h Y => PySem.W.kIn_of Y) ?F (fun _ _ a ns hl _ hS => ⟨a, ns, rfl, hS, hl, fun _ => rfl⟩) (fun _ _ _ _ _ h => h)
  case F =>
    intro w mg fa h KX G hmg
    refine' L3.all_mk L3.law_true KX G hmg ?aC_Book ?aC_Chart ?aC_BadBook ?aC_BadChart ?aC_ChartError ?g_is_integer ?l_is_integer ?c_is_integer ?k_is_integer ?g_is_within ?l_is_within ?c_is_within ?k_is_within ?g_is_pair ?l_is_pair ?c_is_pair ?k_is_pair ?g_is_sized ?l_is_sized ?c_is_sized ?k_is_sized ?g_place_at ?l_place_at ?c_place_at ?k_place_at ?g_is_arrow ?l_is_arrow ?c_is_arrow ?k_is_arrow ?g_is_round ?l_is_round ?c_is_round ?k_is_round ?g_is_price ?l_is_price ?c_is_price ?k_is_price ?g_ends_at ?l_ends_at ?c_ends_at ?k_ends_at ?g_hang_together ?l_hang_together ?c_hang_together ?k_hang_together ?g_begun_least ?l_begun_least ?c_begun_least ?k_begun_least ?g_befores ?l_befores ?c_befores ?k_befores ?g_other_end ?l_other_end ?c_other_end ?k_other_end ?g_walked ?l_walked ?c_walked ?k_walked ?g_rims_by ?l_rims_by ?c_rims_by ?k_rims_by ?g_check_parts ?l_check_parts ?c_check_parts ?k_check_parts ?g_Chart_keep ?i_Chart_keep ?l_Chart_keep ?c_Chart_keep ?k_Chart_keep ?g_Chart___init__ ?i_Chart___init__ ?l_Chart___init__ ?c_Chart___init__ ?k_Chart___init__ ?g_Chart___eq__ ?i_Chart___eq__ ?l_Chart___eq__ ?c_Chart___eq__ ?k_Chart___eq__ ?g_is_sum ?l_is_sum ?c_is_sum ?k_is_sum ?g_is_test ?l_is_test ?c_is_test ?k_is_test ?g_statement_size ?l_statement_size ?c_statement_size ?k_statement_size ?g_body_size ?l_body_size ?c_body_size ?k_body_size ?g_wrong_part ?l_wrong_part ?c_wrong_part ?k_wrong_part ?g_Book___init__ ?i_Book___init__ ?l_Book___init__ ?c_Book___init__ ?k_Book___init__ ?g_Book___eq__ ?i_Book___eq__ ?l_Book___eq__ ?c_Book___eq__ ?k_Book___eq__ ?g__law_hand ?l__law_hand ?c__law_hand ?k__law_hand ?g__law_draw ?l__law_draw ?c__law_draw ?k__law_draw ?g__law_any ?l__law_any ?c__law_any ?k__law_any ?g__law_is ?l__law_is ?c__law_is ?k__law_is ?g__law_nested ?l__law_nested ?c__law_nested ?k__law_nested ?g__law_int ?l__law_int ?c__law_int ?k__law_int ?g__law_sum ?l__law_sum ?c__law_sum ?k__law_sum ?g__law_alone ?l__law_alone ?c__law_alone ?k__law_alone ?g__law_test ?l__law_test ?c__law_test ?k__law_test ?g__law_size ?l__law_size ?c__law_size ?k__law_size ?g__law_statement ?l__law_statement ?c__law_statement ?k__law_statement ?g__law_body ?l__law_body ?c__law_body ?k__law_body ?g__law_parts ?l__law_parts ?c__law_parts ?k__law_parts ?g__law_odd ?l__law_odd ?c__law_odd ?k__law_odd ?g__law_bent ?l__law_bent ?c__law_bent ?k__law_bent ?g__law_is_sum ?l__law_is_sum ?c__law_is_sum ?k__law_is_sum ?g__law_is_test ?l__law_is_test ?c__law_is_test ?k__law_is_test ?g__law_is_statement ?l__law_is_statement ?c__law_is_statement ?k__law_is_statement ?g__law_is_body ?l__law_is_body ?c__law_is_body ?k__law_is_body ?g__law_wrong ?l__law_wrong ?c__law_wrong ?k__law_wrong ?g__law_told_part ?l__law_told_part ?c__law_told_part ?k__law_told_part ?g__law_deep_body ?l__law_deep_body ?c__law_deep_body ?k__law_deep_body ?g__law_known_parts ?l__law_known_parts ?c__law_known_parts ?k__law_known_parts ?g_law ?l_law ?c_law ?k_law ?pg_Book ?hd_Book ?po_Book ?sa_Book ?mk_Book ?kc_Book ?pg_Chart ?hd_Chart ?po_Chart ?sa_Chart ?mk_Chart ?kc_Chart ?nf_Book_Book ?nf_Book_Chart ?nt_Book ?ne_Book ?nb_Book ?nf_Chart_Book ?nf_Chart_Chart ?nt_Chart ?ne_Chart ?nb_Chart ?q_CALL ?q_LESS ?q_MOST_ARROWS ?q_MOST_CELLS ?q_MOST_DEEP ?q_MOST_MULTIPLE ?q_MOST_PLACES_books ?q_MOST_PLACES_charts ?q_MOST_PRICE ?q_MOST_ROUTINES ?q_SAME ?q_SAY ?q_SET ?kk_BadBook_ChartError ?kk_BadBook_ValueError ?n_Book_cells ?n_Book_routines ?n_Chart_ahead ?n_Chart_all_rims ?n_Chart_arrows ?n_Chart_numbers ?n_Chart_outer ?n_Chart_places ?n_Chart_prices ?n_Chart_rounds ?lk_BadBook ?rf_BadBook ?psa_BadBook ?pga_BadBook ?pgg_BadBook ?pno_BadBook ?piC_BadBook ?ptC_BadBook ?pkC_BadBook ?pex_BadBook ?pty_BadBook ?phd_BadBook ?pte_BadBook ?lf_BadBook ?cf_BadBook ?xcl_BadBook ?xat_BadBook ?xmr_BadBook ?z_ValueError ?z_abs ?z_all ?z_bool ?z_enumerate ?z_int ?z_isinstance ?z_len ?z_list ?z_min ?z_range ?z_sorted ?z_str ?z_sum ?z_tuple ?z_zip ?xgt ?xtk ?oa_Book ?om_Book ?ob_Book_NoneType ?oo_Book_NoneType ?ob_Book_bool ?oo_Book_bool ?ob_Book_int ?oo_Book_int ?ob_Book_str ?oo_Book_str ?ob_Book_tuple ?oo_Book_tuple ?ob_Book_list ?oo_Book_list ?ob_Book_dict ?oo_Book_dict ?oc_Book_Book ?oc_Book_Chart ?oa_Chart ?om_Chart ?ob_Chart_NoneType ?oo_Chart_NoneType ?ob_Chart_bool ?oo_Chart_bool ?ob_Chart_int ?oo_Chart_int ?ob_Chart_str ?oo_Chart_str ?ob_Chart_tuple ?oo_Chart_tuple ?ob_Chart_list ?oo_Chart_list ?ob_Chart_dict ?oo_Chart_dict ?oc_Chart_Book ?oc_Chart_Chart ?qS ?dS1 ?dS2 ?dS3 ?kS0
    (case aC_Book => k_is)
    (case aC_Chart => k_is)
    (case aC_BadBook => k_is)
    (case aC_BadChart => k_is)
    (case aC_ChartError => k_is)
    (case g_is_integer => k_is)
    (case l_is_integer => k_is)
    (case c_is_integer => k_is)
    (case k_is_integer => k_is)
    (case g_is_within => k_is)
    (case l_is_within => k_is)
    (case c_is_within => k_is)
    (case k_is_within => k_is)
    (case g_is_pair => k_is)
    (case l_is_pair => k_is)
    (case c_is_pair => k_is)
    (case k_is_pair => k_is)
    (case g_is_sized => k_is)
    (case l_is_sized => k_is)
    (case c_is_sized => k_is)
    (case k_is_sized => k_is)
    (case g_place_at => k_is)
    (case l_place_at => k_is)
    (case c_place_at => k_is)
    (case k_place_at => k_is)
    (case g_is_arrow => k_is)
    (case l_is_arrow => k_is)
    (case c_is_arrow => k_is)
    (case k_is_arrow => k_is)
    (case g_is_round => k_is)
    (case l_is_round => k_is)
    (case c_is_round => k_is)
    (case k_is_round => k_is)
    (case g_is_price => k_is)
    (case l_is_price => k_is)
    (case c_is_price => k_is)
    (case k_is_price => k_is)
    (case g_ends_at => k_is)
    (case l_ends_at => k_is)
    (case c_ends_at => k_is)
    (case k_ends_at => k_is)
    (case g_hang_together => k_is)
    (case l_hang_together => k_is)
    (case c_hang_together => k_is)
    (case k_hang_together => k_is)
    (case g_begun_least => k_is)
    (case l_begun_least => k_is)
    (case c_begun_least => k_is)
    (case k_begun_least => k_is)
    (case g_befores => k_is)
    (case l_befores => k_is)
    (case c_befores => k_is)
    (case k_befores => k_is)
    (case g_other_end => k_is)
    (case l_other_end => k_is)
    (case c_other_end => k_is)
    (case k_other_end => k_is)
    (case g_walked => k_is)
    (case l_walked => k_is)
    (case c_walked => k_is)
    (case k_walked => k_is)
    (case g_rims_by => k_is)
    (case l_rims_by => k_is)
    (case c_rims_by => k_is)
    (case k_rims_by => k_is)
    (case g_check_parts => k_is)
    (case l_check_parts => k_is)
    (case c_check_parts => k_is)
    (case k_check_parts => k_is)
    (case g_Chart_keep => k_is)
    (case i_Chart_keep => k_is)
    (case l_Chart_keep => k_is)
    (case c_Chart_keep => k_is)
    (case k_Chart_keep => k_is)
    (case g_Chart___init__ => k_is)
    (case i_Chart___init__ => k_is)
    (case l_Chart___init__ => k_is)
    (case c_Chart___init__ => k_is)
    (case k_Chart___init__ => k_is)
    (case g_Chart___eq__ => k_is)
    (case i_Chart___eq__ => k_is)
    (case l_Chart___eq__ => k_is)
    (case c_Chart___eq__ => k_is)
    (case k_Chart___eq__ => k_is)
    (case g_is_sum => k_is)
    (case l_is_sum => k_is)
    (case c_is_sum => k_is)
    (case k_is_sum => k_is)
    (case g_is_test => k_is)
    (case l_is_test => k_is)
    (case c_is_test => k_is)
    (case k_is_test => k_is)
    (case g_statement_size => k_is)
    (case l_statement_size => k_is)
    (case c_statement_size => k_is)
    (case k_statement_size => k_is)
    (case g_body_size => k_is)
    (case l_body_size => k_is)
    (case c_body_size => k_is)
    (case k_body_size => k_is)
    (case g_wrong_part => k_is)
    (case l_wrong_part => k_is)
    (case c_wrong_part => k_is)
    (case k_wrong_part => k_is)
    (case g_Book___init__ => k_is)
    (case i_Book___init__ => k_is)
    (case l_Book___init__ => k_is)
    (case c_Book___init__ => k_is)
    (case k_Book___init__ => k_is)
    (case g_Book___eq__ => k_is)
    (case i_Book___eq__ => k_is)
    (case l_Book___eq__ => k_is)
    (case c_Book___eq__ => k_is)
    (case k_Book___eq__ => k_is)
    (case g__law_hand => k_is)
    (case l__law_hand => k_is)
    (case c__law_hand => k_is)
    (case k__law_hand => k_is)
    (case g__law_draw => k_is)
    (case l__law_draw => k_is)
    (case c__law_draw => k_is)
    (case k__law_draw => k_is)
    (case g__law_any => k_is)
    (case l__law_any => k_is)
    (case c__law_any => k_is)
    (case k__law_any => k_is)
    (case g__law_is => k_is)
    (case l__law_is => k_is)
    (case c__law_is => k_is)
    (case k__law_is => k_is)
    (case g__law_nested => k_is)
    (case l__law_nested => k_is)
    (case c__law_nested => k_is)
    (case k__law_nested => k_is)
    (case g__law_int => k_is)
    (case l__law_int => k_is)
    (case c__law_int => k_is)
    (case k__law_int => k_is)
    (case g__law_sum => k_is)
    (case l__law_sum => k_is)
    (case c__law_sum => k_is)
    (case k__law_sum => k_is)
    (case g__law_alone => k_is)
    (case l__law_alone => k_is)
    (case c__law_alone => k_is)
    (case k__law_alone => k_is)
    (case g__law_test => k_is)
    (case l__law_test => k_is)
    (case c__law_test => k_is)
    (case k__law_test => k_is)
    (case g__law_size => k_is)
    (case l__law_size => k_is)
    (case c__law_size => k_is)
    (case k__law_size => k_is)
    (case g__law_statement => k_is)
    (case l__law_statement => k_is)
    (case c__law_statement => k_is)
    (case k__law_statement => k_is)
    (case g__law_body => k_is)
    (case l__law_body => k_is)
    (case c__law_body => k_is)
    (case k__law_body => k_is)
    (case g__law_parts => k_is)
    (case l__law_parts => k_is)
    (case c__law_parts => k_is)
    (case k__law_parts => k_is)
    (case g__law_odd => k_is)
    (case l__law_odd => k_is)
    (case c__law_odd => k_is)
    (case k__law_odd => k_is)
    (case g__law_bent => k_is)
    (case l__law_bent => k_is)
    (case c__law_bent => k_is)
    (case k__law_bent => k_is)
    (case g__law_is_sum => k_is)
    (case l__law_is_sum => k_is)
    (case c__law_is_sum => k_is)
    (case k__law_is_sum => k_is)
    (case g__law_is_test => k_is)
    (case l__law_is_test => k_is)
    (case c__law_is_test => k_is)
    (case k__law_is_test => k_is)
    (case g__law_is_statement => k_is)
    (case l__law_is_statement => k_is)
    (case c__law_is_statement => k_is)
    (case k__law_is_statement => k_is)
    (case g__law_is_body => k_is)
    (case l__law_is_body => k_is)
    (case c__law_is_body => k_is)
    (case k__law_is_body => k_is)
    (case g__law_wrong => k_is)
    (case l__law_wrong => k_is)
    (case c__law_wrong => k_is)
    (case k__law_wrong => k_is)
    (case g__law_told_part => k_is)
    (case l__law_told_part => k_is)
    (case c__law_told_part => k_is)
    (case k__law_told_part => k_is)
    (case g__law_deep_body => k_is)
    (case l__law_deep_body => k_is)
    (case c__law_deep_body => k_is)
    (case k__law_deep_body => k_is)
    (case g__law_known_parts => k_is)
    (case l__law_known_parts => k_is)
    (case c__law_known_parts => k_is)
    (case k__law_known_parts => k_is)
    (case g_law => k_is)
    (case l_law => k_is)
    (case c_law => k_is)
    (case k_law => k_is)
    (case pg_Book => k_is)
    (case hd_Book => k_is)
    (case po_Book => k_is)
    (case sa_Book => k_is)
    (case mk_Book => k_is)
    (case kc_Book => k_is)
    (case pg_Chart => k_is)
    (case hd_Chart => k_is)
    (case po_Chart => k_is)
    (case sa_Chart => k_is)
    (case mk_Chart => k_is)
    (case kc_Chart => k_is)
    (case nf_Book_Book => k_is)
    (case nf_Book_Chart => k_is)
    (case nt_Book => k_is)
    (case ne_Book => k_is)
    (case nb_Book => k_is)
    (case nf_Chart_Book => k_is)
    (case nf_Chart_Chart => k_is)
    (case nt_Chart => k_is)
    (case ne_Chart => k_is)
    (case nb_Chart => k_is)
    (case q_CALL => k_is)
    (case q_LESS => k_is)
    (case q_MOST_ARROWS => k_is)
    (case q_MOST_CELLS => k_is)
    (case q_MOST_DEEP => k_is)
    (case q_MOST_MULTIPLE => k_is)
    (case q_MOST_PLACES_books => k_is)
    (case q_MOST_PLACES_charts => k_is)
    (case q_MOST_PRICE => k_is)
    (case q_MOST_ROUTINES => k_is)
    (case q_SAME => k_is)
    (case q_SAY => k_is)
    (case q_SET => k_is)
    (case kk_BadBook_ChartError => kit_is)
    (case kk_BadBook_ValueError => kit_is)
    (case n_Book_cells => k_is)
    (case n_Book_routines => k_is)
    (case n_Chart_ahead => k_is)
    (case n_Chart_all_rims => k_is)
    (case n_Chart_arrows => k_is)
    (case n_Chart_numbers => k_is)
    (case n_Chart_outer => k_is)
    (case n_Chart_places => k_is)
    (case n_Chart_prices => k_is)
    (case n_Chart_rounds => k_is)
    (case lk_BadBook => k_is)
    (case rf_BadBook => rfl)
    (case psa_BadBook => k_is)
    (case pga_BadBook => k_is)
    (case pgg_BadBook => k_is)
    (case pno_BadBook => k_is)
    (case piC_BadBook => k_is)
    (case ptC_BadBook => k_is)
    (case pkC_BadBook => k_is)
    (case pex_BadBook => k_is)
    (case pty_BadBook => k_is)
    (case phd_BadBook => k_is)
    (case pte_BadBook => kts_exm)
    (case lf_BadBook => k_is)
    (case cf_BadBook => k_is)
    (case xcl_BadBook => rfl)
    (case xat_BadBook => k_is)
    (case xmr_BadBook => k_is)
    (case z_ValueError => k_is)
    (case z_abs => k_is)
    (case z_all => k_is)
    (case z_bool => k_is)
    (case z_enumerate => k_is)
    (case z_int => k_is)
    (case z_isinstance => k_is)
    (case z_len => k_is)
    (case z_list => k_is)
    (case z_min => k_is)
    (case z_range => k_is)
    (case z_sorted => k_is)
    (case z_str => k_is)
    (case z_sum => k_is)
    (case z_tuple => k_is)
    (case z_zip => k_is)
    (case xgt => k_is)
    (case xtk => k_is)
    (case oa_Book => k_is)
    (case om_Book => k_is)
    (case ob_Book_NoneType => kit_is)
    (case oo_Book_NoneType => kit_is)
    (case ob_Book_bool => kit_is)
    (case oo_Book_bool => kit_is)
    (case ob_Book_int => kit_is)
    (case oo_Book_int => kit_is)
    (case ob_Book_str => kit_is)
    (case oo_Book_str => kit_is)
    (case ob_Book_tuple => kit_is)
    (case oo_Book_tuple => kit_is)
    (case ob_Book_list => kit_is)
    (case oo_Book_list => kit_is)
    (case ob_Book_dict => kit_is)
    (case oo_Book_dict => kit_is)
    (case oc_Book_Book => kit_is)
    (case oc_Book_Chart => kit_is)
    (case oa_Chart => k_is)
    (case om_Chart => k_is)
    (case ob_Chart_NoneType => kit_is)
    (case oo_Chart_NoneType => kit_is)
    (case ob_Chart_bool => kit_is)
    (case oo_Chart_bool => kit_is)
    (case ob_Chart_int => kit_is)
    (case oo_Chart_int => kit_is)
    (case ob_Chart_str => kit_is)
    (case oo_Chart_str => kit_is)
    (case ob_Chart_tuple => kit_is)
    (case oo_Chart_tuple => kit_is)
    (case ob_Chart_list => kit_is)
    (case oo_Chart_list => kit_is)
    (case ob_Chart_dict => kit_is)
    (case oo_Chart_dict => kit_is)
    (case oc_Chart_Book => kit_is)
    (case oc_Chart_Chart => kit_is)
    (case qS => k_is)
    (case dS1 => k_is)
    (case dS2 => exact ⟨⟨_, _, rfl, rfl⟩, ⟨_, _, rfl, rfl⟩, ⟨_, _, rfl, rfl⟩, ⟨_, _, rfl, rfl⟩, ⟨_, _, rfl, rfl⟩, trivial⟩)
    (case dS3 => rfl)
    (case kS0 => exact ⟨⟨_, rfl⟩, ⟨.int 3, ⟨_, rfl⟩, fun _ _ _ => rfl⟩, rfl, ⟨_, rfl⟩, ⟨.int 2, ⟨_, rfl⟩, fun _ _ _ => rfl⟩, rfl, ⟨_, rfl⟩, ⟨.int 2, ⟨_, rfl⟩, fun _ _ _ => rfl⟩, rfl, ⟨_, rfl⟩, ⟨.int 4, ⟨_, rfl⟩, fun _ _ _ => rfl⟩, rfl, ⟨_, rfl⟩, ⟨.int 3, ⟨_, rfl⟩, fun _ _ _ => rfl⟩, rfl, trivial⟩)
