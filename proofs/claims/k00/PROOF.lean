import PyProof.Rows.All
import Wide.All
import OpenK.AllK
import Wide.FinOn
import HandS.ForMost
import HandS.Exc
import HandS.ExcOwn
import HandS.WordsExc
import HandS.TryOnly
import HandS.Wide
import HandS.IsInst
import HandS.TupAny
import HandS.TupMul
import HandS.List
import HandS.Zip
import HandS.HotCalls
import HandS.Style
import HandS.Conv
import HandS.Deep
import KE.GoesEnum
import KE.GoesMore
import HandS.More
import PyProof.EqAt
import PyProof.EqKinds
import PyProof.TupleCall
import KE.OsGo
import KE.KExcIs
import HandS.ForSpec
import OpenK.KWalk
import PyProof.InstNe
import HandS.SortInts
import HandS.ExcValue
import HandS.Strs
import PyProof.TupleOfSeq
import KE.KRevSl
import HandS.Dict
import PyProof.ListIndexNeg
import HandS.SetFor
import HandS.SetBool
import PyProof.AssignAttr
import PyProof.ReprRoads
import HandS.Ends
import KE.OsRunLaw
import PySem.Challenge.RW_bigcorners_k00_errors_of_the_package
set_option Elab.async false
set_option linter.all false
set_option maxRecDepth 100000
set_option maxHeartbeats 4000000
set_option autoImplicit false
namespace L3
open PySem L2

inductive D where
  | non
  | bl (b : Bool)
  | int (i : Int)
  | str (s : Str)
  | tup (ds : List D)
  | lst (ds : List D)
  | dk (ks : List Key) (ds : List D)
  | dt (ks : List (List Key)) (ds : List D)
  | ins (c : Nat) (ns : List Str) (ds : List D)
  | ty (n : String)
  | cls (c : Nat)
  | adr (a : Addr)
  | exn (c : Nat) (ds : List D)
inductive O where
  | s (d : D)
  | lst (os : List O)
  | dk (ks : List Key) (os : List O)
  | dt (ks : List (List Key)) (os : List O)
  | ins (c : Nat) (ns : List Str) (os : List O)

abbrev Fp := List Addr

def Ex (H H' : Hp) : Prop := ∀ a o, H a = some o → H' a = some o
theorem Ex.refl (H : Hp) : Ex H H := fun _ _ h => h
theorem Ex.trans {H H1 H2 : Hp} (a : Ex H H1) (b : Ex H1 H2) : Ex H H2 := fun x o h => b x o (a x o h)
theorem Ex.sqT {K : PySem.W.Frag} {H H' : Hp} {a : Addr} {xs : List V} (e : Ex H H') (h : SqT K H a xs) : SqT K H' a xs := by
  rcases h with (h | ⟨o, h⟩) | h
  · exact .inl (.inl (e _ _ h))
  · exact .inl (.inr ⟨o, e _ _ h⟩)
  · exact .inr h
theorem Ex.sqL {K : PySem.W.Frag} {H H' : Hp} {a : Addr} {xs : List V} (e : Ex H H') (h : SqL K H a xs) : SqL K H' a xs := by
  rcases h with (h | ⟨o, h⟩) | h
  · exact .inl (.inl (e _ _ h))
  · exact .inl (.inr ⟨o, e _ _ h⟩)
  · exact .inr h
def Pl (K : PySem.W.Frag) (H : Hp) (a : Addr) : Prop := (∃ o u, H a = some (.frz o u) ∧ o.dict = none) ∨ ∃ o, K.lookup a = some o ∧ o.dict = none
def SqP (K : PySem.W.Frag) (H : Hp) (a : Addr) (xs : List V) : Prop := SqT K H a xs ∧ Pl K H a
theorem Ex.sqP {K : PySem.W.Frag} {H H' : Hp} {a : Addr} {xs : List V} (e : Ex H H') (h : SqP K H a xs) : SqP K H' a xs :=
  ⟨e.sqT h.1, h.2.elim (fun ⟨o, u, q, d⟩ => .inl ⟨o, u, e _ _ q, d⟩) .inr⟩
theorem SqP.new {K : PySem.W.Frag} {H : Hp} {p : Addr} {o : Obj} {xs : List V} (hd : o.dict = none) : SqP K (upd H p (.frz o (.tup xs))) p xs :=
  ⟨.inl (.inr ⟨o, upd_same⟩), .inl ⟨o, _, upd_same, hd⟩⟩
theorem Ex.keep {H H' : Hp} (e : Ex H H') {a : Addr} (h : H a ≠ none) : H' a = H a := by
  cases q : H a with
  | none => exact absurd q h
  | some o => exact e a o q
theorem Ex.dom {H H' : Hp} (e : Ex H H') {a : Addr} (h : H a ≠ none) : H' a ≠ none := by rw [e.keep h]; exact h

def xfld (c : Nat) : Str := match c % 4 with
  | 0 => "part"
  | 1 => "line"
  | 2 => "place"
  | _ => "name"
def ExF (F : Hp) (c : Nat) (dd : Option Addr) (xs : List V) : Prop := (xs = [] ∧ dd = none) ∨ ∃ d x, xs = [x] ∧ dd = some d ∧ F d = some (.xd [(xfld c, x)])
theorem ExF.mono {F F' : Hp} {c : Nat} {dd : Option Addr} {xs : List V} (e : Ex F F') (h : ExF F c dd xs) : ExF F' c dd xs := h.elim .inl fun ⟨d, x, a, b, q⟩ => .inr ⟨d, x, a, b, e _ _ q⟩
mutual
def RpD (K : PySem.W.Frag) (cl : Nat → Addr) (F : Hp) : D → V → Prop
  | .non, v => v = .non
  | .bl b, v => v = .bl b
  | .int i, v => v = .int i
  | .str s, v => v = .str s
  | .tup ds, v => ∃ a xs, v = .ref a ∧ SqP K F a xs ∧ RpDs K cl F ds xs
  | .lst ds, v => ∃ a xs, v = .ref a ∧ SqL K F a xs ∧ RpDs K cl F ds xs
  | .dk ks ds, v => ∃ a xs, v = .ref a ∧ F a = some (.dK (ks.zip xs)) ∧ ks.length = xs.length ∧ RpDs K cl F ds xs
  | .dt ks ds, v => ∃ a xs, v = .ref a ∧ F a = some (.dT (ks.zip xs)) ∧ ks.length = xs.length ∧ RpDs K cl F ds xs
  | .ins c ns ds, v => ∃ a dx xs, v = .ref a ∧ F a = some (.ins (cl c) dx (ns.zip xs)) ∧ ns.length = xs.length ∧ RpDs K cl F ds xs
  | .ty n, v => v = .ty n
  | .cls c, v => v = .ref (cl c)
  | .adr a, v => v = .ref a
  | .exn c ds, v => ∃ a oe u dd xs, v = .ref a ∧ F a = some (.frz oe u) ∧ Zc (.ref (cl c)) dd oe ∧ (∃ vs, oe.data = .fields vs) ∧ ExF F c dd xs ∧ RpDs K cl F ds xs
def RpDs (K : PySem.W.Frag) (cl : Nat → Addr) (F : Hp) : List D → List V → Prop
  | [], vs => vs = []
  | d :: ds, vs => ∃ v r, vs = v :: r ∧ RpD K cl F d v ∧ RpDs K cl F ds r
end
mutual
def RpO (K : PySem.W.Frag) (cl : Nat → Addr) (F H : Hp) : O → V → Fp → Prop
  | .s d, v, fp => fp = [] ∧ RpD K cl F d v
  | .lst os, v, fp => ∃ a xs f, v = .ref a ∧ fp = a :: f ∧ H a = some (.lst xs) ∧ RpOs K cl F H os xs f
  | .dk ks os, v, fp => ∃ a xs f, v = .ref a ∧ fp = a :: f ∧ H a = some (.dK (ks.zip xs)) ∧ ks.length = xs.length ∧ RpOs K cl F H os xs f
  | .dt ks os, v, fp => ∃ a xs f, v = .ref a ∧ fp = a :: f ∧ H a = some (.dT (ks.zip xs)) ∧ ks.length = xs.length ∧ RpOs K cl F H os xs f
  | .ins c ns os, v, fp => ∃ a dx xs f, v = .ref a ∧ fp = a :: f ∧ H a = some (.ins (cl c) dx (ns.zip xs)) ∧ ns.length = xs.length ∧ RpOs K cl F H os xs f
def RpOs (K : PySem.W.Frag) (cl : Nat → Addr) (F H : Hp) : List O → List V → Fp → Prop
  | [], vs, fp => vs = [] ∧ fp = []
  | o :: os, vs, fp => ∃ v r f g, vs = v :: r ∧ fp = f ++ g ∧ RpO K cl F H o v f ∧ RpOs K cl F H os r g
end

section
variable {K : PySem.W.Frag} {cl : Nat → Addr} {F F' H H' : Hp}
mutual
theorem RpD.mono (eF : Ex F F') : ∀ (d : D) (v : V), RpD K cl F d v → RpD K cl F' d v
  | .non, _, h => h
  | .bl _, _, h => h
  | .int _, _, h => h
  | .str _, _, h => h
  | .ty _, _, h => h
  | .cls _, _, h => h
  | .adr _, _, h => h
  | .exn c ds, v, h => by
    obtain ⟨a, oe, u, dd, xs, e1, q, z, f, x, r⟩ := h
    exact ⟨a, oe, u, dd, xs, e1, eF _ _ q, z, f, x.mono eF, RpDs.mono eF ds xs r⟩
  | .tup ds, v, h => by
    obtain ⟨a, xs, e1, q, r⟩ := h
    exact ⟨a, xs, e1, eF.sqP q, RpDs.mono eF ds xs r⟩
  | .lst ds, v, h => by
    obtain ⟨a, xs, e1, q, r⟩ := h
    exact ⟨a, xs, e1, eF.sqL q, RpDs.mono eF ds xs r⟩
  | .dk ks ds, v, h => by
    obtain ⟨a, xs, e1, q, l, r⟩ := h
    exact ⟨a, xs, e1, eF _ _ q, l, RpDs.mono eF ds xs r⟩
  | .dt ks ds, v, h => by
    obtain ⟨a, xs, e1, q, l, r⟩ := h
    exact ⟨a, xs, e1, eF _ _ q, l, RpDs.mono eF ds xs r⟩
  | .ins c ks ds, v, h => by
    obtain ⟨a, dx, xs, e1, q, l, r⟩ := h
    exact ⟨a, dx, xs, e1, eF _ _ q, l, RpDs.mono eF ds xs r⟩
theorem RpDs.mono (eF : Ex F F') : ∀ (ds : List D) (vs : List V), RpDs K cl F ds vs → RpDs K cl F' ds vs
  | [], _, h => h
  | d :: ds, vs, h => by
    obtain ⟨v, r, e1, h1, h2⟩ := h
    exact ⟨v, r, e1, RpD.mono eF d v h1, RpDs.mono eF ds r h2⟩
end
mutual
theorem RpO.mono (eF : Ex F F') : ∀ (o : O) (v : V) (fp : Fp), (∀ a ∈ fp, H' a = H a) → RpO K cl F H o v fp → RpO K cl F' H' o v fp
  | .s d, v, fp, _, h => ⟨h.1, h.2.mono eF d v⟩
  | .lst os, v, fp, k, h => by
    obtain ⟨a, xs, f, e1, rfl, q, r⟩ := h
    exact ⟨a, xs, f, e1, rfl, (k a (by simp)).trans q, RpOs.mono eF os xs f (fun b hb => k b (by simp [hb])) r⟩
  | .dk ks os, v, fp, k, h => by
    obtain ⟨a, xs, f, e1, rfl, q, l, r⟩ := h
    exact ⟨a, xs, f, e1, rfl, (k a (by simp)).trans q, l, RpOs.mono eF os xs f (fun b hb => k b (by simp [hb])) r⟩
  | .dt ks os, v, fp, k, h => by
    obtain ⟨a, xs, f, e1, rfl, q, l, r⟩ := h
    exact ⟨a, xs, f, e1, rfl, (k a (by simp)).trans q, l, RpOs.mono eF os xs f (fun b hb => k b (by simp [hb])) r⟩
  | .ins c ks os, v, fp, k, h => by
    obtain ⟨a, dx, xs, f, e1, rfl, q, l, r⟩ := h
    exact ⟨a, dx, xs, f, e1, rfl, (k a (by simp)).trans q, l, RpOs.mono eF os xs f (fun b hb => k b (by simp [hb])) r⟩
theorem RpOs.mono (eF : Ex F F') : ∀ (os : List O) (vs : List V) (fp : Fp), (∀ a ∈ fp, H' a = H a) → RpOs K cl F H os vs fp → RpOs K cl F' H' os vs fp
  | [], _, _, _, h => h
  | o :: os, vs, fp, k, h => by
    obtain ⟨v, r, f, g, e1, rfl, h1, h2⟩ := h
    exact ⟨v, r, f, g, e1, rfl, RpO.mono eF o v f (fun b hb => k b (by simp [hb])) h1, RpOs.mono eF os r g (fun b hb => k b (by simp [hb])) h2⟩
end
theorem RpO.inH_ : True := trivial
mutual
theorem RpO.inH : ∀ (o : O) (v : V) (fp : Fp), RpO K cl F H o v fp → ∀ a ∈ fp, H a ≠ none
  | .s d, v, fp, h, a, ha => by rw [h.1] at ha; simp at ha
  | .lst os, v, fp, h, a, ha => by
    obtain ⟨b, xs, f, e1, rfl, q, r⟩ := h
    rcases List.mem_cons.mp ha with rfl | ha
    · rw [q]; simp
    · exact RpOs.inH os xs f r a ha
  | .dk ks os, v, fp, h, a, ha => by
    obtain ⟨b, xs, f, e1, rfl, q, l, r⟩ := h
    rcases List.mem_cons.mp ha with rfl | ha
    · rw [q]; simp
    · exact RpOs.inH os xs f r a ha
  | .dt ks os, v, fp, h, a, ha => by
    obtain ⟨b, xs, f, e1, rfl, q, l, r⟩ := h
    rcases List.mem_cons.mp ha with rfl | ha
    · rw [q]; simp
    · exact RpOs.inH os xs f r a ha
  | .ins c ks os, v, fp, h, a, ha => by
    obtain ⟨b, dx, xs, f, e1, rfl, q, l, r⟩ := h
    rcases List.mem_cons.mp ha with rfl | ha
    · rw [q]; simp
    · exact RpOs.inH os xs f r a ha
theorem RpOs.inH : ∀ (os : List O) (vs : List V) (fp : Fp), RpOs K cl F H os vs fp → ∀ a ∈ fp, H a ≠ none
  | [], _, _, h, a, ha => by rw [h.2] at ha; simp at ha
  | d :: ds, vs, fp, h, a, ha => by
    obtain ⟨v, r, f, g, e1, rfl, h1, h2⟩ := h
    rcases List.mem_append.mp ha with ha | ha
    · exact RpO.inH d v f h1 a ha
    · exact RpOs.inH ds r g h2 a ha
end
theorem RpOs.length : ∀ {ds : List O} {xs : List V} {fp : Fp}, RpOs K cl F H ds xs fp → xs.length = ds.length
  | [], xs, fp, r => by rw [r.1]; rfl
  | d :: ds, xs, fp, r => by
    obtain ⟨v, r', f1, g1, rfl, rfl, h1, h2⟩ := r
    simp [h2.length]
theorem RpDs.length : ∀ {ds : List D} {xs : List V}, RpDs K cl F ds xs → xs.length = ds.length
  | [], xs, r => by rw [show xs = [] from r]; rfl
  | d :: ds, xs, r => by
    obtain ⟨v, r', rfl, h1, h2⟩ := r
    simp [h2.length]
theorem RpDs.get : ∀ {ds : List D} {xs : List V} {i : Nat} {d : D}, RpDs K cl F ds xs → ds[i]? = some d → ∃ v, xs[i]? = some v ∧ RpD K cl F d v
  | [], xs, i, d, _, h => by simp at h
  | d1 :: ds, xs, 0, d, r, h => by
    obtain ⟨v, r', rfl, h1, h2⟩ := r
    simp at h
    subst h
    exact ⟨v, rfl, h1⟩
  | d1 :: ds, xs, i + 1, d, r, h => by
    obtain ⟨v, r', rfl, h1, h2⟩ := r
    obtain ⟨v2, e2, r2⟩ := RpDs.get h2 (by simpa using h)
    exact ⟨v2, by simpa using e2, r2⟩
theorem RpOs.get : ∀ {ds : List O} {xs : List V} {fp : Fp} {i : Nat} {d : O}, RpOs K cl F H ds xs fp → ds[i]? = some d →
    ∃ v g, xs[i]? = some v ∧ RpO K cl F H d v g ∧ ∀ a ∈ g, a ∈ fp
  | [], xs, fp, i, d, _, h => by simp at h
  | d1 :: ds, xs, fp, 0, d, r, h => by
    obtain ⟨v, r', f1, g1, rfl, rfl, h1, h2⟩ := r
    simp at h
    subst h
    exact ⟨v, f1, rfl, h1, fun a ha => List.mem_append_left _ ha⟩
  | d1 :: ds, xs, fp, i + 1, d, r, h => by
    obtain ⟨v, r', f1, g1, rfl, rfl, h1, h2⟩ := r
    obtain ⟨v2, g2, e2, r2, s2⟩ := RpOs.get h2 (by simpa using h)
    exact ⟨v2, g2, by simpa using e2, r2, fun a ha => List.mem_append_right _ (s2 a ha)⟩
theorem RpDs.append : ∀ {ds es : List D} {xs ys : List V}, RpDs K cl F ds xs → RpDs K cl F es ys → RpDs K cl F (ds ++ es) (xs ++ ys)
  | [], es, xs, ys, r, q => by rw [show xs = [] from r]; exact q
  | d :: ds, es, xs, ys, r, q => by
    obtain ⟨v, r', rfl, h1, h2⟩ := r
    exact ⟨v, r' ++ ys, rfl, h1, h2.append q⟩
theorem RpOs.append : ∀ {ds es : List O} {xs ys : List V} {f g : Fp}, RpOs K cl F H ds xs f → RpOs K cl F H es ys g → RpOs K cl F H (ds ++ es) (xs ++ ys) (f ++ g)
  | [], es, xs, ys, f, g, r, q => by rw [r.1, r.2]; exact q
  | d :: ds, es, xs, ys, f, g, r, q => by
    obtain ⟨v, r', f1, g1, rfl, rfl, h1, h2⟩ := r
    exact ⟨v, r' ++ ys, f1, g1 ++ g, rfl, by simp, h1, h2.append q⟩
theorem RpDs.os : ∀ {ds : List D} {xs : List V}, RpDs K cl F ds xs → RpOs K cl F H (ds.map O.s) xs []
  | [], xs, r => ⟨r, rfl⟩
  | d :: ds, xs, r => by
    obtain ⟨v, r', rfl, h1, h2⟩ := r
    exact ⟨v, r', [], [], rfl, rfl, ⟨rfl, h1⟩, h2.os⟩

mutual
def O.d : O → D
  | .s d => d
  | .lst os => .lst (O.ds os)
  | .dk ks os => .dk ks (O.ds os)
  | .dt ks os => .dt ks (O.ds os)
  | .ins c ns os => .ins c ns (O.ds os)
def O.ds : List O → List D
  | [] => []
  | o :: os => o.d :: O.ds os
end
theorem O.ds_map : ∀ os : List O, O.ds os = os.map O.d
  | [] => rfl
  | o :: os => by rw [List.map_cons, ← O.ds_map os]; rfl
theorem O.ds_s (ds : List D) : O.ds (ds.map O.s) = ds := by
  rw [O.ds_map, List.map_map]
  induction ds with
  | nil => rfl
  | cons d ds ih => rw [List.map_cons, ih]; rfl
mutual
theorem RpO.settle (eF : Ex F F') : ∀ (o : O) (v : V) (fp : Fp), (∀ a ∈ fp, F' a = H a) → RpO K cl F H o v fp → RpD K cl F' o.d v
  | .s d, v, fp, _, h => h.2.mono eF d v
  | .lst os, v, fp, k, h => by
    obtain ⟨a, xs, f, e1, rfl, q, r⟩ := h
    exact ⟨a, xs, e1, .inl (.inl ((k a (by simp)).trans q)), RpOs.settle eF os xs f (fun b hb => k b (by simp [hb])) r⟩
  | .dk ks os, v, fp, k, h => by
    obtain ⟨a, xs, f, e1, rfl, q, l, r⟩ := h
    exact ⟨a, xs, e1, (k a (by simp)).trans q, l, RpOs.settle eF os xs f (fun b hb => k b (by simp [hb])) r⟩
  | .dt ks os, v, fp, k, h => by
    obtain ⟨a, xs, f, e1, rfl, q, l, r⟩ := h
    exact ⟨a, xs, e1, (k a (by simp)).trans q, l, RpOs.settle eF os xs f (fun b hb => k b (by simp [hb])) r⟩
  | .ins c ks os, v, fp, k, h => by
    obtain ⟨a, dx, xs, f, e1, rfl, q, l, r⟩ := h
    exact ⟨a, dx, xs, e1, (k a (by simp)).trans q, l, RpOs.settle eF os xs f (fun b hb => k b (by simp [hb])) r⟩
theorem RpOs.settle (eF : Ex F F') : ∀ (os : List O) (vs : List V) (fp : Fp), (∀ a ∈ fp, F' a = H a) → RpOs K cl F H os vs fp → RpDs K cl F' (O.ds os) vs
  | [], _, _, _, h => h.1
  | o :: os, vs, fp, k, h => by
    obtain ⟨v, r, f, g, e1, rfl, h1, h2⟩ := h
    exact ⟨v, r, e1, RpO.settle eF o v f (fun b hb => k b (by simp [hb])) h1, RpOs.settle eF os r g (fun b hb => k b (by simp [hb])) h2⟩
end
theorem RpO.rd (e : Ex F H) {o : O} {v : V} {fp : Fp} (h : RpO K cl F H o v fp) : RpD K cl H o.d v := RpO.settle e o v fp (fun _ _ => rfl) h
theorem RpOs.rd (e : Ex F H) {o : List O} {v : List V} {fp : Fp} (h : RpOs K cl F H o v fp) : RpDs K cl H (O.ds o) v := RpOs.settle e o v fp (fun _ _ => rfl) h
end
end L3
namespace L3
open PySem L2

abbrev Env := List (Option O)

structure Cn where
  K : PySem.W.Frag
  cl : Nat → Addr
  F0 : Hp
  H0 : Hp
  io : Fp
  IO : List Nat
  vs : L2.St
  n : Nat

structure Mo where
  F : Hp
  H : Hp
  env : Env
  fps : List Fp
  σ : L2.St

def SlotOk (K : PySem.W.Frag) (cl : Nat → Addr) (F H : Hp) (o : Option O) (s : Option V) (f : Fp) : Prop :=
  match o with
  | none => f = []
  | some d => ∃ v, s = some v ∧ RpO K cl F H d v f

structure Sta (C : Cn) (m : Mo) : Prop where
  ln : m.env.length = C.n
  l1 : m.σ.length = m.env.length
  l2 : m.fps.length = m.env.length
  sl : ∀ (i : Nat) (o : Option O) (s : Option V) (f : Fp), m.env[i]? = some o → m.σ[i]? = some s → m.fps[i]? = some f → SlotOk C.K C.cl m.F m.H o s f
  ex : Ex m.F m.H
  exF : Ex C.F0 m.F
  newF : ∀ a, m.F a ≠ none → C.F0 a = none → C.H0 a = none ∨ a ∈ C.io
  nd : ∀ (i : Nat) (f : Fp), m.fps[i]? = some f → f.Nodup
  dj : ∀ (i j : Nat) (f g : Fp) (a : Addr), i ≠ j → m.fps[i]? = some f → m.fps[j]? = some g → a ∈ f → a ∉ g
  df : ∀ a ∈ m.fps.flatten, m.F a = none
  own : ∀ a ∈ m.fps.flatten, C.H0 a = none ∨ a ∈ C.io
  frame : ∀ b o, C.H0 b = some o → b ∉ C.io → m.H b = some o
  dom : ∀ b, C.H0 b ≠ none → m.H b ≠ none
  pin : ∀ i ∈ C.IO, m.σ[i]? = C.vs[i]?

structure Step (T : List Nat) (m m' : Mo) : Prop where
  exF : Ex m.F m'.F
  keep : ∀ b o, m.H b = some o → b ∉ m.fps.flatten → m'.H b = some o
  dom : ∀ b, m.H b ≠ none → m'.H b ≠ none
  newF : ∀ a, m'.F a ≠ none → m.F a = none → m.H a = none ∨ a ∈ m.fps.flatten
  newO : ∀ a ∈ m'.fps.flatten, m.H a = none ∨ a ∈ m.fps.flatten
  len : m'.env.length = m.env.length
  unt : ∀ i, i ∉ T → m'.env[i]? = m.env[i]? ∧ m'.fps[i]? = m.fps[i]? ∧ m'.σ[i]? = m.σ[i]? ∧ ∀ f, m.fps[i]? = some f → ∀ a ∈ f, m'.H a = m.H a

theorem Step.refl (T : List Nat) (m : Mo) : Step T m m :=
  ⟨Ex.refl _, fun _ _ h _ => h, fun _ h => h, fun a h h' => absurd h' h, fun a h => .inr h, rfl, fun _ _ => ⟨rfl, rfl, rfl, fun _ _ _ _ => rfl⟩⟩
theorem Step.trans {T1 T2 : List Nat} {m m1 m2 : Mo} (s : Step T1 m m1) (t : Step T2 m1 m2) : Step (T1 ++ T2) m m2 where
  exF := s.exF.trans t.exF
  keep := fun b o h n => t.keep b o (s.keep b o h n) fun q => by
    rcases s.newO b q with z | z
    · rw [h] at z; cases z
    · exact n z
  dom := fun b h => t.dom b (s.dom b h)
  newF := fun a h n => by
    by_cases q : m1.F a = none
    · rcases t.newF a h q with z | z
      · exact .inl (Classical.byContradiction fun w => s.dom a w z)
      · exact s.newO a z
    · exact s.newF a q n
  newO := fun a h => by
    rcases t.newO a h with z | z
    · exact .inl (Classical.byContradiction fun w => s.dom a w z)
    · exact s.newO a z
  len := t.len.trans s.len
  unt := fun i h => by
    obtain ⟨a1, a2, a3, a4⟩ := s.unt i (fun z => h (by simp [z]))
    obtain ⟨b1, b2, b3, b4⟩ := t.unt i (fun z => h (by simp [z]))
    exact ⟨b1.trans a1, b2.trans a2, b3.trans a3, fun f hf a ha => (b4 f (a2.trans hf) a ha).trans (a4 f hf a ha)⟩
theorem Step.wk {T T' : List Nat} {m m' : Mo} (s : Step T m m') (h : ∀ i ∈ T, i ∈ T') : Step T' m m' :=
  ⟨s.exF, s.keep, s.dom, s.newF, s.newO, s.len, fun i hi => s.unt i fun z => hi (h i z)⟩

theorem Sta.slot {C : Cn} {m : Mo} (S : Sta C m) {x : Nat} {d : O} (h : m.env[x]? = some (some d)) : ∃ v f, m.σ[x]? = some (some v) ∧ m.fps[x]? = some f ∧ RpO C.K C.cl m.F m.H d v f := by
  have h1 : x < m.env.length := (List.getElem?_eq_some_iff.mp h).1
  have h2 : x < m.σ.length := by rw [S.l1]; exact h1
  have h3 : x < m.fps.length := by rw [S.l2]; exact h1
  obtain ⟨v, e, r⟩ := S.sl x _ _ _ h (List.getElem?_eq_getElem h2) (List.getElem?_eq_getElem h3)
  exact ⟨v, _, by rw [List.getElem?_eq_getElem h2, e], List.getElem?_eq_getElem h3, r⟩
theorem Sta.slotF {C : Cn} {m : Mo} (S : Sta C m) {x : Nat} {f : Fp} (h : m.fps[x]? = some f) : ∃ o s, m.env[x]? = some o ∧ m.σ[x]? = some s ∧ SlotOk C.K C.cl m.F m.H o s f := by
  have h3 : x < m.fps.length := (List.getElem?_eq_some_iff.mp h).1
  have h1 : x < m.env.length := by rw [← S.l2]; exact h3
  have h2 : x < m.σ.length := by rw [S.l1]; exact h1
  exact ⟨_, _, List.getElem?_eq_getElem h1, List.getElem?_eq_getElem h2, S.sl x _ _ _ (List.getElem?_eq_getElem h1) (List.getElem?_eq_getElem h2) h⟩
theorem mem_fps {m : Mo} {i : Nat} {f : Fp} (h : m.fps[i]? = some f) {a : Addr} (ha : a ∈ f) : a ∈ m.fps.flatten := List.mem_flatten.mpr ⟨f, List.mem_of_getElem? h, ha⟩
theorem Sta.inH {C : Cn} {m : Mo} (S : Sta C m) : ∀ a ∈ m.fps.flatten, m.H a ≠ none := by
  intro a ha
  obtain ⟨f, hf, haf⟩ := List.mem_flatten.mp ha
  obtain ⟨i, hi, e⟩ := List.mem_iff_getElem.mp hf
  have e1 : m.fps[i]? = some f := by rw [List.getElem?_eq_getElem hi, e]
  obtain ⟨o, s, h1, h2, q⟩ := S.slotF e1
  cases o with
  | none => rw [show f = [] from q] at haf; simp at haf
  | some d =>
    obtain ⟨v, _, r⟩ := q
    exact r.inH d v f a haf

structure Gro (m m' : Mo) : Prop where
  env : m'.env = m.env
  fps : m'.fps = m.fps
  σ : m'.σ = m.σ
  exF : Ex m.F m'.F
  exH : Ex m.H m'.H
  ex : Ex m'.F m'.H
  newF : ∀ a, m'.F a ≠ none → m.F a = none → m.H a = none
theorem Gro.refl {C : Cn} {m : Mo} (S : Sta C m) : Gro m m := ⟨rfl, rfl, rfl, Ex.refl _, Ex.refl _, S.ex, fun a h h' => absurd h' h⟩
theorem Gro.trans {m m1 m2 : Mo} (g : Gro m m1) (h : Gro m1 m2) : Gro m m2 :=
  ⟨h.env.trans g.env, h.fps.trans g.fps, h.σ.trans g.σ, g.exF.trans h.exF, g.exH.trans h.exH, h.ex, fun a n z => by
    by_cases q : m1.F a = none
    · have := h.newF a n q
      exact Classical.byContradiction fun w => g.exH.dom w this
    · exact g.newF a q z⟩
theorem Gro.step {C : Cn} {m m' : Mo} (S : Sta C m) (g : Gro m m') : Step [] m m' where
  exF := g.exF
  keep := fun b o h _ => g.exH b o h
  dom := fun b h => g.exH.dom h
  newF := fun a h n => .inl (g.newF a h n)
  newO := fun a h => .inr (by rw [g.fps] at h; exact h)
  len := by rw [g.env]
  unt := fun i _ => ⟨by rw [g.env], by rw [g.fps], by rw [g.σ], fun f hf a ha => g.exH.keep (S.inH a (mem_fps hf ha))⟩
theorem Sta.gro {C : Cn} {m m' : Mo} (S : Sta C m) (g : Gro m m') : Sta C m' where
  ln := by rw [g.env]; exact S.ln
  l1 := by rw [g.σ, g.env]; exact S.l1
  l2 := by rw [g.fps, g.env]; exact S.l2
  sl := fun i o s f h1 h2 h3 => by
    rw [g.env] at h1; rw [g.σ] at h2; rw [g.fps] at h3
    have q := S.sl i o s f h1 h2 h3
    cases o with
    | none => exact q
    | some d =>
      obtain ⟨v, e, r⟩ := q
      exact ⟨v, e, r.mono g.exF d v f (fun a ha => g.exH.keep (S.inH a (mem_fps h3 ha)))⟩
  ex := g.ex
  exF := S.exF.trans g.exF
  newF := fun a h n => by
    by_cases q : m.F a = none
    · have z := g.newF a h q
      exact .inl (Classical.byContradiction fun w => S.dom a w z)
    · exact S.newF a q n
  nd := by rw [g.fps]; exact S.nd
  dj := by rw [g.fps]; exact S.dj
  df := fun a ha => by
    rw [g.fps] at ha
    exact Classical.byContradiction fun w => S.inH a ha (g.newF a w (S.df a ha))
  own := fun a ha => by rw [g.fps] at ha; exact S.own a ha
  frame := fun b o h n => g.exH b o (S.frame b o h n)
  dom := fun b h => g.exH.dom (S.dom b h)
  pin := fun i hi => by rw [g.σ]; exact S.pin i hi

inductive Stp where
  | attr (f : Str)
  | idx (n : Nat)
  | key (k : Key)
inductive Rt where
  | val (d : D)
  | own (o : O)
  | bor (x : Nat) (p : List Stp) (o : O)
  | sl (x : Nat)

def lk {α : Type} : List Str → List α → Str → Option α
  | n :: ns, d :: ds, f => if n = f then some d else lk ns ds f
  | _, _, _ => none
def lkK {α κ : Type} [DecidableEq κ] : List κ → List α → κ → Option α
  | n :: ns, d :: ds, f => if n = f then some d else lkK ns ds f
  | _, _, _ => none

inductive Sub (cl : Nat → Addr) (H : Hp) : Stp → O → Addr → O → V → Prop where
  | idx {n : Nat} {ds : List O} {a : Addr} {xs : List V} {d : O} {v : V} : H a = some (.lst xs) → ds[n]? = some d → xs[n]? = some v → Sub cl H (.idx n) (.lst ds) a d v
  | attr {f : Str} {c : Nat} {ns : List Str} {ds : List O} {a dx : Addr} {xs : List V} {d : O} {v : V} : H a = some (.ins (cl c) dx (ns.zip xs)) → lk ns ds f = some d → lk ns xs f = some v → ns.length = xs.length → Sub cl H (.attr f) (.ins c ns ds) a d v
  | key {k : Key} {ks : List Key} {ds : List O} {a : Addr} {xs : List V} {d : O} {v : V} : H a = some (.dK (ks.zip xs)) → lkK ks ds k = some d → lkK ks xs k = some v → ks.length = xs.length → Sub cl H (.key k) (.dk ks ds) a d v
def At (cl : Nat → Addr) (H : Hp) : List Stp → O → V → O → V → Prop
  | [], d0, v0, d, v => d = d0 ∧ v = v0
  | s :: p, d0, v0, d, v => ∃ a d1 v1, v0 = .ref a ∧ Sub cl H s d0 a d1 v1 ∧ At cl H p d1 v1 d v

def RtOk (C : Cn) (m : Mo) (av : Addr → Prop) : Rt → V → Prop
  | .val d, v => RpD C.K C.cl m.F d v
  | .own d, v => ∃ fp : Fp, RpO C.K C.cl m.F m.H d v fp ∧ fp.Nodup ∧ ∀ a ∈ fp, m.F a = none ∧ a ∉ m.fps.flatten ∧ (C.H0 a = none ∨ a ∈ C.io) ∧ ¬ av a
  | .bor x p d, v => ∃ d0 v0, m.env[x]? = some (some d0) ∧ m.σ[x]? = some (some v0) ∧ At C.cl m.H p d0 v0 d v
  | .sl x, v => m.σ[x]? = some (some v)

def Rt.hot (T : List Nat) : Rt → Bool
  | .bor x _ _ => T.contains x
  | _ => false
def Rt.isSl : Rt → Bool
  | .sl _ => true
  | _ => false
def Rt.d : Rt → D
  | .val d => d
  | .own d => d.d
  | .bor _ _ d => d.d
  | .sl _ => .ty ""

theorem lk_zip : ∀ {ns : List Str} {xs : List V} {f : Str}, (ns.zip xs).lookup f = lk ns xs f
  | [], _, f => by simp [lk]
  | n :: ns, [], f => by simp [lk]
  | n :: ns, x :: xs, f => by
    show ((n, x) :: ns.zip xs).lookup f = _
    rw [List.lookup_cons]
    unfold lk
    by_cases e : n = f
    · subst e; simp
    · rw [if_neg e, show (f == n) = false from by simpa using fun h => e h.symm]
      exact lk_zip
section
variable {K : PySem.W.Frag} {cl : Nat → Addr} {F H : Hp}
theorem lk_rp {f : Str} : ∀ {ns : List Str} {ds : List O} {xs : List V} {fp : Fp} {d : O}, RpOs K cl F H ds xs fp → lk ns ds f = some d →
    ∃ v g, lk ns xs f = some v ∧ RpO K cl F H d v g ∧ ∀ a ∈ g, a ∈ fp
  | [], ds, xs, fp, d, _, h => by simp [lk] at h
  | n :: ns, [], xs, fp, d, _, h => by simp [lk] at h
  | n :: ns, d1 :: ds, xs, fp, d, r, h => by
    obtain ⟨v, r', f1, g1, rfl, rfl, h1, h2⟩ := r
    unfold lk at h ⊢
    by_cases e : n = f
    · rw [if_pos e] at h ⊢
      cases h
      exact ⟨v, f1, rfl, h1, fun a ha => List.mem_append_left _ ha⟩
    · rw [if_neg e] at h ⊢
      obtain ⟨v2, g2, e2, r2, s2⟩ := lk_rp h2 h
      exact ⟨v2, g2, e2, r2, fun a ha => List.mem_append_right _ (s2 a ha)⟩
theorem lk_rpD {f : Str} : ∀ {ns : List Str} {ds : List D} {xs : List V} {d : D}, RpDs K cl F ds xs → lk ns ds f = some d → ∃ v, lk ns xs f = some v ∧ RpD K cl F d v
  | [], ds, xs, d, _, h => by simp [lk] at h
  | n :: ns, [], xs, d, _, h => by simp [lk] at h
  | n :: ns, d1 :: ds, xs, d, r, h => by
    obtain ⟨v, r', rfl, h1, h2⟩ := r
    unfold lk at h ⊢
    by_cases e : n = f
    · rw [if_pos e] at h ⊢
      cases h
      exact ⟨v, rfl, h1⟩
    · rw [if_neg e] at h ⊢
      exact lk_rpD h2 h
theorem lkK_rp {κ : Type} [DecidableEq κ] {f : κ} : ∀ {ns : List κ} {ds : List O} {xs : List V} {fp : Fp} {d : O}, RpOs K cl F H ds xs fp → lkK ns ds f = some d →
    ∃ v g, lkK ns xs f = some v ∧ RpO K cl F H d v g ∧ ∀ a ∈ g, a ∈ fp
  | [], ds, xs, fp, d, _, h => by simp [lkK] at h
  | n :: ns, [], xs, fp, d, _, h => by simp [lkK] at h
  | n :: ns, d1 :: ds, xs, fp, d, r, h => by
    obtain ⟨v, r', f1, g1, rfl, rfl, h1, h2⟩ := r
    unfold lkK at h ⊢
    by_cases e : n = f
    · rw [if_pos e] at h ⊢
      cases h
      exact ⟨v, f1, rfl, h1, fun a ha => List.mem_append_left _ ha⟩
    · rw [if_neg e] at h ⊢
      obtain ⟨v2, g2, e2, r2, s2⟩ := lkK_rp h2 h
      exact ⟨v2, g2, e2, r2, fun a ha => List.mem_append_right _ (s2 a ha)⟩
theorem lkK_rpD {κ : Type} [DecidableEq κ] {f : κ} : ∀ {ns : List κ} {ds : List D} {xs : List V}, RpDs K cl F ds xs → (∀ d, lkK ns ds f = some d → ∃ v, lkK ns xs f = some v ∧ RpD K cl F d v) ∧ (lkK ns ds f = none → lkK ns xs f = none)
  | [], ds, xs, _ => by simp [lkK]
  | n :: ns, [], xs, h => by rw [show xs = [] from h]; simp [lkK]
  | n :: ns, d1 :: ds, xs, r => by
    obtain ⟨v, r', rfl, h1, h2⟩ := r
    unfold lkK
    by_cases e : n = f
    · rw [if_pos e, if_pos e]
      exact ⟨fun d h => ⟨v, rfl, by cases h; exact h1⟩, fun h => nomatch h⟩
    · rw [if_neg e, if_neg e]
      exact lkK_rpD h2
theorem lkK_val {κ : Type} [DecidableEq κ] {f : κ} : ∀ {ns : List κ} {xs : List V}, valV (ns.zip xs) f = lkK ns xs f
  | [], xs => by simp [lkK, valV]
  | n :: ns, [] => by simp [lkK, valV]
  | n :: ns, x :: xs => by
    have ih := lkK_val (f := f) (ns := ns) (xs := xs)
    unfold valV at ih ⊢
    unfold lkK
    by_cases e : n = f
    · simp [e]
    · simp [e, ih]
theorem zip_inj {α β : Type} : ∀ {ns : List α} {xs ys : List β}, ns.length = xs.length → ns.length = ys.length → ns.zip xs = ns.zip ys → xs = ys
  | [], xs, ys, h1, h2, _ => by
    rw [List.length_nil] at h1 h2
    rw [List.eq_nil_of_length_eq_zero h1.symm, List.eq_nil_of_length_eq_zero h2.symm]
  | n :: ns, [], ys, h1, _, _ => by simp at h1
  | n :: ns, x :: xs, [], _, h2, _ => by simp at h2
  | n :: ns, x :: xs, y :: ys, h1, h2, h => by
    simp only [List.zip_cons_cons, List.cons.injEq, Prod.mk.injEq, true_and] at h
    rw [h.1, zip_inj (by simpa using h1) (by simpa using h2) h.2]
theorem Sub.rp {s : Stp} {d0 d : O} {a : Addr} {v : V} {f0 : Fp} (r : RpO K cl F H d0 (.ref a) f0) (h : Sub cl H s d0 a d v) :
    ∃ f, RpO K cl F H d v f ∧ a ∈ f0 ∧ ∀ b ∈ f, b ∈ f0 := by
  cases h with
  | idx q e1 e2 =>
    obtain ⟨a', xs', f, e, rfl, q', rl⟩ := r
    cases e
    rw [q] at q'
    cases q'
    obtain ⟨v2, g, e3, r2, s⟩ := rl.get e1
    rw [e2] at e3
    cases e3
    exact ⟨g, r2, by simp, fun b hb => List.mem_cons_of_mem _ (s b hb)⟩
  | attr q e1 e2 l =>
    obtain ⟨a', dx', xs', f, e, rfl, q', l', rl⟩ := r
    cases e
    rw [q] at q'
    have q'' := Option.some.inj q'
    injection q'' with _ _ q''
    obtain rfl := zip_inj l l' q''
    obtain ⟨v2, g, e3, r2, s⟩ := lk_rp rl e1
    rw [e2] at e3
    cases e3
    exact ⟨g, r2, by simp, fun b hb => List.mem_cons_of_mem _ (s b hb)⟩
  | key q e1 e2 l =>
    obtain ⟨a', xs', f, e, rfl, q', l', rl⟩ := r
    cases e
    rw [q] at q'
    have q'' := Option.some.inj q'
    injection q'' with q''
    obtain rfl := zip_inj l l' q''
    obtain ⟨v2, g, e3, r2, s⟩ := lkK_rp rl e1
    rw [e2] at e3
    cases e3
    exact ⟨g, r2, by simp, fun b hb => List.mem_cons_of_mem _ (s b hb)⟩
theorem Sub.mono {H' : Hp} {s : Stp} {d0 d : O} {a : Addr} {v : V} (k : H' a = H a) (h : Sub cl H s d0 a d v) : Sub cl H' s d0 a d v := by
  cases h with
  | idx q e1 e2 => exact .idx (k.trans q) e1 e2
  | attr q e1 e2 l => exact .attr (k.trans q) e1 e2 l
  | key q e1 e2 l => exact .key (k.trans q) e1 e2 l
theorem At.rp : ∀ {p : List Stp} {d0 : O} {v0 : V} {f0 : Fp} {d : O} {v : V}, RpO K cl F H d0 v0 f0 → At cl H p d0 v0 d v → ∃ f, RpO K cl F H d v f ∧ ∀ a ∈ f, a ∈ f0
  | [], d0, v0, f0, d, v, r, h => by
    obtain ⟨rfl, rfl⟩ := h
    exact ⟨f0, r, fun _ h => h⟩
  | s :: p, d0, v0, f0, d, v, r, h => by
    obtain ⟨a, d1, v1, rfl, q, h⟩ := h
    obtain ⟨f, r1, _, s1⟩ := q.rp r
    obtain ⟨f2, r2, s2⟩ := At.rp r1 h
    exact ⟨f2, r2, fun b hb => s1 b (s2 b hb)⟩
theorem At.mono {H' : Hp} : ∀ {p : List Stp} {d0 : O} {v0 : V} {f0 : Fp} {d : O} {v : V}, RpO K cl F H d0 v0 f0 → (∀ a ∈ f0, H' a = H a) → At cl H p d0 v0 d v → At cl H' p d0 v0 d v
  | [], d0, v0, f0, d, v, r, k, h => h
  | s :: p, d0, v0, f0, d, v, r, k, h => by
    obtain ⟨a, d1, v1, rfl, q, h⟩ := h
    obtain ⟨f, r1, ha, s1⟩ := q.rp r
    exact ⟨a, d1, v1, rfl, q.mono (k a ha), At.mono r1 (fun b hb => k b (s1 b hb)) h⟩
theorem At.snoc {s : Stp} {d2 : O} {v2 : V} {a : Addr} : ∀ {p : List Stp} {d0 : O} {v0 : V} {d : O}, At cl H p d0 v0 d (.ref a) → Sub cl H s d a d2 v2 → At cl H (p ++ [s]) d0 v0 d2 v2
  | [], d0, v0, d, h, q => by
    obtain ⟨rfl, e⟩ := h
    exact ⟨a, d2, v2, e.symm, q, rfl, rfl⟩
  | t :: p, d0, v0, d, h, q => by
    obtain ⟨b, d1, v1, rfl, q1, h⟩ := h
    exact ⟨b, d1, v1, rfl, q1, At.snoc h q⟩
end

theorem RtOk.step {C : Cn} {T : List Nat} {m m' : Mo} {r : Rt} {v : V} {av : Addr → Prop} (S : Sta C m) (h : RtOk C m av r v) (t : Step T m m') (c : r.hot T = false) (hσ : m'.σ = m.σ) : RtOk C m' av r v := by
  cases r with
  | val d => exact RpD.mono t.exF d v h
  | own d =>
    obtain ⟨fp, r, nd, k⟩ := h
    refine ⟨fp, r.mono t.exF d v fp (fun a ha => ?_), nd, fun a ha => ?_⟩
    · obtain ⟨_, k2, _⟩ := k a ha
      cases q : m.H a with
      | none => exact absurd q (r.inH d v fp a ha)
      | some o => exact t.keep a o q k2
    · obtain ⟨k1, k2, k3⟩ := k a ha
      have hH := r.inH d v fp a ha
      refine ⟨?_, fun z => ?_, k3⟩
      · exact Classical.byContradiction fun w => (t.newF a w k1).elim hH k2
      · exact (t.newO a z).elim hH k2
  | bor x p d =>
    obtain ⟨d0, v0, e1, e2, h⟩ := h
    have hx : x ∉ T := by simpa [Rt.hot] using c
    obtain ⟨u1, u2, u3, u4⟩ := t.unt x hx
    obtain ⟨v1, f, s1, s2, r⟩ := S.slot e1
    rw [e2] at s1
    cases s1
    exact ⟨d0, v0, u1.trans e1, u3.trans e2, At.mono r (u4 f s2) h⟩
  | sl x => exact (by rw [hσ]; exact h : m'.σ[x]? = some (some v))
theorem RtOk.av {C : Cn} {m : Mo} {r : Rt} {v : V} {av av' : Addr → Prop} (h : RtOk C m av r v) (k : ∀ a, av' a → av a) : RtOk C m av' r v := by
  cases r with
  | val d => exact h
  | own d =>
    obtain ⟨fp, r, nd, q⟩ := h
    exact ⟨fp, r, nd, fun a ha => let ⟨q1, q2, q3, q4⟩ := q a ha; ⟨q1, q2, q3, fun z => q4 (k a z)⟩⟩
  | bor x p d => exact h
  | sl x => exact h
theorem RtOk.rd {C : Cn} {m : Mo} {r : Rt} {v : V} {av : Addr → Prop} (S : Sta C m) (h : RtOk C m av r v) (hr : r.isSl = false := by rfl) : RpD C.K C.cl m.H r.d v := by
  cases r with
  | val d => exact RpD.mono S.ex d v h
  | own d =>
    obtain ⟨fp, r, _⟩ := h
    exact r.rd S.ex
  | bor x p d =>
    obtain ⟨d0, v0, e1, e2, h⟩ := h
    obtain ⟨v1, f, s1, s2, r⟩ := S.slot e1
    rw [e2] at s1
    cases s1
    obtain ⟨g, r2, _⟩ := At.rp r h
    exact r2.rd S.ex
  | sl x => cases hr

inductive Rs (α : Type) where
  | ok (a : α) (env : Env)
  | exc (c : Nat) (ds : List D) (env : Env)
  | bad
abbrev ME := Env → Rs Rt
abbrev MT := Env → Rs Bool
abbrev MA := Env → Rs (List Rt)
inductive Fl where
  | nx
  | ret (r : Rt)
  | brk
  | cont
abbrev MS := Env → Rs Fl

def Rs.bind {α β : Type} (r : Rs α) (f : α → Env → Rs β) : Rs β :=
  match r with
  | .ok a e => f a e
  | .exc c ds e => .exc c ds e
  | .bad => .bad

def ExcOk (C : Cn) (E : WX) (m : Mo) (c : Nat) (ds : List D) (env : Env) : Prop := ∀ m' : Mo, m'.env = env → Sta C m' → ∀ (T : List Nat), Step T m m' →
  ∀ dd : Option Addr, (ds = [] → dd = none) → (∀ d, ds = [d] → ∃ a v, dd = some a ∧ m'.H a = some (.xd [(xfld c, v)]) ∧ RpD C.K C.cl m'.F d v) → E (.ref (C.cl c)) dd m'.σ m'.H

def Want {α : Type} (C : Cn) (E : WX) (m : Mo) (r : Rs α) (W : α → Env → Prop) : Prop :=
  match r with
  | .ok a e => W a e
  | .exc c ds e => ExcOk C E m c ds e
  | .bad => False

def Old (m : Mo) : Addr → Prop := fun a => m.H a ≠ none ∧ a ∉ m.fps.flatten

def rdE (C : Cn) (E : WX) (T : List Nat) (f : ME) : TE := fun σ H Q => ∃ m : Mo, m.H = H ∧ m.σ = σ ∧ Sta C m ∧
  Want C E m (f m.env) fun r env' => ∀ v m', m'.env = env' → m'.σ = σ → Sta C m' → Step T m m' → RtOk C m' (Old m) r v → Q v m'.H
def rdT (C : Cn) (E : WX) (T : List Nat) (f : MT) : TT := fun σ H Q => ∃ m : Mo, m.H = H ∧ m.σ = σ ∧ Sta C m ∧
  Want C E m (f m.env) fun b env' => ∀ m', m'.env = env' → m'.σ = σ → Sta C m' → Step T m m' → Q b m'.H
inductive RtsOk (C : Cn) (m : Mo) : List Rt → List V → Prop where
  | nil : RtsOk C m [] []
  | cons {r : Rt} {v : V} {rs : List Rt} {vs : List V} {av : Addr → Prop} : RtOk C m av r v → RtsOk C m rs vs → RtsOk C m (r :: rs) (v :: vs)
def rdA (C : Cn) (E : WX) (T : List Nat) (f : MA) : TA := fun σ H Q => ∃ m : Mo, m.H = H ∧ m.σ = σ ∧ Sta C m ∧
  Want C E m (f m.env) fun rs env' => ∀ vs m', m'.env = env' → m'.σ = σ → Sta C m' → Step T m m' → RtsOk C m' rs vs → Q vs m'.H
def FlOk (C : Cn) (m : Mo) (D : Ends) (fl : Fl) : Prop :=
  match fl with
  | .nx => D.nx m.σ m.H
  | .brk => D.bk m.σ m.H
  | .cont => D.ct m.σ m.H
  | .ret r => ∀ v av, RtOk C m av r v → D.rt v m.H
def rdS (C : Cn) (E : WX) (T : List Nat) (f : MS) : TS := fun D σ H => ∃ m : Mo, m.H = H ∧ m.σ = σ ∧ Sta C m ∧
  Want C E m (f m.env) fun fl env' => ∀ m', m'.env = env' → Sta C m' → Step T m m' → FlOk C m' D fl
end L3
namespace L3
open PySem L2

theorem PE.wk {X : Cx} {e : Expr} {t t' : TE} (h : PE X e t) (w : ∀ σ H Q, t' σ H Q → t σ H Q) : PE X e t' := ⟨fun pins s σ H Q I q => h.run pins s σ H Q I (w σ H Q q)⟩
theorem PT.wk {X : Cx} {e : Expr} {t t' : TT} (h : PT X e t) (w : ∀ σ H Q, t' σ H Q → t σ H Q) : PT X e t' := ⟨fun pins s σ H Q I q => h.run pins s σ H Q I (w σ H Q q)⟩
theorem PW.wk {X : Cx} {e : Expr} {t t' : TT} (h : PW X e t) (w : ∀ σ H Q, t' σ H Q → t σ H Q) : PW X e t' := ⟨fun wh pins s σ H Q I q => h.run wh pins s σ H Q I (w σ H Q q)⟩
theorem PA.wk {X : Cx} {e : List Expr} {t t' : TA} (h : PA X e t) (w : ∀ σ H Q, t' σ H Q → t σ H Q) : PA X e t' := ⟨fun p pins s σ H Q I q => h.run p pins s σ H Q I (w σ H Q q)⟩
theorem PS.wk {X : Cx} {e : Stmt} {t t' : TS} (h : PS X e t) (w : ∀ D σ H, t' D σ H → t D σ H) : PS X e t' := ⟨fun pins s σ H D I q => h.run pins s σ H D I (w D σ H q)⟩
theorem PSs.wk {X : Cx} {e : List Stmt} {t t' : TS} (h : PSs X e t) (w : ∀ D σ H, t' D σ H → t D σ H) : PSs X e t' := ⟨fun pins s σ H D I q => h.run pins s σ H D I (w D σ H q)⟩

theorem ExcOk.step {C : Cn} {E : WX} {m m1 : Mo} {c : Nat} {ds : List D} {env : Env} {T : List Nat} (h : ExcOk C E m c ds env) (s : Step T m m1) : ExcOk C E m1 c ds env :=
  fun m' he S' T' s' dd h1 h2 => h m' he S' _ (s.trans s') dd h1 h2
theorem Want.mono {α : Type} {C : Cn} {E : WX} {m m1 : Mo} {r : Rs α} {W W' : α → Env → Prop} {T : List Nat} (h : Want C E m r W) (s : Step T m m1) (k : ∀ a e, W a e → W' a e) : Want C E m1 r W' := by
  cases r with
  | ok a e => exact k a e h
  | exc c ds e => exact ExcOk.step h s
  | bad => exact h
theorem Want.imp {α : Type} {C : Cn} {E : WX} {m : Mo} {r : Rs α} {W W' : α → Env → Prop} (h : Want C E m r W) (k : ∀ a e, W a e → W' a e) : Want C E m r W' := by
  cases r with
  | ok a e => exact k a e h
  | exc c ds e => exact h
  | bad => exact h
theorem Want.bind {α β : Type} {C : Cn} {E : WX} {m : Mo} {r : Rs α} {f : α → Env → Rs β} {W : β → Env → Prop} (h : Want C E m (r.bind f) W) : Want C E m r fun a e => Want C E m (f a e) W := by
  cases r with
  | ok a e => exact h
  | exc c ds e => exact h
  | bad => exact h

def O.rt (x : Nat) : O → Rt
  | .s d => .val d
  | o => .bor x [] o
def mVar (i : Nat) : ME := fun env => match env[i]? with
  | some (some o) => .ok (o.rt i) env
  | _ => .bad
def mC (d : D) : ME := fun env => .ok (.val d) env

section
variable {X : Cx} {C : Cn} {E : WX} {e a b : Expr} {pos : Pos}
theorem rt_ok {m : Mo} {i : Nat} {o : O} {v : V} {f : Fp} {av : Addr → Prop} (S : Sta C m) (h : m.env[i]? = some (some o)) (hs : m.σ[i]? = some (some v)) (r : RpO C.K C.cl m.F m.H o v f) : RtOk C m av (o.rt i) v := by
  cases o with
  | s d => exact r.2
  | lst os => exact ⟨_, _, h, hs, rfl, rfl⟩
  | dk ks os => exact ⟨_, _, h, hs, rfl, rfl⟩
  | dt ks os => exact ⟨_, _, h, hs, rfl, rfl⟩
  | ins c ns os => exact ⟨_, _, h, hs, rfl, rfl⟩
theorem e_var (i : Nat) {x : Str} (hN : X.N[i]? = some x := by rfl) (hv : Vis X.env.scope x := by first | exact Or.inl rfl | exact Or.inr (Or.inl rfl) | exact Or.inr (Or.inr rfl)) (hd : (x == ("__debug__" : Str)) = false := by decide)
    (hcd : (x == ("__classdict__" : Str)) = false := by decide) : PE X (.Name x pos) (rdE C E [] (mVar i)) :=
  PE.wk (pv i hN hv hd hcd) fun σ H Q ⟨m, e1, e2, S, w⟩ => by
    subst e1 e2
    unfold mVar at w
    cases h : m.env[i]? with
    | none => rw [h] at w; exact w.elim
    | some o =>
      cases o with
      | none => rw [h] at w; exact w.elim
      | some o =>
        rw [h] at w
        obtain ⟨v, f, s1, s2, r⟩ := S.slot h
        exact ⟨v, s1, w v m rfl rfl S (Step.refl _ _) (rt_ok S h s1 r)⟩
def mSlot (i : Nat) : ME := fun env => match env[i]? with
  | some (some _) => .ok (.sl i) env
  | _ => .bad
theorem e_slot (i : Nat) {x : Str} (hN : X.N[i]? = some x := by rfl) (hv : Vis X.env.scope x := by first | exact Or.inl rfl | exact Or.inr (Or.inl rfl) | exact Or.inr (Or.inr rfl)) (hd : (x == ("__debug__" : Str)) = false := by decide)
    (hcd : (x == ("__classdict__" : Str)) = false := by decide) : PE X (.Name x pos) (rdE C E [] (mSlot i)) :=
  PE.wk (pv i hN hv hd hcd) fun σ H Q ⟨m, e1, e2, S, w⟩ => by
    subst e1 e2
    unfold mSlot at w
    cases h : m.env[i]? with
    | none => rw [h] at w; exact w.elim
    | some o =>
      cases o with
      | none => rw [h] at w; exact w.elim
      | some o =>
        rw [h] at w
        obtain ⟨v, f, s1, s2, r⟩ := S.slot h
        exact ⟨v, s1, w v m rfl rfl S (Step.refl _ _) s1⟩
theorem e_const {v : V} {d : D} {e : Expr} (h : PE X e (tC v)) (r : ∀ F : Hp, RpD C.K C.cl F d v) : PE X e (rdE C E [] (mC d)) :=
  PE.wk h fun σ H Q ⟨m, e1, e2, S, w⟩ => by
    subst e1 e2
    exact w v m rfl rfl S (Step.refl _ _) (r _)
theorem e_int {i : Int} {j : Nat} : PE X (.Constant (.int i) j pos) (rdE C E [] (mC (.int i))) := e_const pe_int fun _ => rfl
theorem e_bl {i : Bool} {j : Nat} : PE X (.Constant (.bool i) j pos) (rdE C E [] (mC (.bl i))) := e_const pe_bl fun _ => rfl
theorem e_non {j : Nat} : PE X (.Constant .none j pos) (rdE C E [] (mC .non)) := e_const pe_non fun _ => rfl
theorem e_str {s : Str} {j : Nat} : PE X (.Constant (.str s) j pos) (rdE C E [] (mC (.str s))) := e_const pe_str fun _ => rfl
theorem e_gint {i : Int} {x : Str} (hg : Gl X x) (hm : ∃ t, X.mg x = some (.int i t)) (hd : (x == ("__debug__" : Str)) = false := by decide) : PE X (.Name x pos) (rdE C E [] (mC (.int i))) :=
  let ⟨t, h⟩ := hm; e_const (pe_glob hg h (v := .int i) ⟨t, rfl⟩ hd) fun _ => rfl
theorem e_gstr {s : Str} {x : Str} (hg : Gl X x) (hm : ∃ t, X.mg x = some (.str s t)) (hd : (x == ("__debug__" : Str)) = false := by decide) : PE X (.Name x pos) (rdE C E [] (mC (.str s))) :=
  let ⟨t, h⟩ := hm; e_const (pe_glob hg h (v := .str s) ⟨t, rfl⟩ hd) fun _ => rfl

def Loc1 (C : Cn) (r : V → Hp → VK → Prop) (g : Rt → Option Rt) : Prop := ∀ (m : Mo) (x : V) (rx ry : Rt) (av : Addr → Prop) (Q : VK), Sta C m → RtOk C m av rx x → g rx = some ry →
  (∀ y m', Gro m m' → RtOk C m' (fun a => m.H a ≠ none) ry y → Q y m'.H) → r x m.H Q
def Loc2 (C : Cn) (r : R2) (g : Rt → Rt → Option Rt) : Prop := ∀ (m : Mo) (x y : V) (rx ry rz : Rt) (av av' : Addr → Prop) (Q : VK), Sta C m → RtOk C m av rx x → RtOk C m av' ry y → g rx ry = some rz →
  (∀ z m', Gro m m' → RtOk C m' (fun a => m.H a ≠ none) rz z → Q z m'.H) → r x y m.H Q
def LocN (C : Cn) (r : List V → Hp → VK → Prop) (g : List Rt → Option Rt) : Prop := ∀ (m : Mo) (xs : List V) (rs : List Rt) (ry : Rt) (Q : VK), Sta C m → RtsOk C m rs xs → g rs = some ry →
  (∀ y m', Gro m m' → RtOk C m' (fun a => m.H a ≠ none) ry y → Q y m'.H) → r xs m.H Q

def ofO {α : Type} (o : Option α) (env : Env) : Rs α := match o with
  | some a => .ok a env
  | none => .bad
def m1 (g : Rt → Option Rt) (f : ME) : ME := fun env => (f env).bind fun r e => ofO (g r) e
def m2 (g : Rt → Rt → Option Rt) (T : List Nat) (f1 f2 : ME) : ME := fun env => (f1 env).bind fun r1 e1 => if r1.hot T then .bad else (f2 e1).bind fun r2 e2 => ofO (g r1 r2) e2
def mNil : MA := fun env => .ok [] env
def mCons (T : List Nat) (f : ME) (fs : MA) : MA := fun env => (f env).bind fun r e1 => if r.hot T then .bad else (fs e1).bind fun rs e2 => .ok (r :: rs) e2
def mN (g : List Rt → Option Rt) (f : MA) : ME := fun env => (f env).bind fun r e => ofO (g r) e

theorem step_nil {T : List Nat} {m m1 m2 : Mo} (S : Sta C m1) (s : Step T m m1) (g : Gro m1 m2) : Step T m m2 := by
  have := s.trans (g.step S)
  simpa using this
theorem old_new {T : List Nat} {m m1 : Mo} (s : Step T m m1) : ∀ a, Old m a → m1.H a ≠ none := fun a h => s.dom a h.1

theorem rd1 {r : V → Hp → VK → Prop} {g : Rt → Option Rt} {T : List Nat} {f : ME} {σ : L2.St} {H : Hp} {Q : VK} (L : Loc1 C r g) (h : rdE C E T (m1 g f) σ H Q) : rdE C E T f σ H fun x H1 => r x H1 Q := by
  obtain ⟨m, e1, e2, S, w⟩ := h
  refine ⟨m, e1, e2, S, Want.imp w.bind fun rx env w => ?_⟩
  intro v m' e3 e4 S' s ok
  cases hg : g rx with
  | none => rw [hg] at w; exact w.elim
  | some ry =>
    rw [hg] at w
    refine L m' v rx ry _ Q S' ok hg fun y m2 G ok2 => ?_
    exact w y m2 (G.env.trans e3) (G.σ.trans e4) (S'.gro G) (step_nil S' s G) (ok2.av (old_new s))
theorem rd2 {r : R2} {g : Rt → Rt → Option Rt} {T1 T2 : List Nat} {f1 f2 : ME} {σ : L2.St} {H : Hp} {Q : VK} (L : Loc2 C r g) (h : rdE C E (T1 ++ T2) (m2 g T2 f1 f2) σ H Q) :
    rdE C E T1 f1 σ H fun x H1 => rdE C E T2 f2 σ H1 fun y H2 => r x y H2 Q := by
  obtain ⟨m, e1, e2, S, w⟩ := h
  refine ⟨m, e1, e2, S, Want.imp w.bind fun rx env w => ?_⟩
  intro v m' e3 e4 S' s ok
  by_cases hh : rx.hot T2 = true
  · rw [if_pos hh] at w; exact w.elim
  rw [if_neg hh] at w
  refine ⟨m', rfl, e4, S', ?_⟩
  rw [e3]
  refine Want.mono w.bind s fun ry env2 w => ?_
  intro v2 m2 e5 e6 S2 s2 ok2
  cases hg : g rx ry with
  | none => rw [hg] at w; exact w.elim
  | some rz =>
    rw [hg] at w
    refine L m2 v v2 rx ry rz _ _ Q S2 (ok.step S' s2 (by simpa using hh) (e6.trans e4.symm)) ok2 hg fun y m3 G ok3 => ?_
    exact w y m3 (G.env.trans e5) (G.σ.trans e6) (S2.gro G) (step_nil S2 (s.trans s2) G) (ok3.av (old_new (s.trans s2)))
theorem RtsOk.step {m m' : Mo} {T : List Nat} {rs : List Rt} {vs : List V} (S : Sta C m) (h : RtsOk C m rs vs) (t : Step T m m') (c : rs.all (fun r => !r.hot T) = true) (hσ : m'.σ = m.σ) : RtsOk C m' rs vs := by
  induction h with
  | nil => exact .nil
  | cons r _ ih =>
    rw [List.all_cons, Bool.and_eq_true] at c
    exact .cons (r.step S t (by simpa using c.1) hσ) (ih c.2)
theorem rdNil {σ : L2.St} {H : Hp} {Q : List V → Hp → Prop} (h : rdA C E [] mNil σ H Q) : tNil σ H Q := by
  obtain ⟨m, e1, e2, S, w⟩ := h
  subst e1
  exact w [] m rfl e2 S (Step.refl _ _) .nil
theorem rdCons {T1 T2 : List Nat} {f : ME} {fs : MA} {σ : L2.St} {H : Hp} {Q : List V → Hp → Prop} (h : rdA C E (T1 ++ T2) (mCons T2 f fs) σ H Q) : tCons (rdE C E T1 f) (rdA C E T2 fs) σ H Q := by
  obtain ⟨m, e1, e2, S, w⟩ := h
  refine ⟨m, e1, e2, S, Want.imp w.bind fun rx env w => ?_⟩
  intro v m' e3 e4 S' s ok
  by_cases hh : rx.hot T2 = true
  · rw [if_pos hh] at w; exact w.elim
  rw [if_neg hh] at w
  refine ⟨m', rfl, e4, S', ?_⟩
  rw [e3]
  refine Want.mono w.bind s fun ry env2 w => ?_
  intro v2 m2 e5 e6 S2 s2 ok2
  exact w (v :: v2) m2 e5 e6 S2 (s.trans s2) (.cons (ok.step S' s2 (by simpa using hh) (e6.trans e4.symm)) ok2)
theorem rdN {r : List V → Hp → VK → Prop} {g : List Rt → Option Rt} {T : List Nat} {f : MA} {σ : L2.St} {H : Hp} {Q : VK} (L : LocN C r g) (h : rdE C E T (mN g f) σ H Q) : rdA C E T f σ H fun x H1 => r x H1 Q := by
  obtain ⟨m, e1, e2, S, w⟩ := h
  refine ⟨m, e1, e2, S, Want.imp w.bind fun rx env w => ?_⟩
  intro v m' e3 e4 S' s ok
  cases hg : g rx with
  | none => rw [hg] at w; exact w.elim
  | some ry =>
    rw [hg] at w
    refine L m' v rx ry Q S' ok hg fun y m2 G ok2 => ?_
    exact w y m2 (G.env.trans e3) (G.σ.trans e4) (S'.gro G) (step_nil S' s G) (ok2.av (old_new s))

variable {T T1 T2 T3 : List Nat} {f f1 f2 : ME} {fs : MA} {es : List Expr}
theorem a_nil : PA X [] (rdA C E [] mNil) := PA.wk pa_nil fun _ _ _ h => rdNil h
theorem a_cons (h : PE X e (rdE C E T1 f)) (hs : PA X es (rdA C E T2 fs)) (hst : starEach (e :: es) X.env = (false, eval e X.env) :: starEach es X.env := by rfl) : PA X (e :: es) (rdA C E (T1 ++ T2) (mCons T2 f fs)) :=
  PA.wk (pa_cons h hs hst) fun _ _ _ h => rdCons h
theorem e_op {op : Operator} {r : R2} {g : Rt → Rt → Option Rt} (ho : OpR X (binaryOp op) r) (L : Loc2 C r g) (ha : PE X a (rdE C E T1 f1)) (hb : PE X b (rdE C E T2 f2)) : PE X (.BinOp a op b pos) (rdE C E (T1 ++ T2) (m2 g T2 f1 f2)) :=
  PE.wk (pe_op ho ha hb) fun _ _ _ h => rd2 L h
theorem e_un {op : UnaryOp} {r : V → Hp → VK → Prop} {g : Rt → Option Rt} (ho : UnR X (unaryOp op) r) (L : Loc1 C r g) (ha : PE X a (rdE C E T1 f1)) : PE X (.UnaryOp op a pos) (rdE C E T1 (m1 g f1)) :=
  PE.wk (pe_un ho ha) fun _ _ _ h => rd1 L h
theorem e_cmp {op : CmpOp} {r : R2} {g : Rt → Rt → Option Rt} (ho : OpR X (compareOp op) r) (L : Loc2 C r g) (ha : PE X a (rdE C E T1 f1)) (hb : PE X b (rdE C E T2 f2)) (hm : behindInMarks op b = false := by first | exact nomark _ | rfl) :
    PE X (.Compare a [op] [b] pos) (rdE C E (T1 ++ T2) (m2 g T2 f1 f2)) :=
  PE.wk (pe_cmpR ho ha hb hm) fun _ _ _ h => rd2 L h
theorem e_ix {r : R2} {g : Rt → Rt → Option Rt} (ho : IxR X r) (L : Loc2 C r g) (ha : PE X a (rdE C E T1 f1)) (hb : PE X b (rdE C E T2 f2)) (hs : PlainIx b) : PE X (.Subscript a b pos) (rdE C E (T1 ++ T2) (m2 g T2 f1 f2)) :=
  PE.wk (pe_ix ho ha hb hs) fun _ _ _ h => rd2 L h
theorem e_cb {r : List V → Hp → VK → Prop} {g : List Rt → Option Rt} (L : LocN C r g) (h : PE X e (tCB r (rdA C E T fs))) : PE X e (rdE C E T (mN g fs)) :=
  PE.wk h fun _ _ _ h => rdN L h

def toB : Rt → Option Bool
  | .val (.bl b) => some b
  | _ => none
def mTest (f : ME) : MT := fun env => (f env).bind fun r e => ofO (toB r) e
theorem rdTest {σ : L2.St} {H : Hp} {Q : Bool → Hp → Prop} (h : rdT C E T (mTest f) σ H Q) : rdE C E T f σ H fun x H1 => ∃ k, x = .bl k ∧ Q k H1 := by
  obtain ⟨m, e1, e2, S, w⟩ := h
  refine ⟨m, e1, e2, S, Want.imp w.bind fun rx env w => ?_⟩
  intro v m' e3 e4 S' s ok
  cases rx with
  | val d =>
    cases d with
    | bl k => exact ⟨k, ok, w m' e3 e4 S' s⟩
    | _ => exact w.elim
  | own o => exact w.elim
  | sl x => exact w.elim
  | bor x p o => exact w.elim
theorem t_cmp {op : CmpOp} {r : R2} {g : Rt → Rt → Option Rt} (ho : OpR X (compareOp op) r) (L : Loc2 C r g) (ha : PE X a (rdE C E T1 f1)) (hb : PE X b (rdE C E T2 f2)) (hm : behindInMarks op b = false := by first | exact nomark _ | rfl) :
    PT X (.Compare a [op] [b] pos) (rdT C E (T1 ++ T2) (mTest (m2 g T2 f1 f2))) :=
  PT.wk (pt_cmpR ho ha hb hm) fun σ H Q h => rd2 (Q := fun x H' => ∃ k, x = .bl k ∧ Q k H') L (rdTest h)
theorem t_val (ha : PE X a (rdE C E T1 f1)) (he : ∀ whole, isTrue a X.env whole = (do let v ← whole; standAt a.pos; holding [v] (truthy v)) := by intro _; rfl) : PT X a (rdT C E T1 (mTest f1)) :=
  PT.wk (pt_val ha he) fun σ H Q h => rdTest h

def tmAnd (t1 t2 : MT) : MT := fun env => (t1 env).bind fun b e => if b = true then t2 e else .ok false e
def tmOr (t1 t2 : MT) : MT := fun env => (t1 env).bind fun b e => if b = true then .ok true e else t2 e
def tmNot (t1 : MT) : MT := fun env => (t1 env).bind fun b e => .ok (!b) e
variable {t t1 t2 : MT} {rest : List Expr}
theorem w_and1 (ha : PT X a (rdT C E T1 t1)) : PW X (.BoolOp .And [a] pos) (rdT C E T1 t1) := pw_and1 ha
theorem w_or1 (ha : PT X a (rdT C E T1 t1)) : PW X (.BoolOp .Or [a] pos) (rdT C E T1 t1) := pw_or1 ha
theorem Step.inl {m m' : Mo} (s : Step T1 m m') : Step (T1 ++ T2) m m' := s.wk fun i h => List.mem_append_left _ h
theorem w_and (ha : PT X a (rdT C E T1 t1)) (hb : PW X (.BoolOp .And (b :: rest) pos) (rdT C E T2 t2)) : PW X (.BoolOp .And (a :: b :: rest) pos) (rdT C E (T1 ++ T2) (tmAnd t1 t2)) :=
  PW.wk (pw_and ha hb) fun σ H Q ⟨m, e1, e2, S, w⟩ => ⟨m, e1, e2, S, Want.imp w.bind fun k env w => fun m' e3 e4 S' s => by
    cases k with
    | true =>
      refine ⟨m', rfl, e4, S', ?_⟩
      rw [e3]
      exact Want.mono w s fun k2 env2 w m2 e5 e6 S2 s2 => w m2 e5 e6 S2 (s.trans s2)
    | false => exact w m' e3 e4 S' s.inl⟩
theorem w_or (ha : PT X a (rdT C E T1 t1)) (hb : PW X (.BoolOp .Or (b :: rest) pos) (rdT C E T2 t2)) : PW X (.BoolOp .Or (a :: b :: rest) pos) (rdT C E (T1 ++ T2) (tmOr t1 t2)) :=
  PW.wk (pw_or ha hb) fun σ H Q ⟨m, e1, e2, S, w⟩ => ⟨m, e1, e2, S, Want.imp w.bind fun k env w => fun m' e3 e4 S' s => by
    cases k with
    | false =>
      refine ⟨m', rfl, e4, S', ?_⟩
      rw [e3]
      exact Want.mono w s fun k2 env2 w m2 e5 e6 S2 s2 => w m2 e5 e6 S2 (s.trans s2)
    | true => exact w m' e3 e4 S' s.inl⟩
theorem t_w (h : PW X a (rdT C E T1 t1)) : PT X a (rdT C E T1 t1) := h.pt
theorem t_not (ha : PT X a (rdT C E T1 t1)) : PT X (.UnaryOp .Not a pos) (rdT C E T1 (tmNot t1)) :=
  PT.wk (pt_not ha) fun σ H Q ⟨m, e1, e2, S, w⟩ => ⟨m, e1, e2, S, Want.imp w.bind fun k env w => fun m' e3 e4 S' s => w m' e3 e4 S' s⟩
def mAnd (f1 f2 : ME) : ME := fun env => (f1 env).bind fun r e => match toB r with
  | some true => f2 e
  | some false => .ok (.val (.bl false)) e
  | none => .bad
def mOr (f1 f2 : ME) : ME := fun env => (f1 env).bind fun r e => match toB r with
  | some false => f2 e
  | some true => .ok (.val (.bl true)) e
  | none => .bad
theorem old_step {m m' : Mo} {T : List Nat} (s : Step T m m') {r : Rt} {v : V} {m2 : Mo} (h : RtOk C m2 (Old m') r v) : RtOk C m2 (Old m) r v :=
  h.av fun a ha => ⟨s.dom a ha.1, fun z => (s.newO a z).elim ha.1 ha.2⟩
theorem e_and (ha : PE X a (rdE C E T1 f1)) (hb : PE X (.BoolOp .And (b :: rest) pos) (rdE C E T2 f2)) : PE X (.BoolOp .And (a :: b :: rest) pos) (rdE C E (T1 ++ T2) (mAnd f1 f2)) :=
  PE.wk (pe_and ha hb) fun σ H Q ⟨m, e1, e2, S, w⟩ => ⟨m, e1, e2, S, Want.imp w.bind fun r env w => fun v m' e3 e4 S' s ok => by
    cases r with
    | val d =>
      cases d with
      | bl k =>
        refine ⟨k, ok, ?_⟩
        cases k with
        | true =>
          refine ⟨m', rfl, e4, S', ?_⟩
          rw [e3]
          exact Want.mono w s fun k2 env2 w v2 m2 e5 e6 S2 s2 ok2 => w v2 m2 e5 e6 S2 (s.trans s2) (old_step s ok2)
        | false => exact w _ m' e3 e4 S' s.inl rfl
      | _ => exact w.elim
    | own o => exact w.elim
    | sl x => exact w.elim
    | bor x p o => exact w.elim⟩
theorem e_or (ha : PE X a (rdE C E T1 f1)) (hb : PE X (.BoolOp .Or (b :: rest) pos) (rdE C E T2 f2)) : PE X (.BoolOp .Or (a :: b :: rest) pos) (rdE C E (T1 ++ T2) (mOr f1 f2)) :=
  PE.wk (pe_or ha hb) fun σ H Q ⟨m, e1, e2, S, w⟩ => ⟨m, e1, e2, S, Want.imp w.bind fun r env w => fun v m' e3 e4 S' s ok => by
    cases r with
    | val d =>
      cases d with
      | bl k =>
        refine ⟨k, ok, ?_⟩
        cases k with
        | false =>
          refine ⟨m', rfl, e4, S', ?_⟩
          rw [e3]
          exact Want.mono w s fun k2 env2 w v2 m2 e5 e6 S2 s2 ok2 => w v2 m2 e5 e6 S2 (s.trans s2) (old_step s ok2)
        | true => exact w _ m' e3 e4 S' s.inl rfl
      | _ => exact w.elim
    | own o => exact w.elim
    | sl x => exact w.elim
    | bor x p o => exact w.elim⟩
theorem e_one {op : BoolOp} (h : PE X a (rdE C E T1 f1)) : PE X (.BoolOp op [a] pos) (rdE C E T1 f1) := pe_one h
def mNot (f1 : ME) : ME := fun env => (f1 env).bind fun r e => match toB r with
  | some k => .ok (.val (.bl (!k))) e
  | none => .bad
theorem e_not (ha : PE X a (rdE C E T1 f1)) : PE X (.UnaryOp .Not a pos) (rdE C E T1 (mNot f1)) :=
  PE.wk (pe_not ha) fun σ H Q ⟨m, e1, e2, S, w⟩ => ⟨m, e1, e2, S, Want.imp w.bind fun r env w => fun v m' e3 e4 S' s ok => by
    cases r with
    | val d =>
      cases d with
      | bl k => exact ⟨k, ok, w _ m' e3 e4 S' s rfl⟩
      | _ => exact w.elim
    | own o => exact w.elim
    | sl x => exact w.elim
    | bor x p o => exact w.elim⟩
def mIf (t : MT) (f1 f2 : ME) : ME := fun env => (t env).bind fun b e => if b = true then f1 e else f2 e
theorem e_if {c : Expr} (hc : PT X c (rdT C E T1 t)) (ha : PE X a (rdE C E T2 f1)) (hb : PE X b (rdE C E T3 f2)) : PE X (.IfExp c a b pos) (rdE C E (T1 ++ (T2 ++ T3)) (mIf t f1 f2)) :=
  PE.wk (pe_ifExp hc ha hb) fun σ H Q ⟨m, e1, e2, S, w⟩ => ⟨m, e1, e2, S, Want.imp w.bind fun k env w => fun m' e3 e4 S' s => by
    cases k with
    | true =>
      refine ⟨m', rfl, e4, S', ?_⟩
      rw [e3]
      exact Want.mono w s fun k2 env2 w v2 m2 e5 e6 S2 s2 ok2 => w v2 m2 e5 e6 S2 ((s.trans s2).wk (by simp +contextual [or_imp])) (old_step s ok2)
    | false =>
      refine ⟨m', rfl, e4, S', ?_⟩
      rw [e3]
      exact Want.mono w s fun k2 env2 w v2 m2 e5 e6 S2 s2 ok2 => w v2 m2 e5 e6 S2 ((s.trans s2).wk (by simp +contextual [or_imp])) (old_step s ok2)⟩
end
end L3
namespace L3
open PySem L2 PySem.Spec PyProof.Rows
def NewT (Q : VK) (H : Hp) (xs : List V) : Prop := ∀ (p : Addr) (o : Obj), H p = none → o.dict = none → Q (.ref p) (upd H p (.frz o (.tup xs)))
theorem newT_go {X : Cx} {pins : List (Addr × Obj)} {σ : L2.St} {H : Hp} {s : Shared} {Q : VK} {xs : List V} {its : List Value} (I : Inv X pins σ H s) (r : Vals xs its) (z : xs.length ≤ sizeLine) (q : NewT Q H xs) :
    EP X pins σ Q (.ref s.heap.objs.size) { s with heap := s.heap.push { cls := .type "tuple", data := .seq its.toArray } } :=
  ⟨.ref s.heap.objs.size, _, I.laid (t' := s.toks) (o := .frz { cls := .type "tuple", data := .seq its.toArray } (.tup xs)) (fun b ob q => Heap.get?_push_of_some _ q) (Nat.le_refl _) ⟨Heap.get?_push_size _ rfl, z, its, r, IsTup.new _ _⟩, rfl, q _ _ (I.hok.fresh (Nat.le_refl _)) rfl⟩
def tTupF (t : TA) : TE := fun σ H Q => t σ H fun xs H1 => xs.length ≤ sizeLine ∧ NewT Q H1 xs
section
variable {X : Cx} {es : List Expr} {t : TA} {pos : Pos}
theorem pe_tupF {x1} (h : PA X es t) : PE X (.Tuple es x1 pos) (tTupF t) := by
  refine ⟨fun pins s σ H Q I hq => ?_⟩
  exact wpAny_Tuple_spliced (thn (h.run pos pins s σ H _ I hq) fun us s1 ⟨xs, H1, I1, r, z, q⟩ => ⟨by rw [← r.length]; exact z, newT_go I1 r z q⟩)
theorem call_tuple_ofF : CallR X (.type "tuple") (fun xs H Q => ∃ p ys, xs = [.ref p] ∧ ((SqL X.K H p ys ∧ NewT Q H ys) ∨ (SqT X.K H p ys ∧ Q (.ref p) H))) := by
  intro pins s σ H xs us Q I r h
  obtain ⟨p, ys, rfl, h⟩ := h
  obtain ⟨u, rfl, rx⟩ := vals1 r
  cases rx
  rcases h with ⟨hq, q⟩ | ⟨hq, q⟩
  · obtain ⟨its, r', pl, hz⟩ := I.list hq
    have hlen := r'.length
    refine call_tuple_list pl.isList (fun h' kp => ?_) (by simp only [List.size_toArray] <;> omega)
    have I1 : Inv X pins σ H { s with heap := h' } := I.kept (t' := s.toks) kp
    exact newT_go I1 r' hz q
  · obtain ⟨its, r', pl, hz⟩ := I.tuple hq
    exact call_tuple_same pl ⟨.ref p, H, I, rfl, q⟩
def rCatF (K : PySem.W.Frag) : R2 := fun x y H Q => ∃ a b xs ys, x = .ref a ∧ y = .ref b ∧ SqT K H a xs ∧ SqT K H b ys ∧ xs.length + ys.length ≤ sizeLine ∧
  (xs = [] → Q (.ref b) H) ∧ (xs ≠ [] → ys = [] → Q (.ref a) H) ∧ (xs ≠ [] → ys ≠ [] → NewT Q H (xs ++ ys))
theorem op_catF : OpR X (binaryOp .Add) (rCatF X.K) := by
  intro pins s σ H x y v u Q I rx ry h
  obtain ⟨a, b, xs, ys, rfl, rfl, ha, hb, hz, q0, q1, q2⟩ := h
  cases rx
  cases ry
  obtain ⟨its, r1, p1, _⟩ := I.tuple ha
  obtain ⟨its2, r2, p2, _⟩ := I.tuple hb
  by_cases hx : xs = []
  · subst hx
    cases r1
    exact cat_tup0 p1 p2 ⟨.ref b, H, I, rfl, q0 rfl⟩
  · refine HT.cat_tup p1 p2 (fun z => hx (r1.nil_iff.mp z)) (fun z => ⟨.ref a, H, I, rfl, q1 hx (r2.nil_iff.mp z)⟩) (fun z => ?_) (by rw [← r1.length, ← r2.length]; exact hz)
    exact newT_go I (r1.append r2) (by rw [List.length_append]; exact hz) (q2 hx fun w => z (r2.nil_iff.mpr w))
def rSlF (K : PySem.W.Frag) : V → Option Int → Option Int → Hp → VK → Prop := fun x lo hi H Q => ∃ a xs, x = .ref a ∧ SqT K H a xs ∧
  (HT.sIx xs.length 0 lo = 0 ∧ HT.sIx xs.length xs.length hi = xs.length → Q (.ref a) H) ∧ (¬ (HT.sIx xs.length 0 lo = 0 ∧ HT.sIx xs.length xs.length hi = xs.length) → NewT Q H (cutV xs lo hi))
theorem sl_tupF : SlR X (rSlF X.K) := by
  intro pins s σ H x v vl vu lo hi sl Q I rx hs pl pu h
  obtain ⟨a, xs, rfl, hx, q1, q2⟩ := h
  cases rx
  obtain ⟨its, r, ht, hz⟩ := I.tuple hx
  have hlen : its.toArray.size = xs.length := by rw [List.size_toArray]; exact r.length.symm
  by_cases hw : HT.sIx xs.length 0 lo = 0 ∧ HT.sIx xs.length xs.length hi = xs.length
  · refine ⟨"tuple", _, PyProof.Rows.slot_tuple_getitem.lookup, ht.typeIs, ?_⟩
    exact getItem_tuple_whole ht hs pl pu (by rw [hlen]; exact hw) ⟨.ref a, H, I, rfl, q1 hw⟩
  · refine ⟨"tuple", _, PyProof.Rows.slot_tuple_getitem.lookup, ht.typeIs, ?_⟩
    refine HT.getItem_tuple_cut ht hs pl pu (by rw [hlen]; exact hw) ?_ (by rw [hlen]; exact hz)
    rw [hlen]
    exact newT_go I ((r.drop (HT.sIx xs.length 0 lo)).take (HT.sIx xs.length xs.length hi - HT.sIx xs.length 0 lo)) (Nat.le_trans (cutV_length xs lo hi) hz) (q2 hw)
def rRepF (K : PySem.W.Frag) : R2 := fun x y H Q => ∃ l k xs, x = .ref l ∧ y = .int k ∧ SqT K H l xs ∧ xs ≠ [] ∧ 2 ≤ k ∧ k ≤ 1000 ∧ xs.length ≤ 1000 ∧ NewT Q H (List.replicate k.toNat xs).flatten
theorem op_repF : OpR X (binaryOp .Mult) (rRepF X.K) := by
  intro pins s σ H x y v u Q I rx ry h
  obtain ⟨l, k, xs, rfl, rfl, hT, hne, h1, h2, hz, q⟩ := h
  cases rx
  obtain ⟨t, rfl⟩ := ry
  obtain ⟨its, r, ⟨⟨cls, dd, data, sl⟩, ho, hc, n, hd⟩, hs⟩ := I.tuple hT
  simp only at hc hd
  subst hc hd
  have hle : its.length = xs.length := r.length.symm
  have hn : its ≠ [] := fun e => hne (by
    rw [e] at hle
    exact List.eq_nil_of_length_eq_zero hle.symm)
  have hi : its.toArray.isEmpty = false := by
    cases its with
    | nil => exact absurd rfl hn
    | cons a b => rfl
  have hsz0 : its.toArray.size = xs.length := by rw [List.size_toArray, hle]
  have hm : ((its.toArray.size : Nat) : Int) * k ≤ 1000000 := by
    rw [hsz0]
    have a1 : ((xs.length : Nat) : Int) * k ≤ 1000 * k := Int.mul_le_mul_of_nonneg_right (by omega) (by omega)
    omega
  have a1 : k.toNat * xs.length ≤ 1000 * 1000 := Nat.mul_le_mul (by omega) hz
  have flen : (List.replicate k.toNat its).flatten.length ≤ sizeLine := by
    rw [PyProof.Rows.lm_len_rep_flat, hle, sizeLine_eq]
    omega
  have c0 : (decide (k < -(2 ^ 63)) || decide (k ≥ 2 ^ 63)) = false := by
    rw [decide_eq_false (by omega), decide_eq_false (by omega)] <;> rfl
  have c1 : (its.toArray.isEmpty || k == 1) = false := by
    rw [hi, Bool.false_or]
    exact beq_eq_false_iff_ne.mpr (by omega)
  have c2 : (decide (k ≤ 0) || its.toArray.isEmpty) = false := by
    rw [hi, Bool.or_false]
    exact decide_eq_false (by omega)
  have c4 : Builtin.Tuple.tupleTooMany (((its.toArray.size : Nat) : Int) * k) = false := by
    unfold Builtin.Tuple.tupleTooMany
    rw [sizeLine_eq]
    exact decide_eq_false (by omega)
  refine wpAny_binaryOp_repeat_ref (T := "tuple") (U := "int") (by decide) ⟨_, ho, rfl⟩ (fun s' => typeIs_int s' k t) noFill_tuple_mul F.fills_int_mul F.slot_int_rmul repeat_tuple F.slot_int_index.lookup
    (call_meets F.slot_int_rmul (typeIs_int s k t) F.entry_int_rmul (F.args_int_rmul_2 _ _) (int_rmul_tuple k t l its.toArray n dd sl)
      ⟨ho, rfl, ⟨_, ho, rfl⟩, call_meets F.slot_tuple_mul ⟨_, ho, rfl⟩ F.entry_tuple_mul (F.args_tuple_mul_2 _ _) (tuple_mulW l its.toArray n dd sl k t c0 c1 c2 (by omega) c4 (by rw [size_rep, List.size_toArray]; exact flen)) ⟨ho, ?_⟩⟩)
  rw [size_rep]
  exact newT_go I (r.rep k.toNat) (by rw [PyProof.Rows.lm_len_rep_flat, sizeLine_eq]; omega) q
end
end L3
namespace L3
open PySem L2

section
variable {C : Cn}
def gI (g : Int → Int → D) : Rt → Rt → Option Rt
  | .val (.int i), .val (.int j) => some (.val (g i j))
  | _, _ => none
def gIc (c : Int → Int → Bool) (g : Int → Int → D) : Rt → Rt → Option Rt
  | .val (.int i), .val (.int j) => if c i j = true then some (.val (g i j)) else none
  | _, _ => none
theorem gI_some {g : Int → Int → D} {rx ry rz : Rt} (h : gI g rx ry = some rz) : ∃ i j, rx = .val (.int i) ∧ ry = .val (.int j) ∧ rz = .val (g i j) := by
  unfold gI at h
  split at h
  · exact ⟨_, _, rfl, rfl, (Option.some.inj h).symm⟩
  · cases h
theorem gIc_some {c : Int → Int → Bool} {g : Int → Int → D} {rx ry rz : Rt} (h : gIc c g rx ry = some rz) : ∃ i j, rx = .val (.int i) ∧ ry = .val (.int j) ∧ c i j = true ∧ rz = .val (g i j) := by
  unfold gIc at h
  split at h
  · split at h
    · rename_i q
      exact ⟨_, _, rfl, rfl, q, (Option.some.inj h).symm⟩
    · cases h
  · cases h
theorem loc_I0 {g : Int → Int → V} {gd : Int → Int → D} (hr : ∀ F i j, RpD C.K C.cl F (gd i j) (g i j)) : Loc2 C (rI0 g) (gI gd) := by
  intro m x y rx ry rz av av' Q S h1 h2 h k
  obtain ⟨i, j, rfl, rfl, rfl⟩ := gI_some h
  exact ⟨i, j, h1, h2, k _ m (Gro.refl S) (hr _ _ _)⟩
theorem loc_Ic {c : Int → Int → Prop} {cd : Int → Int → Bool} {g : Int → Int → V} {gd : Int → Int → D} (hc : ∀ i j, cd i j = true → c i j) (hr : ∀ F i j, RpD C.K C.cl F (gd i j) (g i j)) : Loc2 C (rI c g) (gIc cd gd) := by
  intro m x y rx ry rz av av' Q S h1 h2 h k
  obtain ⟨i, j, rfl, rfl, q, rfl⟩ := gIc_some h
  exact ⟨i, j, h1, h2, hc i j q, k _ m (Gro.refl S) (hr _ _ _)⟩
theorem loc_sub : Loc2 C (rI0 fun i j => .int (i - j)) (gI fun i j => .int (i - j)) := loc_I0 fun _ _ _ => rfl
theorem loc_lt : Loc2 C (rI0 fun i j => .bl (decide (i < j))) (gI fun i j => .bl (decide (i < j))) := loc_I0 fun _ _ _ => rfl
theorem loc_le : Loc2 C (rI0 fun i j => .bl (decide (i ≤ j))) (gI fun i j => .bl (decide (i ≤ j))) := loc_I0 fun _ _ _ => rfl
theorem loc_gt : Loc2 C (rI0 fun i j => .bl (decide (j < i))) (gI fun i j => .bl (decide (j < i))) := loc_I0 fun _ _ _ => rfl
theorem loc_ge : Loc2 C (rI0 fun i j => .bl (decide (j ≤ i))) (gI fun i j => .bl (decide (j ≤ i))) := loc_I0 fun _ _ _ => rfl
def cMul (i j : Int) : Bool := decide (i.natAbs.log2 + j.natAbs.log2 < 1000000)
def cDiv (_ j : Int) : Bool := decide (0 < j ∧ j < 1073741824)
def cMod (_ j : Int) : Bool := decide (0 < j)
def cPow (i j : Int) : Bool := decide (0 ≤ j ∧ j ≤ 1000000 ∧ i.natAbs < 2 ^ 64)
theorem loc_mulI : Loc2 C (rI CMulW fun i j => .int (i * j)) (gIc cMul fun i j => .int (i * j)) := loc_Ic (fun _ _ h => by simpa [cMul, cDiv, cMod, cPow, CMulW, CDiv, CPow] using h) fun _ _ _ => rfl
theorem loc_fdiv : Loc2 C (rI CDiv fun i j => .int (i / j)) (gIc cDiv fun i j => .int (i / j)) := loc_Ic (fun _ _ h => by simpa [cMul, cDiv, cMod, cPow, CMulW, CDiv, CPow] using h) fun _ _ _ => rfl
theorem loc_mod : Loc2 C (rI (fun _ j => 0 < j) fun i j => .int (i % j)) (gIc cMod fun i j => .int (i % j)) := loc_Ic (fun _ _ h => by simpa [cMul, cDiv, cMod, cPow, CMulW, CDiv, CPow] using h) fun _ _ _ => rfl
theorem loc_pow : Loc2 C (rI CPow fun i j => .int (i ^ j.toNat)) (gIc cPow fun i j => .int (i ^ j.toNat)) := loc_Ic (fun _ _ h => by simpa [cMul, cDiv, cMod, cPow, CMulW, CDiv, CPow] using h) fun _ _ _ => rfl
def gNeg : Rt → Option Rt
  | .val (.int i) => some (.val (.int (-i)))
  | _ => none
theorem loc_neg : Loc1 C (rU fun i => .int (-i)) gNeg := by
  intro m x rx ry av Q S h1 h k
  unfold gNeg at h
  split at h
  · cases h
    exact ⟨_, h1, k _ m (Gro.refl S) rfl⟩
  · cases h

mutual
def D.py : D → Option PyData
  | .non => some .none
  | .bl b => some (.bool b)
  | .int i => some (.int i)
  | .str s => some (.str s)
  | .tup ds => (D.pys ds).map PyData.tuple
  | .lst ds => (D.pys ds).map PyData.list
  | _ => none
def D.pys : List D → Option (List PyData)
  | [] => some []
  | d :: ds => match d.py, D.pys ds with
    | some p, some ps => some (p :: ps)
    | _, _ => none
end
mutual
theorem RpD.dp {K : PySem.W.Frag} {cl : Nat → Addr} {H : Hp} : ∀ (d : D) (v : V) (p : PyData), RpD K cl H d v → d.py = some p → Dp K H v p
  | .non, v, p, h, e => by cases e; rw [show v = .non from h]; exact .non
  | .bl b, v, p, h, e => by cases e; rw [show v = .bl b from h]; exact .bl b
  | .int b, v, p, h, e => by cases e; rw [show v = .int b from h]; exact .int b
  | .str b, v, p, h, e => by cases e; rw [show v = .str b from h]; exact .str b
  | .tup ds, v, p, h, e => by
    unfold D.py at e
    cases q : D.pys ds with
    | none => rw [q] at e; cases e
    | some ps =>
      rw [q] at e; cases e
      obtain ⟨a, xs, rfl, h1, h2⟩ := h
      exact .tup h1.1 (RpDs.dp ds xs ps h2 q)
  | .lst ds, v, p, h, e => by
    unfold D.py at e
    cases q : D.pys ds with
    | none => rw [q] at e; cases e
    | some ps =>
      rw [q] at e; cases e
      obtain ⟨a, xs, rfl, h1, h2⟩ := h
      exact .lst h1 (RpDs.dp ds xs ps h2 q)
  | .dk _ _, v, p, h, e => by cases e
  | .dt _ _, v, p, h, e => by cases e
  | .ins _ _ _, v, p, h, e => by cases e
  | .ty _, v, p, h, e => by cases e
  | .cls _, v, p, h, e => by cases e
  | .adr _, v, p, h, e => by cases e
  | .exn _ _, v, p, h, e => by cases e
theorem RpDs.dp {K : PySem.W.Frag} {cl : Nat → Addr} {H : Hp} : ∀ (ds : List D) (vs : List V) (ps : List PyData), RpDs K cl H ds vs → D.pys ds = some ps → DpAll K H vs ps
  | [], vs, ps, h, e => by cases e; rw [show vs = [] from h]; exact .nil
  | d :: ds, vs, ps, h, e => by
    obtain ⟨v, r, rfl, h1, h2⟩ := h
    unfold D.pys at e
    split at e
    · rename_i p q e1 e2
      cases e
      exact .cons (RpD.dp d v p h1 e1) (RpDs.dp ds r q h2 e2)
    · cases e
end
def eqD (d e : D) : Option Bool := match d.py, e.py with
  | some p, some q => if SeqAt.shaped p = true ∧ SeqAt.shaped q = true then some (PyData.eqv p q) else none
  | _, _ => none
def gEq (rx ry : Rt) : Option Rt := (if rx.isSl = true ∨ ry.isSl = true then none else eqD rx.d ry.d).map fun b => .val (.bl b)
def gNe (rx ry : Rt) : Option Rt := (if rx.isSl = true ∨ ry.isSl = true then none else eqD rx.d ry.d).map fun b => .val (.bl (!b))
theorem eqD_some {d e : D} {b : Bool} (h : eqD d e = some b) : ∃ p q, d.py = some p ∧ e.py = some q ∧ SeqAt.shaped p = true ∧ SeqAt.shaped q = true ∧ b = PyData.eqv p q := by
  unfold eqD at h
  split at h
  · rename_i p q e1 e2
    split at h
    · rename_i z
      exact ⟨p, q, e1, e2, z.1, z.2, (Option.some.inj h).symm⟩
    · cases h
  · cases h
theorem loc_eq : Loc2 C (rEqD C.K) gEq := by
  intro m x y rx ry rz av av' Q S h1 h2 h k
  unfold gEq at h
  by_cases hs : rx.isSl = true ∨ ry.isSl = true
  · rw [if_pos hs] at h; cases h
  rw [if_neg hs] at h
  cases e : eqD rx.d ry.d with
  | none => rw [e] at h; cases h
  | some b =>
    rw [e] at h; cases h
    obtain ⟨p, q, e1, e2, z1, z2, rfl⟩ := eqD_some e
    exact ⟨p, q, RpD.dp _ _ _ (h1.rd S (by cases q : rx.isSl <;> simp_all)) e1, RpD.dp _ _ _ (h2.rd S (by cases q : ry.isSl <;> simp_all)) e2, z1, z2, k _ m (Gro.refl S) rfl⟩
theorem loc_ne : Loc2 C (rNeD C.K) gNe := by
  intro m x y rx ry rz av av' Q S h1 h2 h k
  unfold gNe at h
  by_cases hs : rx.isSl = true ∨ ry.isSl = true
  · rw [if_pos hs] at h; cases h
  rw [if_neg hs] at h
  cases e : eqD rx.d ry.d with
  | none => rw [e] at h; cases h
  | some b =>
    rw [e] at h; cases h
    obtain ⟨p, q, e1, e2, z1, z2, rfl⟩ := eqD_some e
    exact ⟨p, q, RpD.dp _ _ _ (h1.rd S (by cases q : rx.isSl <;> simp_all)) e1, RpD.dp _ _ _ (h2.rd S (by cases q : ry.isSl <;> simp_all)) e2, z1, z2, k _ m (Gro.refl S) rfl⟩
def D.isN : D → Bool
  | .non => true
  | _ => false
theorem RpD.isN {K : PySem.W.Frag} {cl : Nat → Addr} {H : Hp} {d : D} {v : V} (h : RpD K cl H d v) : decide (v = .non) = d.isN := by
  cases d with
  | non => rw [show v = .non from h]; rfl
  | bl b => rw [show v = .bl b from h]; rfl
  | int b => rw [show v = .int b from h]; rfl
  | str b => rw [show v = .str b from h]; rfl
  | tup ds => obtain ⟨a, xs, rfl, _⟩ := h; rfl
  | lst ds => obtain ⟨a, xs, rfl, _⟩ := h; rfl
  | dk ks ds => obtain ⟨a, xs, rfl, _⟩ := h; rfl
  | dt ks ds => obtain ⟨a, xs, rfl, _⟩ := h; rfl
  | ins ks ns ds => obtain ⟨a, dx, xs, rfl, _⟩ := h; rfl
  | ty b => rw [show v = .ty b from h]; rfl
  | cls b => rw [show v = .ref _ from h]; rfl
  | adr b => rw [show v = .ref _ from h]; rfl
  | exn c ds => obtain ⟨a, oe, u, dd, xs, rfl, _⟩ := h; rfl
def gIs (n : Bool) (rx ry : Rt) : Option Rt := match ry with
  | .val .non => if rx.isSl = true then none else some (.val (.bl (rx.d.isN != n)))
  | _ => none
theorem loc_is : Loc2 C (fun x y H Q => y = .non ∧ Q (.bl (decide (x = .non))) H) (gIs false) := by
  intro m x y rx ry rz av av' Q S h1 h2 h k
  unfold gIs at h
  split at h
  · split at h
    · cases h
    rename_i hs
    cases h
    refine ⟨h2, ?_⟩
    rw [(h1.rd S (by simpa using hs)).isN]
    exact k _ m (Gro.refl S) (by show V.bl _ = V.bl _; simp)
  · cases h
theorem loc_isNot : Loc2 C (fun x y H Q => y = .non ∧ Q (.bl (!decide (x = .non))) H) (gIs true) := by
  intro m x y rx ry rz av av' Q S h1 h2 h k
  unfold gIs at h
  split at h
  · split at h
    · cases h
    rename_i hs
    cases h
    refine ⟨h2, ?_⟩
    rw [(h1.rd S (by simpa using hs)).isN]
    exact k _ m (Gro.refl S) (by show V.bl _ = V.bl _; simp)
  · cases h

def leaves : List O → Option (List D)
  | [] => some []
  | .s d :: os => (leaves os).map (d :: ·)
  | _ :: _ => none
theorem leaves_map (ds : List D) : leaves (ds.map O.s) = some ds := by
  induction ds with
  | nil => rfl
  | cons d ds ih => rw [List.map_cons]; unfold leaves; rw [ih]; rfl
theorem leaves_some : ∀ {os : List O} {ds : List D}, leaves os = some ds → os = ds.map O.s
  | [], ds, h => by cases h; rfl
  | .s d :: os, ds, h => by
    unfold leaves at h
    cases e : leaves os with
    | none => rw [e] at h; cases h
    | some r => rw [e] at h; cases h; rw [List.map_cons, leaves_some e]
  | .lst _ :: _, ds, h => by cases h
  | .dk _ _ :: _, ds, h => by cases h
  | .dt _ _ :: _, ds, h => by cases h
  | .ins _ _ _ :: _, ds, h => by cases h
theorem RpOs.leaves {K : PySem.W.Frag} {cl : Nat → Addr} {F H : Hp} : ∀ {ds : List D} {xs : List V} {fp : Fp}, RpOs K cl F H (ds.map O.s) xs fp → fp = [] ∧ RpDs K cl F ds xs
  | [], xs, fp, h => ⟨h.2, h.1⟩
  | d :: ds, xs, fp, h => by
    obtain ⟨v, r, f, g, rfl, rfl, ⟨rfl, h1⟩, h2⟩ := h
    obtain ⟨rfl, h3⟩ := RpOs.leaves h2
    exact ⟨rfl, v, r, rfl, h1, h3⟩
def Rt.items : Rt → Option (Bool × List D)
  | .val (.tup ds) => some (false, ds)
  | .val (.lst ds) => some (true, ds)
  | .own (.lst os) => (leaves os).map fun ds => (true, ds)
  | .bor _ _ (.lst os) => (leaves os).map fun ds => (true, ds)
  | _ => none
theorem RtOk.bor {m : Mo} {x : Nat} {p : List Stp} {o : O} {v : V} {av : Addr → Prop} (S : Sta C m) (h : RtOk C m av (.bor x p o) v) : ∃ f, RpO C.K C.cl m.F m.H o v f := by
  obtain ⟨d0, v0, e1, e2, h⟩ := h
  obtain ⟨v1, f, s1, s2, r⟩ := S.slot e1
  rw [e2] at s1
  cases s1
  obtain ⟨g, r2, _⟩ := At.rp r h
  exact ⟨g, r2⟩
theorem RtOk.items {m : Mo} {r : Rt} {v : V} {av : Addr → Prop} {b : Bool} {ds : List D} (S : Sta C m) (h : RtOk C m av r v) (e : r.items = some (b, ds)) :
    ∃ a xs, v = .ref a ∧ RpDs C.K C.cl m.F ds xs ∧ (if b = true then SqL C.K m.H a xs else SqT C.K m.H a xs) := by
  unfold Rt.items at e
  split at e
  · cases e
    obtain ⟨a, xs, rfl, h1, h2⟩ := h
    exact ⟨a, xs, rfl, h2, by rw [if_neg (by decide)]; exact S.ex.sqT h1.1⟩
  · cases e
    obtain ⟨a, xs, rfl, h1, h2⟩ := h
    exact ⟨a, xs, rfl, h2, by rw [if_pos rfl]; exact S.ex.sqL h1⟩
  · rename_i os
    cases q : leaves os with
    | none => rw [q] at e; cases e
    | some es =>
      rw [q] at e; cases e
      obtain rfl := leaves_some q
      obtain ⟨fp, ⟨a, xs, f, rfl, _, h1, h2⟩, _⟩ := h
      exact ⟨a, xs, rfl, (RpOs.leaves h2).2, by rw [if_pos rfl]; exact .inl (.inl h1)⟩
  · rename_i x p os
    cases q : leaves os with
    | none => rw [q] at e; cases e
    | some es =>
      rw [q] at e; cases e
      obtain rfl := leaves_some q
      obtain ⟨fp, a, xs, f, rfl, _, h1, h2⟩ := h.bor S
      exact ⟨a, xs, rfl, (RpOs.leaves h2).2, by rw [if_pos rfl]; exact .inl (.inl h1)⟩
  · cases e
def Rt.len : Rt → Option Nat
  | .val (.tup ds) => some ds.length
  | .val (.lst ds) => some ds.length
  | .val (.str s) => if s.length ≤ 16777216 then some s.length else none
  | .own (.lst os) => some os.length
  | .bor _ _ (.lst os) => some os.length
  | _ => none
def gLen : List Rt → Option Rt
  | [r] => r.len.map fun n => .val (.int n)
  | _ => none
theorem RtsOk.one {m : Mo} {r : Rt} {xs : List V} (h : RtsOk C m [r] xs) : ∃ x av, xs = [x] ∧ RtOk C m av r x := by
  cases h with
  | cons h t => cases t; exact ⟨_, _, rfl, h⟩
theorem RtsOk.two {m : Mo} {r s : Rt} {xs : List V} (h : RtsOk C m [r, s] xs) : ∃ x y av av', xs = [x, y] ∧ RtOk C m av r x ∧ RtOk C m av' s y := by
  cases h with
  | cons h t =>
    obtain ⟨y, av, rfl, h2⟩ := t.one
    exact ⟨_, _, _, _, rfl, h, h2⟩
theorem sizeLine_is : sizeLine = 16777216 := sizeLine_eq
theorem loc_len : LocN C (fun xs H Q => ∃ x n, xs = [x] ∧ LenV C.K x H n ∧ Q (.int n) H) gLen := by
  intro m xs rs ry Q S h e k
  unfold gLen at e
  split at e
  · rename_i r
    obtain ⟨x, av, rfl, hx⟩ := h.one
    replace h := hx
    cases q : r.len with
    | none => rw [q] at e; cases e
    | some n =>
      rw [q] at e; cases e
      refine ⟨x, n, rfl, ?_, k _ m (Gro.refl S) rfl⟩
      unfold Rt.len at q
      split at q
      · cases q
        obtain ⟨a, xs, rfl, h1, h2⟩ := h
        exact .inr ⟨xs, S.ex.sqT h1.1, h2.length.symm⟩
      · cases q
        obtain ⟨a, xs, rfl, h1, h2⟩ := h
        exact .inl ⟨xs, S.ex.sqL h1, h2.length.symm⟩
      · rename_i s
        split at q
        · rename_i z
          cases q
          rw [show x = .str s from h]
          exact ⟨by rw [sizeLine_is]; exact z, rfl⟩
        · cases q
      · cases q
        obtain ⟨fp, ⟨a, xs, f, rfl, _, h1, h2⟩, _⟩ := h
        exact .inl ⟨xs, .inl (.inl h1), h2.length.symm⟩
      · cases q
        obtain ⟨fp, a, xs, f, rfl, _, h1, h2⟩ := h.bor S
        exact .inl ⟨xs, .inl (.inl h1), h2.length.symm⟩
      · cases q
  · cases e
def D.flat : D → Bool
  | .non => true
  | .bl _ => true
  | .int _ => true
  | .str _ => true
  | _ => false
def D.v : D → V
  | .bl b => .bl b
  | .int i => .int i
  | .str s => .str s
  | _ => .non
theorem RpD.flat {K : PySem.W.Frag} {cl : Nat → Addr} {H : Hp} {d : D} {v : V} (h : RpD K cl H d v) (f : d.flat = true) : v = d.v ∧ flatV v = true := by
  cases d with
  | non => rw [show v = .non from h]; exact ⟨rfl, rfl⟩
  | bl b => rw [show v = .bl b from h]; exact ⟨rfl, rfl⟩
  | int b => rw [show v = .int b from h]; exact ⟨rfl, rfl⟩
  | str b => rw [show v = .str b from h]; exact ⟨rfl, rfl⟩
  | _ => cases f
theorem RpDs.flat {K : PySem.W.Frag} {cl : Nat → Addr} {H : Hp} : ∀ {ds : List D} {vs : List V}, RpDs K cl H ds vs → ds.all D.flat = true → vs = ds.map D.v ∧ vs.all flatV = true
  | [], vs, h, _ => by rw [show vs = [] from h]; exact ⟨rfl, rfl⟩
  | d :: ds, vs, h, f => by
    obtain ⟨v, r, rfl, h1, h2⟩ := h
    rw [List.all_cons, Bool.and_eq_true] at f
    obtain ⟨e1, e2⟩ := h1.flat f.1
    obtain ⟨e3, e4⟩ := h2.flat f.2
    exact ⟨by rw [e1, e3]; rfl, by rw [List.all_cons, e2, e4]; rfl⟩
def inD (x : D) (ds : List D) : Bool := ds.any fun y => eqV y.v x.v
def gIn (neg : Bool) (rx ry : Rt) : Option Rt := match rx, ry.items with
  | .val d, some (_, ds) => if d.flat = true ∧ ds.all D.flat = true then some (.val (.bl (inD d ds != neg))) else none
  | _, _ => none
theorem loc_in {neg : Bool} : Loc2 C (rIn C.K neg) (gIn neg) := by
  intro m x y rx ry rz av av' Q S h1 h2 h k
  unfold gIn at h
  split at h
  · rename_i d b ds e
    split at h
    · rename_i z
      cases h
      obtain ⟨a, xs, rfl, h3, h4⟩ := h2.items S e
      obtain ⟨e1, e2⟩ := RpD.flat (K := C.K) (cl := C.cl) (H := m.F) h1 z.1
      obtain ⟨e3, e4⟩ := h3.flat z.2
      refine ⟨a, xs, rfl, ?_, e2, e4, k _ m (Gro.refl S) ?_⟩
      · cases b with
        | true => rw [if_pos rfl] at h4; exact .inl h4
        | false => rw [if_neg (by decide)] at h4; exact .inr h4
      · show V.bl _ = V.bl _
        have e5 : inV x xs = inD d ds := by
          unfold inV inD
          rw [e3, e1, List.any_map]
          rfl
        cases neg with
        | true => rw [if_pos rfl, e5]; simp
        | false => rw [if_neg (by decide), e5]; simp
    · cases h
  · cases h
theorem gro_new {m : Mo} {p : Addr} {o : HO} (S : Sta C m) (hp : m.H p = none) : Gro m { m with F := upd m.F p o, H := upd m.H p o } where
  env := rfl
  fps := rfl
  σ := rfl
  exF := fun a u h => by
    have : a ≠ p := fun z => by subst z; rw [S.ex a u h] at hp; cases hp
    show upd m.F p o a = _
    rw [upd_ne this]; exact h
  exH := fun a u h => by show upd m.H p o a = _; rw [upd_ne (ne_of_none h hp)]; exact h
  ex := fun a u h => by
    have h' : upd m.F p o a = some u := h
    show upd m.H p o a = some u
    by_cases e : a = p
    · subst e; rw [upd_same] at h' ⊢; exact h'
    · rw [upd_ne e] at h' ⊢; exact S.ex a u h'
  newF := fun a h n => by
    have h' : upd m.F p o a ≠ none := h
    by_cases e : a = p
    · subst e; exact hp
    · rw [upd_ne e] at h'; exact absurd n h'
theorem gro_own {m : Mo} {p : Addr} {o : HO} (S : Sta C m) (hp : m.H p = none) : Gro m { m with H := upd m.H p o } where
  env := rfl
  fps := rfl
  σ := rfl
  exF := Ex.refl _
  exH := fun a u h => by show upd m.H p o a = _; rw [upd_ne (ne_of_none h hp)]; exact h
  ex := fun a u h => by show upd m.H p o a = _; rw [upd_ne (ne_of_none (S.ex a u h) hp)]; exact S.ex a u h
  newF := fun a h n => absurd n h
theorem Sta.fNone {m : Mo} (S : Sta C m) {p : Addr} (hp : m.H p = none) : m.F p = none := by
  cases q : m.F p with
  | none => rfl
  | some o => rw [S.ex p o q] at hp; cases hp
theorem Sta.h0None {m : Mo} (S : Sta C m) {p : Addr} (hp : m.H p = none) : C.H0 p = none := Classical.byContradiction fun w => S.dom p w hp
theorem own_lst {m : Mo} {p : Addr} {xs : List V} {ds : List D} {av : Addr → Prop} (S : Sta C m) (hp : m.H p = none) (r : RpDs C.K C.cl m.F ds xs) (hav : ¬ av p) :
    RtOk C { m with H := upd m.H p (.lst xs) } av (.own (.lst (ds.map O.s))) (.ref p) := by
  refine ⟨[p], ⟨p, xs, [], rfl, rfl, upd_same, r.os⟩, by simp, fun a ha => ?_⟩
  obtain rfl : a = p := by simpa using ha
  exact ⟨S.fNone hp, fun z => S.inH a z hp, .inl (S.h0None hp), hav⟩
def vals : List Rt → Option (List D)
  | [] => some []
  | .val d :: rs => (vals rs).map (d :: ·)
  | _ :: _ => none
theorem RtsOk.vals {m : Mo} : ∀ {rs : List Rt} {xs : List V} {ds : List D}, RtsOk C m rs xs → L3.vals rs = some ds → RpDs C.K C.cl m.F ds xs
  | [], xs, ds, h, e => by cases e; cases h; rfl
  | .val d :: rs, xs, ds, h, e => by
    unfold L3.vals at e
    cases q : L3.vals rs with
    | none => rw [q] at e; cases e
    | some r =>
      rw [q] at e; cases e
      cases h with
      | cons h t => exact ⟨_, _, rfl, h, RtsOk.vals t q⟩
  | .own _ :: _, xs, ds, h, e => by cases e
  | .bor _ _ _ :: _, xs, ds, h, e => by cases e
  | .sl _ :: _, xs, ds, h, e => by cases e
def gTup (rs : List Rt) : Option Rt := (vals rs).bind fun ds => if ds.length ≤ 16777216 then some (.val (.tup ds)) else none
def gLst (rs : List Rt) : Option Rt := (vals rs).bind fun ds => if ds.length ≤ 16777216 then some (.own (.lst (ds.map O.s))) else none
theorem loc_tup : LocN C (fun xs H Q => xs.length ≤ sizeLine ∧ NewT Q H xs) gTup := by
  intro m xs rs ry Q S h e k
  unfold gTup at e
  cases q : vals rs with
  | none => rw [q] at e; cases e
  | some ds =>
    rw [q] at e
    simp only [Option.bind_some] at e
    split at e
    · rename_i z
      cases e
      have r := h.vals q
      refine ⟨by rw [r.length, sizeLine_is]; exact z, fun p o hp hd => ?_⟩
      exact k _ _ (gro_new S hp) ⟨p, xs, rfl, SqP.new hd, r.mono (gro_new S hp).exF _ _⟩
    · cases e
theorem loc_lst : LocN C (fun xs H Q => xs.length ≤ sizeLine ∧ ∀ p, H p = none → Q (.ref p) (upd H p (.lst xs))) gLst := by
  intro m xs rs ry Q S h e k
  unfold gLst at e
  cases q : vals rs with
  | none => rw [q] at e; cases e
  | some ds =>
    rw [q] at e
    simp only [Option.bind_some] at e
    split at e
    · rename_i z
      cases e
      have r := h.vals q
      refine ⟨by rw [r.length, sizeLine_is]; exact z, fun p hp => ?_⟩
      exact k _ _ (gro_own S hp) (own_lst S hp r (fun z => z hp))
    · cases e
section
variable {X : Cx} {E : WX} {e a b : Expr} {pos : Pos} {T T1 T2 : List Nat} {fs : MA} {es : List Expr} {f f1 f2 : ME}
theorem e_tup {k : Nat} (h : PA X es (rdA C E T fs)) : PE X (.Tuple es k pos) (rdE C E T (mN gTup fs)) := PE.wk (pe_tupF h) fun _ _ _ h => rdN loc_tup h
theorem e_lst (h : PA X es (rdA C E T fs)) : PE X (.List es pos) (rdE C E T (mN gLst fs)) := PE.wk (pe_lst h) fun _ _ _ h => rdN loc_lst h
end
def intsOf : List D → Option (List Int)
  | [] => some []
  | .int i :: ds => (intsOf ds).map (i :: ·)
  | _ :: _ => none
def blsOf : List D → Option (List Bool)
  | [] => some []
  | .bl i :: ds => (blsOf ds).map (i :: ·)
  | _ :: _ => none
theorem RpDs.toInts {K : PySem.W.Frag} {cl : Nat → Addr} {H : Hp} : ∀ {ds : List D} {vs : List V} {ns : List Int}, RpDs K cl H ds vs → intsOf ds = some ns → vs = ns.map V.int
  | [], vs, ns, h, e => by cases e; exact h
  | .int i :: ds, vs, ns, h, e => by
    obtain ⟨v, r, rfl, h1, h2⟩ := h
    unfold intsOf at e
    cases q : intsOf ds with
    | none => rw [q] at e; cases e
    | some r' => rw [q] at e; cases e; rw [RpDs.toInts h2 q, show v = .int i from h1]; rfl
  | .non :: ds, vs, ns, h, e => by cases e
  | .bl _ :: ds, vs, ns, h, e => by cases e
  | .str _ :: ds, vs, ns, h, e => by cases e
  | .tup _ :: ds, vs, ns, h, e => by cases e
  | .lst _ :: ds, vs, ns, h, e => by cases e
  | .dk _ _ :: ds, vs, ns, h, e => by cases e
  | .dt _ _ :: ds, vs, ns, h, e => by cases e
  | .ins _ _ _ :: ds, vs, ns, h, e => by cases e
  | .ty _ :: ds, vs, ns, h, e => by cases e
  | .cls _ :: ds, vs, ns, h, e => by cases e
  | .adr _ :: ds, vs, ns, h, e => by cases e
  | .exn _ _ :: ds, vs, ns, h, e => by cases e
theorem RpDs.toBls {K : PySem.W.Frag} {cl : Nat → Addr} {H : Hp} : ∀ {ds : List D} {vs : List V} {ns : List Bool}, RpDs K cl H ds vs → blsOf ds = some ns → vs = ns.map V.bl
  | [], vs, ns, h, e => by cases e; exact h
  | .bl i :: ds, vs, ns, h, e => by
    obtain ⟨v, r, rfl, h1, h2⟩ := h
    unfold blsOf at e
    cases q : blsOf ds with
    | none => rw [q] at e; cases e
    | some r' => rw [q] at e; cases e; rw [RpDs.toBls h2 q, show v = .bl i from h1]; rfl
  | .non :: ds, vs, ns, h, e => by cases e
  | .int _ :: ds, vs, ns, h, e => by cases e
  | .str _ :: ds, vs, ns, h, e => by cases e
  | .tup _ :: ds, vs, ns, h, e => by cases e
  | .lst _ :: ds, vs, ns, h, e => by cases e
  | .dk _ _ :: ds, vs, ns, h, e => by cases e
  | .dt _ _ :: ds, vs, ns, h, e => by cases e
  | .ins _ _ _ :: ds, vs, ns, h, e => by cases e
  | .ty _ :: ds, vs, ns, h, e => by cases e
  | .cls _ :: ds, vs, ns, h, e => by cases e
  | .adr _ :: ds, vs, ns, h, e => by cases e
  | .exn _ _ :: ds, vs, ns, h, e => by cases e
theorem ints_map (ns : List Int) : intsOf (ns.map D.int) = some ns := by
  induction ns with
  | nil => rfl
  | cons d ds ih => rw [List.map_cons]; unfold intsOf; rw [ih]; rfl
theorem bls_map (ns : List Bool) : blsOf (ns.map D.bl) = some ns := by
  induction ns with
  | nil => rfl
  | cons d ds ih => rw [List.map_cons]; unfold blsOf; rw [ih]; rfl
def gSum : List Rt → Option Rt
  | [r] => match r.items with
    | some (true, ds) => (intsOf ds).map fun ns => .val (.int ns.sum)
    | _ => none
  | _ => none
theorem loc_sum : LocN C (rSum C.K) gSum := by
  intro m xs rs ry Q S h e k
  unfold gSum at e
  split at e
  · rename_i r
    obtain ⟨x, av, rfl, hx⟩ := h.one
    replace h := hx
    split at e
    · rename_i ds q
      obtain ⟨a, xs, rfl, h1, h2⟩ := h.items S q
      rw [if_pos rfl] at h2
      cases z : intsOf ds with
      | none => rw [z] at e; cases e
      | some ns =>
        rw [z] at e; cases e
        refine ⟨a, ns, rfl, by rw [← h1.toInts z]; exact h2, k _ m (Gro.refl S) rfl⟩
    · cases e
  · cases e
def gAll : List Rt → Option Rt
  | [r] => match r.items with
    | some (true, ds) => (blsOf ds).map fun ns => .val (.bl (ns.all id))
    | _ => none
  | _ => none
def gAny : List Rt → Option Rt
  | [r] => match r.items with
    | some (true, ds) => (blsOf ds).map fun ns => .val (.bl (ns.any id))
    | _ => none
  | _ => none
theorem loc_all : LocN C (rAll C.K) gAll := by
  intro m xs rs ry Q S h e k
  unfold gAll at e
  split at e
  · rename_i r
    obtain ⟨x, av, rfl, hx⟩ := h.one
    replace h := hx
    split at e
    · rename_i ds q
      obtain ⟨a, xs, rfl, h1, h2⟩ := h.items S q
      rw [if_pos rfl] at h2
      cases z : blsOf ds with
      | none => rw [z] at e; cases e
      | some ns =>
        rw [z] at e; cases e
        refine ⟨a, ns, rfl, by rw [← h1.toBls z]; exact h2, k _ m (Gro.refl S) rfl⟩
    · cases e
  · cases e
theorem loc_any : LocN C (rAny C.K) gAny := by
  intro m xs rs ry Q S h e k
  unfold gAny at e
  split at e
  · rename_i r
    obtain ⟨x, av, rfl, hx⟩ := h.one
    replace h := hx
    split at e
    · rename_i ds q
      obtain ⟨a, xs, rfl, h1, h2⟩ := h.items S q
      rw [if_pos rfl] at h2
      cases z : blsOf ds with
      | none => rw [z] at e; cases e
      | some ns =>
        rw [z] at e; cases e
        refine ⟨a, ns, rfl, by rw [← h1.toBls z]; exact h2, k _ m (Gro.refl S) rfl⟩
    · cases e
  · cases e
def gTupleOf : List Rt → Option Rt
  | [r] => match r.items with
    | some (_, ds) => some (.val (.tup ds))
    | _ => none
  | _ => none
theorem loc_tupleOf : LocN C (fun xs H Q => ∃ p ys, xs = [.ref p] ∧ ((SqL C.K H p ys ∧ NewT Q H ys) ∨ (SqT C.K H p ys ∧ Q (.ref p) H))) gTupleOf := by
  intro m xs rs ry Q S h e k
  unfold gTupleOf at e
  split at e
  · rename_i r
    obtain ⟨x, av, rfl, hx⟩ := h.one
    replace h := hx
    split at e
    · rename_i b ds q
      cases e
      obtain ⟨a, xs, rfl, h1, h2⟩ := h.items S q
      refine ⟨a, xs, rfl, ?_⟩
      cases b with
      | true =>
        rw [if_pos rfl] at h2
        exact .inl ⟨h2, fun p o hp hd => k _ _ (gro_new S hp) ⟨p, xs, rfl, SqP.new hd, h1.mono (gro_new S hp).exF _ _⟩⟩
      | false =>
        rw [if_neg (by decide)] at h2
        refine .inr ⟨h2, k _ m (Gro.refl S) ?_⟩
        unfold Rt.items at q
        split at q
        · cases q; exact h
        · cases q
        · rename_i os; cases z : leaves os <;> (rw [z] at q; cases q)
        · rename_i os; cases z : leaves os <;> (rw [z] at q; cases q)
        · cases q
    · cases e
  · cases e
def gListOf : List Rt → Option Rt
  | [r] => match r.items with
    | some (_, ds) => some (.own (.lst (ds.map O.s)))
    | _ => none
  | _ => none
theorem loc_listOf : LocN C (fun xs H Q => ∃ p ys, xs = [.ref p] ∧ (SqL C.K H p ys ∨ SqT C.K H p ys) ∧ ∀ l, H l = none → Q (.ref l) (upd H l (.lst ys))) gListOf := by
  intro m xs rs ry Q S h e k
  unfold gListOf at e
  split at e
  · rename_i r
    obtain ⟨x, av, rfl, hx⟩ := h.one
    replace h := hx
    split at e
    · rename_i b ds q
      cases e
      obtain ⟨a, xs, rfl, h1, h2⟩ := h.items S q
      refine ⟨a, xs, rfl, ?_, fun p hp => k _ _ (gro_own S hp) (own_lst S hp h1 (fun z => z hp))⟩
      cases b with
      | true => rw [if_pos rfl] at h2; exact .inl h2
      | false => rw [if_neg (by decide)] at h2; exact .inr h2
    · cases e
  · cases e
def gAbs : List Rt → Option Rt
  | [.val (.int i)] => some (.val (.int (if i < 0 then -i else i)))
  | _ => none
theorem loc_abs : LocN C (fun xs H Q => ∃ i, xs = [.int i] ∧ Q (.int (if i < 0 then -i else i)) H) gAbs := by
  intro m xs rs ry Q S h e k
  unfold gAbs at e
  split at e
  · cases e
    obtain ⟨x, av, rfl, hx⟩ := h.one
    replace h := hx
    exact ⟨_, by rw [show x = _ from h], k _ m (Gro.refl S) rfl⟩
  · cases e
def gInt : List Rt → Option Rt
  | [.val (.int i)] => some (.val (.int i))
  | [.val (.bl b)] => some (.val (.int (if b then 1 else 0)))
  | _ => none
theorem loc_int : LocN C (fun xs H Q => (∃ i, xs = [.int i] ∧ Q (.int i) H) ∨ ∃ k, xs = [.bl k] ∧ Q (.int (if k then 1 else 0)) H) gInt := by
  intro m xs rs ry Q S h e k
  unfold gInt at e
  split at e
  · cases e
    obtain ⟨x, av, rfl, hx⟩ := h.one
    replace h := hx
    exact .inl ⟨_, by rw [show x = _ from h], k _ m (Gro.refl S) rfl⟩
  · cases e
    obtain ⟨x, av, rfl, hx⟩ := h.one
    replace h := hx
    exact .inr ⟨_, by rw [show x = _ from h], k _ m (Gro.refl S) rfl⟩
  · cases e
def gMax2 : List Rt → Option Rt
  | [.val (.int i), .val (.int j)] => some (.val (.int (if j > i then j else i)))
  | _ => none
def gMin2 : List Rt → Option Rt
  | [.val (.int i), .val (.int j)] => some (.val (.int (if j < i then j else i)))
  | _ => none
theorem loc_max2 : LocN C (fun xs H Q => ∃ i j, xs = [.int i, .int j] ∧ Q (.int (if j > i then j else i)) H) gMax2 := by
  intro m xs rs ry Q S h e k
  unfold gMax2 at e
  split at e
  · cases e
    obtain ⟨x, y, av, av', rfl, hx, h'⟩ := h.two
    replace h := hx
    exact ⟨_, _, by rw [show x = _ from h, show y = _ from h'], k _ m (Gro.refl S) rfl⟩
  · cases e
theorem loc_min2 : LocN C (fun xs H Q => ∃ i j, xs = [.int i, .int j] ∧ Q (.int (if j < i then j else i)) H) gMin2 := by
  intro m xs rs ry Q S h e k
  unfold gMin2 at e
  split at e
  · cases e
    obtain ⟨x, y, av, av', rfl, hx, h'⟩ := h.two
    replace h := hx
    exact ⟨_, _, by rw [show x = _ from h, show y = _ from h'], k _ m (Gro.refl S) rfl⟩
  · cases e
end
end L3
namespace L3
open PySem L2

section
variable {C : Cn}
theorem atI_some {α : Type} {xs : List α} {i : Int} {x : α} (h : atI xs i = some x) : ∃ j, ixN xs.length i = some j ∧ xs[j]? = some x := by
  unfold atI at h
  cases e : ixN xs.length i with
  | none => rw [e] at h; cases h
  | some j => rw [e] at h; exact ⟨j, rfl, h⟩
theorem RpDs.atI {K : PySem.W.Frag} {cl : Nat → Addr} {H : Hp} {ds : List D} {vs : List V} {i : Int} {d : D} (h : RpDs K cl H ds vs) (e : L2.atI ds i = some d) : ∃ v, L2.atI vs i = some v ∧ RpD K cl H d v := by
  obtain ⟨j, e1, e2⟩ := atI_some e
  obtain ⟨v, e3, r⟩ := h.get e2
  refine ⟨v, ?_, r⟩
  unfold L2.atI
  rw [h.length, e1]
  exact e3
theorem RpOs.atI {K : PySem.W.Frag} {cl : Nat → Addr} {F H : Hp} {ds : List O} {vs : List V} {fp : Fp} {i : Int} {d : O} (h : RpOs K cl F H ds vs fp) (e : L2.atI ds i = some d) :
    ∃ j v g, ixN ds.length i = some j ∧ ds[j]? = some d ∧ vs[j]? = some v ∧ L2.atI vs i = some v ∧ RpO K cl F H d v g := by
  obtain ⟨j, e1, e2⟩ := atI_some e
  obtain ⟨v, g, e3, r, _⟩ := h.get e2
  refine ⟨j, v, g, e1, e2, e3, ?_, r⟩
  unfold L2.atI
  rw [h.length, e1]
  exact e3
def O.at (x : Nat) (p : List Stp) : O → Rt
  | .s d => .val d
  | o => .bor x p o
def gIx : Rt → Rt → Option Rt
  | .val (.tup ds), .val (.int i) => (atI ds i).map .val
  | .val (.lst ds), .val (.int i) => (atI ds i).map .val
  | .val (.str s), .val (.int i) => if s.length ≤ 16777216 then (atI s.cps.toList i).map fun c => .val (.str ⟨#[c]⟩) else none
  | .own (.lst os), .val (.int i) => match atI os i with
    | some (.s d) => some (.val d)
    | _ => none
  | .bor x p (.lst os), .val (.int i) => match ixN os.length i with
    | some n => (os[n]?).map fun o => o.at x (p ++ [.idx n])
    | none => none
  | _, _ => none
theorem loc_ix : Loc2 C (rIx C.K) gIx := by
  intro m x y rx ry rz av av' Q S h1 h2 h k
  unfold gIx at h
  split at h
  · rename_i ds i
    cases e : atI ds i with
    | none => rw [e] at h; cases h
    | some d =>
      rw [e] at h; cases h
      obtain ⟨a, xs, rfl, q, r⟩ := h1
      obtain ⟨v, e1, r1⟩ := r.atI e
      exact .inr (.inl ⟨a, xs, i, v, rfl, h2, S.ex.sqT q.1, e1, k _ m (Gro.refl S) r1⟩)
  · rename_i ds i
    cases e : atI ds i with
    | none => rw [e] at h; cases h
    | some d =>
      rw [e] at h; cases h
      obtain ⟨a, xs, rfl, q, r⟩ := h1
      obtain ⟨v, e1, r1⟩ := r.atI e
      exact .inl ⟨a, xs, i, v, rfl, h2, S.ex.sqL q, e1, k _ m (Gro.refl S) r1⟩
  · rename_i s i
    split at h
    · rename_i z
      cases e : atI s.cps.toList i with
      | none => rw [e] at h; cases h
      | some c =>
        rw [e] at h; cases h
        exact .inr (.inr ⟨s, i, c, h1, h2, by rw [sizeLine_is]; exact z, e, k _ m (Gro.refl S) rfl⟩)
    · cases h
  · rename_i os i
    split at h
    · rename_i d e
      cases h
      obtain ⟨fp, ⟨a, xs, f, rfl, rfl, q, r⟩, _⟩ := h1
      obtain ⟨j, v, g, e1, e2, e3, e4, r1⟩ := r.atI e
      exact .inl ⟨a, xs, i, v, rfl, h2, .inl (.inl q), e4, k _ m (Gro.refl S) r1.2⟩
    · cases h
  · rename_i x0 p os i
    split at h
    · rename_i n e
      cases e2 : os[n]? with
      | none => rw [e2] at h; cases h
      | some o =>
        rw [e2] at h
        have h := Option.some.inj h
        have h1' := h1
        obtain ⟨d0, v0, z1, z2, z3⟩ := h1
        obtain ⟨fp, a, xs, f, rfl, rfl, q, r⟩ := h1'.bor S
        have e' : atI os i = some o := by unfold atI; rw [e]; exact e2
        obtain ⟨j, v, g, e1, e5, e3, e4, r1⟩ := r.atI e'
        rw [e] at e1; cases e1
        refine .inl ⟨a, xs, i, v, rfl, h2, .inl (.inl q), e4, k _ m (Gro.refl S) ?_⟩
        have nb : ∀ av, RtOk C m av (.bor x0 (p ++ [.idx n]) o) v := fun av => ⟨d0, v0, z1, z2, At.snoc z3 (.idx q e5 e3)⟩
        rw [← h]
        cases o with
        | s d => exact r1.2
        | lst _ => exact nb _
        | dk _ _ => exact nb _
        | dt _ _ => exact nb _
        | ins _ _ _ => exact nb _
    · cases h
  · cases h

def gAttr (cs : List Nat) (f : Str) : Rt → Option Rt
  | .val (.ins c ns ds) => if c ∈ cs then (lk ns ds f).map .val else none
  | .own (.ins c ns os) => if c ∈ cs then (match lk ns os f with
    | some (.s d) => some (.val d)
    | _ => none) else none
  | .bor x p (.ins c ns os) => if c ∈ cs then (lk ns os f).map fun o => o.at x (p ++ [.attr f]) else none
  | _ => none
section
variable {X : Cx} {E : WX} {e a b : Expr} {pos : Pos} {T T1 T2 T3 : List Nat} {fs : MA} {es : List Expr} {f f1 f2 : ME}
theorem loc_attr {cs : List Nat} {n : Str} (hc : ∀ c ∈ cs, Cls C.K (C.cl c) ∧ NoAttr C.K (C.cl c) n) :
    Loc1 C (fun x H Q => ∃ a C' dx fs v, x = .ref a ∧ H a = some (.ins C' dx fs) ∧ Cls C.K C' ∧ NoAttr C.K C' n ∧ fs.lookup n = some v ∧ Q v H) (gAttr cs n) := by
  intro m x rx ry av Q S h1 h k
  unfold gAttr at h
  split at h
  · rename_i c ns ds
    split at h
    · rename_i hm
      cases e : lk ns ds n with
      | none => rw [e] at h; cases h
      | some d =>
        rw [e] at h; cases h
        obtain ⟨a, dx, xs, rfl, q, l, r⟩ := h1
        obtain ⟨v, e1, r1⟩ := lk_rpD r e
        exact ⟨a, _, dx, _, v, rfl, S.ex _ _ q, (hc c hm).1, (hc c hm).2, by rw [lk_zip]; exact e1, k _ m (Gro.refl S) r1⟩
    · cases h
  · rename_i c ns os
    split at h
    · rename_i hm
      split at h
      · rename_i d e
        cases h
        obtain ⟨fp, ⟨a, dx, xs, f, rfl, rfl, q, l, r⟩, _⟩ := h1
        obtain ⟨v, g, e1, r1, _⟩ := lk_rp r e
        exact ⟨a, _, dx, _, v, rfl, q, (hc c hm).1, (hc c hm).2, by rw [lk_zip]; exact e1, k _ m (Gro.refl S) r1.2⟩
      · cases h
    · cases h
  · rename_i x0 p c ns os
    split at h
    · rename_i hm
      cases e : lk ns os n with
      | none => rw [e] at h; cases h
      | some o =>
        rw [e] at h
        have h := Option.some.inj h
        have h1' := h1
        obtain ⟨d0, v0, z1, z2, z3⟩ := h1
        obtain ⟨fp, a, dx, xs, f, rfl, rfl, q, l, r⟩ := h1'.bor S
        obtain ⟨v, g, e1, r1, _⟩ := lk_rp r e
        refine ⟨a, _, dx, _, v, rfl, q, (hc c hm).1, (hc c hm).2, by rw [lk_zip]; exact e1, k _ m (Gro.refl S) ?_⟩
        have nb : ∀ av, RtOk C m av (.bor x0 (p ++ [.attr n]) o) v := fun av => ⟨d0, v0, z1, z2, At.snoc z3 (.attr q e e1 l)⟩
        rw [← h]
        cases o with
        | s d => exact r1.2
        | lst _ => exact nb _
        | dk _ _ => exact nb _
        | dt _ _ => exact nb _
        | ins _ _ _ => exact nb _
    · cases h
  · cases h
theorem e_attr {cs : List Nat} {n : Str} (hK : X.K = C.K) (hc : ∀ c ∈ cs, Cls C.K (C.cl c) ∧ NoAttr C.K (C.cl c) n) (ha : PE X a (rdE C E T f)) (hb : attributeBase a n X.env (eval a X.env) = eval a X.env) :
    PE X (.Attribute a n pos) (rdE C E T (m1 (gAttr cs n) f)) :=
  PE.wk (pe_fld ha hb) fun _ _ _ h => by
    unfold tFld
    rw [hK]
    exact rd1 (loc_attr hc) h
def cut {α : Type} (xs : List α) (lo hi : Option Int) : List α := (xs.drop (HT.sIx xs.length 0 lo)).take (HT.sIx xs.length xs.length hi - HT.sIx xs.length 0 lo)
theorem RpDs.drop {K : PySem.W.Frag} {cl : Nat → Addr} {H : Hp} : ∀ (n : Nat) {ds : List D} {vs : List V}, RpDs K cl H ds vs → RpDs K cl H (ds.drop n) (vs.drop n)
  | 0, _, _, h => h
  | n + 1, [], vs, h => by rw [show vs = [] from h]; exact rfl
  | n + 1, d :: ds, vs, h => by
    obtain ⟨v, r, rfl, h1, h2⟩ := h
    exact RpDs.drop n h2
theorem RpDs.take {K : PySem.W.Frag} {cl : Nat → Addr} {H : Hp} : ∀ (n : Nat) {ds : List D} {vs : List V}, RpDs K cl H ds vs → RpDs K cl H (ds.take n) (vs.take n)
  | 0, _, _, h => rfl
  | n + 1, [], vs, h => by rw [show vs = [] from h]; exact rfl
  | n + 1, d :: ds, vs, h => by
    obtain ⟨v, r, rfl, h1, h2⟩ := h
    exact ⟨v, _, rfl, h1, RpDs.take n h2⟩
theorem RpDs.cut {K : PySem.W.Frag} {cl : Nat → Addr} {H : Hp} {ds : List D} {vs : List V} (h : RpDs K cl H ds vs) (lo hi : Option Int) : RpDs K cl H (L3.cut ds lo hi) (cutV vs lo hi) := by
  unfold L3.cut cutV
  rw [h.length]
  exact (h.drop _).take _
theorem cut_whole {α : Type} {xs : List α} {lo hi : Option Int} (h : HT.sIx xs.length 0 lo = 0 ∧ HT.sIx xs.length xs.length hi = xs.length) : cut xs lo hi = xs := by
  unfold cut
  rw [h.1, h.2]
  simp
def gSl (lo hi : Option Int) (r : Rt) : Option Rt := match r with
  | .val (.str s) => if s.length ≤ 16777216 then some (.val (.str (cutS s lo hi))) else none
  | r => match r.items with
    | some (true, ds) => some (.own (.lst ((cut ds lo hi).map O.s)))
    | some (false, ds) => some (.val (.tup (cut ds lo hi)))
    | none => none
def rSlX (K : PySem.W.Frag) : V → Option Int → Option Int → Hp → VK → Prop := fun x lo hi H Q => rSlF K x lo hi H Q ∨ rSlL K x lo hi H Q ∨ rSlS x lo hi H Q
theorem sl_all {X : Cx} : SlR X (rSlX X.K) := SlR.or sl_tupF (SlR.or sl_list sl_str)
theorem loc_sl {lo hi : Option Int} : Loc1 C (fun x H Q => rSlX C.K x lo hi H Q) (gSl lo hi) := by
  intro m x rx ry av Q S h1 h k
  unfold gSl at h
  split at h
  · rename_i s
    split at h
    · rename_i z
      cases h
      exact .inr (.inr ⟨s, h1, by rw [sizeLine_is]; exact z, k _ m (Gro.refl S) rfl⟩)
    · cases h
  · split at h
    · rename_i ds e
      cases h
      obtain ⟨a, xs, rfl, r, q⟩ := h1.items S e
      rw [if_pos rfl] at q
      exact .inr (.inl ⟨a, xs, rfl, q, fun p hp => k _ _ (gro_own S hp) (own_lst S hp (r.cut lo hi) (fun z => z hp))⟩)
    · rename_i ds e
      cases h
      have h1' := h1
      obtain ⟨a, xs, rfl, r, q⟩ := h1.items S e
      rw [if_neg (by decide)] at q
      refine .inl ⟨a, xs, rfl, q, fun hw => ?_, fun _ p o hp hd => k _ _ (gro_new S hp) ⟨p, _, rfl, SqP.new hd, (r.cut lo hi).mono (gro_new S hp).exF _ _⟩⟩
      rw [r.length] at hw
      refine k _ m (Gro.refl S) ?_
      rw [cut_whole hw]
      unfold Rt.items at e
      split at e
      · cases e; exact h1'
      · cases e
      · rename_i os _; cases z : leaves os <;> (rw [z] at e; cases e)
      · rename_i os _; cases z : leaves os <;> (rw [z] at e; cases e)
      · cases e
    · cases h
abbrev MO := Env → Rs (Option Int)
def rdO (C : Cn) (E : WX) (T : List Nat) (f : MO) : TO := fun σ H Q => ∃ m : Mo, m.H = H ∧ m.σ = σ ∧ Sta C m ∧
  Want C E m (f m.env) fun o env' => ∀ m', m'.env = env' → m'.σ = σ → Sta C m' → Step T m m' → Q o m'.H
def oNone : MO := fun env => .ok none env
def oSome (f : ME) : MO := fun env => (f env).bind fun r e => match r with
  | .val (.int i) => .ok (some i) e
  | _ => .bad
theorem PO.wk {X : Cx} {e : Option Expr} {t t' : TO} (h : PO X e t) (w : ∀ σ H Q, t' σ H Q → t σ H Q) : PO X e t' := ⟨fun pins s σ H Q I q => h.run pins s σ H Q I (w σ H Q q)⟩
theorem o_none : PO X none (rdO C E [] oNone) := PO.wk po_none fun σ H Q ⟨m, e1, e2, S, w⟩ => by subst e1; exact w m rfl e2 S (Step.refl _ _)
theorem o_some (h : PE X e (rdE C E T f)) : PO X (some e) (rdO C E T (oSome f)) := PO.wk (po_some h) fun σ H Q ⟨m, e1, e2, S, w⟩ => ⟨m, e1, e2, S, Want.imp w.bind fun r env w => fun v m' e3 e4 S' s ok => by
  cases r with
  | val d =>
    cases d with
    | int i => exact ⟨i, ok, w m' e3 e4 S' s⟩
    | _ => exact w.elim
  | own o => exact w.elim
  | sl x => exact w.elim
  | bor x p o => exact w.elim⟩
def mSl (T : List Nat) (f : ME) (l h : MO) : ME := fun env => (f env).bind fun r e1 => if r.hot T then .bad else (l e1).bind fun lo e2 => (h e2).bind fun hi e3 => ofO (gSl lo hi r) e3
theorem e_sl {lo hi : Option Expr} {p2 : Pos} {l h : MO} (hK : X.K = C.K) (ha : PE X a (rdE C E T1 f)) (hl : PO X lo (rdO C E T2 l)) (hh : PO X hi (rdO C E T3 h)) :
    PE X (.Subscript a (.Slice lo hi none p2) pos) (rdE C E (T1 ++ (T2 ++ T3)) (mSl (T2 ++ T3) f l h)) :=
  PE.wk (pe_slice sl_all ha hl hh) fun σ H Q ⟨m, e1, e2, S, w⟩ => ⟨m, e1, e2, S, Want.imp w.bind fun r env w => fun v m' e3 e4 S' s ok => by
    by_cases hhot : r.hot (T2 ++ T3) = true
    · rw [if_pos hhot] at w; exact w.elim
    rw [if_neg hhot] at w
    refine ⟨m', rfl, e4, S', ?_⟩
    rw [e3]
    refine Want.mono w.bind s fun lo' env2 w m2 e5 e6 S2 s2 => ⟨m2, rfl, e6, S2, ?_⟩
    rw [e5]
    refine Want.mono w.bind (s.trans s2) fun hi' env3 w m3 e7 e8 S3 s3 => ?_
    rw [hK]
    cases hg : gSl lo' hi' r with
    | none => rw [hg] at w; exact w.elim
    | some ry =>
      rw [hg] at w
      refine loc_sl m3 v r ry _ Q S3 (ok.step S' (s2.trans s3) (by simpa using hhot) (e8.trans e4.symm)) hg fun y m4 G ok4 => ?_
      have s4 := s.trans (s2.trans s3)
      exact w y m4 (G.env.trans e7) (G.σ.trans e8) (S3.gro G) (step_nil S3 s4 G) (ok4.av (old_new s4))⟩

def D.tn : D → String
  | .non => "NoneType"
  | .bl _ => "bool"
  | .int _ => "int"
  | .str _ => "str"
  | .tup _ => "tuple"
  | .lst _ => "list"
  | .dk _ _ => "dict"
  | .dt _ _ => "dict"
  | _ => ""
def D.plain : D → Bool
  | .ins _ _ _ => false
  | .ty _ => false
  | .cls _ => false
  | .adr _ => false
  | .exn _ _ => false
  | _ => true
theorem RpD.tyx {K : PySem.W.Frag} {cl : Nat → Addr} {H : Hp} {d : D} {v : V} (h : RpD K cl H d v) (hp : d.plain = true) : TyX K H v (.type d.tn) := by
  cases d with
  | non => rw [show v = .non from h]; exact .base .non
  | bl b => rw [show v = .bl b from h]; exact .base (.bl b)
  | int b => rw [show v = .int b from h]; exact .base (.int b)
  | str b => rw [show v = .str b from h]; exact .base (.str b)
  | tup ds =>
    obtain ⟨a, xs, rfl, ⟨q, _⟩, _⟩ := h
    rcases q with (q | ⟨o, q⟩) | ⟨o, its, n, q, c, _⟩
    · exact .base (.tup q)
    · exact .fTuple q
    · exact .kTuple q c
  | lst ds =>
    obtain ⟨a, xs, rfl, q, _⟩ := h
    rcases q with (q | ⟨o, q⟩) | ⟨o, its, n, q, c, _⟩
    · exact .base (.lst q)
    · exact .base (.frz q)
    · exact .kList q c
  | dk ks ds => obtain ⟨a, xs, rfl, q, _⟩ := h; exact .base (.dK q)
  | dt ks ds => obtain ⟨a, xs, rfl, q, _⟩ := h; exact .base (.dT q)
  | ins c ns ds => cases hp
  | ty b => cases hp
  | cls b => cases hp
  | adr b => cases hp
  | exn c ds => cases hp
def gIsi : List Rt → Option Rt
  | [r, .val (.ty n)] => if r.isSl = true ∨ r.d.plain = false then none else (kitB r.d.tn n).map fun b => .val (.bl b)
  | _ => none
theorem loc_isi : LocN C (rIsi C.K) gIsi := by
  intro m xs rs ry Q S h e k
  unfold gIsi at e
  split at e
  · rename_i r n
    obtain ⟨x, y, av, av', rfl, h1, h2⟩ := h.two
    split at e
    · cases e
    · rename_i hs
      cases q : kitB r.d.tn n with
      | none => rw [q] at e; cases e
      | some b =>
        rw [q] at e; cases e
        have h2' : y = .ty n := h2
        subst h2'
        exact ⟨x, .ty n, _, _, b, rfl, .ty n, (h1.rd S (by cases z : r.isSl <;> simp_all)).tyx (by cases z : r.d.plain <;> simp_all), kit_ty q, k _ m (Gro.refl S) rfl⟩
  · cases e
theorem e_ty {x : Str} {n : String} (hg : Gl X x) (hm : X.mg x = none) (hv : bootBuiltins x = some (.type n)) (hn : x ≠ "__name__" := by decide) (hd : (x == ("__debug__" : Str)) = false := by decide) :
    PE X (.Name x pos) (rdE C E [] (mC (.ty n))) := e_const (pe_bltn hg hm hv (v := .ty n) rfl hn hd) fun _ => rfl
def tyns : List D → Option (List String)
  | [] => some []
  | .ty n :: ds => (tyns ds).map (n :: ·)
  | _ :: _ => none
def kitBs (t : String) : List String → Option Bool
  | [] => some false
  | n :: ns => match kitB t n with
    | some true => some true
    | some false => kitBs t ns
    | none => none
theorem kitBs_any {K : PySem.W.Frag} {t : String} : ∀ {ns : List String} {b : Bool}, kitBs t ns = some b → PySem.W.kitAny K (.type t) (ns.map Value.type) = some b
  | [], b, h => by cases h; rfl
  | n :: ns, b, h => by
    unfold kitBs at h
    rw [List.map_cons]
    unfold PySem.W.kitAny
    split at h
    · rename_i q; cases h; rw [kit_ty q]
    · rename_i q; rw [kit_ty q]; exact kitBs_any h
    · cases h
theorem RpDs.tyns {K : PySem.W.Frag} {cl : Nat → Addr} {H : Hp} : ∀ {ds : List D} {vs : List V} {ns : List String}, RpDs K cl H ds vs → L3.tyns ds = some ns → vs = ns.map V.ty ∧ Paired ClsV vs (ns.map Value.type)
  | [], vs, ns, h, e => by cases e; rw [show vs = [] from h]; exact ⟨rfl, .nil⟩
  | d :: ds, vs, ns, h, e => by
    obtain ⟨v, r, rfl, h1, h2⟩ := h
    cases d <;> try cases e
    rename_i n
    have e : (L3.tyns ds).map (n :: ·) = some ns := e
    cases q : L3.tyns ds with
    | none => rw [q] at e; cases e
    | some r' =>
      rw [q] at e; cases e
      obtain ⟨e1, e2⟩ := RpDs.tyns h2 q
      rw [show v = .ty n from h1, e1]
      exact ⟨rfl, .cons (.ty n) (by rw [← e1]; exact e2)⟩
def mStl (f : ME) : ME := fun env => (f env).bind fun r e => match r with
  | .own o => .ok (.val o.d) e
  | r => .ok r e
theorem settle_ok {m : Mo} {o : O} {v : V} {av : Addr → Prop} (S : Sta C m) (h : RtOk C m av (.own o) v) (hav : ∀ a, m.H a ≠ none → a ∉ m.fps.flatten → ¬ av a → True) :
    ∃ (F' : Hp) (fp : Fp), (∀ a ∈ fp, ¬ av a) ∧ (∀ a, F' a ≠ none → m.F a = none → a ∈ fp) ∧ Sta C { m with F := F' } ∧ Ex m.F F' ∧ RpD C.K C.cl F' o.d v := by
  obtain ⟨fp, r, nd, k⟩ := h
  refine ⟨fun a => if a ∈ fp then m.H a else m.F a, fp, fun a ha => (k a ha).2.2.2, fun a h n => ?_, ?_, ?_, ?_⟩
  · by_cases q : a ∈ fp
    · exact q
    · exact absurd n (by simpa [q] using h)
  · have hF : ∀ a, a ∉ fp → (if a ∈ fp then m.H a else m.F a) = m.F a := fun a q => if_neg q
    have eF : Ex m.F (fun a => if a ∈ fp then m.H a else m.F a) := fun a u hu => by
      by_cases q : a ∈ fp
      · rw [(k a q).1] at hu; cases hu
      · show (if a ∈ fp then m.H a else m.F a) = _; rw [if_neg q]; exact hu
    refine ⟨S.ln, S.l1, S.l2, fun i o' s f h1 h2 h3 => ?_, fun a u hu => ?_, S.exF.trans eF, fun a h n => ?_, S.nd, S.dj, fun a ha => ?_, S.own, S.frame, S.dom, S.pin⟩
    · have q := S.sl i o' s f h1 h2 h3
      cases o' with
      | none => exact q
      | some d =>
        obtain ⟨v, e, r⟩ := q
        exact ⟨v, e, r.mono eF d v f (fun _ _ => rfl)⟩
    · have hu' : (if a ∈ fp then m.H a else m.F a) = some u := hu
      by_cases q : a ∈ fp
      · rw [if_pos q] at hu'; exact hu'
      · rw [if_neg q] at hu'; exact S.ex a u hu'
    · have h' : (if a ∈ fp then m.H a else m.F a) ≠ none := h
      by_cases q : a ∈ fp
      · exact (k a q).2.2.1
      · rw [if_neg q] at h'; exact S.newF a h' n
    · have q : a ∉ fp := fun q => (k a q).2.1 ha
      show (if a ∈ fp then m.H a else m.F a) = none
      rw [if_neg q]; exact S.df a ha
  · intro a u hu
    by_cases q : a ∈ fp
    · rw [(k a q).1] at hu; cases hu
    · show (if a ∈ fp then m.H a else m.F a) = _; rw [if_neg q]; exact hu
  · exact r.settle (fun a u hu => by
      by_cases q : a ∈ fp
      · rw [(k a q).1] at hu; cases hu
      · show (if a ∈ fp then m.H a else m.F a) = _; rw [if_neg q]; exact hu) o v fp (fun a ha => if_pos ha)
theorem e_stl (h : PE X e (rdE C E T f)) : PE X e (rdE C E T (mStl f)) :=
  PE.wk h fun σ H Q ⟨m, e1, e2, S, w⟩ => ⟨m, e1, e2, S, Want.imp w.bind fun r env w => fun v m' e3 e4 S' s ok => by
    cases r with
    | own o =>
      obtain ⟨F', fp, k1, k2, S2, eF, r⟩ := settle_ok S' ok fun _ _ _ _ => trivial
      refine w v { m' with F := F' } e3 e4 S2 ⟨s.exF.trans eF, s.keep, s.dom, fun a h n => ?_, s.newO, s.len, s.unt⟩ r
      by_cases q : m'.F a = none
      · have z := k1 a (k2 a h q)
        by_cases y : m.H a = none
        · exact .inl y
        · exact .inr (Classical.byContradiction fun w => z ⟨y, w⟩)
      · exact s.newF a q n
    | val d => exact w v m' e3 e4 S' s ok
    | sl x => exact w v m' e3 e4 S' s ok
    | bor x p o => exact w v m' e3 e4 S' s ok⟩
end
end
end L3
namespace L3
open PySem L2

def Mo.put (m : Mo) (F H : Hp) (i : Nat) (o : O) (v : V) (fp : Fp) : Mo := { F := F, H := H, env := m.env.set i (some o), fps := m.fps.set i fp, σ := m.σ.set i (some v) }
theorem mem_flat_set {fps : List Fp} {i : Nat} {fp : Fp} {a : Addr} (h : a ∈ (fps.set i fp).flatten) : a ∈ fp ∨ ∃ j f, j ≠ i ∧ fps[j]? = some f ∧ a ∈ f := by
  obtain ⟨f, hf, ha⟩ := List.mem_flatten.mp h
  obtain ⟨j, e⟩ := List.mem_iff_getElem?.mp hf
  by_cases q : j = i
  · subst q
    rw [List.getElem?_set] at e
    simp at e
    obtain ⟨_, rfl⟩ := e
    exact .inl ha
  · rw [List.getElem?_set_ne (fun z => q z.symm)] at e
    exact .inr ⟨j, f, q, e, ha⟩
theorem put {C : Cn} {T : List Nat} {m0 m : Mo} {i : Nat} {f0 fp' : Fp} {F' H' : Hp} {o' : O} {v' : V} (s : Step T m0 m) (S : Sta C m) (hf : m.fps[i]? = some f0)
    (exF : Ex m.F F') (ex : Ex F' H') (keep : ∀ b o, m.H b = some o → b ∉ f0 → H' b = some o) (dom : ∀ b, m.H b ≠ none → H' b ≠ none) (newF : ∀ a, F' a ≠ none → m.F a = none → m.H a = none ∨ a ∈ f0)
    (r : RpO C.K C.cl F' H' o' v' fp') (nd : fp'.Nodup) (fF : ∀ a ∈ fp', F' a = none)
    (newO : ∀ a ∈ fp', m.H a = none ∨ a ∈ f0 ∨ ((∀ (j : Nat) (f : Fp), m.fps[j]? = some f → a ∉ f) ∧ (m0.H a = none ∨ a ∈ m0.fps.flatten) ∧ (C.H0 a = none ∨ a ∈ C.io)))
    (pin : i ∈ C.IO → m.σ[i]? = some (some v')) : Sta C (m.put F' H' i o' v' fp') ∧ Step (T ++ [i]) m0 (m.put F' H' i o' v' fp') := by
  have hi : i < m.fps.length := (List.getElem?_eq_some_iff.mp hf).1
  have hiE : i < m.env.length := by rw [← S.l2]; exact hi
  have hiS : i < m.σ.length := by rw [S.l1]; exact hiE
  -- the other slots' objects
  have oth : ∀ (j : Nat) (f : Fp) (a : Addr), j ≠ i → m.fps[j]? = some f → a ∈ f → H' a = m.H a ∧ F' a = none ∧ a ∉ fp' := by
    intro j f a hj e ha
    have n0 : a ∉ f0 := S.dj j i f f0 a hj e hf ha
    have hH := S.inH a (mem_fps e ha)
    refine ⟨?_, ?_, fun z => ?_⟩
    · cases q : m.H a with
      | none => exact absurd q hH
      | some o => exact keep a o q n0
    · exact Classical.byContradiction fun w => (newF a w (S.df a (mem_fps e ha))).elim hH n0
    · rcases newO a z with y | y | y
      · exact hH y
      · exact n0 y
      · exact y.1 j f e ha
  have n0io : ∀ b o, C.H0 b = some o → b ∉ C.io → b ∉ f0 := fun b o h1 h2 h3 => by
    rcases S.own b (mem_fps hf h3) with z | z
    · rw [h1] at z; cases z
    · exact h2 z
  refine ⟨⟨?_, ?_, ?_, ?_, ex, S.exF.trans exF, ?_, ?_, ?_, ?_, ?_, ?_, ?_, ?_⟩, ?_⟩
  · show (m.env.set i _).length = _
    rw [List.length_set]; exact S.ln
  · show (m.σ.set i _).length = (m.env.set i _).length
    rw [List.length_set, List.length_set]; exact S.l1
  · show (m.fps.set i _).length = (m.env.set i _).length
    rw [List.length_set, List.length_set]; exact S.l2
  · intro j o s f h1 h2 h3
    have h1 : (m.env.set i (some o'))[j]? = some o := h1
    have h2 : (m.σ.set i (some v'))[j]? = some s := h2
    have h3 : (m.fps.set i fp')[j]? = some f := h3
    by_cases q : j = i
    · subst q
      rw [List.getElem?_set_self hiE] at h1
      rw [List.getElem?_set_self hiS] at h2
      rw [List.getElem?_set_self hi] at h3
      cases h1; cases h2; cases h3
      exact ⟨v', rfl, r⟩
    · rw [List.getElem?_set_ne (fun z => q z.symm)] at h1 h2 h3
      have w := S.sl j o s f h1 h2 h3
      cases o with
      | none => exact w
      | some d =>
        obtain ⟨v, e, r⟩ := w
        exact ⟨v, e, r.mono exF d v f (fun a ha => (oth j f a q h3 ha).1)⟩
  · intro a h n
    by_cases q : m.F a = none
    · rcases newF a h q with z | z
      · exact .inl (S.h0None z)
      · exact S.own a (mem_fps hf z)
    · exact S.newF a q n
  · intro j f h
    have h : (m.fps.set i fp')[j]? = some f := h
    by_cases q : j = i
    · subst q
      rw [List.getElem?_set_self hi] at h; cases h; exact nd
    · rw [List.getElem?_set_ne (fun z => q z.symm)] at h; exact S.nd j f h
  · intro j k f g a hjk p1 p2 ha hb
    have h1 : (m.fps.set i fp')[j]? = some f := p1
    have h2 : (m.fps.set i fp')[k]? = some g := p2
    clear p1 p2
    by_cases q : j = i
    · subst q
      rw [List.getElem?_set_self hi] at h1; cases h1
      rw [List.getElem?_set_ne hjk] at h2
      exact (oth k g a (fun z => hjk z.symm) h2 hb).2.2 ha
    · rw [List.getElem?_set_ne (fun z => q z.symm)] at h1
      by_cases q2 : k = i
      · subst q2
        rw [List.getElem?_set_self hi] at h2; cases h2
        exact (oth j f a q h1 ha).2.2 hb
      · rw [List.getElem?_set_ne (fun z => q2 z.symm)] at h2
        exact S.dj j k f g a hjk h1 h2 ha hb
  · intro a ha
    rcases mem_flat_set ha with z | ⟨j, f, q, e, z⟩
    · exact fF a z
    · exact (oth j f a q e z).2.1
  · intro a ha
    rcases mem_flat_set ha with z | ⟨j, f, q, e, z⟩
    · rcases newO a z with y | y | y
      · exact .inl (S.h0None y)
      · exact S.own a (mem_fps hf y)
      · exact y.2.2
    · exact S.own a (mem_fps e z)
  · intro b o h1 h2
    exact keep b o (S.frame b o h1 h2) (n0io b o h1 h2)
  · intro b h
    exact dom b (S.dom b h)
  · intro j hj
    show (m.σ.set i (some v'))[j]? = _
    by_cases q : j = i
    · subst q
      rw [List.getElem?_set_self hiS, ← pin hj]; exact S.pin j hj
    · rw [List.getElem?_set_ne (fun z => q z.symm)]; exact S.pin j hj
  · have f0in : ∀ a ∈ f0, m0.H a = none ∨ a ∈ m0.fps.flatten := fun a ha => s.newO a (mem_fps hf ha)
    refine ⟨s.exF.trans exF, fun b o h n => ?_, fun b h => dom b (s.dom b h), fun a h n => ?_, fun a ha => ?_, ?_, fun j hj => ?_⟩
    · refine keep b o (s.keep b o h n) fun z => ?_
      rcases f0in b z with y | y
      · rw [h] at y; cases y
      · exact n y
    · by_cases q : m.F a = none
      · rcases newF a h q with z | z
        · exact .inl (Classical.byContradiction fun w => s.dom a w z)
        · exact f0in a z
      · exact s.newF a q n
    · rcases mem_flat_set ha with z | ⟨j, f, q, e, z⟩
      · rcases newO a z with y | y | y
        · exact .inl (Classical.byContradiction fun w => s.dom a w y)
        · exact f0in a y
        · exact y.2.1
      · exact s.newO a (mem_fps e z)
    · show (m.env.set i _).length = _
      rw [List.length_set]; exact s.len
    · have hj1 : j ∉ T := fun z => hj (by simp [z])
      have hj2 : j ≠ i := fun z => hj (by simp [z])
      obtain ⟨u1, u2, u3, u4⟩ := s.unt j hj1
      show (m.env.set i _)[j]? = _ ∧ (m.fps.set i _)[j]? = _ ∧ (m.σ.set i _)[j]? = _ ∧ _
      rw [List.getElem?_set_ne hj2.symm, List.getElem?_set_ne hj2.symm, List.getElem?_set_ne hj2.symm]
      exact ⟨u1, u2, u3, fun f hf2 a ha => ((oth j f a hj2 (u2.trans hf2) ha).1).trans (u4 f hf2 a ha)⟩

section
variable {X : Cx} {C : Cn} {E : WX} {e a b : Expr} {pos : Pos} {T T1 T2 T3 : List Nat} {fs : MA} {es : List Expr} {f f1 f2 : ME} {st : Stmt} {sts : List Stmt} {g g1 g2 : MS} {t : MT}
def msNil : MS := fun env => .ok .nx env
def msSeq (g1 g2 : MS) : MS := fun env => (g1 env).bind fun fl e => match fl with
  | .nx => g2 e
  | fl => .ok fl e
theorem s_nil : PSs X [] (rdS C E [] msNil) := PSs.wk pss_nil fun D σ H ⟨m, e1, e2, S, w⟩ => by
  subst e1 e2
  exact w m rfl S (Step.refl _ _)
theorem seq_rd {D : Ends} {σ : L2.St} {H : Hp} (h : rdS C E (T1 ++ T2) (msSeq g1 g2) D σ H) : rdS C E T1 g1 { D with nx := rdS C E T2 g2 D } σ H := by
  obtain ⟨m, e1, e2, S, w⟩ := h
  refine ⟨m, e1, e2, S, Want.imp w.bind fun fl env w => fun m' e3 S' s => ?_⟩
  cases fl with
  | nx =>
    refine ⟨m', rfl, rfl, S', ?_⟩
    rw [e3]
    exact Want.mono w s fun fl2 env2 w m2 e5 S2 s2 => w m2 e5 S2 (s.trans s2)
  | ret r => exact w m' e3 S' s.inl
  | brk => exact w m' e3 S' s.inl
  | cont => exact w m' e3 S' s.inl
theorem s_cons (h1 : PS X st (rdS C E T1 g1)) (h2 : PSs X sts (rdS C E T2 g2)) : PSs X (st :: sts) (rdS C E (T1 ++ T2) (msSeq g1 g2)) := PSs.wk (pss_cons h1 h2) fun D σ H h => seq_rd h
theorem s_one (h1 : PS X st (rdS C E T1 g1)) : PSs X [st] (rdS C E T1 g1) := pss_one h1
def msExpr (f : ME) : MS := fun env => (f env).bind fun _ e => .ok .nx e
theorem s_expr (h : PE X e (rdE C E T f)) (hs : swapsWith e none pos.line X.env = pure false := by rfl) : PS X (.Expr e pos) (rdS C E T (msExpr f)) := PS.wk (ps_expr h hs) fun D σ H ⟨m, e1, e2, S, w⟩ =>
  ⟨m, e1, e2, S, Want.imp w.bind fun r env w => fun v m' e3 e4 S' s ok => by
    have := w m' e3 S' s
    rw [← e4]; exact this⟩
theorem s_pass : PS X (.Pass pos) (rdS C E [] msNil) := PS.wk ps_pass fun D σ H ⟨m, e1, e2, S, w⟩ => by
  subst e1 e2
  exact w m rfl S (Step.refl _ _)
def msBrk : MS := fun env => .ok .brk env
def msCont : MS := fun env => .ok .cont env
theorem s_brk : PS X (.Break pos) (rdS C E [] msBrk) := PS.wk ps_break fun D σ H ⟨m, e1, e2, S, w⟩ => by
  subst e1 e2
  exact w m rfl S (Step.refl _ _)
theorem s_cont : PS X (.Continue pos) (rdS C E [] msCont) := PS.wk ps_continue fun D σ H ⟨m, e1, e2, S, w⟩ => by
  subst e1 e2
  exact w m rfl S (Step.refl _ _)
def msRet (f : ME) : MS := fun env => (f env).bind fun r e => .ok (.ret r) e
theorem s_ret (h : PE X e (rdE C E T f)) : PS X (.Return (some e) pos) (rdS C E T (msRet f)) := PS.wk (ps_ret h) fun D σ H ⟨m, e1, e2, S, w⟩ =>
  ⟨m, e1, e2, S, Want.imp w.bind fun r env w => fun v m' e3 e4 S' s ok => w m' e3 S' s v _ ok⟩
def msBad : MS := fun _ => .bad
theorem s_bad : PS X st (rdS C E [] msBad) := PS.wk ps_never fun D σ H ⟨m, e1, e2, S, w⟩ => w.elim
def msIf (t : MT) (g1 g2 : MS) : MS := fun env => (t env).bind fun b e => if b = true then g1 e else g2 e
theorem s_if {c : Expr} {xs ys : List Stmt} (hc : PT X c (rdT C E T1 t)) (h1 : PSs X xs (rdS C E T2 g1)) (h2 : PSs X ys (rdS C E T3 g2)) : PS X (.If c xs ys pos) (rdS C E (T1 ++ (T2 ++ T3)) (msIf t g1 g2)) :=
  PS.wk (ps_if hc h1 h2) fun D σ H ⟨m, e1, e2, S, w⟩ => ⟨m, e1, e2, S, Want.imp w.bind fun b env w => fun m' e3 e4 S' s => by
    cases b with
    | true =>
      rw [if_pos rfl]
      refine ⟨m', rfl, e4, S', ?_⟩
      rw [e3]
      exact Want.mono w s fun fl env2 w m2 e5 S2 s2 => w m2 e5 S2 ((s.trans s2).wk (by simp +contextual [or_imp]))
    | false =>
      rw [if_neg Bool.false_ne_true]
      refine ⟨m', rfl, e4, S', ?_⟩
      rw [e3]
      exact Want.mono w s fun fl env2 w m2 e5 S2 s2 => w m2 e5 S2 ((s.trans s2).wk (by simp +contextual [or_imp]))⟩
def Rt.o : Rt → Option O
  | .val d => some (.s d)
  | .own o => some o
  | _ => none
def msSet (i : Nat) (f : ME) : MS := fun env => (f env).bind fun r e => match r.o with
  | some o => .ok .nx (e.set i (some o))
  | none => .bad
theorem store_rd {m0 m : Mo} {i : Nat} {r : Rt} {o : O} {v : V} (s : Step T m0 m) (S : Sta C m) (ok : RtOk C m (Old m0) r v) (ho : r.o = some o) (hi : i < m.env.length) (hIO : i ∉ C.IO) :
    ∃ fp, Sta C (m.put m.F m.H i o v fp) ∧ Step (T ++ [i]) m0 (m.put m.F m.H i o v fp) := by
  have hi' : i < m.fps.length := by rw [S.l2]; exact hi
  have hf := List.getElem?_eq_getElem hi'
  cases r with
  | val d =>
    cases ho
    exact ⟨[], put s S hf (Ex.refl _) S.ex (fun _ _ h _ => h) (fun _ h => h) (fun a h n => absurd n h) ⟨rfl, ok⟩ List.nodup_nil (fun a h => by simp at h) (fun a h => by simp at h) fun z => absurd z hIO⟩
  | own o' =>
    cases ho
    obtain ⟨fp, r, nd, k⟩ := ok
    refine ⟨fp, put s S hf (Ex.refl _) S.ex (fun _ _ h _ => h) (fun _ h => h) (fun a h n => absurd n h) r nd (fun a h => (k a h).1) (fun a h => .inr (.inr ⟨fun j f e z => (k a h).2.1 (mem_fps e z), ?_, (k a h).2.2.1⟩)) fun z => absurd z hIO⟩
    have q := (k a h).2.2.2
    by_cases y : m0.H a = none
    · exact .inl y
    · exact .inr (Classical.byContradiction fun w => q ⟨y, w⟩)
  | bor x p o' => cases ho
  | sl x => cases ho
theorem s_set (i : Nat) {x : Str} {pos' : Pos} (hN : X.N.Nodup) (hi : X.N[i]? = some x) (hx : Loc X.env.scope x) (he : PE X e (rdE C E T f)) (hIO : i ∉ C.IO := by decide) (hlen : i < C.n := by decide)
    (hs : swapsWith e (some (.Name x pos')) pos.line X.env = pure false := by rfl) (hf : X.fn x = true ∨ X.env.scope.names.lookup x = some .local := by first | exact .inl rfl | exact .inr rfl | assumption) :
    PS X (.Assign [.Name x pos'] e pos) (rdS C E (T ++ [i]) (msSet i f)) := PS.wk (ps_set hN hi hx he hs hf) fun D σ H ⟨m, e1, e2, S, w⟩ =>
  ⟨m, e1, e2, S, Want.imp w.bind fun r env w => fun v m' e3 e4 S' s ok => by
    cases ho : r.o with
    | none => rw [ho] at w; exact w.elim
    | some o =>
      rw [ho] at w
      obtain ⟨fp, S2, s2⟩ := store_rd (i := i) s S' ok ho (by rw [S'.ln]; exact hlen) hIO
      have := w _ (by show m'.env.set i (some o) = _; rw [e3]) S2 s2
      show D.nx (σ.set i (some v)) m'.H
      rw [← e4]
      exact this⟩
end
end L3
namespace L3
open PySem L2

inductive Rr where
  | ok (r : O) (outs : List O)
  | exc (c : Nat) (ds : List D) (outs : List O)
  | bad
structure GPost (F H : Hp) (fp : Fp) (F' H' : Hp) : Prop where
  exF : Ex F F'
  ex : Ex F' H'
  keep : ∀ b o, H b = some o → b ∉ fp → H' b = some o
  dom : ∀ b, H b ≠ none → H' b ≠ none
  newF : ∀ a, F' a ≠ none → F a = none → H a = none ∨ a ∈ fp
structure GOuts (K : PySem.W.Frag) (cl : Nat → Addr) (H : Hp) (fp : Fp) (F' H' : Hp) (vs : List V) (outs : List O) (fr fp' : Fp) : Prop where
  rp : RpOs K cl F' H' outs vs fp'
  nd : (fr ++ fp').Nodup
  fF : ∀ a ∈ fr ++ fp', F' a = none
  newO : ∀ a ∈ fr ++ fp', H a = none ∨ a ∈ fp
def spG (K : PySem.W.Frag) (cl : Nat → Addr) (n : Nat) (f : List O → Rr) : Sp := fun vs H Q E => ∃ (F : Hp) (os : List O) (fp : Fp), os.length = n ∧ Ex F H ∧ RpOs K cl F H os vs fp ∧ fp.Nodup ∧ (∀ a ∈ fp, F a = none) ∧
  match f os with
  | .ok r outs => ∀ v F' H' fr fp', GPost F H fp F' H' → RpO K cl F' H' r v fr → GOuts K cl H fp F' H' vs outs fr fp' → Q v H'
  | .exc c ds outs => ∀ F' H' dd fp', GPost F H fp F' H' → GOuts K cl H fp F' H' vs outs [] fp' →
      (ds = [] → dd = none) → (∀ d, ds = [d] → ∃ a v, dd = some a ∧ H' a = some (.xd [(xfld c, v)]) ∧ RpD K cl F' d v) → E (.ref (cl c)) dd H'
  | .bad => False
theorem spG_imp {K : PySem.W.Frag} {cl : Nat → Addr} {n : Nat} {f g : List O → Rr} (h : ∀ os, os.length = n → g os = .bad ∨ f os = g os) : ∀ vs H Q E, spG K cl n g vs H Q E → spG K cl n f vs H Q E := by
  rintro vs H Q E ⟨F, os, fp, hl, ex, r, nd, fF, w⟩
  refine ⟨F, os, fp, hl, ex, r, nd, fF, ?_⟩
  rcases h os hl with e | e
  · rw [e] at w; exact w.elim
  · rw [e]; exact w
theorem spG_len {K : PySem.W.Frag} {cl : Nat → Addr} {n : Nat} {f : List O → Rr} {vs : List V} {H : Hp} {Q : VK} {E : XK} (h : spG K cl n f vs H Q E) : vs.length = n := by
  obtain ⟨F, os, fp, hl, ex, r, _⟩ := h
  rw [r.length]; exact hl

def O.only : O → Option O
  | .s d => some (.s d)
  | _ => none
def outsFrom (IO : List Nat) : Nat → List O → Env → Option (List O)
  | _, [], _ => some []
  | i, o :: os, e :: env => (if i ∈ IO then e else o.only).bind fun o' => (outsFrom IO (i + 1) os env).map (o' :: ·)
  | _, _ :: _, [] => none
def retO (n : Nat) : Fl → Option O
  | .nx => some (.s .non)
  | .ret (.val d) => some (.s d)
  | .ret (.own o) => some o
  | .ret (.bor x [] o) => if n ≤ x then some o else none
  | _ => none
def runDef (IO : List Nat) (k : Nat) (body : MS) (os : List O) : Rr :=
  match body (os.map some ++ List.replicate k none) with
  | .ok fl env' => match outsFrom IO 0 os env', retO os.length fl with
    | some outs, some r => .ok r outs
    | _, _ => .bad
  | .exc c ds env' => match outsFrom IO 0 os env' with
    | some outs => .exc c ds outs
    | none => .bad
  | .bad => .bad
section
variable {K : PySem.W.Frag} {cl : Nat → Addr}
theorem RpOs.split {F H : Hp} : ∀ {os : List O} {vs : List V} {fp : Fp}, RpOs K cl F H os vs fp → ∃ fps : List Fp, fps.length = os.length ∧ fps.flatten = fp ∧
    ∀ (i : Nat) (o : O) (v : V) (f : Fp), os[i]? = some o → vs[i]? = some v → fps[i]? = some f → RpO K cl F H o v f
  | [], vs, fp, h => ⟨[], rfl, h.2.symm, fun i o v f h1 => by simp at h1⟩
  | o :: os, vs, fp, h => by
    obtain ⟨v, r, f, g, rfl, rfl, h1, h2⟩ := h
    obtain ⟨fps, l, e, k⟩ := h2.split
    refine ⟨f :: fps, by simp [l], by simp [e], fun i o' v' f' a1 a2 a3 => ?_⟩
    cases i with
    | zero => simp at a1 a2 a3; subst a1 a2 a3; exact h1
    | succ i => exact k i o' v' f' (by simpa using a1) (by simpa using a2) (by simpa using a3)
theorem nodup_flat {fps : List Fp} (h : fps.flatten.Nodup) : (∀ (i : Nat) (f : Fp), fps[i]? = some f → f.Nodup) ∧ ∀ (i j : Nat) (f g : Fp) (a : Addr), i ≠ j → fps[i]? = some f → fps[j]? = some g → a ∈ f → a ∉ g := by
  induction fps with
  | nil => exact ⟨fun i f h => by simp at h, fun i j f g a _ h => by simp at h⟩
  | cons f fps ih =>
    rw [List.flatten_cons, List.nodup_append] at h
    obtain ⟨h1, h2, h3⟩ := h
    obtain ⟨i1, i2⟩ := ih h2
    refine ⟨fun i g e => ?_, fun i j g g' a hij e1 e2 ha hb => ?_⟩
    · cases i with
      | zero => simp at e; subst e; exact h1
      | succ i => exact i1 i g (by simpa using e)
    · cases i with
      | zero =>
        simp at e1; subst e1
        cases j with
        | zero => exact hij rfl
        | succ j =>
          have e2' : fps[j]? = some g' := by simpa using e2
          exact h3 a ha a (List.mem_flatten.mpr ⟨g', List.mem_of_getElem? e2', hb⟩) rfl
      | succ i =>
        have e1' : fps[i]? = some g := by simpa using e1
        cases j with
        | zero =>
          simp at e2; subst e2
          exact h3 a hb a (List.mem_flatten.mpr ⟨g, List.mem_of_getElem? e1', ha⟩) rfl
        | succ j => exact i2 i j g g' a (by omega) e1' (by simpa using e2) ha hb
theorem outs_ok {C : Cn} {m : Mo} (S : Sta C m) : ∀ {os : List O} {i : Nat} {vs : List V} {outs : List O} {env : Env} {F0 H0 : Hp} {fp0 : Fp}, outsFrom C.IO i os env = some outs → env = m.env.drop i → (∀ j, C.vs[i + j]? = (vs.map some)[j]? ∨ vs.length ≤ j) →
    RpOs C.K C.cl F0 H0 os vs fp0 → Ex F0 m.F → ∃ fps : List Fp, fps.length = os.length ∧ RpOs C.K C.cl m.F m.H outs vs fps.flatten ∧ ∀ (j : Nat) (f : Fp), fps[j]? = some f → f = [] ∨ (i + j ∈ C.IO ∧ m.fps[i + j]? = some f)
  | [], i, vs, outs, env, F0, H0, fp0, h, _, _, r, _ => by
    cases h
    exact ⟨[], rfl, ⟨r.1, rfl⟩, fun j f h => by simp at h⟩
  | o :: os, i, vs, outs, [], F0, H0, fp0, h, _, _, r, _ => by cases h
  | o :: os, i, vs, outs, e :: env, F0, H0, fp0, h, he, hv, r, eF => by
    unfold outsFrom at h
    obtain ⟨v, vr, f, g, rfl, rfl, r1, r2⟩ := r
    have he1 : m.env[i]? = some e := by
      have := congrArg (fun l => l[0]?) he
      simp at this
      rw [← this]
    have he2 : env = m.env.drop (i + 1) := by
      have := congrArg List.tail he
      simp at this
      exact this
    cases q : (if i ∈ C.IO then e else o.only) with
    | none => rw [q] at h; cases h
    | some o' =>
      rw [q] at h
      cases q2 : outsFrom C.IO (i + 1) os env with
      | none => rw [q2] at h; cases h
      | some outs' =>
        rw [q2] at h
        cases h
        obtain ⟨fps, l, rr, k⟩ := outs_ok S q2 he2 (fun j => by
          rcases hv (j + 1) with z | z
          · left; rw [show i + 1 + j = i + (j + 1) from by omega, z]; simp
          · right; simpa using z) r2 eF
        by_cases hio : i ∈ C.IO
        · rw [if_pos hio] at q
          subst q
          obtain ⟨v', f', s1, s2, s3⟩ := S.slot he1
          have p := S.pin i hio
          have hv0 : C.vs[i]? = some (some v) := by
            rcases hv 0 with z | z
            · simpa using z
            · simp at z
          rw [s1, hv0] at p
          cases p
          refine ⟨f' :: fps, by simp [l], ⟨_, _, f', fps.flatten, rfl, by simp, s3, rr⟩, fun j f2 h2 => ?_⟩
          cases j with
          | zero => simp at h2; subst h2; exact .inr ⟨hio, s2⟩
          | succ j =>
            rcases k j f2 (by simpa using h2) with z | ⟨z1, z2⟩
            · exact .inl z
            · exact .inr ⟨by rw [show i + (j + 1) = i + 1 + j from by omega]; exact z1, by rw [show i + (j + 1) = i + 1 + j from by omega]; exact z2⟩
        · rw [if_neg hio] at q
          cases o with
          | s d =>
            cases q
            refine ⟨[] :: fps, by simp [l], ⟨_, _, [], fps.flatten, rfl, by simp, ⟨rfl, r1.2.mono eF d v⟩, rr⟩, fun j f2 h2 => ?_⟩
            cases j with
            | zero => simp at h2; subst h2; exact .inl rfl
            | succ j =>
              rcases k j f2 (by simpa using h2) with z | ⟨z1, z2⟩
              · exact .inl z
              · exact .inr ⟨by rw [show i + (j + 1) = i + 1 + j from by omega]; exact z1, by rw [show i + (j + 1) = i + 1 + j from by omega]; exact z2⟩
          | _ => cases q
theorem flat_nodup {m : Mo} {C : Cn} (S : Sta C m) : ∀ {fps : List Fp} {i : Nat}, (∀ (j : Nat) (f : Fp), fps[j]? = some f → f = [] ∨ (i + j ∈ C.IO ∧ m.fps[i + j]? = some f)) → fps.flatten.Nodup ∧ ∀ a ∈ fps.flatten, ∃ j f, i ≤ j ∧ j < i + fps.length ∧ m.fps[j]? = some f ∧ a ∈ f
  | [], i, _ => ⟨by simp, fun a h => by simp at h⟩
  | f :: fps, i, h => by
    obtain ⟨n, k⟩ := flat_nodup S (fps := fps) (i := i + 1) (fun j g e => by
      rcases h (j + 1) g (by simpa using e) with z | ⟨z1, z2⟩
      · exact .inl z
      · exact .inr ⟨by rw [show i + 1 + j = i + (j + 1) from by omega]; exact z1, by rw [show i + 1 + j = i + (j + 1) from by omega]; exact z2⟩)
    rw [List.flatten_cons, List.nodup_append]
    rcases h 0 f (by simp) with z | ⟨z1, z2⟩
    · subst z
      refine ⟨⟨by simp, n, fun a ha => by simp at ha⟩, fun a ha => ?_⟩
      obtain ⟨j, g, l1, l2, e, hg⟩ := k a (by simpa using ha)
      exact ⟨j, g, by omega, by simp; omega, e, hg⟩
    · refine ⟨⟨S.nd _ _ z2, n, fun a ha b hb e => ?_⟩, fun a ha => ?_⟩
      · subst e
        obtain ⟨j, g, l1, l2, e, hg⟩ := k a hb
        exact S.dj i j f g a (by omega) (by simpa using z2) e ha hg
      · rcases List.mem_append.mp ha with ha | ha
        · exact ⟨i, f, by omega, by simp, by simpa using z2, ha⟩
        · obtain ⟨j, g, l1, l2, e, hg⟩ := k a ha
          exact ⟨j, g, by omega, by simp; omega, e, hg⟩

variable {P : Program} {w : World} {mg : Str → Option Value} {base : Heap}
theorem start_is (N : List Str) (vs : List V) : start N vs = vs.map some ++ List.replicate (N.length - vs.length) none := rfl
theorem first_ok {N : List Str} {IO : List Nat} {F H : Hp} {os : List O} {vs : List V} {fp : Fp} (ex : Ex F H) (r : RpOs K cl F H os vs fp) (nd : fp.Nodup) (fF : ∀ a ∈ fp, F a = none) (hn : os.length ≤ N.length) :
    ∃ fps, Sta ⟨K, cl, F, H, fp, IO, start N vs, N.length⟩ ⟨F, H, os.map some ++ List.replicate (N.length - os.length) none, fps, start N vs⟩ ∧ fps.flatten = fp := by
  obtain ⟨fps, l, e, k⟩ := r.split
  obtain ⟨n1, n2⟩ := nodup_flat (fps := fps) (by rw [e]; exact nd)
  have lv : vs.length = os.length := r.length
  have ef : (fps ++ List.replicate (N.length - os.length) ([] : Fp)).flatten = fp := by
    rw [List.flatten_append, e]
    have : (List.replicate (N.length - os.length) ([] : Fp)).flatten = [] := by simp
    rw [this, List.append_nil]
  have get : ∀ {i : Nat} {f : Fp}, (fps ++ List.replicate (N.length - os.length) ([] : Fp))[i]? = some f → (i < os.length ∧ fps[i]? = some f) ∨ f = [] := by
    intro i f h
    by_cases hi : i < fps.length
    · rw [List.getElem?_append_left hi] at h; exact .inl ⟨by omega, h⟩
    · rw [List.getElem?_append_right (by omega), List.getElem?_replicate] at h
      split at h
      · cases h; exact .inr rfl
      · cases h
  refine ⟨fps ++ List.replicate (N.length - os.length) [], ⟨?_, ?_, ?_, fun i o s f h1 h2 h3 => ?_, ex, Ex.refl _, fun a h n => absurd n h, fun i f h => ?_, fun i j f g a hij h1 h2 ha hb => ?_, fun a ha => ?_, fun a ha => ?_, fun b o h _ => h, fun b h => h, fun i _ => rfl⟩, ef⟩
  · show (os.map some ++ List.replicate (N.length - os.length) none).length = N.length
    simp; omega
  · show (start N vs).length = (os.map some ++ List.replicate (N.length - os.length) none).length
    simp [start_is]; omega
  · show (fps ++ List.replicate (N.length - os.length) ([] : Fp)).length = (os.map some ++ List.replicate (N.length - os.length) none).length
    simp; omega
  · have h1 : (os.map some ++ List.replicate (N.length - os.length) (none : Option O))[i]? = some o := h1
    have h2 : (start N vs)[i]? = some s := h2
    have h3 : (fps ++ List.replicate (N.length - os.length) ([] : Fp))[i]? = some f := h3
    by_cases hi : i < os.length
    · rw [List.getElem?_append_left (by simpa using hi)] at h1
      rw [List.getElem?_append_left (by omega)] at h3
      rw [start_is, List.getElem?_append_left (by simp; omega)] at h2
      rw [List.getElem?_map] at h1 h2
      cases q1 : os[i]? with
      | none => rw [q1] at h1; cases h1
      | some o' =>
        rw [q1] at h1; cases h1
        cases q2 : vs[i]? with
        | none => rw [q2] at h2; cases h2
        | some v => rw [q2] at h2; cases h2; exact ⟨v, rfl, k i o' v f q1 q2 h3⟩
    · rw [List.getElem?_append_right (by simp; omega), List.getElem?_replicate] at h1
      split at h1
      · cases h1
        rcases get h3 with ⟨z, _⟩ | z
        · exact absurd z hi
        · exact z
      · cases h1
  · rcases get h with ⟨_, z⟩ | z
    · exact n1 i f z
    · subst z; exact List.nodup_nil
  · rcases get h1 with ⟨_, z⟩ | z
    · rcases get h2 with ⟨_, z'⟩ | z'
      · exact n2 i j f g a hij z z' ha hb
      · subst z'; simp at hb
    · subst z; simp at ha
  · exact fF a (by rw [← ef]; exact ha)
  · exact .inr (show a ∈ fp by rw [← ef]; exact ha)
abbrev upE (E : XK) : WX := fun c d _ H => E c d H
theorem fn_core {N : List Str} {IO : List Nat} {body : MS} {n : Nat} {vs : List V} {H : Hp} {Q : VK} {E : XK} (hN : n ≤ N.length) (h : spG K cl n (runDef IO (N.length - n) body) vs H Q E) :
    ∃ C : Cn, C.K = K ∧ C.cl = cl ∧ C.IO = IO ∧ C.n = N.length ∧ ∀ T, rdS C (upE E) T body { nx := fun _ H' => Q .non H', rt := Q } (start N vs) H := by
  obtain ⟨F0, os, fp, hl, ex, r, nd, fF, wt⟩ := h
  have lv : vs.length = os.length := r.length
  obtain ⟨fps, S0, ef⟩ := first_ok (N := N) (IO := IO) ex r nd fF (by omega)
  refine ⟨⟨K, cl, F0, H, fp, IO, start N vs, N.length⟩, rfl, rfl, rfl, rfl, fun T => ⟨_, rfl, rfl, S0, ?_⟩⟩
  show Want _ (upE E) _ (body (os.map some ++ List.replicate (N.length - os.length) none)) _
  unfold runDef at wt
  rw [hl] at wt ⊢
  cases hbody : body (os.map some ++ List.replicate (N.length - n) none) with
  | bad => rw [hbody] at wt; exact wt.elim
  | exc c ds env' =>
    rw [hbody] at wt
    dsimp only at wt
    cases ho : outsFrom IO 0 os env' with
    | none => rw [ho] at wt; exact wt.elim
    | some outs =>
      rw [ho] at wt
      intro m' he S' T' s' dd h1 h2
      obtain ⟨gps, l, rr, kk⟩ := outs_ok S' (i := 0) (vs := vs) ho (by simp [he]) (fun j => by
        by_cases hj : j < vs.length
        · left; show (start N vs)[0 + j]? = _; rw [start_is, Nat.zero_add, List.getElem?_append_left (by simpa using hj)]
        · right; omega) r s'.exF
      obtain ⟨gn, gk⟩ := flat_nodup S' kk
      refine wt m'.F m'.H dd gps.flatten ⟨s'.exF, S'.ex, fun b o h n => s'.keep b o h (by rw [ef]; exact n), s'.dom, fun a h n => ?_⟩ ⟨rr, by simpa using gn, fun a ha => ?_, fun a ha => ?_⟩ h1 h2
      · have := s'.newF a h n; rw [ef] at this; exact this
      · obtain ⟨j, g, _, _, e, hg⟩ := gk a (by simpa using ha)
        exact S'.df a (mem_fps e hg)
      · obtain ⟨j, g, _, _, e, hg⟩ := gk a (by simpa using ha)
        have := s'.newO a (mem_fps e hg); rw [ef] at this; exact this
  | ok fl env' =>
    rw [hbody] at wt
    dsimp only at wt
    cases ho : outsFrom IO 0 os env' with
    | none => rw [ho] at wt; exact wt.elim
    | some outs =>
      rw [ho] at wt
      cases hr : retO n fl with
      | none => rw [hr] at wt; exact wt.elim
      | some ro =>
        rw [hr] at wt
        dsimp only at wt
        intro m' he S' s'
        obtain ⟨gps, l, rr, kk⟩ := outs_ok S' (i := 0) (vs := vs) ho (by simp [he]) (fun j => by
          by_cases hj : j < vs.length
          · left; show (start N vs)[0 + j]? = _; rw [start_is, Nat.zero_add, List.getElem?_append_left (by simpa using hj)]
          · right; omega) r s'.exF
        obtain ⟨gn, gk⟩ := flat_nodup S' kk
        have post : GPost F0 H fp m'.F m'.H := ⟨s'.exF, S'.ex, fun b o h n => s'.keep b o h (by rw [ef]; exact n), s'.dom, fun a h n => by have := s'.newF a h n; rw [ef] at this; exact this⟩
        have inn : ∀ a ∈ gps.flatten, m'.F a = none ∧ (H a = none ∨ a ∈ fp) := fun a ha => by
          obtain ⟨j, g, _, _, e, hg⟩ := gk a ha
          refine ⟨S'.df a (mem_fps e hg), ?_⟩
          have := s'.newO a (mem_fps e hg); rw [ef] at this; exact this
        cases fl with
        | brk => cases hr
        | cont => cases hr
        | nx =>
          cases hr
          exact wt .non m'.F m'.H [] gps.flatten post ⟨rfl, rfl⟩ ⟨rr, by simpa using gn, fun a ha => (inn a (by simpa using ha)).1, fun a ha => (inn a (by simpa using ha)).2⟩
        | ret rt =>
          intro v av ok
          cases rt with
          | val d =>
            cases hr
            exact wt v m'.F m'.H [] gps.flatten post ⟨rfl, ok⟩ ⟨rr, by simpa using gn, fun a ha => (inn a (by simpa using ha)).1, fun a ha => (inn a (by simpa using ha)).2⟩
          | own o =>
            cases hr
            obtain ⟨fr, r2, nd2, k2⟩ := ok
            refine wt v m'.F m'.H fr gps.flatten post r2 ⟨rr, ?_, fun a ha => ?_, fun a ha => ?_⟩
            · rw [List.nodup_append]
              refine ⟨nd2, gn, fun a ha b hb e => ?_⟩
              subst e
              obtain ⟨j, g, _, _, e, hg⟩ := gk a hb
              exact (k2 a ha).2.1 (mem_fps e hg)
            · rcases List.mem_append.mp ha with ha | ha
              · exact (k2 a ha).1
              · exact (inn a ha).1
            · rcases List.mem_append.mp ha with ha | ha
              · exact (k2 a ha).2.2.1
              · exact (inn a ha).2
          | sl x => cases hr
          | bor x p o =>
            cases p with
            | cons _ _ => cases hr
            | nil =>
              have hr : (if n ≤ x then some o else none) = some ro := hr
              have hx : n ≤ x := Classical.byContradiction fun hx => by rw [if_neg hx] at hr; cases hr
              rw [if_pos hx] at hr
              cases hr
              obtain ⟨d0, v0, a1, a2, a3, a4⟩ := ok
              subst a3 a4
              obtain ⟨v1, fr, b1, b2, b3⟩ := S'.slot a1
              rw [a2] at b1; cases b1
              refine wt v m'.F m'.H fr gps.flatten post b3 ⟨rr, ?_, fun a ha => ?_, fun a ha => ?_⟩
              · rw [List.nodup_append]
                refine ⟨S'.nd x fr b2, gn, fun a ha b hb e => ?_⟩
                subst e
                obtain ⟨j, g, j1, j2, e, hg⟩ := gk a hb
                exact S'.dj x j fr g a (by omega) b2 e ha hg
              · rcases List.mem_append.mp ha with ha | ha
                · exact S'.df a (mem_fps b2 ha)
                · exact (inn a ha).1
              · rcases List.mem_append.mp ha with ha | ha
                · have := s'.newO a (mem_fps b2 ha); rw [ef] at this; exact this
                · exact (inn a ha).2
theorem fn_def {x qual : Str} {st : Stmt} {f : Addr} {fd : FuncData} {N ps : List Str} {k : Nat} {IO : List Nat} {body : MS} (F : Fun K x qual st f fd) (S : FnScope N ps (defScope st)) (hN : ps.length ≤ N.length)
    (hb : ∀ (cdv : Value) (A : Around) (outer : List PySem.Env) (s : Shared) (H : Hp) (E : XK) (C : Cn), C.K = K → C.cl = cl → C.IO = IO → C.n = N.length → Room k (A.deeper (PyProof.Rows.envOfC qual (defScope st) s.heap.objs.size f cdv)) →
      ∃ T, PSs (cxOf CX0 P w K mg base N qual (defScope st) f cdv A outer s H E).nox (defBody st) (rdS C (upE E) T body)) :
    FnOk P w K mg base CX0 (k + 1) f fd ps (spG K cl ps.length (runDef IO (N.length - ps.length) body)) := by
  refine F.ok S (fun vs H Q E h => spG_len h) (fun cdv A outer s H vs Q E hr h => ?_)
  obtain ⟨C, c1, c2, c3, c4, rd⟩ := fn_core hN h
  obtain ⟨T, hps⟩ := hb cdv A outer s H E C c1 c2 c3 c4 hr
  exact ⟨_, hps, rd T⟩
theorem fn_defX {x qual : Str} {st : Stmt} {f : Addr} {fd : FuncData} {N ps : List Str} {k : Nat} {IO : List Nat} {body : MS} (F : Fun K x qual st f fd) (S : FnScope N ps (defScope st)) (hN : ps.length ≤ N.length)
    (hb : ∀ (cdv : Value) (A : Around) (outer : List PySem.Env) (s : Shared) (H : Hp) (E : XK) (C : Cn), C.K = K → C.cl = cl → C.IO = IO → C.n = N.length → Room k (A.deeper (PyProof.Rows.envOfC qual (defScope st) s.heap.objs.size f cdv)) →
      Takes (cxOf (L2.CX P w) P w K mg base N qual (defScope st) f cdv A outer s H E) (upE E) → ∃ T, PSs (cxOf (L2.CX P w) P w K mg base N qual (defScope st) f cdv A outer s H E) (defBody st) (rdS C (upE E) T body)) :
    FnOk P w K mg base (L2.CX P w) (k + 1) f fd ps (spG K cl ps.length (runDef IO (N.length - ps.length) body)) := by
  refine F.okX S (fun vs H Q E h => spG_len h) (fun cdv A outer s H vs Q E hr h => ?_)
  obtain ⟨C, c1, c2, c3, c4, rd⟩ := fn_core hN h
  obtain ⟨T, hps⟩ := hb cdv A outer s H E C c1 c2 c3 c4 hr (takes_of rfl rfl rfl rfl)
  exact ⟨_, hps, rd T⟩
end
end L3
namespace L3
open PySem L2

def Mo.fg (m : Mo) (x : Nat) : Mo := { m with env := m.env.set x none, fps := m.fps.set x [] }
theorem forget {C : Cn} {T : List Nat} {m0 m : Mo} (s : Step T m0 m) (S : Sta C m) (x : Nat) : Sta C (m.fg x) ∧ Step (T ++ [x]) m0 (m.fg x) := by
  have sub : ∀ {j : Nat} {f : Fp}, (m.fps.set x [])[j]? = some f → (j = x ∧ f = []) ∨ (j ≠ x ∧ m.fps[j]? = some f) := by
    intro j f h
    by_cases q : j = x
    · subst q
      rw [List.getElem?_set] at h
      simp at h
      exact .inl ⟨rfl, h.2⟩
    · rw [List.getElem?_set_ne (fun z => q z.symm)] at h
      exact .inr ⟨q, h⟩
  have inf : ∀ {a : Addr}, a ∈ (m.fps.set x []).flatten → a ∈ m.fps.flatten := by
    intro a ha
    rcases mem_flat_set ha with z | ⟨j, f, _, e, z⟩
    · simp at z
    · exact mem_fps e z
  refine ⟨⟨?_, ?_, ?_, fun j o sv f h1 h2 h3 => ?_, S.ex, S.exF, S.newF, fun j f h => ?_, fun j k f g a hjk p1 p2 ha hb => ?_, fun a ha => S.df a (inf ha), fun a ha => S.own a (inf ha), S.frame, S.dom, S.pin⟩, ⟨s.exF, s.keep, s.dom, s.newF, fun a ha => s.newO a (inf ha), ?_, fun j hj => ?_⟩⟩
  · show (m.env.set x none).length = _
    rw [List.length_set]; exact S.ln
  · show m.σ.length = (m.env.set x none).length
    rw [List.length_set]; exact S.l1
  · show (m.fps.set x []).length = (m.env.set x none).length
    rw [List.length_set, List.length_set]; exact S.l2
  · have h1 : (m.env.set x none)[j]? = some o := h1
    have h2 : m.σ[j]? = some sv := h2
    rcases sub h3 with ⟨rfl, rfl⟩ | ⟨q, e⟩
    · rw [List.getElem?_set] at h1
      simp at h1
      rw [← h1.2]
      exact rfl
    · rw [List.getElem?_set_ne (fun z => q z.symm)] at h1
      exact S.sl j o sv f h1 h2 e
  · rcases sub h with ⟨_, rfl⟩ | ⟨q, e⟩
    · exact List.nodup_nil
    · exact S.nd j f e
  · rcases sub p1 with ⟨_, rfl⟩ | ⟨q, e⟩
    · simp at ha
    · rcases sub p2 with ⟨_, rfl⟩ | ⟨q2, e2⟩
      · simp at hb
      · exact S.dj j k f g a hjk e e2 ha hb
  · show (m.env.set x none).length = _
    rw [List.length_set]; exact s.len
  · have hj1 : j ∉ T := fun z => hj (by simp [z])
    have hj2 : j ≠ x := fun z => hj (by simp [z])
    obtain ⟨u1, u2, u3, u4⟩ := s.unt j hj1
    show (m.env.set x none)[j]? = _ ∧ (m.fps.set x [])[j]? = _ ∧ _
    rw [List.getElem?_set_ne hj2.symm, List.getElem?_set_ne hj2.symm]
    exact ⟨u1, u2, u3, u4⟩
theorem chg {C : Cn} {T : List Nat} {m0 m : Mo} {fp : Fp} {F' H' : Hp} (s : Step T m0 m) (S : Sta C m) (G : GPost m.F m.H fp F' H') (d : ∀ a ∈ fp, a ∉ m.fps.flatten)
    (n0 : ∀ a ∈ fp, m0.H a = none ∨ a ∈ m0.fps.flatten) (own : ∀ a ∈ fp, C.H0 a = none ∨ a ∈ C.io) : Sta C { m with F := F', H := H' } ∧ Step T m0 { m with F := F', H := H' } := by
  have kp : ∀ a ∈ m.fps.flatten, H' a = m.H a := fun a ha => by
    cases q : m.H a with
    | none => exact absurd q (S.inH a ha)
    | some o => exact G.keep a o q fun z => d a z ha
  refine ⟨⟨S.ln, S.l1, S.l2, fun i o sv f h1 h2 h3 => ?_, G.ex, S.exF.trans G.exF, fun a h n => ?_, S.nd, S.dj, fun a ha => ?_, S.own, fun b o h n => ?_, fun b h => G.dom b (S.dom b h), S.pin⟩,
    ⟨s.exF.trans G.exF, fun b o h n => ?_, fun b h => G.dom b (s.dom b h), fun a h n => ?_, s.newO, s.len, fun i hi => ?_⟩⟩
  · have w := S.sl i o sv f h1 h2 h3
    cases o with
    | none => exact w
    | some o' =>
      obtain ⟨v, e, r⟩ := w
      exact ⟨v, e, r.mono G.exF o' v f (fun a ha => kp a (mem_fps h3 ha))⟩
  · by_cases q : m.F a = none
    · rcases G.newF a h q with z | z
      · exact .inl (S.h0None z)
      · exact own a z
    · exact S.newF a q n
  · exact Classical.byContradiction fun w => (G.newF a w (S.df a ha)).elim (S.inH a ha) fun z => d a z ha
  · refine G.keep b o (S.frame b o h n) fun z => ?_
    rcases own b z with y | y
    · rw [h] at y; cases y
    · exact n y
  · refine G.keep b o (s.keep b o h n) fun z => ?_
    rcases n0 b z with y | y
    · rw [h] at y; cases y
    · exact n y
  · by_cases q : m.F a = none
    · rcases G.newF a h q with z | z
      · exact .inl (Classical.byContradiction fun w => s.dom a w z)
      · exact n0 a z
    · exact s.newF a q n
  · obtain ⟨u1, u2, u3, u4⟩ := s.unt i hi
    exact ⟨u1, u2, u3, fun f hf a ha => (kp a (mem_fps (u2.trans hf) ha)).trans (u4 f hf a ha)⟩

def argO (env : Env) : Rt → Option O
  | .val d => some (.s d)
  | .sl x => (env[x]?).join
  | _ => none
def argsO (env : Env) : List Rt → Option (List O)
  | [] => some []
  | r :: rs => (argO env r).bind fun o => (argsO env rs).map (o :: ·)
def slots : List Rt → List Nat
  | [] => []
  | .sl x :: rs => x :: slots rs
  | _ :: rs => slots rs
def putOuts : Env → List Rt → List O → Env
  | e, .sl x :: rs, o :: os => putOuts (e.set x (some o)) rs os
  | e, _ :: rs, _ :: os => putOuts e rs os
  | e, _, _ => e
theorem set_same {σ : L2.St} {x : Nat} {v : V} (h : σ[x]? = some (some v)) : σ.set x (some v) = σ := by
  obtain ⟨h1, h2⟩ := List.getElem?_eq_some_iff.mp h
  rw [← h2]; exact List.set_getElem_self h1
section
variable {C : Cn} {m : Mo}
theorem args_ok (S : Sta C m) : ∀ {rs : List Rt} {vs : List V} {os : List O}, RtsOk C m rs vs → argsO m.env rs = some os → ∃ fp, RpOs C.K C.cl m.F m.H os vs fp ∧
    (∀ a ∈ fp, ∃ x f, x ∈ slots rs ∧ m.fps[x]? = some f ∧ a ∈ f) ∧ ((slots rs).Nodup → fp.Nodup) ∧ ∀ x ∈ slots rs, x < m.env.length
  | [], vs, os, h, e => by
    cases e; cases h
    exact ⟨[], ⟨rfl, rfl⟩, fun a h => by simp at h, fun _ => List.nodup_nil, fun x h => by simp [slots] at h⟩
  | r :: rs, vs, os, h, e => by
    cases h with
    | cons h1 h2 =>
      rename_i v vs av
      unfold argsO at e
      cases q : argO m.env r with
      | none => rw [q] at e; cases e
      | some o =>
        rw [q] at e
        cases q2 : argsO m.env rs with
        | none => rw [q2] at e; cases e
        | some os' =>
          rw [q2] at e; cases e
          obtain ⟨fp, r1, r2, r3, r4⟩ := args_ok S h2 q2
          cases r with
          | val d =>
            cases q
            exact ⟨fp, ⟨v, vs, [], fp, rfl, rfl, ⟨rfl, h1⟩, r1⟩, r2, r3, r4⟩
          | own o => cases q
          | bor x p o => cases q
          | sl x =>
            have q : (m.env[x]?).join = some o := q
            cases q3 : m.env[x]? with
            | none => rw [q3] at q; cases q
            | some eo =>
              rw [q3] at q
              have q : eo = some o := q
              subst q
              obtain ⟨v', f, s1, s2, s3⟩ := S.slot q3
              have h1' : m.σ[x]? = some (some v) := h1
              rw [h1'] at s1; cases s1
              refine ⟨f ++ fp, ⟨v, vs, f, fp, rfl, rfl, s3, r1⟩, fun a ha => ?_, fun hn => ?_, fun y hy => ?_⟩
              · rcases List.mem_append.mp ha with z | z
                · exact ⟨x, f, by simp [slots], s2, z⟩
                · obtain ⟨y, g, a1, a2, a3⟩ := r2 a z
                  exact ⟨y, g, by simp [slots, a1], a2, a3⟩
              · have hn : (x :: slots rs).Nodup := hn
                rw [List.nodup_cons] at hn
                rw [List.nodup_append]
                refine ⟨S.nd x f s2, r3 hn.2, fun a ha b hb e => ?_⟩
                subst e
                obtain ⟨y, g, a1, a2, a3⟩ := r2 a hb
                exact S.dj x y f g a (fun z => hn.1 (by rw [z]; exact a1)) s2 a2 ha a3
              · have hy : y ∈ x :: slots rs := hy
                rcases List.mem_cons.mp hy with z | z
                · subst z; exact (List.getElem?_eq_some_iff.mp q3).1
                · exact r4 y z
def fgs (m : Mo) : List Nat → Mo
  | [] => m
  | x :: xs => fgs (m.fg x) xs
theorem fgs_ok {m0 : Mo} : ∀ {xs : List Nat} {m : Mo} {T : List Nat}, Step T m0 m → Sta C m → Sta C (fgs m xs) ∧ Step (T ++ xs) m0 (fgs m xs) ∧ (fgs m xs).F = m.F ∧ (fgs m xs).H = m.H ∧ (fgs m xs).σ = m.σ ∧
    (∀ a, a ∈ (fgs m xs).fps.flatten → ∃ j f, j ∉ xs ∧ m.fps[j]? = some f ∧ a ∈ f) ∧ (∀ x ∈ xs, x < m.env.length → (fgs m xs).fps[x]? = some [])
  | [], m, T, s, S => ⟨S, by rw [List.append_nil]; exact s, rfl, rfl, rfl, fun a ha => by
      obtain ⟨f, hf, haf⟩ := List.mem_flatten.mp ha
      obtain ⟨j, e⟩ := List.mem_iff_getElem?.mp hf
      exact ⟨j, f, by simp, e, haf⟩, fun x h => by simp at h⟩
  | x :: xs, m, T, s, S => by
    obtain ⟨S1, s1⟩ := forget s S x
    obtain ⟨S2, s2, e1, e2, e3, k, k2⟩ := fgs_ok (xs := xs) s1 S1
    refine ⟨S2, by rw [List.append_assoc] at s2; exact s2, e1, e2, e3, fun a ha => ?_, fun y hy hl => ?_⟩
    · obtain ⟨j, f, j1, j2, j3⟩ := k a ha
      have j2 : (m.fps.set x [])[j]? = some f := j2
      by_cases q : j = x
      · subst q
        rw [List.getElem?_set] at j2
        simp at j2
        rw [j2.2] at j3; simp at j3
      · rw [List.getElem?_set_ne (fun z => q z.symm)] at j2
        exact ⟨j, f, by simp [q, j1], j2, j3⟩
    · by_cases q : y ∈ xs
      · exact k2 y q (by show y < (m.env.set x none).length; rw [List.length_set]; exact hl)
      · have hyx : y = x := by simpa [q] using hy
        subst hyx
        have z : ∀ {zs : List Nat} {m : Mo}, y ∉ zs → m.fps[y]? = some [] → (fgs m zs).fps[y]? = some [] := by
          intro zs
          induction zs with
          | nil => intro m _ h; exact h
          | cons z zs ih =>
            intro m hn h
            refine ih (fun q => hn (by simp [q])) ?_
            show (m.fps.set z [])[y]? = _
            rw [List.getElem?_set_ne (fun q => hn (by simp [q]))]; exact h
        show (fgs (m.fg y) xs).fps[y]? = _
        refine z q ?_
        show (m.fps.set y [])[y]? = _
        rw [List.getElem?_set_self (by rw [S.l2]; exact hl)]
theorem puts_ok {m0 : Mo} {σ : L2.St} : ∀ {rs : List Rt} {vs : List V} {outs : List O} {fp : Fp} {m : Mo} {T : List Nat}, Step T m0 m → Sta C m → m.σ = σ → RpOs C.K C.cl m.F m.H outs vs fp → (∀ (i : Nat) (r : Rt) (v : V), rs[i]? = some r → vs[i]? = some v → ∀ x, r = .sl x → σ[x]? = some (some v)) →
    fp.Nodup → (∀ a ∈ fp, m.F a = none ∧ a ∉ m.fps.flatten ∧ (m0.H a = none ∨ a ∈ m0.fps.flatten) ∧ (C.H0 a = none ∨ a ∈ C.io)) → (slots rs).Nodup → (∀ x ∈ slots rs, m.fps[x]? = some []) → rs.length = outs.length →
    ∃ m', Sta C m' ∧ Step (T ++ slots rs) m0 m' ∧ m'.F = m.F ∧ m'.H = m.H ∧ m'.σ = σ ∧ m'.env = putOuts m.env rs outs ∧ ∀ a ∈ m'.fps.flatten, a ∈ m.fps.flatten ∨ a ∈ fp
  | [], vs, outs, fp, m, T, s, S, hσ, r, hv, nd, hk, hn, h0, hl => by
    have : outs = [] := List.eq_nil_of_length_eq_zero hl.symm
    subst this
    exact ⟨m, S, by simpa [slots] using s, rfl, rfl, hσ, rfl, fun a ha => .inl ha⟩
  | r0 :: rs, vs, [], fp, m, T, s, S, hσ, r, hv, nd, hk, hn, h0, hl => by simp at hl
  | r0 :: rs, vs, o :: outs, fp, m, T, s, S, hσ, r, hv, nd, hk, hn, h0, hl => by
    obtain ⟨v, vr, f, g, rfl, rfl, r1, r2⟩ := r
    rw [List.nodup_append] at nd
    have skip : slots (r0 :: rs) = slots rs → putOuts m.env (r0 :: rs) (o :: outs) = putOuts m.env rs outs →
        ∃ m', Sta C m' ∧ Step (T ++ slots (r0 :: rs)) m0 m' ∧ m'.F = m.F ∧ m'.H = m.H ∧ m'.σ = σ ∧ m'.env = putOuts m.env (r0 :: rs) (o :: outs) ∧ ∀ a ∈ m'.fps.flatten, a ∈ m.fps.flatten ∨ a ∈ f ++ g := fun e1 e2 => by
      obtain ⟨m', p1, p2, p3, p4, p5, p6, p7⟩ := puts_ok (rs := rs) s S hσ r2 (fun i r v a b => hv (i + 1) r v (by simpa using a) (by simpa using b)) nd.2.1 (fun a ha => hk a (by simp [ha])) (by rw [e1] at hn; exact hn) (by rw [e1] at h0; exact h0) (by simpa using hl)
      exact ⟨m', p1, by rw [e1]; exact p2, p3, p4, p5, by rw [e2]; exact p6, fun a ha => (p7 a ha).imp id fun z => by simp [z]⟩
    cases r0 with
    | val d => exact skip rfl rfl
    | own d => exact skip rfl rfl
    | bor x p d => exact skip rfl rfl
    | sl x =>
      have hn : (x :: slots rs).Nodup := hn
      rw [List.nodup_cons] at hn
      have hx : m.fps[x]? = some [] := h0 x (by simp [slots])
      have hvx : m.σ[x]? = some (some v) := by rw [hσ]; exact hv 0 (.sl x) v (by simp) (by simp) x rfl
      obtain ⟨S1, s1⟩ := put (o' := o) (v' := v) (fp' := f) s S hx (Ex.refl _) S.ex (fun _ _ h _ => h) (fun _ h => h) (fun a h n => absurd n h) r1 nd.1 (fun a ha => (hk a (by simp [ha])).1)
        (fun a ha => .inr (.inr ⟨fun j f' e z => (hk a (by simp [ha])).2.1 (mem_fps e z), (hk a (by simp [ha])).2.2.1, (hk a (by simp [ha])).2.2.2⟩)) (fun _ => hvx)
      have hk2 : ∀ a ∈ g, (m.put m.F m.H x o v f).F a = none ∧ a ∉ (m.put m.F m.H x o v f).fps.flatten ∧ (m0.H a = none ∨ a ∈ m0.fps.flatten) ∧ (C.H0 a = none ∨ a ∈ C.io) := fun a ha => by
        obtain ⟨k1, k2, k3, k4⟩ := hk a (by simp [ha])
        refine ⟨k1, fun z => ?_, k3, k4⟩
        rcases mem_flat_set z with y | ⟨j, f', _, e, y⟩
        · exact nd.2.2 a y a ha rfl
        · exact k2 (mem_fps e y)
      obtain ⟨m', p1, p2, p3, p4, p5, p6, p7⟩ := puts_ok (rs := rs) s1 S1 (by show m.σ.set x _ = _; rw [set_same hvx]; exact hσ) r2 (fun i r v a b => hv (i + 1) r v (by simpa using a) (by simpa using b)) nd.2.1 hk2 hn.2
        (fun y hy => by show (m.fps.set x f)[y]? = _; rw [List.getElem?_set_ne (fun q => hn.1 (by rw [q]; exact hy))]; exact h0 y (by simp [slots, hy])) (by simpa using hl)
      refine ⟨m', p1, by simpa [slots] using p2, p3, p4, p5, p6, fun a ha => ?_⟩
      rcases p7 a ha with z | z
      · rcases mem_flat_set z with y | ⟨j, f', _, e, y⟩
        · exact .inr (by simp [y])
        · exact .inl (mem_fps e y)
      · exact .inr (by simp [z])
theorem RtsOk.sls : ∀ {rs : List Rt} {vs : List V}, RtsOk C m rs vs → ∀ (i : Nat) (r : Rt) (v : V), rs[i]? = some r → vs[i]? = some v → ∀ x, r = .sl x → m.σ[x]? = some (some v)
  | [], vs, h, i, r, v, h1, h2, x, e => by simp at h1
  | r0 :: rs, vs, h, i, r, v, h1, h2, x, e => by
    cases h with
    | cons a b =>
      cases i with
      | zero => simp at h1 h2; subst h1 h2 e; exact a
      | succ i => exact RtsOk.sls b i r v (by simpa using h1) (by simpa using h2) x e
end
theorem call_ok {C : Cn} {T Sl : List Nat} {m0 m : Mo} {rs : List Rt} {vs : List V} {os outs : List O} {fp fr fp' : Fp} {F' H' : Hp} (s : Step T m0 m) (S : Sta C m) (ok : RtsOk C m rs vs)
    (hfp : ∀ a ∈ fp, ∃ x f, x ∈ slots rs ∧ m.fps[x]? = some f ∧ a ∈ f) (hsl : ∀ x ∈ slots rs, x < m.env.length) (hn : (slots rs).Nodup) (hS : ∀ x ∈ slots rs, x ∈ Sl) (G : GPost m.F m.H fp F' H') (Go : GOuts C.K C.cl m.H fp F' H' vs outs fr fp')
    (hl : rs.length = outs.length) : ∃ m', Sta C m' ∧ Step (T ++ Sl) m0 m' ∧ m'.F = F' ∧ m'.H = H' ∧ m'.σ = m.σ ∧ m'.env = putOuts m.env rs outs ∧ ∀ a ∈ fr, a ∉ m'.fps.flatten ∧ (m0.H a = none ∨ a ∈ m0.fps.flatten) ∧ (C.H0 a = none ∨ a ∈ C.io) := by
  obtain ⟨S1, s1, e1, e2, e3, k, k2⟩ := fgs_ok (xs := slots rs) s S
  have fpm : ∀ a ∈ fp, m0.H a = none ∨ a ∈ m0.fps.flatten := fun a ha => by
    obtain ⟨x, f, _, a2, a3⟩ := hfp a ha
    exact s.newO a (mem_fps a2 a3)
  have fpo : ∀ a ∈ fp, C.H0 a = none ∨ a ∈ C.io := fun a ha => by
    obtain ⟨x, f, _, a2, a3⟩ := hfp a ha
    exact S.own a (mem_fps a2 a3)
  obtain ⟨S2, s2⟩ := chg (fp := fp) (F' := F') (H' := H') s1 S1 (by rw [e1, e2]; exact G) (fun a ha z => by
    obtain ⟨x, f, a1, a2, a3⟩ := hfp a ha
    obtain ⟨j, g, j1, j2, j3⟩ := k a z
    exact S.dj x j f g a (fun q => j1 (by rw [← q]; exact a1)) a2 j2 a3 j3) fpm fpo
  have nw : ∀ a ∈ fr ++ fp', a ∉ (fgs m (slots rs)).fps.flatten ∧ (m0.H a = none ∨ a ∈ m0.fps.flatten) ∧ (C.H0 a = none ∨ a ∈ C.io) := fun a ha => by
    refine ⟨fun z => ?_, ?_, ?_⟩
    · obtain ⟨j, g, j1, j2, j3⟩ := k a z
      rcases Go.newO a ha with y | y
      · exact S.inH a (mem_fps j2 j3) y
      · obtain ⟨x, f, a1, a2, a3⟩ := hfp a y
        exact S.dj x j f g a (fun q => j1 (by rw [← q]; exact a1)) a2 j2 a3 j3
    · rcases Go.newO a ha with y | y
      · exact .inl (Classical.byContradiction fun w => s.dom a w y)
      · exact fpm a y
    · rcases Go.newO a ha with y | y
      · exact .inl (S.h0None y)
      · exact fpo a y
  have nd := Go.nd
  rw [List.nodup_append] at nd
  obtain ⟨m', p1, p2, p3, p4, p5, p6, p7⟩ := puts_ok (rs := rs) (vs := vs) (outs := outs) (fp := fp') (σ := m.σ) s2 S2 e3 Go.rp ok.sls nd.2.1 (fun a ha => ⟨Go.fF a (by simp [ha]), nw a (by simp [ha])⟩) hn (fun x hx => k2 x hx (hsl x hx)) hl
  have envq : ∀ {xs : List Nat} {m : Mo} {rs : List Rt} {outs : List O}, (∀ x ∈ xs, x ∈ slots rs) → rs.length = outs.length → (slots rs).Nodup → putOuts (fgs m xs).env rs outs = putOuts m.env rs outs := by
    intro xs
    induction xs with
    | nil => intro m rs outs _ _ _; rfl
    | cons x xs ih =>
      intro m rs outs h1 h2 h3
      show putOuts (fgs (m.fg x) xs).env rs outs = _
      rw [ih (fun y hy => h1 y (by simp [hy])) h2 h3]
      have z : ∀ {rs : List Rt} {outs : List O} {e : Env} {y : Option O}, x ∈ slots rs → rs.length = outs.length → putOuts (e.set x y) rs outs = putOuts e rs outs := by
        intro rs
        induction rs with
        | nil => intro outs e y h; simp [slots] at h
        | cons r rs ih2 =>
          intro outs e y h hl
          cases outs with
          | nil => simp at hl
          | cons o outs =>
            cases r with
            | sl x' =>
              show putOuts ((e.set x y).set x' (some o)) rs outs = putOuts (e.set x' (some o)) rs outs
              by_cases q : x = x'
              · subst q; rw [List.set_set]
              · rw [List.set_comm _ _ q]
                have h : x ∈ x' :: slots rs := h
                exact ih2 ((List.mem_cons.mp h).resolve_left q) (by simpa using hl)
            | val d => exact ih2 h (by simpa using hl)
            | own d => exact ih2 h (by simpa using hl)
            | bor a b d => exact ih2 h (by simpa using hl)
      exact z (h1 x (by simp)) h2
  refine ⟨m', p1, p2.wk (fun i hi => ?_), p3, p4, p5, ?_, fun a ha => ⟨fun z => ?_, (nw a (by simp [ha])).2⟩⟩
  · simp only [List.mem_append] at hi ⊢
    rcases hi with (z | z) | z
    · exact .inl z
    · exact .inr (hS i z)
    · exact .inr (hS i z)
  · rw [p6]
    exact envq (fun x hx => hx) hl hn
  · rcases p7 a z with y | y
    · exact (nw a (by simp [ha])).1 y
    · exact nd.2.2 a ha a y rfl

def O.rr : O → Rt
  | .s d => .val d
  | o => .own o
def mCall (Sl : List Nat) (n : Nat) (fn : List O → Rr) (fs : MA) : ME := fun env => (fs env).bind fun rs e =>
  match argsO e rs with
  | some os => if rs.length = n ∧ (slots rs).Nodup ∧ (∀ x ∈ slots rs, x ∈ Sl) then
      (match fn os with
      | .ok r outs => if outs.length = n then .ok r.rr (putOuts e rs outs) else .bad
      | .exc c ds outs => if outs.length = n then .exc c ds (putOuts e rs outs) else .bad
      | .bad => .bad) else .bad
  | none => .bad
theorem argsO_len {e : Env} : ∀ {rs : List Rt} {os : List O}, argsO e rs = some os → os.length = rs.length
  | [], os, h => by cases h; rfl
  | r :: rs, os, h => by
    unfold argsO at h
    cases q : argO e r with
    | none => rw [q] at h; cases h
    | some o =>
      rw [q] at h
      cases q2 : argsO e rs with
      | none => rw [q2] at h; cases h
      | some os' => rw [q2] at h; cases h; simp [argsO_len q2]
section
variable {X : Cx} {C : Cn} {E : WX} {e a b : Expr} {pos : Pos} {T T1 T2 T3 Sl : List Nat} {fs : MA} {es : List Expr} {f f1 f2 : ME} {n : Nat} {fn : List O → Rr}
theorem call_core {σ : L2.St} {Q : VK} {m m' : Mo} {rs : List Rt} {vs : List V} (s : Step T m m') (S' : Sta C m') (ok : RtsOk C m' rs vs) (e4 : m'.σ = σ)
    (w : Want C E m (match argsO m'.env rs with
      | some os => if rs.length = n ∧ (slots rs).Nodup ∧ (∀ x ∈ slots rs, x ∈ Sl) then
          (match fn os with
          | .ok r outs => if outs.length = n then Rs.ok r.rr (putOuts m'.env rs outs) else .bad
          | .exc c ds outs => if outs.length = n then .exc c ds (putOuts m'.env rs outs) else .bad
          | .bad => .bad) else .bad
      | none => .bad) fun r env' => ∀ v m', m'.env = env' → m'.σ = σ → Sta C m' → Step (T ++ Sl) m m' → RtOk C m' (Old m) r v → Q v m'.H) : spG C.K C.cl n fn vs m'.H Q (WE E σ) := by
  cases ho : argsO m'.env rs with
  | none => rw [ho] at w; exact w.elim
  | some os =>
    rw [ho] at w
    dsimp only at w
    by_cases hc : rs.length = n ∧ (slots rs).Nodup ∧ (∀ x ∈ slots rs, x ∈ Sl)
    · rw [if_pos hc] at w
      obtain ⟨c1, c2, c3⟩ := hc
      obtain ⟨fp, r1, r2, r3, r4⟩ := args_ok S' ok ho
      refine ⟨m'.F, os, fp, (argsO_len ho).trans c1, S'.ex, r1, r3 c2, fun a ha => ?_, ?_⟩
      · obtain ⟨x, f, _, a2, a3⟩ := r2 a ha
        exact S'.df a (mem_fps a2 a3)
      · cases hf : fn os with
        | bad => rw [hf] at w; exact w.elim
        | ok r outs =>
          rw [hf] at w
          dsimp only at w ⊢
          by_cases hl : outs.length = n
          · rw [if_pos hl] at w
            intro v F' H' fr fp' G rr Go
            obtain ⟨m2, S2, s2, q1, q2, q3, q4, q5⟩ := call_ok (os := os) s S' ok r2 r4 c2 c3 G Go (by rw [c1, hl])
            have q := w v m2 q4 (q3.trans e4) S2 s2
            subst q1 q2
            refine q ?_
            have own : RtOk C m2 (Old m) (.own r) v := by
              have nd := Go.nd
              rw [List.nodup_append] at nd
              refine ⟨fr, rr, nd.1, fun a ha => ⟨Go.fF a (by simp [ha]), (q5 a ha).1, (q5 a ha).2.2, fun z => ?_⟩⟩
              rcases (q5 a ha).2.1 with y | y
              · exact z.1 y
              · exact z.2 y
            cases r with
            | s d => exact rr.2
            | lst _ => exact own
            | dk _ _ => exact own
            | dt _ _ => exact own
            | ins _ _ _ => exact own
          · rw [if_neg hl] at w; exact w.elim
        | exc c ds outs =>
          rw [hf] at w
          dsimp only at w ⊢
          by_cases hl : outs.length = n
          · rw [if_pos hl] at w
            intro F' H' dd fp' G Go h1 h2
            obtain ⟨m2, S2, s2, q1, q2, q3, q4, q5⟩ := call_ok (os := os) s S' ok r2 r4 c2 c3 G Go (by rw [c1, hl])
            subst q1 q2
            have q := w m2 q4 S2 _ s2 dd h1 h2
            rw [q3, e4] at q
            exact q
          · rw [if_neg hl] at w; exact w.elim
    · rw [if_neg hc] at w; exact w.elim
theorem rdCall {σ : L2.St} {H : Hp} {Q : VK} (h : rdE C E (T ++ Sl) (mCall Sl n fn fs) σ H Q) : rdA C E T fs σ H fun vs H1 => spG C.K C.cl n fn vs H1 Q (WE E σ) := by
  obtain ⟨m, e1, e2, S, w⟩ := h
  refine ⟨m, e1, e2, S, Want.imp w.bind fun rs env w => fun vs m' e3 e4 S' s ok => ?_⟩
  subst e3
  exact call_core s S' ok e4 w
theorem passN {X : Cx} {E : WX} : ∀ σ, PassesAt CX0 X σ (WE E σ) := fun _ _ _ _ _ _ _ h => h.elim
theorem e_call {CX : CXT} {k : Nat} {fa : Addr} {fd : FuncData} {ps : List Str} {x : Str} {p : Pos} (Sl : List Nat) (hK : X.K = C.K) (F : FnOk X.prog X.w X.K X.mg X.base CX k fa fd ps (spG C.K C.cl n fn)) (hr : Room k X.A) (hg : Gl X x) (hm : X.mg x = some (.ref fa)) (hk : PySem.W.keepIn X.K (.ref fa) = true)
    (hb : Binds X.K fd ps []) (hx : ∀ σ, PassesAt CX X σ (WE E σ)) (ha : PA X (e :: es) (rdA C E T fs)) (hst : starEach (e :: es) X.env = (false, eval e X.env) :: starEach es X.env := by rfl) (hpl : ((backTo pos (starEach es X.env)).any fun x => x.1) = false := by rfl)
    (hdb : (x == ("__debug__" : Str)) = false := by decide) (hsw : True := trivial) : PE X (.Call (.Name x p) (e :: es) [] pos) (rdE C E (T ++ Sl) (mCall Sl n fn fs)) :=
  PE.wk (pe_callS F hr hg hm hk hb hx ha hdb hst hpl) fun σ H Q h => rdCall h
end
end L3
namespace L3
open PySem L2

structure Src where
  items : List D
  dep : Option Nat
abbrev MI := Env → Rs Src
def JOk (C : Cn) (src : Src) (m : Mo) (J : It) : Prop := ∀ (m2 : Mo) (T : List Nat), Sta C m2 → Step T m m2 → m2.σ.length = m2.σ.length → (∀ x, src.dep = some x → x ∉ T) → ∀ i : Nat,
  (∀ d, src.items[i]? = some d → J.go i m2.H ∧ ∀ x H', J.yld i m2.H x H' → ∃ m3, m3.H = H' ∧ Gro m2 m3 ∧ RpD C.K C.cl m3.F d x) ∧ (src.items.length = i → J.stop i m2.H)
def rdI (C : Cn) (E : WX) (T : List Nat) (f : MI) : TI := fun σ H R => ∃ m : Mo, m.H = H ∧ m.σ = σ ∧ Sta C m ∧
  Want C E m (f m.env) fun src env' => ∀ J m', m'.env = env' → m'.σ = σ → Sta C m' → Step T m m' → JOk C src m' J → R J m'.H
theorem PI.wk {X : Cx} {tg e : Expr} {t t' : TI} (h : PI X tg e t) (w : ∀ σ H R, t' σ H R → t σ H R) : PI X tg e t' := ⟨fun pins s σ H R I q => h.run pins s σ H R I (w σ H R q)⟩

section
variable {X : Cx} {C : Cn} {E : WX} {e a b tg : Expr} {pos : Pos} {T T1 T2 T3 : List Nat} {fs : MA} {es : List Expr} {f f1 f2 : ME} {g : MS} {t : MT}
def srcOf (tup : Bool) : Rt → Option Src
  | .val (.tup ds) => if tup = true then some ⟨ds, none⟩ else none
  | .val (.lst ds) => if tup = true then none else some ⟨ds, none⟩
  | .bor x _ (.lst os) => if tup = true then none else (leaves os).map fun ds => ⟨ds, some x⟩
  | _ => none
def iSeq (tup : Bool) (f : ME) : MI := fun env => (f env).bind fun r e => ofO (srcOf tup r) e
theorem get_none {α : Type} {xs : List α} {i : Nat} (h : xs.length ≤ i) : xs[i]? = none := List.getElem?_eq_none h
theorem seq_items {m : Mo} {r : Rt} {src : Src} {tup : Bool} {v : V} {av : Addr → Prop} (S : Sta C m) (ok : RtOk C m av r v) (h : srcOf tup r = some src) :
    ∃ a, v = .ref a ∧ ∃ xs, (∀ (m2 : Mo) (T : List Nat), Sta C m2 → Step T m m2 → (∀ x, src.dep = some x → x ∉ T) → (if tup = true then SqT C.K m2.H a xs else SqL C.K m2.H a xs) ∧ RpDs C.K C.cl m2.F src.items xs) := by
  unfold srcOf at h
  split at h
  · split at h
    · cases h
      rename_i ht
      obtain ⟨a, xs, rfl, q, rr⟩ := ok
      exact ⟨a, rfl, xs, fun m2 T S2 s2 _ => ⟨by rw [if_pos ht]; exact S2.ex.sqT (s2.exF.sqT q.1), rr.mono s2.exF _ _⟩⟩
    · cases h
  · split at h
    · cases h
    · cases h
      rename_i ht
      obtain ⟨a, xs, rfl, q, rr⟩ := ok
      exact ⟨a, rfl, xs, fun m2 T S2 s2 _ => ⟨by rw [if_neg ht]; exact S2.ex.sqL (s2.exF.sqL q), rr.mono s2.exF _ _⟩⟩
  · rename_i x p os
    split at h
    · cases h
    · rename_i ht
      cases q : leaves os with
      | none => rw [q] at h; cases h
      | some ds =>
        rw [q] at h
        cases h
        obtain rfl := leaves_some q
        obtain ⟨d0, v0, e1, e2, e3⟩ := ok
        obtain ⟨v1, f0, s1, s2, s3⟩ := S.slot e1
        rw [e2] at s1; cases s1
        obtain ⟨g, rr, gs⟩ := At.rp s3 e3
        obtain ⟨a, xs, fl, rfl, rfl, q1, q2⟩ := rr
        refine ⟨a, rfl, xs, fun m2 T S2 st hd => ?_⟩
        have hx := hd x rfl
        obtain ⟨_, _, _, u4⟩ := st.unt x hx
        refine ⟨?_, (RpOs.leaves q2).2.mono st.exF _ _⟩
        rw [if_neg ht]
        exact .inl (.inl ((u4 f0 s2 a (gs a (by simp))).trans q1))
  · cases h
theorem j_list {m : Mo} {a : Addr} {src : Src} (h : ∃ xs, ∀ (m2 : Mo) (T : List Nat), Sta C m2 → Step T m m2 → (∀ x, src.dep = some x → x ∉ T) → SqL C.K m2.H a xs ∧ RpDs C.K C.cl m2.F src.items xs) (hi : ∀ H ys zs, SqL C.K H a ys → SqL C.K H a zs → True) : JOk C src m (Itl C.K a) := by
  obtain ⟨xs, h⟩ := h
  intro m2 T S2 s2 _ hd i
  obtain ⟨q, r⟩ := h m2 T S2 s2 hd
  refine ⟨fun d hd => ?_, fun hl => ⟨xs, q, by rw [r.length]; exact Nat.le_of_eq hl⟩⟩
  obtain ⟨v, e, rv⟩ := r.get hd
  refine ⟨⟨xs, v, q, e⟩, fun x H' ⟨e1, e2⟩ => ⟨m2, e1.symm, Gro.refl S2, ?_⟩⟩
  have := e2 xs q
  rw [e] at this; cases this
  exact rv
theorem j_tup {m : Mo} {a : Addr} {src : Src} (h : ∃ xs, ∀ (m2 : Mo) (T : List Nat), Sta C m2 → Step T m m2 → (∀ x, src.dep = some x → x ∉ T) → SqT C.K m2.H a xs ∧ RpDs C.K C.cl m2.F src.items xs) : JOk C src m (Itt C.K a) := by
  obtain ⟨xs, h⟩ := h
  intro m2 T S2 s2 _ hd i
  obtain ⟨q, r⟩ := h m2 T S2 s2 hd
  refine ⟨fun d hd => ?_, fun hl => ⟨xs, q, by rw [r.length]; exact Nat.le_of_eq hl⟩⟩
  obtain ⟨v, e, rv⟩ := r.get hd
  refine ⟨⟨xs, v, q, e⟩, fun x H' ⟨e1, e2⟩ => ⟨m2, e1.symm, Gro.refl S2, ?_⟩⟩
  have := e2 xs q
  rw [e] at this; cases this
  exact rv
theorem i_list (hK : X.K = C.K) (h : PE X e (rdE C E T f)) : PI X tg e (rdI C E T (iSeq false f)) := PI.wk (pi_list h) fun σ H R ⟨m, e1, e2, S, w⟩ => ⟨m, e1, e2, S, Want.imp w.bind fun r env w => fun v m' e3 e4 S' s ok => by
  cases hs : srcOf false r with
  | none => rw [hs] at w; exact w.elim
  | some src =>
    rw [hs] at w
    obtain ⟨a, rfl, xs, k⟩ := seq_items S' ok hs
    rw [hK]
    refine ⟨a, rfl, ⟨xs, ?_⟩, w _ m' e3 e4 S' s (j_list ⟨xs, fun m2 T S2 s2 hd => ?_⟩ fun _ _ _ _ _ => trivial)⟩
    · have := (k m' [] S' (Step.refl _ _) (fun _ _ => by simp)).1
      rw [if_neg (by decide)] at this; exact this
    · have := k m2 T S2 s2 hd
      rw [if_neg (by decide)] at this; exact this⟩
theorem i_tup (hK : X.K = C.K) (h : PE X e (rdE C E T f)) : PI X tg e (rdI C E T (iSeq true f)) := PI.wk (pi_tup h) fun σ H R ⟨m, e1, e2, S, w⟩ => ⟨m, e1, e2, S, Want.imp w.bind fun r env w => fun v m' e3 e4 S' s ok => by
  cases hs : srcOf true r with
  | none => rw [hs] at w; exact w.elim
  | some src =>
    rw [hs] at w
    obtain ⟨a, rfl, xs, k⟩ := seq_items S' ok hs
    rw [hK]
    refine ⟨a, rfl, ⟨xs, ?_⟩, w _ m' e3 e4 S' s (j_tup ⟨xs, fun m2 T S2 s2 hd => ?_⟩)⟩
    · have := (k m' [] S' (Step.refl _ _) (fun _ _ => by simp)).1
      rw [if_pos rfl] at this; exact this
    · have := k m2 T S2 s2 hd
      rw [if_pos rfl] at this; exact this⟩
def rngD (lo : Int) (n : Nat) : List D := (List.range n).map fun (i : Nat) => D.int (lo + (i : Int))
theorem j_rng {m : Mo} {lo : Int} {n : Nat} : JOk C ⟨rngD lo n, none⟩ m (Itr lo n) := by
  intro m2 T S2 s2 _ hd i
  refine ⟨fun d h => ?_, fun hl => ?_⟩
  · have hi : i < n := by
      have := (List.getElem?_eq_some_iff.mp h).1
      simpa [rngD] using this
    have e : d = .int (lo + i) := by
      have h : (rngD lo n)[i]? = some d := h
      rw [rngD, List.getElem?_map, List.getElem?_range hi] at h
      exact (Option.some.inj h).symm
    subst e
    exact ⟨hi, fun x H' ⟨e1, e2⟩ => ⟨m2, e1.symm, Gro.refl S2, e2⟩⟩
  · have h2 : (rngD lo n).length ≤ i := Nat.le_of_eq hl
    show n ≤ i
    simpa [rngD] using h2
def iRg1 (fs : MA) : MI := fun env => (fs env).bind fun rs e => match rs with
  | [.val (.int j)] => if -(2 ^ 62) ≤ j ∧ j < 2 ^ 62 then .ok ⟨rngD 0 j.toNat, none⟩ e else .bad
  | _ => .bad
def iRg2 (fs : MA) : MI := fun env => (fs env).bind fun rs e => match rs with
  | [.val (.int i), .val (.int j)] => if -(2 ^ 62) ≤ i ∧ i < 2 ^ 62 ∧ -(2 ^ 62) ≤ j ∧ j < 2 ^ 62 then .ok ⟨rngD i (j - i).toNat, none⟩ e else .bad
  | _ => .bad
theorem i_rg1 (h : PI X tg e (iRng1 (rdA C E T fs))) : PI X tg e (rdI C E T (iRg1 fs)) :=
  PI.wk h fun σ H R ⟨m, e1, e2, S, w⟩ => ⟨m, e1, e2, S, Want.imp w.bind fun rs env w => fun vs m' e3 e4 S' s ok => by
    split at w
    · rename_i j
      obtain ⟨x, av, rfl, hx⟩ := ok.one
      split at w
      · rename_i z
        have hx : x = .int j := hx
        subst hx
        exact ⟨j, rfl, z.1, z.2, w _ m' e3 e4 S' s j_rng⟩
      · exact w.elim
    · exact w.elim⟩
theorem i_rg2 (h : PI X tg e (iRng2 (rdA C E T fs))) : PI X tg e (rdI C E T (iRg2 fs)) :=
  PI.wk h fun σ H R ⟨m, e1, e2, S, w⟩ => ⟨m, e1, e2, S, Want.imp w.bind fun rs env w => fun vs m' e3 e4 S' s ok => by
    split at w
    · rename_i i j
      obtain ⟨x, y, av, av', rfl, hx, hy⟩ := ok.two
      split at w
      · rename_i z
        have hx : x = .int i := hx
        have hy : y = .int j := hy
        subst hx hy
        exact ⟨i, j, rfl, z, w _ m' e3 e4 S' s j_rng⟩
      · exact w.elim
    · exact w.elim⟩
def setT (is : List Nat) (d : D) (env : Env) : Option Env := match is with
  | [i] => some (env.set i (some (.s d)))
  | _ => none
def setTs : List Nat → List D → Env → Option Env
  | [], [], env => some env
  | i :: is, d :: ds, env => setTs is ds (env.set i (some (.s d)))
  | _, _, _ => none
def setTup (is : List Nat) (d : D) (env : Env) : Option Env := match d with
  | .tup ds => setTs is ds env
  | _ => none
def TgOk (C : Cn) (g : TG) (Tt : List Nat) (set : D → Env → Option Env) : Prop := ∀ (m : Mo) (d : D) (x : V) (env' : Env) (Q : L2.St → Hp → Prop), Sta C m → RpD C.K C.cl m.F d x → set d m.env = some env' →
  (∀ m', m'.env = env' → m'.H = m.H → Sta C m' → (∀ (T : List Nat) (m0 : Mo), Step T m0 m → Step (T ++ Tt) m0 m') → Q m'.σ m'.H) → g x m.σ m.H Q
theorem put_val {m : Mo} {i : Nat} {d : D} {v : V} (S : Sta C m) (ok : RpD C.K C.cl m.F d v) (hi : i < C.n) (hIO : i ∉ C.IO) :
    Sta C (m.put m.F m.H i (.s d) v []) ∧ ∀ (T : List Nat) (m0 : Mo), Step T m0 m → Step (T ++ [i]) m0 (m.put m.F m.H i (.s d) v []) := by
  have hi' : i < m.fps.length := by rw [S.l2, S.ln]; exact hi
  have hf := List.getElem?_eq_getElem hi'
  have p := fun (T : List Nat) (m0 : Mo) (s : Step T m0 m) => put (o' := .s d) (v' := v) (fp' := []) s S hf (Ex.refl _) S.ex (fun _ _ h _ => h) (fun _ h => h) (fun a h n => absurd n h) ⟨rfl, ok⟩ List.nodup_nil (fun a h => by simp at h) (fun a h => by simp at h) fun z => absurd z hIO
  exact ⟨(p [] m (Step.refl _ _)).1, fun T m0 s => (p T m0 s).2⟩
theorem tg_name {i : Nat} (hi : i < C.n) (hIO : i ∉ C.IO) : TgOk C (gName i) [i] (setT [i]) := by
  intro m d x env' Q S ok h k
  have h : some (m.env.set i (some (.s d))) = some env' := h
  cases h
  obtain ⟨S2, s2⟩ := put_val (i := i) S ok hi hIO
  exact k (m.put m.F m.H i (.s d) x []) rfl rfl S2 s2
theorem tg_names : ∀ {is : List Nat} {gs : TGs}, gs = is.foldr (fun i gs => gCons (gName i) gs) gNil → (∀ i ∈ is, i < C.n ∧ i ∉ C.IO) → ∀ (m : Mo) (ds : List D) (xs : List V) (env' : Env) (Q : L2.St → Hp → Prop), Sta C m → RpDs C.K C.cl m.F ds xs → setTs is ds m.env = some env' →
    (∀ m', m'.env = env' → m'.H = m.H → Sta C m' → (∀ (T : List Nat) (m0 : Mo), Step T m0 m → Step (T ++ is) m0 m') → Q m'.σ m'.H) → gs xs m.σ m.H Q
  | [], gs, hg, hi, m, ds, xs, env', Q, S, r, h, k => by
    subst hg
    cases ds with
    | nil =>
      have h : some m.env = some env' := h
      cases h
      exact ⟨r, k m rfl rfl S fun T m0 s => by rw [List.append_nil]; exact s⟩
    | cons d ds => cases h
  | i :: is, gs, hg, hi, m, ds, xs, env', Q, S, r, h, k => by
    subst hg
    cases ds with
    | nil => cases h
    | cons d ds =>
      obtain ⟨v, vr, rfl, r1, r2⟩ := r
      have h : setTs is ds (m.env.set i (some (.s d))) = some env' := h
      obtain ⟨S2, s2⟩ := put_val (i := i) S r1 (hi i (by simp)).1 (hi i (by simp)).2
      refine ⟨v, vr, rfl, tg_names (is := is) rfl (fun j hj => hi j (by simp [hj])) _ ds vr env' Q S2 r2 h fun m' a1 a2 a3 a4 => k m' a1 a2 a3 fun T m0 s => ?_⟩
      have := a4 _ m0 (s2 T m0 s)
      simpa using this
theorem tg_tup {is : List Nat} {n : Nat} (hn : n = is.length) (hi : ∀ i ∈ is, i < C.n ∧ i ∉ C.IO) : TgOk C (L2.gTup C.K n (is.foldr (fun i gs => gCons (gName i) gs) gNil)) is (setTup is) := by
  intro m d x env' Q S ok h k
  unfold setTup at h
  split at h
  · rename_i ds
    obtain ⟨a, xs, rfl, q, r⟩ := ok
    have len : ∀ (is : List Nat) (ds : List D) (e : Env), setTs is ds e = some env' → ds.length = is.length := by
      intro is
      induction is with
      | nil => intro ds e h; cases ds with
        | nil => rfl
        | cons d ds => cases h
      | cons i is ih => intro ds e h; cases ds with
        | nil => cases h
        | cons d ds => simp [ih ds _ h]
    exact ⟨a, xs, rfl, S.ex.sqT q.1, by rw [r.length, len is ds _ h, hn], tg_names rfl hi m ds xs env' Q S r h k⟩
  · cases h
def msAsgT (set : D → Env → Option Env) (f : ME) : MS := fun env => (f env).bind fun r e => match r with
  | .val d => ofO ((set d e).map fun _ => Fl.nx) ((set d e).getD e)
  | _ => .bad
theorem s_asgT {set : D → Env → Option Env} {tg' : Expr} {gt : TG} {Tt : List Nat} (hg : TgOk C gt Tt set) (h : PS X (.Assign [tg'] e pos) (tAsg (rdE C E T f) gt)) : PS X (.Assign [tg'] e pos) (rdS C E (T ++ Tt) (msAsgT set f)) :=
  PS.wk h fun D σ H ⟨m, e1, e2, S, w⟩ => ⟨m, e1, e2, S, Want.imp w.bind fun r env w => fun v m' e3 e4 S' s ok => by
    cases r with
    | val d =>
      dsimp only at w
      cases hs : set d env with
      | none => rw [hs] at w; exact w.elim
      | some env' =>
        rw [hs] at w
        rw [← e4]
        exact hg m' d v env' D.nx S' ok (by rw [e3]; exact hs) fun m2 a1 a2 a3 a4 => w m2 a1 a3 (a4 _ _ s)
    | own o => exact w.elim
    | sl x => exact w.elim
    | bor x p o => exact w.elim⟩
def forL (set : D → Env → Option Env) (g : MS) : List D → Env → Rs Fl
  | [], e => .ok .nx e
  | d :: ds, e => match set d e with
    | none => .bad
    | some e1 => (g e1).bind fun fl e2 => match fl with
      | .brk => .ok .nx e2
      | .ret r => .ok (.ret r) e2
      | _ => forL set g ds e2
def Src.hot (s : Src) (T : List Nat) : Bool := match s.dep with
  | some x => T.contains x
  | none => false
def msFor (Tb : List Nat) (set : D → Env → Option Env) (fi : MI) (g : MS) : MS := fun env => (fi env).bind fun src e => if src.hot Tb then .bad else forL set g src.items e
theorem for_rd {set : D → Env → Option Env} {gt : TG} {Tt : List Nat} {fi : MI} {D : Ends} {σ : L2.St} {H : Hp} (hg : TgOk C gt Tt set) (h : rdS C E (T1 ++ (Tt ++ T2)) (msFor (Tt ++ T2) set fi g) D σ H) :
    tFor (rdI C E T1 fi) gt (rdS C E T2 g) D σ H := by
  obtain ⟨m, e1, e2, S, w⟩ := h
  refine ⟨m, e1, e2, S, Want.imp w.bind fun src env w => fun J m' e3 e4 S' s jok => ?_⟩
  by_cases hh : src.hot (Tt ++ T2) = true
  · rw [if_pos hh] at w; exact w.elim
  rw [if_neg hh] at w
  have hdep : ∀ x, src.dep = some x → x ∉ Tt ++ T2 := fun x hx => by
    intro z
    apply hh
    unfold Src.hot
    rw [hx]
    simpa using z
  subst e3
  refine ⟨fun i n σ' H' => n = src.items.length - i ∧ i ≤ src.items.length ∧ ∃ m2 : Mo, m2.H = H' ∧ m2.σ = σ' ∧ Sta C m2 ∧ Step (Tt ++ T2) m' m2 ∧
    Want C E m2 (forL set g (src.items.drop i) m2.env) fun fl env' => ∀ m3, m3.env = env' → Sta C m3 → Step (Tt ++ T2) m' m3 → FlOk C m3 D fl, ⟨_, rfl, Nat.zero_le _, m', rfl, e4, S', Step.refl _ _, ?_⟩, ?_⟩
  · rw [List.drop_zero]
    exact Want.mono w s fun fl env' w m3 a1 a2 a3 => w m3 a1 a2 (s.trans a3)
  · rintro i n σ' H' ⟨rfl, hi, m2, rfl, rfl, S2, s2, w2⟩
    obtain ⟨j1, j2⟩ := jok m2 (Tt ++ T2) S2 s2 rfl hdep i
    by_cases hlt : i < src.items.length
    · obtain ⟨go, yl⟩ := j1 src.items[i] (List.getElem?_eq_getElem hlt)
      rw [List.drop_eq_getElem_cons hlt] at w2
      unfold forL at w2
      refine .inr ⟨go, fun σ' H' => ∃ m3 : Mo, m3.H = H' ∧ m3.σ = σ' ∧ Sta C m3 ∧ Step (Tt ++ T2) m' m3 ∧
        Want C E m3 (forL set g (src.items.drop (i + 1)) m3.env) fun fl env' => ∀ m4, m4.env = env' → Sta C m4 → Step (Tt ++ T2) m' m4 → FlOk C m4 D fl, fun σ' H' q => ⟨_, by omega, rfl, hlt, q⟩, fun x H' y => ?_⟩
      obtain ⟨m3, rfl, G, rx⟩ := yl x H' y
      have s3 : Step (Tt ++ T2) m' m3 := step_nil S2 s2 G
      have S3 := S2.gro G
      cases hs : set src.items[i] m2.env with
      | none => rw [hs] at w2; exact w2.elim
      | some e1' =>
        rw [hs] at w2
        have w2 := Want.bind w2
        rw [← G.σ]
        refine hg m3 _ x e1' _ S3 rx (by rw [G.env]; exact hs) fun m4 a1 a2 a3 a4 => ?_
        have s4 : Step (Tt ++ T2) m' m4 := (a4 _ _ s3).wk (by simp +contextual [or_imp])
        have s24 : Step Tt m2 m4 := by have := a4 _ _ (G.step S2); simpa using this
        refine ⟨m4, rfl, rfl, a3, ?_⟩
        rw [a1]
        refine Want.mono w2 s24 fun fl env' w m5 b1 b2 b3 => ?_
        have s5 : Step (Tt ++ T2) m' m5 := (s4.trans b3).wk (by simp +contextual [or_imp])
        subst b1
        have s25 := s24.trans b3
        cases fl with
        | nx => exact ⟨m5, rfl, rfl, b2, s5, Want.mono w s25 fun _ _ w => w⟩
        | cont => exact ⟨m5, rfl, rfl, b2, s5, Want.mono w s25 fun _ _ w => w⟩
        | brk => exact w m5 rfl b2 s5
        | ret r => exact w m5 rfl b2 s5
    · have e : i = src.items.length := by omega
      subst e
      rw [List.drop_length] at w2
      exact .inl ⟨j2 rfl, w2 m2 rfl S2 s2⟩
theorem s_for {set : D → Env → Option Env} {gt : TG} {Tt : List Nat} {fi : MI} {body : List Stmt} (hp : PassesOwn (model X.prog X.w) X.A X.env X.xe) (hc : X.calm = true) (hg : TgOk C gt Tt set) (hi : PI X tg e (rdI C E T1 fi)) (ht : PG X tg gt) (hb : PSs X body (rdS C E T2 g))
    (hs : ∀ x, foldedSetIterable e X.env x = pure x := by intro _; rfl) : PS X (.For tg e body [] pos) (rdS C E (T1 ++ (Tt ++ T2)) (msFor (Tt ++ T2) set fi g)) :=
  PS.wk (ps_for hp hc hi ht hb hs) fun D σ H h => for_rd hg h
def whileN (t : MT) (g : MS) : Nat → Env → Rs Fl
  | 0, _ => .bad
  | n + 1, e => (t e).bind fun b e1 => if b = true then (g e1).bind fun fl e2 => match fl with
      | .brk => .ok .nx e2
      | .ret r => .ok (.ret r) e2
      | _ => whileN t g n e2 else .ok .nx e1
open Classical in
noncomputable def msWhile (t : MT) (g : MS) : MS := fun env => if h : ∃ n r, whileN t g n env = r ∧ r ≠ .bad then whileN t g (Classical.choose h) env else .bad
theorem while_rd {D : Ends} {σ : L2.St} {H : Hp} (h : rdS C E (T1 ++ T2) (msWhile t g) D σ H) : tWhile (rdT C E T1 t) (rdS C E T2 g) D σ H := by
  obtain ⟨m, e1, e2, S, w⟩ := h
  unfold msWhile at w
  by_cases hh : ∃ n r, whileN t g n m.env = r ∧ r ≠ .bad
  · rw [dif_pos hh] at w
    generalize Classical.choose hh = n0 at w
    refine ⟨fun n σ' H' => ∃ m2 : Mo, m2.H = H' ∧ m2.σ = σ' ∧ Sta C m2 ∧ Step (T1 ++ T2) m m2 ∧
      Want C E m2 (whileN t g n m2.env) fun fl env' => ∀ m3, m3.env = env' → Sta C m3 → Step (T1 ++ T2) m m3 → FlOk C m3 D fl, ⟨n0, m, e1, e2, S, Step.refl _ _, w⟩, ?_⟩
    rintro n σ' H' ⟨m2, rfl, rfl, S2, s2, w2⟩
    cases n with
    | zero => exact w2.elim
    | succ n =>
      unfold whileN at w2
      refine ⟨m2, rfl, rfl, S2, Want.imp w2.bind fun b env w m3 a1 a2 a3 a4 => ?_⟩
      have s3 : Step (T1 ++ T2) m m3 := (s2.trans a4).wk (by simp +contextual [or_imp])
      subst a1
      cases b with
      | true =>
        dsimp only
        rw [if_pos rfl] at w ⊢
        refine ⟨fun σ' H' => ∃ m2 : Mo, m2.H = H' ∧ m2.σ = σ' ∧ Sta C m2 ∧ Step (T1 ++ T2) m m2 ∧
          Want C E m2 (whileN t g n m2.env) fun fl env' => ∀ m3, m3.env = env' → Sta C m3 → Step (T1 ++ T2) m m3 → FlOk C m3 D fl, fun σ' H' q => ⟨n, by omega, q⟩, m3, rfl, a2, a3, ?_⟩
        refine Want.mono w.bind a4 fun fl env' w m4 b1 b2 b3 => ?_
        subst b1
        have s4 : Step (T1 ++ T2) m m4 := (s3.trans b3).wk (by simp +contextual [or_imp])
        have s24 := a4.trans b3
        cases fl with
        | nx => exact ⟨m4, rfl, rfl, b2, s4, Want.mono w s24 fun _ _ w => w⟩
        | cont => exact ⟨m4, rfl, rfl, b2, s4, Want.mono w s24 fun _ _ w => w⟩
        | brk => exact w m4 rfl b2 s4
        | ret r => exact w m4 rfl b2 s4
      | false =>
        dsimp only
        rw [if_neg Bool.false_ne_true] at w ⊢
        have := w m3 rfl a3 s3
        rw [← a2]; exact this
  · rw [dif_neg hh] at w; exact w.elim
theorem s_while {c : Expr} {body : List Stmt} (hp : PassesOwn (model X.prog X.w) X.A X.env X.xe) (hc : PT X c (rdT C E T1 t)) (hb : PSs X body (rdS C E T2 g)) : PS X (.While c body [] pos) (rdS C E (T1 ++ T2) (msWhile t g)) :=
  PS.wk (ps_while hp hc hb) fun D σ H h => while_rd h
theorem whileN_more {n : Nat} : ∀ {e : Env}, whileN t g n e ≠ .bad → whileN t g (n + 1) e = whileN t g n e := by
  induction n with
  | zero => intro e h; exact absurd rfl h
  | succ n ih =>
    intro e h
    unfold whileN at h
    show (t e).bind _ = _
    conv => rhs; unfold whileN
    cases q : t e with
    | bad => rfl
    | exc c ds e => rfl
    | ok b e1 =>
      rw [q] at h
      have h : (if b = true then (g e1).bind fun fl e2 => match fl with | .brk => .ok .nx e2 | .ret r => .ok (.ret r) e2 | _ => whileN t g n e2 else Rs.ok Fl.nx e1) ≠ .bad := h
      show (if b = true then (g e1).bind fun fl e2 => match fl with | .brk => .ok .nx e2 | .ret r => .ok (.ret r) e2 | _ => whileN t g (n + 1) e2 else Rs.ok Fl.nx e1) = if b = true then (g e1).bind fun fl e2 => match fl with | .brk => .ok .nx e2 | .ret r => .ok (.ret r) e2 | _ => whileN t g n e2 else Rs.ok Fl.nx e1
      cases b with
      | false => rfl
      | true =>
        rw [if_pos rfl] at h ⊢
        rw [if_pos rfl]
        cases q2 : g e1 with
        | bad => rfl
        | exc c ds e => rfl
        | ok fl e2 =>
          rw [q2] at h
          cases fl with
          | nx => exact ih h
          | cont => exact ih h
          | brk => rfl
          | ret r => rfl
theorem whileN_le {n k : Nat} {e : Env} (h : whileN t g n e ≠ .bad) : whileN t g (n + k) e = whileN t g n e := by
  induction k with
  | zero => rfl
  | succ k ih => rw [← Nat.add_assoc, whileN_more (by rw [ih]; exact h), ih]
theorem msWhile_is {n : Nat} {e : Env} {r : Rs Fl} (h : whileN t g n e = r) (hr : r ≠ .bad) : msWhile t g e = r := by
  unfold msWhile
  have hh : ∃ n r, whileN t g n e = r ∧ r ≠ .bad := ⟨n, r, h, hr⟩
  rw [dif_pos hh]
  obtain ⟨r', q1, q2⟩ := Classical.choose_spec hh
  have a := whileN_le (k := n) (show whileN t g (Classical.choose hh) e ≠ .bad by rw [q1]; exact q2)
  have b := whileN_le (k := Classical.choose hh) (show whileN t g n e ≠ .bad by rw [h]; exact hr)
  rw [Nat.add_comm] at a
  rw [← a, b, h]
end
end L3
namespace L3
open PySem L2

def setLk {α : Type} : List Str → List α → Str → α → List α
  | n :: ns, d :: ds, f, y => if n = f then y :: ds else d :: setLk ns ds f y
  | _, ds, _, _ => ds
def setLkK {α κ : Type} [DecidableEq κ] : List κ → List α → κ → α → List α
  | n :: ns, d :: ds, f, y => if n = f then y :: ds else d :: setLkK ns ds f y
  | _, ds, _, _ => ds
def setAt : List Stp → O → O → Option O
  | [], _, y => some y
  | .idx n :: p, .lst os, y => (os[n]?).bind fun o => (setAt p o y).map fun o' => .lst (os.set n o')
  | .attr f :: p, .ins c ns os, y => (lk ns os f).bind fun o => (setAt p o y).map fun o' => .ins c ns (setLk ns os f o')
  | .key k :: p, .dk ks os, y => (lkK ks os k).bind fun o => (setAt p o y).map fun o' => .dk ks (setLkK ks os k o')
  | _, _, _ => none
section
variable {K : PySem.W.Frag} {cl : Nat → Addr} {F F' H H' : Hp}
theorem RpOs.setI (eF : Ex F F') : ∀ {os : List O} {vs : List V} {fp : Fp} {n : Nat} {o : O} {v : V}, RpOs K cl F H os vs fp → os[n]? = some o → vs[n]? = some v → ∃ l g r, fp = l ++ g ++ r ∧ RpO K cl F H o v g ∧
    ∀ o' g', (∀ a ∈ l ++ r, H' a = H a) → RpO K cl F' H' o' v g' → RpOs K cl F' H' (os.set n o') vs (l ++ g' ++ r)
  | [], vs, fp, n, o, v, _, h, _ => by simp at h
  | o0 :: os, vs, fp, 0, o, v, r, h, h2 => by
    obtain ⟨v', vr, f, g, rfl, rfl, r1, r2⟩ := r
    simp at h h2
    subst h h2
    exact ⟨[], f, g, by simp, r1, fun o' g' k r' => ⟨v', vr, g', g, rfl, by simp, r', r2.mono eF _ _ _ (fun a ha => k a (by simp [ha]))⟩⟩
  | o0 :: os, vs, fp, n + 1, o, v, r, h, h2 => by
    obtain ⟨v', vr, f, g, rfl, rfl, r1, r2⟩ := r
    obtain ⟨l, g0, rr, e, r3, k⟩ := RpOs.setI eF r2 (by simpa using h) (by simpa using h2)
    subst e
    refine ⟨f ++ l, g0, rr, by simp, r3, fun o' g' q r' => ⟨v', vr, f, l ++ g' ++ rr, rfl, by simp, r1.mono eF _ _ _ (fun a ha => q a (by simp [ha])), k o' g' (fun a ha => q a (by
      rcases List.mem_append.mp ha with z | z
      · simp [z]
      · simp [z])) r'⟩⟩
theorem RpOs.setL (eF : Ex F F') : ∀ {ns : List Str} {os : List O} {vs : List V} {fp : Fp} {f : Str} {o : O} {v : V}, RpOs K cl F H os vs fp → lk ns os f = some o → lk ns vs f = some v → ∃ l g r, fp = l ++ g ++ r ∧ RpO K cl F H o v g ∧
    ∀ o' g', (∀ a ∈ l ++ r, H' a = H a) → RpO K cl F' H' o' v g' → RpOs K cl F' H' (setLk ns os f o') vs (l ++ g' ++ r)
  | [], os, vs, fp, f, o, v, _, h, _ => by simp [lk] at h
  | n :: ns, [], vs, fp, f, o, v, _, h, _ => by simp [lk] at h
  | n :: ns, o0 :: os, vs, fp, f, o, v, r, h, h2 => by
    obtain ⟨v', vr, f1, g, rfl, rfl, r1, r2⟩ := r
    unfold lk at h h2
    unfold setLk
    by_cases e : n = f
    · rw [if_pos e] at h h2
      cases h; cases h2
      simp only [if_pos e]
      exact ⟨[], f1, g, by simp, r1, fun o' g' k r' => ⟨_, vr, g', g, rfl, by simp, r', r2.mono eF _ _ _ (fun a ha => k a (by simp [ha]))⟩⟩
    · rw [if_neg e] at h h2
      simp only [if_neg e]
      obtain ⟨l, g0, rr, e, r3, k⟩ := RpOs.setL eF r2 h h2
      subst e
      refine ⟨f1 ++ l, g0, rr, by simp, r3, fun o' g' q r' => ⟨v', vr, f1, l ++ g' ++ rr, rfl, by simp, r1.mono eF _ _ _ (fun a ha => q a (by simp [ha])), k o' g' (fun a ha => q a (by
        rcases List.mem_append.mp ha with z | z
        · simp [z]
        · simp [z])) r'⟩⟩
theorem RpOs.setK {κ : Type} [DecidableEq κ] (eF : Ex F F') : ∀ {ns : List κ} {os : List O} {vs : List V} {fp : Fp} {f : κ} {o : O} {v : V}, RpOs K cl F H os vs fp → lkK ns os f = some o → lkK ns vs f = some v → ∃ l g r, fp = l ++ g ++ r ∧ RpO K cl F H o v g ∧
    ∀ o' g', (∀ a ∈ l ++ r, H' a = H a) → RpO K cl F' H' o' v g' → RpOs K cl F' H' (setLkK ns os f o') vs (l ++ g' ++ r)
  | [], os, vs, fp, f, o, v, _, h, _ => by simp [lkK] at h
  | n :: ns, [], vs, fp, f, o, v, _, h, _ => by simp [lkK] at h
  | n :: ns, o0 :: os, vs, fp, f, o, v, r, h, h2 => by
    obtain ⟨v', vr, f1, g, rfl, rfl, r1, r2⟩ := r
    unfold lkK at h h2
    unfold setLkK
    by_cases e : n = f
    · rw [if_pos e] at h h2
      cases h; cases h2
      simp only [if_pos e]
      exact ⟨[], f1, g, by simp, r1, fun o' g' k r' => ⟨_, vr, g', g, rfl, by simp, r', r2.mono eF _ _ _ (fun a ha => k a (by simp [ha]))⟩⟩
    · rw [if_neg e] at h h2
      simp only [if_neg e]
      obtain ⟨l, g0, rr, e, r3, k⟩ := RpOs.setK eF r2 h h2
      subst e
      refine ⟨f1 ++ l, g0, rr, by simp, r3, fun o' g' q r' => ⟨v', vr, f1, l ++ g' ++ rr, rfl, by simp, r1.mono eF _ _ _ (fun a ha => q a (by simp [ha])), k o' g' (fun a ha => q a (by
        rcases List.mem_append.mp ha with z | z
        · simp [z]
        · simp [z])) r'⟩⟩
theorem At.set (eF : Ex F F') : ∀ {p : List Stp} {d0 : O} {v0 : V} {f0 : Fp} {d : O} {v : V}, RpO K cl F H d0 v0 f0 → At cl H p d0 v0 d v → ∃ l g r, f0 = l ++ g ++ r ∧ RpO K cl F H d v g ∧
    ∀ d' g', (∀ a ∈ l ++ r, H' a = H a) → RpO K cl F' H' d' v g' → ∃ d0', setAt p d0 d' = some d0' ∧ RpO K cl F' H' d0' v0 (l ++ g' ++ r)
  | [], d0, v0, f0, d, v, r, h => by
    obtain ⟨rfl, rfl⟩ := h
    exact ⟨[], f0, [], by simp, r, fun d' g' _ r' => ⟨d', rfl, by simpa using r'⟩⟩
  | s :: p, d0, v0, f0, d, v, r, h => by
    obtain ⟨a, d1, v1, rfl, q, h⟩ := h
    cases q with
    | @idx n ds _ xs _ _ q e1 e2 =>
      obtain ⟨a', xs', f, e, rfl, q', rl⟩ := r
      cases e
      rw [q] at q'
      cases q'
      obtain ⟨l1, g1, r1, e3, r2, k1⟩ := RpOs.setI (H' := H') eF rl e1 e2
      subst e3
      obtain ⟨l2, g2, r3, e4, r4, k2⟩ := At.set eF r2 h
      subst e4
      refine ⟨a :: (l1 ++ l2), g2, r3 ++ r1, by simp, r4, fun d' g' k r' => ?_⟩
      obtain ⟨d0', s1, s2⟩ := k2 d' g' (fun b hb => k b (by rcases List.mem_append.mp hb with z | z <;> simp [z])) r'
      refine ⟨.lst (ds.set n d0'), by unfold setAt; rw [e1, Option.bind_some, s1]; rfl, a, xs, l1 ++ (l2 ++ g' ++ r3) ++ r1, rfl, by simp, (k a (by simp)).trans q, ?_⟩
      have := k1 d0' _ (fun b hb => k b (by rcases List.mem_append.mp hb with z | z <;> simp [z])) s2
      simpa using this
    | @attr fn c ns ds _ dx xs _ _ q e1 e2 l =>
      obtain ⟨a', dx', xs', f, e, rfl, q', l', rl⟩ := r
      cases e
      rw [q] at q'
      have q'' := Option.some.inj q'
      injection q'' with _ _ q''
      obtain rfl := zip_inj l l' q''
      obtain ⟨l1, g1, r1, e3, r2, k1⟩ := RpOs.setL (H' := H') eF rl e1 e2
      subst e3
      obtain ⟨l2, g2, r3, e4, r4, k2⟩ := At.set eF r2 h
      subst e4
      refine ⟨a :: (l1 ++ l2), g2, r3 ++ r1, by simp, r4, fun d' g' k r' => ?_⟩
      obtain ⟨d0', s1, s2⟩ := k2 d' g' (fun b hb => k b (by rcases List.mem_append.mp hb with z | z <;> simp [z])) r'
      refine ⟨.ins c ns (setLk ns ds fn d0'), by unfold setAt; rw [e1, Option.bind_some, s1]; rfl, a, dx, xs, l1 ++ (l2 ++ g' ++ r3) ++ r1, rfl, by simp, (k a (by simp)).trans q, l, ?_⟩
      have := k1 d0' _ (fun b hb => k b (by rcases List.mem_append.mp hb with z | z <;> simp [z])) s2
      simpa using this
    | @key fn ns ds _ xs _ _ q e1 e2 l =>
      obtain ⟨a', xs', f, e, rfl, q', l', rl⟩ := r
      cases e
      rw [q] at q'
      have q'' := Option.some.inj q'
      injection q'' with q''
      obtain rfl := zip_inj l l' q''
      obtain ⟨l1, g1, r1, e3, r2, k1⟩ := RpOs.setK (H' := H') eF rl e1 e2
      subst e3
      obtain ⟨l2, g2, r3, e4, r4, k2⟩ := At.set eF r2 h
      subst e4
      refine ⟨a :: (l1 ++ l2), g2, r3 ++ r1, by simp, r4, fun d' g' k r' => ?_⟩
      obtain ⟨d0', s1, s2⟩ := k2 d' g' (fun b hb => k b (by rcases List.mem_append.mp hb with z | z <;> simp [z])) r'
      refine ⟨.dk ns (setLkK ns ds fn d0'), by unfold setAt; rw [e1, Option.bind_some, s1]; rfl, a, xs, l1 ++ (l2 ++ g' ++ r3) ++ r1, rfl, by simp, (k a (by simp)).trans q, l, ?_⟩
      have := k1 d0' _ (fun b hb => k b (by rcases List.mem_append.mp hb with z | z <;> simp [z])) s2
      simpa using this
end
def poke (x : Nat) (p : List Stp) (o' : O) (env : Env) : Option Env := match env[x]? with
  | some (some o0) => (setAt p o0 o').map fun o0' => env.set x (some o0')
  | _ => none
theorem poke_ok {C : Cn} {T : List Nat} {m0 m : Mo} {x : Nat} {p : List Stp} {o o' : O} {a : Addr} {ho : HO} {av : Addr → Prop} (s : Step T m0 m) (S : Sta C m) (ok : RtOk C m av (.bor x p o) (.ref a))
    (h : ∀ f, RpO C.K C.cl m.F m.H o (.ref a) (a :: f) → a ∉ f → (a :: f).Nodup → (∀ b ∈ a :: f, b ∈ m.fps.flatten) → ∃ f', RpO C.K C.cl m.F (upd m.H a ho) o' (.ref a) (a :: f') ∧ (a :: f').Nodup ∧
      ∀ b ∈ f', b ∈ f ∨ (b ∉ m.fps.flatten ∧ m.F b = none ∧ (m0.H b = none ∨ b ∈ m0.fps.flatten) ∧ (C.H0 b = none ∨ b ∈ C.io)))
    (hn : ∃ f, RpO C.K C.cl m.F m.H o (.ref a) (a :: f)) :
    ∃ env', poke x p o' m.env = some env' ∧ ∃ m', m'.env = env' ∧ m'.F = m.F ∧ m'.H = upd m.H a ho ∧ m'.σ = m.σ ∧ Sta C m' ∧ Step (T ++ [x]) m0 m' ∧ ∀ b, b ∈ m'.fps.flatten → b ∈ m.fps.flatten ∨ (m.F b = none ∧ (m0.H b = none ∨ b ∈ m0.fps.flatten)) := by
  obtain ⟨o0, v0, e1, e2, e3⟩ := ok
  obtain ⟨v1, f0, s1, s2, s3⟩ := S.slot e1
  rw [e2] at s1; cases s1
  obtain ⟨l, g, r, ef, rg, k⟩ := At.set (H' := upd m.H a ho) (Ex.refl m.F) s3 e3
  obtain ⟨fq, hq⟩ := hn
  have uniq : ∃ f, g = a :: f := by
    cases o with
    | s d => obtain ⟨e, _⟩ := hq; cases e
    | lst os => obtain ⟨b, xs, f, e, rfl, _⟩ := rg; cases e; exact ⟨f, rfl⟩
    | dk ks os => obtain ⟨b, xs, f, e, rfl, _⟩ := rg; cases e; exact ⟨f, rfl⟩
    | dt ks os => obtain ⟨b, xs, f, e, rfl, _⟩ := rg; cases e; exact ⟨f, rfl⟩
    | ins c ns os => obtain ⟨b, dx, xs, f, e, rfl, _⟩ := rg; cases e; exact ⟨f, rfl⟩
  obtain ⟨f, rfl⟩ := uniq
  have nd := S.nd x f0 s2
  rw [ef] at nd
  have nd2 : (l ++ ((a :: f) ++ r)).Nodup := by simpa using nd
  rw [List.nodup_append] at nd2
  obtain ⟨nl, nfr, dl⟩ := nd2
  rw [List.nodup_append] at nfr
  obtain ⟨nf, nr, dr⟩ := nfr
  have inx : ∀ b ∈ l ++ (a :: f) ++ r, b ∈ m.fps.flatten := fun b hb => mem_fps s2 (by rw [ef]; exact hb)
  obtain ⟨f', q1, q2, q3⟩ := h f rg (List.nodup_cons.mp nf).1 nf (fun b hb => inx b (by simp at hb ⊢; rcases hb with z | z <;> simp [z]))
  have al : a ∉ l := fun z => dl a z a (by simp) rfl
  have ar : a ∉ r := fun z => dr a (by simp) a z rfl
  obtain ⟨d0', t1, t2⟩ := k o' (a :: f') (fun b hb => upd_ne (fun z => by
    subst z
    rcases List.mem_append.mp hb with y | y
    · exact al y
    · exact ar y)) q1
  have hold : ∀ b ∈ f', b ∉ l ∧ b ∉ r := fun b hb => by
    rcases q3 b hb with z | z
    · exact ⟨fun y => dl b y b (by simp [z]) rfl, fun y => dr b (by simp [z]) b y rfl⟩
    · exact ⟨fun y => z.1 (inx b (by simp [y])), fun y => z.1 (inx b (by simp [y]))⟩
  have nd' : (l ++ (a :: f') ++ r).Nodup := by
    have : (l ++ ((a :: f') ++ r)).Nodup := by
      rw [List.nodup_append]
      refine ⟨nl, ?_, fun b hb c hc e => ?_⟩
      · rw [List.nodup_append]
        refine ⟨q2, nr, fun b hb c hc e => ?_⟩
        subst e
        rcases List.mem_cons.mp hb with z | z
        · subst z; exact ar hc
        · exact (hold b z).2 hc
      · subst e
        rcases List.mem_append.mp hc with z | z
        · rcases List.mem_cons.mp z with y | y
          · subst y; exact al hb
          · exact (hold b y).1 hb
        · exact dl b hb b (by simp [z]) rfl
    simpa using this
  have hHa : m.H a ≠ none := S.inH a (inx a (by simp))
  obtain ⟨S2, s4⟩ := put (i := x) (o' := d0') (v' := v0) (fp' := l ++ (a :: f') ++ r) (F' := m.F) (H' := upd m.H a ho) s S s2 (Ex.refl _)
    (fun b u hb => by
      have : b ≠ a := fun z => by subst z; rw [S.df b (inx b (by simp))] at hb; cases hb
      rw [upd_ne this]; exact S.ex b u hb)
    (fun b u hb n => by rw [upd_ne (fun z => n (by rw [ef, z]; simp))]; exact hb)
    (fun b hb => by
      by_cases z : b = a
      · subst z; rw [upd_same]; simp
      · rw [upd_ne z]; exact hb)
    (fun b h n => absurd n h) t2 nd'
    (fun b hb => by
      simp only [List.mem_append, List.mem_cons] at hb
      rcases hb with (z | z | z) | z
      · exact S.df b (inx b (by simp [z]))
      · subst z; exact S.df b (inx b (by simp))
      · rcases q3 b z with y | y
        · exact S.df b (inx b (by simp [y]))
        · exact y.2.1
      · exact S.df b (inx b (by simp [z])))
    (fun b hb => by
      simp only [List.mem_append, List.mem_cons] at hb
      rcases hb with (z | z | z) | z
      · exact .inr (.inl (by rw [ef]; simp [z]))
      · exact .inr (.inl (by rw [ef]; simp [z]))
      · rcases q3 b z with y | y
        · exact .inr (.inl (by rw [ef]; simp [y]))
        · exact .inr (.inr ⟨fun j f e z => y.1 (mem_fps e z), y.2.2⟩)
      · exact .inr (.inl (by rw [ef]; simp [z])))
    (fun _ => e2)
  refine ⟨m.env.set x (some d0'), by unfold poke; rw [e1]; dsimp only; rw [t1]; rfl, m.put m.F (upd m.H a ho) x d0' v0 (l ++ a :: f' ++ r), rfl, rfl, rfl, set_same e2, S2, s4, fun b hb => ?_⟩
  rcases mem_flat_set hb with z | ⟨j, f, _, e, z⟩
  · simp only [List.mem_append, List.mem_cons] at z
    rcases z with (z | z | z) | z
    · exact .inl (inx b (by simp [z]))
    · exact .inl (inx b (by simp [z]))
    · rcases q3 b z with y | y
      · exact .inl (inx b (by simp [y]))
      · exact .inr ⟨y.2.1, y.2.2.1⟩
    · exact .inl (inx b (by simp [z]))
  · exact .inl (mem_fps e z)

section
variable {X : Cx} {C : Cn} {E : WX} {e a b : Expr} {pos : Pos} {T T1 T2 T3 : List Nat} {fs : MA} {es : List Expr} {f f1 f2 : ME} {g : MS}
def rdA1 (C : Cn) (E : WX) (T : List Nat) (f : ME) : TA := fun σ H Q => rdE C E T f σ H fun v H1 => Q [v] H1
theorem a_one (h : PE X e (rdE C E T f)) (hst : starEach [e] X.env = (false, eval e X.env) :: starEach [] X.env := by rfl) : PA X [e] (rdA1 C E T f) := PA.wk (pa_cons h pa_nil hst) fun σ H Q h => h
theorem new_o {m0 m : Mo} {r : Rt} {o : O} {v : V} (S : Sta C m) (ok : RtOk C m (Old m0) r v) (h : r.o = some o) : ∃ fp, RpO C.K C.cl m.F m.H o v fp ∧ fp.Nodup ∧ ∀ b ∈ fp, b ∉ m.fps.flatten ∧ m.F b = none ∧ (m0.H b = none ∨ b ∈ m0.fps.flatten) ∧ (C.H0 b = none ∨ b ∈ C.io) := by
  cases r with
  | val d => cases h; exact ⟨[], ⟨rfl, ok⟩, List.nodup_nil, fun b hb => by simp at hb⟩
  | own o' =>
    cases h
    obtain ⟨fp, r, nd, k⟩ := ok
    refine ⟨fp, r, nd, fun b hb => ?_⟩
    obtain ⟨k1, k2, k3, k4⟩ := k b hb
    refine ⟨k2, k1, ?_, k3⟩
    by_cases y : m0.H b = none
    · exact .inl y
    · exact .inr (Classical.byContradiction fun w => k4 ⟨y, w⟩)
  | bor x p o' => cases h
  | sl x => cases h
theorem RpO.upd {K : PySem.W.Frag} {cl : Nat → Addr} {F H : Hp} {a : Addr} {ho : HO} {o : O} {v : V} {fp : Fp} (h : RpO K cl F H o v fp) (n : a ∉ fp) : RpO K cl F (L2.upd H a ho) o v fp := h.mono (Ex.refl _) o v fp fun b hb => upd_ne (fun z => n (by rw [← z]; exact hb))
theorem RpOs.upd {K : PySem.W.Frag} {cl : Nat → Addr} {F H : Hp} {a : Addr} {ho : HO} {o : List O} {v : List V} {fp : Fp} (h : RpOs K cl F H o v fp) (n : a ∉ fp) : RpOs K cl F (L2.upd H a ho) o v fp := h.mono (Ex.refl _) o v fp fun b hb => upd_ne (fun z => n (by rw [← z]; exact hb))
def mAppend (Tx T2 : List Nat) (f f2 : ME) : ME := fun env => (f env).bind fun r e1 => match r with
  | .bor x p (.lst os) => if x ∈ T2 then .bad else (f2 e1).bind fun y e2 => match y.o with
    | some oy => if os.length < 16777216 ∧ x ∈ Tx then (match poke x p (.lst (os ++ [oy])) e2 with
      | some e3 => .ok (.val .non) e3
      | none => .bad) else .bad
    | none => .bad
  | _ => .bad
theorem e_append (Tx : List Nat) (hK : X.K = C.K) (h : PE X e (tBM X.K "list" rAppend (rdE C E T1 f1) (rdA1 C E T2 f2))) : PE X e (rdE C E (T1 ++ (T2 ++ Tx)) (mAppend Tx T2 f1 f2)) :=
  PE.wk h fun σ H Q ⟨m, e1, e2, S, w⟩ => ⟨m, e1, e2, S, Want.imp w.bind fun r env w => fun v m' e3 e4 S' s ok => by
    subst e3
    split at w
    · rename_i x p os
      by_cases hh : x ∈ T2
      · rw [if_pos hh] at w; exact w.elim
      rw [if_neg hh] at w
      obtain ⟨f0, a, xs, fl, rfl, rfl, hl, rr⟩ := ok.bor S'
      rw [hK]
      refine ⟨.inl ⟨rfl, xs, .inl (.inl hl)⟩, m', rfl, e4, S', Want.mono w.bind s fun y env2 w vy m2 a1 a2 S2 s2 ok2 => ?_⟩
      subst a1
      have ok' := ok.step S' s2 (by simpa [Rt.hot] using hh) (a2.trans e4.symm)
      obtain ⟨f2, a', xs', fl2, e, rfl, hl2, rr2⟩ := ok'.bor S2
      cases e
      cases ho : y.o with
      | none => rw [ho] at w; exact w.elim
      | some oy =>
        rw [ho] at w
        dsimp only at w
        by_cases hz : os.length < 16777216 ∧ x ∈ Tx
        · rw [if_pos hz] at w
          obtain ⟨fy, ry, ny, ky⟩ := new_o S2 (old_step s ok2) ho
          obtain ⟨env', hp, m3, b1, b2, b3, b4, S3, s3, b5⟩ := poke_ok (ho := .lst (xs' ++ [vy])) (o' := .lst (os ++ [oy])) (s.trans s2) S2 ok' (fun fr hr na nd inx => by
            obtain ⟨a2, xs2, f4, e, e', hl4, rr4⟩ := hr
            cases e; cases e'
            rw [hl2] at hl4; cases hl4
            have nay : a ∉ fy := fun z => (ky a z).1 (inx a (by simp))
            refine ⟨fr ++ fy, ⟨a, _, _, rfl, rfl, upd_same, (rr4.upd na).append ⟨vy, [], fy, [], rfl, by simp, ry.upd nay, rfl, rfl⟩⟩, ?_, fun b hb => ?_⟩
            · rw [List.nodup_cons] at nd ⊢
              refine ⟨fun z => ?_, ?_⟩
              · rcases List.mem_append.mp z with y | y
                · exact nd.1 y
                · exact nay y
              · rw [List.nodup_append]
                refine ⟨nd.2, ny, fun b hb c hc e => ?_⟩
                subst e
                exact (ky b hc).1 (inx b (by simp [hb]))
            · rcases List.mem_append.mp hb with y | y
              · exact .inl y
              · exact .inr (ky b y)) ⟨fl2, a, xs', fl2, rfl, rfl, hl2, rr2⟩
          rw [hp] at w
          refine ⟨a, xs', vy, rfl, rfl, hl2, by rw [rr2.length, sizeLine_is]; exact hz.1, ?_⟩
          have := w .non m3 b1 (b4.trans a2) S3 (s3.wk (fun i hi => by
            simp only [List.mem_append] at hi ⊢
            rcases hi with (z | z) | z
            · exact .inl z
            · exact .inr (.inl z)
            · have : i = x := by simpa using z
              exact .inr (.inr (by rw [this]; exact hz.2)))) rfl
          rw [b3] at this
          exact this
        · rw [if_neg hz] at w; exact w.elim
    · exact w.elim⟩
end
end L3
namespace L3
open PySem L2 PySem.Spec PyProof.Rows
def tMethS (C : Addr) (m : Str) (sp : Sp) (W : L2.St → XK) (ta : TE) (t : TA) : TE := fun σ H Q => ta σ H fun x H1 => ∃ a dx fs, x = .ref a ∧ H1 a = some (.ins C dx fs) ∧ fs.lookup m = none ∧ t σ H1 fun vs H2 => sp (x :: vs) H2 Q (W σ)
def tMakeS (C : Addr) (sp : Sp) (W : L2.St → XK) (t : TA) : TE := fun σ H Q => t σ H fun vs H1 => ∀ x dx, H1 x = none → H1 dx = none → dx ≠ x → sp (.ref x :: vs) (upd (upd H1 dx (.own x)) x (.ins C dx [])) (fun v H2 => v = .non ∧ Q (.ref x) H2) (W σ)
section
variable {X : Cx} {CT : CXT} {k : Nat} {f C : Addr} {fd : FuncData} {ps : List Str} {sp : Sp} {W : L2.St → XK} {x m : Str} {p pos apos : Pos} {e o : Expr} {es : List Expr} {ta : TE} {t : TA}
theorem run_makeS {pn : List (Addr × Obj)} {st : L2.St} {hp : Hp} {s0 : Shared} {R : VK} {us : List Value} {vs : List V} (M : Mk X.K C f) (F : FnOk X.prog X.w X.K X.mg X.base CT k f fd ps sp) (hr : Room (k + 1) X.A) (hb : Binds X.K fd ps [])
    (hx : PassesAt CT X st (W st)) (J : Inv X pn st hp s0) (r : Vals vs us) (g : ∀ x dx, hp x = none → hp dx = none → dx ≠ x → sp (.ref x :: vs) (upd (upd hp dx (.own x)) x (.ins C dx [])) (fun v H2 => v = .non ∧ R (.ref x) H2) (W st)) :
    wpAny (model X.prog X.w) X.A (call (.ref C) us) (EP X pn st R) X.xe s0 := by
  have w1 := g (s0.heap.objs.size + 1) s0.heap.objs.size (J.hok.fresh (Nat.le_succ _)) (J.hok.fresh (Nat.le_refl _)) (Nat.ne_of_lt (Nat.lt_succ_self _))
  have J1 := Inv.made (C := C) J
  have rr : Vals (V.ref (s0.heap.objs.size + 1) :: vs) (Value.ref (s0.heap.objs.size + 1) :: us) := .cons rfl r
  have ln : (Value.ref (s0.heap.objs.size + 1) :: us ++ []).length = ps.length := by
    rw [List.append_nil, ← rr.length]
    exact F.len _ _ _ _ w1
  have bd := hb { s0 with heap := (s0.heap.push _).push _ } (Value.ref (s0.heap.objs.size + 1) :: us) J1.kIn ln
  rw [List.append_nil] at bd
  refine wpAny_call (make_map (f := f) J.kIn M.makes M.init (beq_iff_eq.mp M.fn) (codeAny_mono (F.run _ X.stack _ _ ⟨Value.ref (s0.heap.objs.size + 1) :: us, []⟩ _ _ _ (W st) (hr.make C us []) (J1.env0.make C us []) bd rr w1) fun rs s2 hq2 => ?_))
  cases rs with
  | error er => exact hx pn _ _ er s2 J1 hq2
  | ok fl =>
    cases fl with
    | ret u =>
      obtain ⟨v, H2, J2, rv, ev, q4⟩ := J1.after hq2
      subst ev
      exact ⟨rv, V.ref (s0.heap.objs.size + 1), H2, J2, rfl, q4⟩
    | next => exact hq2.elim
    | brk => exact hq2.elim
    | cont => exact hq2.elim
theorem pe_makeS (M : Mk X.K C f) (F : FnOk X.prog X.w X.K X.mg X.base CT k f fd ps sp) (hr : Room (k + 1) X.A) (hg : Gl X x) (hm : X.mg x = some (.ref C)) (hb : Binds X.K fd ps []) (hx : ∀ st, PassesAt CT X st (W st)) (ha : PA X (e :: es) t)
    (hdb : (x == ("__debug__" : Str)) = false := by decide) (he : starEach (e :: es) X.env = (false, eval e X.env) :: starEach es X.env := by rfl) (hpl : ((backTo pos (starEach es X.env)).any fun z => z.1) = false := by rfl) :
    PE X (.Call (.Name x p) (e :: es) [] pos) (tMakeS C sp W t) :=
  ⟨fun pn s0 st hp R J g => wpAny_Call_Name_kw (ld_glob J hg hm (PySem.W.callWith_K (h₀ := X.base) J.ok.mod.kin M.kp (thn (ha.run pos pn s0 st hp _ J g) fun us s2 ⟨vs, H2, J2, r, q⟩ => ⟨J2.kIn, run_makeS M F hr hb (hx st) J2 r q⟩) he hpl) hdb)⟩
theorem pe_makeS0 (M : Mk X.K C f) (F : FnOk X.prog X.w X.K X.mg X.base CT k f fd ps sp) (hr : Room (k + 1) X.A) (hg : Gl X x) (hm : X.mg x = some (.ref C)) (hb : Binds X.K fd ps []) (hx : ∀ st, PassesAt CT X st (W st))
    (hdb : (x == ("__debug__" : Str)) = false := by decide) : PE X (.Call (.Name x p) [] [] pos) (tMakeS C sp W tNil) :=
  ⟨fun pn s0 st hp R J g => wpAny_Call_Name_kw (ld_glob J hg hm (PySem.W.callWith_K0 J.kIn M.kp (run_makeS (us := []) M F hr hb (hx st) J .nil g)) hdb)⟩
theorem pe_callS0 (F : FnOk X.prog X.w X.K X.mg X.base CT k f fd ps sp) (hr : Room k X.A) (hg : Gl X x) (hm : X.mg x = some (.ref f)) (hk : PySem.W.keepIn X.K (.ref f) = true) (hb : Binds X.K fd ps []) (hx : ∀ st, PassesAt CT X st (W st))
    (hdb : (x == ("__debug__" : Str)) = false := by decide) : PE X (.Call (.Name x p) [] [] pos) (tCallS sp W tNil) :=
  ⟨fun pn s0 st hp R J g => wpAny_Call_Name_kw (ld_glob J hg hm (PySem.W.callWith_K0 J.kIn hk (run_fnS (us := []) F hr hb (hx st) J .nil g)) hdb)⟩
theorem pe_methS {pl : Sem Bool} (he : PE X o ta) (c : Cls X.K C) (hm : Meth X.K C m f) (F : FnOk X.prog X.w X.K X.mg X.base CT k f fd ps sp) (hr : Room k X.A) (hb : Binds X.K fd ps []) (hx : ∀ st, PassesAt CT X st (W st)) (ha : PA X (e :: es) t)
    (hst : starEach (e :: es) X.env = (false, eval e X.env) :: starEach es X.env := by rfl) (hpl : ((backTo pos (starEach es X.env)).any fun z => z.1) = false := by rfl)
    (ht : eval (.Call (.Attribute o m apos) (e :: es) [] pos) X.env = (do
      let u0 ← eval o X.env
      standAt apos.atName
      let (fu, fi) ← holding [u0] (getMethod u0 m pl)
      callWith pos fu fi (backTo pos (starEach (e :: es) X.env)) (backToKw pos (keywordEach [] X.env))) := by rfl) :
    PE X (.Call (.Attribute o m apos) (e :: es) [] pos) (tMethS C m sp W ta t) := by
  refine ⟨fun pn s0 st hp R J g => PySem.W.methodCall_KW (pl := pl) (thn (he.run pn s0 st hp _ J g) fun u s2 ⟨x0, H1, J1, rx, a, dx, fs, ex, ea, l, q⟩ => ?_) ht⟩
  subst ex
  obtain rfl : u = Value.ref a := rx
  exact getmeth_ok J1 ea c hm l (PySem.W.callWith_K (first := [.ref a]) (h₀ := X.base) J.ok.mod.kin hm.kp (thn (ha.run pos pn s2 st H1 _ J1 q) fun us s3 ⟨vs, H2, J2, r, q2⟩ => ⟨J2.kIn, run_fnS (us := .ref a :: us) (vs := .ref a :: vs) F hr hb (hx st) J2 (.cons rfl r) q2⟩) hst hpl)
theorem pe_methS0 {pl : Sem Bool} (he : PE X o ta) (c : Cls X.K C) (hm : Meth X.K C m f) (F : FnOk X.prog X.w X.K X.mg X.base CT k f fd ps sp) (hr : Room k X.A) (hb : Binds X.K fd ps []) (hx : ∀ st, PassesAt CT X st (W st))
    (ht : eval (.Call (.Attribute o m apos) [] [] pos) X.env = (do
      let u0 ← eval o X.env
      standAt apos.atName
      let (fu, fi) ← holding [u0] (getMethod u0 m pl)
      callWith pos fu fi (backTo pos (starEach [] X.env)) (backToKw pos (keywordEach [] X.env))) := by rfl) :
    PE X (.Call (.Attribute o m apos) [] [] pos) (tMethS C m sp W ta tNil) := by
  refine ⟨fun pn s0 st hp R J g => PySem.W.methodCall_KW (pl := pl) (thn (he.run pn s0 st hp _ J g) fun u s2 ⟨x0, H1, J1, rx, a, dx, fs, ex, ea, l, q⟩ => ?_) ht⟩
  subst ex
  obtain rfl : u = Value.ref a := rx
  exact getmeth_ok J1 ea c hm l (PySem.W.callWith_K0 (first := [.ref a]) J1.kIn hm.kp (run_fnS (us := [.ref a]) (vs := [.ref a]) F hr hb (hx st) J1 (.cons rfl .nil) q))
end
end L3
namespace L3
open PySem L2

theorem poke_put {C : Cn} {T : List Nat} {m0 m : Mo} {x : Nat} {p : List Stp} {o o' oy : O} {a : Addr} {ho : HO} {vy : V} {fy : Fp} {av : Addr → Prop} (s : Step T m0 m) (S : Sta C m) (ok : RtOk C m av (.bor x p o) (.ref a))
    (ry : RpO C.K C.cl m.F m.H oy vy fy) (ny : fy.Nodup) (ky : ∀ b ∈ fy, b ∉ m.fps.flatten ∧ m.F b = none ∧ (m0.H b = none ∨ b ∈ m0.fps.flatten) ∧ (C.H0 b = none ∨ b ∈ C.io))
    (h : ∀ f, RpO C.K C.cl m.F m.H o (.ref a) (a :: f) → ∃ l g r, f = l ++ g ++ r ∧ ∀ H', (∀ b ∈ l ++ r, H' b = m.H b) → H' a = some ho → RpO C.K C.cl m.F H' oy vy fy → RpO C.K C.cl m.F H' o' (.ref a) (a :: (l ++ fy ++ r)))
    (hn : ∃ f, RpO C.K C.cl m.F m.H o (.ref a) (a :: f)) :
    ∃ env', poke x p o' m.env = some env' ∧ ∃ m', m'.env = env' ∧ m'.F = m.F ∧ m'.H = upd m.H a ho ∧ m'.σ = m.σ ∧ Sta C m' ∧ Step (T ++ [x]) m0 m' ∧ ∀ b, b ∈ m'.fps.flatten → b ∈ m.fps.flatten ∨ (m.F b = none ∧ (m0.H b = none ∨ b ∈ m0.fps.flatten)) :=
  poke_ok s S ok (fun f hr na nd inx => by
    obtain ⟨l, g, r, rfl, k⟩ := h f hr
    have nay : a ∉ fy := fun z => (ky a z).1 (inx a (by simp))
    rw [List.nodup_cons] at nd
    have nd2 : (l ++ (g ++ r)).Nodup := by simpa using nd.2
    rw [List.nodup_append] at nd2
    obtain ⟨nl, ngr, dl⟩ := nd2
    rw [List.nodup_append] at ngr
    refine ⟨l ++ fy ++ r, k _ (fun b hb => upd_ne fun z => na (by
      subst z
      simp only [List.mem_append] at hb ⊢
      rcases hb with z | z
      · exact .inl (.inl z)
      · exact .inr z)) upd_same (ry.upd nay), ?_, fun b hb => ?_⟩
    · rw [List.nodup_cons]
      refine ⟨fun z => ?_, ?_⟩
      · simp only [List.mem_append] at z
        rcases z with (z | z) | z
        · exact na (by simp [z])
        · exact nay z
        · exact na (by simp [z])
      · have : (l ++ (fy ++ r)).Nodup := by
          rw [List.nodup_append]
          refine ⟨nl, ?_, fun b hb c hc e => ?_⟩
          · rw [List.nodup_append]
            refine ⟨ny, ngr.2.1, fun b hb c hc e => ?_⟩
            subst e
            exact (ky b hb).1 (inx b (by simp [hc]))
          · subst e
            rcases List.mem_append.mp hc with z | z
            · exact (ky b z).1 (inx b (by simp [hb]))
            · exact dl b hb b (by simp [z]) rfl
        simpa using this
    · simp only [List.mem_append] at hb
      rcases hb with (z | z) | z
      · exact .inl (by simp [z])
      · exact .inr (ky b z)
      · exact .inl (by simp [z])) hn
section
variable {K : PySem.W.Frag} {cl : Nat → Addr} {F H : Hp}
theorem RpOs.setV : ∀ {os : List O} {vs : List V} {fp : Fp} {n : Nat}, RpOs K cl F H os vs fp → n < os.length → ∃ l g r, fp = l ++ g ++ r ∧ ∀ H' oy vy fy, (∀ b ∈ l ++ r, H' b = H b) → RpO K cl F H' oy vy fy → RpOs K cl F H' (os.set n oy) (vs.set n vy) (l ++ fy ++ r)
  | [], vs, fp, n, _, h => by simp at h
  | o :: os, vs, fp, 0, r, h => by
    obtain ⟨v, vr, f, g, rfl, rfl, r1, r2⟩ := r
    exact ⟨[], f, g, by simp, fun H' oy vy fy k r' => ⟨vy, vr, fy, g, rfl, by simp, r', r2.mono (Ex.refl _) _ _ _ (fun b hb => k b (by simp [hb]))⟩⟩
  | o :: os, vs, fp, n + 1, r, h => by
    obtain ⟨v, vr, f, g, rfl, rfl, r1, r2⟩ := r
    obtain ⟨l, g0, rr, e, k⟩ := RpOs.setV r2 (by simpa using h)
    subst e
    exact ⟨f ++ l, g0, rr, by simp, fun H' oy vy fy q r' => ⟨v, _, f, l ++ fy ++ rr, rfl, by simp, r1.mono (Ex.refl _) _ _ _ (fun b hb => q b (by simp [hb])), k H' oy vy fy (fun b hb => q b (by
      rcases List.mem_append.mp hb with z | z
      · simp [z]
      · simp [z])) r'⟩⟩
end
def putNs : List Str → Str → List Str
  | [], f => [f]
  | n :: ns, f => if n = f then n :: ns else n :: putNs ns f
def putL {α : Type} : List Str → List α → Str → α → List α
  | [], _, _, y => [y]
  | n :: ns, d :: ds, f, y => if n = f then y :: ds else d :: putL ns ds f y
  | _ :: _, [], _, y => [y]
theorem putF_zip {f : Str} {v : V} : ∀ {ns : List Str} {xs : List V}, ns.length = xs.length → putF f v (ns.zip xs) = (putNs ns f).zip (putL ns xs f v) ∧ (putNs ns f).length = (putL ns xs f v).length ∧ (putNs ns f).length ≤ ns.length + 1
  | [], [], _ => ⟨rfl, rfl, Nat.le_refl _⟩
  | [], x :: xs, h => by simp at h
  | n :: ns, [], h => by simp at h
  | n :: ns, x :: xs, h => by
    have h : ns.length = xs.length := by simpa using h
    obtain ⟨i1, i2, i3⟩ := putF_zip (f := f) (v := v) h
    show (if n = f then (n, v) :: ns.zip xs else (n, x) :: putF f v (ns.zip xs)) = _ ∧ _
    unfold putNs putL
    by_cases e : n = f
    · simp only [if_pos e]
      exact ⟨rfl, by simpa using h, by simp⟩
    · simp only [if_neg e]
      exact ⟨by rw [i1]; rfl, by simpa using i2, by simpa using i3⟩
theorem RpOs.putV {K : PySem.W.Frag} {cl : Nat → Addr} {F H : Hp} {n : Str} : ∀ {ns : List Str} {os : List O} {vs : List V} {fp : Fp}, RpOs K cl F H os vs fp → ns.length = os.length → ∃ l g r, fp = l ++ g ++ r ∧ ∀ H' oy vy fy, (∀ b ∈ l ++ r, H' b = H b) → RpO K cl F H' oy vy fy → RpOs K cl F H' (putL ns os n oy) (putL ns vs n vy) (l ++ fy ++ r)
  | [], [], vs, fp, r, _ => by
    obtain ⟨rfl, rfl⟩ := r
    exact ⟨[], [], [], rfl, fun H' oy vy fy k r' => ⟨vy, [], fy, [], rfl, by simp, r', rfl, rfl⟩⟩
  | [], o :: os, vs, fp, r, h => by simp at h
  | m :: ns, [], vs, fp, r, h => by simp at h
  | m :: ns, o :: os, vs, fp, r, h => by
    obtain ⟨v, vr, f, g, rfl, rfl, r1, r2⟩ := r
    by_cases e : m = n
    · refine ⟨[], f, g, by simp, fun H' oy vy fy k r' => ?_⟩
      unfold putL
      simp only [if_pos e]
      exact ⟨vy, vr, fy, g, rfl, by simp, r', r2.mono (Ex.refl _) _ _ _ (fun b hb => k b (by simp [hb]))⟩
    · obtain ⟨l, g0, rr, e2, k⟩ := RpOs.putV (n := n) r2 (by simpa using h)
      subst e2
      refine ⟨f ++ l, g0, rr, by simp, fun H' oy vy fy q r' => ?_⟩
      unfold putL
      simp only [if_neg e]
      exact ⟨v, _, f, l ++ fy ++ rr, rfl, by simp, r1.mono (Ex.refl _) _ _ _ (fun b hb => q b (by simp [hb])), k H' oy vy fy (fun b hb => q b (by
        rcases List.mem_append.mp hb with z | z
        · simp [z]
        · simp [z])) r'⟩
section
variable {X : Cx} {C : Cn} {E : WX} {e a b : Expr} {st : Stmt} {pos : Pos} {T T1 T2 T3 : List Nat} {fs : MA} {es : List Expr} {f f1 f2 f3 : ME} {g : MS}
theorem mem3 {T1 T2 T3 Tx : List Nat} {x : Nat} (hx : x ∈ Tx) : ∀ i ∈ T1 ++ (T2 ++ T3) ++ [x], i ∈ T1 ++ (T2 ++ (T3 ++ Tx)) := fun i hi => by
  simp only [List.mem_append] at hi ⊢
  rcases hi with (z | z | z) | z
  · exact .inl z
  · exact .inr (.inl z)
  · exact .inr (.inr (.inl z))
  · have : i = x := by simpa using z
    exact .inr (.inr (.inr (by rw [this]; exact hx)))
theorem Rt.o_hot {r : Rt} {o : O} (h : r.o = some o) (T : List Nat) : r.hot T = false := by
  cases r with
  | val d => rfl
  | own o' => rfl
  | bor x p o' => cases h
  | sl x => cases h
def msSetIx (Tx T2 T3 : List Nat) (fe fo fi : ME) : MS := fun env => (fe env).bind fun y e1 => match y.o with
  | some oy => (fo e1).bind fun r e2 => (match r with
    | .bor x p (.lst os) => if x ∈ T3 then .bad else (fi e2).bind fun ri e3 => (match ri with
      | .val (.int i) => (match ixN os.length i with
        | some j => if x ∈ Tx then (match poke x p (.lst (os.set j oy)) e3 with
          | some e4 => .ok .nx e4
          | none => .bad) else .bad
        | none => .bad)
      | _ => .bad)
    | _ => .bad)
  | none => .bad
theorem s_setIx (Tx : List Nat) {tg : Expr} (h : PS X (.Assign [tg] e pos) (tAsg (rdE C E T1 f1) (gSub (rdE C E T2 f2) (rdE C E T3 f3) rSetL))) : PS X (.Assign [tg] e pos) (rdS C E (T1 ++ (T2 ++ (T3 ++ Tx))) (msSetIx Tx T2 T3 f1 f2 f3)) :=
  PS.wk h fun D σ H ⟨m, e1, e2, S, w⟩ => ⟨m, e1, e2, S, Want.imp w.bind fun y env w => fun vy m1 e3 e4 S1 s1 oky => by
    subst e3
    cases ho : y.o with
    | none => rw [ho] at w; exact w.elim
    | some oy =>
      rw [ho] at w
      refine ⟨m1, rfl, e4, S1, Want.mono w.bind s1 fun r env2 w vr m2 a1 a2 S2 s2 okr => ?_⟩
      subst a1
      have oky2 := oky.step S1 s2 (Rt.o_hot ho _) (a2.trans e4.symm)
      split at w
      · rename_i x p os
        by_cases hh : x ∈ T3
        · rw [if_pos hh] at w; exact w.elim
        rw [if_neg hh] at w
        refine ⟨m2, rfl, a2, S2, Want.mono w.bind (s1.trans s2) fun ri env3 w vi m3 b1 b2 S3 s3 oki => ?_⟩
        subst b1
        split at w
        · rename_i i
          split at w
          · rename_i j hj
            by_cases hx : x ∈ Tx
            · rw [if_pos hx] at w
              have okr3 := okr.step S2 s3 (by simpa [Rt.hot] using hh) (b2.trans a2.symm)
              have oky3 := oky2.step S2 s3 (Rt.o_hot ho _) (b2.trans a2.symm)
              have s13 := s1.trans (s2.trans s3)
              obtain ⟨fy, ry, ny, ky⟩ := new_o S3 oky3 ho
              obtain ⟨f0, a, xs, fl, rfl, rfl, hl, rr⟩ := okr3.bor S3
              obtain ⟨env', hp, m4, c1, c2, c3, c4, S4, s4, c5⟩ := poke_put (ho := .lst (xs.set j vy)) (o' := .lst (os.set j oy)) s13 S3 okr3 ry ny ky (fun fr hr => by
                obtain ⟨a2, xs2, f4, e, e', hl4, rr4⟩ := hr
                cases e; cases e'
                rw [hl] at hl4; cases hl4
                obtain ⟨l, g0, r0, e5, k⟩ := rr4.setV (n := j) (ixN_seq hj).2.1
                exact ⟨l, g0, r0, e5, fun H' h1 h2 h3 => ⟨a, _, _, rfl, rfl, h2, k H' oy vy fy h1 h3⟩⟩) ⟨fl, a, xs, fl, rfl, rfl, hl, rr⟩
              rw [hp] at w
              refine ⟨a, xs, i, j, rfl, oki, hl, by rw [rr.length]; exact hj, ?_⟩
              have := w m4 c1 S4 (s4.wk (mem3 hx))
              have q : D.nx m4.σ m4.H := this
              rw [c3, c4, b2] at q
              exact q
            · rw [if_neg hx] at w; exact w.elim
          · exact w.elim
        · exact w.elim
      · exact w.elim⟩
def msSetAttr (Tx T2 : List Nat) (cs : List Nat) (n : Str) (fe fo : ME) : MS := fun env => (fe env).bind fun y e1 => match y.o with
  | some oy => (fo e1).bind fun r e2 => (match r with
    | .bor x p (.ins c ns os) => if c ∈ cs ∧ x ∈ Tx ∧ ns.length < 1000 ∧ ns.length = os.length then (match poke x p (.ins c (putNs ns n) (putL ns os n oy)) e2 with
      | some e4 => .ok .nx e4
      | none => .bad) else .bad
    | _ => .bad)
  | none => .bad
theorem s_setAttr (Tx : List Nat) {cs : List Nat} {n : Str} {tg : Expr} (hK : X.K = C.K) (hc : ∀ c ∈ cs, Cls C.K (C.cl c) ∧ NoAttr C.K (C.cl c) n) (h : PS X (.Assign [tg] e pos) (sFld X.K (rdE C E T2 f2) (rdE C E T1 f1) n)) :
    PS X (.Assign [tg] e pos) (rdS C E (T1 ++ (T2 ++ ([] ++ Tx))) (msSetAttr Tx T2 cs n f1 f2)) :=
  PS.wk h fun D σ H ⟨m, e1, e2, S, w⟩ => ⟨m, e1, e2, S, Want.imp w.bind fun y env w => fun vy m1 e3 e4 S1 s1 oky => by
    subst e3
    cases ho : y.o with
    | none => rw [ho] at w; exact w.elim
    | some oy =>
      rw [ho] at w
      refine ⟨m1, rfl, e4, S1, Want.mono w.bind s1 fun r env2 w vr m2 a1 a2 S2 s2 okr => ?_⟩
      subst a1
      have oky2 := oky.step S1 s2 (Rt.o_hot ho _) (a2.trans e4.symm)
      split at w
      · rename_i x p c ns os
        by_cases hx : c ∈ cs ∧ x ∈ Tx ∧ ns.length < 1000 ∧ ns.length = os.length
        · rw [if_pos hx] at w
          obtain ⟨hcc, hx, hns, hno⟩ := hx
          have s13 := s1.trans s2
          obtain ⟨fy, ry, ny, ky⟩ := new_o S2 oky2 ho
          obtain ⟨f0, a, dx, xs, fl, rfl, rfl, hl, hlen, rr⟩ := okr.bor S2
          obtain ⟨p1, p2, p3⟩ := putF_zip (f := n) (v := vy) hlen
          obtain ⟨env', hp, m4, c1, c2, c3, c4, S4, s4, c5⟩ := poke_put (ho := .ins (C.cl c) dx ((putNs ns n).zip (putL ns xs n vy))) (o' := .ins c (putNs ns n) (putL ns os n oy)) s13 S2 okr ry ny ky (fun fr hr => by
            obtain ⟨a2, dx2, xs2, f4, e, e', hl4, hl5, rr4⟩ := hr
            cases e; cases e'
            rw [hl] at hl4
            have q'' := Option.some.inj hl4
            injection q'' with _ qd q''
            obtain rfl := zip_inj hlen hl5 q''
            subst qd
            obtain ⟨l, g0, r0, e5, k⟩ := rr4.putV (n := n) (ns := ns) hno
            exact ⟨l, g0, r0, e5, fun H' h1 h2 h3 => ⟨a, dx, _, _, rfl, rfl, h2, p2, k H' oy vy fy h1 h3⟩⟩) ⟨fl, a, dx, xs, fl, rfl, rfl, hl, hlen, rr⟩
          rw [hp] at w
          rw [hK]
          refine ⟨a, _, dx, _, rfl, hl, (hc c hcc).1, (hc c hcc).2, by rw [List.length_zip, ← hlen]; simpa using hns, ?_⟩
          rw [p1]
          have := w m4 c1 S4 (s4.wk fun i hi => by
            simp only [List.mem_append, List.nil_append] at hi ⊢
            rcases hi with (z | z) | z
            · exact .inl z
            · exact .inr (.inl z)
            · have : i = x := by simpa using z
              exact .inr (.inr (by rw [this]; exact hx)))
          have q : D.nx m4.σ m4.H := this
          rw [c3, c4, a2] at q
          exact q
        · rw [if_neg hx] at w; exact w.elim
      · exact w.elim⟩
def hasNo (cs : List Nat) (mn : Str) (env : Env) : Rt → Bool
  | .val (.ins c ns ds) => decide (c ∈ cs) && (lk ns ds mn).isNone
  | .sl x => match env[x]? with
    | some (some (.ins c ns os)) => decide (c ∈ cs) && (lk ns os mn).isNone
    | some (some (.s (.ins c ns ds))) => decide (c ∈ cs) && (lk ns ds mn).isNone
    | _ => false
  | _ => false
theorem lk_none {α β : Type} {f : Str} : ∀ {ns : List Str} {ds : List α} {xs : List β}, ds.length = xs.length → lk ns ds f = none → lk ns xs f = none
  | [], ds, xs, _, _ => by simp [lk]
  | n :: ns, [], xs, h, _ => by
    have : xs = [] := List.eq_nil_of_length_eq_zero h.symm
    subst this; simp [lk]
  | n :: ns, d :: ds, [], h, _ => by simp at h
  | n :: ns, d :: ds, x :: xs, h, h2 => by
    unfold lk at h2 ⊢
    by_cases e : n = f
    · rw [if_pos e] at h2; cases h2
    · rw [if_neg e] at h2 ⊢
      exact lk_none (by simpa using h) h2
def mMeth (Sl T2 : List Nat) (c : Nat) (mn : Str) (n : Nat) (fn : List O → Rr) (fo : ME) (fs : MA) : ME := fun env => (fo env).bind fun r e1 =>
  if hasNo [c] mn e1 r = true then mCall Sl n fn (fun e => (fs e).bind fun rs e2 => .ok (r :: rs) e2) e1 else .bad
theorem rdMeth {Sl : List Nat} {c n : Nat} {mn : Str} {fn : List O → Rr} {fo : ME} {σ : L2.St} {H : Hp} {Q : VK} (h : rdE C E (T1 ++ (T2 ++ Sl)) (mMeth Sl T2 c mn n fn fo fs) σ H Q) :
    tMethS (C.cl c) mn (spG C.K C.cl n fn) (WE E) (rdE C E T1 fo) (rdA C E T2 fs) σ H Q := by
  obtain ⟨m, e1, e2, S, w⟩ := h
  refine ⟨m, e1, e2, S, Want.imp w.bind fun r env w => fun v m1 e3 e4 S1 s1 ok => ?_⟩
  subst e3
  by_cases hh : hasNo [c] mn m1.env r = true
  · rw [if_pos hh] at w
    -- the receiver
    have rc : r.hot T2 = false ∧ ∃ a dx fs, v = .ref a ∧ m1.H a = some (.ins (C.cl c) dx fs) ∧ fs.lookup mn = none := by
      unfold hasNo at hh
      split at hh
      · rename_i c' ns ds
        rw [Bool.and_eq_true] at hh
        have hc' : c' = c := by simpa using hh.1
        subst hc'
        obtain ⟨a, dx, xs, rfl, q, l, rr⟩ := ok
        exact ⟨rfl, a, dx, _, rfl, S1.ex _ _ q, by rw [lk_zip]; exact lk_none rr.length.symm (by simpa using hh.2)⟩
      · rename_i x
        split at hh
        · rename_i c' ns os he
          rw [Bool.and_eq_true] at hh
          have hc' : c' = c := by simpa using hh.1
          subst hc'
          obtain ⟨v', f', s1', s2, s3⟩ := S1.slot he
          have ok : m1.σ[x]? = some (some v) := ok
          rw [ok] at s1'; cases s1'
          obtain ⟨a, dx, xs, f, rfl, rfl, q, l, rr⟩ := s3
          exact ⟨rfl, a, dx, _, rfl, q, by rw [lk_zip]; exact lk_none rr.length.symm (by simpa using hh.2)⟩
        · rename_i c' ns ds he
          rw [Bool.and_eq_true] at hh
          have hc' : c' = c := by simpa using hh.1
          subst hc'
          obtain ⟨v', f', s1', s2, s3⟩ := S1.slot he
          have ok : m1.σ[x]? = some (some v) := ok
          rw [ok] at s1'; cases s1'
          obtain ⟨rfl, a, dx, xs, rfl, q, l, rr⟩ := s3
          exact ⟨rfl, a, dx, _, rfl, S1.ex _ _ q, by rw [lk_zip]; exact lk_none rr.length.symm (by simpa using hh.2)⟩
        · cases hh
      · cases hh
    obtain ⟨hot, a, dx, fs', rfl, q1, q2⟩ := rc
    refine ⟨a, dx, fs', rfl, q1, q2, ?_⟩
    have w1 : Want C E m ((fs m1.env).bind fun rs e2 => Rs.ok (r :: rs) e2) _ := w.bind
    refine ⟨m1, rfl, e4, S1, Want.mono w1.bind s1 fun rs0 env w => fun vs m2 f1 f2 S2 s2 ok2 => ?_⟩
    subst f1
    have okr := ok.step S1 s2 hot (f2.trans e4.symm)
    have s12 := s1.trans s2
    refine call_core (T := T1 ++ T2) (Sl := Sl) s12 S2 (.cons okr ok2) f2 ?_
    have e : T1 ++ T2 ++ Sl = T1 ++ (T2 ++ Sl) := List.append_assoc _ _ _
    rw [e]
    exact w
  · rw [if_neg hh] at w; exact w.elim
end
end L3
namespace L3
open PySem L2
section
variable {X : Cx} {C : Cn} {E : WX} {e a b o : Expr} {pos : Pos} {T T1 T2 T3 Sl : List Nat} {fs : MA} {es : List Expr} {f fo f1 f2 : ME} {n : Nat} {fn : List O → Rr}
theorem e_call0 {CX : CXT} {k : Nat} {fa : Addr} {fd : FuncData} {ps : List Str} {x : Str} {p : Pos} (Sl : List Nat) (hK : X.K = C.K) (F : FnOk X.prog X.w X.K X.mg X.base CX k fa fd ps (spG C.K C.cl n fn)) (hr : Room k X.A) (hg : Gl X x) (hm : X.mg x = some (.ref fa)) (hk : PySem.W.keepIn X.K (.ref fa) = true)
    (hb : Binds X.K fd ps []) (hx : ∀ σ, PassesAt CX X σ (WE E σ))
    (hdb : (x == ("__debug__" : Str)) = false := by decide) : PE X (.Call (.Name x p) [] [] pos) (rdE C E ([] ++ Sl) (mCall Sl n fn mNil)) :=
  PE.wk (pe_callS0 F hr hg hm hk hb hx hdb) fun σ H Q h => rdNil (rdCall h)
theorem e_mth {CX : CXT} {k : Nat} {fa : Addr} {fd : FuncData} {ps : List Str} {m : Str} {apos : Pos} {pl : Sem Bool} (Sl : List Nat) (c : Nat) (hc : Cls X.K (C.cl c)) (hm : Meth X.K (C.cl c) m fa) (F : FnOk X.prog X.w X.K X.mg X.base CX k fa fd ps (spG C.K C.cl n fn)) (hr : Room k X.A)
    (hb : Binds X.K fd ps []) (hx : ∀ σ, PassesAt CX X σ (WE E σ)) (he : PE X o (rdE C E T1 fo)) (ha : PA X (e :: es) (rdA C E T2 fs)) (hst : starEach (e :: es) X.env = (false, eval e X.env) :: starEach es X.env := by rfl) (hpl : ((backTo pos (starEach es X.env)).any fun z => z.1) = false := by rfl)
    (ht : eval (.Call (.Attribute o m apos) (e :: es) [] pos) X.env = (do
      let u0 ← eval o X.env
      standAt apos.atName
      let (fu, fi) ← holding [u0] (getMethod u0 m pl)
      callWith pos fu fi (backTo pos (starEach (e :: es) X.env)) (backToKw pos (keywordEach [] X.env))) := by rfl) :
    PE X (.Call (.Attribute o m apos) (e :: es) [] pos) (rdE C E (T1 ++ (T2 ++ Sl)) (mMeth Sl T2 c m n fn fo fs)) :=
  PE.wk (pe_methS (pl := pl) he hc hm F hr hb hx ha hst hpl ht) fun σ H Q h => rdMeth h
theorem e_mth0 {CX : CXT} {k : Nat} {fa : Addr} {fd : FuncData} {ps : List Str} {m : Str} {apos : Pos} {pl : Sem Bool} (Sl : List Nat) (c : Nat) (hc : Cls X.K (C.cl c)) (hm : Meth X.K (C.cl c) m fa) (F : FnOk X.prog X.w X.K X.mg X.base CX k fa fd ps (spG C.K C.cl n fn)) (hr : Room k X.A)
    (hb : Binds X.K fd ps []) (hx : ∀ σ, PassesAt CX X σ (WE E σ)) (he : PE X o (rdE C E T1 fo))
    (ht : eval (.Call (.Attribute o m apos) [] [] pos) X.env = (do
      let u0 ← eval o X.env
      standAt apos.atName
      let (fu, fi) ← holding [u0] (getMethod u0 m pl)
      callWith pos fu fi (backTo pos (starEach [] X.env)) (backToKw pos (keywordEach [] X.env))) := by rfl) :
    PE X (.Call (.Attribute o m apos) [] [] pos) (rdE C E (T1 ++ ([] ++ Sl)) (mMeth Sl [] c m n fn fo mNil)) :=
  PE.wk (pe_methS0 (pl := pl) he hc hm F hr hb hx ht) fun σ H Q h => by
    obtain ⟨m0, e1, e2, S, w⟩ := rdMeth h
    refine ⟨m0, e1, e2, S, Want.imp w fun r env w v m' e3 e4 S' s ok => ?_⟩
    obtain ⟨a, dx, fs, q1, q2, q3, q4⟩ := w v m' e3 e4 S' s ok
    exact ⟨a, dx, fs, q1, q2, q3, rdNil q4⟩
def mMake (Sl : List Nat) (c n : Nat) (fn : List O → Rr) (fs : MA) : ME := fun env => (fs env).bind fun rs e =>
  match argsO e rs with
  | some os => if rs.length + 1 = n ∧ (slots rs).Nodup ∧ (∀ x ∈ slots rs, x ∈ Sl) then
      (match fn (.ins c [] [] :: os) with
      | .ok (.s .non) (self :: outs) => if outs.length + 1 = n then .ok self.rr (putOuts e rs outs) else .bad
      | .exc c ds (_ :: outs) => if outs.length + 1 = n then .exc c ds (putOuts e rs outs) else .bad
      | _ => .bad) else .bad
  | none => .bad
theorem make_post {m1 : Mo} {x dx : Addr} {ob1 ob2 : HO} {F' H' : Hp} {fp : Fp} (h1 : m1.H x = none) (h2 : m1.H dx = none) (G : GPost m1.F (upd (upd m1.H dx ob1) x ob2) (x :: fp) F' H') : GPost m1.F m1.H fp F' H' := by
  have ne : ∀ b o, m1.H b = some o → (upd (upd m1.H dx ob1) x ob2) b = some o ∧ b ≠ x := fun b o h => by
    have a1 : b ≠ x := fun z => by subst z; rw [h1] at h; cases h
    have a2 : b ≠ dx := fun z => by subst z; rw [h2] at h; cases h
    exact ⟨by rw [upd_ne a1, upd_ne a2]; exact h, a1⟩
  refine ⟨G.exF, G.ex, fun b o h n => ?_, fun b h => ?_, fun a h n => ?_⟩
  · obtain ⟨q1, q2⟩ := ne b o h
    exact G.keep b o q1 (fun z => (List.mem_cons.mp z).elim q2 n)
  · cases q : m1.H b with
    | none => exact absurd q h
    | some o => exact G.dom b (by rw [(ne b o q).1]; exact fun z => nomatch z)
  · cases q : m1.H a with
    | none => exact .inl rfl
    | some o =>
      obtain ⟨q1, q2⟩ := ne a o q
      rcases G.newF a h n with z | z
      · rw [q1] at z; cases z
      · exact .inr ((List.mem_cons.mp z).resolve_left q2)
theorem rdMake {c : Nat} {σ : L2.St} {H : Hp} {Q : VK} (h : rdE C E (T ++ Sl) (mMake Sl c n fn fs) σ H Q) : tMakeS (C.cl c) (spG C.K C.cl n fn) (WE E) (rdA C E T fs) σ H Q := by
  obtain ⟨m, e1, e2, S, w⟩ := h
  refine ⟨m, e1, e2, S, Want.imp w.bind fun rs env w => fun vs m' e3 e4 S' s ok => ?_⟩
  subst e3
  intro x dx hx hdx hne
  cases ho : argsO m'.env rs with
  | none => rw [ho] at w; exact w.elim
  | some os =>
    rw [ho] at w
    dsimp only at w
    by_cases hc : rs.length + 1 = n ∧ (slots rs).Nodup ∧ (∀ x ∈ slots rs, x ∈ Sl)
    · rw [if_pos hc] at w
      obtain ⟨c1, c2, c3⟩ := hc
      obtain ⟨fp, r1, r2, r3, r4⟩ := args_ok S' ok ho
      have hm : ∀ b o, m'.H b = some o → (upd (upd m'.H dx (.own x)) x (.ins (C.cl c) dx [])) b = some o := fun b o h => by
        have a1 : b ≠ x := fun z => by subst z; rw [hx] at h; cases h
        have a2 : b ≠ dx := fun z => by subst z; rw [hdx] at h; cases h
        rw [upd_ne a1, upd_ne a2]; exact h
      have fpi : ∀ a ∈ fp, a ∈ m'.fps.flatten := fun a ha => by
        obtain ⟨y, f, _, a2, a3⟩ := r2 a ha
        exact mem_fps a2 a3
      have xfp : x ∉ fp := fun z => S'.inH x (fpi x z) hx
      refine ⟨m'.F, .ins c [] [] :: os, x :: fp, by rw [List.length_cons, argsO_len ho, c1], fun b o h => hm b o (S'.ex b o h), ?_, ?_, fun a ha => ?_, ?_⟩
      · refine ⟨_, _, [x], fp, rfl, rfl, ⟨x, dx, [], [], rfl, rfl, upd_same, rfl, rfl, rfl⟩, ?_⟩
        refine r1.mono (Ex.refl _) _ _ _ (fun b hb => ?_)
        cases q : m'.H b with
        | none => exact absurd q (S'.inH b (fpi b hb))
        | some o => exact hm b o q
      · exact List.nodup_cons.mpr ⟨xfp, r3 c2⟩
      · rcases List.mem_cons.mp ha with z | z
        · subst z; exact S'.fNone hx
        · exact S'.df a (fpi a z)
      · have tail : ∀ {F' H' : Hp} {fr fp' : Fp} {self : O} {outs : List O}, GPost m'.F (upd (upd m'.H dx (.own x)) x (.ins (C.cl c) dx [])) (x :: fp) F' H' → GOuts C.K C.cl (upd (upd m'.H dx (.own x)) x (.ins (C.cl c) dx [])) (x :: fp) F' H' (.ref x :: vs) (self :: outs) fr fp' →
            ∃ f g, RpO C.K C.cl F' H' self (.ref x) f ∧ GPost m'.F m'.H fp F' H' ∧ GOuts C.K C.cl m'.H fp F' H' vs outs f g := by
          intro F' H' fr fp' self outs G Go
          obtain ⟨v, r, f, g, ev, rfl, q1, q2⟩ := Go.rp
          cases ev
          have nd := Go.nd
          rw [List.nodup_append] at nd
          refine ⟨f, g, q1, make_post hx hdx G, q2, nd.2.1, fun a ha => Go.fF a (List.mem_append_right _ ha), fun a ha => ?_⟩
          cases q : m'.H a with
          | none => exact .inl rfl
          | some ob =>
            rcases Go.newO a (List.mem_append_right _ ha) with z | z
            · rw [hm a ob q] at z; cases z
            · exact .inr ((List.mem_cons.mp z).resolve_left fun y => by subst y; rw [hx] at q; cases q)
        cases hf : fn (.ins c [] [] :: os) with
        | bad => rw [hf] at w; exact w.elim
        | ok r outs0 =>
          rw [hf] at w
          split at w
          · rename_i self outs heq
            cases heq
            by_cases hl : outs.length + 1 = n
            · rw [if_pos hl] at w
              dsimp only
              intro v F' H' fr fp' G rr Go
              refine ⟨rr.2, ?_⟩
              obtain ⟨f, g, rr2, G2, Go2⟩ := tail G Go
              obtain ⟨m2, S2, s2, q1, q2, q3, q4, q5⟩ := call_ok (os := os) s S' ok r2 r4 c2 c3 G2 Go2 (by omega)
              have q := w (.ref x) m2 q4 (q3.trans e4) S2 s2
              subst q1 q2
              refine q ?_
              have own : RtOk C m2 (Old m) (.own self) (.ref x) := by
                have nd := Go2.nd
                rw [List.nodup_append] at nd
                refine ⟨f, rr2, nd.1, fun a ha => ⟨Go2.fF a (by simp [ha]), (q5 a ha).1, (q5 a ha).2.2, fun z => ?_⟩⟩
                rcases (q5 a ha).2.1 with y | y
                · exact z.1 y
                · exact z.2 y
              cases self with
              | s d => exact rr2.2
              | lst _ => exact own
              | dk _ _ => exact own
              | dt _ _ => exact own
              | ins _ _ _ => exact own
            · rw [if_neg hl] at w; exact w.elim
          · rename_i heq; cases heq
          · exact w.elim
        | exc c' ds outs0 =>
          rw [hf] at w
          split at w
          · rename_i heq; cases heq
          · rename_i c2' ds2 x0 outs heq
            cases heq
            by_cases hl : outs.length + 1 = n
            · rw [if_pos hl] at w
              dsimp only
              intro F' H' dd fp' G Go h1 h2
              obtain ⟨f, g, rr2, G2, Go2⟩ := tail G Go
              obtain ⟨m2, S2, s2, q1, q2, q3, q4, q5⟩ := call_ok (os := os) s S' ok r2 r4 c2 c3 G2 Go2 (by omega)
              subst q1 q2
              have q := w m2 q4 S2 _ s2 dd h1 h2
              rw [q3, e4] at q
              exact q
            · rw [if_neg hl] at w; exact w.elim
          · exact w.elim
    · rw [if_neg hc] at w; exact w.elim
theorem e_make {CX : CXT} {k : Nat} {fa : Addr} {fd : FuncData} {ps : List Str} {x : Str} {p : Pos} (Sl : List Nat) (c : Nat) (M : Mk X.K (C.cl c) fa) (F : FnOk X.prog X.w X.K X.mg X.base CX k fa fd ps (spG C.K C.cl n fn)) (hr : Room (k + 1) X.A) (hg : Gl X x) (hm : X.mg x = some (.ref (C.cl c)))
    (hb : Binds X.K fd ps []) (hx : ∀ σ, PassesAt CX X σ (WE E σ)) (ha : PA X (e :: es) (rdA C E T fs)) (hdb : (x == ("__debug__" : Str)) = false := by decide) (he : starEach (e :: es) X.env = (false, eval e X.env) :: starEach es X.env := by rfl) (hpl : ((backTo pos (starEach es X.env)).any fun z => z.1) = false := by rfl) :
    PE X (.Call (.Name x p) (e :: es) [] pos) (rdE C E (T ++ Sl) (mMake Sl c n fn fs)) :=
  PE.wk (pe_makeS M F hr hg hm hb hx ha hdb he hpl) fun σ H Q h => rdMake h
end
end L3
namespace L3
open PySem L2
section
variable {X : Cx} {C : Cn} {E : WX} {e a b o : Expr} {pos : Pos} {T T1 T2 T3 Sl : List Nat} {fs : MA} {es : List Expr} {f fo f1 f2 : ME} {n : Nat} {fn : List O → Rr}
def roRun (n : Nat) (fn : List O → Rr) (rs : List Rt) (e : Env) : Rs Rt :=
  if rs.length = n ∧ rs.all (fun r => !r.isSl) = true then (match fn (rs.map fun r => .s r.d) with
    | .ok (.s d) _ => if d.flat = true then .ok (.val d) e else .bad
    | .exc c ds _ => if ds.all D.flat = true then .exc c ds e else .bad
    | _ => .bad) else .bad
theorem RtsOk.rds {m : Mo} (S : Sta C m) : ∀ {rs : List Rt} {vs : List V}, RtsOk C m rs vs → rs.all (fun r => !r.isSl) = true → RpOs C.K C.cl m.H m.H (rs.map fun r => .s r.d) vs []
  | [], vs, h, _ => by cases h; exact ⟨rfl, rfl⟩
  | r :: rs, vs, h, q => by
    cases h with
    | cons h t =>
      rw [List.all_cons, Bool.and_eq_true] at q
      exact ⟨_, _, [], [], rfl, rfl, ⟨rfl, h.rd S (by simpa using q.1)⟩, t.rds S q.2⟩
theorem flat_any {K : PySem.W.Frag} {cl : Nat → Addr} {F F' : Hp} {d : D} {v : V} (h : RpD K cl F d v) (hf : d.flat = true) : RpD K cl F' d v := by
  cases d with
  | non => exact h
  | bl b => exact h
  | int b => exact h
  | str b => exact h
  | _ => cases hf
theorem ro_core {σ : L2.St} {Q : VK} {m m' : Mo} {rs : List Rt} {vs : List V} (s : Step T m m') (S' : Sta C m') (ok : RtsOk C m' rs vs) (e4 : m'.σ = σ)
    (w : Want C E m (roRun n fn rs m'.env) fun r env' => ∀ v m', m'.env = env' → m'.σ = σ → Sta C m' → Step T m m' → RtOk C m' (Old m) r v → Q v m'.H) : spG C.K C.cl n fn vs m'.H Q (WE E σ) := by
  unfold roRun at w
  by_cases hc : rs.length = n ∧ rs.all (fun r => !r.isSl) = true
  · rw [if_pos hc] at w
    refine ⟨m'.H, rs.map fun r => .s r.d, [], by simp [hc.1], Ex.refl _, ok.rds S' hc.2, List.nodup_nil, fun a ha => by simp at ha, ?_⟩
    have gro : ∀ {F' H' : Hp}, GPost m'.H m'.H [] F' H' → Gro m' { m' with H := H' } := fun {F' H'} G =>
      ⟨rfl, rfl, rfl, Ex.refl _, fun b o h => G.keep b o h (by simp), fun b o h => G.keep b o (S'.ex b o h) (by simp), fun a h n => absurd n h⟩
    cases hf : fn (rs.map fun r => .s r.d) with
    | bad => rw [hf] at w; exact w.elim
    | ok r outs =>
      rw [hf] at w
      cases r with
      | s d =>
        dsimp only at w ⊢
        by_cases hd : d.flat = true
        · rw [if_pos hd] at w
          intro v F' H' fr fp' G rr Go
          exact w v { m' with H := H' } rfl e4 (S'.gro (gro G)) (step_nil S' s (gro G)) (flat_any rr.2 hd)
        · rw [if_neg hd] at w; exact w.elim
      | lst _ => exact w.elim
      | dk _ _ => exact w.elim
      | dt _ _ => exact w.elim
      | ins _ _ _ => exact w.elim
    | exc c ds outs =>
      rw [hf] at w
      dsimp only at w ⊢
      by_cases hd : ds.all D.flat = true
      · rw [if_pos hd] at w
        intro F' H' dd fp' G Go h1 h2
        have fin := w { m' with H := H' } rfl (S'.gro (gro G)) _ (step_nil S' s (gro G)) dd h1
        dsimp only at fin
        rw [e4] at fin
        refine fin fun d hds => ?_
        obtain ⟨a, v, q1, q2, q3⟩ := h2 d hds
        subst hds
        exact ⟨a, v, q1, q2, flat_any q3 (by simpa using hd)⟩
      · rw [if_neg hd] at w; exact w.elim
  · rw [if_neg hc] at w; exact w.elim
def mRo (n : Nat) (fn : List O → Rr) (fs : MA) : ME := fun env => (fs env).bind fun rs e => roRun n fn rs e
theorem rdRo {σ : L2.St} {H : Hp} {Q : VK} (h : rdE C E T (mRo n fn fs) σ H Q) : rdA C E T fs σ H fun vs H1 => spG C.K C.cl n fn vs H1 Q (WE E σ) := by
  obtain ⟨m, e1, e2, S, w⟩ := h
  refine ⟨m, e1, e2, S, Want.imp w.bind fun rs env w => fun vs m' e3 e4 S' s ok => ?_⟩
  subst e3
  exact ro_core s S' ok e4 w
theorem e_ro {CX : CXT} {k : Nat} {fa : Addr} {fd : FuncData} {ps : List Str} {x : Str} {p : Pos} (F : FnOk X.prog X.w X.K X.mg X.base CX k fa fd ps (spG C.K C.cl n fn)) (hr : Room k X.A) (hg : Gl X x) (hm : X.mg x = some (.ref fa)) (hk : PySem.W.keepIn X.K (.ref fa) = true)
    (hb : Binds X.K fd ps []) (hx : ∀ σ, PassesAt CX X σ (WE E σ)) (ha : PA X (e :: es) (rdA C E T fs)) (hst : starEach (e :: es) X.env = (false, eval e X.env) :: starEach es X.env := by rfl) (hpl : ((backTo pos (starEach es X.env)).any fun x => x.1) = false := by rfl)
    (hdb : (x == ("__debug__" : Str)) = false := by decide) : PE X (.Call (.Name x p) (e :: es) [] pos) (rdE C E T (mRo n fn fs)) :=
  PE.wk (pe_callS F hr hg hm hk hb hx ha hdb hst hpl) fun σ H Q h => rdRo h
def roHas (c : Nat) (mn : Str) : D → Bool
  | .ins c' ns ds => decide (c' = c) && (lk ns ds mn).isNone
  | _ => false
def mMethR (T2 : List Nat) (c : Nat) (mn : Str) (n : Nat) (fn : List O → Rr) (fo : ME) (fs : MA) : ME := fun env => (fo env).bind fun r e1 =>
  if r.isSl = false ∧ r.hot T2 = false ∧ roHas c mn r.d = true then (fs e1).bind fun rs e2 => roRun n fn (r :: rs) e2 else .bad
theorem rdMethR {c : Nat} {mn : Str} {σ : L2.St} {H : Hp} {Q : VK} (h : rdE C E (T1 ++ T2) (mMethR T2 c mn n fn fo fs) σ H Q) :
    tMethS (C.cl c) mn (spG C.K C.cl n fn) (WE E) (rdE C E T1 fo) (rdA C E T2 fs) σ H Q := by
  obtain ⟨m, e1, e2, S, w⟩ := h
  refine ⟨m, e1, e2, S, Want.imp w.bind fun r env w => fun v m1 e3 e4 S1 s1 ok => ?_⟩
  subst e3
  by_cases hh : r.isSl = false ∧ r.hot T2 = false ∧ roHas c mn r.d = true
  · rw [if_pos hh] at w
    obtain ⟨h1, h2, h3⟩ := hh
    have rd := ok.rd S1 h1
    have rc : ∃ a dx fs, v = .ref a ∧ m1.H a = some (.ins (C.cl c) dx fs) ∧ fs.lookup mn = none := by
      unfold roHas at h3
      split at h3
      · rename_i c' ns ds hd
        rw [hd] at rd
        rw [Bool.and_eq_true] at h3
        have hc' : c' = c := by simpa using h3.1
        subst hc'
        obtain ⟨a, dx, xs, rfl, q, l, rr⟩ := rd
        exact ⟨a, dx, _, rfl, q, by rw [lk_zip]; exact lk_none rr.length.symm (by simpa using h3.2)⟩
      · cases h3
    obtain ⟨a, dx, fs', rfl, q1, q2⟩ := rc
    refine ⟨a, dx, fs', rfl, q1, q2, ?_⟩
    refine ⟨m1, rfl, e4, S1, Want.mono w.bind s1 fun rs0 env w => fun vs m2 f1 f2 S2 s2 ok2 => ?_⟩
    subst f1
    have okr := ok.step S1 s2 h2 (f2.trans e4.symm)
    exact ro_core (T := T1 ++ T2) (s1.trans s2) S2 (.cons okr ok2) f2 w
  · rw [if_neg hh] at w; exact w.elim
theorem e_mthR {CX : CXT} {k : Nat} {fa : Addr} {fd : FuncData} {ps : List Str} {m : Str} {apos : Pos} {pl : Sem Bool} (c : Nat) (hc : Cls X.K (C.cl c)) (hm : Meth X.K (C.cl c) m fa) (F : FnOk X.prog X.w X.K X.mg X.base CX k fa fd ps (spG C.K C.cl n fn)) (hr : Room k X.A)
    (hb : Binds X.K fd ps []) (hx : ∀ σ, PassesAt CX X σ (WE E σ)) (he : PE X o (rdE C E T1 fo)) (ha : PA X (e :: es) (rdA C E T2 fs)) (hst : starEach (e :: es) X.env = (false, eval e X.env) :: starEach es X.env := by rfl) (hpl : ((backTo pos (starEach es X.env)).any fun z => z.1) = false := by rfl)
    (ht : eval (.Call (.Attribute o m apos) (e :: es) [] pos) X.env = (do
      let u0 ← eval o X.env
      standAt apos.atName
      let (fu, fi) ← holding [u0] (getMethod u0 m pl)
      callWith pos fu fi (backTo pos (starEach (e :: es) X.env)) (backToKw pos (keywordEach [] X.env))) := by rfl) :
    PE X (.Call (.Attribute o m apos) (e :: es) [] pos) (rdE C E (T1 ++ T2) (mMethR T2 c m n fn fo fs)) :=
  PE.wk (pe_methS (pl := pl) he hc hm F hr hb hx ha hst hpl ht) fun σ H Q h => rdMethR h
theorem e_mthR0 {CX : CXT} {k : Nat} {fa : Addr} {fd : FuncData} {ps : List Str} {m : Str} {apos : Pos} {pl : Sem Bool} (c : Nat) (hc : Cls X.K (C.cl c)) (hm : Meth X.K (C.cl c) m fa) (F : FnOk X.prog X.w X.K X.mg X.base CX k fa fd ps (spG C.K C.cl n fn)) (hr : Room k X.A)
    (hb : Binds X.K fd ps []) (hx : ∀ σ, PassesAt CX X σ (WE E σ)) (he : PE X o (rdE C E T1 fo))
    (ht : eval (.Call (.Attribute o m apos) [] [] pos) X.env = (do
      let u0 ← eval o X.env
      standAt apos.atName
      let (fu, fi) ← holding [u0] (getMethod u0 m pl)
      callWith pos fu fi (backTo pos (starEach [] X.env)) (backToKw pos (keywordEach [] X.env))) := by rfl) :
    PE X (.Call (.Attribute o m apos) [] [] pos) (rdE C E (T1 ++ []) (mMethR [] c m n fn fo mNil)) :=
  PE.wk (pe_methS0 (pl := pl) he hc hm F hr hb hx ht) fun σ H Q h => by
    obtain ⟨m0, e1, e2, S, w⟩ := rdMethR h
    refine ⟨m0, e1, e2, S, Want.imp w fun r env w v m' e3 e4 S' s ok => ?_⟩
    obtain ⟨a, dx, fs, q1, q2, q3, q4⟩ := w v m' e3 e4 S' s ok
    exact ⟨a, dx, fs, q1, q2, q3, rdNil q4⟩
end
def RtFp (C : Cn) (m : Mo) (m0 : Mo) (r : Rt) (v : V) (fp : Fp) : Prop :=
  match r with
  | .own o => RpO C.K C.cl m.F m.H o v fp ∧ fp.Nodup ∧ ∀ a ∈ fp, m.F a = none ∧ a ∉ m.fps.flatten ∧ (C.H0 a = none ∨ a ∈ C.io) ∧ ¬ Old m0 a
  | r => fp = [] ∧ RtOk C m (Old m0) r v
inductive RtsD (C : Cn) (m m0 : Mo) : List Rt → List V → Fp → Prop where
  | nil : RtsD C m m0 [] [] []
  | cons {r : Rt} {v : V} {rs : List Rt} {vs : List V} {f g : Fp} : RtFp C m m0 r v f → RtsD C m m0 rs vs g → (∀ a ∈ f, a ∉ g) → RtsD C m m0 (r :: rs) (v :: vs) (f ++ g)
theorem RtFp.of {C : Cn} {m m0 : Mo} {r : Rt} {v : V} (h : RtOk C m (Old m0) r v) : ∃ f, RtFp C m m0 r v f := by
  cases r with
  | own o => exact h
  | val d => exact ⟨[], rfl, h⟩
  | bor x p o => exact ⟨[], rfl, h⟩
  | sl x => exact ⟨[], rfl, h⟩
theorem RtFp.ok {C : Cn} {m m0 : Mo} {r : Rt} {v : V} {f : Fp} (h : RtFp C m m0 r v f) : RtOk C m (Old m0) r v := by
  cases r with
  | own o => exact ⟨f, h⟩
  | val d => exact h.2
  | bor x p o => exact h.2
  | sl x => exact h.2
def rdD (C : Cn) (E : WX) (T : List Nat) (f : MA) : TA := fun σ H Q => ∃ m : Mo, m.H = H ∧ m.σ = σ ∧ Sta C m ∧
  Want C E m (f m.env) fun rs env' => ∀ vs m' fp, m'.env = env' → m'.σ = σ → Sta C m' → Step T m m' → RtsD C m' m rs vs fp → Q vs m'.H
theorem RtFp.step {C : Cn} {T : List Nat} {m0 m m' : Mo} {r : Rt} {v : V} {f : Fp} (S : Sta C m) (h : RtFp C m m0 r v f) (t : Step T m m') (c : r.hot T = false) (hσ : m'.σ = m.σ) : RtFp C m' m0 r v f := by
  cases r with
  | own o =>
    obtain ⟨r, nd, k⟩ := h
    refine ⟨r.mono t.exF o v f (fun a ha => ?_), nd, fun a ha => ?_⟩
    · obtain ⟨_, k2, _⟩ := k a ha
      cases q : m.H a with
      | none => exact absurd q (r.inH o v f a ha)
      | some o => exact t.keep a o q k2
    · obtain ⟨k1, k2, k3⟩ := k a ha
      have hH := r.inH o v f a ha
      refine ⟨?_, fun z => ?_, k3⟩
      · exact Classical.byContradiction fun w => (t.newF a w k1).elim hH k2
      · exact (t.newO a z).elim hH k2
  | val d => exact ⟨h.1, h.2.step S t c hσ⟩
  | bor x p o => exact ⟨h.1, h.2.step S t c hσ⟩
  | sl x => exact ⟨h.1, h.2.step S t c hσ⟩
section
variable {X : Cx} {C : Cn} {E : WX} {e a b o : Expr} {pos : Pos} {T T1 T2 T3 Sl : List Nat} {fs : MA} {es : List Expr} {f fo f1 f2 : ME} {n : Nat} {fn : List O → Rr}
theorem rdNilD {σ : L2.St} {H : Hp} {Q : List V → Hp → Prop} (h : rdD C E [] mNil σ H Q) : tNil σ H Q := by
  obtain ⟨m, e1, e2, S, w⟩ := h
  subst e1
  exact w [] m [] rfl e2 S (Step.refl _ _) .nil
theorem old_trans {T : List Nat} {m m' : Mo} (s : Step T m m') {a : Addr} (h : Old m a) : Old m' a := ⟨s.dom a h.1, fun z => (s.newO a z).elim h.1 h.2⟩
theorem RtFp.old {m m0 m1 : Mo} {r : Rt} {v : V} {f : Fp} (h : RtFp C m m1 r v f) (k : ∀ a, Old m0 a → Old m1 a) : RtFp C m m0 r v f := by
  cases r with
  | own o => exact ⟨h.1, h.2.1, fun a ha => let ⟨q1, q2, q3, q4⟩ := h.2.2 a ha; ⟨q1, q2, q3, fun z => q4 (k a z)⟩⟩
  | val d => exact ⟨h.1, h.2.av k⟩
  | bor x p o => exact ⟨h.1, h.2.av k⟩
  | sl x => exact ⟨h.1, h.2.av k⟩
theorem RtsD.old {m m0 m1 : Mo} {rs : List Rt} {vs : List V} {f : Fp} (h : RtsD C m m1 rs vs f) (k : ∀ a, Old m0 a → Old m1 a) : RtsD C m m0 rs vs f := by
  induction h with
  | nil => exact .nil
  | cons a _ c ih => exact .cons (a.old k) ih c
theorem RtsD.notOld {m m0 : Mo} {rs : List Rt} {vs : List V} {f : Fp} (h : RtsD C m m0 rs vs f) : ∀ a ∈ f, ¬ Old m0 a := by
  induction h with
  | nil => intro a ha; simp at ha
  | cons a _ _ ih =>
    rename_i r v rs vs f g _ _
    intro b hb
    rcases List.mem_append.mp hb with z | z
    · cases r with
      | own o => exact (a.2.2 b z).2.2.2
      | val d => rw [a.1] at z; simp at z
      | bor x p o => rw [a.1] at z; simp at z
      | sl x => rw [a.1] at z; simp at z
    · exact ih b z
theorem rdConsD {σ : L2.St} {H : Hp} {Q : List V → Hp → Prop} (h : rdD C E (T1 ++ T2) (mCons T2 f fs) σ H Q) : tCons (rdE C E T1 f) (rdD C E T2 fs) σ H Q := by
  obtain ⟨m, e1, e2, S, w⟩ := h
  refine ⟨m, e1, e2, S, Want.imp w.bind fun rx env w => ?_⟩
  intro v m' e3 e4 S' s ok
  by_cases hh : rx.hot T2 = true
  · rw [if_pos hh] at w; exact w.elim
  rw [if_neg hh] at w
  obtain ⟨fr, ok⟩ := RtFp.of ok
  refine ⟨m', rfl, e4, S', ?_⟩
  rw [e3]
  refine Want.mono w.bind s fun ry env2 w => ?_
  intro v2 m2 fp e5 e6 S2 s2 ok2
  refine w (v :: v2) m2 (fr ++ fp) e5 e6 S2 (s.trans s2) (.cons (ok.step S' s2 (by simpa using hh) (e6.trans e4.symm)) (ok2.old fun a ha => old_trans s ha) fun a ha hb => ?_)
  -- what came later is not what was
  refine ok2.notOld a hb ?_
  cases rx with
  | own o => exact ⟨ok.1.inH o v fr a ha, (ok.2.2 a ha).2.1⟩
  | val d => rw [ok.1] at ha; simp at ha
  | bor x p o => rw [ok.1] at ha; simp at ha
  | sl x => rw [ok.1] at ha; simp at ha
theorem d_nil : PA X [] (rdD C E [] mNil) := PA.wk pa_nil fun _ _ _ h => rdNilD h
theorem d_cons (h : PE X e (rdE C E T1 f)) (hs : PA X es (rdD C E T2 fs)) (hst : starEach (e :: es) X.env = (false, eval e X.env) :: starEach es X.env := by rfl) : PA X (e :: es) (rdD C E (T1 ++ T2) (mCons T2 f fs)) :=
  PA.wk (pa_cons h hs hst) fun _ _ _ h => rdConsD h
end
end L3
namespace L3
open PySem L2
theorem RtsD.os {C : Cn} {m m0 : Mo} {rs : List Rt} {vs : List V} {fp : Fp} {os : List O} (h : RtsD C m m0 rs vs fp) : (rs.mapM Rt.o) = some os → RpOs C.K C.cl m.F m.H os vs fp ∧ fp.Nodup ∧ ∀ a ∈ fp, m.F a = none ∧ a ∉ m.fps.flatten ∧ (C.H0 a = none ∨ a ∈ C.io) ∧ ¬ Old m0 a := by
  induction h generalizing os with
  | nil => intro e; cases e; exact ⟨⟨rfl, rfl⟩, List.nodup_nil, fun a ha => by simp at ha⟩
  | cons a _ c ih =>
    rename_i r v rs vs f g _
    intro e
    rw [List.mapM_cons] at e
    cases ho : r.o with
    | none => rw [ho] at e; cases e
    | some o =>
      rw [ho] at e
      cases hr : rs.mapM Rt.o with
      | none => rw [hr] at e; cases e
      | some os' =>
        rw [hr] at e; cases e
        obtain ⟨i1, i2, i3⟩ := ih hr
        have key : RpO C.K C.cl m.F m.H o v f ∧ f.Nodup ∧ ∀ a ∈ f, m.F a = none ∧ a ∉ m.fps.flatten ∧ (C.H0 a = none ∨ a ∈ C.io) ∧ ¬ Old m0 a := by
          cases r with
          | own o' => cases ho; exact a
          | val d => cases ho; obtain ⟨rfl, a⟩ := a; exact ⟨⟨rfl, a⟩, List.nodup_nil, fun b hb => by simp at hb⟩
          | bor x p o' => cases ho
          | sl x => cases ho
        refine ⟨⟨v, vs, f, g, rfl, rfl, key.1, i1⟩, ?_, fun b hb => ?_⟩
        · rw [List.nodup_append]
          exact ⟨key.2.1, i2, fun x hx y hy e => c x hx (by rw [e]; exact hy)⟩
        · rcases List.mem_append.mp hb with z | z
          · exact key.2.2 b z
          · exact i3 b z
def mLstD (fs : MA) : ME := fun env => (fs env).bind fun rs e => match rs.mapM Rt.o with
  | some os => if os.length ≤ 16777216 then .ok (.own (.lst os)) e else .bad
  | none => .bad
section
variable {X : Cx} {C : Cn} {E : WX} {e a b o : Expr} {pos : Pos} {T T1 T2 T3 Sl : List Nat} {fs : MA} {es : List Expr} {f fo f1 f2 f3 : ME} {n : Nat} {fn : List O → Rr} {st : Stmt}
theorem e_lstD (h : PA X es (rdD C E T fs)) : PE X (.List es pos) (rdE C E T (mLstD fs)) := PE.wk (pe_lst h) fun σ H Q ⟨m, e1, e2, S, w⟩ =>
  ⟨m, e1, e2, S, Want.imp w.bind fun rs env w => fun vs m' fp e3 e4 S' s ok => by
    cases hm : rs.mapM Rt.o with
    | none => rw [hm] at w; exact w.elim
    | some os =>
      rw [hm] at w
      dsimp only at w
      by_cases hz : os.length ≤ 16777216
      · rw [if_pos hz] at w
        obtain ⟨r, nd, k⟩ := ok.os hm
        refine ⟨by rw [r.length, sizeLine_is]; exact hz, fun p hp => ?_⟩
        have G := gro_own (o := .lst vs) S' hp
        have pf : p ∉ fp := fun z => r.inH os vs fp p z hp
        refine w (.ref p) { m' with H := upd m'.H p (.lst vs) } (e3 : _ = env) e4 (S'.gro G) (step_nil S' s G) ⟨p :: fp, ⟨p, vs, fp, rfl, rfl, upd_same, r.upd pf⟩, List.nodup_cons.mpr ⟨pf, nd⟩, fun b hb => ?_⟩
        rcases List.mem_cons.mp hb with z | z
        · subst z
          exact ⟨S'.fNone hp, fun z => S'.inH b z hp, .inl (S'.h0None hp), fun z => s.dom b z.1 hp⟩
        · exact k b z
      · rw [if_neg hz] at w; exact w.elim⟩
def storeL : List Nat → List Rt → Env → Option Env
  | [], [], e => some e
  | i :: is, r :: rs, e => match r.o with
    | some o => storeL is rs (e.set i (some o))
    | none => none
  | _, _, _ => none
def setL : L2.St → List Nat → List V → L2.St
  | σ, i :: is, v :: vs => setL (σ.set i (some v)) is vs
  | σ, _, _ => σ
theorem RtFp.put {m m0 : Mo} {r : Rt} {v w : V} {f g : Fp} {i : Nat} {o : O} (h : RtFp C m m0 r v g) (hr : ∃ o, r.o = some o) (d : ∀ a ∈ f, a ∉ g) : RtFp C (m.put m.F m.H i o w f) m0 r v g := by
  cases r with
  | own o' =>
    refine ⟨h.1, h.2.1, fun a ha => ?_⟩
    obtain ⟨k1, k2, k3⟩ := h.2.2 a ha
    refine ⟨k1, fun z => ?_, k3⟩
    rcases mem_flat_set z with y | ⟨j, f', _, e, y⟩
    · exact d a y ha
    · exact k2 (mem_fps e y)
  | val d' => exact h
  | bor x p o' => obtain ⟨_, z⟩ := hr; cases z
  | sl x => obtain ⟨_, z⟩ := hr; cases z
theorem RtsD.put {m m0 : Mo} {rs : List Rt} {vs : List V} {w : V} {f g : Fp} {i : Nat} {o : O} (h : RtsD C m m0 rs vs g) : (∀ r ∈ rs, ∃ o, r.o = some o) → (∀ a ∈ f, a ∉ g) → RtsD C (m.put m.F m.H i o w f) m0 rs vs g := by
  induction h with
  | nil => intro _ _; exact .nil
  | cons a _ c ih =>
    intro h1 h2
    exact .cons (a.put (h1 _ (by simp)) fun b hb z => h2 b hb (by simp [z])) (ih (fun r hr => h1 r (by simp [hr])) fun b hb z => h2 b hb (by simp [z])) c
theorem storeL_o : ∀ {is : List Nat} {rs : List Rt} {e e' : Env}, storeL is rs e = some e' → ∀ r ∈ rs, ∃ o, r.o = some o
  | [], [], e, e', _ => fun r hr => by simp at hr
  | [], _ :: _, e, e', h => by cases h
  | _ :: _, [], e, e', h => by cases h
  | i :: is, r :: rs, e, e', h => by
    unfold storeL at h
    cases ho : r.o with
    | none => rw [ho] at h; cases h
    | some o =>
      rw [ho] at h
      intro r' hr'
      rcases List.mem_cons.mp hr' with z | z
      · rw [z]; exact ⟨o, ho⟩
      · exact storeL_o h r' z
theorem stores {m0 : Mo} : ∀ {is : List Nat} {m : Mo} {T : List Nat} {rs : List Rt} {vs : List V} {fp : Fp} {env' : Env}, Step T m0 m → Sta C m → RtsD C m m0 rs vs fp → storeL is rs m.env = some env' → (∀ i ∈ is, i < C.n ∧ i ∉ C.IO) →
    vs.length = is.length ∧ ∃ m', m'.env = env' ∧ m'.H = m.H ∧ m'.σ = setL m.σ is vs ∧ Sta C m' ∧ Step (T ++ is) m0 m'
  | [], m, T, rs, vs, fp, env', s, S, ok, h, hi => by
    cases ok with
    | nil =>
      have h : some m.env = some env' := h
      cases h
      exact ⟨rfl, m, rfl, rfl, rfl, S, by simpa using s⟩
    | cons _ _ _ => cases h
  | i :: is, m, T, rs, vs, fp, env', s, S, ok, h, hi => by
    cases ok with
    | nil => cases h
    | cons a b c =>
      rename_i r v rs vs f g
      have hall := storeL_o h
      unfold storeL at h
      cases ho : r.o with
      | none => rw [ho] at h; cases h
      | some o =>
        rw [ho] at h
        have h : storeL is rs (m.env.set i (some o)) = some env' := h
        obtain ⟨hn, hIO⟩ := hi i (by simp)
        have hi' : i < m.fps.length := by rw [S.l2, S.ln]; exact hn
        have hf := List.getElem?_eq_getElem hi'
        have key : RpO C.K C.cl m.F m.H o v f ∧ f.Nodup ∧ ∀ a ∈ f, m.F a = none ∧ a ∉ m.fps.flatten ∧ (C.H0 a = none ∨ a ∈ C.io) ∧ ¬ Old m0 a := by
          cases r with
          | own o' => cases ho; exact a
          | val d => cases ho; obtain ⟨rfl, a⟩ := a; exact ⟨⟨rfl, a⟩, List.nodup_nil, fun b hb => by simp at hb⟩
          | bor x p o' => cases ho
          | sl x => cases ho
        obtain ⟨S2, s2⟩ := put (i := i) (v' := v) s S hf (Ex.refl _) S.ex (fun _ _ h _ => h) (fun _ h => h) (fun a h n => absurd n h) key.1 key.2.1 (fun a h => (key.2.2 a h).1) (fun a h => .inr (.inr ⟨fun j f' e z => (key.2.2 a h).2.1 (mem_fps e z), by
          have q := (key.2.2 a h).2.2.2
          by_cases y : m0.H a = none
          · exact .inl y
          · exact .inr (Classical.byContradiction fun w => q ⟨y, w⟩), (key.2.2 a h).2.2.1⟩)) fun z => absurd z hIO
        obtain ⟨l, m', p1, p2, p3, p4, p5⟩ := stores (is := is) s2 S2 (b.put (fun r' hr' => hall r' (by simp [hr'])) c) h (fun j hj => hi j (by simp [hj]))
        exact ⟨by simp [l], m', p1, p2, p3, p4, by simpa using p5⟩
def msPar (is : List Nat) (fs : MA) : MS := fun env => (fs env).bind fun rs e => match storeL is rs e with
  | some e' => .ok .nx e'
  | none => .bad
theorem par_rd {is : List Nat} {D : Ends} {σ : L2.St} {H : Hp} (hi : ∀ i ∈ is, i < C.n ∧ i ∉ C.IO) (h : rdS C E (T ++ is) (msPar is fs) D σ H) : rdD C E T fs σ H fun vs H1 => vs.length = is.length ∧ D.nx (setL σ is vs) H1 := by
  obtain ⟨m, e1, e2, S, w⟩ := h
  refine ⟨m, e1, e2, S, Want.imp w.bind fun rs env w => fun vs m' fp e3 e4 S' s ok => ?_⟩
  subst e3
  cases hs : storeL is rs m'.env with
  | none => rw [hs] at w; exact w.elim
  | some env' =>
    rw [hs] at w
    obtain ⟨l, m2, p1, p2, p3, p4, p5⟩ := stores (T := T) s S' ok hs hi
    refine ⟨l, ?_⟩
    have := w m2 p1 p4 p5
    rw [← e4, ← p2, ← p3]
    exact this
theorem s_par2 {i j : Nat} (hi : ∀ x ∈ [i, j], x < C.n ∧ x ∉ C.IO) (h : PS X st (tPar i j (rdD C E T fs))) : PS X st (rdS C E (T ++ [i, j]) (msPar [i, j] fs)) := PS.wk h fun D σ H h => by
  obtain ⟨m, e1, e2, S, w⟩ := par_rd hi h
  refine ⟨m, e1, e2, S, Want.imp w fun rs env w => fun vs m' fp e3 e4 S' s ok => ?_⟩
  obtain ⟨l, q⟩ := w vs m' fp e3 e4 S' s ok
  match vs, l, q with
  | [v, w], _, q => exact ⟨v, w, rfl, q⟩
theorem s_par3 {i j k : Nat} (hi : ∀ x ∈ [i, j, k], x < C.n ∧ x ∉ C.IO) (h : PS X st (tPar3 i j k (rdD C E T fs))) : PS X st (rdS C E (T ++ [i, j, k]) (msPar [i, j, k] fs)) := PS.wk h fun D σ H h => by
  obtain ⟨m, e1, e2, S, w⟩ := par_rd hi h
  refine ⟨m, e1, e2, S, Want.imp w fun rs env w => fun vs m' fp e3 e4 S' s ok => ?_⟩
  obtain ⟨l, q⟩ := w vs m' fp e3 e4 S' s ok
  match vs, l, q with
  | [u, v, w], _, q => exact ⟨u, v, w, rfl, q⟩
theorem sets_names : ∀ {is : List Nat} {vs : List V} {σ : L2.St} {H : Hp} {Q : L2.St → Hp → Prop}, vs.length = is.length → Q (setL σ is vs) H → (is.foldr (fun i gs => gCons (gName i) gs) gNil) vs σ H Q
  | [], vs, σ, H, Q, l, q => by
    have : vs = [] := List.eq_nil_of_length_eq_zero l
    subst this
    exact ⟨rfl, q⟩
  | i :: is, [], σ, H, Q, l, q => by simp at l
  | i :: is, v :: vs, σ, H, Q, l, q => ⟨v, vs, rfl, sets_names (is := is) (by simpa using l) q⟩
theorem RtFp.gro {m m' m0 : Mo} {r : Rt} {v : V} {f : Fp} (S : Sta C m) (h : RtFp C m m0 r v f) (g : Gro m m') : RtFp C m' m0 r v f :=
  h.step S (g.step S) (by cases r <;> simp [Rt.hot]) g.σ
theorem RtsD.gro {m m' m0 : Mo} {rs : List Rt} {vs : List V} {f : Fp} (S : Sta C m) (h : RtsD C m m0 rs vs f) (g : Gro m m') : RtsD C m' m0 rs vs f := by
  induction h with
  | nil => exact .nil
  | cons a _ c ih => exact .cons (a.gro S g) ih c
theorem s_parN {is : List Nat} {k : Nat} (hk : k = is.length) (hz : is.length ≤ 1000) (hi : ∀ i ∈ is, i < C.n ∧ i ∉ C.IO) (h : PS X st (tAsg (tTup (rdD C E T fs)) (L2.gTup C.K k (is.foldr (fun i gs => gCons (gName i) gs) gNil)))) : PS X st (rdS C E (T ++ is) (msPar is fs)) := PS.wk h fun D σ H h => by
  obtain ⟨m, e1, e2, S, w⟩ := h
  refine ⟨m, e1, e2, S, Want.imp w.bind fun rs env w => fun vs m' fp e3 e4 S' s ok => ?_⟩
  subst e3
  cases hs : storeL is rs m'.env with
  | none => rw [hs] at w; exact w.elim
  | some env' =>
    rw [hs] at w
    have l0 := (stores (T := T) s S' ok hs hi).1
    refine ⟨by rw [l0, sizeLine_is]; omega, fun p hp => ?_⟩
    have G := gro_own (o := .tup vs) S' hp
    obtain ⟨l, m2, p1, p2, p3, p4, p5⟩ := stores (T := T) (m := { m' with H := upd m'.H p (.tup vs) }) (step_nil S' s G) (S'.gro G) (ok.gro S' G) hs hi
    refine ⟨p, vs, rfl, .inl (.inl upd_same), by rw [l, hk], sets_names l ?_⟩
    have := w m2 p1 p4 p5
    have q : D.nx m2.σ m2.H := this
    rw [p2, p3] at q
    rw [← e4]
    exact q
def msAug (i : Nat) (g : Rt → Rt → Option Rt) (f : ME) : MS := fun env => match env[i]? with
  | some (some (.s d)) => (f env).bind fun r e => match (g (.val d) r).bind Rt.o with
    | some o => .ok .nx (e.set i (some o))
    | none => .bad
  | _ => .bad
theorem s_aug (i : Nat) {g : Rt → Rt → Option Rt} {ti : TIp} (L : Loc2 C ti g) (hi : i < C.n) (hIO : i ∉ C.IO) (h : PS X st (tAug i (rdE C E T f) ti)) : PS X st (rdS C E (T ++ [i]) (msAug i g f)) := PS.wk h fun D σ H ⟨m, e1, e2, S, w⟩ => by
  subst e1 e2
  unfold msAug at w
  cases he : m.env[i]? with
  | none => rw [he] at w; exact w.elim
  | some oo =>
    cases oo with
    | none => rw [he] at w; exact w.elim
    | some o0 =>
      cases o0 with
      | s d =>
        rw [he] at w
        obtain ⟨v, f0, s1, s2, rfl, r⟩ := S.slot he
        refine ⟨v, s1, m, rfl, rfl, S, Want.imp w.bind fun ry env w => fun y m' e3 e4 S' s ok => ?_⟩
        subst e3
        cases hg : g (.val d) ry with
        | none => rw [hg] at w; exact w.elim
        | some rz =>
          rw [hg] at w
          refine L m' v y (.val d) ry rz (fun _ => True) _ _ S' (RpD.mono s.exF _ _ r) ok hg fun z m2 G ok2 => ?_
          simp only [Option.bind_some] at w
          cases ho : rz.o with
          | none => rw [ho] at w; exact w.elim
          | some o =>
            rw [ho] at w
            obtain ⟨fp, S3, s3⟩ := store_rd (i := i) (step_nil S' s G) (S'.gro G) (ok2.av (old_new s)) ho (by rw [(S'.gro G).ln]; exact hi) hIO
            have := w _ (by show m2.env.set i (some o) = _; rw [G.env]) S3 s3
            have q : D.nx (m2.σ.set i (some z)) m2.H := this
            rw [G.σ, e4] at q
            exact q
      | lst _ => rw [he] at w; exact w.elim
      | dk _ _ => rw [he] at w; exact w.elim
      | dt _ _ => rw [he] at w; exact w.elim
      | ins _ _ _ => rw [he] at w; exact w.elim
end
end L3
namespace L3
open PySem L2
def wipeE : Env → List Nat → Env
  | e, [] => e
  | e, v :: vs => wipeE (e.set v none) vs
def Mo.reset (m : Mo) (vs : List Nat) (σ' : L2.St) : Mo := { fgs m vs with σ := σ' }
theorem fgs_env : ∀ {vs : List Nat} {m : Mo}, (fgs m vs).env = wipeE m.env vs
  | [], m => rfl
  | v :: vs, m => fgs_env (vs := vs) (m := m.fg v)
theorem wipeE_none : ∀ {vs : List Nat} {e : Env} {i : Nat}, i ∈ vs → i < e.length → (wipeE e vs)[i]? = some none
  | [], e, i, h, _ => by simp at h
  | v :: vs, e, i, h, hl => by
    show (wipeE (e.set v none) vs)[i]? = some none
    by_cases q : i ∈ vs
    · exact wipeE_none q (by rw [List.length_set]; exact hl)
    · have hv : i = v := (List.mem_cons.mp h).resolve_right q
      subst hv
      have z : ∀ {vs : List Nat} {e : Env}, i ∉ vs → e[i]? = some none → (wipeE e vs)[i]? = some none := by
        intro vs
        induction vs with
        | nil => intro e _ h; exact h
        | cons v vs ih =>
          intro e hn h
          refine ih (fun q => hn (by simp [q])) ?_
          rw [List.getElem?_set_ne (fun q => hn (by simp [q]))]; exact h
      exact z q (by rw [List.getElem?_set_self hl])
theorem Sta.resig {C : Cn} {m : Mo} {σ' : L2.St} (S : Sta C m) (hl : σ'.length = m.σ.length) (h : ∀ i : Nat, σ'[i]? = m.σ[i]? ∨ m.env[i]? = some none) (hp : ∀ i ∈ C.IO, σ'[i]? = m.σ[i]?) : Sta C { m with σ := σ' } :=
  ⟨S.ln, by show σ'.length = _; rw [hl]; exact S.l1, S.l2, fun i o s f h1 h2 h3 => by
    rcases h i with e | e
    · exact S.sl i o s f h1 (by rw [← e]; exact h2) h3
    · have h1 : m.env[i]? = some o := h1
      rw [e] at h1; cases h1
      obtain ⟨o', s', q1, q2, q3⟩ := S.slotF h3
      rw [e] at q1; cases q1
      exact q3, S.ex, S.exF, S.newF, S.nd, S.dj, S.df, S.own, S.frame, S.dom, fun i hi => by show σ'[i]? = _; rw [hp i hi]; exact S.pin i hi⟩
theorem Step.resig {m0 m : Mo} {T : List Nat} {σ' : L2.St} (s : Step T m0 m) (h : ∀ i : Nat, i ∉ T → σ'[i]? = m.σ[i]?) : Step T m0 { m with σ := σ' } :=
  ⟨s.exF, s.keep, s.dom, s.newF, s.newO, s.len, fun i hi => by
    obtain ⟨u1, u2, u3, u4⟩ := s.unt i hi
    exact ⟨u1, u2, (h i hi).trans u3, u4⟩⟩
theorem reset_ok {C : Cn} {T : List Nat} {m0 m : Mo} {vs : List Nat} {σ' : L2.St} (s : Step T m0 m) (S : Sta C m) (hvs : ∀ v ∈ vs, v ∉ C.IO) (hl : σ'.length = m.σ.length) (h : ∀ j, j ∉ vs → σ'[j]? = m.σ[j]?) :
    Sta C (m.reset vs σ') ∧ Step (T ++ vs) m0 (m.reset vs σ') ∧ (m.reset vs σ').F = m.F ∧ (m.reset vs σ').H = m.H ∧ (m.reset vs σ').env = wipeE m.env vs ∧ ∀ a ∈ (m.reset vs σ').fps.flatten, a ∈ m.fps.flatten := by
  obtain ⟨S1, s1, e1, e2, e3, k, _⟩ := fgs_ok (xs := vs) s S
  have q1 : ∀ i : Nat, σ'[i]? = (fgs m vs).σ[i]? ∨ (fgs m vs).env[i]? = some none := fun i => by
    by_cases q : i ∈ vs
    · by_cases hi : i < m.env.length
      · right; rw [fgs_env]; exact wipeE_none q hi
      · left
        rw [e3, List.getElem?_eq_none (by rw [hl, S.l1]; omega), List.getElem?_eq_none (by rw [S.l1]; omega)]
    · left; rw [e3]; exact h i q
  exact ⟨S1.resig (by rw [hl, e3]) q1 (fun i hi => by rw [e3]; exact h i fun z => hvs i z hi), s1.resig (fun i hi => by rw [e3]; exact h i fun z => hi (by simp [z])), e1, e2, fgs_env, fun a ha => by
    obtain ⟨j, f, _, e, z⟩ := k a ha
    exact mem_fps e z⟩
theorem Sta.junk {C : Cn} {m : Mo} {d : Addr} {o : HO} (S : Sta C m) (hF : m.F d = none) (hp : d ∉ m.fps.flatten) (h0 : C.H0 d = none) : Sta C { m with H := upd m.H d o } :=
  ⟨S.ln, S.l1, S.l2, fun i oo s f h1 h2 h3 => by
    have q := S.sl i oo s f h1 h2 h3
    cases oo with
    | none => exact q
    | some t =>
      obtain ⟨v, e, r⟩ := q
      exact ⟨v, e, r.upd fun z => hp (mem_fps h3 z)⟩, fun a u h => by
    show upd m.H d o a = _
    rw [upd_ne (fun z => by subst z; rw [hF] at h; cases h)]; exact S.ex a u h, S.exF, S.newF, S.nd, S.dj, S.df, S.own, fun b u h n => by
    show upd m.H d o b = _
    rw [upd_ne (fun z => by subst z; rw [h0] at h; cases h)]; exact S.frame b u h n, fun b h => by
    show upd m.H d o b ≠ _
    rw [upd_ne (fun z => by subst z; exact h h0)]; exact S.dom b h, S.pin⟩
theorem Step.junk {C : Cn} {T : List Nat} {m0 m : Mo} {d : Addr} {o : HO} (S0 : Sta C m0) (s : Step T m0 m) (h0 : m0.H d = none) : Step T m0 { m with H := upd m.H d o } :=
  ⟨s.exF, fun b u h n => by
    show upd m.H d o b = _
    rw [upd_ne (fun z => by subst z; rw [h0] at h; cases h)]; exact s.keep b u h n, fun b h => by
    show upd m.H d o b ≠ _
    rw [upd_ne (fun z => by subst z; exact h h0)]; exact s.dom b h, s.newF, s.newO, s.len, fun i hi => by
    obtain ⟨u1, u2, u3, u4⟩ := s.unt i hi
    refine ⟨u1, u2, u3, fun f hf a ha => ?_⟩
    show upd m.H d o a = _
    rw [upd_ne (fun z => by subst z; exact S0.inH a (mem_fps hf ha) h0)]; exact u4 f hf a ha⟩
theorem wipe_get {σ : L2.St} : ∀ {vs : List Nat} {i : Nat}, i ∉ vs → (wipe σ vs)[i]? = σ[i]?
  | [], i, _ => rfl
  | v :: vs, i, h => by
    show ((wipe σ vs).set v none)[i]? = _
    rw [List.getElem?_set_ne (fun z => h (by simp [z]))]
    exact wipe_get fun z => h (by simp [z])
theorem wipe_in {σ : L2.St} : ∀ {vs : List Nat} {i : Nat}, i ∈ vs → i < σ.length → (wipe σ vs)[i]? = some none
  | [], i, h, _ => by simp at h
  | v :: vs, i, h, hl => by
    show ((wipe σ vs).set v none)[i]? = _
    by_cases q : v = i
    · subst q; rw [List.getElem?_set_self (by rw [wipe_length]; exact hl)]
    · rw [List.getElem?_set_ne q]
      exact wipe_in ((List.mem_cons.mp h).resolve_left fun z => q z.symm) hl
theorem wipe_ext {σ σ' : L2.St} {vs : List Nat} (hl : σ'.length = σ.length) (h : ∀ j, j ∉ vs → σ'[j]? = σ[j]?) : wipe σ' vs = wipe σ vs := by
  apply List.ext_getElem?
  intro i
  by_cases q : i ∈ vs
  · by_cases z : i < σ.length
    · rw [wipe_in q z, wipe_in q (by rw [hl]; exact z)]
    · rw [List.getElem?_eq_none (by rw [wipe_length, hl]; omega), List.getElem?_eq_none (by rw [wipe_length]; omega)]
  · rw [wipe_get q, wipe_get q, h i q]
def lcL (vs : List Nat) (set : D → Env → Option Env) (t : MT) (f : ME) : List D → Env → Rs (List D)
  | [], e => .ok [] e
  | d :: ds, e => match set d (wipeE e vs) with
    | none => .bad
    | some e1 => (t e1).bind fun b e2 => if b = true then (f e2).bind fun r e3 => (match r with
      | .val y => (lcL vs set t f ds e3).bind fun ys e4 => .ok (y :: ys) e4
      | _ => .bad) else lcL vs set t f ds e2
def mLc (Tb vs : List Nat) (set : D → Env → Option Env) (fi : MI) (t : MT) (f : ME) : ME := fun env => (fi env).bind fun src e => if src.hot Tb then .bad else if src.items.length ≤ 16777216 then
  (lcL vs set t f src.items e).bind fun ys e2 => .ok (.own (.lst (ys.map O.s))) (wipeE e2 vs) else .bad
def mYes : MT := fun env => .ok true env
section
variable {X : Cx} {C : Cn} {E : WX} {e a b tg : Expr} {pos : Pos} {T T1 T2 T3 Tt vs : List Nat} {fs : MA} {es : List Expr} {f f1 f2 : ME} {g : MS} {t : MT} {st : Stmt}
theorem PTs.wk {es : List Expr} {t t' : TT} (h : PTs X es t) (w : ∀ σ H Q, t' σ H Q → t σ H Q) : PTs X es t' := ⟨fun pins s σ H Q I q => h.run pins s σ H Q I (w σ H Q q)⟩
theorem ts_nil : PTs X [] (rdT C E [] mYes) := PTs.wk pts_nil fun σ H Q ⟨m, e1, e2, S, w⟩ => by
  subst e1
  exact w m rfl e2 S (Step.refl _ _)
theorem ts_one (h : PT X e (rdT C E T t)) : PTs X [e] (rdT C E T t) := pts_one h
theorem rdLc {set : D → Env → Option Env} {gt : TG} {fi : MI} {σ : L2.St} {H : Hp} {Q : VK} (hg : TgOk C gt Tt set) (hTt : ∀ i ∈ Tt, i ∈ vs) (hvs : ∀ i ∈ vs, i ∉ C.IO)
    (h : rdE C E (T1 ++ (vs ++ (Tt ++ (T2 ++ T3)))) (mLc (vs ++ (Tt ++ (T2 ++ T3))) vs set fi t f) σ H Q) : tLc (rdI C E T1 fi) gt (rdT C E T2 t) (rdE C E T3 f) vs σ H Q := by
  obtain ⟨m, e1, e2, S, w⟩ := h
  refine ⟨m, e1, e2, S, Want.imp w.bind fun src env w => fun J m1 e3 e4 S1 s1 jok => ?_⟩
  generalize hTb : vs ++ (Tt ++ (T2 ++ T3)) = Tb at w
  have tbv : ∀ i ∈ vs, i ∈ Tb := fun i hi => by rw [← hTb]; simp [hi]
  by_cases hh : src.hot Tb = true
  · rw [if_pos hh] at w; exact w.elim
  rw [if_neg hh] at w
  by_cases hz : src.items.length ≤ 16777216
  rotate_left
  · rw [if_neg hz] at w; exact w.elim
  rw [if_pos hz] at w
  have w := Want.bind w
  have hdep : ∀ x, src.dep = some x → x ∉ Tb := fun x hx z => hh (by unfold Src.hot; rw [hx]; simpa using z)
  subst e3
  intro d hd
  have dF : m1.F d = none := S1.fNone hd
  have d0 : C.H0 d = none := S1.h0None hd
  -- what stays true between the turns
  refine ⟨fun i n H' => n = src.items.length - i ∧ i ≤ src.items.length ∧ ∃ (m2 : Mo) (ds : List D) (xs : List V), m2.H = H' ∧ m2.σ.length = σ.length ∧ (∀ j, j ∉ vs → m2.σ[j]? = σ[j]?) ∧ Sta C m2 ∧ Step Tb m1 m2 ∧ m2.H d = some (.lst xs) ∧ m2.F d = none ∧ d ∉ m2.fps.flatten ∧
    RpDs C.K C.cl m2.F ds xs ∧ ds.length ≤ i ∧ Want C E m (lcL vs set t f (src.items.drop i) m2.env) fun ys env' => ∀ (m3 : Mo) (xs' : List V), m3.env = env' → m3.σ.length = σ.length → (∀ j, j ∉ vs → m3.σ[j]? = σ[j]?) → Sta C m3 → Step Tb m1 m3 → m3.H d = some (.lst xs') → m3.F d = none → d ∉ m3.fps.flatten →
      RpDs C.K C.cl m3.F (ds ++ ys) xs' → Q (.ref d) m3.H, ⟨_, rfl, Nat.zero_le _, { m1 with H := upd m1.H d (.lst []) }, [], [], rfl, by rw [← e4], fun j _ => by rw [← e4], S1.gro (gro_own S1 hd), ((gro_own S1 hd).step S1).wk (by simp), upd_same, dF, fun z => S1.inH d z hd, rfl, Nat.le_refl _, ?_⟩, ?_⟩
  · rw [List.drop_zero]
    refine Want.imp w fun ys env' w m3 xs' a1 a2 a3 a4 a5 a6 a7 a8 a9 => ?_
    -- the end
    obtain ⟨S4, s4, b1, b2, b3, b4⟩ := reset_ok (σ' := σ) a5 a4 hvs (by rw [a2]) (fun j hj => (a3 j hj).symm)
    rw [List.nil_append] at a9
    have s5 : Step (T1 ++ Tb) m (m3.reset vs σ) := (s1.trans s4).wk fun i hi => by
      simp only [List.mem_append] at hi ⊢
      rcases hi with z | z | z
      · exact .inl z
      · exact .inr z
      · exact .inr (tbv i z)
    have := w (.ref d) (m3.reset vs σ) (by rw [b3, a1]) rfl S4 (hTb ▸ s5) ⟨[d], ⟨d, xs', [], rfl, rfl, by rw [b2]; exact a6, by rw [b1]; exact a9.os⟩, by simp, fun a ha => by
      have ha : a = d := by simpa using ha
      subst ha
      exact ⟨by rw [b1]; exact a7, fun z => a8 (b4 a z), .inl d0, fun z => s1.dom a z.1 hd⟩⟩
    rw [b2] at this
    exact this
  · rintro i n H' ⟨rfl, hi, m2, ds, xs, rfl, hl, hσ, S2, s2, hD, hF, hp, r2, hds, w2⟩
    have hdepJ : ∀ x, src.dep = some x → x ∉ Tb := hdep
    obtain ⟨j1, j2⟩ := jok m2 Tb S2 s2 rfl hdepJ i
    by_cases hlt : i < src.items.length
    · obtain ⟨go, yl⟩ := j1 src.items[i] (List.getElem?_eq_getElem hlt)
      rw [List.drop_eq_getElem_cons hlt] at w2
      unfold lcL at w2
      refine .inr ⟨go, fun H' => ∃ (m3 : Mo) (ds : List D) (xs : List V), m3.H = H' ∧ m3.σ.length = σ.length ∧ (∀ j, j ∉ vs → m3.σ[j]? = σ[j]?) ∧ Sta C m3 ∧ Step Tb m1 m3 ∧ m3.H d = some (.lst xs) ∧ m3.F d = none ∧ d ∉ m3.fps.flatten ∧
        RpDs C.K C.cl m3.F ds xs ∧ ds.length ≤ i + 1 ∧ Want C E m (lcL vs set t f (src.items.drop (i + 1)) m3.env) fun ys env' => ∀ (m3 : Mo) (xs' : List V), m3.env = env' → m3.σ.length = σ.length → (∀ j, j ∉ vs → m3.σ[j]? = σ[j]?) → Sta C m3 → Step Tb m1 m3 → m3.H d = some (.lst xs') → m3.F d = none → d ∉ m3.fps.flatten →
          RpDs C.K C.cl m3.F (ds ++ ys) xs' → Q (.ref d) m3.H, fun H' q => ⟨_, by omega, rfl, hlt, q⟩, fun x H' y => ?_⟩
      obtain ⟨m3, rfl, G, rx⟩ := yl x H' y
      have s3 : Step Tb m1 m3 := step_nil S2 s2 G
      have S3 := S2.gro G
      have wl : (wipe σ vs).length = m3.σ.length := by rw [wipe_length, G.σ, hl]
      obtain ⟨S4, s4, b1, b2, b3, b4⟩ := reset_ok (σ' := wipe σ vs) s3 S3 hvs wl (fun j hj => by rw [wipe_get hj, G.σ]; exact (hσ j hj).symm)
      have s4 : Step Tb m1 (m3.reset vs (wipe σ vs)) := s4.wk fun i hi => (List.mem_append.mp hi).elim id (tbv i)
      have s24 : Step vs m2 (m3.reset vs (wipe σ vs)) := by
        have := (reset_ok (σ' := wipe σ vs) (G.step S2) S3 hvs wl (fun j hj => by rw [wipe_get hj, G.σ]; exact (hσ j hj).symm)).2.1
        simpa using this
      cases hs : set src.items[i] (wipeE m2.env vs) with
      | none => rw [hs] at w2; exact w2.elim
      | some e1' =>
        rw [hs] at w2
        have w2 := Want.bind w2
        have dne : m2.H d ≠ none := by rw [hD]; exact fun z => nomatch z
        rw [← b2]
        refine hg (m3.reset vs (wipe σ vs)) _ x e1' _ S4 (by rw [b1]; exact rx) (by rw [b3, G.env]; exact hs) fun m4 a1 a2 a3 a4 => ?_
        have s5 : Step (Tb ++ Tt) m1 m4 := a4 _ _ s4
        have s5 : Step Tb m1 m4 := s5.wk fun i hi => (List.mem_append.mp hi).elim id fun z => tbv i (hTt i z)
        have s25 : Step (vs ++ Tt) m2 m4 := a4 _ _ s24
        have sig4 : m4.σ.length = σ.length ∧ ∀ j, j ∉ vs → m4.σ[j]? = σ[j]? := by
          have q := a4 [] _ (Step.refl [] (m3.reset vs (wipe σ vs)))
          refine ⟨?_, fun j hj => ?_⟩
          · rw [a3.l1, q.len, ← S4.l1]; exact wipe_length σ vs
          · rw [(q.unt j (by simpa using fun z => hj (hTt j z))).2.2.1]
            show (wipe σ vs)[j]? = _
            exact wipe_get hj
        refine ⟨wipe_ext sig4.1 sig4.2, m4, rfl, rfl, a3, ?_⟩
        rw [a1]
        refine Want.mono w2 (s1.trans s5) fun b env' w m5 c1 c2 S5 s6 => ?_
        subst c1
        have s7 : Step Tb m1 m5 := (s5.trans s6).wk fun i hi => (List.mem_append.mp hi).elim id fun z => by rw [← hTb]; simp [z]
        have s27 := s25.trans s6
        have d7 : m5.H d = some (.lst xs) := s27.keep d _ hD hp
        have F7 : m5.F d = none := Classical.byContradiction fun z => (s27.newF d z hF).elim dne hp
        have p7 : d ∉ m5.fps.flatten := fun z => (s27.newO d z).elim dne hp
        cases b with
        | false =>
          dsimp only
          rw [if_neg Bool.false_ne_true] at w ⊢
          exact ⟨m5, ds, xs, rfl, by rw [c2]; exact sig4.1, by rw [c2]; exact sig4.2, S5, s7, d7, F7, p7, r2.mono s27.exF _ _, by omega, w⟩
        | true =>
          dsimp only
          rw [if_pos rfl] at w ⊢
          refine ⟨m5, rfl, c2, S5, ?_⟩
          refine Want.mono w.bind (s1.trans s7) fun r env2 w v m6 c3 c4 S6 s8 ok => ?_
          subst c3
          have s9 : Step Tb m1 m6 := (s7.trans s8).wk fun i hi => (List.mem_append.mp hi).elim id fun z => by rw [← hTb]; simp [z]
          have s29 := s27.trans s8
          have d9 : m6.H d = some (.lst xs) := s29.keep d _ hD hp
          have F9 : m6.F d = none := Classical.byContradiction fun z => (s29.newF d z hF).elim dne hp
          have p9 : d ∉ m6.fps.flatten := fun z => (s29.newO d z).elim dne hp
          split at w
          · rename_i yd
            have rl := r2.length
            have r9 : RpDs C.K C.cl m6.F (ds ++ [yd]) (xs ++ [v]) := by
              have := r2.mono s29.exF
              exact RpDs.append this ⟨v, [], rfl, ok, rfl⟩
            refine ⟨xs, d9, by rw [sizeLine_is, rl]; omega, { m6 with H := upd m6.H d (.lst (xs ++ [v])) }, ds ++ [yd], xs ++ [v], rfl, by show m6.σ.length = _; rw [c4]; exact sig4.1, by show ∀ j, j ∉ vs → m6.σ[j]? = _; rw [c4]; exact sig4.2, S6.junk F9 p9 d0, Step.junk S1 s9 hd, upd_same, F9, p9, r9, by simp; omega, ?_⟩
            refine Want.imp w.bind fun ys env' w m8 xs' a1 a2 a3 a4 a5 a6 a7 a8 a9 => ?_
            exact w m8 xs' a1 a2 a3 a4 a5 a6 a7 a8 (by rw [List.append_assoc] at a9; exact a9)
          · exact w.elim
    · have e : i = src.items.length := by omega
      subst e
      rw [List.drop_length] at w2
      refine .inl ⟨j2 rfl, w2 m2 xs rfl hl hσ S2 s2 hD hF hp (by rw [List.append_nil]; exact r2)⟩
end
end L3
namespace L3
open PySem PySem.Spec PyProof.Rows L2
def SqB (t : Bool) (K : PySem.W.Frag) (H : Hp) (a : Addr) (xs : List V) : Prop := if t = true then SqT K H a xs else SqL K H a xs
def IsB (t : Bool) (h : Heap) (a : Addr) (its : Array Value) : Prop := if t = true then h.IsTuple a its else h.IsList a its
def ItB (t : Bool) (h : Heap) (it a : Addr) (i : Nat) : Prop := if t = true then h.IsTupleIter it a i else h.IsListIter it a i
theorem ItB.obj {t : Bool} {h : Heap} {it a : Addr} {i : Nat} (x : ItB t h it a i) : ∃ o, h.get? it = some o ∧ o.data = .fields #[.ref a, .int i 0] ∧ o.cls = .type (if t = true then "tuple_iterator" else "list_iterator") := by
  cases t with
  | true => obtain ⟨o, e, c, d⟩ := x; exact ⟨o, e, d, c⟩
  | false => obtain ⟨o, e, c, d⟩ := x; exact ⟨o, e, d, c⟩
theorem ItB.at {t : Bool} {h h' : Heap} {it a : Addr} {i : Nat} (x : ItB t h it a i) (k : ∀ o, h.get? it = some o → h'.get? it = some o) : ItB t h' it a i := by
  cases t with
  | true => obtain ⟨o, e, c, d⟩ := x; exact ⟨o, k o e, c, d⟩
  | false => obtain ⟨o, e, c, d⟩ := x; exact ⟨o, k o e, c, d⟩
theorem IsB.obj {t : Bool} {h : Heap} {a : Addr} {its : Array Value} (x : IsB t h a its) : ∃ o, h.get? a = some o ∧ (∃ n, o.data = .seq its n) ∧ o.cls = .type (if t = true then "tuple" else "list") := by
  cases t with
  | true => obtain ⟨o, e, c, d⟩ := x; exact ⟨o, e, d, c⟩
  | false => obtain ⟨o, e, c, d⟩ := x; exact ⟨o, e, d, c⟩
theorem ItB.ne {t t' : Bool} {h : Heap} {it a b : Addr} {i : Nat} {its : Array Value} (x : ItB t h it a i) (y : IsB t' h b its) : b ≠ it := fun e => by
  subst e
  obtain ⟨o, e1, d1, _⟩ := x.obj
  obtain ⟨o', e2, ⟨n, d2⟩, _⟩ := y.obj
  rw [e1] at e2; cases e2
  rw [d1] at d2; cases d2
def drawsB {prog : Program} {w : World} {A : Around} (hh : A.handled = none) (t : Bool) (it a : Addr) (hne : a ≠ it) (its : Array Value) : Draws prog w A it [it, a] its.size (fun i v => its[i]? = some v) (fun i h => ItB t h it a i ∧ IsB t h a its) := by
  cases t with
  | true => exact Draws.tuple hh it a hne its
  | false => exact Draws.list hh it a hne its
theorem beginsB (t : Bool) (a : Addr) (its : Array Value) : Begins (.ref a) { cls := .type (if t = true then "tuple_iterator" else "list_iterator"), data := .fields #[.ref a, .int 0 0] } fun h => IsB t h a its := by
  cases t with
  | true => exact begins_tuple a its
  | false => exact begins_list a its
theorem seqB {X : Cx} {pins : List (Addr × Obj)} {σ : L2.St} {H : Hp} {s : Shared} {t : Bool} {a : Addr} {xs : List V} (I : Inv X pins σ H s) (h : SqB t X.K H a xs) : ∃ its : List Value, Vals xs its ∧ IsB t s.heap a its.toArray := by
  cases t with
  | true => obtain ⟨its, r, p, _⟩ := I.tuple h; exact ⟨its, r, p⟩
  | false => obtain ⟨its, r, p, _⟩ := I.list h; exact ⟨its, r, p.isList⟩
theorem seqB_inj {X : Cx} {pins : List (Addr × Obj)} {σ : L2.St} {H : Hp} {s : Shared} {t : Bool} {a : Addr} {xs ys : List V} (I : Inv X pins σ H s) (h : SqB t X.K H a xs) (h' : SqB t X.K H a ys) : xs = ys := by
  cases t with
  | true => exact I.tuple_inj h h'
  | false => exact I.list_inj h h'

def IteG (K : PySem.W.Frag) (t : Bool) (a : Addr) : It :=
  ⟨fun i H => ∃ (xs : List V) (x : V), SqB t K H a xs ∧ xs[i]? = some x, fun i H v H' => ∃ T x o, v = .ref T ∧ H T = none ∧ o.dict = none ∧ H' = upd H T (.frz o (.tup [.int (i : Nat), x])) ∧ ∀ xs, SqB t K H a xs → xs[i]? = some x, fun i H => ∃ xs : List V, SqB t K H a xs ∧ xs.length = i⟩
theorem turn_enumG {P : Program} {w : World} {K : PySem.W.Frag} {t : Bool} {elts : List Expr} {kk : Nat} {tpos : Pos} (a e it : Addr) :
    Turn P w K (.Tuple elts kk tpos) (IteG K t a) [e, it] e (fun i h => (∃ old, IsEnum h e it ((i : Nat) : Int) old) ∧ ItB t h it a i ∧ e ≠ it) where
  mem := by simp
  obj := fun i h st b hb => by
    obtain ⟨⟨old, he⟩, hit, _⟩ := st
    obtain ⟨o, ho, hd, hc⟩ := hit.obj
    have e' : b = e ∨ b = it := by simpa using hb
    rcases e' with z | z
    · rw [z]; exact ⟨_, he, fun v q => nomatch q⟩
    · rw [z]; exact ⟨o, ho, fun v q => by rw [hd] at q; cases q⟩
  keep := fun i h h' st k => let ⟨⟨old, he⟩, hi, hne⟩ := st; ⟨⟨old, k e (by simp) _ he⟩, hi.at fun o q => k it (by simp) o q, hne⟩
  item := by
    intro X hP hw hK hc i pins s σ H E I hf st hg
    subst hP hw hK
    obtain ⟨⟨old, he⟩, hit, hne⟩ := st
    obtain ⟨xs, x, hq, hx⟩ := hg
    obtain ⟨its, rv, p⟩ := seqB I hq
    obtain ⟨u, hu, ru⟩ := rv.get hx
    have hel : e < s.heap.objs.size := Heap.lt_size he
    have hil : it < s.heap.objs.size := by obtain ⟨_, q, _⟩ := hit.obj; exact Heap.lt_size q
    have nai := hit.ne p
    have hlt : i < its.toArray.size := by
      have := (List.getElem?_eq_some_iff.mp hu).1
      simpa using this
    have hea : e ≠ a := fun z => by
      subst z
      obtain ⟨o', e2, ⟨n, d2⟩, _⟩ := p.obj
      rw [he] at e2; cases e2
      cases d2
    refine wpAny_pyNext_enum_itemC (drawsB (show X.A.in1.handled = none from I.ok.hd hc) t it a nai its.toArray) he ⟨hit, p⟩ hlt hne (by simp [hne, hea]) fun x' h' tk hP ho hit' hT hsz hk => ?_
    have hx' : x' = u := by
      have q : its.toArray[i]? = some x' := hP
      rw [List.getElem?_toArray, hu] at q
      exact (Option.some.inj q).symm
    subst hx'
    refine ⟨_, rfl, wpAny_letOwnedTupleGo_enum (s := { s with heap := h', toks := tk + 1 }) ho fun h'' he' sb => ?_⟩
    have hT2 : h''.get? s.heap.objs.size = some { cls := .type "tuple", data := .seq #[.int i tk, x'] } := (sb.2 _ (Nat.ne_of_gt hel)).trans hT
    have new : ObjOk X.prog X.w (upd H s.heap.objs.size (.frz { cls := .type "tuple", data := .seq #[.int i tk, x'] } (.tup [.int (i : Nat), x]))) h'' s.heap.objs.size (.frz { cls := .type "tuple", data := .seq #[.int i tk, x'] } (.tup [.int (i : Nat), x])) :=
      ⟨hT2, by show 2 ≤ sizeLine; decide, [.int i tk, x'], .cons ⟨_, rfl⟩ (.cons ru .nil), ⟨_, hT2, rfl, _, rfl⟩⟩
    have I1 : Inv X pins σ (upd H s.heap.objs.size (.frz { cls := .type "tuple", data := .seq #[.int i tk, x'] } (.tup [.int (i : Nat), x]))) { s with heap := h'', toks := tk + 1 } :=
      I.turnedNew (ch := [e, it]) (fun b ob hb q => (sb.2 b (fun z => hb (by simp [z]))).trans (hk b ob (fun z => hb (by simp [z])) (fun z => hb (by simp [z])) q)) hf (Nat.le_refl _) new
    refine ⟨.ref s.heap.objs.size, _, I1, rfl, ⟨_, x, _, rfl, I.hok.fresh (Nat.le_refl _), rfl, rfl, fun ys hy => by rw [seqB_inj I hy hq]; exact hx⟩, ⟨⟨x', ?_⟩, hit'.1.at fun o q => (sb.2 it (Ne.symm hne)).trans q, hne⟩, fun b hb => ?_⟩
    · have e1 : ((i + 1 : Nat) : Int) = (i : Int) + 1 := by omega
      rw [e1]; exact he'
    · have hb' : b < s.heap.objs.size := by
        have e' : b = e ∨ b = it := by simpa using hb
        rcases e' with z | z
        · rw [z]; exact hel
        · rw [z]; exact hil
      rw [upd_ne (Nat.ne_of_lt hb')]
      exact (hf b hb).1
  done := by
    intro X hP hw hK hc i pins s σ H E I hf st hg
    subst hP hw hK
    obtain ⟨⟨old, he⟩, hit, hne⟩ := st
    obtain ⟨xs, hq, hx⟩ := hg
    obtain ⟨its, rv, p⟩ := seqB I hq
    obtain ⟨f0, f1, f2, f3, f4, f5⟩ := hf it (by simp)
    have hl := rv.length
    have hsz : i = its.toArray.size := by simp; omega
    subst hsz
    exact wpAny_pyNext_enum_endD (drawsB (show X.A.in1.handled = none from I.ok.hd hc) t it a (hit.ne p) its.toArray) he ⟨hit, p⟩ fun h' eb => ⟨rfl, I.turned (t' := s.toks) (fun b o hb q => eb b o hb q) f0 f1 f3 f4 f5⟩
  self := fun A i s Q E st h => let ⟨⟨_, he⟩, _⟩ := st; wpAny_pyIter_enum he h
theorem meets_enum1 {v : Value} {o : Obj} {H : Heap → Prop} (B : Begins v o H) :
    Meets (Builtin.«enumerate.__new__» ⟨[.type "enumerate", v], []⟩) (fun _ R s => H s.heap ∧
      R (.ok (.ret (.ref (s.heap.push o).objs.size))) { s with heap := (s.heap.push o).push { cls := .type "enumerate", data := .fields #[.none, .bool false, .ref s.heap.objs.size, rawInt 0, .none, .none] } }) :=
  .of_wp fun prog w A R s h => by
    obtain ⟨hp, g, d, tk, os⟩ := s; obtain ⟨h1, h⟩ := h
    have hsub := sub_enumerate
    have q1 : ∀ {A' : Around} {E : Value → Shared → Prop} {Q : Value → Shared → Prop}, Q (.ref hp.objs.size) ⟨hp.push o, g, d, tk, os⟩ → wpAny (model prog w) A' (pyIter v) Q E ⟨hp, g, d, tk, os⟩ :=
      fun q => B.iter prog w _ _ ⟨hp, g, d, tk, os⟩ _ h1 q
    wp_walk using q1
    refine wpAny_stack_any fun st => wpAny_pure ?_
    split
    · rename_i c _ _ _ _ _
      cases (c == Value.type "enumerate")
      · wp_walk using q1
        exact ⟨_, rfl, h⟩
      · wp_walk using q1
        exact ⟨_, rfl, h⟩
    · wp_walk using q1
      exact ⟨_, rfl, h⟩
theorem call_enum1 {prog : Program} {w : World} {A : Around} {E : Value → Shared → Prop} {s : Shared} {v : Value} {o : Obj} {H : Heap → Prop} {Q : Value → Shared → Prop} (B : Begins v o H) (h1 : H s.heap)
    (h : ∀ h', IsEnum h' (s.heap.objs.size + 1) s.heap.objs.size 0 .none → h'.get? s.heap.objs.size = some o → h'.objs.size = s.heap.objs.size + 2 →
      (∀ b o, s.heap.get? b = some o → h'.get? b = some o) → Q (.ref (s.heap.objs.size + 1)) { s with heap := h' }) :
    wpAny (model prog w) A (call (.type "enumerate") [v]) Q E s := by
  refine callType_new F.called_enumerate (by decide) (F.typeCall_enumerate_1 _) (F.newCall_enumerate_1 _) (fun obj => F.args_object_init_2 obj _) F.entry_enumerate_new (meets_enum1 B) ⟨h1, ?_⟩
  have hz : (s.heap.push o).objs.size = s.heap.objs.size + 1 := Heap.size_push ..
  show _ ∧ _
  rw [hz]
  have he : IsEnum ((s.heap.push o).push { cls := .type "enumerate", data := .fields #[.none, .bool false, .ref s.heap.objs.size, rawInt 0, .none, .none] }) (s.heap.objs.size + 1) s.heap.objs.size 0 .none := by
    have := Heap.get?_push_size (s.heap.push o) (o := { cls := .type "enumerate", data := .fields #[.none, .bool false, .ref s.heap.objs.size, rawInt 0, .none, .none] }) rfl
    rw [hz] at this; exact this
  exact ⟨⟨_, he, rfl⟩, h _ he (Heap.get?_push_of_some _ (Heap.get?_push_size _ B.free)) (by rw [Heap.size_push, hz]) fun b o x => Heap.get?_push_of_some _ (Heap.get?_push_of_some _ x)⟩
def iEnumG (K : PySem.W.Frag) (ta : TA) : TI := fun σ H R => ta σ H fun vs H1 => ∃ t a xs, vs = [.ref a] ∧ SqB t K H1 a xs ∧ R (IteG K t a) H1
theorem pi_enumG {X : Cx} {e : Expr} {ta : TA} {p pos tpos : Pos} {elts : List Expr} {kk : Nat} (hg : Gl X "enumerate") (hm : X.mg "enumerate" = none) (ha : PA X [e] ta) (hs : starEach [e] X.env = [(false, eval e X.env)] := by rfl) :
    PI X (.Tuple elts kk tpos) (.Call (.Name "enumerate" p) [e] [] pos) (iEnumG X.K ta) := by
  refine ⟨fun pins s σ H R I h => ?_⟩
  refine Call_ (ld_blt I hg hm boot_enumerate (PyProof.Rows.callWith_type1 (thn (ha.run pos pins s σ H _ I h) fun us s1 ⟨vs, H1, I1, r1, q1⟩ => ?_) hs rfl))
  obtain ⟨t, a, xs, ex, hq, q⟩ := q1
  subst ex
  cases r1 with
  | cons r rr =>
    cases rr
    cases r
    obtain ⟨its, rv, p'⟩ := seqB I1 hq
    refine call_enum1 (beginsB t a its.toArray) p' fun h' he hit hsz hk => wpAny_pyIter_enum he ?_
    have I2 : Inv X pins σ H1 { s1 with heap := h' } := I1.kept (t' := s1.toks) hk
    have hit' : ItB t h' s1.heap.objs.size a 0 := by
      cases t with
      | true => exact ⟨_, hit, rfl, rfl⟩
      | false => exact ⟨_, hit, rfl, rfl⟩
    refine ⟨s1.heap.objs.size + 1, [s1.heap.objs.size + 1, s1.heap.objs.size], _, _, H1, rfl, I2, turn_enumG a (s1.heap.objs.size + 1) s1.heap.objs.size, ⟨⟨.none, he⟩, hit', Nat.succ_ne_self _⟩, fun b hb => ?_, q⟩
    have e' : b = s1.heap.objs.size + 1 ∨ b = s1.heap.objs.size := by simpa using hb
    have hle : s1.heap.objs.size ≤ b := by
      rcases e' with z | z
      · rw [z]; exact Nat.le_add_right _ _
      · rw [z]; exact Nat.le_refl _
    exact I1.fpOk hle (I1.hok.fresh hle)
theorem nadd {n i j : Nat} (h : i ≠ j) : n + i ≠ n + j := fun e => h (by omega)
def ItzG (K : PySem.W.Frag) (t t' : Bool) (a b : Addr) : It :=
  ⟨fun i H => ∃ (xs ys : List V) (x y : V), SqB t K H a xs ∧ SqB t' K H b ys ∧ xs[i]? = some x ∧ ys[i]? = some y,
    fun i H v H' => ∃ T x y o, v = .ref T ∧ H T = none ∧ o.dict = none ∧ H' = upd H T (.frz o (.tup [x, y])) ∧ (∀ xs, SqB t K H a xs → xs[i]? = some x) ∧ ∀ ys, SqB t' K H b ys → ys[i]? = some y,
    fun i H => ∃ xs ys : List V, SqB t K H a xs ∧ SqB t' K H b ys ∧ min xs.length ys.length = i⟩
theorem turn_zipG {P : Program} {w : World} {K : PySem.W.Frag} {t t' : Bool} {elts : List Expr} {kk : Nat} {tpos : Pos} {a b z TI TO i1 i2 : Addr} (n1 : TI ≠ z) (n2 : TO ≠ z) (n3 : TI ≠ TO) (n4 : TI ≠ i1) (n5 : TI ≠ i2) (n6 : z ≠ i1) (n7 : z ≠ i2) (n8 : TO ≠ i1) (n9 : TO ≠ i2) (n10 : i1 ≠ i2)
    (m1 : a ≠ TO) (m2 : b ≠ TO) :
    Turn P w K (.Tuple elts kk tpos) (ItzG K t t' a b) [z, TI, TO, i1, i2] z (fun i h => IsZip h z TI TO .none ∧ IsTupOf2 h TI (.ref i1) (.ref i2) ∧ (∃ x y, IsTupOf2 h TO x y) ∧ ItB t h i1 a i ∧ ItB t' h i2 b i) where
  mem := by simp
  obj := fun i h st c hc => by
    obtain ⟨hz, hTI, ⟨x, y, hTO⟩, q1, q2⟩ := st
    obtain ⟨o1, e1, d1, _⟩ := q1.obj
    obtain ⟨o2, e2, d2, _⟩ := q2.obj
    have e' : c = z ∨ c = TI ∨ c = TO ∨ c = i1 ∨ c = i2 := by simpa using hc
    rcases e' with q | q | q | q | q
    · rw [q]; exact ⟨_, hz, fun v q => nomatch q⟩
    · rw [q]; exact ⟨_, hTI, fun v q => nomatch q⟩
    · rw [q]; exact ⟨_, hTO, fun v q => nomatch q⟩
    · rw [q]; exact ⟨o1, e1, fun v q => by rw [d1] at q; cases q⟩
    · rw [q]; exact ⟨o2, e2, fun v q => by rw [d2] at q; cases q⟩
  keep := fun i h h' st k => by
    obtain ⟨hz, hTI, ⟨x, y, hTO⟩, h1, h2⟩ := st
    exact ⟨k z (by simp) _ hz, k TI (by simp) _ hTI, ⟨x, y, k TO (by simp) _ hTO⟩, h1.at fun o q => k i1 (by simp) o q, h2.at fun o q => k i2 (by simp) o q⟩
  item := by
    intro X hP hw hK hc i pins s σ H E I hf st hg
    subst hP hw hK
    obtain ⟨hz, hTI, ⟨x0, y0, hTO⟩, h1, h2⟩ := st
    obtain ⟨xs, ys, x, y, hqx, hqy, hx, hy⟩ := hg
    obtain ⟨its, rv, p⟩ := seqB I hqx
    obtain ⟨its2, rv2, p2⟩ := seqB I hqy
    obtain ⟨u, hu, ru⟩ := rv.get hx
    obtain ⟨u2, hu2, ru2⟩ := rv2.get hy
    have hzl : z < s.heap.objs.size := Heap.lt_size hz
    have lt1 : i < its.toArray.size := by have := (List.getElem?_eq_some_iff.mp hu).1; simpa using this
    have lt2 : i < its2.toArray.size := by have := (List.getElem?_eq_some_iff.mp hu2).1; simpa using this
    have nz : ∀ {t : Bool} {a : Addr} {its : Array Value}, IsB t s.heap a its → z ≠ a := fun p e => by
      subst e
      obtain ⟨o', e2, ⟨n, d2⟩, _⟩ := p.obj
      rw [hz] at e2; cases e2
      cases d2
    have sep : ZipSep2 z TI TO i1 i2 [i1, a] [i2, b] := ⟨n1, n2, n3, n4, by simp, by simp [n6, nz p], by simp [n8, Ne.symm m1], n5, by simp, by simp [n7, nz p2], by simp [n9, Ne.symm m2], by simp [n10, Ne.symm (h1.ne p2)], by simp [Ne.symm n10, Ne.symm (h2.ne p)]⟩
    have hh : X.A.in1.handled = none := I.ok.hd hc
    refine wpAny_pyNext_zipD2_item sep (drawsB hh t i1 a (h1.ne p) its.toArray) (drawsB hh t' i2 b (h2.ne p2) its2.toArray) hz hTI hTO ⟨h1, p⟩ ⟨h2, p2⟩ lt1 lt2 fun x1 x2 h' tk hP1 hP2 z' TO' h1' h2' hT hsz hk => ?_
    have e1 : x1 = u := by
      have q : its.toArray[i]? = some x1 := hP1
      rw [List.getElem?_toArray, hu] at q
      exact (Option.some.inj q).symm
    have e2 : x2 = u2 := by
      have q : its2.toArray[i]? = some x2 := hP2
      rw [List.getElem?_toArray, hu2] at q
      exact (Option.some.inj q).symm
    subst e1 e2
    refine ⟨_, rfl, wpAny_letOwnedTupleGo_zip (s := { s with heap := h', toks := tk }) z' fun h'' z'' sb => ?_⟩
    have hT2 : h''.get? s.heap.objs.size = some { cls := .type "tuple", data := .seq #[x1, x2] } := (sb.2 _ (Nat.ne_of_gt hzl)).trans hT
    have new : ObjOk X.prog X.w (upd H s.heap.objs.size (.frz { cls := .type "tuple", data := .seq #[x1, x2] } (.tup [x, y]))) h'' s.heap.objs.size (.frz { cls := .type "tuple", data := .seq #[x1, x2] } (.tup [x, y])) :=
      ⟨hT2, by show 2 ≤ sizeLine; decide, [x1, x2], .cons ru (.cons ru2 .nil), ⟨_, hT2, rfl, _, rfl⟩⟩
    have I1 : Inv X pins σ (upd H s.heap.objs.size (.frz { cls := .type "tuple", data := .seq #[x1, x2] } (.tup [x, y]))) { s with heap := h'', toks := tk } :=
      I.turnedNew (ch := [z, TI, TO, i1, i2]) (fun c o hb q => (sb.2 c (fun q' => hb (by simp [q']))).trans (hk c o (fun q' => hb (by simp [q'])) (fun q' => hb (by simp [q'])) (fun q' => hb (by simp [q'])) (fun q' => hb (by simp [q'])) q)) hf (Nat.le_refl _) new
    refine ⟨.ref s.heap.objs.size, _, I1, rfl, ⟨_, x, y, _, rfl, I.hok.fresh (Nat.le_refl _), rfl, rfl, fun l hl => by rw [seqB_inj I hl hqx]; exact hx, fun l hl => by rw [seqB_inj I hl hqy]; exact hy⟩, ⟨z'', ?_, ⟨x1, x2, ?_⟩, ?_, ?_⟩, fun c hcm => ?_⟩
    · exact (sb.2 _ n1).trans (hk _ _ n1 n3 n4 n5 hTI)
    · exact (sb.2 _ n2).trans TO'
    · exact h1'.1.at fun o q => (sb.2 _ n6.symm).trans q
    · exact h2'.1.at fun o q => (sb.2 _ n7.symm).trans q
    · have hlt : c < s.heap.objs.size := by
        have e' : c = z ∨ c = TI ∨ c = TO ∨ c = i1 ∨ c = i2 := by simpa using hcm
        rcases e' with q | q | q | q | q
        · rw [q]; exact hzl
        · rw [q]; exact Heap.lt_size hTI
        · rw [q]; exact Heap.lt_size hTO
        · rw [q]; obtain ⟨_, e1, _⟩ := h1.obj; exact Heap.lt_size e1
        · rw [q]; obtain ⟨_, e2, _⟩ := h2.obj; exact Heap.lt_size e2
      rw [upd_ne (Nat.ne_of_lt hlt)]
      exact (hf c hcm).1
  done := by
    intro X hP hw hK hc i pins s σ H E I hf st hg
    subst hP hw hK
    obtain ⟨hz, hTI, ⟨x0, y0, hTO⟩, h1, h2⟩ := st
    obtain ⟨xs, ys, hqx, hqy, hend⟩ := hg
    obtain ⟨its, rv, p⟩ := seqB I hqx
    obtain ⟨its2, rv2, p2⟩ := seqB I hqy
    have l1 := rv.length
    have l2 := rv2.length
    have nz : ∀ {t : Bool} {a : Addr} {its : Array Value}, IsB t s.heap a its → z ≠ a := fun p e => by
      subst e
      obtain ⟨o', e2, ⟨n, d2⟩, _⟩ := p.obj
      rw [hz] at e2; cases e2
      cases d2
    have sep : ZipSep2 z TI TO i1 i2 [i1, a] [i2, b] := ⟨n1, n2, n3, n4, by simp, by simp [n6, nz p], by simp [n8, Ne.symm m1], n5, by simp, by simp [n7, nz p2], by simp [n9, Ne.symm m2], by simp [n10, Ne.symm (h1.ne p2)], by simp [Ne.symm n10, Ne.symm (h2.ne p)]⟩
    have hh : X.A.in1.handled = none := I.ok.hd hc
    exact wpAny_pyNext_zipD2_end sep (drawsB hh t i1 a (h1.ne p) its.toArray) (drawsB hh t' i2 b (h2.ne p2) its2.toArray) hz hTI hTO ⟨h1, p⟩ ⟨h2, p2⟩ (by simp; omega) (by simp; omega) (by simp; omega) fun h' tk hk => ⟨rfl, I.turnedL (t' := tk) (ch := [z, TI, TO, i1, i2]) (fun c o hb q =>
      hk c o (fun q' => hb (by simp [q'])) (fun q' => hb (by simp [q'])) (fun q' => hb (by simp [q'])) (fun q' => hb (by simp [q'])) q) hf⟩
  self := fun A i s Q E st h => wpAny_pyIter_zip st.1 h
def iZipG (K : PySem.W.Frag) (ta : TA) : TI := fun σ H R => ta σ H fun vs H1 => ∃ t t' a b xs ys, vs = [.ref a, .ref b] ∧ SqB t K H1 a xs ∧ SqB t' K H1 b ys ∧ R (ItzG K t t' a b) H1
theorem pi_zipG {X : Cx} {e e2 : Expr} {ta : TA} {p pos tpos : Pos} {elts : List Expr} {kk : Nat} (hg : Gl X "zip") (hm : X.mg "zip" = none) (ha : PA X [e, e2] ta)
    (hs : starEach [e, e2] X.env = (false, eval e X.env) :: starEach [e2] X.env := by rfl) (hpl : (backTo pos (starEach [e2] X.env)).any (·.1) = false := by rfl) :
    PI X (.Tuple elts kk tpos) (.Call (.Name "zip" p) [e, e2] [] pos) (iZipG X.K ta) := by
  refine ⟨fun pins s σ H R I h => ?_⟩
  refine Call_ (ld_blt I hg hm PyProof.Rows.boot_zip (PyProof.Rows.callWith_type1 (thn (ha.run pos pins s σ H _ I h) fun us s1 ⟨vs, H1, I1, r1, q1⟩ => ?_) hs hpl))
  obtain ⟨t, t', a, b, xs, ys, ex, hqx, hqy, q⟩ := q1
  subst ex
  cases r1 with
  | cons r rr =>
    cases rr with
    | cons r' rr =>
      cases rr
      cases r
      cases r'
      have fresh5 : ∀ c, c ∈ [s1.heap.objs.size + 4, s1.heap.objs.size + 2, s1.heap.objs.size + 3, s1.heap.objs.size, s1.heap.objs.size + 1] → FpOk X pins H1 c := fun c hcm => by
        have e' : c = s1.heap.objs.size + 4 ∨ c = s1.heap.objs.size + 2 ∨ c = s1.heap.objs.size + 3 ∨ c = s1.heap.objs.size ∨ c = s1.heap.objs.size + 1 := by simpa using hcm
        have hle : s1.heap.objs.size ≤ c := by
          rcases e' with z | z | z | z | z
          · rw [z]; exact Nat.le_add_right _ _
          · rw [z]; exact Nat.le_add_right _ _
          · rw [z]; exact Nat.le_add_right _ _
          · rw [z]; exact Nat.le_refl _
          · rw [z]; exact Nat.le_add_right _ _
        exact I1.fpOk hle (I1.hok.fresh hle)
      obtain ⟨its, rv, p1⟩ := seqB I1 hqx
      obtain ⟨its2, rv2, p2⟩ := seqB I1 hqy
      have la : a < s1.heap.objs.size := by obtain ⟨_, e1, _⟩ := p1.obj; exact Heap.lt_size e1
      have lb : b < s1.heap.objs.size := by obtain ⟨_, e1, _⟩ := p2.obj; exact Heap.lt_size e1
      refine zip_begins2 (beginsB t a its.toArray) (beginsB t' b its2.toArray) p1 p2 fun h' hz hTI hTO h1 h2 hsz hk => wpAny_pyIter_zip hz ?_
      have I2 : Inv X pins σ H1 { s1 with heap := h' } := I1.kept (t' := s1.toks) hk
      have it1 : ItB t h' s1.heap.objs.size a 0 := by
        cases t with
        | true => exact ⟨_, h1, rfl, rfl⟩
        | false => exact ⟨_, h1, rfl, rfl⟩
      have it2 : ItB t' h' (s1.heap.objs.size + 1) b 0 := by
        cases t' with
        | true => exact ⟨_, h2, rfl, rfl⟩
        | false => exact ⟨_, h2, rfl, rfl⟩
      exact ⟨s1.heap.objs.size + 4, [s1.heap.objs.size + 4, s1.heap.objs.size + 2, s1.heap.objs.size + 3, s1.heap.objs.size, s1.heap.objs.size + 1], _, _, H1, rfl, I2,
        turn_zipG (a := a) (b := b) (z := s1.heap.objs.size + 4) (TI := s1.heap.objs.size + 2) (TO := s1.heap.objs.size + 3) (i1 := s1.heap.objs.size) (i2 := s1.heap.objs.size + 1) (nadd (by decide)) (nadd (by decide)) (nadd (by decide)) (nadd (j := 0) (by decide)) (nadd (by decide)) (nadd (j := 0) (by decide)) (nadd (by decide)) (nadd (j := 0) (by decide)) (nadd (by decide)) (nadd (i := 0) (by decide)) (Nat.ne_of_lt (Nat.lt_of_lt_of_le la (Nat.le_add_right _ _))) (Nat.ne_of_lt (Nat.lt_of_lt_of_le lb (Nat.le_add_right _ _))), ⟨hz, hTI, ⟨_, _, hTO⟩, it1, it2⟩, fresh5, q⟩
end L3
namespace L3
open PySem L2
section
variable {X : Cx} {C : Cn} {E : WX} {e a b tg : Expr} {pos : Pos} {T T1 T2 T3 Tt vs : List Nat} {fs : MA} {es : List Expr} {f f1 f2 : ME} {g : MS} {t : MT} {st : Stmt}
theorem e_lc {set : D → Env → Option Env} {gt : TG} {fi : MI} (hg : TgOk C gt Tt set) (hTt : ∀ i ∈ Tt, i ∈ vs) (hvs : ∀ i ∈ vs, i ∉ C.IO) (h : PE X e (tLc (rdI C E T1 fi) gt (rdT C E T2 t) (rdE C E T3 f) vs)) :
    PE X e (rdE C E (T1 ++ (vs ++ (Tt ++ (T2 ++ T3)))) (mLc (vs ++ (Tt ++ (T2 ++ T3))) vs set fi t f)) := PE.wk h fun σ H Q h => rdLc hg hTt hvs h
theorem set_rd {i : Nat} {D : Ends} {σ : L2.St} {H : Hp} (hlen : i < C.n) (hIO : i ∉ C.IO) (h : rdS C E (T ++ [i]) (msSet i f) D σ H) : rdE C E T f σ H fun x H1 => D.nx (σ.set i (some x)) H1 := by
  obtain ⟨m, e1, e2, S, w⟩ := h
  exact ⟨m, e1, e2, S, Want.imp w.bind fun r env w => fun v m' e3 e4 S' s ok => by
    cases ho : r.o with
    | none => rw [ho] at w; exact w.elim
    | some o =>
      rw [ho] at w
      obtain ⟨fp, S2, s2⟩ := store_rd (i := i) s S' ok ho (by rw [S'.ln]; exact hlen) hIO
      have := w _ (by show m'.env.set i (some o) = _; rw [e3]) S2 s2
      show D.nx (σ.set i (some v)) m'.H
      rw [← e4]
      exact this⟩
theorem settle_rd {σ : L2.St} {H : Hp} {Q : VK} (h : rdE C E T (mStl f) σ H Q) : rdE C E T f σ H Q := by
  obtain ⟨m, e1, e2, S, w⟩ := h
  refine ⟨m, e1, e2, S, Want.imp w.bind fun r env w => fun v m' e3 e4 S' s ok => ?_⟩
  cases r with
  | own o =>
    obtain ⟨F', fp, k1, k2, S2, eF, r⟩ := settle_ok S' ok fun _ _ _ _ => trivial
    refine w v { m' with F := F' } e3 e4 S2 ⟨s.exF.trans eF, s.keep, s.dom, fun a h n => ?_, s.newO, s.len, s.unt⟩ r
    by_cases q : m'.F a = none
    · have z := k1 a (k2 a h q)
      by_cases y : m.H a = none
      · exact .inl y
      · exact .inr (Classical.byContradiction fun w => z ⟨y, w⟩)
    · exact s.newF a q n
  | val d => exact w v m' e3 e4 S' s ok
  | sl x => exact w v m' e3 e4 S' s ok
  | bor x p o => exact w v m' e3 e4 S' s ok
theorem s_setLc {set : D → Env → Option Env} {gt : TG} {fi : MI} {i : Nat} (hg : TgOk C gt Tt set) (hTt : ∀ i ∈ Tt, i ∈ vs) (hvs : ∀ i ∈ vs, i ∉ C.IO) (hlen : i < C.n) (hIO : i ∉ C.IO) (h : PS X st (tAsg (tLc (rdI C E T1 fi) gt (rdT C E T2 t) (rdE C E T3 f) vs) (gName i))) :
    PS X st (rdS C E ((T1 ++ (vs ++ (Tt ++ (T2 ++ T3)))) ++ [i]) (msSet i (mLc (vs ++ (Tt ++ (T2 ++ T3))) vs set fi t f))) := PS.wk h fun D σ H h => rdLc hg hTt hvs (set_rd hlen hIO h)
theorem s_setLcS {set : D → Env → Option Env} {gt : TG} {fi : MI} {i : Nat} (hg : TgOk C gt Tt set) (hTt : ∀ i ∈ Tt, i ∈ vs) (hvs : ∀ i ∈ vs, i ∉ C.IO) (hlen : i < C.n) (hIO : i ∉ C.IO) (h : PS X st (tAsg (tLc (rdI C E T1 fi) gt (rdT C E T2 t) (rdE C E T3 f) vs) (gName i))) :
    PS X st (rdS C E ((T1 ++ (vs ++ (Tt ++ (T2 ++ T3)))) ++ [i]) (msSet i (mStl (mLc (vs ++ (Tt ++ (T2 ++ T3))) vs set fi t f)))) := PS.wk h fun D σ H h => rdLc hg hTt hvs (settle_rd (set_rd hlen hIO h))
def anySrc (r : Rt) : Option (Bool × Src) := match srcOf true r with
  | some s => some (true, s)
  | none => (srcOf false r).map fun s => (false, s)
theorem anySrc_items {m : Mo} {r : Rt} {src : Src} {tup : Bool} {v : V} {av : Addr → Prop} (S : Sta C m) (ok : RtOk C m av r v) (h : anySrc r = some (tup, src)) :
    ∃ a, v = .ref a ∧ ∃ xs, ∀ (m2 : Mo) (T : List Nat), Sta C m2 → Step T m m2 → (∀ x, src.dep = some x → x ∉ T) → SqB tup C.K m2.H a xs ∧ RpDs C.K C.cl m2.F src.items xs := by
  have h' : srcOf tup r = some src := by
    unfold anySrc at h
    split at h
    · rename_i s q; cases h; exact q
    · cases q : srcOf false r with
      | none => rw [q] at h; cases h
      | some s => rw [q] at h; cases h; exact q
  obtain ⟨a, e, xs, k⟩ := seq_items S ok h'
  exact ⟨a, e, xs, k⟩
def enumD : Nat → List D → List D
  | _, [] => []
  | k, d :: ds => .tup [.int (k : Nat), d] :: enumD (k + 1) ds
theorem enumD_get : ∀ {ds : List D} {k i : Nat}, (enumD k ds)[i]? = (ds[i]?).map fun d => .tup [.int ((k + i : Nat) : Int), d]
  | [], k, i => by simp [enumD]
  | d :: ds, k, 0 => by simp [enumD]
  | d :: ds, k, i + 1 => by
    show (enumD (k + 1) ds)[i]? = _
    rw [enumD_get]
    simp only [List.getElem?_cons_succ]
    rw [show k + 1 + i = k + (i + 1) from by omega]
theorem enumD_len : ∀ {ds : List D} {k : Nat}, (enumD k ds).length = ds.length
  | [], k => rfl
  | d :: ds, k => by show (enumD (k + 1) ds).length + 1 = _; rw [enumD_len]; rfl
theorem seqB_fun {t : Bool} {K : PySem.W.Frag} {H : Hp} : True := trivial
theorem j_enum {m : Mo} {a : Addr} {src : Src} {tup : Bool} (h : ∃ xs, ∀ (m2 : Mo) (T : List Nat), Sta C m2 → Step T m m2 → (∀ x, src.dep = some x → x ∉ T) → SqB tup C.K m2.H a xs ∧ RpDs C.K C.cl m2.F src.items xs) : JOk C ⟨enumD 0 src.items, src.dep⟩ m (IteG C.K tup a) := by
  obtain ⟨xs, h⟩ := h
  intro m2 T S2 s2 _ hd i
  obtain ⟨q, r⟩ := h m2 T S2 s2 hd
  refine ⟨fun d hd => ?_, fun hl => ⟨xs, q, by rw [r.length, ← hl]; exact enumD_len.symm⟩⟩
  have hd : (enumD 0 src.items)[i]? = some d := hd
  rw [enumD_get] at hd
  cases hi : src.items[i]? with
  | none => rw [hi] at hd; cases hd
  | some d0 =>
    rw [hi] at hd
    have hd := Option.some.inj hd
    subst hd
    obtain ⟨v, e, rv⟩ := r.get hi
    refine ⟨⟨xs, v, q, e⟩, fun x H' ⟨p, x', o, e1, e2, hdo, e3, e4⟩ => ⟨{ m2 with F := upd m2.F p (.frz o (.tup [.int (i : Nat), x'])), H := upd m2.H p (.frz o (.tup [.int (i : Nat), x'])) }, e3.symm, gro_new S2 e2, ?_⟩⟩
    have := e4 xs q
    rw [e] at this; cases this
    subst e1
    refine ⟨p, _, rfl, SqP.new hdo, .int (i : Nat), [v], rfl, by simp [RpD], v, [], rfl, RpD.mono (gro_new S2 e2).exF _ _ rv, rfl⟩
def iEnumM (fs : MA) : MI := fun env => (fs env).bind fun rs e => match rs with
  | [r] => ofO ((anySrc r).map fun s => ⟨enumD 0 s.2.items, s.2.dep⟩) e
  | _ => .bad
theorem i_enum (hK : X.K = C.K) (h : PI X tg e (iEnumG X.K (rdA C E T fs))) : PI X tg e (rdI C E T (iEnumM fs)) :=
  PI.wk h fun σ H R ⟨m, e1, e2, S, w⟩ => ⟨m, e1, e2, S, Want.imp w.bind fun rs env w => fun vs m' e3 e4 S' s ok => by
    split at w
    · rename_i r
      obtain ⟨x, av, rfl, hx⟩ := ok.one
      cases hs : anySrc r with
      | none => rw [hs] at w; exact w.elim
      | some p =>
        obtain ⟨tup, src⟩ := p
        rw [hs] at w
        obtain ⟨a, rfl, k⟩ := anySrc_items S' hx hs
        rw [hK]
        have k' := k
        obtain ⟨xs, k0⟩ := k'
        exact ⟨tup, a, xs, rfl, (k0 m' [] S' (Step.refl _ _) (fun _ _ => by simp)).1, w _ m' e3 e4 S' s (j_enum k)⟩
    · exact w.elim⟩
def zipD (ds es : List D) : List D := List.zipWith (fun d e => D.tup [d, e]) ds es
def depJ : Option Nat → Option Nat → Option (Option Nat)
  | none, d => some d
  | d, none => some d
  | some x, some y => if x = y then some (some x) else none
theorem depJ_1 {a b d : Option Nat} {x : Nat} (h : depJ a b = some d) (hx : a = some x) : d = some x := by
  subst hx
  cases b with
  | none => exact (Option.some.inj h).symm
  | some y =>
    have h : (if x = y then some (some x) else none) = some d := h
    by_cases e : x = y
    · rw [if_pos e] at h; exact (Option.some.inj h).symm
    · rw [if_neg e] at h; cases h
theorem depJ_2 {a b d : Option Nat} {x : Nat} (h : depJ a b = some d) (hx : b = some x) : d = some x := by
  subst hx
  cases a with
  | none => exact (Option.some.inj h).symm
  | some y =>
    have h : (if y = x then some (some y) else none) = some d := h
    by_cases e : y = x
    · rw [if_pos e] at h; rw [← e]; exact (Option.some.inj h).symm
    · rw [if_neg e] at h; cases h
theorem j_zip {m : Mo} {a b : Addr} {s1 s2 : Src} {t1 t2 : Bool} {dep : Option Nat} (hdep : depJ s1.dep s2.dep = some dep) (h1 : ∃ xs, ∀ (m2 : Mo) (T : List Nat), Sta C m2 → Step T m m2 → (∀ x, s1.dep = some x → x ∉ T) → SqB t1 C.K m2.H a xs ∧ RpDs C.K C.cl m2.F s1.items xs)
    (h2 : ∃ xs, ∀ (m2 : Mo) (T : List Nat), Sta C m2 → Step T m m2 → (∀ x, s2.dep = some x → x ∉ T) → SqB t2 C.K m2.H b xs ∧ RpDs C.K C.cl m2.F s2.items xs) : JOk C ⟨zipD s1.items s2.items, dep⟩ m (ItzG C.K t1 t2 a b) := by
  obtain ⟨xs, h1⟩ := h1
  obtain ⟨ys, h2⟩ := h2
  intro m2 T S2 s _ hd i
  have d1 : ∀ x, s1.dep = some x → x ∉ T := fun x hx => hd x (depJ_1 hdep hx)
  have d2 : ∀ x, s2.dep = some x → x ∉ T := fun x hx => hd x (depJ_2 hdep hx)
  obtain ⟨q1, r1⟩ := h1 m2 T S2 s d1
  obtain ⟨q2, r2⟩ := h2 m2 T S2 s d2
  refine ⟨fun d hd => ?_, fun hl => ⟨xs, ys, q1, q2, ?_⟩⟩
  · have hd : (zipD s1.items s2.items)[i]? = some d := hd
    unfold zipD at hd
    rw [List.getElem?_zipWith] at hd
    cases e1 : s1.items[i]? with
    | none => rw [e1] at hd; cases hd
    | some da =>
      cases e2 : s2.items[i]? with
      | none => rw [e1, e2] at hd; cases hd
      | some db =>
        rw [e1, e2] at hd
        have hd := Option.some.inj hd
        subst hd
        obtain ⟨v, e3, rv⟩ := r1.get e1
        obtain ⟨w, e4, rw'⟩ := r2.get e2
        refine ⟨⟨xs, ys, v, w, q1, q2, e3, e4⟩, fun x H' ⟨p, x', y', o, f1, f2, hdo, f3, f4, f5⟩ => ⟨{ m2 with F := upd m2.F p (.frz o (.tup [x', y'])), H := upd m2.H p (.frz o (.tup [x', y'])) }, f3.symm, gro_new S2 f2, ?_⟩⟩
        have z1 := f4 xs q1
        have z2 := f5 ys q2
        rw [e3] at z1; cases z1
        rw [e4] at z2; cases z2
        subst f1
        exact ⟨p, _, rfl, SqP.new hdo, v, [w], rfl, RpD.mono (gro_new S2 f2).exF _ _ rv, w, [], rfl, RpD.mono (gro_new S2 f2).exF _ _ rw', rfl⟩
  · have hl : (zipD s1.items s2.items).length = i := hl
    unfold zipD at hl
    rw [List.length_zipWith] at hl
    rw [r1.length, r2.length, hl]
def iZipM (fs : MA) : MI := fun env => (fs env).bind fun rs e => match rs with
  | [r, r'] => match anySrc r, anySrc r' with
    | some (_, s), some (_, s') => ofO ((depJ s.dep s'.dep).map fun dep => ⟨zipD s.items s'.items, dep⟩) e
    | _, _ => .bad
  | _ => .bad
theorem i_zip (hK : X.K = C.K) (h : PI X tg e (iZipG X.K (rdA C E T fs))) : PI X tg e (rdI C E T (iZipM fs)) :=
  PI.wk h fun σ H R ⟨m, e1, e2, S, w⟩ => ⟨m, e1, e2, S, Want.imp w.bind fun rs env w => fun vs m' e3 e4 S' s ok => by
    split at w
    · rename_i r r'
      obtain ⟨x, y, av, av', rfl, hx, hy⟩ := ok.two
      split at w
      · rename_i tup src tup' src' hs hs'
        cases hdep : depJ src.dep src'.dep with
        | none => rw [hdep] at w; exact w.elim
        | some dep =>
          rw [hdep] at w
          obtain ⟨a, rfl, k⟩ := anySrc_items S' hx hs
          obtain ⟨b, rfl, k'⟩ := anySrc_items S' hy hs'
          rw [hK]
          have l := k
          have l' := k'
          obtain ⟨xs, k0⟩ := l
          obtain ⟨ys, k0'⟩ := l'
          exact ⟨tup, tup', a, b, xs, ys, rfl, (k0 m' [] S' (Step.refl _ _) (fun _ _ => by simp)).1, (k0' m' [] S' (Step.refl _ _) (fun _ _ => by simp)).1, w _ m' e3 e4 S' s (j_zip hdep k k')⟩
      · exact w.elim
    · exact w.elim⟩
end
end L3
namespace L3
open PySem L2
section
variable {C : Cn}
def lstOf : Rt → Option (List D)
  | .own (.lst os) => leaves os
  | .bor _ _ (.lst os) => leaves os
  | _ => none
theorem RtOk.lstOf {m : Mo} {r : Rt} {v : V} {av : Addr → Prop} {ds : List D} (S : Sta C m) (h : RtOk C m av r v) (e : L3.lstOf r = some ds) : ∃ a xs, v = .ref a ∧ m.H a = some (.lst xs) ∧ RpDs C.K C.cl m.F ds xs := by
  unfold L3.lstOf at e
  split at e
  · obtain rfl := leaves_some e
    obtain ⟨fp, ⟨a, xs, f, rfl, _, h1, h2⟩, _⟩ := h
    exact ⟨a, xs, rfl, h1, (RpOs.leaves h2).2⟩
  · obtain rfl := leaves_some e
    obtain ⟨fp, a, xs, f, rfl, _, h1, h2⟩ := h.bor S
    exact ⟨a, xs, rfl, h1, (RpOs.leaves h2).2⟩
  · cases e
def gAdd : Rt → Rt → Option Rt
  | .val (.int i), .val (.int j) => some (.val (.int (i + j)))
  | .val (.str s), .val (.str t) => if s.length + t.length ≤ 16777216 then some (.val (.str (s ++ t))) else none
  | .val (.tup ds), .val (.tup es) => if ds.length + es.length ≤ 16777216 then some (.val (.tup (ds ++ es))) else none
  | r, r' => match L3.lstOf r, L3.lstOf r' with
    | some ds, some es => if ds.length + es.length ≤ 16777216 then some (.own (.lst ((ds ++ es).map O.s))) else none
    | _, _ => none
def rAdd (K : PySem.W.Frag) : R2 := fun x y H Q => (rI0 fun i j => .int (i + j)) x y H Q ∨ (∃ i j, x = .str i ∧ y = .str j ∧ i.length + j.length ≤ sizeLine ∧ Q (.str (i ++ j)) H) ∨ rCatF K x y H Q ∨ rCat x y H Q
theorem op_addAll {X : Cx} : OpR X (binaryOp .Add) (rAdd X.K) := OpR.or op_add (OpR.or op_add_str (OpR.or op_catF op_cat))
theorem loc_add : Loc2 C (rAdd C.K) gAdd := by
  intro m x y rx ry rz av av' Q S h1 h2 h k
  unfold gAdd at h
  split at h
  · cases h
    exact .inl ⟨_, _, h1, h2, k _ m (Gro.refl S) rfl⟩
  · split at h
    · rename_i z
      cases h
      exact .inr (.inl ⟨_, _, h1, h2, by rw [sizeLine_is]; exact z, k _ m (Gro.refl S) rfl⟩)
    · cases h
  · rename_i ds es
    split at h
    · rename_i z
      cases h
      obtain ⟨a, xs, rfl, q1, r1⟩ := h1
      obtain ⟨b, ys, rfl, q2, r2⟩ := h2
      refine .inr (.inr (.inl ⟨a, b, xs, ys, rfl, rfl, S.ex.sqT q1.1, S.ex.sqT q2.1, by rw [sizeLine_is, r1.length, r2.length]; exact z, fun e => ?_, fun n e => ?_, fun _ _ p o hp hd => ?_⟩))
      · subst e
        have : ds = [] := List.eq_nil_of_length_eq_zero r1.length.symm
        subst this
        exact k _ m (Gro.refl S) ⟨b, ys, rfl, q2, r2⟩
      · subst e
        have : es = [] := List.eq_nil_of_length_eq_zero r2.length.symm
        subst this
        rw [List.append_nil] at k
        exact k _ m (Gro.refl S) ⟨a, xs, rfl, q1, r1⟩
      · have g := gro_new (o := .frz o (.tup (xs ++ ys))) S hp
        exact k _ _ g ⟨p, _, rfl, SqP.new hd, RpDs.append (r1.mono g.exF _ _) (r2.mono g.exF _ _)⟩
    · cases h
  · split at h
    · rename_i ds es e1 e2
      split at h
      · rename_i z
        cases h
        obtain ⟨a, xs, rfl, q1, r1⟩ := h1.lstOf S e1
        obtain ⟨b, ys, rfl, q2, r2⟩ := h2.lstOf S e2
        exact .inr (.inr (.inr ⟨a, b, xs, ys, rfl, rfl, q1, q2, by rw [sizeLine_is, r1.length, r2.length]; exact z, fun p hp => k _ _ (gro_own S hp) (own_lst S hp (RpDs.append r1 r2) (fun z => z hp))⟩))
      · cases h
    · cases h
def cMul2 (i j : Int) : Bool := (decide (i.natAbs < 18446744073709551616) || decide (j.natAbs < 18446744073709551616)) || cMul i j
def gMul : Rt → Rt → Option Rt
  | .val (.tup ds), .val (.int k) => if ds ≠ [] ∧ 2 ≤ k ∧ k ≤ 1000 ∧ ds.length ≤ 1000 then some (.val (.tup (List.replicate k.toNat ds).flatten)) else none
  | .own (.lst os), .val (.int k) => (leaves os).bind fun ds => if 0 ≤ k ∧ k ≤ 1000 ∧ ds.length ≤ 1000 then some (.own (.lst ((List.replicate k.toNat ds).flatten.map O.s))) else none
  | r, r' => gIc cMul2 (fun i j => .int (i * j)) r r'
def rMul (K : PySem.W.Frag) : R2 := fun x y H Q => rRepF K x y H Q ∨ rRep x y H Q ∨ rI (fun i j => CMul i j ∨ CMulW i j) (fun i j => .int (i * j)) x y H Q
theorem op_mulE {X : Cx} : OpR X (binaryOp .Mult) (rI (fun i j => CMul i j ∨ CMulW i j) fun i j => .int (i * j)) := fun pins s σ H x y v u Q I rx ry h => by
  obtain ⟨i, j, e1, e2, c, q⟩ := h
  rcases c with c | c
  · exact op_mul pins s σ H x y v u Q I rx ry ⟨i, j, e1, e2, c, q⟩
  · exact op_mulW pins s σ H x y v u Q I rx ry ⟨i, j, e1, e2, c, q⟩
theorem op_mulAll {X : Cx} : OpR X (binaryOp .Mult) (rMul X.K) := OpR.or op_repF (OpR.or op_rep op_mulE)
def cPow2 (i j : Int) : Bool := decide (0 ≤ j ∧ ((i.natAbs.log2 + 1 : Nat) : Int) * j ≤ 134217728)
theorem op_powW {X : Cx} : OpR X (binaryOp .Pow) (rI (fun i j => 0 ≤ j ∧ ((i.natAbs.log2 + 1 : Nat) : Int) * j ≤ 134217728) fun i j => .int (i ^ j.toNat)) := opI fun i j _ _ _ _ _ hc q => PyProof.Rows.pow_int hc.1 (by
  have b : ∀ x : Int, Builtin.Int.intBits x ≤ x.natAbs.log2 + 1 := fun x => by
    unfold Builtin.Int.intBits
    split <;> omega
  have h1 : (Builtin.Int.intBits i : Int) ≤ ((i.natAbs.log2 + 1 : Nat) : Int) := by exact_mod_cast b i
  exact Int.le_trans (Int.mul_le_mul_of_nonneg_right h1 hc.1) hc.2) q
theorem loc_powW : Loc2 C (rI (fun i j => 0 ≤ j ∧ ((i.natAbs.log2 + 1 : Nat) : Int) * j ≤ 134217728) fun i j => .int (i ^ j.toNat)) (gIc cPow2 fun i j => .int (i ^ j.toNat)) := loc_Ic (fun _ _ h => by simpa [cPow2] using h) fun _ _ _ => rfl
theorem rpDs_rep {K : PySem.W.Frag} {cl : Nat → Addr} {H : Hp} {ds : List D} {xs : List V} (h : RpDs K cl H ds xs) : ∀ n : Nat, RpDs K cl H (List.replicate n ds).flatten (List.replicate n xs).flatten
  | 0 => rfl
  | n + 1 => by
    rw [List.replicate_succ, List.replicate_succ, List.flatten_cons, List.flatten_cons]
    exact RpDs.append h (rpDs_rep h n)
theorem loc_mul : Loc2 C (rMul C.K) gMul := by
  intro m x y rx ry rz av av' Q S h1 h2 h k
  unfold gMul at h
  split at h
  · rename_i ds j
    split at h
    · rename_i z
      cases h
      obtain ⟨a, xs, rfl, q1, r1⟩ := h1
      refine .inl ⟨a, j, xs, rfl, h2, S.ex.sqT q1.1, fun e => z.1 (by subst e; exact List.eq_nil_of_length_eq_zero r1.length.symm), z.2.1, z.2.2.1, by rw [r1.length]; exact z.2.2.2, fun p o hp hd => ?_⟩
      have g : Gro m { m with F := upd m.F p (.frz o (.tup (List.replicate j.toNat xs).flatten)), H := upd m.H p (.frz o (.tup (List.replicate j.toNat xs).flatten)) } := gro_new S hp
      exact k _ _ g ⟨p, _, rfl, SqP.new hd, (rpDs_rep r1 _).mono g.exF _ _⟩
    · cases h
  · rename_i os j
    cases e : leaves os with
    | none => rw [e] at h; cases h
    | some ds =>
      rw [e] at h
      simp only [Option.bind_some] at h
      split at h
      · rename_i z
        cases h
        obtain rfl := leaves_some e
        obtain ⟨fp, ⟨a, xs, f, rfl, _, q1, r1⟩, _⟩ := h1
        have r1 := (RpOs.leaves r1).2
        have a1 : xs.length * j.toNat ≤ 1000 * 1000 := Nat.mul_le_mul (by rw [r1.length]; exact z.2.2) (by omega)
        refine .inr (.inl ⟨a, j, xs, rfl, h2, q1, by omega, by omega, by rw [sizeLine_is]; omega, fun p hp => k _ _ (gro_own S hp) (own_lst S hp (rpDs_rep r1 _) (fun z => z hp))⟩)
      · cases h
  · refine .inr (.inr (loc_Ic (C := C) (c := fun i j => CMul i j ∨ CMulW i j) (cd := cMul2) (g := fun i j => .int (i * j)) (gd := fun i j => .int (i * j)) (fun i j h => ?_) (fun _ _ _ => rfl) m x y rx ry rz av av' Q S h1 h2 h k))
    unfold cMul2 at h
    simp only [Bool.or_eq_true, decide_eq_true_eq] at h
    rcases h with (z | z) | z
    · exact .inl (.inl ⟨by omega, by omega⟩)
    · exact .inl (.inr ⟨by omega, by omega⟩)
    · exact .inr (by simpa [cMul, CMulW] using z)
def gInD (neg : Bool) (rx ry : Rt) : Option Rt := if rx.isSl = true ∨ ry.isSl = true then none else match rx.d.py, ry.d.py with
  | some p, some (.list ps) => if SeqAt.shaped p = true ∧ SeqAt.shaped (.list ps) = true then some (.val (.bl ((ps.any fun z => PyData.eqv z p) != neg))) else none
  | _, _ => none
theorem loc_inD : Loc2 C (rInD C.K) (gInD false) := by
  intro m x y rx ry rz av av' Q S h1 h2 h k
  unfold gInD at h
  by_cases hs : rx.isSl = true ∨ ry.isSl = true
  · rw [if_pos hs] at h; cases h
  rw [if_neg hs] at h
  split at h
  · rename_i p ps e1 e2
    split at h
    · rename_i z
      cases h
      exact ⟨p, ps, RpD.dp _ _ _ (h1.rd S (by cases q : rx.isSl <;> simp_all)) e1, RpD.dp _ _ _ (h2.rd S (by cases q : ry.isSl <;> simp_all)) e2, z.1, z.2, k _ m (Gro.refl S) (by show V.bl _ = V.bl _; simp)⟩
    · cases h
  · cases h
theorem loc_notInD : Loc2 C (rNotInD C.K) (gInD true) := by
  intro m x y rx ry rz av av' Q S h1 h2 h k
  unfold gInD at h
  by_cases hs : rx.isSl = true ∨ ry.isSl = true
  · rw [if_pos hs] at h; cases h
  rw [if_neg hs] at h
  split at h
  · rename_i p ps e1 e2
    split at h
    · rename_i z
      cases h
      exact ⟨p, ps, RpD.dp _ _ _ (h1.rd S (by cases q : rx.isSl <;> simp_all)) e1, RpD.dp _ _ _ (h2.rd S (by cases q : ry.isSl <;> simp_all)) e2, z.1, z.2, k _ m (Gro.refl S) (by show V.bl _ = V.bl _; simp)⟩
    · cases h
  · cases h
def maxI : List Int → Option Int
  | [] => none
  | x :: xs => some (xs.foldl max x)
def minI : List Int → Option Int
  | [] => none
  | x :: xs => some (xs.foldl min x)
theorem foldl_max (xs : List Int) (x : Int) : x ≤ xs.foldl max x ∧ ∀ y ∈ xs, y ≤ xs.foldl max x := by
  induction xs generalizing x with
  | nil => exact ⟨Int.le_refl _, fun y h => by simp at h⟩
  | cons z zs ih =>
    obtain ⟨i1, i2⟩ := ih (max x z)
    refine ⟨Int.le_trans (Int.le_max_left x z) i1, fun y hy => ?_⟩
    rcases List.mem_cons.mp hy with e | e
    · rw [e]; exact Int.le_trans (Int.le_max_right x z) i1
    · exact i2 y e
theorem foldl_min (xs : List Int) (x : Int) : xs.foldl min x ≤ x ∧ ∀ y ∈ xs, xs.foldl min x ≤ y := by
  induction xs generalizing x with
  | nil => exact ⟨Int.le_refl _, fun y h => by simp at h⟩
  | cons z zs ih =>
    obtain ⟨i1, i2⟩ := ih (min x z)
    refine ⟨Int.le_trans i1 (Int.min_le_left x z), fun y hy => ?_⟩
    rcases List.mem_cons.mp hy with e | e
    · rw [e]; exact Int.le_trans i1 (Int.min_le_right x z)
    · exact i2 y e
theorem foldl_max_mem (xs : List Int) (x : Int) : xs.foldl max x = x ∨ xs.foldl max x ∈ xs := by
  induction xs generalizing x with
  | nil => exact .inl rfl
  | cons z zs ih =>
    show zs.foldl max (max x z) = x ∨ zs.foldl max (max x z) ∈ z :: zs
    rcases ih (max x z) with e | e
    · rw [e]
      by_cases h : z ≤ x
      · left; omega
      · right; rw [show max x z = z from by omega]; simp
    · right; simp [e]
theorem foldl_min_mem (xs : List Int) (x : Int) : xs.foldl min x = x ∨ xs.foldl min x ∈ xs := by
  induction xs generalizing x with
  | nil => exact .inl rfl
  | cons z zs ih =>
    show zs.foldl min (min x z) = x ∨ zs.foldl min (min x z) ∈ z :: zs
    rcases ih (min x z) with e | e
    · rw [e]
      by_cases h : x ≤ z
      · left; omega
      · right; rw [show min x z = z from by omega]; simp
    · right; simp [e]
theorem maxI_is {ns : List Int} {k : Int} (h : maxI ns = some k) {m : Int} (hm : m ∈ ns) (h2 : ∀ y ∈ ns, y ≤ m) : m = k := by
  cases ns with
  | nil => cases h
  | cons x xs =>
    have h := Option.some.inj h
    obtain ⟨a, b⟩ := foldl_max xs x
    have le1 : m ≤ k := by
      rw [← h]
      rcases List.mem_cons.mp hm with e | e
      · rw [e]; exact a
      · exact b m e
    have le2 : k ≤ m := h2 k (by
      rw [← h]
      rcases foldl_max_mem xs x with e | e
      · rw [e]; simp
      · simp [e])
    omega
theorem minI_is {ns : List Int} {k : Int} (h : minI ns = some k) {m : Int} (hm : m ∈ ns) (h2 : ∀ y ∈ ns, m ≤ y) : m = k := by
  cases ns with
  | nil => cases h
  | cons x xs =>
    have h := Option.some.inj h
    obtain ⟨a, b⟩ := foldl_min xs x
    have le1 : k ≤ m := by
      rw [← h]
      rcases List.mem_cons.mp hm with e | e
      · rw [e]; exact a
      · exact b m e
    have le2 : m ≤ k := h2 k (by
      rw [← h]
      rcases foldl_min_mem xs x with e | e
      · rw [e]; simp
      · simp [e])
    omega
def gMaxL : List Rt → Option Rt
  | [r] => match r.items with
    | some (true, ds) => (intsOf ds).bind fun ns => (maxI ns).map fun k => .val (.int k)
    | _ => none
  | _ => none
def gMinL : List Rt → Option Rt
  | [r] => match r.items with
    | some (true, ds) => (intsOf ds).bind fun ns => (minI ns).map fun k => .val (.int k)
    | _ => none
  | _ => none
theorem loc_maxL : LocN C (rMax C.K) gMaxL := by
  intro m xs rs ry Q S h e k
  unfold gMaxL at e
  split at e
  · rename_i r
    obtain ⟨x, av, rfl, hx⟩ := h.one
    split at e
    · rename_i ds q
      obtain ⟨a, xs, rfl, h1, h2⟩ := hx.items S q
      rw [if_pos rfl] at h2
      cases z : intsOf ds with
      | none => rw [z] at e; cases e
      | some ns =>
        rw [z] at e
        simp only [Option.bind_some] at e
        cases zk : maxI ns with
        | none => rw [zk] at e; cases e
        | some j =>
          rw [zk] at e; cases e
          refine ⟨a, ns, rfl, by rw [← h1.toInts z]; exact h2, ?_, fun m' hm h3 => ?_⟩
          · cases ns with
            | nil => cases zk
            | cons _ _ => simp
          · rw [maxI_is zk hm h3]
            exact k _ m (Gro.refl S) rfl
    · cases e
  · cases e
theorem loc_minL : LocN C (rMin C.K) gMinL := by
  intro m xs rs ry Q S h e k
  unfold gMinL at e
  split at e
  · rename_i r
    obtain ⟨x, av, rfl, hx⟩ := h.one
    split at e
    · rename_i ds q
      obtain ⟨a, xs, rfl, h1, h2⟩ := hx.items S q
      rw [if_pos rfl] at h2
      cases z : intsOf ds with
      | none => rw [z] at e; cases e
      | some ns =>
        rw [z] at e
        simp only [Option.bind_some] at e
        cases zk : minI ns with
        | none => rw [zk] at e; cases e
        | some j =>
          rw [zk] at e; cases e
          refine ⟨a, ns, rfl, by rw [← h1.toInts z]; exact h2, ?_, fun m' hm h3 => ?_⟩
          · cases ns with
            | nil => cases zk
            | cons _ _ => simp
          · rw [minI_is zk hm h3]
            exact k _ m (Gro.refl S) rfl
    · cases e
  · cases e
section
variable {X : Cx} {E : WX} {e a b o : Expr} {pos : Pos} {T T1 T2 T3 : List Nat} {fs : MA} {es : List Expr} {f f1 f2 f3 : ME}
def mChain (g g' : Rt → Rt → Option Rt) (f1 f2 f3 : ME) : ME := fun env => (f1 env).bind fun r1 e1 => (f2 e1).bind fun r2 e2 => match r1, r2 with
  | .val d1, .val d2 => (match g (.val d1) (.val d2) with
    | some (.val (.bl true)) => (f3 e2).bind fun r3 e3 => ofO (g' (.val d2) r3) e3
    | some (.val (.bl false)) => .ok (.val (.bl false)) e2
    | _ => .bad)
  | _, _ => .bad
theorem chain_rd {r r' : R2} {g g' : Rt → Rt → Option Rt} {σ : L2.St} {H : Hp} {Q : VK} (L : Loc2 C r g) (L' : Loc2 C r' g') (h : rdE C E (T1 ++ (T2 ++ T3)) (mChain g g' f1 f2 f3) σ H Q) : tChain r r' (rdE C E T1 f1) (rdE C E T2 f2) (rdE C E T3 f3) σ H Q :=
  let ⟨m, e1, e2, S, w⟩ := h
  ⟨m, e1, e2, S, Want.imp w.bind fun r1 env w => fun v1 m1 a1 a2 S1 s1 ok1 => by
    subst a1
    refine ⟨m1, rfl, a2, S1, Want.mono w.bind s1 fun r2 env2 w => fun v2 m2 b1 b2 S2 s2 ok2 => ?_⟩
    subst b1
    cases r1 with
    | own o => exact w.elim
    | bor x p o => exact w.elim
    | sl x => exact w.elim
    | val d1 =>
     cases r2 with
     | own o => exact w.elim
     | bor x p o => exact w.elim
     | sl x => exact w.elim
     | val d2 =>
      dsimp only at w
      have s12 := s1.trans s2
      have ok1' : RpD C.K C.cl m2.F d1 v1 := RpD.mono s2.exF _ _ ok1
      split at w
      · rename_i hg
        refine L m2 v1 v2 (.val d1) (.val d2) _ (fun _ => True) (fun _ => True) _ S2 ok1' ok2 hg fun z m3 G okz => ?_
        refine ⟨true, okz, ?_⟩
        rw [if_pos rfl]
        have s13 := step_nil S2 s12 G
        refine ⟨m3, rfl, G.σ.trans b2, S2.gro G, ?_⟩
        rw [G.env]
        refine Want.mono w.bind s13 fun r3 env3 w => fun v3 m4 c1 c2 S4 s4 ok3 => ?_
        subst c1
        cases hg' : g' (.val d2) r3 with
        | none => rw [hg'] at w; exact w.elim
        | some rz =>
          rw [hg'] at w
          have ok2' : RpD C.K C.cl m4.F d2 v2 := RpD.mono (G.exF.trans s4.exF) _ _ ok2
          refine L' m4 v2 v3 (.val d2) r3 rz (fun _ => True) _ _ S4 ok2' ok3 hg' fun y m5 G5 ok5 => ?_
          have s14 : Step (T1 ++ (T2 ++ T3)) m m4 := by have := s13.trans s4; rwa [List.append_assoc] at this
          exact w y m5 G5.env (G5.σ.trans c2) (S4.gro G5) (step_nil S4 s14 G5) (ok5.av (old_new s14))
      · rename_i hg
        refine L m2 v1 v2 (.val d1) (.val d2) _ (fun _ => True) (fun _ => True) _ S2 ok1' ok2 hg fun z m3 G okz => ?_
        refine ⟨false, okz, ?_⟩
        rw [if_neg Bool.false_ne_true]
        have s13 : Step (T1 ++ (T2 ++ T3)) m m3 := (step_nil S2 s12 G).wk fun i hi => by
          simp only [List.mem_append] at hi ⊢
          rcases hi with z | z
          · exact .inl z
          · exact .inr (.inl z)
        exact w _ m3 G.env (G.σ.trans b2) (S2.gro G) s13 rfl
      · exact w.elim⟩
theorem e_chain {r r' : R2} {g g' : Rt → Rt → Option Rt} (L : Loc2 C r g) (L' : Loc2 C r' g') (h : PE X e (tChain r r' (rdE C E T1 f1) (rdE C E T2 f2) (rdE C E T3 f3))) : PE X e (rdE C E (T1 ++ (T2 ++ T3)) (mChain g g' f1 f2 f3)) :=
  PE.wk h fun _ _ _ h => chain_rd L L' h
theorem t_chain {r r' : R2} {g g' : Rt → Rt → Option Rt} (L : Loc2 C r g) (L' : Loc2 C r' g') (h : PT X e (tTest (tChain r r' (rdE C E T1 f1) (rdE C E T2 f2) (rdE C E T3 f3)))) : PT X e (rdT C E (T1 ++ (T2 ++ T3)) (mTest (mChain g g' f1 f2 f3))) :=
  PT.wk h fun _ _ Q h => chain_rd (Q := fun x H' => ∃ k, x = .bl k ∧ Q k H') L L' (rdTest h)
def gRev (r : Rt) : Option Rt := match r.items with
  | some (true, ds) => some (.own (.lst (ds.reverse.map O.s)))
  | _ => none
theorem rpDs_rev {K : PySem.W.Frag} {cl : Nat → Addr} {H : Hp} : ∀ {ds : List D} {xs : List V}, RpDs K cl H ds xs → RpDs K cl H ds.reverse xs.reverse
  | [], xs, h => by rw [show xs = [] from h]; exact rfl
  | d :: ds, xs, h => by
    obtain ⟨v, r, rfl, h1, h2⟩ := h
    rw [List.reverse_cons, List.reverse_cons]
    exact RpDs.append (rpDs_rev h2) ⟨v, [], rfl, h1, rfl⟩
theorem e_rev (hK : X.K = C.K) (h : PE X e (tRevL X.K (rdE C E T f))) : PE X e (rdE C E T (m1 gRev f)) := PE.wk h fun σ H Q h => by
  unfold tRevL
  rw [hK]
  refine rd1 (r := fun x H1 Q => ∃ a xs, x = .ref a ∧ SqL C.K H1 a xs ∧ ∀ p, H1 p = none → Q (.ref p) (upd H1 p (.lst xs.reverse))) ?_ h
  intro m x rx ry av Q S h1 h k
  unfold gRev at h
  split at h
  · rename_i ds q
    cases h
    obtain ⟨a, xs, rfl, r1, h2⟩ := h1.items S q
    rw [if_pos rfl] at h2
    exact ⟨a, xs, rfl, h2, fun p hp => k _ _ (gro_own S hp) (own_lst S hp (rpDs_rev r1) (fun z => z hp))⟩
  · cases h
def gLRg : Rt → Option Rt
  | .val (.int n) => if 0 ≤ n ∧ n ≤ 16777216 then some (.own (.lst ((rngD 0 n.toNat).map O.s))) else none
  | _ => none
theorem rngD_rp {K : PySem.W.Frag} {cl : Nat → Addr} {H : Hp} {lo : Int} (ks : List Nat) : RpDs K cl H (ks.map fun (i : Nat) => D.int (lo + (i : Int))) (ks.map fun (i : Nat) => V.int (lo + (i : Int))) := by
  induction ks with
  | nil => rfl
  | cons k ks ih => exact ⟨_, _, rfl, rfl, ih⟩
theorem e_listRg (h : PE X e (tLstRg (tRg1 (rdE C E T f)))) : PE X e (rdE C E T (m1 gLRg f)) := PE.wk h fun σ H Q h => by
  refine rd1 (r := fun x H1 Q => ∃ n, x = .int n ∧ RgOk 0 n ∧ ∀ q, H1 q = none → Q (.ref q) (upd H1 q (.lst (rgV 0 n)))) ?_ h
  intro m x rx ry av Q S h1 h k
  unfold gLRg at h
  split at h
  · rename_i n
    split at h
    · rename_i z
      cases h
      refine ⟨n, h1, RgOk.of_le (by omega) z.2 (by omega) z.1, fun p hp => k _ _ (gro_own S hp) (own_lst S hp ?_ (fun z => z hp))⟩
      unfold rngD rgV
      rw [Int.sub_zero]
      exact rngD_rp _
    · cases h
  · cases h
def tysR (ns : List String) : TA := ns.foldr (fun n t => tCons (tC (.ty n)) t) tNil
theorem tysR_go (ns : List String) {σ : L2.St} {H : Hp} {Q : List V → Hp → Prop} (q : Q (ns.map V.ty) H) : tysR ns σ H Q := by
  induction ns generalizing Q with
  | nil => exact q
  | cons n ns ih => exact ih q
def mIsT (ns : List String) (f : ME) : ME := fun env => (f env).bind fun r e => if r.isSl = true ∨ r.d.plain = false then .bad else ofO ((kitBs r.d.tn ns).map fun b => .val (.bl b)) e
theorem e_isT (ns : List String) (hK : X.K = C.K) (hn : ns.length ≤ 1000) (h : PE X e (tCB (rIsiT X.K) (tCons (rdE C E T f) (tCons (tTup (tysR ns)) tNil)))) : PE X e (rdE C E T (mIsT ns f)) := PE.wk h fun σ H Q ⟨m, e1, e2, S, w⟩ =>
  ⟨m, e1, e2, S, Want.imp w.bind fun r env w => fun v m' e3 e4 S' s ok => by
    subst e3
    refine tysR_go ns ⟨by rw [List.length_map, sizeLine_is]; omega, fun p hp => ?_⟩
    by_cases hs : r.isSl = true ∨ r.d.plain = false
    · rw [if_pos hs] at w; exact w.elim
    rw [if_neg hs] at w
    cases hk : kitBs r.d.tn ns with
    | none => rw [hk] at w; exact w.elim
    | some b =>
      rw [hk] at w
      have rd := ok.rd S' (by cases q : r.isSl <;> simp_all)
      have G := gro_own (o := .tup (ns.map V.ty)) S' hp
      rw [hK]
      have pr : ∀ l : List String, Paired ClsV (l.map V.ty) (l.map Value.type) := fun l => by
        induction l with
        | nil => exact .nil
        | cons n l ih => exact .cons (.ty n) ih
      refine ⟨v, p, ns.map V.ty, _, ns.map Value.type, b, rfl, upd_same, pr ns, (RpD.mono G.exH _ _ rd).tyx (by cases z : r.d.plain <;> simp_all), kitBs_any hk, ?_⟩
      exact w (.bl b) { m' with H := upd m'.H p (.tup (ns.map V.ty)) } rfl e4 (S'.gro G) (step_nil S' s G) rfl⟩
theorem op_inDT {X : Cx} (hu : X.A.units + 1 < cLine) : OpR X (compareOp .In) (fun x y H Q => ∃ a b kvs k, y = .ref a ∧ x = .ref b ∧ Rd H a (.dT kvs) ∧ SqT X.K H b (k.map kV) ∧ Q (.bl (valV kvs k).isSome) H) := by
  intro pins s σ H x y v u Q I rx ry h
  obtain ⟨a, b, kvs, k, rfl, rfl, e, hb, q⟩ := h
  cases rx
  cases ry
  obtain ⟨its, r, p, _⟩ := I.tuple hb
  obtain ⟨o, h1, h2, n, h3⟩ := p
  obtain ⟨z, hd, xs, rel, dd⟩ := dt_rd I.hok e
  refine wpAny_in_heap (tupleKind_room_in1 hu) ⟨o, its.toArray, n, h1, h2, h3, by simpa using items_are r⟩ hd dd ?_
  have q' := (rel.val k).isSome_eq
  rw [Option.isSome_map] at q'
  rw [← q']
  exact ⟨.bl _, H, I.tok _, rfl, q⟩
def D.key : D → Option Key
  | .int i => some (.inl i)
  | .str s => some (.inr s)
  | _ => none
def keysOf : List D → Option (List Key)
  | [] => some []
  | d :: ds => match d.key, keysOf ds with
    | some k, some ks => some (k :: ks)
    | _, _ => none
theorem RpDs.keys {K : PySem.W.Frag} {cl : Nat → Addr} {H : Hp} : ∀ {ds : List D} {vs : List V} {ks : List Key}, RpDs K cl H ds vs → keysOf ds = some ks → vs = ks.map kV
  | [], vs, ks, h, e => by cases e; exact h
  | d :: ds, vs, ks, h, e => by
    obtain ⟨v, r, rfl, h1, h2⟩ := h
    unfold keysOf at e
    split at e
    · rename_i k ks' e1 e2
      cases e
      rw [RpDs.keys h2 e2]
      cases d with
      | int i => cases e1; rw [show v = .int i from h1]; rfl
      | str i => cases e1; rw [show v = .str i from h1]; rfl
      | _ => cases e1
    · cases e
def gInDT : Rt → Rt → Option Rt
  | .val (.tup ds), .bor _ _ (.dt ks os) => (keysOf ds).map fun k => .val (.bl (lkK ks os k).isSome)
  | .val (.tup ds), .val (.dt ks os) => (keysOf ds).map fun k => .val (.bl (lkK ks os k).isSome)
  | _, _ => none
theorem lkK_isSome {α β κ : Type} [DecidableEq κ] {f : κ} : ∀ {ns : List κ} {xs : List α} {ys : List β}, xs.length = ys.length → (lkK ns xs f).isSome = (lkK ns ys f).isSome
  | [], xs, ys, _ => by simp [lkK]
  | n :: ns, [], ys, h => by
    have : ys = [] := List.eq_nil_of_length_eq_zero h.symm
    subst this; simp [lkK]
  | n :: ns, x :: xs, [], h => by simp at h
  | n :: ns, x :: xs, y :: ys, h => by
    unfold lkK
    by_cases e : n = f
    · simp [e]
    · simp only [if_neg e]
      exact lkK_isSome (by simpa using h)
theorem loc_inDT : Loc2 C (fun x y H Q => ∃ a b kvs k, y = .ref a ∧ x = .ref b ∧ Rd H a (.dT kvs) ∧ SqT C.K H b (k.map kV) ∧ Q (.bl (valV kvs k).isSome) H) gInDT := by
  intro m x y rx ry rz av av' Q S h1 h2 h k
  unfold gInDT at h
  split at h
  · rename_i ds x0 p ks os
    cases q : keysOf ds with
    | none => rw [q] at h; cases h
    | some kk =>
      rw [q] at h; cases h
      obtain ⟨b, xs, rfl, q1, r1⟩ := h1
      obtain ⟨fp, a, ys, f, rfl, _, h3, h4, h5⟩ := h2.bor S
      refine ⟨a, b, ks.zip ys, kk, rfl, rfl, .inl h3, by rw [← r1.keys q]; exact S.ex.sqT q1.1, k _ m (Gro.refl S) ?_⟩
      show V.bl _ = V.bl _
      rw [lkK_val, lkK_isSome h5.length]
  · rename_i ds ks os
    cases q : keysOf ds with
    | none => rw [q] at h; cases h
    | some kk =>
      rw [q] at h; cases h
      obtain ⟨b, xs, rfl, q1, r1⟩ := h1
      obtain ⟨a, ys, rfl, h3, h4, h5⟩ := h2
      refine ⟨a, b, ks.zip ys, kk, rfl, rfl, .inl (S.ex _ _ h3), by rw [← r1.keys q]; exact S.ex.sqT q1.1, k _ m (Gro.refl S) ?_⟩
      show V.bl _ = V.bl _
      rw [lkK_val, lkK_isSome h5.length]
  · cases h
def mDT0 : ME := fun env => .ok (.own (.dt [] [])) env
theorem e_dt0 : PE X (.Dict [] [] pos) (rdE C E [] mDT0) := PE.wk pe_dnewT fun σ H Q ⟨m, e1, e2, S, w⟩ p hp => by
  subst e1
  have G := gro_own (o := .dT []) S hp
  exact w (.ref p) { m with H := upd m.H p (.dT []) } rfl e2 (S.gro G) ((G.step S).wk (by simp)) ⟨[p], ⟨p, [], [], rfl, rfl, upd_same, rfl, rfl, rfl⟩, by simp, fun a ha => by
    have ha : a = p := by simpa using ha
    subst ha
    exact ⟨S.fNone hp, fun z => S.inH a z hp, .inl (S.h0None hp), fun z => z.1 hp⟩⟩
end
end
end L3
namespace L3
open PySem L2
section
variable {X : Cx} {C : Cn} {E : WX} {e a b o : Expr} {pos : Pos} {T T1 T2 T3 : List Nat} {fs : MA} {es : List Expr} {f f1 f2 f3 : ME}
theorem RpOs.unsnoc {K : PySem.W.Frag} {cl : Nat → Addr} {F H : Hp} {d : D} : ∀ {os : List O} {vs : List V} {fp : Fp}, RpOs K cl F H (os ++ [.s d]) vs fp → ∃ vs' v, vs = vs' ++ [v] ∧ RpOs K cl F H os vs' fp ∧ RpD K cl F d v
  | [], vs, fp, h => by
    obtain ⟨v, r, f, g, rfl, rfl, ⟨rfl, h1⟩, rfl, rfl⟩ := h
    exact ⟨[], v, rfl, ⟨rfl, rfl⟩, h1⟩
  | o :: os, vs, fp, h => by
    obtain ⟨v, r, f, g, rfl, rfl, h1, h2⟩ := h
    obtain ⟨vs', v', rfl, q1, q2⟩ := RpOs.unsnoc h2
    exact ⟨v :: vs', v', rfl, ⟨v, vs', f, g, rfl, rfl, h1, q1⟩, q2⟩
def unsnoc : List O → Option (List O × D)
  | [] => none
  | [.s d] => some ([], d)
  | o :: os => (unsnoc os).map fun p => (o :: p.1, p.2)
theorem unsnoc_is : ∀ {os : List O} {p : List O × D}, unsnoc os = some p → os = p.1 ++ [.s p.2]
  | [], p, h => by cases h
  | [o], p, h => by
    cases o with
    | s d => cases h; rfl
    | lst _ => cases h
    | dk _ _ => cases h
    | dt _ _ => cases h
    | ins _ _ _ => cases h
  | o :: o2 :: os, p, h => by
    have h' : (unsnoc (o2 :: os)).map (fun p => (o :: p.1, p.2)) = some p := by
      cases o <;> exact h
    cases q : unsnoc (o2 :: os) with
    | none => rw [q] at h'; cases h'
    | some p' =>
      rw [q] at h'; cases h'
      rw [unsnoc_is q]; rfl
def mPop (Tx : List Nat) (f : ME) : ME := fun env => (f env).bind fun r e1 => match r with
  | .bor x p (.lst os) => (match unsnoc os with
    | some q => if x ∈ Tx then (match poke x p (.lst q.1) e1 with
      | some e2 => .ok (.val q.2) e2
      | none => .bad) else .bad
    | none => .bad)
  | _ => .bad
theorem e_pop (Tx : List Nat) (hK : X.K = C.K) (h : PE X e (tBM0 X.K "list" rPop (rdE C E T1 f1))) : PE X e (rdE C E (T1 ++ Tx) (mPop Tx f1)) :=
  PE.wk h fun σ H Q ⟨m, e1, e2, S, w⟩ => ⟨m, e1, e2, S, Want.imp w.bind fun r env w => fun v m' e3 e4 S' s ok => by
    subst e3
    split at w
    · rename_i x p os
      split at w
      · rename_i q hq
        by_cases hz : x ∈ Tx
        · rw [if_pos hz] at w
          have hos := unsnoc_is hq
          obtain ⟨f0, a, xs, fl, rfl, rfl, hl, rr⟩ := ok.bor S'
          rw [hK]
          rw [hos] at rr
          obtain ⟨vs', v', rfl, rr1, rr2⟩ := rr.unsnoc
          obtain ⟨env', hp, m3, b1, b2, b3, b4, S3, s3, b5⟩ := poke_ok (ho := .lst vs') (o' := .lst q.1) s S' ok (fun fr hr na nd inx => by
            obtain ⟨a2, xs2, f4, e, e', hl4, rr4⟩ := hr
            cases e; cases e'
            rw [hl] at hl4; cases hl4
            rw [hos] at rr4
            obtain ⟨vs2, v2, ev, rr5, _⟩ := rr4.unsnoc
            obtain ⟨rfl, _⟩ := List.append_inj' ev rfl
            refine ⟨fr, ⟨a, _, _, rfl, rfl, upd_same, rr5.upd na⟩, nd, fun b hb => .inl hb⟩) ⟨fl, a, _, fl, rfl, rfl, hl, by rw [hos]; exact rr⟩
          rw [hp] at w
          refine ⟨.inl ⟨rfl, _, .inl (.inl hl)⟩, a, _, v', rfl, rfl, hl, by simp, ?_⟩
          rw [List.dropLast_concat]
          have := w v' m3 b1 (b4.trans e4) S3 (s3.wk (fun i hi => by
            simp only [List.mem_append] at hi ⊢
            rcases hi with z | z
            · exact .inl z
            · have : i = x := by simpa using z
              exact .inr (by rw [this]; exact hz))) (by show RpD C.K C.cl m3.F q.2 v'; rw [b2]; exact rr2)
          rw [b3] at this
          exact this
        · rw [if_neg hz] at w; exact w.elim
      · exact w.elim
    · exact w.elim⟩
def mExtend (Tx T2 : List Nat) (f f2 : ME) : ME := fun env => (f env).bind fun r e1 => match r with
  | .bor x p (.lst os) => if x ∈ T2 then .bad else (f2 e1).bind fun y e2 => match lstOf y with
    | some ds => if os.length + ds.length ≤ 16777216 ∧ x ∈ Tx then (match poke x p (.lst (os ++ ds.map O.s)) e2 with
      | some e3 => .ok (.val .non) e3
      | none => .bad) else .bad
    | none => .bad
  | _ => .bad
theorem e_extend (Tx : List Nat) (hK : X.K = C.K) (h : PE X e (tBM X.K "list" rExtend (rdE C E T1 f1) (rdA1 C E T2 f2))) : PE X e (rdE C E (T1 ++ (T2 ++ Tx)) (mExtend Tx T2 f1 f2)) :=
  PE.wk h fun σ H Q ⟨m, e1, e2, S, w⟩ => ⟨m, e1, e2, S, Want.imp w.bind fun r env w => fun v m' e3 e4 S' s ok => by
    subst e3
    split at w
    · rename_i x p os
      by_cases hh : x ∈ T2
      · rw [if_pos hh] at w; exact w.elim
      rw [if_neg hh] at w
      obtain ⟨f0, a, xs, fl, rfl, rfl, hl, rr⟩ := ok.bor S'
      rw [hK]
      refine ⟨.inl ⟨rfl, xs, .inl (.inl hl)⟩, m', rfl, e4, S', Want.mono w.bind s fun y env2 w vy m2 a1 a2 S2 s2 ok2 => ?_⟩
      subst a1
      have ok' := ok.step S' s2 (by simpa [Rt.hot] using hh) (a2.trans e4.symm)
      obtain ⟨f2, a', xs', fl2, e, rfl, hl2, rr2⟩ := ok'.bor S2
      cases e
      cases ho : lstOf y with
      | none => rw [ho] at w; exact w.elim
      | some ds =>
        rw [ho] at w
        dsimp only at w
        by_cases hz : os.length + ds.length ≤ 16777216 ∧ x ∈ Tx
        · rw [if_pos hz] at w
          obtain ⟨b, zs, rfl, hb, rz⟩ := ok2.lstOf S2 ho
          obtain ⟨env', hp, m3, b1, b2, b3, b4, S3, s3, b5⟩ := poke_ok (ho := .lst (xs' ++ zs)) (o' := .lst (os ++ ds.map O.s)) (s.trans s2) S2 ok' (fun fr hr na nd inx => by
            obtain ⟨a2, xs2, f4, e, e', hl4, rr4⟩ := hr
            cases e; cases e'
            rw [hl2] at hl4; cases hl4
            exact ⟨fr, ⟨a, _, _, rfl, rfl, upd_same, by have := (rr4.upd (ho := .lst (xs' ++ zs)) na).append rz.os; rwa [List.append_nil] at this⟩, nd, fun b hb => .inl hb⟩) ⟨fl2, a, xs', fl2, rfl, rfl, hl2, rr2⟩
          rw [hp] at w
          refine ⟨a, b, xs', zs, rfl, rfl, hl2, hb, by rw [rr2.length, rz.length, sizeLine_is]; exact hz.1, ?_⟩
          have := w .non m3 b1 (b4.trans a2) S3 (s3.wk (fun i hi => by
            simp only [List.mem_append] at hi ⊢
            rcases hi with (z | z) | z
            · exact .inl z
            · exact .inr (.inl z)
            · have : i = x := by simpa using z
              exact .inr (.inr (by rw [this]; exact hz.2)))) rfl
          rw [b3] at this
          exact this
        · rw [if_neg hz] at w; exact w.elim
    · exact w.elim⟩
def lookT : List (Str × D) → Str → Option D
  | [], _ => none
  | (k, d) :: r, z => if k = z then some d else lookT r z
def KTab (K : PySem.W.Frag) (cl : Nat → Addr) (d : Addr) (tab : List (Str × D)) : Prop := ∀ z : Str, ∃ r, PySem.W.nsIn K d z = some r ∧ (match lookT tab z with
  | none => r = none
  | some dd => ∃ (u0 : Value) (v0 : V), r = some u0 ∧ RelV v0 u0 ∧ ∀ F : Hp, RpD K cl F dd v0)
def mKGet (tab : List (Str × D)) (f1 f2 : ME) : ME := fun env => (f1 env).bind fun r1 e1 => (f2 e1).bind fun r2 e2 => match r1, r2 with
  | .val (.str z), .val d => .ok (.val ((lookT tab z).getD d)) e2
  | _, _ => .bad
def tKGet (K : PySem.W.Frag) (d : Addr) (ta tb : TE) : TE := fun σ H Q => ta σ H fun x H1 => tb σ H1 fun y H2 => ∃ (z : Str) (r : Option Value), x = .str z ∧ PySem.W.nsIn K d z = some r ∧ (∀ u0, r = some u0 → ∃ v0, RelV v0 u0 ∧ Q v0 H2) ∧ (r = none → Q y H2)
theorem pe_kget {d : Addr} {es : Array DictEntry} {n : Nat} {nm : Str} {p apos cpos : Pos} {ta tb : TE} (Dk : KDict X.K X.w d es n) (hg : Gl X nm) (hm : X.mg nm = some (.ref d)) (ha : PE X a ta) (hb : PE X b tb) (m : M2 X (.Name nm p) "get" apos a b cpos)
    (hdb : (nm == ("__debug__" : Str)) = false := by decide) : PE X (.Call (.Attribute (.Name nm p) "get" apos) [a, b] [] cpos) (tKGet X.K d ta tb) := by
  refine ⟨fun pins s σ H Q I h => ?_⟩
  refine wpAny_Call_method m.base m.few m.line PySem.F.plainAttrs_dict PySem.F.slot_dict_get PySem.F.type_dict_get (ld_glob I hg hm ?_ hdb)
  have mp := PySem.W.mapOf_K (prog := X.prog) (w := X.w) I.kIn Dk.at_ Dk.lit
  refine ⟨mp.typeIs, mp.noDict, ?_⟩
  rw [m.trees]
  refine Calls.callWith_builtin rfl (Calls.evalArgs_plain (Calls.spliced_cons (thn (ha.run pins s σ H _ I h) fun iv s2 ⟨x, H1, I1, rx, q1⟩ =>
    Calls.spliced_cons (thn (hb.run pins s2 σ H1 _ I1 q1) fun fv s3 ⟨y, H2, I3, ry, z, r, ex, en, g1, g2⟩ => Calls.spliced_nil ?_))))
  subst ex
  obtain ⟨t, rfl⟩ := rx
  have mp3 := PySem.W.mapOf_K (prog := X.prog) (w := X.w) I3.kIn Dk.at_ Dk.lit
  refine call_meetsIn PySem.F.slot_dict_get mp3.typeIs PySem.F.entry_dict_get (PySem.F.args_dict_get_3 _ _ _) (meets_dict_get_default (PySem.strKind X.prog X.w) d (PySem.strKind_is X.prog X.w z t) Dk.low fv) ⟨_, mp3, ?_⟩
  rw [PySem.W.find_K Dk.at_ en]
  cases r with
  | none => exact ⟨y, H2, I3.tok _, ry, g2 rfl⟩
  | some u0 =>
    obtain ⟨v0, r0, q0⟩ := g1 u0 rfl
    exact ⟨v0, H2, I3.tok _, r0, q0⟩
theorem e_kget {d : Addr} {tab : List (Str × D)} {e : Expr} (hT : KTab C.K C.cl d tab) (hK : X.K = C.K) (h : PE X e (tKGet X.K d (rdE C E T1 f1) (rdE C E T2 f2))) : PE X e (rdE C E (T1 ++ T2) (mKGet tab f1 f2)) := PE.wk h fun σ H Q ⟨m, e1, e2, S, w⟩ =>
  ⟨m, e1, e2, S, Want.imp w.bind fun r1 env w => fun v1 m1 a1 a2 S1 s1 ok1 => by
    subst a1
    refine ⟨m1, rfl, a2, S1, Want.mono w.bind s1 fun r2 env2 w => fun v2 m2 b1 b2 S2 s2 ok2 => ?_⟩
    subst b1
    split at w
    · rename_i z dd _
      rw [hK]
      obtain ⟨r, en, hr⟩ := hT z
      have ok1 : v1 = .str z := ok1
      refine ⟨z, r, ok1, en, fun u0 hu => ?_, fun hn => ?_⟩
      · subst hu
        cases q : lookT tab z with
        | none => rw [q] at hr; cases hr
        | some d0 =>
          rw [q] at hr w
          obtain ⟨u1, v0, e3, r0, k⟩ := hr
          cases e3
          exact ⟨v0, r0, w v0 m2 rfl b2 S2 (s1.trans s2) (k _)⟩
      · subst hn
        cases q : lookT tab z with
        | some d0 =>
          rw [q] at hr
          obtain ⟨u1, v0, e3, _⟩ := hr
          cases e3
        | none =>
          rw [q] at w
          exact w v2 m2 rfl b2 S2 (s1.trans s2) ok2
    · exact w.elim⟩
end
end L3
namespace L3
open PySem L2
structure CalF (P : Program) (w : World) (K : PySem.W.Frag) (mg : Str → Option Value) (base : Heap) (k : Nat) (x : Str) (ps : List Str) (sp : Sp) (f : Addr) (fd : FuncData) : Prop where
  ok : FnOk P w K mg base CX0 k f fd ps sp
  b : Binds K fd ps []
  g : mg x = some (.ref f)
  kp : PySem.W.keepIn K (.ref f) = true
structure CalM (P : Program) (w : World) (K : PySem.W.Frag) (mg : Str → Option Value) (base : Heap) (k : Nat) (C : Addr) (m : Str) (ps : List Str) (sp : Sp) (f : Addr) (fd : FuncData) : Prop where
  ok : FnOk P w K mg base CX0 k f fd ps sp
  b : Binds K fd ps []
  c : Cls K C
  m : Meth K C m f
structure CalI (P : Program) (w : World) (K : PySem.W.Frag) (mg : Str → Option Value) (base : Heap) (k : Nat) (C : Addr) (x : Str) (ps : List Str) (sp : Sp) (f : Addr) (fd : FuncData) : Prop where
  ok : FnOk P w K mg base CX0 k f fd ps sp
  b : Binds K fd ps []
  made : Mk K C f
  g : mg x = some (.ref C)
theorem CalF.imp {P : Program} {w : World} {K : PySem.W.Frag} {mg : Str → Option Value} {base : Heap} {k : Nat} {x : Str} {ps : List Str} {f : Addr} {fd : FuncData} {cl : Nat → Addr} {n : Nat} {f1 f2 : List O → Rr} (c : CalF P w K mg base k x ps (spG K cl n f1) f fd)
    (h : ∀ os, os.length = n → f2 os = .bad ∨ f1 os = f2 os) : CalF P w K mg base k x ps (spG K cl n f2) f fd := ⟨c.ok.imp (fun vs H Q E q => spG_imp h vs H Q E q), c.b, c.g, c.kp⟩
theorem CalM.imp {P : Program} {w : World} {K : PySem.W.Frag} {mg : Str → Option Value} {base : Heap} {k : Nat} {C : Addr} {m : Str} {ps : List Str} {f : Addr} {fd : FuncData} {cl : Nat → Addr} {n : Nat} {f1 f2 : List O → Rr} (c : CalM P w K mg base k C m ps (spG K cl n f1) f fd)
    (h : ∀ os, os.length = n → f2 os = .bad ∨ f1 os = f2 os) : CalM P w K mg base k C m ps (spG K cl n f2) f fd := ⟨c.ok.imp (fun vs H Q E q => spG_imp h vs H Q E q), c.b, c.c, c.m⟩
theorem CalI.imp {P : Program} {w : World} {K : PySem.W.Frag} {mg : Str → Option Value} {base : Heap} {k : Nat} {C : Addr} {x : Str} {ps : List Str} {f : Addr} {fd : FuncData} {cl : Nat → Addr} {n : Nat} {f1 f2 : List O → Rr} (c : CalI P w K mg base k C x ps (spG K cl n f1) f fd)
    (h : ∀ os, os.length = n → f2 os = .bad ∨ f1 os = f2 os) : CalI P w K mg base k C x ps (spG K cl n f2) f fd := ⟨c.ok.imp (fun vs H Q E q => spG_imp h vs H Q E q), c.b, c.made, c.g⟩
theorem all1 {p : Nat → Prop} {a : Nat} (h : p a) : ∀ c ∈ [a], p c := fun c hc => by
  have e : c = a := by simpa using hc
  rw [e]; exact h
theorem all2 {p : Nat → Prop} {a b : Nat} (h : p a) (h2 : p b) : ∀ c ∈ [a, b], p c := fun c hc => by
  rcases List.mem_cons.mp hc with e | e
  · rw [e]; exact h
  · exact all1 h2 c e
theorem all3 {p : Nat → Prop} {a b d : Nat} (h : p a) (h2 : p b) (h3 : p d) : ∀ c ∈ [a, b, d], p c := fun c hc => by
  rcases List.mem_cons.mp hc with e | e
  · rw [e]; exact h
  · exact all2 h2 h3 c e
theorem loc_ipadd {C : Cn} : Loc2 C (ipI fun i j => i + j) (gI fun i j => .int (i + j)) := by
  intro m x y rx ry rz av av' Q S h1 h2 h k
  obtain ⟨i, j, rfl, rfl, rfl⟩ := gI_some h
  exact ⟨i, j, h1, h2, k _ m (Gro.refl S) rfl⟩
theorem loc_ipsub {C : Cn} : Loc2 C (ipI fun i j => i - j) (gI fun i j => .int (i - j)) := by
  intro m x y rx ry rz av av' Q S h1 h2 h k
  obtain ⟨i, j, rfl, rfl, rfl⟩ := gI_some h
  exact ⟨i, j, h1, h2, k _ m (Gro.refl S) rfl⟩
theorem fn_def2 {P : Program} {w : World} {K : PySem.W.Frag} {mg : Str → Option Value} {base : Heap} {cl : Nat → Addr} {x qual : Str} {st : Stmt} {f : Addr} {fd : FuncData} {N ps : List Str} {k : Nat} {IO : List Nat} {body : MS} (F : Fun K x qual st f fd) (S : FnScope N ps (defScope st)) (hN : ps.length ≤ N.length)
    (hb : ∀ (cdv : Value) (A : Around) (outer : List PySem.Env) (s : Shared) (H : Hp) (E : XK) (F0 H0 : Hp) (io : Fp) (vs : L2.St), Room k (A.deeper (PyProof.Rows.envOfC qual (defScope st) s.heap.objs.size f cdv)) →
      ∃ T, PSs (cxOf CX0 P w K mg base N qual (defScope st) f cdv A outer s H E).nox (defBody st) (rdS ⟨K, cl, F0, H0, io, IO, vs, N.length⟩ (upE E) T body)) :
    FnOk P w K mg base CX0 (k + 1) f fd ps (spG K cl ps.length (runDef IO (N.length - ps.length) body)) :=
  fn_def F S hN fun cdv A outer s H E C h1 h2 h3 h4 hr => by
    obtain ⟨K', cl', F0, H0, io, IO', vs, n⟩ := C
    have h1 : K' = K := h1
    have h2 : cl' = cl := h2
    have h3 : IO' = IO := h3
    have h4 : n = N.length := h4
    subst h1 h2 h3 h4
    exact hb cdv A outer s H E F0 H0 io vs hr
structure CalXF (P : Program) (w : World) (K : PySem.W.Frag) (mg : Str → Option Value) (base : Heap) (k : Nat) (x : Str) (ps : List Str) (sp : Sp) (f : Addr) (fd : FuncData) : Prop where
  ok : FnOk P w K mg base (L2.CX P w) k f fd ps sp
  b : Binds K fd ps []
  g : mg x = some (.ref f)
  kp : PySem.W.keepIn K (.ref f) = true
structure CalXM (P : Program) (w : World) (K : PySem.W.Frag) (mg : Str → Option Value) (base : Heap) (k : Nat) (C : Addr) (m : Str) (ps : List Str) (sp : Sp) (f : Addr) (fd : FuncData) : Prop where
  ok : FnOk P w K mg base (L2.CX P w) k f fd ps sp
  b : Binds K fd ps []
  c : Cls K C
  m : Meth K C m f
structure CalXI (P : Program) (w : World) (K : PySem.W.Frag) (mg : Str → Option Value) (base : Heap) (k : Nat) (C : Addr) (x : Str) (ps : List Str) (sp : Sp) (f : Addr) (fd : FuncData) : Prop where
  ok : FnOk P w K mg base (L2.CX P w) k f fd ps sp
  b : Binds K fd ps []
  made : Mk K C f
  g : mg x = some (.ref C)
theorem CalXF.imp {P : Program} {w : World} {K : PySem.W.Frag} {mg : Str → Option Value} {base : Heap} {k : Nat} {x : Str} {ps : List Str} {f : Addr} {fd : FuncData} {cl : Nat → Addr} {n : Nat} {f1 f2 : List O → Rr} (c : CalXF P w K mg base k x ps (spG K cl n f1) f fd)
    (h : ∀ os, os.length = n → f2 os = .bad ∨ f1 os = f2 os) : CalXF P w K mg base k x ps (spG K cl n f2) f fd := ⟨c.ok.imp (fun vs H Q E q => spG_imp h vs H Q E q), c.b, c.g, c.kp⟩
theorem CalXM.imp {P : Program} {w : World} {K : PySem.W.Frag} {mg : Str → Option Value} {base : Heap} {k : Nat} {C : Addr} {m : Str} {ps : List Str} {f : Addr} {fd : FuncData} {cl : Nat → Addr} {n : Nat} {f1 f2 : List O → Rr} (c : CalXM P w K mg base k C m ps (spG K cl n f1) f fd)
    (h : ∀ os, os.length = n → f2 os = .bad ∨ f1 os = f2 os) : CalXM P w K mg base k C m ps (spG K cl n f2) f fd := ⟨c.ok.imp (fun vs H Q E q => spG_imp h vs H Q E q), c.b, c.c, c.m⟩
theorem CalXI.imp {P : Program} {w : World} {K : PySem.W.Frag} {mg : Str → Option Value} {base : Heap} {k : Nat} {C : Addr} {x : Str} {ps : List Str} {f : Addr} {fd : FuncData} {cl : Nat → Addr} {n : Nat} {f1 f2 : List O → Rr} (c : CalXI P w K mg base k C x ps (spG K cl n f1) f fd)
    (h : ∀ os, os.length = n → f2 os = .bad ∨ f1 os = f2 os) : CalXI P w K mg base k C x ps (spG K cl n f2) f fd := ⟨c.ok.imp (fun vs H Q E q => spG_imp h vs H Q E q), c.b, c.made, c.g⟩
theorem fn_def2X {P : Program} {w : World} {K : PySem.W.Frag} {mg : Str → Option Value} {base : Heap} {cl : Nat → Addr} {x qual : Str} {st : Stmt} {f : Addr} {fd : FuncData} {N ps : List Str} {k : Nat} {IO : List Nat} {body : MS} (F : Fun K x qual st f fd) (S : FnScope N ps (defScope st)) (hN : ps.length ≤ N.length)
    (hb : ∀ (cdv : Value) (A : Around) (outer : List PySem.Env) (s : Shared) (H : Hp) (E : XK) (F0 H0 : Hp) (io : Fp) (vs : L2.St), Room k (A.deeper (PyProof.Rows.envOfC qual (defScope st) s.heap.objs.size f cdv)) →
      Takes (cxOf (L2.CX P w) P w K mg base N qual (defScope st) f cdv A outer s H E) (upE E) → ∃ T, PSs (cxOf (L2.CX P w) P w K mg base N qual (defScope st) f cdv A outer s H E) (defBody st) (rdS ⟨K, cl, F0, H0, io, IO, vs, N.length⟩ (upE E) T body)) :
    FnOk P w K mg base (L2.CX P w) (k + 1) f fd ps (spG K cl ps.length (runDef IO (N.length - ps.length) body)) :=
  fn_defX F S hN fun cdv A outer s H E C h1 h2 h3 h4 hr tk => by
    obtain ⟨K', cl', F0, H0, io, IO', vs, n⟩ := C
    have h1 : K' = K := h1
    have h2 : cl' = cl := h2
    have h3 : IO' = IO := h3
    have h4 : n = N.length := h4
    subst h1 h2 h3 h4
    exact hb cdv A outer s H E F0 H0 io vs hr tk
theorem passX {X : Cx} {E : WX} (tk : Takes X E) : ∀ σ, PassesAt (L2.CX X.prog X.w) X σ (WE E σ) := fun σ => passAt tk σ
theorem units65 {k : Nat} {A : Around} (r : Room k A) : A.units + 65 < cLine := by have := r.un; omega
theorem units1 {k : Nat} {A : Around} (r : Room k A) : A.units + 1 < cLine := by have := r.un; omega
end L3
namespace L3
open PySem L2
theorem shp_int (i : Int) : SeqAt.shaped (.int i) = true := by
  unfold SeqAt.shaped
  rw [Bool.and_eq_true]
  exact ⟨by simp [PyData.canLay0], by simp [PyData.depth]⟩
theorem shp_str {i : Str} (h : PyData.strOk i = true) : SeqAt.shaped (.str i) = true := by
  unfold SeqAt.shaped
  rw [Bool.and_eq_true]
  exact ⟨by simpa [PyData.canLay0] using h, by simp [PyData.depth]⟩
theorem beq_dec {α : Type} [DecidableEq α] [BEq α] [LawfulBEq α] (i j : α) : (i == j) = decide (i = j) := by
  by_cases h : i = j
  · subst h; simp
  · simp [h]
def Rs.ex {α β : Type} : Rs α → Rs β
  | .exc c ds e => .exc c ds e
  | _ => .bad
def seqK (g2 : MS) : Rs Fl → Rs Fl
  | .ok .nx e => g2 e
  | r => r
def testK : Rs Rt → Rs Bool
  | .ok r e => ofO (toB r) e
  | r => r.ex
def ifK {α : Type} (g1 g2 : Env → Rs α) : Rs Bool → Rs α
  | .ok b e => if b = true then g1 e else g2 e
  | r => r.ex
def tandK (t2 : MT) : Rs Bool → Rs Bool
  | .ok b e => if b = true then t2 e else .ok false e
  | r => r
def torK (t2 : MT) : Rs Bool → Rs Bool
  | .ok b e => if b = true then .ok true e else t2 e
  | r => r
def tnotK : Rs Bool → Rs Bool
  | .ok b e => .ok (!b) e
  | r => r
def m2L (g : Rt → Rt → Option Rt) (r1 : Rt) : Rs Rt → Rs Rt
  | .ok r2 e => ofO (g r1 r2) e
  | r => r
def m2K (g : Rt → Rt → Option Rt) (T : List Nat) (f2 : ME) : Rs Rt → Rs Rt
  | .ok r1 e => if r1.hot T = true then .bad else m2L g r1 (f2 e)
  | r => r
def m1K (g : Rt → Option Rt) : Rs Rt → Rs Rt
  | .ok r e => ofO (g r) e
  | r => r
def mNK (g : List Rt → Option Rt) : Rs (List Rt) → Rs Rt
  | .ok r e => ofO (g r) e
  | r => r.ex
def consL (r : Rt) : Rs (List Rt) → Rs (List Rt)
  | .ok rs e => .ok (r :: rs) e
  | r => r
def consK (T : List Nat) (fs : MA) : Rs Rt → Rs (List Rt)
  | .ok r e => if r.hot T = true then .bad else consL r (fs e)
  | r => r.ex
def retK : Rs Rt → Rs Fl
  | .ok r e => .ok (.ret r) e
  | r => r.ex
def setP (i : Nat) (e : Env) : Option O → Rs Fl
  | some o => .ok .nx (e.set i (some o))
  | none => .bad
def setK (i : Nat) : Rs Rt → Rs Fl
  | .ok r e => setP i e r.o
  | r => r.ex
def exprK : Rs Rt → Rs Fl
  | .ok _ e => .ok .nx e
  | r => r.ex
def mAndB (f2 : ME) (e : Env) : Option Bool → Rs Rt
  | some true => f2 e
  | some false => .ok (.val (.bl false)) e
  | none => .bad
def mAndK (f2 : ME) : Rs Rt → Rs Rt
  | .ok r e => mAndB f2 e (toB r)
  | r => r
def mOrB (f2 : ME) (e : Env) : Option Bool → Rs Rt
  | some false => f2 e
  | some true => .ok (.val (.bl true)) e
  | none => .bad
def mOrK (f2 : ME) : Rs Rt → Rs Rt
  | .ok r e => mOrB f2 e (toB r)
  | r => r
def mNotB (e : Env) : Option Bool → Rs Rt
  | some k => .ok (.val (.bl (!k))) e
  | none => .bad
def mNotK : Rs Rt → Rs Rt
  | .ok r e => mNotB e (toB r)
  | r => r
def callR (n : Nat) (rs : List Rt) (e : Env) : Rr → Rs Rt
  | .ok r outs => if outs.length = n then .ok r.rr (putOuts e rs outs) else .bad
  | .exc c ds outs => if outs.length = n then .exc c ds (putOuts e rs outs) else .bad
  | .bad => .bad
def callA (Sl : List Nat) (n : Nat) (fn : List O → Rr) (rs : List Rt) (e : Env) : Option (List O) → Rs Rt
  | some os => if rs.length = n ∧ (slots rs).Nodup ∧ (∀ x ∈ slots rs, x ∈ Sl) then callR n rs e (fn os) else .bad
  | none => .bad
def callK (Sl : List Nat) (n : Nat) (fn : List O → Rr) : Rs (List Rt) → Rs Rt
  | .ok rs e => callA Sl n fn rs e (argsO e rs)
  | r => r.ex
def makeR (n : Nat) (rs : List Rt) (e : Env) : Rr → Rs Rt
  | .ok (.s .non) (self :: outs) => if outs.length + 1 = n then .ok self.rr (putOuts e rs outs) else .bad
  | .exc c ds (_ :: outs) => if outs.length + 1 = n then .exc c ds (putOuts e rs outs) else .bad
  | _ => .bad
def makeA (Sl : List Nat) (c n : Nat) (fn : List O → Rr) (rs : List Rt) (e : Env) : Option (List O) → Rs Rt
  | some os => if rs.length + 1 = n ∧ (slots rs).Nodup ∧ (∀ x ∈ slots rs, x ∈ Sl) then makeR n rs e (fn (.ins c [] [] :: os)) else .bad
  | none => .bad
def makeK (Sl : List Nat) (c n : Nat) (fn : List O → Rr) : Rs (List Rt) → Rs Rt
  | .ok rs e => makeA Sl c n fn rs e (argsO e rs)
  | r => r.ex
def methK (Sl : List Nat) (c : Nat) (mn : Str) (n : Nat) (fn : List O → Rr) (fs : MA) : Rs Rt → Rs Rt
  | .ok r e => if hasNo [c] mn e r = true then callK Sl n fn (consL r (fs e)) else .bad
  | r => r
def roK (n : Nat) (fn : List O → Rr) : Rs (List Rt) → Rs Rt
  | .ok rs e => roRun n fn rs e
  | r => r.ex
def methRK (T2 : List Nat) (c : Nat) (mn : Str) (n : Nat) (fn : List O → Rr) (fs : MA) : Rs Rt → Rs Rt
  | .ok r e => if r.isSl = false ∧ r.hot T2 = false ∧ roHas c mn r.d = true then roK n fn (consL r (fs e)) else .bad
  | r => r
def stlK : Rs Rt → Rs Rt
  | .ok (.own o) e => .ok (.val o.d) e
  | r => r
def chainN (g' : Rt → Rt → Option Rt) (d2 : D) : Rs Rt → Rs Rt
  | .ok r3 e => ofO (g' (.val d2) r3) e
  | r => r
def chainB (g' : Rt → Rt → Option Rt) (f3 : ME) (d2 : D) (e : Env) : Option Rt → Rs Rt
  | some (.val (.bl true)) => chainN g' d2 (f3 e)
  | some (.val (.bl false)) => .ok (.val (.bl false)) e
  | _ => .bad
def chainM (g g' : Rt → Rt → Option Rt) (f3 : ME) (r1 : Rt) : Rs Rt → Rs Rt
  | .ok r2 e => match r1, r2 with
    | .val d1, .val d2 => chainB g' f3 d2 e (g (.val d1) (.val d2))
    | _, _ => .bad
  | r => r
def chainK (g g' : Rt → Rt → Option Rt) (f2 f3 : ME) : Rs Rt → Rs Rt
  | .ok r1 e => chainM g g' f3 r1 (f2 e)
  | r => r
def runF (n : Nat) (fl : Fl) : Option (List O) → Option O → Rr
  | some outs, some r => .ok r outs
  | _, _ => .bad
def runK (IO : List Nat) (os : List O) : Rs Fl → Rr
  | .ok fl e => runF os.length fl (outsFrom IO 0 os e) (retO os.length fl)
  | .exc c ds e => match outsFrom IO 0 os e with
    | some outs => .exc c ds outs
    | none => .bad
  | .bad => .bad
def ixSet (Tx : List Nat) (x : Nat) (p : List Stp) (os : List O) (oy : O) (e : Env) : Option Nat → Rs Fl
  | some j => if x ∈ Tx then (match poke x p (.lst (os.set j oy)) e with
    | some e4 => .ok .nx e4
    | none => .bad) else .bad
  | none => .bad
def setIxI (Tx : List Nat) (oy : O) (r : Rt) : Rs Rt → Rs Fl
  | .ok ri e => match r, ri with
    | .bor x p (.lst os), .val (.int i) => ixSet Tx x p os oy e (ixN os.length i)
    | _, _ => .bad
  | r => r.ex
def setIxO (Tx T3 : List Nat) (fi : ME) (oy : O) : Rs Rt → Rs Fl
  | .ok r e => match r with
    | .bor x p (.lst os) => if x ∈ T3 then .bad else setIxI Tx oy (.bor x p (.lst os)) (fi e)
    | _ => .bad
  | r => r.ex
def setIxY (Tx T3 : List Nat) (fo fi : ME) (e : Env) : Option O → Rs Fl
  | some oy => setIxO Tx T3 fi oy (fo e)
  | none => .bad
def setIxK (Tx T3 : List Nat) (fo fi : ME) : Rs Rt → Rs Fl
  | .ok y e => setIxY Tx T3 fo fi e y.o
  | r => r.ex
section
variable {α β : Type} {env : Env} {e e1 : Env} {T T1 T2 T3 Tx : List Nat} {f f1 f2 f3 fo fi : ME} {fs : MA} {t t1 t2 : MT} {g g1 g2 : MS} {r : Rt} {rs : List Rt} {d : D}
@[simp] theorem ev_seq : msSeq g1 g2 env = seqK g2 (g1 env) := by
  unfold msSeq
  cases g1 env with
  | ok fl e => cases fl <;> rfl
  | exc c ds e => rfl
  | bad => rfl
@[simp] theorem ev_seq1 : seqK g2 (.ok .nx e) = g2 e := Eq.trans rfl rfl
@[simp] theorem ev_seq2 : seqK g2 (.ok (.ret r) e) = .ok (.ret r) e := Eq.trans rfl rfl
@[simp] theorem ev_seq3 : seqK g2 (.ok .brk e) = .ok .brk e := Eq.trans rfl rfl
@[simp] theorem ev_seq4 : seqK g2 (.ok .cont e) = .ok .cont e := Eq.trans rfl rfl
@[simp] theorem ev_seq5 : seqK g2 .bad = .bad := Eq.trans rfl rfl
@[simp] theorem ev_test : mTest f env = testK (f env) := by unfold mTest; cases f env <;> rfl
@[simp] theorem ev_test1 : testK (.ok r e) = ofO (toB r) e := Eq.trans rfl rfl
@[simp] theorem ev_if : msIf t g1 g2 env = ifK g1 g2 (t env) := by unfold msIf; cases t env <;> rfl
@[simp] theorem ev_if1 {b : Bool} {g1 g2 : Env → Rs α} : ifK g1 g2 (.ok b e) = if b = true then g1 e else g2 e := Eq.trans rfl rfl
@[simp] theorem ev_mIf : mIf t f1 f2 env = ifK f1 f2 (t env) := by unfold mIf; cases t env <;> rfl
@[simp] theorem ev_tand : tmAnd t1 t2 env = tandK t2 (t1 env) := by unfold tmAnd; cases t1 env <;> rfl
@[simp] theorem ev_tand1 {b : Bool} : tandK t2 (.ok b e) = if b = true then t2 e else .ok false e := Eq.trans rfl rfl
@[simp] theorem ev_tor : tmOr t1 t2 env = torK t2 (t1 env) := by unfold tmOr; cases t1 env <;> rfl
@[simp] theorem ev_tor1 {b : Bool} : torK t2 (.ok b e) = if b = true then .ok true e else t2 e := Eq.trans rfl rfl
@[simp] theorem ev_tnot : tmNot t1 env = tnotK (t1 env) := by unfold tmNot; cases t1 env <;> rfl
@[simp] theorem ev_tnot1 {b : Bool} : tnotK (.ok b e) = .ok (!b) e := Eq.trans rfl rfl
@[simp] theorem ev_m2 {g : Rt → Rt → Option Rt} : m2 g T f1 f2 env = m2K g T f2 (f1 env) := by
  unfold m2
  cases f1 env with
  | ok r1 e =>
    show (if r1.hot T = true then Rs.bad else (f2 e).bind _) = if r1.hot T = true then .bad else m2L g r1 (f2 e)
    cases f2 e <;> rfl
  | exc c ds e => rfl
  | bad => rfl
@[simp] theorem ev_m21 {g : Rt → Rt → Option Rt} : m2K g T f2 (.ok r e) = if r.hot T = true then .bad else m2L g r (f2 e) := Eq.trans rfl rfl
@[simp] theorem ev_m22 {g : Rt → Rt → Option Rt} {r2 : Rt} : m2L g r (.ok r2 e) = ofO (g r r2) e := Eq.trans rfl rfl
@[simp] theorem ev_m1 {g : Rt → Option Rt} : m1 g f env = m1K g (f env) := by unfold m1; cases f env <;> rfl
@[simp] theorem ev_m11 {g : Rt → Option Rt} : m1K g (.ok r e) = ofO (g r) e := Eq.trans rfl rfl
@[simp] theorem ev_mN {g : List Rt → Option Rt} : mN g fs env = mNK g (fs env) := by unfold mN; cases fs env <;> rfl
@[simp] theorem ev_mN1 {g : List Rt → Option Rt} : mNK g (.ok rs e) = ofO (g rs) e := Eq.trans rfl rfl
@[simp] theorem ev_cons : mCons T f fs env = consK T fs (f env) := by
  unfold mCons
  cases f env with
  | ok r1 e =>
    show (if r1.hot T = true then Rs.bad else (fs e).bind _) = if r1.hot T = true then .bad else consL r1 (fs e)
    cases fs e <;> rfl
  | exc c ds e => rfl
  | bad => rfl
@[simp] theorem ev_cons1 : consK T fs (.ok r e) = if r.hot T = true then .bad else consL r (fs e) := Eq.trans rfl rfl
@[simp] theorem ev_cons2 : consL r (.ok rs e) = .ok (r :: rs) e := Eq.trans rfl rfl
@[simp] theorem ev_nil : mNil env = .ok [] env := Eq.trans rfl rfl
@[simp] theorem ev_mC : mC d env = .ok (.val d) env := Eq.trans rfl rfl
theorem var_is {i : Nat} {o : O} (h : env[i]? = some (some o)) : mVar i env = .ok (o.rt i) env := by unfold mVar; rw [h]
theorem slot_is {i : Nat} {o : O} (h : env[i]? = some (some o)) : mSlot i env = .ok (.sl i) env := by unfold mSlot; rw [h]
@[simp] theorem ev_var0 {o : O} : mVar 0 (some o :: e) = .ok (o.rt 0) (some o :: e) := Eq.trans rfl rfl
@[simp] theorem ev_var1 {a : Option O} {o : O} : mVar 1 (a :: some o :: e) = .ok (o.rt 1) (a :: some o :: e) := Eq.trans rfl rfl
@[simp] theorem ev_var2 {a b : Option O} {o : O} : mVar 2 (a :: b :: some o :: e) = .ok (o.rt 2) (a :: b :: some o :: e) := Eq.trans rfl rfl
@[simp] theorem ev_var3 {a b c : Option O} {o : O} : mVar 3 (a :: b :: c :: some o :: e) = .ok (o.rt 3) (a :: b :: c :: some o :: e) := Eq.trans rfl rfl
@[simp] theorem ev_var4 {a b c d : Option O} {o : O} : mVar 4 (a :: b :: c :: d :: some o :: e) = .ok (o.rt 4) (a :: b :: c :: d :: some o :: e) := Eq.trans rfl rfl
@[simp] theorem ev_var5 {a b c d x : Option O} {o : O} : mVar 5 (a :: b :: c :: d :: x :: some o :: e) = .ok (o.rt 5) (a :: b :: c :: d :: x :: some o :: e) := Eq.trans rfl rfl
@[simp] theorem ev_var6 {a b c d x y : Option O} {o : O} : mVar 6 (a :: b :: c :: d :: x :: y :: some o :: e) = .ok (o.rt 6) (a :: b :: c :: d :: x :: y :: some o :: e) := Eq.trans rfl rfl
@[simp] theorem ev_var7 {a b c d x y z : Option O} {o : O} : mVar 7 (a :: b :: c :: d :: x :: y :: z :: some o :: e) = .ok (o.rt 7) (a :: b :: c :: d :: x :: y :: z :: some o :: e) := Eq.trans rfl rfl
@[simp] theorem ev_var8 {a b c d x y z u : Option O} {o : O} : mVar 8 (a :: b :: c :: d :: x :: y :: z :: u :: some o :: e) = .ok (o.rt 8) (a :: b :: c :: d :: x :: y :: z :: u :: some o :: e) := Eq.trans rfl rfl
@[simp] theorem ev_var9 {a b c d x y z u v : Option O} {o : O} : mVar 9 (a :: b :: c :: d :: x :: y :: z :: u :: v :: some o :: e) = .ok (o.rt 9) (a :: b :: c :: d :: x :: y :: z :: u :: v :: some o :: e) := Eq.trans rfl rfl
@[simp] theorem ev_var10 {a b c d x y z u v w : Option O} {o : O} : mVar 10 (a :: b :: c :: d :: x :: y :: z :: u :: v :: w :: some o :: e) = .ok (o.rt 10) (a :: b :: c :: d :: x :: y :: z :: u :: v :: w :: some o :: e) := Eq.trans rfl rfl
@[simp] theorem ev_slot0 {o : O} : mSlot 0 (some o :: e) = .ok (.sl 0) (some o :: e) := Eq.trans rfl rfl
@[simp] theorem ev_slot1 {a : Option O} {o : O} : mSlot 1 (a :: some o :: e) = .ok (.sl 1) (a :: some o :: e) := Eq.trans rfl rfl
@[simp] theorem ev_slot2 {a b : Option O} {o : O} : mSlot 2 (a :: b :: some o :: e) = .ok (.sl 2) (a :: b :: some o :: e) := Eq.trans rfl rfl
@[simp] theorem ev_slot3 {a b c : Option O} {o : O} : mSlot 3 (a :: b :: c :: some o :: e) = .ok (.sl 3) (a :: b :: c :: some o :: e) := Eq.trans rfl rfl
@[simp] theorem ev_some {a : α} : ofO (some a) e = .ok a e := Eq.trans rfl rfl
@[simp] theorem ev_none : ofO (none : Option α) e = .bad := Eq.trans rfl rfl
@[simp] theorem ev_hv : Rt.hot T (.val d) = false := Eq.trans rfl rfl
@[simp] theorem ev_ho {o : O} : Rt.hot T (.own o) = false := Eq.trans rfl rfl
@[simp] theorem ev_hs {x : Nat} : Rt.hot T (.sl x) = false := Eq.trans rfl rfl
@[simp] theorem ev_hb {x : Nat} {p : List Stp} {o : O} : Rt.hot T (.bor x p o) = T.contains x := Eq.trans rfl rfl
@[simp] theorem ev_rt1 {i : Nat} : O.rt i (.s d) = .val d := Eq.trans rfl rfl
@[simp] theorem ev_rt2 {i : Nat} {os : List O} : O.rt i (.lst os) = .bor i [] (.lst os) := Eq.trans rfl rfl
@[simp] theorem ev_rt3 {i c : Nat} {ns : List Str} {os : List O} : O.rt i (.ins c ns os) = .bor i [] (.ins c ns os) := Eq.trans rfl rfl
@[simp] theorem ev_rt4 {i : Nat} {ks : List (List Key)} {os : List O} : O.rt i (.dt ks os) = .bor i [] (.dt ks os) := Eq.trans rfl rfl
@[simp] theorem ev_at1 {x : Nat} {p : List Stp} : O.at x p (.s d) = .val d := Eq.trans rfl rfl
@[simp] theorem ev_at2 {x : Nat} {p : List Stp} {os : List O} : O.at x p (.lst os) = .bor x p (.lst os) := Eq.trans rfl rfl
@[simp] theorem ev_at3 {x c : Nat} {p : List Stp} {ns : List Str} {os : List O} : O.at x p (.ins c ns os) = .bor x p (.ins c ns os) := Eq.trans rfl rfl
@[simp] theorem ev_at4 {x : Nat} {p : List Stp} {ks : List (List Key)} {os : List O} : O.at x p (.dt ks os) = .bor x p (.dt ks os) := Eq.trans rfl rfl
@[simp] theorem ev_b {b : Bool} : toB (.val (.bl b)) = some b := Eq.trans rfl rfl
@[simp] theorem ev_o1 : Rt.o (.val d) = some (.s d) := Eq.trans rfl rfl
@[simp] theorem ev_o2 {o : O} : Rt.o (.own o) = some o := Eq.trans rfl rfl
@[simp] theorem ev_rr1 : O.rr (.s d) = .val d := Eq.trans rfl rfl
@[simp] theorem ev_rr2 {os : List O} : O.rr (.lst os) = .own (.lst os) := Eq.trans rfl rfl
@[simp] theorem ev_rr3 {c : Nat} {ns : List Str} {os : List O} : O.rr (.ins c ns os) = .own (.ins c ns os) := Eq.trans rfl rfl
@[simp] theorem ev_only : O.only (.s d) = some (.s d) := Eq.trans rfl rfl
@[simp] theorem ev_sl1 {x : Nat} : Rt.isSl (.sl x) = true := Eq.trans rfl rfl
@[simp] theorem ev_sl2 : Rt.isSl (.val d) = false := Eq.trans rfl rfl
@[simp] theorem ev_sl3 {o : O} : Rt.isSl (.own o) = false := Eq.trans rfl rfl
@[simp] theorem ev_sl4 {x : Nat} {p : List Stp} {o : O} : Rt.isSl (.bor x p o) = false := Eq.trans rfl rfl
@[simp] theorem ev_d2 : Rt.d (.val d) = d := Eq.trans rfl rfl
@[simp] theorem ev_d3 {o : O} : Rt.d (.own o) = o.d := Eq.trans rfl rfl
@[simp] theorem ev_d4 {x : Nat} {p : List Stp} {o : O} : Rt.d (.bor x p o) = o.d := Eq.trans rfl rfl
@[simp] theorem ev_ret : msRet f env = retK (f env) := by unfold msRet; cases f env <;> rfl
@[simp] theorem ev_ret1 : retK (.ok r e) = .ok (.ret r) e := Eq.trans rfl rfl
@[simp] theorem ev_set {i : Nat} : msSet i f env = setK i (f env) := by
  unfold msSet
  cases f env with
  | ok r e =>
    show (match r.o with | some o => Rs.ok Fl.nx (e.set i (some o)) | none => .bad) = setP i e r.o
    cases r.o <;> rfl
  | exc c ds e => rfl
  | bad => rfl
@[simp] theorem ev_set1 {i : Nat} : setK i (.ok r e) = setP i e r.o := Eq.trans rfl rfl
@[simp] theorem ev_set2 {i : Nat} {o : O} : setP i e (some o) = .ok .nx (e.set i (some o)) := Eq.trans rfl rfl
@[simp] theorem ev_expr : msExpr f env = exprK (f env) := by unfold msExpr; cases f env <;> rfl
@[simp] theorem ev_expr1 : exprK (.ok r e) = .ok .nx e := Eq.trans rfl rfl
@[simp] theorem ev_msnil : msNil env = .ok .nx env := Eq.trans rfl rfl
@[simp] theorem ev_brk : msBrk env = .ok .brk env := Eq.trans rfl rfl
@[simp] theorem ev_bad : msBad env = .bad := Eq.trans rfl rfl
@[simp] theorem ev_mAnd : mAnd f1 f2 env = mAndK f2 (f1 env) := by
  unfold mAnd
  cases f1 env with
  | ok r e =>
    show (match toB r with | some true => f2 e | some false => Rs.ok (Rt.val (.bl false)) e | none => .bad) = mAndB f2 e (toB r)
    cases toB r with
    | none => rfl
    | some b => cases b <;> rfl
  | exc c ds e => rfl
  | bad => rfl
@[simp] theorem ev_mAnd1 : mAndK f2 (.ok r e) = mAndB f2 e (toB r) := Eq.trans rfl rfl
@[simp] theorem ev_mAnd2 {b : Bool} : mAndB f2 e (some b) = if b = true then f2 e else .ok (.val (.bl false)) e := by cases b <;> rfl
@[simp] theorem ev_mOr : mOr f1 f2 env = mOrK f2 (f1 env) := by
  unfold mOr
  cases f1 env with
  | ok r e =>
    show (match toB r with | some false => f2 e | some true => Rs.ok (Rt.val (.bl true)) e | none => .bad) = mOrB f2 e (toB r)
    cases toB r with
    | none => rfl
    | some b => cases b <;> rfl
  | exc c ds e => rfl
  | bad => rfl
@[simp] theorem ev_mOr1 : mOrK f2 (.ok r e) = mOrB f2 e (toB r) := Eq.trans rfl rfl
@[simp] theorem ev_mOr2 {b : Bool} : mOrB f2 e (some b) = if b = true then .ok (.val (.bl true)) e else f2 e := by cases b <;> rfl
@[simp] theorem ev_mNot : mNot f1 env = mNotK (f1 env) := by
  unfold mNot
  cases f1 env with
  | ok r e =>
    show (match toB r with | some k => Rs.ok (Rt.val (.bl (!k))) e | none => .bad) = mNotB e (toB r)
    cases toB r <;> rfl
  | exc c ds e => rfl
  | bad => rfl
@[simp] theorem ev_mNot1 : mNotK (.ok r e) = mNotB e (toB r) := Eq.trans rfl rfl
@[simp] theorem ev_mNot2 {b : Bool} : mNotB e (some b) = .ok (.val (.bl (!b))) e := Eq.trans rfl rfl
@[simp] theorem ev_call {Sl : List Nat} {n : Nat} {fn : List O → Rr} : mCall Sl n fn fs env = callK Sl n fn (fs env) := by
  unfold mCall
  cases fs env with
  | ok rs e =>
    show (match argsO e rs with | some os => _ | none => Rs.bad) = callA Sl n fn rs e (argsO e rs)
    cases argsO e rs with
    | none => rfl
    | some os =>
      show (if _ then _ else _) = if _ then callR n rs e (fn os) else _
      cases fn os <;> rfl
  | exc c ds e => rfl
  | bad => rfl
@[simp] theorem ev_call1 {Sl : List Nat} {n : Nat} {fn : List O → Rr} : callK Sl n fn (.ok rs e) = callA Sl n fn rs e (argsO e rs) := Eq.trans rfl rfl
@[simp] theorem ev_call2 {Sl : List Nat} {n : Nat} {fn : List O → Rr} {os : List O} : callA Sl n fn rs e (some os) = if rs.length = n ∧ (slots rs).Nodup ∧ (∀ x ∈ slots rs, x ∈ Sl) then callR n rs e (fn os) else .bad := Eq.trans rfl rfl
@[simp] theorem ev_call3 {n : Nat} {o : O} {outs : List O} : callR n rs e (.ok o outs) = if outs.length = n then .ok o.rr (putOuts e rs outs) else .bad := Eq.trans rfl rfl
@[simp] theorem ev_ao0 : argsO e [] = some [] := Eq.trans rfl rfl
@[simp] theorem ev_ao1 : argsO e (.val d :: rs) = (argsO e rs).map (O.s d :: ·) := by show (some (O.s d)).bind _ = _; simp
@[simp] theorem ev_ao2 {x : Nat} : argsO e (.sl x :: rs) = (e[x]?).join.bind fun o => (argsO e rs).map (o :: ·) := Eq.trans rfl rfl
@[simp] theorem ev_sl0 : slots [] = [] := Eq.trans rfl rfl
@[simp] theorem ev_slv : slots (.val d :: rs) = slots rs := Eq.trans rfl rfl
@[simp] theorem ev_sls {x : Nat} : slots (.sl x :: rs) = x :: slots rs := Eq.trans rfl rfl
@[simp] theorem ev_po0 {os : List O} : putOuts e [] os = e := by cases os <;> rfl
@[simp] theorem ev_po1 {o : O} {os : List O} : putOuts e (.val d :: rs) (o :: os) = putOuts e rs os := Eq.trans rfl rfl
@[simp] theorem ev_po2 {x : Nat} {o : O} {os : List O} : putOuts e (.sl x :: rs) (o :: os) = putOuts (e.set x (some o)) rs os := Eq.trans rfl rfl
@[simp] theorem ev_run {IO : List Nat} {k : Nat} {os : List O} : runDef IO k g os = runK IO os (g (os.map some ++ List.replicate k none)) := by
  unfold runDef
  cases g (os.map some ++ List.replicate k none) with
  | ok fl e =>
    show (match outsFrom IO 0 os e, retO os.length fl with | some outs, some r => Rr.ok r outs | _, _ => .bad) = runF os.length fl (outsFrom IO 0 os e) (retO os.length fl)
    cases outsFrom IO 0 os e <;> cases retO os.length fl <;> rfl
  | exc c ds e => rfl
  | bad => rfl
@[simp] theorem ev_run1 {IO : List Nat} {os : List O} {fl : Fl} : runK IO os (.ok fl e) = runF os.length fl (outsFrom IO 0 os e) (retO os.length fl) := Eq.trans rfl rfl
@[simp] theorem ev_run2 {n : Nat} {fl : Fl} {outs : List O} {o : O} : runF n fl (some outs) (some o) = .ok o outs := Eq.trans rfl rfl
@[simp] theorem ev_of0 {IO : List Nat} {i : Nat} : outsFrom IO i [] e = some [] := by cases e <;> rfl
@[simp] theorem ev_of1 {IO : List Nat} {i : Nat} {o : O} {os : List O} {x : Option O} : outsFrom IO i (o :: os) (x :: e) = (if i ∈ IO then x else o.only).bind fun o' => (outsFrom IO (i + 1) os e).map (o' :: ·) := Eq.trans rfl rfl
@[simp] theorem ev_ro1 {n : Nat} : retO n .nx = some (.s .non) := Eq.trans rfl rfl
@[simp] theorem ev_ro2 {n : Nat} : retO n (.ret (.val d)) = some (.s d) := Eq.trans rfl rfl
@[simp] theorem ev_ro3 {n : Nat} {o : O} : retO n (.ret (.own o)) = some o := Eq.trans rfl rfl
@[simp] theorem ev_stlE : mStl f env = stlK (f env) := by
  unfold mStl
  cases f env with
  | ok r e => cases r <;> rfl
  | exc c ds e => rfl
  | bad => rfl
@[simp] theorem ev_stl1 {o : O} : stlK (.ok (.own o) e) = .ok (.val o.d) e := Eq.trans rfl rfl
@[simp] theorem ev_stl2 : stlK (.ok (.val d) e) = .ok (.val d) e := Eq.trans rfl rfl
@[simp] theorem ev_chain {g g' : Rt → Rt → Option Rt} : mChain g g' f1 f2 f3 env = chainK g g' f2 f3 (f1 env) := by
  unfold mChain
  cases f1 env with
  | ok r1 e =>
    show (f2 e).bind _ = chainM g g' f3 r1 (f2 e)
    cases f2 e with
    | ok r2 e2 =>
      cases r1 <;> cases r2 <;> try rfl
      rename_i d1 d2
      show (match g (.val d1) (.val d2) with | some (.val (.bl true)) => _ | some (.val (.bl false)) => _ | _ => Rs.bad) = chainB g' f3 d2 e2 (g (.val d1) (.val d2))
      cases g (.val d1) (.val d2) with
      | none => rfl
      | some r =>
        cases r with
        | val d =>
          cases d with
          | bl b =>
            cases b with
            | true => show (f3 e2).bind _ = chainN g' d2 (f3 e2); cases f3 e2 <;> rfl
            | false => rfl
          | _ => rfl
        | _ => rfl
    | exc c ds e => rfl
    | bad => rfl
  | exc c ds e => rfl
  | bad => rfl
@[simp] theorem ev_chain1 {g g' : Rt → Rt → Option Rt} : chainK g g' f2 f3 (.ok r e) = chainM g g' f3 r (f2 e) := Eq.trans rfl rfl
@[simp] theorem ev_chain2 {g g' : Rt → Rt → Option Rt} {d1 d2 : D} : chainM g g' f3 (.val d1) (.ok (.val d2) e) = chainB g' f3 d2 e (g (.val d1) (.val d2)) := Eq.trans rfl rfl
@[simp] theorem ev_chain3 {g' : Rt → Rt → Option Rt} {d2 : D} {b : Bool} : chainB g' f3 d2 e (some (.val (.bl b))) = if b = true then chainN g' d2 (f3 e) else .ok (.val (.bl false)) e := by cases b <;> rfl
@[simp] theorem ev_chain4 {g' : Rt → Rt → Option Rt} {d2 : D} : chainN g' d2 (.ok r e) = ofO (g' (.val d2) r) e := Eq.trans rfl rfl
@[simp] theorem ev_setIx : msSetIx Tx T2 T3 f fo fi env = setIxK Tx T3 fo fi (f env) := by
  unfold msSetIx
  cases f env with
  | ok y e =>
    show (match y.o with | some oy => (fo e).bind _ | none => Rs.bad) = setIxY Tx T3 fo fi e y.o
    cases y.o with
    | none => rfl
    | some oy =>
      show (fo e).bind _ = setIxO Tx T3 fi oy (fo e)
      cases fo e with
      | ok r e2 =>
        cases r with
        | bor x p o =>
          cases o with
          | lst os =>
            show (if x ∈ T3 then Rs.bad else (fi e2).bind _) = if x ∈ T3 then .bad else setIxI Tx oy (.bor x p (.lst os)) (fi e2)
            cases fi e2 with
            | ok ri e3 =>
              cases ri with
              | val d =>
                cases d with
                | int i =>
                  show (if x ∈ T3 then Rs.bad else (match ixN os.length i with | some j => _ | none => Rs.bad)) = if x ∈ T3 then .bad else ixSet Tx x p os oy e3 (ixN os.length i)
                  cases ixN os.length i <;> rfl
                | _ => rfl
              | _ => rfl
            | exc c ds e => rfl
            | bad => rfl
          | _ => rfl
        | _ => rfl
      | exc c ds e => rfl
      | bad => rfl
  | exc c ds e => rfl
  | bad => rfl
@[simp] theorem ev_setIx1 : setIxK Tx T3 fo fi (.ok r e) = setIxY Tx T3 fo fi e r.o := Eq.trans rfl rfl
@[simp] theorem ev_setIx2 {oy : O} : setIxY Tx T3 fo fi e (some oy) = setIxO Tx T3 fi oy (fo e) := Eq.trans rfl rfl
@[simp] theorem ev_setIx3 {oy : O} {x : Nat} {p : List Stp} {os : List O} : setIxO Tx T3 fi oy (.ok (.bor x p (.lst os)) e) = if x ∈ T3 then .bad else setIxI Tx oy (.bor x p (.lst os)) (fi e) := Eq.trans rfl rfl
@[simp] theorem ev_setIx4 {oy : O} {x : Nat} {p : List Stp} {os : List O} {i : Int} : setIxI Tx oy (.bor x p (.lst os)) (.ok (.val (.int i)) e) = ixSet Tx x p os oy e (ixN os.length i) := Eq.trans rfl rfl
@[simp] theorem ev_gI {g : Int → Int → D} {i j : Int} : gI g (.val (.int i)) (.val (.int j)) = some (.val (g i j)) := Eq.trans rfl rfl
@[simp] theorem ev_gIc {c : Int → Int → Bool} {g : Int → Int → D} {i j : Int} : gIc c g (.val (.int i)) (.val (.int j)) = if c i j = true then some (.val (g i j)) else none := Eq.trans rfl rfl
@[simp] theorem ev_gMul {i j : Int} : gMul (.val (.int i)) (.val (.int j)) = if cMul2 i j = true then some (.val (.int (i * j))) else none := Eq.trans rfl rfl
@[simp] theorem ev_gAdd {i j : Int} : gAdd (.val (.int i)) (.val (.int j)) = some (.val (.int (i + j))) := Eq.trans rfl rfl
@[simp] theorem ev_gAddT {ds es : List D} : gAdd (.val (.tup ds)) (.val (.tup es)) = if ds.length + es.length ≤ 16777216 then some (.val (.tup (ds ++ es))) else none := Eq.trans rfl rfl
@[simp] theorem ev_eqI {i j : Int} : gEq (.val (.int i)) (.val (.int j)) = some (.val (.bl (decide (i = j)))) := by
  simp [gEq, Rt.isSl, Rt.d, eqD, D.py, shp_int, shp_str, PyData.eqv, beq_dec]
@[simp] theorem ev_neI {i j : Int} : gNe (.val (.int i)) (.val (.int j)) = some (.val (.bl (!decide (i = j)))) := by
  simp [gNe, Rt.isSl, Rt.d, eqD, D.py, shp_int, shp_str, PyData.eqv, beq_dec]
@[simp] theorem ev_eqS {i j : Str} (hi : PyData.strOk i = true) (hj : PyData.strOk j = true) : gEq (.val (.str i)) (.val (.str j)) = some (.val (.bl (decide (i = j)))) := by
  simp [gEq, Rt.isSl, Rt.d, eqD, D.py, shp_int, shp_str hi, shp_str hj, PyData.eqv, beq_dec]
@[simp] theorem ev_neS {i j : Str} (hi : PyData.strOk i = true) (hj : PyData.strOk j = true) : gNe (.val (.str i)) (.val (.str j)) = some (.val (.bl (!decide (i = j)))) := by
  simp [gNe, Rt.isSl, Rt.d, eqD, D.py, shp_int, shp_str hi, shp_str hj, PyData.eqv, beq_dec]
@[simp] theorem ev_neg {i : Int} : gNeg (.val (.int i)) = some (.val (.int (-i))) := Eq.trans rfl rfl
@[simp] theorem ev_int {i : Int} : gInt [.val (.int i)] = some (.val (.int i)) := Eq.trans rfl rfl
@[simp] theorem ev_intb {b : Bool} : gInt [.val (.bl b)] = some (.val (.int (if b then 1 else 0))) := Eq.trans rfl rfl
@[simp] theorem ev_len1 {ds : List D} : gLen [.val (.tup ds)] = some (.val (.int ds.length)) := Eq.trans rfl rfl
@[simp] theorem ev_len2 {ds : List D} : gLen [.val (.lst ds)] = some (.val (.int ds.length)) := Eq.trans rfl rfl
@[simp] theorem ev_len3 {x : Nat} {p : List Stp} {os : List O} : gLen [.bor x p (.lst os)] = some (.val (.int os.length)) := Eq.trans rfl rfl
@[simp] theorem ev_min {i j : Int} : gMin2 [.val (.int i), .val (.int j)] = some (.val (.int (if j < i then j else i))) := Eq.trans rfl rfl
@[simp] theorem ev_max {i j : Int} : gMax2 [.val (.int i), .val (.int j)] = some (.val (.int (if j > i then j else i))) := Eq.trans rfl rfl
@[simp] theorem ev_abs {i : Int} : gAbs [.val (.int i)] = some (.val (.int (if i < 0 then -i else i))) := Eq.trans rfl rfl
@[simp] theorem ev_vals0 : vals [] = some [] := Eq.trans rfl rfl
@[simp] theorem ev_vals1 : vals (.val d :: rs) = (vals rs).map (d :: ·) := Eq.trans rfl rfl
@[simp] theorem ev_tup : gTup rs = (vals rs).bind fun ds => if ds.length ≤ 16777216 then some (.val (.tup ds)) else none := Eq.trans rfl rfl
@[simp] theorem ev_lst : gLst rs = (vals rs).bind fun ds => if ds.length ≤ 16777216 then some (.own (.lst (ds.map O.s))) else none := Eq.trans rfl rfl
@[simp] theorem ev_ixt {ds : List D} {i : Int} : gIx (.val (.tup ds)) (.val (.int i)) = (atI ds i).map .val := Eq.trans rfl rfl
@[simp] theorem ev_ixl {ds : List D} {i : Int} : gIx (.val (.lst ds)) (.val (.int i)) = (atI ds i).map .val := Eq.trans rfl rfl
@[simp] theorem ev_ixb {x : Nat} {p : List Stp} {os : List O} {i : Int} : gIx (.bor x p (.lst os)) (.val (.int i)) = match ixN os.length i with | some n => (os[n]?).map fun o => o.at x (p ++ [.idx n]) | none => none := Eq.trans rfl rfl
@[simp] theorem ev_is {n : Bool} : gIs n (.val d) (.val .non) = some (.val (.bl (d.isN != n))) := Eq.trans rfl rfl
@[simp] theorem ev_isn1 : D.isN .non = true := Eq.trans rfl rfl
@[simp] theorem ev_isn2 {i : Int} : D.isN (.int i) = false := Eq.trans rfl rfl
@[simp] theorem ev_isn3 {ds : List D} : D.isN (.tup ds) = false := Eq.trans rfl rfl
@[simp] theorem ev_poke {x : Nat} {p : List Stp} {o' : O} : poke x p o' e = ((e[x]?).join.bind fun o0 => setAt p o0 o').map fun o => e.set x (some o) := by
  unfold poke
  cases h : e[x]? with
  | none => rfl
  | some o => cases o <;> rfl
@[simp] theorem ev_sa0 {o y : O} : setAt [] o y = some y := by cases o <;> rfl
@[simp] theorem ev_sa1 {n : Nat} {p : List Stp} {os : List O} {y : O} : setAt (.idx n :: p) (.lst os) y = (os[n]?).bind fun o => (setAt p o y).map fun o' => .lst (os.set n o') := Eq.trans rfl rfl
@[simp] theorem ev_sa2 {f : Str} {c : Nat} {ns : List Str} {p : List Stp} {os : List O} {y : O} : setAt (.attr f :: p) (.ins c ns os) y = (lk ns os f).bind fun o => (setAt p o y).map fun o' => .ins c ns (setLk ns os f o') := Eq.trans rfl rfl
def pkF : Option Env → Rs Fl
  | some e => .ok .nx e
  | none => .bad
@[simp] theorem ev_pkF {e : Env} : pkF (some e) = .ok .nx e := Eq.trans rfl rfl
@[simp] theorem ev_ixSet {x j : Nat} {p : List Stp} {os : List O} {oy : O} : ixSet Tx x p os oy e (some j) = if x ∈ Tx then pkF (poke x p (.lst (os.set j oy)) e) else .bad := by
  unfold ixSet
  show (if x ∈ Tx then (match poke x p (.lst (os.set j oy)) e with | some e4 => Rs.ok Fl.nx e4 | none => .bad) else .bad) = _
  generalize poke x p (.lst (os.set j oy)) e = q
  cases q <;> rfl
def lcF (vs : List Nat) : Rs (List D) → Rs Rt
  | .ok ys e => .ok (.own (.lst (ys.map O.s))) (wipeE e vs)
  | r => r.ex
def lcK (Tb vs : List Nat) (set : D → Env → Option Env) (t : MT) (f : ME) : Rs Src → Rs Rt
  | .ok src e => if src.hot Tb = true then .bad else if src.items.length ≤ 16777216 then lcF vs (lcL vs set t f src.items e) else .bad
  | r => r.ex
@[simp] theorem ev_lc {Tb vs : List Nat} {set : D → Env → Option Env} {fi : MI} : mLc Tb vs set fi t f env = lcK Tb vs set t f (fi env) := by
  unfold mLc
  cases fi env with
  | ok src e =>
    show (if src.hot Tb = true then Rs.bad else if src.items.length ≤ 16777216 then (lcL vs set t f src.items e).bind _ else .bad) = if src.hot Tb = true then .bad else if src.items.length ≤ 16777216 then lcF vs (lcL vs set t f src.items e) else .bad
    generalize lcL vs set t f src.items e = q
    cases q <;> rfl
  | exc c ds e => rfl
  | bad => rfl
@[simp] theorem ev_lc1 {Tb vs : List Nat} {set : D → Env → Option Env} {src : Src} : lcK Tb vs set t f (.ok src e) = if src.hot Tb = true then .bad else if src.items.length ≤ 16777216 then lcF vs (lcL vs set t f src.items e) else .bad := Eq.trans rfl rfl
@[simp] theorem ev_lc2 {vs : List Nat} {ys : List D} : lcF vs (.ok ys e) = .ok (.own (.lst (ys.map O.s))) (wipeE e vs) := Eq.trans rfl rfl
@[simp] theorem ev_wipe0 : wipeE e [] = e := Eq.trans rfl rfl
@[simp] theorem ev_wipe1 {v : Nat} {vs : List Nat} : wipeE e (v :: vs) = wipeE (e.set v none) vs := Eq.trans rfl rfl
@[simp] theorem ev_yes : mYes env = .ok true env := Eq.trans rfl rfl
@[simp] theorem ev_setT {i : Nat} : setT [i] d e = some (e.set i (some (.s d))) := Eq.trans rfl rfl
@[simp] theorem ev_setTs0 : setTs [] [] e = some e := Eq.trans rfl rfl
@[simp] theorem ev_setTs1 {i : Nat} {is : List Nat} {ds : List D} : setTs (i :: is) (d :: ds) e = setTs is ds (e.set i (some (.s d))) := Eq.trans rfl rfl
@[simp] theorem ev_setTup {is : List Nat} {ds : List D} : setTup is (.tup ds) e = setTs is ds e := Eq.trans rfl rfl
def rg1K : Rs (List Rt) → Rs Src
  | .ok [.val (.int j)] e => if -(2 ^ 62) ≤ j ∧ j < 2 ^ 62 then .ok ⟨rngD 0 j.toNat, none⟩ e else .bad
  | r => r.ex
@[simp] theorem ev_rg1 : iRg1 fs env = rg1K (fs env) := by
  unfold iRg1
  cases fs env with
  | ok rs e =>
    match rs with
    | [] => rfl
    | [.val d] => cases d <;> rfl
    | [.own _] => rfl
    | [.bor _ _ _] => rfl
    | [.sl _] => rfl
    | .val d :: _ :: _ => cases d <;> rfl
    | .own _ :: _ :: _ => rfl
    | .bor _ _ _ :: _ :: _ => rfl
    | .sl _ :: _ :: _ => rfl
  | exc c ds e => rfl
  | bad => rfl
theorem ev_rg11 {j : Int} : rg1K (.ok [.val (.int j)] e) = if -(2 ^ 62) ≤ j ∧ j < 2 ^ 62 then .ok ⟨rngD 0 j.toNat, none⟩ e else .bad := rfl
theorem rg1_is {j : Int} (h0 : 0 ≤ j) (h1 : j ≤ 1000000) : rg1K (.ok [.val (.int j)] e) = .ok ⟨rngD 0 j.toNat, none⟩ e := by
  rw [ev_rg11, if_pos ⟨by omega, by omega⟩]
@[simp] theorem ev_od2 {os : List O} : O.d (.lst os) = .lst (O.ds os) := by simp [O.d]
@[simp] theorem ev_od3 {c : Nat} {ns : List Str} {os : List O} : O.d (.ins c ns os) = .ins c ns (O.ds os) := by simp [O.d]
@[simp] theorem ev_ods0 : O.ds [] = [] := by simp [O.ds]
@[simp] theorem ev_ods1 {o : O} {os : List O} : O.ds (o :: os) = o.d :: O.ds os := by simp [O.ds]
@[simp] theorem ev_ods2 {ds : List D} : O.ds (ds.map O.s) = ds := O.ds_s ds
def seqS (tup : Bool) : Rs Rt → Rs Src
  | .ok r e => ofO (srcOf tup r) e
  | r => r.ex
@[simp] theorem ev_iseq {tup : Bool} : iSeq tup f env = seqS tup (f env) := by unfold iSeq; cases f env <;> rfl
@[simp] theorem ev_iseq1 {tup : Bool} : seqS tup (.ok r e) = ofO (srcOf tup r) e := Eq.trans rfl rfl
@[simp] theorem ev_src1 {ds : List D} : srcOf true (.val (.tup ds)) = some ⟨ds, none⟩ := Eq.trans rfl rfl
@[simp] theorem ev_src2 {ds : List D} : srcOf false (.val (.lst ds)) = some ⟨ds, none⟩ := Eq.trans rfl rfl
@[simp] theorem ev_src3 {x : Nat} {p : List Stp} {os : List O} : srcOf false (.bor x p (.lst os)) = (leaves os).map fun ds => ⟨ds, some x⟩ := Eq.trans rfl rfl
@[simp] theorem ev_leaves {ds : List D} : leaves (ds.map O.s) = some ds := leaves_map ds
@[simp] theorem ev_leaves0 : leaves [] = some [] := Eq.trans rfl rfl
@[simp] theorem ev_leaves1 {os : List O} : leaves (.s d :: os) = (leaves os).map (d :: ·) := Eq.trans rfl rfl
def enumS : Rs (List Rt) → Rs Src
  | .ok [r] e => ofO ((anySrc r).map fun s => ⟨enumD 0 s.2.items, s.2.dep⟩) e
  | r => r.ex
@[simp] theorem ev_enum : iEnumM fs env = enumS (fs env) := by
  unfold iEnumM
  cases fs env with
  | ok rs e =>
    match rs with
    | [] => rfl
    | [_] => rfl
    | _ :: _ :: _ => rfl
  | exc c ds e => rfl
  | bad => rfl
@[simp] theorem ev_enum1 : enumS (.ok [r] e) = ofO ((anySrc r).map fun s => ⟨enumD 0 s.2.items, s.2.dep⟩) e := Eq.trans rfl rfl
@[simp] theorem ev_any1 {ds : List D} : anySrc (.val (.tup ds)) = some (true, ⟨ds, none⟩) := Eq.trans rfl rfl
@[simp] theorem ev_any2 {ds : List D} : anySrc (.val (.lst ds)) = some (false, ⟨ds, none⟩) := Eq.trans rfl rfl
def zipS : Rs (List Rt) → Rs Src
  | .ok [r, r'] e => match anySrc r, anySrc r' with
    | some (_, s), some (_, s') => ofO ((depJ s.dep s'.dep).map fun dep => ⟨zipD s.items s'.items, dep⟩) e
    | _, _ => .bad
  | r => r.ex
@[simp] theorem ev_zip : iZipM fs env = zipS (fs env) := by
  unfold iZipM
  cases fs env with
  | ok rs e =>
    match rs with
    | [] => rfl
    | [_] => rfl
    | [_, _] => rfl
    | _ :: _ :: _ :: _ => rfl
  | exc c ds e => rfl
  | bad => rfl
@[simp] theorem ev_zip1 {ds es : List D} : zipS (.ok [.val (.tup ds), .val (.tup es)] e) = .ok ⟨zipD ds es, none⟩ e := Eq.trans rfl rfl
@[simp] theorem ev_zip2 {ds es : List D} : zipS (.ok [.val (.tup ds), .val (.lst es)] e) = .ok ⟨zipD ds es, none⟩ e := Eq.trans rfl rfl
@[simp] theorem ev_zip3 {ds es : List D} : zipS (.ok [.val (.lst ds), .val (.lst es)] e) = .ok ⟨zipD ds es, none⟩ e := Eq.trans rfl rfl
def forK (Tb : List Nat) (set : D → Env → Option Env) (g : MS) : Rs Src → Rs Fl
  | .ok src e => if src.hot Tb = true then .bad else forL set g src.items e
  | r => r.ex
@[simp] theorem ev_for {Tb : List Nat} {set : D → Env → Option Env} {fi : MI} : msFor Tb set fi g env = forK Tb set g (fi env) := by unfold msFor; cases fi env <;> rfl
@[simp] theorem ev_for1 {Tb : List Nat} {set : D → Env → Option Env} {src : Src} : forK Tb set g (.ok src e) = if src.hot Tb = true then .bad else forL set g src.items e := Eq.trans rfl rfl
@[simp] theorem ev_hot0 {ds : List D} : Src.hot ⟨ds, none⟩ T = false := Eq.trans rfl rfl
@[simp] theorem ev_hot1 {ds : List D} {x : Nat} : Src.hot ⟨ds, some x⟩ T = T.contains x := Eq.trans rfl rfl
@[simp] theorem ev_od1 : O.d (.s d) = d := Eq.trans rfl rfl
theorem lc_all {vs : List Nat} {set : D → Env → Option Env} {f : ME} {I : Env → Prop} {R : D → Prop} {G : D → Prop} (step : ∀ e d, I e → G d → ∃ e1 y e2, set d (wipeE e vs) = some e1 ∧ f e1 = .ok (.val y) e2 ∧ I e2 ∧ R y) :
    ∀ (items : List D) (e : Env), I e → (∀ d ∈ items, G d) → ∃ ys e', lcL vs set mYes f items e = .ok ys e' ∧ I e' ∧ ys.length = items.length ∧ ∀ y ∈ ys, R y
  | [], e, hI, _ => ⟨[], e, rfl, hI, rfl, fun y h => by simp at h⟩
  | d :: ds, e, hI, hG => by
    obtain ⟨e1, y, e2, h1, h2, h3, h4⟩ := step e d hI (hG d (by simp))
    obtain ⟨ys, e', i1, i2, i3, i4⟩ := lc_all step ds e2 h3 (fun d hd => hG d (by simp [hd]))
    refine ⟨y :: ys, e', ?_, i2, by simp [i3], fun z hz => ?_⟩
    · unfold lcL
      rw [h1]
      simp only [mYes, Rs.bind, if_true, h2, i1]
    · rcases List.mem_cons.mp hz with q | q
      · rw [q]; exact h4
      · exact i4 z q
theorem lc_map {vs : List Nat} {set : D → Env → Option Env} {f : ME} {I : Env → Prop} {F : D → D} :
    ∀ (items : List D) (e : Env), (∀ e d, I e → d ∈ items → ∃ e1 e2, set d (wipeE e vs) = some e1 ∧ f e1 = .ok (.val (F d)) e2 ∧ I e2) → I e → ∃ e', lcL vs set mYes f items e = .ok (items.map F) e' ∧ I e'
  | [], e, _, hI => ⟨e, rfl, hI⟩
  | d :: ds, e, step, hI => by
    obtain ⟨e1, e2, h1, h2, h3⟩ := step e d hI (by simp)
    obtain ⟨e', i1, i2⟩ := lc_map ds e2 (fun e d' a b => step e d' a (by simp [b])) h3
    refine ⟨e', ?_, i2⟩
    unfold lcL
    rw [h1]
    simp only [mYes, Rs.bind, if_true, h2, i1]
    rfl

def lcG (y : D) : Rs (List D) → Rs (List D)
  | .ok ys e => .ok (y :: ys) e
  | r => r
def lcE (vs : List Nat) (set : D → Env → Option Env) (t : MT) (f : ME) (ds : List D) : Rs Rt → Rs (List D)
  | .ok (.val y) e => lcG y (lcL vs set t f ds e)
  | .ok _ _ => .bad
  | r => r.ex
def lcB (vs : List Nat) (set : D → Env → Option Env) (t : MT) (f : ME) (ds : List D) : Rs Bool → Rs (List D)
  | .ok b e => if b = true then lcE vs set t f ds (f e) else lcL vs set t f ds e
  | r => r.ex
def lcT (vs : List Nat) (set : D → Env → Option Env) (t : MT) (f : ME) (ds : List D) : Option Env → Rs (List D)
  | some e => lcB vs set t f ds (t e)
  | none => .bad
theorem lc_cons {vs : List Nat} {set : D → Env → Option Env} {d : D} {ds : List D} : lcL vs set t f (d :: ds) e = lcT vs set t f ds (set d (wipeE e vs)) := by
  show (match set d (wipeE e vs) with | none => Rs.bad | some e1 => (t e1).bind _) = _
  cases set d (wipeE e vs) with
  | none => rfl
  | some e1 =>
    show (t e1).bind _ = lcB vs set t f ds (t e1)
    cases t e1 with
    | ok b e2 =>
      show (if b = true then (f e2).bind _ else _) = if b = true then lcE vs set t f ds (f e2) else _
      cases f e2 with
      | ok r e3 =>
        cases r with
        | val y =>
          show (if b = true then (lcL vs set t f ds e3).bind _ else _) = if b = true then lcG y (lcL vs set t f ds e3) else _
          cases lcL vs set t f ds e3 <;> rfl
        | own _ => rfl
        | bor _ _ _ => rfl
        | sl _ => rfl
      | exc c ds e => rfl
      | bad => rfl
    | exc c ds e => rfl
    | bad => rfl
theorem lc_nil {vs : List Nat} {set : D → Env → Option Env} : lcL vs set t f [] e = .ok [] e := rfl
@[simp] theorem ev_lcT {vs : List Nat} {set : D → Env → Option Env} {ds : List D} : lcT vs set t f ds (some e) = lcB vs set t f ds (t e) := Eq.trans rfl rfl
@[simp] theorem ev_lcB {vs : List Nat} {set : D → Env → Option Env} {ds : List D} {b : Bool} : lcB vs set t f ds (.ok b e) = if b = true then lcE vs set t f ds (f e) else lcL vs set t f ds e := Eq.trans rfl rfl
@[simp] theorem ev_lcE {vs : List Nat} {set : D → Env → Option Env} {ds : List D} {y : D} : lcE vs set t f ds (.ok (.val y) e) = lcG y (lcL vs set t f ds e) := Eq.trans rfl rfl
@[simp] theorem ev_lcG {y : D} {ys : List D} : lcG y (.ok ys e) = .ok (y :: ys) e := Eq.trans rfl rfl
theorem for_inv {set : D → Env → Option Env} {g : MS} {I : List D → Env → Prop} (step : ∀ d ds e, I (d :: ds) e → ∃ e1 e2, set d e = some e1 ∧ g e1 = .ok .nx e2 ∧ I ds e2) : ∀ (items : List D) (e : Env), I items e → ∃ e', forL set g items e = .ok .nx e' ∧ I [] e'
  | [], e, h => ⟨e, rfl, h⟩
  | d :: ds, e, h => by
    obtain ⟨e1, e2, h1, h2, h3⟩ := step d ds e h
    obtain ⟨e', i1, i2⟩ := for_inv step ds e2 h3
    refine ⟨e', ?_, i2⟩
    unfold forL
    rw [h1]
    simp only [Rs.bind, h2, i1]
def slN (T : List Nat) (lo : Option Int) (r : Rt) : Rs (Option Int) → Rs Rt
  | .ok hi e => ofO (gSl lo hi r) e
  | r => r.ex
def slM (T : List Nat) (h : MO) (r : Rt) : Rs (Option Int) → Rs Rt
  | .ok lo e => slN T lo r (h e)
  | r => r.ex
def slK (T : List Nat) (l h : MO) : Rs Rt → Rs Rt
  | .ok r e => if r.hot T = true then .bad else slM T h r (l e)
  | r => r
@[simp] theorem ev_sl {l h : MO} : mSl T f l h env = slK T l h (f env) := by
  unfold mSl
  cases f env with
  | ok r e =>
    show (if r.hot T = true then Rs.bad else (l e).bind _) = if r.hot T = true then .bad else slM T h r (l e)
    cases l e with
    | ok lo e2 =>
      show (if r.hot T = true then Rs.bad else (h e2).bind _) = if r.hot T = true then .bad else slN T lo r (h e2)
      cases h e2 <;> rfl
    | exc c ds e => rfl
    | bad => rfl
  | exc c ds e => rfl
  | bad => rfl
@[simp] theorem ev_slk {l h : MO} : slK T l h (.ok r e) = if r.hot T = true then .bad else slM T h r (l e) := Eq.trans rfl rfl
@[simp] theorem ev_slm {h : MO} {lo : Option Int} : slM T h r (.ok lo e) = slN T lo r (h e) := Eq.trans rfl rfl
@[simp] theorem ev_sln {lo hi : Option Int} : slN T lo r (.ok hi e) = ofO (gSl lo hi r) e := Eq.trans rfl rfl
@[simp] theorem ev_on : oNone env = .ok none env := Eq.trans rfl rfl
def oK : Rs Rt → Rs (Option Int)
  | .ok (.val (.int i)) e => .ok (some i) e
  | .ok _ _ => .bad
  | r => r.ex
@[simp] theorem ev_os : oSome f env = oK (f env) := by
  unfold oSome
  cases f env with
  | ok r e =>
    cases r with
    | val d => cases d <;> rfl
    | own _ => rfl
    | bor _ _ _ => rfl
    | sl _ => rfl
  | exc c ds e => rfl
  | bad => rfl
@[simp] theorem ev_ok {i : Int} : oK (.ok (.val (.int i)) e) = .ok (some i) e := Eq.trans rfl rfl
@[simp] theorem ev_gSl {ds : List D} {lo hi : Option Int} : gSl lo hi (.val (.tup ds)) = some (.val (.tup (cut ds lo hi))) := Eq.trans rfl rfl
@[simp] theorem ev_gSl2 {ds : List D} {lo hi : Option Int} : gSl lo hi (.val (.lst ds)) = some (.own (.lst ((cut ds lo hi).map O.s))) := Eq.trans rfl rfl
def parS : Option Env → Rs Fl
  | some e => .ok .nx e
  | none => .bad
def parK (is : List Nat) : Rs (List Rt) → Rs Fl
  | .ok rs e => parS (storeL is rs e)
  | r => r.ex
@[simp] theorem ev_par {is : List Nat} : msPar is fs env = parK is (fs env) := by
  unfold msPar
  cases fs env with
  | ok rs e =>
    show (match storeL is rs e with | some e' => Rs.ok Fl.nx e' | none => .bad) = parS (storeL is rs e)
    cases storeL is rs e <;> rfl
  | exc c ds e => rfl
  | bad => rfl
@[simp] theorem ev_parK {is : List Nat} : parK is (.ok rs e) = parS (storeL is rs e) := Eq.trans rfl rfl
@[simp] theorem ev_parS : parS (some e) = .ok .nx e := Eq.trans rfl rfl
@[simp] theorem ev_st0 : storeL [] [] e = some e := Eq.trans rfl rfl
@[simp] theorem ev_st1 {i : Nat} {is : List Nat} : storeL (i :: is) (.val d :: rs) e = storeL is rs (e.set i (some (.s d))) := Eq.trans rfl rfl
@[simp] theorem ev_st2 {i : Nat} {is : List Nat} {o : O} : storeL (i :: is) (.own o :: rs) e = storeL is rs (e.set i (some o)) := Eq.trans rfl rfl
@[simp] theorem ev_mulT {ds : List D} {i : Int} : gMul (.val (.tup ds)) (.val (.int i)) = if ds ≠ [] ∧ 2 ≤ i ∧ i ≤ 1000 ∧ ds.length ≤ 1000 then some (.val (.tup (List.replicate i.toNat ds).flatten)) else none := Eq.trans rfl rfl
@[simp] theorem ev_attrb {cs : List Nat} {n : Str} {x c : Nat} {p : List Stp} {ns : List Str} {os : List O} : gAttr cs n (.bor x p (.ins c ns os)) = if c ∈ cs then (lk ns os n).map fun o => o.at x (p ++ [.attr n]) else none := Eq.trans rfl rfl
@[simp] theorem ev_attrv {cs : List Nat} {n : Str} {c : Nat} {ns : List Str} {ds : List D} : gAttr cs n (.val (.ins c ns ds)) = if c ∈ cs then (lk ns ds n).map .val else none := Eq.trans rfl rfl
@[simp] theorem ev_lk {n : Str} {ns : List Str} {a : α} {as : List α} {m : Str} : lk (n :: ns) (a :: as) m = if n = m then some a else lk ns as m := Eq.trans rfl rfl
@[simp] theorem ev_setLk {n : Str} {ns : List Str} {a y : α} {as : List α} {m : Str} : setLk (n :: ns) (a :: as) m y = if n = m then y :: as else a :: setLk ns as m y := Eq.trans rfl rfl
@[simp] theorem ev_meth {Sl : List Nat} {c n : Nat} {mn : Str} {fn : List O → Rr} : mMeth Sl T2 c mn n fn fo fs env = methK Sl c mn n fn fs (fo env) := by
  unfold mMeth
  cases fo env with
  | ok r e =>
    show (if hasNo [c] mn e r = true then mCall Sl n fn (fun e => (fs e).bind fun rs e2 => .ok (r :: rs) e2) e else .bad) = if hasNo [c] mn e r = true then callK Sl n fn (consL r (fs e)) else .bad
    rw [ev_call]
    cases fs e <;> rfl
  | exc c ds e => rfl
  | bad => rfl
@[simp] theorem ev_meth1 {Sl : List Nat} {c n : Nat} {mn : Str} {fn : List O → Rr} : methK Sl c mn n fn fs (.ok r e) = if hasNo [c] mn e r = true then callK Sl n fn (consL r (fs e)) else .bad := Eq.trans rfl rfl
@[simp] theorem ev_hasNo {cs : List Nat} {mn : Str} {x : Nat} : hasNo cs mn e (.sl x) = match e[x]? with
    | some (some (.ins c ns os)) => decide (c ∈ cs) && (lk ns os mn).isNone
    | some (some (.s (.ins c ns ds))) => decide (c ∈ cs) && (lk ns ds mn).isNone
    | _ => false := Eq.trans rfl rfl
@[simp] theorem ev_make {Sl : List Nat} {c n : Nat} {fn : List O → Rr} : mMake Sl c n fn fs env = makeK Sl c n fn (fs env) := by
  unfold mMake
  cases fs env with
  | ok rs e =>
    show (match argsO e rs with | some os => _ | none => Rs.bad) = makeA Sl c n fn rs e (argsO e rs)
    cases argsO e rs with
    | none => rfl
    | some os =>
      show (if _ then _ else _) = if _ then makeR n rs e (fn (.ins c [] [] :: os)) else _
      cases fn (.ins c [] [] :: os) with
      | ok r outs =>
        cases r with
        | s d => cases d <;> cases outs <;> rfl
        | lst _ => rfl
        | dk _ _ => rfl
        | dt _ _ => rfl
        | ins _ _ _ => rfl
      | exc c ds outs => cases outs <;> rfl
      | bad => rfl
  | exc c ds e => rfl
  | bad => rfl
@[simp] theorem ev_make1 {Sl : List Nat} {c n : Nat} {fn : List O → Rr} : makeK Sl c n fn (.ok rs e) = makeA Sl c n fn rs e (argsO e rs) := Eq.trans rfl rfl
@[simp] theorem ev_make2 {Sl : List Nat} {c n : Nat} {fn : List O → Rr} {os : List O} : makeA Sl c n fn rs e (some os) = if rs.length + 1 = n ∧ (slots rs).Nodup ∧ (∀ x ∈ slots rs, x ∈ Sl) then makeR n rs e (fn (.ins c [] [] :: os)) else .bad := Eq.trans rfl rfl
@[simp] theorem ev_make3 {n : Nat} {o : O} {outs : List O} : makeR n rs e (.ok (.s .non) (o :: outs)) = if outs.length + 1 = n then .ok o.rr (putOuts e rs outs) else .bad := Eq.trans rfl rfl
@[simp] theorem ev_ro {n : Nat} {fn : List O → Rr} : mRo n fn fs env = roK n fn (fs env) := by unfold mRo; cases fs env <;> rfl
def roR (e : Env) : Rr → Rs Rt
  | .ok (.s d) _ => if d.flat = true then .ok (.val d) e else .bad
  | .exc c ds _ => if ds.all D.flat = true then .exc c ds e else .bad
  | _ => .bad
@[simp] theorem ev_roK {n : Nat} {fn : List O → Rr} : roK n fn (.ok rs e) = if rs.length = n ∧ rs.all (fun r => !r.isSl) = true then roR e (fn (rs.map fun r => .s r.d)) else .bad := by
  show roRun n fn rs e = _
  unfold roRun
  cases fn (rs.map fun r => .s r.d) with
  | ok o outs => cases o <;> rfl
  | exc c ds outs => rfl
  | bad => rfl
@[simp] theorem ev_roR {d : D} {outs : List O} : roR e (.ok (.s d) outs) = if d.flat = true then .ok (.val d) e else .bad := Eq.trans rfl rfl
@[simp] theorem ev_fl1 {i : Int} : D.flat (.int i) = true := Eq.trans rfl rfl
@[simp] theorem ev_fl2 {i : Bool} : D.flat (.bl i) = true := Eq.trans rfl rfl
@[simp] theorem ev_methR {c n : Nat} {mn : Str} {fn : List O → Rr} : mMethR T2 c mn n fn fo fs env = methRK T2 c mn n fn fs (fo env) := by
  unfold mMethR
  cases fo env with
  | ok r e =>
    show (if r.isSl = false ∧ r.hot T2 = false ∧ roHas c mn r.d = true then (fs e).bind _ else .bad) = if r.isSl = false ∧ r.hot T2 = false ∧ roHas c mn r.d = true then roK n fn (consL r (fs e)) else .bad
    cases fs e <;> rfl
  | exc c ds e => rfl
  | bad => rfl
@[simp] theorem ev_methR1 {c n : Nat} {mn : Str} {fn : List O → Rr} : methRK T2 c mn n fn fs (.ok r e) = if r.isSl = false ∧ r.hot T2 = false ∧ roHas c mn r.d = true then roK n fn (consL r (fs e)) else .bad := Eq.trans rfl rfl
def pkV (v : Rt) : Option Env → Rs Rt
  | some e => .ok v e
  | none => .bad
@[simp] theorem ev_pkV {v : Rt} : pkV v (some e) = .ok v e := Eq.trans rfl rfl
def appO (Tx : List Nat) (x : Nat) (p : List Stp) (os : List O) (e : Env) : Option O → Rs Rt
  | some oy => if os.length < 16777216 ∧ x ∈ Tx then pkV (.val .non) (poke x p (.lst (os ++ [oy])) e) else .bad
  | none => .bad
def appY (Tx : List Nat) (x : Nat) (p : List Stp) (os : List O) : Rs Rt → Rs Rt
  | .ok y e => appO Tx x p os e y.o
  | r => r
def appK (Tx T2 : List Nat) (f2 : ME) : Rs Rt → Rs Rt
  | .ok (.bor x p (.lst os)) e => if x ∈ T2 then .bad else appY Tx x p os (f2 e)
  | .ok _ _ => .bad
  | r => r
@[simp] theorem ev_app : mAppend Tx T2 f f2 env = appK Tx T2 f2 (f env) := by
  unfold mAppend
  cases f env with
  | ok r e =>
    cases r with
    | bor x p o =>
      cases o with
      | lst os =>
        show (if x ∈ T2 then Rs.bad else (f2 e).bind _) = if x ∈ T2 then .bad else appY Tx x p os (f2 e)
        cases f2 e with
        | ok y e2 =>
          show (if x ∈ T2 then Rs.bad else (match y.o with | some oy => _ | none => Rs.bad)) = if x ∈ T2 then .bad else appO Tx x p os e2 y.o
          cases y.o with
          | none => rfl
          | some oy =>
            show (if x ∈ T2 then Rs.bad else (if os.length < 16777216 ∧ x ∈ Tx then (match poke x p (.lst (os ++ [oy])) e2 with | some e3 => Rs.ok (.val .non) e3 | none => .bad) else .bad)) = if x ∈ T2 then .bad else (if os.length < 16777216 ∧ x ∈ Tx then pkV (.val .non) (poke x p (.lst (os ++ [oy])) e2) else .bad)
            generalize poke x p (.lst (os ++ [oy])) e2 = q
            cases q <;> rfl
        | exc c ds e => rfl
        | bad => rfl
      | s _ => rfl
      | dk _ _ => rfl
      | dt _ _ => rfl
      | ins _ _ _ => rfl
    | val _ => rfl
    | own _ => rfl
    | sl _ => rfl
  | exc c ds e => rfl
  | bad => rfl
@[simp] theorem ev_app1 {x : Nat} {p : List Stp} {os : List O} : appK Tx T2 f2 (.ok (.bor x p (.lst os)) e) = if x ∈ T2 then .bad else appY Tx x p os (f2 e) := Eq.trans rfl rfl
@[simp] theorem ev_app2 {x : Nat} {p : List Stp} {os : List O} {y : Rt} : appY Tx x p os (.ok y e) = appO Tx x p os e y.o := Eq.trans rfl rfl
@[simp] theorem ev_app3 {x : Nat} {p : List Stp} {os : List O} {oy : O} : appO Tx x p os e (some oy) = if os.length < 16777216 ∧ x ∈ Tx then pkV (.val .non) (poke x p (.lst (os ++ [oy])) e) else .bad := Eq.trans rfl rfl
end
end L3
namespace L3
open PySem L2
def saI (Tx cs : List Nat) (n : Str) (oy : O) : Rs Rt → Rs Fl
  | .ok r e => match r with
    | .bor x p (.ins c ns os) => if c ∈ cs ∧ x ∈ Tx ∧ ns.length < 1000 ∧ ns.length = os.length then pkF (poke x p (.ins c (putNs ns n) (putL ns os n oy)) e) else .bad
    | _ => .bad
  | r => r.ex
def saY (Tx cs : List Nat) (n : Str) (fo : ME) (e : Env) : Option O → Rs Fl
  | some oy => saI Tx cs n oy (fo e)
  | none => .bad
def saK (Tx cs : List Nat) (n : Str) (fo : ME) : Rs Rt → Rs Fl
  | .ok y e => saY Tx cs n fo e y.o
  | r => r.ex
def augK (i : Nat) (g : Rt → Rt → Option Rt) (d : D) : Rs Rt → Rs Fl
  | .ok r e => setP i e ((g (.val d) r).bind Rt.o)
  | r => r.ex
def augE (i : Nat) (g : Rt → Rt → Option Rt) (f : ME) (env : Env) : Option (Option O) → Rs Fl
  | some (some (.s d)) => augK i g d (f env)
  | _ => .bad
def isTK (ns : List String) : Rs Rt → Rs Rt
  | .ok r e => if r.isSl = true ∨ r.d.plain = false then .bad else ofO ((kitBs r.d.tn ns).map fun b => .val (.bl b)) e
  | r => r
def kgV (tab : List (Str × D)) (e : Env) : Rt → Rt → Rs Rt
  | .val (.str z), .val d => .ok (.val ((lookT tab z).getD d)) e
  | _, _ => .bad
def kgL (tab : List (Str × D)) (r1 : Rt) : Rs Rt → Rs Rt
  | .ok r2 e => kgV tab e r1 r2
  | r => r
def kgK (tab : List (Str × D)) (f2 : ME) : Rs Rt → Rs Rt
  | .ok r1 e => kgL tab r1 (f2 e)
  | r => r
def popQ (Tx : List Nat) (x : Nat) (p : List Stp) (e : Env) : Option (List O × D) → Rs Rt
  | some q => if x ∈ Tx then pkV (.val q.2) (poke x p (.lst q.1) e) else .bad
  | none => .bad
def popK (Tx : List Nat) : Rs Rt → Rs Rt
  | .ok r e => match r with
    | .bor x p (.lst os) => popQ Tx x p e (unsnoc os)
    | _ => .bad
  | r => r
def extO (Tx : List Nat) (x : Nat) (p : List Stp) (os : List O) (e : Env) : Option (List D) → Rs Rt
  | some ds => if os.length + ds.length ≤ 16777216 ∧ x ∈ Tx then pkV (.val .non) (poke x p (.lst (os ++ ds.map O.s)) e) else .bad
  | none => .bad
def extY (Tx : List Nat) (x : Nat) (p : List Stp) (os : List O) : Rs Rt → Rs Rt
  | .ok y e => extO Tx x p os e (lstOf y)
  | r => r
def extK (Tx T2 : List Nat) (f2 : ME) : Rs Rt → Rs Rt
  | .ok (.bor x p (.lst os)) e => if x ∈ T2 then .bad else extY Tx x p os (f2 e)
  | .ok _ _ => .bad
  | r => r
def asgTK (set : D → Env → Option Env) : Rs Rt → Rs Fl
  | .ok r e => match r with
    | .val d => parS (set d e)
    | _ => .bad
  | r => r.ex
section
variable {α β : Type} {env : Env} {e e1 : Env} {T T1 T2 T3 Tx : List Nat} {f f1 f2 f3 fo fe fi : ME} {fs : MA} {t t1 t2 : MT} {g g1 g2 : MS} {r : Rt} {rs : List Rt} {d : D}
@[simp] theorem ev_sa {cs : List Nat} {n : Str} : msSetAttr Tx T2 cs n fe fo env = saK Tx cs n fo (fe env) := by
  unfold msSetAttr
  cases fe env with
  | ok y e =>
    show (match y.o with | some oy => _ | none => Rs.bad) = saY Tx cs n fo e y.o
    cases y.o with
    | none => rfl
    | some oy =>
      show (fo e).bind _ = saI Tx cs n oy (fo e)
      cases fo e with
      | ok r e2 =>
        cases r with
        | bor x p o =>
          cases o with
          | ins c ns os =>
            show (if c ∈ cs ∧ x ∈ Tx ∧ ns.length < 1000 ∧ ns.length = os.length then (match poke x p (.ins c (putNs ns n) (putL ns os n oy)) e2 with | some e4 => Rs.ok Fl.nx e4 | none => .bad) else .bad) = if c ∈ cs ∧ x ∈ Tx ∧ ns.length < 1000 ∧ ns.length = os.length then pkF (poke x p (.ins c (putNs ns n) (putL ns os n oy)) e2) else .bad
            generalize poke x p (.ins c (putNs ns n) (putL ns os n oy)) e2 = q
            cases q <;> rfl
          | _ => rfl
        | _ => rfl
      | exc c ds e => rfl
      | bad => rfl
  | exc c ds e => rfl
  | bad => rfl
@[simp] theorem ev_sa4 {cs : List Nat} {n : Str} : saK Tx cs n fo (.ok r e) = saY Tx cs n fo e r.o := Eq.trans rfl rfl
@[simp] theorem ev_sa5 {cs : List Nat} {n : Str} {oy : O} : saY Tx cs n fo e (some oy) = saI Tx cs n oy (fo e) := Eq.trans rfl rfl
@[simp] theorem ev_sa6 {cs : List Nat} {n : Str} {oy : O} {x c : Nat} {p : List Stp} {ns : List Str} {os : List O} : saI Tx cs n oy (.ok (.bor x p (.ins c ns os)) e) = if c ∈ cs ∧ x ∈ Tx ∧ ns.length < 1000 ∧ ns.length = os.length then pkF (poke x p (.ins c (putNs ns n) (putL ns os n oy)) e) else .bad := Eq.trans rfl rfl
@[simp] theorem ev_pn0 {n : Str} : putNs [] n = [n] := Eq.trans rfl rfl
@[simp] theorem ev_pn1 {n m : Str} {ns : List Str} : putNs (n :: ns) m = if n = m then n :: ns else n :: putNs ns m := Eq.trans rfl rfl
@[simp] theorem ev_pl0 {n : Str} {as : List α} {y : α} : putL [] as n y = [y] := by cases as <;> rfl
@[simp] theorem ev_pl1 {n m : Str} {ns : List Str} {a y : α} {as : List α} : putL (n :: ns) (a :: as) m y = if n = m then y :: as else a :: putL ns as m y := Eq.trans rfl rfl
@[simp] theorem ev_aug {i : Nat} {g : Rt → Rt → Option Rt} : msAug i g f env = augE i g f env (env[i]?) := by
  unfold msAug augE
  cases env[i]? with
  | none => rfl
  | some oo =>
    cases oo with
    | none => rfl
    | some o =>
      cases o with
      | s d =>
        show (f env).bind _ = augK i g d (f env)
        cases f env with
        | ok r e =>
          show (match (g (.val d) r).bind Rt.o with | some o => Rs.ok Fl.nx (e.set i (some o)) | none => .bad) = setP i e ((g (.val d) r).bind Rt.o)
          generalize (g (.val d) r).bind Rt.o = q
          cases q <;> rfl
        | exc c ds e => rfl
        | bad => rfl
      | _ => rfl
@[simp] theorem ev_aug1 {i : Nat} {g : Rt → Rt → Option Rt} : augE i g f env (some (some (.s d))) = augK i g d (f env) := Eq.trans rfl rfl
@[simp] theorem ev_aug2 {i : Nat} {g : Rt → Rt → Option Rt} : augK i g d (.ok r e) = setP i e ((g (.val d) r).bind Rt.o) := Eq.trans rfl rfl
@[simp] theorem ev_isT {ns : List String} : mIsT ns f env = isTK ns (f env) := by unfold mIsT; cases f env <;> rfl
@[simp] theorem ev_isT1 {ns : List String} : isTK ns (.ok r e) = if r.isSl = true ∨ r.d.plain = false then .bad else ofO ((kitBs r.d.tn ns).map fun b => .val (.bl b)) e := Eq.trans rfl rfl
@[simp] theorem ev_isi {n : String} : gIsi [r, .val (.ty n)] = if r.isSl = true ∨ r.d.plain = false then none else (kitB r.d.tn n).map fun b => .val (.bl b) := Eq.trans rfl rfl
@[simp] theorem ev_pl2 {ds : List D} : D.plain (.tup ds) = true := Eq.trans rfl rfl
@[simp] theorem ev_pl3 {ds : List D} : D.plain (.lst ds) = true := Eq.trans rfl rfl
@[simp] theorem ev_pl4 {i : Int} : D.plain (.int i) = true := Eq.trans rfl rfl
@[simp] theorem ev_pl5 {i : Str} : D.plain (.str i) = true := Eq.trans rfl rfl
@[simp] theorem ev_pl6 {i : Bool} : D.plain (.bl i) = true := Eq.trans rfl rfl
@[simp] theorem ev_pl7 : D.plain .non = true := Eq.trans rfl rfl
@[simp] theorem ev_tn2 {ds : List D} : D.tn (.tup ds) = "tuple" := Eq.trans rfl rfl
@[simp] theorem ev_tn3 {ds : List D} : D.tn (.lst ds) = "list" := Eq.trans rfl rfl
@[simp] theorem ev_tn4 {i : Int} : D.tn (.int i) = "int" := Eq.trans rfl rfl
@[simp] theorem ev_tn5 {i : Str} : D.tn (.str i) = "str" := Eq.trans rfl rfl
@[simp] theorem ev_tn6 {i : Bool} : D.tn (.bl i) = "bool" := Eq.trans rfl rfl
@[simp] theorem ev_tn7 : D.tn .non = "NoneType" := Eq.trans rfl rfl
@[simp] theorem ev_kb1 : kitB "tuple" "tuple" = some true := by decide +kernel
@[simp] theorem ev_kb2 : kitB "int" "int" = some true := by decide +kernel
@[simp] theorem ev_kb3 : kitB "str" "str" = some true := by decide +kernel
@[simp] theorem ev_kb4 : kitB "int" "bool" = some false := by decide +kernel
@[simp] theorem ev_kb5 : kitB "int" "tuple" = some false := by decide +kernel
@[simp] theorem ev_kb6 : kitB "str" "tuple" = some false := by decide +kernel
@[simp] theorem ev_kb7 : kitB "str" "bool" = some false := by decide +kernel
@[simp] theorem ev_kb8 : kitBs "tuple" ["tuple", "list"] = some true := by decide +kernel
@[simp] theorem ev_kb9 : kitBs "int" ["tuple", "list"] = some false := by decide +kernel
@[simp] theorem ev_kb10 : kitBs "str" ["tuple", "list"] = some false := by decide +kernel
@[simp] theorem ev_kget {tab : List (Str × D)} : mKGet tab f1 f2 env = kgK tab f2 (f1 env) := by
  unfold mKGet
  cases f1 env with
  | ok r1 e =>
    show (f2 e).bind _ = kgL tab r1 (f2 e)
    cases f2 e with
    | ok r2 e2 =>
      cases r1 with
      | val d =>
        cases d with
        | str z => cases r2 <;> rfl
        | _ => rfl
      | _ => rfl
    | exc c ds e => rfl
    | bad => rfl
  | exc c ds e => rfl
  | bad => rfl
@[simp] theorem ev_kg1 {tab : List (Str × D)} : kgK tab f2 (.ok r e) = kgL tab r (f2 e) := Eq.trans rfl rfl
@[simp] theorem ev_kg2 {tab : List (Str × D)} {z : Str} : kgL tab (.val (.str z)) (.ok (.val d) e) = .ok (.val ((lookT tab z).getD d)) e := Eq.trans rfl rfl
@[simp] theorem ev_lt0 {z : Str} : lookT [] z = none := Eq.trans rfl rfl
@[simp] theorem ev_lt1 {z k : Str} {tab : List (Str × D)} : lookT ((k, d) :: tab) z = if k = z then some d else lookT tab z := Eq.trans rfl rfl
@[simp] theorem ev_pop : mPop Tx f env = popK Tx (f env) := by
  unfold mPop
  cases f env with
  | ok r e =>
    cases r with
    | bor x p o =>
      cases o with
      | lst os =>
        show (match unsnoc os with | some q => if x ∈ Tx then (match poke x p (.lst q.1) e with | some e2 => Rs.ok (.val q.2) e2 | none => .bad) else .bad | none => .bad) = popQ Tx x p e (unsnoc os)
        cases unsnoc os with
        | none => rfl
        | some q =>
          show (if x ∈ Tx then (match poke x p (.lst q.1) e with | some e2 => Rs.ok (.val q.2) e2 | none => .bad) else .bad) = if x ∈ Tx then pkV (.val q.2) (poke x p (.lst q.1) e) else .bad
          generalize poke x p (.lst q.1) e = z
          cases z <;> rfl
      | _ => rfl
    | _ => rfl
  | exc c ds e => rfl
  | bad => rfl
@[simp] theorem ev_pop1 {x : Nat} {p : List Stp} {os : List O} : popK Tx (.ok (.bor x p (.lst os)) e) = popQ Tx x p e (unsnoc os) := Eq.trans rfl rfl
@[simp] theorem ev_pop2 {x : Nat} {p : List Stp} {os : List O} : popQ Tx x p e (some (os, d)) = if x ∈ Tx then pkV (.val d) (poke x p (.lst os) e) else .bad := Eq.trans rfl rfl
theorem unsnoc_app : ∀ (os : List O) (d : D), unsnoc (os ++ [.s d]) = some (os, d)
  | [], d => rfl
  | [o], d => by cases o <;> rfl
  | o :: o2 :: os, d => by
    have := unsnoc_app (o2 :: os) d
    show unsnoc (o :: ((o2 :: os) ++ [.s d])) = _
    cases o <;> (show (unsnoc ((o2 :: os) ++ [.s d])).map _ = _; rw [this]; rfl)
@[simp] theorem ev_ext : mExtend Tx T2 f f2 env = extK Tx T2 f2 (f env) := by
  unfold mExtend
  cases f env with
  | ok r e =>
    cases r with
    | bor x p o =>
      cases o with
      | lst os =>
        show (if x ∈ T2 then Rs.bad else (f2 e).bind _) = if x ∈ T2 then .bad else extY Tx x p os (f2 e)
        cases f2 e with
        | ok y e2 =>
          show (if x ∈ T2 then Rs.bad else (match lstOf y with | some ds => _ | none => Rs.bad)) = if x ∈ T2 then .bad else extO Tx x p os e2 (lstOf y)
          cases lstOf y with
          | none => rfl
          | some ds =>
            show (if x ∈ T2 then Rs.bad else (if os.length + ds.length ≤ 16777216 ∧ x ∈ Tx then (match poke x p (.lst (os ++ ds.map O.s)) e2 with | some e3 => Rs.ok (.val .non) e3 | none => .bad) else .bad)) = if x ∈ T2 then .bad else (if os.length + ds.length ≤ 16777216 ∧ x ∈ Tx then pkV (.val .non) (poke x p (.lst (os ++ ds.map O.s)) e2) else .bad)
            generalize poke x p (.lst (os ++ ds.map O.s)) e2 = q
            cases q <;> rfl
        | exc c ds e => rfl
        | bad => rfl
      | _ => rfl
    | _ => rfl
  | exc c ds e => rfl
  | bad => rfl
@[simp] theorem ev_ext1 {x : Nat} {p : List Stp} {os : List O} : extK Tx T2 f2 (.ok (.bor x p (.lst os)) e) = if x ∈ T2 then .bad else extY Tx x p os (f2 e) := Eq.trans rfl rfl
@[simp] theorem ev_ext2 {x : Nat} {p : List Stp} {os : List O} {y : Rt} : extY Tx x p os (.ok y e) = extO Tx x p os e (lstOf y) := Eq.trans rfl rfl
@[simp] theorem ev_ext3 {x : Nat} {p : List Stp} {os : List O} {ds : List D} : extO Tx x p os e (some ds) = if os.length + ds.length ≤ 16777216 ∧ x ∈ Tx then pkV (.val .non) (poke x p (.lst (os ++ ds.map O.s)) e) else .bad := Eq.trans rfl rfl
@[simp] theorem ev_lo {ds : List D} : lstOf (.own (.lst (ds.map O.s))) = some ds := by
  show leaves (ds.map O.s) = some ds
  exact leaves_map ds
@[simp] theorem ev_gAddL {ds es : List D} : gAdd (.own (.lst (ds.map O.s))) (.own (.lst (es.map O.s))) = if ds.length + es.length ≤ 16777216 then some (.own (.lst ((ds ++ es).map O.s))) else none := by
  show (match lstOf (.own (.lst (ds.map O.s))), lstOf (.own (.lst (es.map O.s))) with | some ds, some es => if ds.length + es.length ≤ 16777216 then some (Rt.own (.lst ((ds ++ es).map O.s))) else none | _, _ => none) = _
  rw [ev_lo, ev_lo]
@[simp] theorem ev_asgT {set : D → Env → Option Env} : msAsgT set f env = asgTK set (f env) := by
  unfold msAsgT
  cases f env with
  | ok r e =>
    cases r with
    | val d =>
      show ofO ((set d e).map fun _ => Fl.nx) ((set d e).getD e) = parS (set d e)
      cases set d e <;> rfl
    | _ => rfl
  | exc c ds e => rfl
  | bad => rfl
@[simp] theorem ev_asgT1 {set : D → Env → Option Env} : asgTK set (.ok (.val d) e) = parS (set d e) := Eq.trans rfl rfl
@[simp] theorem ev_dt0 : mDT0 env = .ok (.own (.dt [] [])) env := Eq.trans rfl rfl
@[simp] theorem ev_rev {ds : List D} : gRev (.own (.lst (ds.map O.s))) = some (.own (.lst (ds.reverse.map O.s))) := by
  show (match Rt.items (.own (.lst (ds.map O.s))) with | some (true, ds) => some (Rt.own (.lst (ds.reverse.map O.s))) | _ => none) = _
  show (match (leaves (ds.map O.s)).map fun ds => (true, ds) with | some (true, ds) => some (Rt.own (.lst (ds.reverse.map O.s))) | _ => none) = _
  rw [leaves_map]
  rfl
@[simp] theorem ev_listOf {ds : List D} : gListOf [.val (.tup ds)] = some (.own (.lst (ds.map O.s))) := Eq.trans rfl rfl
@[simp] theorem ev_lrg {n : Int} : gLRg (.val (.int n)) = if 0 ≤ n ∧ n ≤ 16777216 then some (.own (.lst ((rngD 0 n.toNat).map O.s))) else none := Eq.trans rfl rfl
@[simp] theorem ev_gAllE : gAll [.own (.lst [])] = some (.val (.bl true)) := Eq.trans rfl rfl
theorem ev_gAllL {bs : List Bool} : gAll [.own (.lst ((bs.map D.bl).map O.s))] = some (.val (.bl (bs.all id))) := by
  show (match Rt.items (.own (.lst ((bs.map D.bl).map O.s))) with | some (true, ds) => (blsOf ds).map fun (ns : List Bool) => Rt.val (.bl (ns.all id)) | _ => none) = _
  show (match (leaves ((bs.map D.bl).map O.s)).map fun ds => (true, ds) with | some (true, ds) => (blsOf ds).map fun (ns : List Bool) => Rt.val (.bl (ns.all id)) | _ => none) = _
  rw [leaves_map]
  show (blsOf (bs.map D.bl)).map _ = _
  rw [bls_map]
  rfl
theorem ev_gMaxL {ns : List Int} : gMaxL [.own (.lst ((ns.map D.int).map O.s))] = (maxI ns).map fun k => .val (.int k) := by
  show (match Rt.items (.own (.lst ((ns.map D.int).map O.s))) with | some (true, ds) => (intsOf ds).bind fun (ns : List Int) => (maxI ns).map fun k => Rt.val (.int k) | _ => none) = _
  show (match (leaves ((ns.map D.int).map O.s)).map fun ds => (true, ds) with | some (true, ds) => (intsOf ds).bind fun (ns : List Int) => (maxI ns).map fun k => Rt.val (.int k) | _ => none) = _
  rw [leaves_map]
  show (intsOf (ns.map D.int)).bind _ = _
  rw [ints_map]
  rfl
@[simp] theorem ev_inDT {ds : List D} {x : Nat} {p : List Stp} : gInDT (.val (.tup ds)) (.bor x p (.dt [] [])) = (keysOf ds).map fun k => .val (.bl false) := by
  show (keysOf ds).map (fun k => Rt.val (.bl (lkK ([] : List (List Key)) ([] : List O) k).isSome)) = _
  rfl
end
theorem while_inv {t : MT} {g : MS} {I : Nat → Env → Prop} {R : Env → Prop} {S : Rt → Env → Prop}
    (step : ∀ n e, I n e → ∃ b e1, t e = .ok b e1 ∧ ((b = false ∧ R e1) ∨ (b = true ∧ ((∃ e2 m, g e1 = .ok .nx e2 ∧ m < n ∧ I m e2) ∨ (∃ r e2, g e1 = .ok (.ret r) e2 ∧ S r e2))))) :
    ∀ (n : Nat) (e : Env), I n e → (∃ e', msWhile t g e = .ok .nx e' ∧ R e') ∨ (∃ r e', msWhile t g e = .ok (.ret r) e' ∧ S r e') := by
  have key : ∀ (k n : Nat) (e : Env), n < k → I n e → ∃ j, (∃ e', whileN t g j e = .ok .nx e' ∧ R e') ∨ (∃ r e', whileN t g j e = .ok (.ret r) e' ∧ S r e') := by
    intro k
    induction k with
    | zero => intro n e h; omega
    | succ k ih =>
      intro n e hn hI
      obtain ⟨b, e1, h1, h2⟩ := step n e hI
      rcases h2 with ⟨rfl, hR⟩ | ⟨rfl, h2⟩
      · refine ⟨1, .inl ⟨e1, ?_, hR⟩⟩
        unfold whileN
        rw [h1]
        rfl
      · rcases h2 with ⟨e2, m, h2, hm, hI2⟩ | ⟨r, e2, h2, hS⟩
        · obtain ⟨j, hj⟩ := ih m e2 (by omega) hI2
          refine ⟨j + 1, ?_⟩
          have : whileN t g (j + 1) e = whileN t g j e2 := by
            conv => lhs; unfold whileN
            rw [h1]
            show (g e1).bind _ = _
            rw [h2]
            rfl
          rw [this]
          exact hj
        · refine ⟨1, .inr ⟨r, e2, ?_, hS⟩⟩
          unfold whileN
          rw [h1]
          show (g e1).bind _ = _
          rw [h2]
          rfl
  intro n e hI
  obtain ⟨j, hj⟩ := key (n + 1) n e (by omega) hI
  rcases hj with ⟨e', h, hR⟩ | ⟨r, e', h, hS⟩
  · exact .inl ⟨e', msWhile_is h (by simp), hR⟩
  · exact .inr ⟨r, e', msWhile_is h (by simp), hS⟩
end L3
namespace L3
open PySem L2
section
variable {X : Cx} {C : Cn} {E : WX} {e a b : Expr} {pos : Pos} {T T1 T2 T3 : List Nat} {fs : MA} {es : List Expr} {f f1 f2 : ME} {st : Stmt} {sts : List Stmt} {g g1 : MS}
def msRaise1 (c : Nat) (f : ME) : MS := fun env => (f env).bind fun r e => match r with
  | .val d => .exc c [d] e
  | _ => .bad
def msRaise0 (c : Nat) : MS := fun env => .exc c [] env
theorem s_raise0 {c : Nat} (h : PS X st (fun _ σ H => E (.ref (C.cl c)) none σ H)) : PS X st (rdS C E [] (msRaise0 c)) := PS.wk h fun D σ H ⟨m, e1, e2, S, w⟩ => by
  subst e1 e2
  exact w m rfl S [] (Step.refl _ _) none (fun _ => rfl) fun d hd => by cases hd
theorem s_raise1 {c : Nat} (h : PS X st (fun _ σ H => rdE C E T f σ H fun v H1 => ∀ d, H1 d = none → E (.ref (C.cl c)) (some d) σ (upd H1 d (.xd [(xfld c, v)])))) : PS X st (rdS C E T (msRaise1 c f)) :=
  PS.wk h fun D σ H ⟨m, e1, e2, S, w⟩ => ⟨m, e1, e2, S, Want.imp w.bind fun r env w => fun v m' e3 e4 S' s ok d hd => by
    cases r with
    | val x =>
      have G := gro_own (o := .xd [(xfld c, v)]) S' hd
      have q := w { m' with H := upd m'.H d (.xd [(xfld c, v)]) } e3 (S'.gro G) _ (s.trans (G.step S')) (some d) (fun z => by cases z) fun x' hx => by
        obtain rfl : x = x' := by simpa using hx
        exact ⟨d, v, rfl, upd_same, ok⟩
      have q : E (.ref (C.cl c)) (some d) m'.σ (upd m'.H d (.xd [(xfld c, v)])) := q
      rw [e4] at q
      exact q
    | _ => exact w.elim⟩
mutual
theorem RpO.noxd {K : PySem.W.Frag} {cl : Nat → Addr} {F H : Hp} {z : List (Str × V)} : ∀ (o : O) (v : V) (fp : Fp), RpO K cl F H o v fp → ∀ a ∈ fp, H a ≠ some (.xd z)
  | .s d, v, fp, h, a, ha => by rw [h.1] at ha; simp at ha
  | .lst os, v, fp, h, a, ha => by
    obtain ⟨b, xs, f, e1, rfl, q, r⟩ := h
    rcases List.mem_cons.mp ha with rfl | ha
    · rw [q]; intro y; cases y
    · exact RpOs.noxd os xs f r a ha
  | .dk ks os, v, fp, h, a, ha => by
    obtain ⟨b, xs, f, e1, rfl, q, l, r⟩ := h
    rcases List.mem_cons.mp ha with rfl | ha
    · rw [q]; intro y; cases y
    · exact RpOs.noxd os xs f r a ha
  | .dt ks os, v, fp, h, a, ha => by
    obtain ⟨b, xs, f, e1, rfl, q, l, r⟩ := h
    rcases List.mem_cons.mp ha with rfl | ha
    · rw [q]; intro y; cases y
    · exact RpOs.noxd os xs f r a ha
  | .ins c ks os, v, fp, h, a, ha => by
    obtain ⟨b, dx, xs, f, e1, rfl, q, l, r⟩ := h
    rcases List.mem_cons.mp ha with rfl | ha
    · rw [q]; intro y; cases y
    · exact RpOs.noxd os xs f r a ha
theorem RpOs.noxd {K : PySem.W.Frag} {cl : Nat → Addr} {F H : Hp} {z : List (Str × V)} : ∀ (os : List O) (vs : List V) (fp : Fp), RpOs K cl F H os vs fp → ∀ a ∈ fp, H a ≠ some (.xd z)
  | [], _, _, h, a, ha => by rw [h.2] at ha; simp at ha
  | d :: ds, vs, fp, h, a, ha => by
    obtain ⟨v, r, f, g, e1, rfl, h1, h2⟩ := h
    rcases List.mem_append.mp ha with ha | ha
    · exact RpO.noxd d v f h1 a ha
    · exact RpOs.noxd ds r g h2 a ha
end
theorem Sta.noxd {C : Cn} {m : Mo} (S : Sta C m) {a : Addr} {z : List (Str × V)} (h : m.H a = some (.xd z)) : a ∉ m.fps.flatten := fun ha => by
  obtain ⟨f, hf, haf⟩ := List.mem_flatten.mp ha
  obtain ⟨i, hi, e⟩ := List.mem_iff_getElem.mp hf
  have e1 : m.fps[i]? = some f := by rw [List.getElem?_eq_getElem hi, e]
  obtain ⟨o, s, h1, h2, q⟩ := S.slotF e1
  cases o with
  | none => rw [show f = [] from q] at haf; simp at haf
  | some d =>
    obtain ⟨v, _, r⟩ := q
    exact r.noxd d v f a haf h
def cnX (C : Cn) (m : Mo) (i : Nat) (v : V) : Cn := ⟨C.K, C.cl, m.F, m.H, m.fps.flatten, C.IO ++ [i], m.σ.set i (some v), C.n⟩
structure ExcIn (C C' : Cn) (i : Nat) (ea : Addr) (c : Nat) (ds : List D) (dd : Option Addr) : Prop where
  K : C'.K = C.K
  cl : C'.cl = C.cl
  n : C'.n = C.n
  io : C'.IO = C.IO ++ [i]
  v : C'.vs[i]? = some (some (.ref ea))
  e : ds = [] → dd = none
  d : ∀ d, ds = [d] → ∃ a v, dd = some a ∧ C'.H0 a = some (.xd [(xfld c, v)]) ∧ a ∉ C'.io ∧ RpD C'.K C'.cl C'.F0 d v
def isNo : Option (Option O) → Bool
  | some none => true
  | _ => false
theorem isNo_is {o : Option (Option O)} (h : isNo o = true) : o = some none := by
  cases o with
  | none => cases h
  | some x => cases x with
    | none => rfl
    | some y => cases h
def msTryAs (cs : List Nat) (i : Nat) (g1 : MS) (g2 : Nat → List D → MS) : MS := fun env => match g1 env with
  | .exc c ds e => if c ∈ cs ∧ isNo (e[i]?) = true then (match g2 c ds e with
      | .ok .nx e2 => if isNo (e2[i]?) = true then .ok .nx e2 else .bad
      | _ => .bad) else .bad
  | r => r
theorem PSs.ex {X : Cx} {ss : List Stmt} {ι : Type} {P : ι → Prop} {t : ι → TS} (h : ∀ z, P z → PSs X ss (t z)) : PSs X ss (fun D σ H => ∃ z, P z ∧ t z D σ H) :=
  ⟨fun pins s σ H D I ⟨z, hp, q⟩ => (h z hp).run pins s σ H D I q⟩
theorem sta_back {C : Cn} {m0 m4 : Mo} {i : Nat} {v : V} (S0 : Sta C m0) (hi : i ∉ C.IO) (hin : i < C.n) (S4 : Sta (cnX C m0 i v) m4) (h4 : m4.env[i]? = some none) :
    Sta C { m4 with σ := m4.σ.set i none } ∧ Step (List.range C.n) m0 { m4 with σ := m4.σ.set i none } := by
  have ln4 : m4.env.length = C.n := S4.ln
  have l14 : m4.σ.length = m4.env.length := S4.l1
  have l24 : m4.fps.length = m4.env.length := S4.l2
  have f4 : m4.fps[i]? = some [] := by
    have hl : i < m4.fps.length := by omega
    obtain ⟨o, s, q1, q2, q3⟩ := S4.slotF (List.getElem?_eq_getElem hl)
    rw [h4] at q1
    cases q1
    rw [List.getElem?_eq_getElem hl]
    exact congrArg some q3
  refine ⟨?_, ?_⟩
  · refine ⟨ln4, ?_, l24, fun j o s f a1 a2 a3 => ?_, S4.ex, S0.exF.trans S4.exF, fun a h n => ?_, S4.nd, S4.dj, S4.df, fun a ha => ?_, fun b o h n => ?_, fun b h => S4.dom b (S0.dom b h), fun j hj => ?_⟩
    · show (m4.σ.set i none).length = _
      rw [List.length_set]; exact l14
    · have a2 : (m4.σ.set i none)[j]? = some s := a2
      by_cases hj : j = i
      · subst hj
        have a1 : m4.env[j]? = some o := a1
        rw [h4] at a1
        cases a1
        have a3 : m4.fps[j]? = some f := a3
        rw [f4] at a3
        cases a3
        rfl
      · rw [List.getElem?_set_ne (Ne.symm hj)] at a2
        exact S4.sl j o s f a1 a2 a3
    · by_cases q : m0.F a = none
      · rcases S4.newF a h q with z | z
        · exact .inl (Classical.byContradiction fun y => S0.dom a y z)
        · exact S0.own a z
      · exact S0.newF a q n
    · rcases S4.own a ha with z | z
      · exact .inl (Classical.byContradiction fun y => S0.dom a y z)
      · exact S0.own a z
    · refine S4.frame b o (S0.frame b o h n) fun z => ?_
      rcases S0.own b z with y | y
      · rw [h] at y; cases y
      · exact n y
    · have hne : i ≠ j := fun z => hi (z ▸ hj)
      show (m4.σ.set i none)[j]? = _
      rw [List.getElem?_set_ne hne, S4.pin j (List.mem_append_left _ hj)]
      show (m0.σ.set i (some v))[j]? = _
      rw [List.getElem?_set_ne hne]
      exact S0.pin j hj
  · refine ⟨S4.exF, fun b o h n => S4.frame b o h n, fun b h => S4.dom b h, fun a h n => S4.newF a h n, fun a ha => S4.own a ha, by show m4.env.length = _; rw [ln4, S0.ln], fun j hj => ?_⟩
    have hj' : ¬ j < C.n := fun z => hj (List.mem_range.mpr z)
    have n1 : m4.env[j]? = none := List.getElem?_eq_none (by omega)
    have n2 : m0.env[j]? = none := List.getElem?_eq_none (by rw [S0.ln]; omega)
    have n3 : m4.fps[j]? = none := List.getElem?_eq_none (by omega)
    have n4 : m0.fps[j]? = none := List.getElem?_eq_none (by rw [S0.l2, S0.ln]; omega)
    have n5 : (m4.σ.set i none)[j]? = none := List.getElem?_eq_none (by rw [List.length_set]; omega)
    have n6 : m0.σ[j]? = none := List.getElem?_eq_none (by rw [S0.l1, S0.ln]; omega)
    exact ⟨n1.trans n2.symm, n3.trans n4.symm, n5.trans n6.symm, fun f hf => by rw [n4] at hf; cases hf⟩
theorem step_all {C : Cn} {T : List Nat} {m m' : Mo} (s : Step T m m') (S : Sta C m) (S' : Sta C m') : Step (List.range C.n) m m' :=
  ⟨s.exF, s.keep, s.dom, s.newF, s.newO, s.len, fun j hj => by
    have hj' : ¬ j < C.n := fun z => hj (List.mem_range.mpr z)
    have n1 : m'.env[j]? = none := List.getElem?_eq_none (by rw [S'.ln]; omega)
    have n2 : m.env[j]? = none := List.getElem?_eq_none (by rw [S.ln]; omega)
    have n3 : m'.fps[j]? = none := List.getElem?_eq_none (by rw [S'.l2, S'.ln]; omega)
    have n4 : m.fps[j]? = none := List.getElem?_eq_none (by rw [S.l2, S.ln]; omega)
    have n5 : m'.σ[j]? = none := List.getElem?_eq_none (by rw [S'.l1, S'.ln]; omega)
    have n6 : m.σ[j]? = none := List.getElem?_eq_none (by rw [S.l1, S.ln]; omega)
    exact ⟨n1.trans n2.symm, n3.trans n4.symm, n5.trans n6.symm, fun f hf => by rw [n4] at hf; cases hf⟩⟩
theorem s_tryAs {x n : Str} {i : Nat} {CE : Addr} {cs : List Nat} {body suite : List Stmt} {b₀ : Stmt} {np pos' : Pos} {g2 : Nat → List D → MS} (hs : X.stack = X.env :: X.outer) (hf : X.env.frame = some X.env.locals) (hN : X.N.Nodup) (hi : X.N[i]? = some n) (hln : X.env.kindOf n = some .local) (hc : Names X x (.ref CE))
    (hiO : i ∉ C.IO) (hin : i < C.n) (hcs : ∀ c ∈ cs, PySem.W.exmOne X.K (.ref (C.cl c)) (.ref CE) = some true)
    (hb : ∀ (W : WX) (pn : List (Addr × Obj)) (xe : Value → Shared → Prop), Takes (X.tr pn xe) W → PSs (X.tr pn xe) body (rdS C W T1 g1))
    (hsu : ∀ (c : Nat) (ds : List D) (C' : Cn) (ea : Addr) (oe : Obj) (dd : Option Addr) (pn : List (Addr × Obj)), c ∈ cs → ExcIn C C' i ea c ds dd → Zc (.ref (C.cl c)) dd oe → (∃ vs, oe.data = .fields vs) → PSs (X.suite ea ((ea, oe) :: pn)) (b₀ :: suite) (rdS C' (fun _ _ _ _ => True) T2 (g2 c ds))) :
    PS X (.Try body [.ExceptHandler (some (.Name x np)) (some n) (b₀ :: suite) pos'] [] [] pos) (rdS C E (T1 ++ List.range C.n) (msTryAs cs i g1 g2)) := by
  refine PS.wk (ps_try_as (i := i) (Wout := fun _ _ _ _ => False) (tb := fun W => rdS C W T1 g1) (ts := fun ea cls dd En σ H => ∃ z : Nat × List D × Cn, (z.1 ∈ cs ∧ cls = .ref (C.cl z.1) ∧ ExcIn C z.2.2 i ea z.1 z.2.1 dd) ∧ rdS z.2.2 (fun _ _ _ _ => True) T2 (g2 z.1 z.2.1) En σ H)
    hs hf hN hi hln hc takes0 (fun W pn xe tk _ => hb W pn xe tk) (fun ea oe cls dd pn hz hf => PSs.ex fun z hp => ?_)) fun En σ H ⟨m, e1, e2, S, w⟩ => ?_
  · obtain ⟨c, ds, C'⟩ := z
    obtain ⟨h1, h2, h3⟩ := hp
    subst h2
    exact hsu c ds C' ea oe dd pn h1 h3 hz hf
  · refine ⟨m, e1, e2, S, ?_⟩
    unfold msTryAs at w
    cases hg : g1 m.env with
    | bad => rw [hg] at w; exact w.elim
    | ok fl env' =>
      rw [hg] at w
      intro m' h1 S' s'
      exact w m' h1 S' (s'.wk (by simp +contextual [or_imp]))
    | exc c ds env' =>
      rw [hg] at w
      dsimp only at w
      by_cases hh : c ∈ cs ∧ isNo (env'[i]?) = true
      · rw [if_pos hh] at w
        obtain ⟨hc1, hc2⟩ := hh
        intro m' he S' Tm sm dd h1 h2
        refine ⟨true, hcs c hc1, fun _ ea hea => ?_, fun q => by cases q⟩
        have hil : i < m'.σ.length := by rw [S'.l1, S'.ln]; exact hin
        have hil3 : i < m'.fps.length := by rw [S'.l2, S'.ln]; exact hin
        have hei : m'.env[i]? = some none := by rw [he]; exact isNo_is hc2
        have fi : m'.fps[i]? = some [] := by
          obtain ⟨o, s, q1, q2, q3⟩ := S'.slotF (List.getElem?_eq_getElem hil3)
          rw [hei] at q1
          cases q1
          rw [List.getElem?_eq_getElem hil3]
          exact congrArg some q3
        refine ⟨(c, ds, cnX C m' i (.ref ea)), ⟨hc1, rfl, rfl, rfl, rfl, rfl, ?_, h1, fun d hd => ?_⟩, { m' with σ := m'.σ.set i (some (.ref ea)) }, rfl, rfl, ?_, ?_⟩
        · show (m'.σ.set i (some (.ref ea)))[i]? = _
          rw [List.getElem?_set_self hil]
        · obtain ⟨aa, v, q1, q2, q3⟩ := h2 d hd
          exact ⟨aa, v, q1, q2, S'.noxd q2, q3⟩
        · refine ⟨S'.ln, by show (m'.σ.set i _).length = _; rw [List.length_set]; exact S'.l1, S'.l2, fun j o s f a1 a2 a3 => ?_, S'.ex, Ex.refl _, fun a h n => absurd n h, S'.nd, S'.dj, S'.df, fun a ha => .inr ha, fun b o h _ => h, fun b h => h, fun j _ => rfl⟩
          have a2 : (m'.σ.set i (some (.ref ea)))[j]? = some s := a2
          by_cases hj : j = i
          · subst hj
            have a1 : m'.env[j]? = some o := a1
            rw [hei] at a1
            cases a1
            have a3 : m'.fps[j]? = some f := a3
            rw [fi] at a3
            cases a3
            rfl
          · rw [List.getElem?_set_ne (Ne.symm hj)] at a2
            exact S'.sl j o s f a1 a2 a3
        · rw [he]
          dsimp only
          cases hg2 : g2 c ds env' with
          | bad => rw [hg2] at w; exact w.elim
          | exc c2 ds2 e2 => rw [hg2] at w; exact w.elim
          | ok fl e2 =>
            rw [hg2] at w
            cases fl with
            | nx =>
              dsimp only at w
              by_cases h4 : isNo (e2[i]?) = true
              · rw [if_pos h4] at w
                intro m4 q1 S4 s4
                obtain ⟨b1, b2⟩ := sta_back S' hiO hin S4 (by rw [q1]; exact isNo_is h4)
                exact w { m4 with σ := m4.σ.set i none } q1 b1 ((step_all (sm.trans b2) S b1).wk (by simp +contextual))
              · rw [if_neg h4] at w; exact w.elim
            | _ => exact w.elim
      · rw [if_neg hh] at w; exact w.elim
end
end L3
namespace PySem
namespace PartX
open PySem.W PySem.Calls PyProof.Rows PySem.HandSPX
def iA (p1 p2 : Pos) : Arguments := { posonlyargs := [], args := [{ arg := "self", annotation := none, pos := p1 }, { arg := "part", annotation := none, pos := p2 }], vararg := none, kwonlyargs := [], kw_defaults := [], kwarg := none, defaults := [] }
def iB (q1 q2 q3 q4 : Pos) : List Stmt := [.Assign [.Attribute (.Name "self" q1) "part" q2] (.Name "part" q3) q4]
def iS : Scope := { kind := .function, names := [(PySem.Str.ofString "self", .local), (PySem.Str.ofString "part", .local)], isGenerator := false, isCoroutine := false, more := [] }
structure PartTxt (K : Frag) (mg : Str → Option Value) (cn qn : Str) (C fI : Addr) : Prop where
  gC : mg cn = some (.ref C)
  cls : ∃ nm q N bs bm sn sub ab col dd k0 k1 k2 k3 k5, K.lookup C = some (excClassObj nm q C N bs bm true sn sub ab col dd k0 k1 k2 k3 k5 "ValueError.__new__") ∧ refsVE bm = true
  sa : findIn K (.ref C) "__setattr__" = some (some (.builtin "object.__setattr__"))
  ga : findIn K (.ref C) "__getattribute__" = some (some (.builtin "BaseException.__getattribute__"))
  gg : findIn K (.ref C) "__getattr__" = some none
  noN : findIn K (.ref C) "part" = some none
  iC : findIn K (.ref C) "__init__" = some (some (.ref fI))
  tC : typeIn K (.ref fI) = some (.type "function")
  kC : keepIn K (.ref C) = true
  exC : subIn K (.ref C) (.type "BaseException") = some true
  tyC : typeIn K (.ref C) = some (.type "type")
  hdC : hasDictIn K C = true
  te : exmOne K (.ref C) (.ref C) = some true
  fn : ∃ (oc : Value) (od : Option Addr) (doc pm : Value) (an : Option Addr) (cdv ct : Value) (osl : Array (Option Value)) (p1 p2 q1 q2 q3 q4 : Pos),
    K.lookup fI = some ⟨oc, od, .func (fnOf "__init__" qn (iA p1 p2) (iB q1 q2 q3 q4) iS .none .none doc pm an cdv ct), osl⟩ ∧ codeIn K cdv qn = true
theorem one_size (v : Value) : [v].length ≤ sizeLine := by
  rw [sizeLine_eq]
  exact (by decide : 1 ≤ 16777216)
theorem kept_but {K : Frag} {h h' : Heap} {x : Addr} (X : K.In h) (hx : K.lookup x = none) (k : ∀ b o, b ≠ x → h.get? b = some o → h'.get? b = some o) : K.In h' := fun a o e =>
  k a o (fun z => by rw [z, hx] at e; cases e) (X a o e)
theorem ldC {M : Model} {s : Shared} {name : Str} {scope : Scope} {L a : Addr} {cd : Value} {m : Str → Option Value} {x : Str} {pos : Pos} {v : Value} {Q : Value → Shared → Prop} {A : Around} {E : Value → Shared → Prop} (hn : s.heap.Ns L m) (hv : m x = some v) (h : Q v s)
    (hk : scope.kind = .function := by rfl) (hl : (envOfC name scope L a cd).kindOf x = some .local := by rfl) (hd : (x == ("__debug__" : Str)) = false := by decide) :
    wpAny M A (eval (.Name x pos) (envOfC name scope L a cd)) Q E s := wpAny_Name (wpAny_loadName_local hk hl hn hv h) hd
structure InitEnd (h h' : Heap) (x C dx t1 : Addr) (v : Value) : Prop where
  keep : ∀ b o, b ≠ x → h.get? b = some o → h'.get? b = some o
  obj : h'.get? x = some { cls := .ref C, dict := some dx, data := .fields #[.ref t1, .none, .none, .none, .bool false, .none] }
  dbig : h.objs.size ≤ dx
  dne : dx ≠ x
  ns : h'.Ns1 dx (fun y => if y = "part" then some v else none)
structure OwnMade (h h' : Heap) (e C d : Addr) (v : Value) : Prop where
  keep : ∀ b o, h.get? b = some o → h'.get? b = some o
  new : h.objs.size ≤ e
  obj : ∃ oe vs, h'.get? e = some oe ∧ oe.cls = .ref C ∧ oe.dict = some d ∧ oe.data = .fields vs ∧ vs[1]? = some .none
  dbig : h.objs.size ≤ d
  dne : d ≠ e
  ns : h'.Ns1 d (fun y => if y = "part" then some v else none)
section
variable {prog : Program} {w : World} {A : Around} {E : Value → Shared → Prop} {R : Result → Shared → Prop} {s : Shared} {K : Frag} {mg : Str → Option Value} {cn qn : Str} {C fI : Addr}
theorem part_init (T : PartTxt K mg cn qn C fI) {x t0 : Addr} {v : Value} (X : K.In s.heap) (hlim : s.heap.NoLimit) (hx : s.heap.get? x = some (excO C t0)) (hnx : K.lookup x = none) (hroom : A.depth < recursionLimit)
    (hq : ∀ h' tk dx, InitEnd s.heap h' x C dx t0 v → R (.ok (.ret .none)) { s with heap := h', toks := tk }) :
    codeAny (model prog w) A (.call (.ref fI) ⟨[.ref x, v], []⟩) R s := by
  obtain ⟨oc, od, doc, pm, an, cdv, ct, osl, p1, p2, q1, q2, q3, q4, ho, hcd⟩ := T.fn
  obtain ⟨nm, q, N, bs, bm, sn, sub, ab, col, dd, k0, k1, k2, k3, k5, hC, hbm⟩ := T.cls
  have hcl : clsIn K C = some { name := nm, bases := bs, mro := .ref C :: bm, ns := N, qualname := q, hasDict := true, slotNames := sn, subclasses := sub, abstract := ab, collection := col, hasDel := false } := by unfold clsIn; rw [hC] <;> rfl
  refine Att.call_fn (binds := [("self", .ref x), ("part", v)]) X hlim ho hcd hroom (BindsTo.of_eq (by first | rfl | with_unfolding_all rfl)) (by first | rfl | decide | with_unfolding_all rfl) (fun s₁ IC => ?_) rfl rfl rfl
  obtain ⟨h₁, tk₁, rfl⟩ := IC.toInCall.same
  have k : ∀ b o, s.heap.get? b = some o → h₁.get? b = some o := IC.toInCall.keep
  have hn := IC.toInCall.ns
  have hxL : s.heap.objs.size ≠ x := Nat.ne_of_gt (Heap.lt_size hx)
  have X₁ : K.In h₁ := X.keeps k
  have hx₁ := k _ _ hx
  -- self.by = by
  show wpAny _ _ (execs _ _) _ _ _
  refine wpAny_execs_cons (plainObj_wpAny_Assign_Attribute ?_)
  refine ldC (v := v) hn (by first | rfl | with_unfolding_all rfl | kernel_rfl) (ldC (v := .ref x) hn (by first | rfl | with_unfolding_all rfl | kernel_rfl) ?_)
  refine set_plain X₁ (ox := excO C t0) (od := none) ⟨hx₁, rfl, rfl, trivial⟩ T.sa ?_
  refine exc_osa X₁ hx₁ hcl (show refsVE (.ref C :: bm) = true from hbm) rfl T.noN (fun h₃ tk₃ dx k₃ dn dne hx₃ hn₃ => ?_)
  show wpAny _ _ (execs _ _) _ _ _
  have z : s.heap.objs.size < h₁.objs.size := hn.lt
  exact wpAny_execs_nil (hq h₃ tk₃ dx ⟨fun b o hb e => k₃ b o hb (k b o e), hx₃, Nat.le_of_lt (Nat.lt_of_lt_of_le z dn), dne, hn₃⟩)
theorem part_made (T : PartTxt K mg cn qn C fI) {v : Value} (X : K.In s.heap) (hlim : s.heap.NoLimit) (hroom : A.depth + 1 < recursionLimit)
    (hq : ∀ h' tk e d, OwnMade s.heap h' e C d v → R (.ok (.ret (.ref e))) { s with heap := h', toks := tk }) :
    codeAny (model prog w) A (.call (.ref C) ⟨[v], []⟩) R s := by
  obtain ⟨nm, q, N, bs, bm, sn, sub, ab, col, dd, k0, k1, k2, k3, k5, hC, hbm⟩ := T.cls
  obtain ⟨hp, g, dr, tk, os⟩ := s
  have k : ∀ b o, hp.get? b = some o → ((hp.push (kdv_tup [v])).push (excO C hp.objs.size)).get? b = some o := fun b o e => Heap.get?_push_of_some _ (Heap.get?_push_of_some _ e)
  have hget : ((hp.push (kdv_tup [v])).push (excO C hp.objs.size)).get? (hp.objs.size + 1) = some (excO C hp.objs.size) := by heap_get
  have hnx : K.lookup (hp.objs.size + 1) = none := by
    cases e : K.lookup (hp.objs.size + 1) with
    | none => rfl
    | some o =>
      have z : hp.get? (hp.objs.size + 1) = some o := X _ _ e
      exact absurd (Nat.lt_of_succ_lt (Heap.lt_size z)) (Nat.lt_irrefl _)
  refine call_own F.excBase_ValueError (fun X => refsVE_contains X bm hbm) (X _ _ hC) (looks_findIn X T.iC) (fun self => bind_fn X self T.tC) (one_size v) ?_
  refine part_init (s := ⟨(hp.push (kdv_tup [v])).push (excO C hp.objs.size), g, dr, tk, os⟩) T (X.keeps k) (hlim.keeps k) hget hnx ?_ fun h' tk' dx ⟨k', hx, dn, dne, hns⟩ => ?_
  · show A.depth + 1 < recursionLimit
    exact hroom
  · have old : ∀ b o, hp.get? b = some o → h'.get? b = some o := fun b o e => k' b o (Nat.ne_of_lt (Nat.lt_succ_of_lt (Heap.lt_size e))) (k b o e)
    have z : hp.objs.size + 1 + 1 ≤ dx := by
      first
        | (simpa only [Heap.size_push] using dn)
        | exact dn
        | (have q := dn; rw [Heap.size_push, Heap.size_push] at q; exact q)
    exact ⟨rfl, hq h' tk' (hp.objs.size + 1) dx ⟨old, Nat.le_succ _, ⟨_, _, hx, rfl, rfl, rfl, rfl⟩, Nat.le_trans (Nat.le_trans (Nat.le_succ _) (Nat.le_succ _)) z, dne, hns⟩⟩
end
end PartX
end PySem
namespace L2
open PySem PySem.Spec PyProof.Rows
theorem relO_part {v : V} {v' : Value} (r : RelV v v') (f : Str) : RelO (List.lookup f [(("part" : Str), v)]) (if f = "part" then some v' else none) := by
  by_cases hw : f = "part"
  · subst hw
    rw [if_pos rfl]
    have q : List.lookup ("part" : Str) [(("part" : Str), v)] = some v := by simp [List.lookup]
    rw [q]
    exact r
  · rw [if_neg hw]
    have qw : (f == ("part" : Str)) = false := by simpa using hw
    have q2 : List.lookup f [(("part" : Str), v)] = none := by simp [List.lookup, qw]
    rw [q2]
    trivial
section
variable {X : Cx} {cn qn : Str} {C fI : Addr}
def tMkPart (C : Addr) (ta : TA) : St → Hp → XK → Prop := fun σ H Q => ta σ H fun vs H1 => ∃ v, vs = [v] ∧ ∀ d, H1 d = none → Q (.ref C) (some d) (upd H1 d (.xd [(("part" : Str), v)]))
theorem pmk_part {a : Expr} {ta : TA} {p pos : Pos} {k : Nat} (T : PySem.PartX.PartTxt X.K X.mg cn qn C fI) (hr : Room k X.A) (ha : PA X [a] ta) (hg : Gl X cn := by rfl) (hdb : (cn == ("__debug__" : Str)) = false := by decide)
    (he : starEach (a :: []) X.env = (false, eval a X.env) :: starEach [] X.env := by rfl) (hpl : (backTo pos (starEach [] X.env)).any (·.1) = false := by rfl) :
    PMk X (.Call (.Name cn p) [a] [] pos) (tMkPart C ta) := by
  intro pins s σ H Q I h
  refine wpAny_Call_Name_kw (ld_glob I hg T.gC ?_ hdb)
  refine PySem.W.callWith_K (h₀ := X.base) I.ok.mod.kin T.kC (thn (ha.run pos pins s σ H _ I h) fun us s1 hh => ?_) he hpl
  obtain ⟨vs, H1, I1, r1, v, ev, q1⟩ := hh
  subst ev
  refine ⟨I1.kIn, ?_⟩
  cases r1 with
  | cons rv rn =>
    rename_i v' us'
    cases rn
    show wpAny _ _ (call (.ref C) [v']) _ _ _
    have hlim := I1.nolimit
    obtain ⟨hp, g, dr, tk, os⟩ := s1
    refine wpAny_call (PySem.PartX.part_made T I1.kIn hlim (by have := hr.dp; omega) fun h' tk' e d M => ?_)
    show MkP X pins σ Q (.ref e) ⟨h', g, dr, tk', os⟩
    obtain ⟨oe, fv, hoe, hc, hd, hdat, h1⟩ := M.obj
    have hns := M.ns
    obtain ⟨G', g1, g2⟩ := restrict h' fun b => decide (b ≠ e)
    have gk : ∀ b, b ≠ e → G'.get? b = h'.get? b := fun b hb => g1 b (decide_eq_true hb)
    have ge : G'.get? e = none := g2 e (by simp)
    have old : ∀ b o, hp.get? b = some o → G'.get? b = some o := fun b o q => (gk b (Nat.ne_of_lt (Nat.lt_of_lt_of_le (Heap.lt_size q) M.new))).trans (M.keep b o q)
    have ob : ObjOk X.prog X.w (upd H1 d (.xd [(("part" : Str), v)])) G' d (.xd [(("part" : Str), v)]) :=
      ⟨_, hns.at (fun o q => (gk d M.dne).trans q), fun f => relO_part rv f⟩
    have J : Inv X pins σ (upd H1 d (.xd [(("part" : Str), v)])) ⟨G', g, dr, tk', os⟩ := I1.laid (t' := tk') old M.dbig ob
    refine ⟨e, oe, fv, ⟨G', g, dr, tk', os⟩, _, .ref C, some d, rfl, J, fun b o q => ?_, ge, hoe, ⟨hc, hd⟩, hdat, h1, ?_, rfl, I1.bare, raises_own T.exC T.tyC, q1 d (I1.hok.fresh M.dbig)⟩
    · by_cases hb : b = e
      · have q' : G'.get? b = some o := q
        rw [hb, ge] at q'; cases q'
      · exact (gk b hb).symm.trans q
    · rw [upd_ne (Ne.symm M.dne)]
      exact I1.hok.fresh M.new
def tRaisePart (C : Addr) (W : WX) (ta : TA) : TS := fun _ σ H => tMkPart C ta σ H fun cls d H' => W cls d σ H'
theorem ps_raisePart {a : Expr} {ta : TA} {W : WX} {p pos pos2 : Pos} {k : Nat} (hc : X.calm = true) (T : PySem.PartX.PartTxt X.K X.mg cn qn C fI) (hr : Room k X.A) (tk : Takes X W) (ha : PA X [a] ta) (hg : Gl X cn := by rfl) (hdb : (cn == ("__debug__" : Str)) = false := by decide)
    (he : starEach (a :: []) X.env = (false, eval a X.env) :: starEach [] X.env := by rfl) (hpl : (backTo pos (starEach [] X.env)).any (·.1) = false := by rfl) :
    PS X (.Raise (some (.Call (.Name cn p) [a] [] pos)) none pos2) (tRaisePart C W ta) := ps_raise hc tk (pmk_part T hr ha hg hdb he hpl)
def tByPart (C : Addr) (a : Addr) (cls : Value) (d : Option Addr) (te : TE) : TE := fun σ H Q => te σ H fun x H1 => x = .ref a ∧ cls = .ref C ∧ ∃ (dd : Addr) (v : V), d = some dd ∧ H1 dd = some (.xd [(("part" : Str), v)]) ∧ Q v H1
theorem pe_byPart {a : Addr} {oe : Obj} {cls : Value} {d : Option Addr} {pn : List (Addr × Obj)} {e : Expr} {te : TE} {pos : Pos} (T : PySem.PartX.PartTxt X.K X.mg cn qn C fI) (hz : Zc cls d oe) (hf : ∃ vs, oe.data = .fields vs) (he : PE (X.suite a ((a, oe) :: pn)) e te)
    (hb : attributeBase e "part" X.env (eval e X.env) = eval e X.env := by rfl) :
    PE (X.suite a ((a, oe) :: pn)) (.Attribute e "part" pos) (tByPart C a cls d te) := by
  refine ⟨fun pins s σ H Q I h => ?_⟩
  refine attr_of hb (thn (he.run pins s σ H _ I h) fun u s1 hh => ?_)
  obtain ⟨x, H1, I1, rx, ex, ec, dd, v, ed, ea, q⟩ := hh
  subst ex
  obtain rfl : u = Value.ref a := rx
  subst ec
  subst ed
  obtain ⟨ha, _⟩ := I1.pin (a, oe) (List.mem_append_left _ List.mem_cons_self)
  obtain ⟨vs, hd⟩ := hf
  have hx : ObjOk X.prog X.w H1 s1.heap dd (.xd [(("part" : Str), v)]) := I1.hok dd _ ea
  obtain ⟨mA, hns, hr⟩ := hx
  obtain ⟨od, ho, hl⟩ := lookIn_ns hns
  have l : List.lookup ("part" : Str) [(("part" : Str), v)] = some v := by simp [List.lookup]
  obtain ⟨u, hu, ru⟩ := RelO.some_of (v := v) (o := mA "part") (by rw [← l]; exact hr "part")
  have J : PySem.W.InstAt s1.heap a oe C (some od) := ⟨ha, hz.1, by unfold PySem.W.notCls; rw [hd] <;> rfl, by rw [hz.2]; exact ho⟩
  exact HandSPX.exc_get I1.kIn J T.ga T.gg T.exC (PySem.W.findObj_own T.hdC T.noN rfl (by rw [hl, hu])) (handed_of ru) ⟨v, H1, I1.tok _, ru, q⟩
end
end L2
namespace L3
open PySem L2
section
variable {X : Cx} {C C' : Cn} {E : WX} {e a b : Expr} {pos p p2 : Pos} {T T1 T2 T3 : List Nat} {fs : MA} {es : List Expr} {f f1 f2 : ME} {st : Stmt}
theorem s_raisePart {cn qn : Str} {fI : Addr} {k c : Nat} (hc : X.calm = true) (P : PySem.PartX.PartTxt X.K X.mg cn qn (C.cl c) fI) (hx : xfld c = "part") (hr : Room k X.A) (tk : Takes X E) (ha : PE X a (rdE C E T f)) (hg : Gl X cn := by rfl) (hdb : (cn == ("__debug__" : Str)) = false := by decide)
    (he : starEach (a :: []) X.env = (false, eval a X.env) :: starEach [] X.env := by rfl) (hpl : (backTo pos (starEach [] X.env)).any (·.1) = false := by rfl) :
    PS X (.Raise (some (.Call (.Name cn p) [a] [] pos)) none p2) (rdS C E T (msRaise1 c f)) :=
  s_raise1 (PS.wk (ps_raisePart hc P hr tk (a_one ha he) hg hdb he hpl) fun D σ H h => by
    unfold tRaisePart tMkPart rdA1
    obtain ⟨m, e1, e2, S, w⟩ := h
    refine ⟨m, e1, e2, S, Want.imp w fun r env w v m' e3 e4 S' s ok => ?_⟩
    refine ⟨v, rfl, fun d hd => ?_⟩
    have := w v m' e3 e4 S' s ok d hd
    rw [hx] at this
    exact this)
theorem e_part {x cn qn : Str} {fI : Addr} {i c : Nat} {d : D} {ea : Addr} {oe : Obj} {dd : Option Addr} {pn : List (Addr × Obj)} (P : PySem.PartX.PartTxt X.K X.mg cn qn (C.cl c) fI) (hx : xfld c = "part") (hk : X.K = C.K) (I : ExcIn C C' i ea c [d] dd) (hz : Zc (.ref (C.cl c)) dd oe) (hf : ∃ vs, oe.data = .fields vs)
    (hv : PE (X.suite ea ((ea, oe) :: pn)) (.Name x p) (tVar i)) (hb : attributeBase (.Name x p) "part" X.env (eval (.Name x p) X.env) = eval (.Name x p) X.env := by rfl) :
    PE (X.suite ea ((ea, oe) :: pn)) (.Attribute (.Name x p) "part" pos) (rdE C' E [] (mC d)) :=
  PE.wk (pe_byPart P hz hf hv hb) fun σ H Q h => by
    obtain ⟨m, e1, e2, S, w⟩ := h
    subst e1 e2
    have hi : i ∈ C'.IO := by rw [I.io]; exact List.mem_append_right _ (by simp)
    obtain ⟨aa, v, q1, q2, q3, q4⟩ := I.d d rfl
    rw [hx] at q2
    refine ⟨.ref ea, (S.pin i hi).trans I.v, rfl, rfl, aa, v, q1, S.frame aa _ q2 q3, ?_⟩
    exact w v m rfl rfl S (Step.refl _ _) (RpD.mono S.exF _ _ q4)
structure ExT (K : PySem.W.Frag) (A : Addr) : Prop where
  cl : (PySem.W.clsIn K A).isSome = true
  ga : PySem.W.findIn K (.ref A) "__getattribute__" = some (some (.builtin "BaseException.__getattribute__"))
  gg : PySem.W.findIn K (.ref A) "__getattr__" = some none
  sub : PySem.W.subIn K (.ref A) (.type "BaseException") = some true
  at_ : PySem.W.findIn K (.ref A) "__class__" = some (some (.builtin "object.__class__"))
  gt : PySem.W.specialIn K (.builtin "object.__class__") "__get__" = some (some (.builtin "getset_descriptor.__get__"))
  tk : PySem.W.takesIn K (.builtin "object.__class__") = some true
  mr : PySem.W.mroIn K A (.type "object") = some true
def rIsiE (A : Addr) (ea : Addr) (dd : Option Addr) (u : Value) (b : Bool) : List V → Hp → VK → Prop := fun xs H Q => ∃ (c : V), xs = [.ref ea, c] ∧ ClsV c u ∧ (∀ d, dd = some d → ∃ fl, H d = some (.xd fl)) ∧ Q (.bl b) H
theorem call_isiE {A ea : Addr} {oe : Obj} {dd : Option Addr} {pn : List (Addr × Obj)} {u : Value} {b : Bool} (T : ExT X.K A) (hz : Zc (.ref A) dd oe) (hf : ∃ vs, oe.data = .fields vs) (hk : PySem.W.kitOne X.K (.ref A) u = some b) : CallR (X.suite ea ((ea, oe) :: pn)) (.builtin "isinstance") (rIsiE A ea dd u b) := by
  intro pins s σ H xs us Q I r h
  obtain ⟨c, rfl, k, hd, q⟩ := h
  obtain ⟨u1, u2, rfl, r1, r2⟩ := vals2 r
  cases (show u1 = Value.ref ea from r1)
  have e2 := k.eq r2
  subst e2
  obtain ⟨ha, _⟩ := I.pin (ea, oe) (List.mem_append_left _ List.mem_cons_self)
  obtain ⟨vs, hdat⟩ := hf
  have nc : PySem.W.notCls oe = true := by unfold PySem.W.notCls; rw [hdat] <;> rfl
  cases dd with
  | none =>
    have J : PySem.W.InstAt s.heap ea oe A none := ⟨ha, hz.1, nc, by rw [hz.2]; trivial⟩
    exact PySem.W.kia_one (PySem.W.kitx_exc T.cl T.ga T.gg T.sub T.at_ T.gt T.tk T.mr) I.kIn J hk (fun z => nomatch z) fun tk => ⟨.bl b, H, I.tok tk, rfl, q⟩
  | some d =>
    obtain ⟨fl, hfl⟩ := hd d rfl
    have hx : ObjOk X.prog X.w H s.heap d (.xd fl) := I.hok d _ hfl
    obtain ⟨mA, hns, hr⟩ := hx
    obtain ⟨od, ho, hl⟩ := lookIn_ns hns
    have J : PySem.W.InstAt s.heap ea oe A (some od) := ⟨ha, hz.1, nc, by rw [hz.2]; exact ho⟩
    exact PySem.W.kia_one (PySem.W.kitx_exc T.cl T.ga T.gg T.sub T.at_ T.gt T.tk T.mr) I.kIn J hk (fun z => nomatch z) fun tk => ⟨.bl b, H, I.tok tk, rfl, q⟩
theorem e_xisi1 {x : Str} {i c : Nat} {d : D} {ea : Addr} {oe : Obj} {dd : Option Addr} {pn : List (Addr × Obj)} {v : V} {u : Value} {k : Bool} {ec : Expr} (P : ExT X.K (C.cl c)) (I : ExcIn C C' i ea c [d] dd) (hz : Zc (.ref (C.cl c)) dd oe) (hf : ∃ vs, oe.data = .fields vs) (hq : PySem.W.kitOne X.K (.ref (C.cl c)) u = some k) (hcv : ClsV v u)
    (hv : PE (X.suite ea ((ea, oe) :: pn)) (.Name x p) (tVar i)) (hc : PE (X.suite ea ((ea, oe) :: pn)) ec (tC v)) (hg : Gl (X.suite ea ((ea, oe) :: pn)) "isinstance") (hm : X.mg "isinstance" = none)
    (he : starEach (.Name x p :: [ec]) X.env = (false, eval (.Name x p) X.env) :: starEach [ec] X.env := by rfl) (hpl : (backTo pos (starEach [ec] X.env)).any (·.1) = false := by rfl) (hst : starEach (ec :: []) X.env = (false, eval ec X.env) :: starEach [] X.env := by rfl) :
    PE (X.suite ea ((ea, oe) :: pn)) (.Call (.Name "isinstance" p2) [.Name x p, ec] [] pos) (rdE C' E [] (mC (.bl k))) :=
  PE.wk (pe_callB (call_isiE P hz hf hq) hg hm rfl (pa_cons hv (pa_cons hc pa_nil hst) he) (by decide) (by decide) he hpl) fun σ H Q h => by
    obtain ⟨m, e1, e2, S, w⟩ := h
    subst e1 e2
    have hi : i ∈ C'.IO := by rw [I.io]; exact List.mem_append_right _ (by simp)
    obtain ⟨aa, v', q1, q2, q3, q4⟩ := I.d d rfl
    refine ⟨.ref ea, (S.pin i hi).trans I.v, v, rfl, hcv, fun d' hd' => ?_, ?_⟩
    · rw [q1] at hd'
      cases hd'
      exact ⟨_, S.frame aa _ q2 q3⟩
    · exact w (.bl k) m rfl rfl S (Step.refl _ _) rfl
def knT : List String := ["NoneType", "bool", "int", "str", "tuple", "list", "dict"]
structure OwnT (K : PySem.W.Frag) (cl : Nat → Addr) (own : List Nat) : Prop where
  ty : ∀ c ∈ own, Cls K (cl c) ∧ PySem.W.findIn K (.ref (cl c)) "__class__" = some (some (.builtin "object.__class__")) ∧ PySem.W.mroIn K (cl c) (.type "object") = some true
  gt : PySem.W.specialIn K (.builtin "object.__class__") "__get__" = some (some (.builtin "getset_descriptor.__get__"))
  tk : PySem.W.takesIn K (.builtin "object.__class__") = some true
  b : ∀ c ∈ own, ∀ n ∈ knT, PySem.W.kitOne K (.ref (cl c)) (.type n) = some false
  o : ∀ c ∈ own, ∀ n ∈ knT, PySem.W.kitOne K (.type n) (.ref (cl c)) = some false
  oo : ∀ c ∈ own, ∀ c' ∈ own, PySem.W.kitOne K (.ref (cl c)) (.ref (cl c')) = some (decide (c = c'))
def isiD (own : List Nat) (d : D) : D → Option Bool
  | .ty n => match d with
    | .ins c _ _ => if c ∈ own ∧ n ∈ knT then some false else none
    | d => if d.plain = false then none else kitB d.tn n
  | .cls c' => match d with
    | .ins c _ _ => if c ∈ own ∧ c' ∈ own then some (decide (c = c')) else none
    | d => if d.plain = true ∧ c' ∈ own ∧ d.tn ∈ knT then some false else none
  | _ => none
def gIsiX (own : List Nat) : List Rt → Option Rt
  | [r, .val t] => if r.isSl = true then none else (isiD own r.d t).map fun b => .val (.bl b)
  | _ => none
theorem e_own {x : Str} {c : Nat} (hg : Gl X x) (hm : X.mg x = some (.ref (C.cl c))) (hd : (x == ("__debug__" : Str)) = false := by decide) : PE X (.Name x pos) (rdE C E [] (mC (.cls c))) :=
  e_const (pe_glob hg hm (v := .ref (C.cl c)) rfl hd) fun _ => rfl
theorem isiD_ok {own : List Nat} (O : OwnT C.K C.cl own) {H : Hp} {d t : D} {b : Bool} {x y : V} (h1 : RpD C.K C.cl H d x) (h2 : ∀ F, RpD C.K C.cl F t y ∨ True) (h3 : isiD own d t = some b) (hy : ∀ n, t = .ty n → y = .ty n) (hy2 : ∀ c, t = .cls c → y = .ref (C.cl c)) :
    ∃ tt u, ClsV y u ∧ TyX C.K H x tt ∧ PySem.W.kitOne C.K tt u = some b := by
  cases t with
  | ty n =>
    have := hy n rfl
    subst this
    cases d with
    | ins c ns ds =>
      have h3 : (if c ∈ own ∧ n ∈ knT then some false else none) = some b := h3
      by_cases hh : c ∈ own ∧ n ∈ knT
      · rw [if_pos hh] at h3
        cases h3
        obtain ⟨a, dx, xs, rfl, q, l, r⟩ := h1
        obtain ⟨t1, t2, t3⟩ := O.ty c hh.1
        exact ⟨.ref (C.cl c), .type n, .ty n, .base (.ins q t1 t2 O.gt O.tk t3), O.b c hh.1 n hh.2⟩
      · rw [if_neg hh] at h3; cases h3
    | ty z => cases h3
    | cls z => cases h3
    | adr z => cases h3
    | exn z y => cases h3
    | _ => exact ⟨_, .type n, .ty n, h1.tyx rfl, kit_ty h3⟩
  | cls c' =>
    have := hy2 c' rfl
    subst this
    cases d with
    | ins c ns ds =>
      have h3 : (if c ∈ own ∧ c' ∈ own then some (decide (c = c')) else none) = some b := h3
      by_cases hh : c ∈ own ∧ c' ∈ own
      · rw [if_pos hh] at h3
        cases h3
        obtain ⟨a, dx, xs, rfl, q, l, r⟩ := h1
        obtain ⟨t1, t2, t3⟩ := O.ty c hh.1
        exact ⟨.ref (C.cl c), .ref (C.cl c'), .own _, .base (.ins q t1 t2 O.gt O.tk t3), O.oo c hh.1 c' hh.2⟩
      · rw [if_neg hh] at h3; cases h3
    | ty z => simp [isiD, D.plain] at h3
    | cls z => simp [isiD, D.plain] at h3
    | adr z => simp [isiD, D.plain] at h3
    | exn z y => simp [isiD, D.plain] at h3
    | _ =>
      simp [isiD, D.plain] at h3
      obtain ⟨⟨q1, q2⟩, q3⟩ := h3
      subst q3
      exact ⟨_, .ref (C.cl c'), .own _, h1.tyx rfl, O.o c' q1 _ q2⟩
  | _ => cases h3
theorem loc_isiX {own : List Nat} (O : OwnT C.K C.cl own) : LocN C (rIsi C.K) (gIsiX own) := by
  intro m xs rs ry Q S h e k
  unfold gIsiX at e
  split at e
  · rename_i r t
    obtain ⟨x, y, av, av', rfl, h1, h2⟩ := h.two
    split at e
    · cases e
    · rename_i hs
      cases q : isiD own r.d t with
      | none => rw [q] at e; cases e
      | some b =>
        rw [q] at e; cases e
        have rd := h1.rd S (by cases z : r.isSl <;> simp_all)
        have rt : RpD C.K C.cl m.F t y := h2
        obtain ⟨tt, u, a1, a2, a3⟩ := isiD_ok (C := C) O rd (fun _ => .inr trivial) q (fun n hn => by subst hn; exact rt) (fun c hc => by subst hc; exact rt)
        exact ⟨x, y, tt, u, b, rfl, a1, a2, a3, k _ m (Gro.refl S) rfl⟩
  · cases e
end
end L3
namespace PySem.W
open PySem PySem.Calls PyProof.Rows Builtin
section
variable {prog : Program} {w : World} {A : Around} {E : Value → Shared → Prop} {s : Shared} {K : Frag} {x C L f : Addr} {h₀ : Heap} {m : Str → Option Value} {ox : Obj} {od : Option Obj} {b tb : Value}
theorem ifBoundB_K {M : Model} {id : String} {name : Str} {args : List Value} {Q : Option Value → Shared → Prop} (X : K.In s.heap) (I : InstAt s.heap x ox C od) (hs : findIn K (.ref C) name = some (some (.builtin id))) (hb : ∀ self, bindSpecial (.builtin id) self = pure (.builtin id, [self]))
    (h : wpAny M A (call (.builtin id) (.ref x :: args)) (fun v => Q (some v)) E s) : wpAny M A (callSpecialIfBound? (.ref x) name args) Q E s := by
  simp only [callSpecialIfBound?, bindSpecialIfBound?]
  refine wpAny_holding (wpAny_bind (wpAny_bind (wpAny_bind (I.type.here ((looks_findIn X hs).here ?_)))))
  simp only [hb]
  refine wpAny_bind (wpAny_askSetting (wpAny_ite ?_))
  have fin : wpAny M A (call (.builtin id) ([.ref x] ++ args) >>= fun v => pure (some v)) Q E s := wpAny_bind (wpAny_mono h (fun v s' h' => wpAny_pure h') fun _ _ h' => h')
  split
  · exact wpAny_bind (wpAny_pure (wpAny_pure fin))
  · exact wpAny_tryCatch (wpAny_bind (wpAny_pure (wpAny_pure fin)))
theorem objNe_K (hu : A.units < cLine) (X : K.In s.heap) (I : InstAt s.heap x ox C od) (hs : findIn K (.ref C) "__eq__" = some (some (.ref f))) (hf : isFn K (.ref f) = true) {Q : Fin → Shared → Prop}
    (hcall : wpAny (model prog w) A (call (.ref f) [.ref x, b]) (fun v s' => ∃ r, v = .bool r ∧ Q (.done (.ret (.bool (!r)))) s') E s) :
    wpAny (model prog w) A (Builtin.«object.__ne__» ⟨[.ref x, b], []⟩) Q E s := by
  unfold Builtin.«object.__ne__»
  repeat (first
    | with_reducible refine wpAny_cRoomFor hu ?_
    | (refine wpAny_bind (m := callSpecialIfBound? (.ref x) (Str.ofString "__eq__") [b])
        (ifBound_K X I hs hf (wpAny_mono hcall (fun v s' hr => by
          obtain ⟨r, rfl, hq⟩ := hr
          repeat (first | exact hq | exact wpAny_pure hq | exact wpAny_truthy_bool hq | (refine wpAny_bind (m := truthy (.bool _)) (wpAny_truthy_bool ?_)) | wp_step)) fun _ _ e => e)))
    | wp_step)
theorem objNe_bind : ∀ self, bindSpecial (.builtin "object.__ne__") self = pure (.builtin "object.__ne__", [self]) := F.cmp_object.ne.bind
theorem ne_K {Q : Value → Shared → Prop} (hu : A.units + 1 < cLine) (X : K.In s.heap) (I : InstAt s.heap x ox C od) (hb : Looks (model prog w) s.heap (typeOf b) tb) (hn : notFirst K C tb = true)
    (hne : findIn K (.ref C) "__ne__" = some (some (.builtin "object.__ne__"))) (hob : subIn K (.ref C) (.type "object") = some true)
    (hs : findIn K (.ref C) "__eq__" = some (some (.ref f))) (hf : isFn K (.ref f) = true)
    (h : wpAny (model prog w) A.in1 (call (.ref f) [.ref x, b]) (fun v s' => ∃ r, v = .bool r ∧ Q (.bool (!r)) s') E s) : wpAny (model prog w) A (richCompare .NotEq (.ref x) b) Q E s := by
  have ho : Looks (model prog w) s.heap (isInstance (.ref x) (.type "object")) true := I.type.andThen (looks_subIn X hob)
  have one : wpAny (model prog w) A (tryCompare (.ref x) "__ne__" b) (fun r s' => ∃ v, r = some v ∧ Q v s') E s := by
    unfold tryCompare
    refine wpAny_bind (ifBoundB_K X I hne objNe_bind (wpAny_call (codeAny_call_builtin F.cmp_object.ne.plain F.cmpEntry_ne
      (check_slot F.cmpKind_ne F.cmpSplit_ne ho (F.cmpArgs_ne _ _) (objNe_K (A := A.in1) hu X I hs hf (wpAny_mono h (fun v s' hv => ?_) fun _ _ e => e))))))
    obtain ⟨r, rfl, hq⟩ := hv
    first | exact ⟨r, rfl, wpAny_pure ⟨_, rfl, hq⟩⟩ | exact ⟨r, rfl, wpAny_pure (wpAny_pure ⟨_, rfl, hq⟩)⟩
  unfold richCompare
  simp only [oneThing_ref]
  refine wpAny_holding (wpAny_bind (wpAny_cRoomFor (Nat.lt_of_succ_lt hu) ?_))
  refine wpAny_bind (I.type.here (wpAny_bind (hb.here ?_)))
  split
  · rename_i q
    have e : subIn K tb (.ref C) = some false := by
      rcases Bool.or_eq_true_iff.mp hn with e | e
      · rw [beq_iff_eq.mp e] at q; simp at q
      · exact beq_iff_eq.mp e
    refine wpAny_bind ((looks_subIn X e).here ?_)
    simp only [Bool.false_eq_true, if_false]
    refine wpAny_bind (wpAny_mono one (fun r s' z => ?_) fun _ _ e => e)
    obtain ⟨v, rfl, hq⟩ := z
    exact wpAny_pure hq
  · refine wpAny_bind (wpAny_pure ?_)
    simp only [Bool.false_eq_true, if_false]
    refine wpAny_bind (wpAny_mono one (fun r s' z => ?_) fun _ _ e => e)
    obtain ⟨v, rfl, hq⟩ := z
    exact wpAny_pure hq
end
end PySem.W
namespace L3
open PySem L2
inductive TyL (K : PySem.W.Frag) (H : Hp) : V → Value → Prop where
  | ins {a C dx : Addr} {fs : List (Str × V)} (e : H a = some (.ins C dx fs)) : TyL K H (.ref a) (.ref C)
  | tup {a : Addr} {xs : List V} (e : SqT K H a xs) : TyL K H (.ref a) (.type "tuple")
theorem TyL.looks {X : Cx} {pins : List (Addr × Obj)} {σ : L2.St} {H : Hp} {s : Shared} {x : V} {u tt : Value} (I : Inv X pins σ H s) (rx : RelV x u) (t : TyL X.K H x tt) : PySem.W.Looks (model X.prog X.w) s.heap (typeOf u) tt := by
  cases t with
  | ins e =>
    cases (show u = Value.ref _ from rx)
    obtain ⟨mA, J, _⟩ := ins_get I.hok e
    obtain ⟨od, J, _⟩ := J.look
    exact J.type
  | tup e =>
    cases (show u = Value.ref _ from rx)
    obtain ⟨its, r, pl, hz⟩ := I.tuple e
    obtain ⟨o, ho, hc, _⟩ := pl
    exact fun A Q E s k q => wpAny_typeOf (T := "tuple") ⟨_, k _ _ ho, hc⟩ q
def rOwn (K : PySem.W.Frag) (C : Addr) (sp : Sp) (neg : Bool) : R2 := fun x y H Q => ∃ a dx fs tt, x = .ref a ∧ H a = some (.ins C dx fs) ∧ TyL K H y tt ∧ PySem.W.notFirst K C tt = true ∧ sp [x, y] H (fun v H' => ∃ r, v = .bl r ∧ Q (.bl (r != neg)) H') E0
section
variable {X : Cx} {C f : Addr} {fd : FuncData} {ps : List Str} {k : Nat} {sp : Sp}
theorem op_ownEq (F : FnOk X.prog X.w X.K X.mg X.base CX0 k f fd ps sp) (hr : Room k X.A) (hb : Binds X.K fd ps []) (hs : PySem.W.findIn X.K (.ref C) "__eq__" = some (some (.ref f))) (hf : PySem.W.isFn X.K (.ref f) = true) :
    OpR X (compareOp .Eq) (rOwn X.K C sp false) := by
  intro pins s σ H x y v u Q I rx ry h
  obtain ⟨a, dx, fs, tt, rfl, ha, ty, hn, h⟩ := h
  have L := ty.looks I ry
  cases (show v = Value.ref a from rx)
  obtain ⟨mA, J, _⟩ := ins_get I.hok ha
  obtain ⟨od, J, _⟩ := J.look
  obtain ⟨m, hF⟩ := I.fr
  refine PySem.W.cmp_K (op := .Eq) hr.units0 hF I.ok.mod.kin J L hn hs hf ?_
  refine wpAny_mono (run_fnS (E := fun _ => E0) F hr hb (fun _ _ _ _ _ _ z => z.elim) I (us := [Value.ref a, u]) (vs := [V.ref a, y]) (.cons rfl (.cons ry .nil)) h) (fun r s' z => ?_) fun _ _ x => x
  obtain ⟨z, H', I', rz, r, rfl, q⟩ := z
  cases (show _ = Value.bool r from rz)
  exact ⟨.bl r, H', I', rfl, by rw [show (r != false) = r by cases r <;> rfl] at q; exact q⟩
theorem op_ownNe (F : FnOk X.prog X.w X.K X.mg X.base CX0 k f fd ps sp) (hr : Room (k + 1) X.A) (hb : Binds X.K fd ps []) (hs : PySem.W.findIn X.K (.ref C) "__eq__" = some (some (.ref f))) (hf : PySem.W.isFn X.K (.ref f) = true)
    (hne : PySem.W.findIn X.K (.ref C) "__ne__" = some (some (.builtin "object.__ne__"))) (hob : PySem.W.subIn X.K (.ref C) (.type "object") = some true) :
    OpR X (compareOp .NotEq) (rOwn X.K C sp true) := by
  intro pins s σ H x y v u Q I rx ry h
  obtain ⟨a, dx, fs, tt, rfl, ha, ty, hn, h⟩ := h
  have L := ty.looks I ry
  cases (show v = Value.ref a from rx)
  obtain ⟨mA, J, _⟩ := ins_get I.hok ha
  obtain ⟨od, J, _⟩ := J.look
  have hu : X.A.units + 1 < cLine := by have := hr.un; omega
  refine PySem.W.ne_K hu I.kIn J L hn hne hob hs hf ?_
  have e0 : Env0 X.prog X.w X.K X.mg X.base X.A.in1 X.stack s H := by
    have e := I.env0
    exact ⟨e.frames, e.mod, e.bs, e.bsz, e.funs, e.frf, e.hok, e.bare⟩
  have r2 : Vals [V.ref a, y] [Value.ref a, u] := .cons rfl (.cons ry .nil)
  have hl := F.len _ _ _ _ h
  have bd := hb s [Value.ref a, u] I.kIn (by rw [List.append_nil]; exact hl)
  rw [List.append_nil] at bd
  refine wpAny_call (codeAny_mono (F.run X.A.in1 X.stack s H ⟨[Value.ref a, u], []⟩ _ _ _ E0 hr.in1 e0 bd r2 h) fun r s' hq => ?_)
  cases r with
  | error e => exact (show False from hq).elim
  | ok fl =>
    cases fl with
    | ret w =>
      obtain ⟨z, H', I', rz, r, rfl, q⟩ := I.after hq
      cases (show _ = Value.bool r from rz)
      exact ⟨r, rfl, .bl (!r), H', I', rfl, by rw [show (r != true) = !r by cases r <;> rfl] at q; exact q⟩
    | next => exact False.elim hq
    | brk => exact False.elim hq
    | cont => exact False.elim hq
end
def tyD (cl : Nat → Addr) : D → Option Value
  | .ins c _ _ => some (.ref (cl c))
  | .tup _ => some (.type "tuple")
  | _ => none
def isIns (c : Nat) : D → Bool
  | .ins c' _ _ => c' == c
  | _ => false
def seenD (own : List Nat) : D → Bool
  | .ins c _ _ => own.contains c
  | .tup _ => true
  | _ => false
def gOwn (own : List Nat) (c : Nat) (fn : List O → Rr) (neg : Bool) (rx ry : Rt) : Option Rt :=
  if rx.isSl = false ∧ ry.isSl = false ∧ isIns c rx.d = true ∧ seenD own ry.d = true then (match fn [.s rx.d, .s ry.d] with
    | .ok (.s (.bl b)) _ => some (.val (.bl (b != neg)))
    | _ => none) else none
theorem loc_own {C : Cn} {own : List Nat} {c : Nat} {fn : List O → Rr} {neg : Bool} (hn : ∀ c' ∈ own, PySem.W.notFirst C.K (C.cl c) (.ref (C.cl c')) = true) (ht : PySem.W.notFirst C.K (C.cl c) (.type "tuple") = true) :
    Loc2 C (rOwn C.K (C.cl c) (spG C.K C.cl 2 fn) neg) (gOwn own c fn neg) := by
  intro m x y rx ry rz av av' Q S h1 h2 h k
  unfold gOwn at h
  split at h
  · rename_i hh
    obtain ⟨s1, s2, hi, hs⟩ := hh
    have r1 := h1.rd S s1
    have r2 := h2.rd S s2
    obtain ⟨a, dx, fs, rfl, q⟩ : ∃ a dx fs, x = .ref a ∧ m.H a = some (.ins (C.cl c) dx fs) := by
      unfold isIns at hi
      split at hi
      · rename_i c' ns ds hd
        rw [hd] at r1
        have : c' = c := by simpa using hi
        subst this
        obtain ⟨a, dx, xs, rfl, q, l, rr⟩ := r1
        exact ⟨a, dx, _, rfl, q⟩
      · cases hi
    obtain ⟨tt, ty, nf⟩ : ∃ tt, TyL C.K m.H y tt ∧ PySem.W.notFirst C.K (C.cl c) tt = true := by
      unfold seenD at hs
      split at hs
      · rename_i c' ns ds hd
        rw [hd] at r2
        obtain ⟨b, dy, ys, rfl, q, l, rr⟩ := r2
        exact ⟨_, .ins q, hn c' (by simpa using hs)⟩
      · rename_i ds hd
        rw [hd] at r2
        obtain ⟨b, ys, rfl, q, rr⟩ := r2
        exact ⟨_, .tup q.1, ht⟩
      · cases hs
    refine ⟨a, dx, fs, tt, rfl, q, ty, nf, m.H, [.s rx.d, .s ry.d], [], rfl, Ex.refl _, ⟨_, _, [], [], rfl, rfl, ⟨rfl, r1⟩, _, _, [], [], rfl, rfl, ⟨rfl, r2⟩, rfl, rfl⟩, List.nodup_nil, fun a ha => by simp at ha, ?_⟩
    have gro : ∀ {F' H' : Hp}, GPost m.H m.H [] F' H' → Gro m { m with H := H' } := fun {F' H'} G =>
      ⟨rfl, rfl, rfl, Ex.refl _, fun b o h => G.keep b o h (by simp), fun b o h => G.keep b o (S.ex b o h) (by simp), fun a h n => absurd n h⟩
    split at h
    · rename_i b outs hf
      cases h
      rw [hf]
      intro v F' H' fr fp' G rr Go
      have hv : v = .bl b := rr.2
      exact ⟨b, hv, k _ { m with H := H' } (gro G) rfl⟩
    · cases h
  · cases h
end L3
namespace L3
open PySem L2 PySem.Spec PyProof.Rows
def rSortedT (K : PySem.W.Frag) : List V → Hp → VK → Prop := fun vs H Q => ∃ (a : Addr) (ns : List Int), vs = [V.ref a] ∧ SqT K H a (ns.map V.int) ∧
  ∀ (ns' : List Int) (p : Addr), ns'.Perm ns → ns'.Pairwise (· ≤ ·) → H p = none → Q (.ref p) (upd H p (.lst (ns'.map V.int)))
section
variable {prog : Program} {w : World} {A : Around} {E : Value → Shared → Prop} {s : Shared}
theorem sorted_tup {l : Addr} {vs : List Value} {ltv : Value → Value → Bool} {Q : Value → Shared → Prop} (O : SrtO.Swo ltv) (hl : IsTup s.heap l vs.toArray) (hz : vs.length ≤ sizeLine)
    (hS : 2 ≤ vs.length → ∀ (h₁ : Heap) (a : Addr), h₁.get? a = some (seqObj "list" vs.toArray 0) → (∀ b o, s.heap.get? b = some o → b ≠ a ∧ h₁.get? b = some o) → SrtO.SortableO prog w A.in1.in1 { s with heap := h₁ } a vs ltv)
    (h : ∀ (out : List Value) (h' : Heap) (p : Addr) (e : Nat), SrtO.Srtd ltv out → SrtO.Stb ltv out vs → (∀ b o, s.heap.get? b = some o → h'.get? b = some o ∧ b < p) → h'.get? p = some (seqObj "list" out.toArray e) → p < h'.objs.size → s.heap.get? p = none → Q (.ref p) { s with heap := h' }) :
    wpAny (model prog w) A (call (.builtin "sorted") [.ref l]) Q E s := by
  obtain ⟨o, ho, hc, n, hd⟩ := hl
  refine Calls.call_function_entry kind_sorted plain_sorted entry_sorted (args_sorted1 _) ?_
  unfold Builtin.«sorted»
  refine wpAny_bind (m := checkCount "sorted" 1 1 _) (wpAny_pure ?_)
  refine wpAny_bind (wpAny_collect_seq l (.inr rfl) ho hc hd (fun h1 k1 => ?_) (by rw [List.size_toArray]; exact hz))
  refine wpAny_bind (wpAny_newList ?_ hz)
  show wpAny _ _ _ _ _ { s with heap := h1.push (seqObj "list" vs.toArray 0) }
  have hoL : (h1.push (seqObj "list" vs.toArray 0)).get? h1.objs.size = some (seqObj "list" vs.toArray 0) := Heap.get?_push_size _ rfl
  have keep : ∀ b o, s.heap.get? b = some o → b ≠ h1.objs.size ∧ (h1.push (seqObj "list" vs.toArray 0)).get? b = some o := fun b o q => by
    have q1 := k1 b o q
    exact ⟨Nat.ne_of_lt (Heap.lt_size q1), Heap.get?_push_of_some _ q1⟩
  refine wpAny_bind (wpAny_holding (wpAny_call_entry slot_list_sort ⟨_, hoL, rfl⟩ entry_list_sort (SrtO.list_sort_ord O hoL hz (fun h2 => hS h2 _ _ hoL keep) fun out hs hb => ⟨_, rfl, ?_⟩) (args_list_sort _)))
  obtain ⟨ep, he⟩ := PyProof.Rows.sortedHeap_at (vs := vs) (out := out.toArray) hoL
  refine wpAny_pure ⟨_, rfl, h out _ _ ep hs hb (fun b o q => ?_) he ?_ ?_⟩
  · have q1 := k1 b o q
    refine ⟨?_, Heap.lt_size q1⟩
    rw [PyProof.Rows.sortedHeap_old (Nat.ne_of_lt (Heap.lt_size q1)) (Heap.lt_size (keep b o q).2)]
    exact (keep b o q).2
  · exact Heap.lt_size he
  · cases q : s.heap.get? h1.objs.size with
    | none => rfl
    | some o => exact absurd (Heap.lt_size (k1 _ _ q)) (Nat.lt_irrefl _)
end

section
variable {prog : Program} {w : World} {A : Around} {E : Value → Shared → Prop} {s : Shared} {l : Addr}
theorem min_intTup {xs : Array (Int × Tok)} {Q : Value → Shared → Prop} (hh : A.handled = none) (hl : s.heap.IsTuple l (PySem.intItems xs)) (hne : 0 < xs.size)
    (h : ∀ v h' tk, (PySem.intItems xs)[argBest (fun i j => decide (PySem.numAt xs i < PySem.numAt xs j)) (xs.size - 1)]? = some v → (∀ b o, s.heap.get? b = some o → h'.get? b = some o) → Q v { s with heap := h', toks := tk }) :
    wpAny (model prog w) A (call (.builtin "min") [.ref l]) Q E s := by
  have hlt : l < s.heap.objs.size := by obtain ⟨_, e, _⟩ := hl; exact Heap.lt_size e
  refine PySem.call_min_walk (wpAny_pyIter_tuple hl ?_)
  refine ⟨_, _, _, _, _, _, _, rfl, Walks.tuple (A := A.in1) hh _ l (Nat.ne_of_lt hlt) (PySem.intItems xs), ⟨⟨_, Heap.get?_push_size _ rfl, rfl, rfl⟩, hl.push _⟩, fun b hb => ?_, by simpa [PySem.intItems] using hne, CmpOf.ints_lt (PySem.numAt xs) (fun _ _ => PySem.intItems_at), fun v h' tk hP hk => ?_⟩
  · show b < (s.heap.push _).objs.size
    rw [Heap.size_push]
    rcases List.mem_cons.mp hb with rfl | hb
    · exact Nat.lt_succ_self _
    · rcases List.mem_cons.mp hb with rfl | hb
      · exact Nat.lt_succ_of_lt hlt
      · cases hb
  · refine h v h' tk (by simpa [PySem.intItems] using hP) fun b o e => ?_
    refine hk b o (fun hm => ?_) (Heap.get?_push_of_some _ e)
    rcases List.mem_cons.mp hm with e1 | hm
    · exact absurd (e1 ▸ Heap.lt_size e) (Nat.lt_irrefl _)
    · cases hm
theorem min_rawT {its : List Value} {ns : List Int} {Q : Value → Shared → Prop} (hh : A.handled = none) (hl : s.heap.IsTuple l its.toArray) (hi : IntsAre its ns) (hne : 0 < ns.length)
    (h : ∀ h' tk M t', (∀ b o, s.heap.get? b = some o → h'.get? b = some o) → M ∈ ns → (∀ a, a ∈ ns → M ≤ a) → Q (.int M t') { s with heap := h', toks := tk }) : wpAny (model prog w) A (call (.builtin "min") [.ref l]) Q E s := by
  obtain ⟨xs, e⟩ := hi.allInts.items
  have hn : numsOf (intItems xs).toList = ns := by rw [← e]; exact hi.numsOf
  rw [nums_intItems] at hn
  subst hn
  rw [e] at hl
  have hsz : 0 < xs.size := by simpa using hne
  refine min_intTup hh hl hsz fun v h' tk hv hk => ?_
  obtain ⟨t, rfl⟩ := intItems_at hv
  obtain ⟨h1, h2⟩ := argBest_lt (numAt xs) (xs.size - 1)
  refine h h' tk _ t hk ?_ fun a ha => ?_
  · rw [numAt_eq]; exact PySem.getD_mem (by rw [List.length_map, Array.length_toList]; omega)
  · obtain ⟨j, hj, rfl⟩ := mem_getD ha
    rw [List.length_map, Array.length_toList] at hj
    rw [← numAt_eq]; exact h2 j (by omega)
end
def rMinT (K : PySem.W.Frag) : List V → Hp → VK → Prop := fun vs H Q => ∃ (a : Addr) (ns : List Int), vs = [V.ref a] ∧ SqT K H a (ns.map V.int) ∧ 0 < ns.length ∧ ∀ m, m ∈ ns → (∀ y, y ∈ ns → m ≤ y) → Q (.int m) H
section
variable {X : Cx}
theorem cr_sortedT : CallR X (.builtin "sorted") (rSortedT X.K) := by
  intro pins s σ H vs us Q I r h
  obtain ⟨a, ns, rfl, hs, q⟩ := h
  obtain ⟨its, rv, hl, hz⟩ := I.tuple hs
  rw [Vals.ref1 r]
  have hi := rv.ints
  refine sorted_tup SrtO.swo_int hl (by rw [← rv.length]; exact hz) (fun h2 h₁ a' _ _ => SrtO.ints_sortable hi h2) fun out h' p ep h1 h2 kp he' lt hp => ?_
  obtain ⟨k1, k2, k3⟩ := SrtO.ints_out hi h1 h2
  have hlen : ((out.map SrtO.iv).map V.int).length ≤ sizeLine := by
    rw [List.length_map, k2.length_eq]
    rw [List.length_map] at hz
    exact hz
  have hpn : H p = none := by
    cases z : H p with
    | none => rfl
    | some o =>
      obtain ⟨o', ho'⟩ := objOk_get (I.hok p o z)
      rw [hp] at ho'; cases ho'
  exact ⟨.ref _, upd H p (.lst ((out.map SrtO.iv).map V.int)), I.laidN (t' := s.toks) (fun b o e => (kp b o e).1) hp hpn ⟨hlen, out, ep, vals_of_ints k1, he'⟩, rfl, q _ _ k2 k3 hpn⟩
theorem cr_minT (hc : X.calm = true) : CallR X (.builtin "min") (rMinT X.K) := by
  intro pins s σ H vs us Q I r h
  obtain ⟨a, ns, rfl, hs, hne, q⟩ := h
  obtain ⟨its, rv, hl, _⟩ := I.tuple hs
  rw [Vals.ref1 r]
  exact min_rawT (I.ok.hd hc) hl rv.ints hne fun h' tk m t' hk h1 h2 => ⟨.int _, H, I.kept hk, ⟨_, rfl⟩, q m h1 h2⟩
end
end L3
namespace L3
open PySem L2 PySem.Spec PyProof.Rows
def ins1 (x : Int) : List Int → List Int
  | [] => [x]
  | y :: ys => if x ≤ y then x :: y :: ys else y :: ins1 x ys
def sortI : List Int → List Int
  | [] => []
  | x :: xs => ins1 x (sortI xs)
theorem ins1_perm (x : Int) : ∀ ys : List Int, (ins1 x ys).Perm (x :: ys)
  | [] => List.Perm.refl _
  | y :: ys => by
    unfold ins1
    split
    · exact List.Perm.refl _
    · exact ((ins1_perm x ys).cons y).trans (List.Perm.swap x y ys)
theorem ins1_pw (x : Int) : ∀ ys : List Int, ys.Pairwise (· ≤ ·) → (ins1 x ys).Pairwise (· ≤ ·)
  | [], _ => by simp [ins1]
  | y :: ys, h => by
    have h0 := h
    rw [List.pairwise_cons] at h
    unfold ins1
    split
    · rename_i hx
      rw [List.pairwise_cons]
      refine ⟨fun a ha => ?_, h0⟩
      rcases List.mem_cons.mp ha with e | e
      · rw [e]; exact hx
      · have := h.1 a e; omega
    · rw [List.pairwise_cons]
      refine ⟨fun a ha => ?_, ins1_pw x ys h.2⟩
      rcases List.mem_cons.mp ((ins1_perm x ys).mem_iff.mp ha) with e | e
      · omega
      · exact h.1 a e
theorem sortI_perm : ∀ ns : List Int, (sortI ns).Perm ns
  | [] => List.Perm.refl _
  | x :: xs => (ins1_perm x (sortI xs)).trans ((sortI_perm xs).cons x)
theorem sortI_pw : ∀ ns : List Int, (sortI ns).Pairwise (· ≤ ·)
  | [] => List.Pairwise.nil
  | x :: xs => ins1_pw x _ (sortI_pw xs)
theorem sortI_is {ns ms : List Int} (h : ms.Perm ns) (p : ms.Pairwise (· ≤ ·)) : ms = sortI ns :=
  List.Perm.eq_of_pairwise (fun a b _ _ h1 h2 => by omega) p (sortI_pw ns) (h.trans (sortI_perm ns).symm)
def gSortI : List Rt → Option Rt
  | [r] => match r.items with
    | some (_, ds) => (intsOf ds).map fun ns => .own (.lst ((sortI ns).map fun i => O.s (.int i)))
    | _ => none
  | _ => none
theorem rpDs_ints {K : PySem.W.Frag} {cl : Nat → Addr} {H : Hp} : ∀ ns : List Int, RpDs K cl H (ns.map D.int) (ns.map V.int)
  | [] => rfl
  | _ :: ns => ⟨_, _, rfl, rfl, rpDs_ints ns⟩
def rSorted2 (K : PySem.W.Frag) : List V → Hp → VK → Prop := fun xs H Q => rSortedI K xs H Q ∨ rSortedT K xs H Q
section
variable {C : Cn}
theorem loc_sortI : LocN C (rSorted2 C.K) gSortI := by
  intro m xs rs ry Q S h e k
  unfold gSortI at e
  split at e
  · rename_i r
    obtain ⟨x, av, rfl, hx⟩ := h.one
    split at e
    · rename_i b ds q
      obtain ⟨a, xs, rfl, h1, h2⟩ := hx.items S q
      cases z : intsOf ds with
      | none => rw [z] at e; cases e
      | some ns =>
        rw [z] at e; cases e
        have hxs := h1.toInts z
        subst hxs
        have fin : ∀ (ns' : List Int) (p : Addr), ns'.Perm ns → ns'.Pairwise (· ≤ ·) → m.H p = none → Q (.ref p) (upd m.H p (.lst (ns'.map V.int))) := fun ns' p q1 q2 hp => by
          rw [sortI_is q1 q2]
          have := own_lst (C := C) (av := fun a => m.H a ≠ none) (xs := (sortI ns).map V.int) (ds := (sortI ns).map D.int) S hp (rpDs_ints _) (fun z => z hp)
          rw [List.map_map] at this
          exact k _ _ (gro_own S hp) this
        cases b with
        | true => rw [if_pos rfl] at h2; exact .inl ⟨a, ns, rfl, h2, fin⟩
        | false => rw [if_neg (by decide)] at h2; exact .inr ⟨a, ns, rfl, h2, fin⟩
    · cases e
  · cases e
def gMin1 : List Rt → Option Rt
  | [r] => match r.items with
    | some (_, ds) => (intsOf ds).bind fun ns => (minI ns).map fun k => .val (.int k)
    | _ => none
  | _ => none
def rMin1 (K : PySem.W.Frag) : List V → Hp → VK → Prop := fun xs H Q => rMin K xs H Q ∨ rMinT K xs H Q
theorem loc_min1 : LocN C (rMin1 C.K) gMin1 := by
  intro m xs rs ry Q S h e k
  unfold gMin1 at e
  split at e
  · rename_i r
    obtain ⟨x, av, rfl, hx⟩ := h.one
    split at e
    · rename_i b ds q
      obtain ⟨a, xs, rfl, h1, h2⟩ := hx.items S q
      cases z : intsOf ds with
      | none => rw [z] at e; cases e
      | some ns =>
        rw [z] at e
        simp only [Option.bind_some] at e
        have hxs := h1.toInts z
        subst hxs
        cases zk : minI ns with
        | none => rw [zk] at e; cases e
        | some j =>
          rw [zk] at e; cases e
          have pos : 0 < ns.length := by
            cases ns with
            | nil => cases zk
            | cons _ _ => simp
          have fin : ∀ m', m' ∈ ns → (∀ y, y ∈ ns → m' ≤ y) → Q (.int m') m.H := fun m' hm h3 => by
            rw [minI_is zk hm h3]
            exact k _ m (Gro.refl S) rfl
          cases b with
          | true => rw [if_pos rfl] at h2; exact .inl ⟨a, ns, rfl, h2, pos, fin⟩
          | false => rw [if_neg (by decide)] at h2; exact .inr ⟨a, ns, rfl, h2, pos, fin⟩
    · cases e
  · cases e
end
section
variable {X : Cx}
theorem cr_sort2 : CallR X (.builtin "sorted") (rSorted2 X.K) := CallR.or cr_sortedI cr_sortedT
theorem cr_min1 (hc : X.calm = true) : CallR X (.builtin "min") (rMin1 X.K) := CallR.or (cr_min hc) (cr_minT hc)
theorem mt_tup_indexI : MtR X "tuple.index" (fun x xs H Q => ∃ p, ∃ ys : List Int, ∃ z j, x = .ref p ∧ xs = [.int z] ∧ SqT X.K H p (ys.map V.int) ∧ ys[j]? = some z ∧ (∀ m, m < j → ys[m]? ≠ some z) ∧ Q (.int (j : Nat)) H) := by
  intro pins s σ H x xs v us Q I rx rs h
  obtain ⟨p, ys, z, j, rfl, rfl, hq, hy, hno, q⟩ := h
  cases rx
  obtain ⟨u, rfl, t, rfl⟩ := vals1 rs
  obtain ⟨its, r, pl, hz⟩ := I.tuple hq
  obtain ⟨⟨cls, dd, dt, sl⟩, ho, hc, n, hd⟩ := pl
  simp only at hc hd
  subst hc
  subst hd
  have hl : its.toArray.size = ys.length := by rw [List.size_toArray, ← r.length, List.length_map]
  have hj : j < its.toArray.size := by rw [hl]; exact (List.getElem?_eq_some_iff.mp hy).1
  have at' : ∀ (m : Nat) (hm : m < its.toArray.size), ∃ y t', ys[m]? = some y ∧ its.toArray[m] = Value.int y t' := fun m hm => by
    have hm' : m < ys.length := by rw [← hl]; exact hm
    obtain ⟨w, hw, t', hw'⟩ := r.get (i := m) (x := .int ys[m]) (by simp [hm'])
    refine ⟨ys[m], t', List.getElem?_eq_getElem hm', ?_⟩
    have e := (List.getElem?_eq_some_iff.mp hw).2
    rw [← hw', ← e]
    simp
  have flat : (ys.map V.int).all flatV = true := by
    rw [List.all_map]
    exact List.all_eq_true.mpr fun _ _ => rfl
  refine call_meets PySem.F.slot_tuple_index ⟨_, ho, rfl⟩ PySem.F.entry_tuple_index (PySem.F.args_tuple_index_2 _ _) (TI.tuple_indexAt p its.toArray n dd sl (.int z t) (eqU (.int z)) j hj ?_ ?_)
    ⟨ho, fun w hw => mem_eqAt (x := .int z) ⟨t, rfl⟩ rfl r flat w (by simpa using hw), ⟨.int (j : Nat), H, I.tok _, ⟨_, rfl⟩, q⟩⟩
  · obtain ⟨y, t', h1, h2⟩ := at' j hj
    rw [hy] at h1
    cases h1
    rw [h2]
    show (z == z) = true
    exact beq_self_eq_true z
  · intro m hm hmj
    obtain ⟨y, t', h1, h2⟩ := at' m hm
    rw [h2]
    show (y == z) = false
    exact beq_eq_false_iff_ne.mpr fun e => hno m hmj (e ▸ h1)
def tBMT (K : PySem.W.Frag) (r : V → List V → Hp → VK → Prop) (to : TE) (t : TA) : TE := fun σ H Q => to σ H fun x H1 => (∃ p xs, x = .ref p ∧ SqP K H1 p xs) ∧ t σ H1 fun xs H2 => r x xs H2 Q
theorem pe_bmT {o e : Expr} {es : List Expr} {to : TE} {t : TA} {name : Str} {apos cpos : Pos} {id : String} {r : V → List V → Hp → VK → Prop} (slot : Slot "tuple" name id) (hty : typeOf (.builtin id) = pure (.type "method_descriptor")) (hm : MtR X id r) (ho : PE X o to) (ha : PA X (e :: es) t)
    (hbase : attributeBase o name X.env (eval o X.env) = eval o X.env := by rfl)
    (hfew : ((backTo cpos (starEach (e :: es) X.env)).all (fun x => !x.1) && (backToKw cpos (keywordEach [] X.env)).all (fun x => x.1.isSome)
      && decide ((e :: es).length + ([] : List Keyword).length + (if ([] : List Keyword).isEmpty then 0 else 1) < 30)) = true := by rfl)
    (hline : (apos.endLine == cpos.line) = true := by rfl) (hs : starEach (e :: es) X.env = (false, eval e X.env) :: starEach es X.env := by rfl) (hplain : (backTo cpos (starEach es X.env)).any (·.1) = false := by rfl) :
    PE X (.Call (.Attribute o name apos) (e :: es) [] cpos) (tBMT X.K r to t) := by
  refine ⟨fun pins s σ H Q I h => ?_⟩
  refine wpAny_Call_method_late hbase hfew hline rfl (thn (ho.run pins s σ H _ I h) fun v s1 ⟨x, H1, I1, r1, ty, q1⟩ => ?_)
  obtain ⟨p, xs, rfl, sq, pl⟩ := ty
  cases (show v = Value.ref p from r1)
  obtain ⟨its, _, tp, _⟩ := I1.tuple sq
  have h1 : s1.TypeIs (.ref p) "tuple" := by obtain ⟨o, e1, c, _⟩ := tp; exact ⟨o, e1, c⟩
  have h2 : ∀ a, Value.ref p = .ref a → ∃ ob, s1.heap.get? a = some ob ∧ ob.dict = none := fun a e => by
    cases e
    rcases pl with ⟨o, u, e1, d⟩ | ⟨o, e1, d⟩
    · obtain ⟨e2, _⟩ := (show ObjOk X.prog X.w H1 s1.heap p (.frz o u) from I1.hok p _ e1)
      exact ⟨o, e2, d⟩
    · exact ⟨o, I1.kIn _ o e1, d⟩
  refine ⟨"tuple", id, PySem.F.plainAttrs_tuple, slot, hty, h1, h2, ?_⟩
  have hA := ha.run cpos pins s1 σ H1 _ I1 q1
  rw [hs] at hA ⊢
  refine Calls.callWith_builtin (by show (false || (backTo cpos (starEach es X.env)).any (·.1)) = false; rw [hplain] <;> rfl) (Calls.evalArgs_plain ?_)
  exact thn hA fun us s2 ⟨vs, H2, I2, r2, q2⟩ => hm pins s2 σ H2 (.ref p) vs _ us Q I2 r1 r2 q2
end
def ixI : List Int → Int → Option Nat
  | [], _ => none
  | x :: xs, z => if x = z then some 0 else (ixI xs z).map (· + 1)
theorem ixI_is : ∀ {ys : List Int} {z : Int} {j : Nat}, ixI ys z = some j → ys[j]? = some z ∧ ∀ m, m < j → ys[m]? ≠ some z
  | [], _, _, h => by cases h
  | x :: xs, z, j, h => by
    unfold ixI at h
    by_cases e : x = z
    · rw [if_pos e] at h
      cases h
      exact ⟨by simp [e], fun m hm => absurd hm (Nat.not_lt_zero _)⟩
    · rw [if_neg e] at h
      cases q : ixI xs z with
      | none => rw [q] at h; cases h
      | some k =>
        rw [q] at h
        cases h
        obtain ⟨h1, h2⟩ := ixI_is q
        refine ⟨by simpa using h1, fun m hm => ?_⟩
        cases m with
        | zero => simpa using e
        | succ m => simpa using h2 m (Nat.lt_of_succ_lt_succ hm)
def mTIx (f1 f2 : ME) : ME := fun env => (f1 env).bind fun r1 e1 => match r1 with
  | .val (.tup ds) => (f2 e1).bind fun r2 e2 => match r2 with
    | .val (.int z) => ofO (((intsOf ds).bind fun ns => ixI ns z).map fun j => .val (.int (j : Nat))) e2
    | _ => .bad
  | _ => .bad
section
variable {X : Cx} {C : Cn} {E : WX} {e a b o : Expr} {pos apos cpos : Pos} {T1 T2 : List Nat} {f1 f2 : ME}
theorem e_tix (hK : X.K = C.K) (h : PE X e (tBMT X.K (fun x xs H Q => ∃ p, ∃ ys : List Int, ∃ z j, x = .ref p ∧ xs = [.int z] ∧ SqT X.K H p (ys.map V.int) ∧ ys[j]? = some z ∧ (∀ m, m < j → ys[m]? ≠ some z) ∧ Q (.int (j : Nat)) H) (rdE C E T1 f1) (rdA1 C E T2 f2))) :
    PE X e (rdE C E (T1 ++ T2) (mTIx f1 f2)) := PE.wk h fun σ H Q ⟨m, e1, e2, S, w⟩ =>
  ⟨m, e1, e2, S, Want.imp w.bind fun r1 env w => fun v1 m1 a1 a2 S1 s1 ok1 => by
    subst a1
    split at w
    · rename_i ds
      obtain ⟨p, xs, rfl, sp, rr⟩ := ok1
      refine ⟨⟨p, xs, rfl, by rw [hK]; exact S1.ex.sqP sp⟩, m1, rfl, a2, S1, Want.mono w.bind s1 fun r2 env2 w => fun v2 m2 b1 b2 S2 s2 ok2 => ?_⟩
      subst b1
      split at w
      · rename_i z
        cases zi : intsOf ds with
        | none => rw [zi] at w; exact w.elim
        | some ns =>
          cases zj : ixI ns z with
          | none => rw [zi] at w; simp only [Option.bind_some, zj] at w; exact w.elim
          | some j =>
            rw [zi] at w
            simp only [Option.bind_some, zj] at w
            have hxs := rr.toInts zi
            subst hxs
            obtain ⟨i1, i2⟩ := ixI_is zj
            have ok2 : v2 = .int z := ok2
            subst ok2
            refine ⟨p, ns, z, j, rfl, rfl, by rw [hK]; exact S2.ex.sqT (s2.exF.sqT sp.1), i1, i2, ?_⟩
            exact w (.int (j : Nat)) m2 rfl b2 S2 (s1.trans s2) rfl
      · exact w.elim
    · exact w.elim⟩
end
end L3
namespace L3
open PySem L2 PySem.Spec PyProof.Rows
def calmF (f : List O → Rr) (os : List O) : Rr := match f os with
  | .exc _ _ _ => .bad
  | r => r
theorem spG_calm {K : PySem.W.Frag} {cl : Nat → Addr} {n : Nat} {f : List O → Rr} {vs : List V} {H : Hp} {Q : VK} {E : XK} (h : spG K cl n (calmF f) vs H Q E) : spG K cl n f vs H Q E0 := by
  obtain ⟨F, os, fp, hl, ex, r, nd, fF, w⟩ := h
  refine ⟨F, os, fp, hl, ex, r, nd, fF, ?_⟩
  unfold calmF at w
  cases q : f os with
  | ok r outs => rw [q] at w; exact w
  | bad => rw [q] at w; exact w.elim
  | exc c ds outs => rw [q] at w; exact w.elim
theorem fn_calm {P : Program} {w : World} {K : PySem.W.Frag} {mg : Str → Option Value} {base : Heap} {cl : Nat → Addr} {k n : Nat} {a : Addr} {fd : FuncData} {ps : List Str} {f : List O → Rr} (F : FnOk P w K mg base (L2.CX P w) k a fd ps (spG K cl n f)) :
    FnOk P w K mg base CX0 k a fd ps (spG K cl n (calmF f)) :=
  ⟨fun vs H Q E q => F.len _ _ _ _ (spG_calm q), fun A outer s H args us vs Q E hr he hb hv hs => codeAny_mono (F.run A outer s H args us vs Q E0 hr he hb hv (spG_calm hs)) fun r s' q => by
    cases r with
    | ok fl => cases fl <;> exact q
    | error e =>
      obtain ⟨_, _, _, _, _, _, _, _, _, _, _, _, z⟩ := (show L2.CX P w outer H s E0 e s' from q)
      exact z.elim⟩
theorem CalXI.calm {P : Program} {w : World} {K : PySem.W.Frag} {mg : Str → Option Value} {base : Heap} {k : Nat} {C : Addr} {x : Str} {ps : List Str} {a : Addr} {fd : FuncData} {cl : Nat → Addr} {n : Nat} {f : List O → Rr} (c : CalXI P w K mg base k C x ps (spG K cl n f) a fd) :
    CalI P w K mg base k C x ps (spG K cl n (calmF f)) a fd := ⟨fn_calm c.ok, c.b, c.made, c.g⟩
theorem CalXF.calm {P : Program} {w : World} {K : PySem.W.Frag} {mg : Str → Option Value} {base : Heap} {k : Nat} {x : Str} {ps : List Str} {a : Addr} {fd : FuncData} {cl : Nat → Addr} {n : Nat} {f : List O → Rr} (c : CalXF P w K mg base k x ps (spG K cl n f) a fd) :
    CalF P w K mg base k x ps (spG K cl n (calmF f)) a fd := ⟨fn_calm c.ok, c.b, c.g, c.kp⟩
def g2X (g : D → MS) : Nat → List D → MS := fun _ ds => match ds with
  | [d] => g d
  | _ => msBad
section
variable {X : Cx} {C : Cn} {E : WX} {pos : Pos} {T1 T2 : List Nat} {g1 : MS}
theorem s_never {ss : List Stmt} {C' : Cn} {W : WX} {T : List Nat} : PSs X ss (rdS C' W T msBad) := ⟨fun pins s σ H D I ⟨m, e1, e2, S, w⟩ => (show False from w).elim⟩
theorem s_tryPart {x n : Str} {i c : Nat} {body suite : List Stmt} {b₀ : Stmt} {np pos' : Pos} {g2 : D → MS} (hs : X.stack = X.env :: X.outer) (hf : X.env.frame = some X.env.locals) (hN : X.N.Nodup) (hi : X.N[i]? = some n) (hln : X.env.kindOf n = some .local) (hc : Names X x (.ref (C.cl c)))
    (hiO : i ∉ C.IO) (hin : i < C.n) (hcs : PySem.W.exmOne X.K (.ref (C.cl c)) (.ref (C.cl c)) = some true)
    (hb : ∀ (W : WX) (pn : List (Addr × Obj)) (xe : Value → Shared → Prop), Takes (X.tr pn xe) W → PSs (X.tr pn xe) body (rdS C W T1 g1))
    (hsu : ∀ (d : D) (C' : Cn) (ea : Addr) (oe : Obj) (dd : Option Addr) (pn : List (Addr × Obj)), ExcIn C C' i ea c [d] dd → Zc (.ref (C.cl c)) dd oe → (∃ vs, oe.data = .fields vs) → PSs (X.suite ea ((ea, oe) :: pn)) (b₀ :: suite) (rdS C' (fun _ _ _ _ => True) T2 (g2 d))) :
    PS X (.Try body [.ExceptHandler (some (.Name x np)) (some n) (b₀ :: suite) pos'] [] [] pos) (rdS C E (T1 ++ List.range C.n) (msTryAs [c] i g1 (g2X g2))) := by
  refine s_tryAs (T2 := T2) (cs := [c]) hs hf hN hi hln hc hiO hin (fun c' hc' => ?_) hb fun c' ds C' ea oe dd pn hc' I hz hf => ?_
  · rw [show c' = c by simpa using hc']; exact hcs
  · rw [show c' = c by simpa using hc'] at I hz
    unfold g2X
    split
    · exact hsu _ C' ea oe dd pn I hz hf
    · exact s_never
end
end L3
namespace L3
open PySem L2 PySem.Spec PyProof.Rows HT
section
variable {prog : Program} {w : World} {A : Around} {E : Value → Shared → Prop} {s : Shared}
theorem sliceApplied_rev {sl : Addr} {vs : Value} {n : Nat} {Q : Int × Int × Nat → Shared → Prop} (hs : s.heap.IsSliceOf sl .none .none vs) (ps : IsPart vs (some (-1)))
    (h : Q ((n : Int) - 1, -1, n) s) : wpAny (model prog w) A (Builtin.Slice.sliceApplied (.ref sl) (pure (n : Int))) Q E s := by
  obtain ⟨os, hos, hcs, hds⟩ := id hs
  unfold Builtin.Slice.sliceApplied Builtin.Slice.sliceFields
  refine wpAny_bind (wpAny_bind (wpAny_field hos hds (x := .none) rfl (wpAny_bind (wpAny_field hos hds (x := .none) rfl (wpAny_bind (wpAny_field hos hds (x := vs) rfl (wpAny_pure ?_)))))))
  refine wpAny_bind (slicePart_ ps ?_)
  show wpAny _ _ (if ((-1 : Int) == 0) = true then _ else _) _ _ s
  rw [if_neg (by decide)]
  refine wpAny_bind (slicePart_none (wpAny_bind (slicePart_none (wpAny_bind (wpAny_pure ?_)))))
  show wpAny _ _ (pure ((n : Int) - 1, (-1 : Int), Builtin.Slice.slicePlaces ((n : Int) - 1) (-1) (-1))) _ _ s
  have e : Builtin.Slice.slicePlaces ((n : Int) - 1) (-1) (-1) = n := by
    unfold Builtin.Slice.slicePlaces
    rw [if_neg (by decide)]
    split
    · show (((n : Int) - 1 - (-1) - 1) / (-(-1)) + 1).toNat = n
      have : (-(-1 : Int)) = 1 := by decide
      rw [this, Int.ediv_one]
      omega
    · omega
  rw [e]
  exact wpAny_pure h
theorem pick_rev (xs : Array Value) : ((List.range xs.size).filterMap fun (k : Nat) => xs[(((xs.size : Nat) : Int) - 1 + (k : Int) * (-1)).toNat]?).toArray = xs.toList.reverse.toArray := by
  have e1 : (fun (k : Nat) => xs[(((xs.size : Nat) : Int) - 1 + (k : Int) * (-1)).toNat]?) = (xs[·]?) ∘ fun k => xs.size - 1 - k := by
    funext k
    have e : (((xs.size : Nat) : Int) - 1 + (k : Int) * (-1)).toNat = xs.size - 1 - k := by omega
    show xs[_]? = xs[_]?
    rw [e]
  have e2 : (List.range xs.size).map (fun k => xs.size - 1 - k) = (List.range xs.size).reverse := by
    refine List.ext_getElem (by simp) fun i h1 h2 => ?_
    simp
  rw [e1, ← List.filterMap_map, e2, List.filterMap_reverse, PySem.W.krv_all]
theorem getItem_tuple_rev {t sl : Addr} {items : Array Value} {vs : Value} {Q : Value → Shared → Prop} (ht : IsTup s.heap t items) (hs : s.heap.IsSliceOf sl .none .none vs) (ps : IsPart vs (some (-1)))
    (h : Q (.ref s.heap.objs.size) { s with heap := s.heap.push { cls := .type "tuple", data := .seq items.toList.reverse.toArray } })
    (hsz : items.size ≤ sizeLine) : wpAny (model prog w) A (getItem (.ref t) (.ref sl)) Q E s := by
  have htake : sizeOk (.seq items.toList.reverse.toArray) := by
    show (items.toList.reverse.toArray).size ≤ sizeLine
    rw [List.size_toArray, List.length_reverse, Array.length_toList]
    omega
  obtain ⟨os, hos, hcs, hds⟩ := id hs
  have hTs : s.TypeIs (.ref sl) "slice" := ⟨os, hos, hcs⟩
  unfold getItem
  try with_reducible refine wpAny_holding ?_
  first | refine wpAny_bind (wpAny_pure ?_) | skip
  refine wpAny_bind (wpAny_sequenceKey ht.typeIs (by decide) ?_)
  refine wpAny_bind (wpAny_callSpecial?_slot (name := Str.ofString "__getitem__") ht.typeIs PyProof.Rows.slot_tuple_getitem
    (wpAny_call_entry PyProof.Rows.slot_tuple_getitem ht.typeIs entry_tuple_getitem ?_ (args_tuple_getitem _ _)))
  show wpAny _ _ (Builtin.Tuple.tupleItemsOf (.ref t) >>= _) _ _ s
  refine wpAny_bind (tupleItemsOf_ ht ?_)
  refine wpAny_bind (wpAny_typeOf hTs ?_)
  rw [if_pos (by decide)]
  refine wpAny_bind (sliceApplied_rev hs ps ?_)
  have hno : ¬ ((((items.size : Nat) : Int) - 1 == 0 && (-1 : Int) == 1 && items.size == items.size) = true) := by
    rw [show ((-1 : Int) == 1) = false from by decide]
    simp
  show wpAny _ _ (if (((items.size : Nat) : Int) - 1 == 0 && (-1 : Int) == 1 && items.size == items.size) = true then _ else _) _ _ s
  rw [if_neg hno, pick_rev]
  first
    | exact wpAny_bind (m := Builtin.Tuple.tupleExact _) (wpAny_newObj_type (wpAny_pure ⟨_, rfl, wpAny_pure h⟩) htake)
    | exact wpAny_bind (m := Builtin.Tuple.tupleExact _) (wpAny_newObj_type (wpAny_bind (wpAny_pure (wpAny_pure ⟨_, rfl, wpAny_pure h⟩))) htake)
    | exact wpAny_bind (wpAny_bind (m := Builtin.Tuple.tupleExact _) (wpAny_newObj_type (wpAny_pure (wpAny_pure ⟨_, rfl, wpAny_pure h⟩)) htake))
    | exact wpAny_bind (wpAny_bind (m := Builtin.Tuple.tupleExact _) (wpAny_newObj_type (wpAny_pure ⟨_, rfl, wpAny_pure h⟩) htake))
end
def tRevT (K : PySem.W.Frag) (te : TE) : TE := fun σ H Q => te σ H fun x H1 => ∃ a xs, x = .ref a ∧ SqT K H1 a xs ∧ NewT Q H1 xs.reverse
section
variable {X : Cx} {C : Cn} {E : WX} {T : List Nat} {f : ME}
theorem pe_revT {e : Expr} {te : TE} {k : Nat} {p1 p2 p3 pos : Pos} (he : PE X e te) : PE X (.Subscript e (.Slice none none (some (.UnaryOp .USub (.Constant (.int 1) k p1) p2)) p3) pos) (tRevT X.K te) := by
  refine ⟨fun pins s σ H Q I h => ?_⟩
  refine Subscript_ (thn (he.run pins s σ H _ I h) fun v s1 ⟨x, H1, I1, r1, q1⟩ => ?_)
  obtain ⟨a, xs, ex, hx, q⟩ := q1
  subst ex
  cases r1
  have hst : PO X (some (.UnaryOp .USub (.Constant (.int 1) k p1) p2)) (tPart (tUn (rU fun i => .int (-i)) (tC (.int 1)))) := po_some (pe_un un_neg pe_int)
  refine wpAny_Slice (thn (po_none.run pins s1 σ H1 (fun o H2 => o = none ∧ H2 = H1) I1 ⟨rfl, rfl⟩) fun vl s2 ⟨l, H2, I2, pl, el, e2⟩ => ?_)
  subst el e2
  refine thn (po_none.run pins s2 σ H2 (fun o H3 => o = none ∧ H3 = H2) I2 ⟨rfl, rfl⟩) fun vu s3 ⟨u, H3, I3, pu, eu, e3⟩ => ?_
  subst eu e3
  refine thn (hst.run pins s3 σ H3 (fun o H4 => o = some (-1) ∧ H4 = H3) I3 ⟨1, rfl, -1, rfl, rfl, rfl⟩) fun vs s4 ⟨o, H4, I4, ps, eo, e4⟩ => ?_
  subst eo e4
  cases pl
  cases pu
  have I5 : Inv X pins σ H4 { s4 with heap := s4.heap.push { cls := .type "slice", data := .fields #[.none, .none, vs] } } := I4.kept (t' := s4.toks) fun b ob q => Heap.get?_push_of_some _ q
  obtain ⟨its, r, ht, hz⟩ := I5.tuple hx
  have hlen := r.length
  show wpAny (model X.prog X.w) X.A (subscriptTail e (.Slice none none (some (.UnaryOp .USub (.Constant (.int 1) k p1) p2)) p3) (.ref a) (.ref s4.heap.objs.size)) (EP X pins σ Q) X.xe { s4 with heap := s4.heap.push { cls := .type "slice", data := .fields #[.none, .none, vs] } }
  refine tail_any (ops := [.ref a, .ref s4.heap.objs.size]) ht.typeIs (PyProof.Rows.slot_tuple_getitem.lookup) ?_ (by with_unfolding_all rfl)
  refine getItem_tuple_rev ht (Heap.IsSliceOf.new _ .none .none vs) ps ?_ (by rw [List.size_toArray]; omega)
  exact newT_go I5 r.reverse (by rw [List.length_reverse]; exact hz) q
def gRevT (r : Rt) : Option Rt := match r.items with
  | some (false, ds) => some (.val (.tup ds.reverse))
  | _ => none
theorem e_revT (hK : X.K = C.K) {e : Expr} (h : PE X e (tRevT X.K (rdE C E T f))) : PE X e (rdE C E T (m1 gRevT f)) := PE.wk h fun σ H Q h => by
  unfold tRevT
  rw [hK]
  refine rd1 (r := fun x H1 Q => ∃ a xs, x = .ref a ∧ SqT C.K H1 a xs ∧ NewT Q H1 xs.reverse) ?_ h
  intro m x rx ry av Q S h1 h k
  unfold gRevT at h
  split at h
  · rename_i ds q
    cases h
    obtain ⟨a, xs, rfl, r1, h2⟩ := h1.items S q
    rw [if_neg (by decide)] at h2
    exact ⟨a, xs, rfl, h2, fun p o hp hd => k _ _ (gro_new S hp) ⟨p, _, rfl, SqP.new hd, (rpDs_rev r1).mono (gro_new S hp).exF _ _⟩⟩
  · cases h
end
end L3
namespace L3
open PySem L2
def dkOf : Rt → Option (List Key × List D)
  | .val (.dk ks ds) => some (ks, ds)
  | .own (.dk ks os) => (leaves os).map fun ds => (ks, ds)
  | .bor _ _ (.dk ks os) => (leaves os).map fun ds => (ks, ds)
  | _ => none
section
variable {C : Cn}
theorem RtOk.dkOf {m : Mo} {r : Rt} {v : V} {av : Addr → Prop} {ks : List Key} {ds : List D} (S : Sta C m) (h : RtOk C m av r v) (e : L3.dkOf r = some (ks, ds)) :
    ∃ a xs, v = .ref a ∧ m.H a = some (.dK (ks.zip xs)) ∧ ks.length = xs.length ∧ RpDs C.K C.cl m.F ds xs := by
  unfold L3.dkOf at e
  split at e
  · cases e
    obtain ⟨a, xs, rfl, h1, h2, h3⟩ := h
    exact ⟨a, xs, rfl, S.ex _ _ h1, h2, h3⟩
  · rename_i ks' os
    cases q : leaves os with
    | none => rw [q] at e; cases e
    | some es =>
      rw [q] at e; cases e
      obtain rfl := leaves_some q
      obtain ⟨fp, ⟨a, xs, f, rfl, _, h1, h2, h3⟩, _⟩ := h
      exact ⟨a, xs, rfl, h1, h2, (RpOs.leaves h3).2⟩
  · rename_i x p ks' os
    cases q : leaves os with
    | none => rw [q] at e; cases e
    | some es =>
      rw [q] at e; cases e
      obtain rfl := leaves_some q
      obtain ⟨fp, a, xs, f, rfl, _, h1, h2, h3⟩ := h.bor S
      exact ⟨a, xs, rfl, h1, h2, (RpOs.leaves h3).2⟩
  · cases e
theorem key_v {K : PySem.W.Frag} {cl : Nat → Addr} {H : Hp} {d : D} {v : V} {k : Key} (h : RpD K cl H d v) (e : d.key = some k) : v = kV k := by
  cases d with
  | int i => cases e; exact h
  | str s => cases e; exact h
  | _ => cases e
def gDkGet (rx ry : Rt) : Option Rt := (dkOf rx).bind fun p => match ry with
  | .val d => d.key.bind fun k => (lkK p.1 p.2 k).map .val
  | _ => none
theorem loc_dkGet : Loc2 C (fun x y H Q => ∃ a v, x = .ref a ∧ DGet H a y (some v) ∧ Q v H) gDkGet := by
  intro m x y rx ry rz av av' Q S h1 h2 h k
  unfold gDkGet at h
  cases q : dkOf rx with
  | none => rw [q] at h; cases h
  | some p =>
    obtain ⟨ks, ds⟩ := p
    rw [q] at h
    simp only [Option.bind_some] at h
    obtain ⟨a, xs, rfl, e1, e2, r⟩ := h1.dkOf S q
    split at h
    · rename_i d
      cases qk : d.key with
      | none => rw [qk] at h; cases h
      | some kk =>
        rw [qk] at h
        simp only [Option.bind_some] at h
        cases ql : lkK ks ds kk with
        | none => rw [ql] at h; cases h
        | some z =>
          rw [ql] at h
          cases h
          obtain ⟨v, v1, v2⟩ := (lkK_rpD r).1 z ql
          have := key_v h2 qk
          subst this
          refine ⟨a, v, rfl, ?_, k v m (Gro.refl S) v2⟩
          have g := DGet.k (k := kk) e1
          rw [lkK_val, v1] at g
          exact g
    · cases h
def gDkIn (neg : Bool) (ry rx : Rt) : Option Rt := (dkOf rx).bind fun p => match ry with
  | .val d => d.key.map fun k => .val (.bl ((lkK p.1 p.2 k).isSome != neg))
  | _ => none
theorem loc_dkIn {neg : Bool} : Loc2 C (fun y x H Q => ∃ a o, x = .ref a ∧ DGet H a y o ∧ Q (.bl (o.isSome != neg)) H) (gDkIn neg) := by
  intro m y x ry rx rz av av' Q S h2 h1 h k
  unfold gDkIn at h
  cases q : dkOf rx with
  | none => rw [q] at h; cases h
  | some p =>
    obtain ⟨ks, ds⟩ := p
    rw [q] at h
    simp only [Option.bind_some] at h
    obtain ⟨a, xs, rfl, e1, e2, r⟩ := h1.dkOf S q
    split at h
    · rename_i d
      cases qk : d.key with
      | none => rw [qk] at h; cases h
      | some kk =>
        rw [qk] at h
        cases h
        have := key_v h2 qk
        subst this
        refine ⟨a, _, rfl, DGet.k (k := kk) e1, k _ m (Gro.refl S) ?_⟩
        show V.bl _ = V.bl _
        rw [lkK_val, lkK_isSome r.length]
    · cases h
end
section
variable {X : Cx} {C : Cn} {E : WX} {e a b o : Expr} {pos : Pos} {T T1 T2 T3 : List Nat} {f1 f2 f3 : ME}
def mDK0 : ME := fun env => .ok (.own (.dk [] [])) env
theorem e_dk0 : PE X (.Dict [] [] pos) (rdE C E [] mDK0) := PE.wk pe_dnewK fun σ H Q ⟨m, e1, e2, S, w⟩ p hp => by
  subst e1
  have G := gro_own (o := .dK []) S hp
  exact w (.ref p) { m with H := upd m.H p (.dK []) } rfl e2 (S.gro G) ((G.step S).wk (by simp)) ⟨[p], ⟨p, [], [], rfl, rfl, upd_same, rfl, rfl, rfl⟩, by simp, fun a ha => by
    have ha : a = p := by simpa using ha
    subst ha
    exact ⟨S.fNone hp, fun z => S.inH a z hp, .inl (S.h0None hp), fun z => z.1 hp⟩⟩
theorem e_dkGet (hu : X.A.units + 1 < cLine) (ho : PE X o (rdE C E T1 f1)) (hi : PE X e (rdE C E T2 f2)) (hs : NoSl e) : PE X (.Subscript o e pos) (rdE C E (T1 ++ T2) (m2 gDkGet T2 f1 f2)) :=
  PE.wk (pe_dget hu ho hi hs) fun _ _ _ h => rd2 loc_dkGet h
end
end L3
namespace L3
open PySem L2
section
variable {X : Cx} {C : Cn} {E : WX} {e a b o : Expr} {pos pos' : Pos} {T T1 T2 T3 : List Nat} {f1 f2 f3 : ME}
theorem op_inDk (hu : X.A.units + 1 < cLine) : OpR X (compareOp .In) (fun y x H Q => ∃ a o, x = .ref a ∧ DGet H a y o ∧ Q (.bl (o.isSome != false)) H) := by
  intro pins s σ H y x v u Q I ry rx h
  obtain ⟨a, o, rfl, g, q⟩ := h
  cases (show u = Value.ref a from rx)
  exact d_in hu I g ry fun s3 I3 => ⟨.bl (o.isSome), H, I3, rfl, by rw [show (o.isSome != false) = o.isSome by cases o <;> rfl] at q; exact q⟩
theorem op_notInDk (hu : X.A.units + 1 < cLine) : OpR X (compareOp .NotIn) (fun y x H Q => ∃ a o, x = .ref a ∧ DGet H a y o ∧ Q (.bl (o.isSome != true)) H) := by
  intro pins s σ H y x v u Q I ry rx h
  obtain ⟨a, o, rfl, g, q⟩ := h
  cases (show u = Value.ref a from rx)
  exact d_notIn hu I g ry fun s3 I3 => ⟨.bl (!o.isSome), H, I3, rfl, by rw [show (o.isSome != true) = !o.isSome by cases o <;> rfl] at q; exact q⟩
def kHas (ks : List Key) (k : Key) : Bool := ks.any fun k' => decide (k' = k)
def putD (ks : List Key) (ds : List D) (k : Key) (d : D) : List Key × List D :=
  if kHas ks k = true then (ks, List.zipWith (fun k' x => if k' = k then d else x) ks ds) else (ks ++ [k], ds ++ [d])
theorem putK_zip {k : Key} {v : V} : ∀ {ks : List Key} {xs : List V}, ks.length = xs.length → putK (ks.zip xs) k v = if kHas ks k = true then ks.zip (List.zipWith (fun k' x => if k' = k then v else x) ks xs) else (ks ++ [k]).zip (xs ++ [v]) := by
  intro ks xs h
  have e1 : ((ks.zip xs).any fun kv => decide (kv.1 = k)) = kHas ks k := by
    induction ks generalizing xs with
    | nil => rfl
    | cons a ks ih =>
      cases xs with
      | nil => simp at h
      | cons x xs =>
        rw [List.zip_cons_cons, List.any_cons, ih (by simpa using h)]
        rfl
  unfold putK
  rw [e1]
  by_cases hc : kHas ks k = true
  · rw [if_pos hc, if_pos hc]
    clear e1 hc
    induction ks generalizing xs with
    | nil => rfl
    | cons a ks ih =>
      cases xs with
      | nil => simp at h
      | cons x xs =>
        rw [List.zip_cons_cons, List.map_cons, ih (by simpa using h), List.zipWith_cons_cons, List.zip_cons_cons]
        by_cases e : a = k
        · simp [e]
        · simp [e]
  · rw [if_neg hc, if_neg hc, List.zip_append h]
    rfl
theorem RpDs.put {K : PySem.W.Frag} {cl : Nat → Addr} {H : Hp} {k : Key} {d : D} {v : V} (hd : RpD K cl H d v) : ∀ {ks : List Key} {ds : List D} {xs : List V}, RpDs K cl H ds xs → RpDs K cl H (List.zipWith (fun k' x => if k' = k then d else x) ks ds) (List.zipWith (fun k' x => if k' = k then v else x) ks xs)
  | [], ds, xs, h => by simp [RpDs]
  | a :: ks, [], xs, h => by rw [show xs = [] from h]; simp [RpDs]
  | a :: ks, d1 :: ds, xs, h => by
    obtain ⟨v1, r, rfl, h1, h2⟩ := h
    rw [List.zipWith_cons_cons, List.zipWith_cons_cons]
    refine ⟨_, _, rfl, ?_, RpDs.put hd h2⟩
    by_cases e : a = k
    · rw [if_pos e, if_pos e]; exact hd
    · rw [if_neg e, if_neg e]; exact h1
end
end L3
namespace L3
open PySem L2
section
variable {X : Cx} {C : Cn} {E : WX} {e a b o i : Expr} {pos pos' : Pos} {T T1 T2 T3 : List Nat} {f1 f2 f3 : ME}
def msSetDk (Tx T2 T3 : List Nat) (f1 f2 f3 : ME) : MS := fun env => (f1 env).bind fun y e1 => match y with
  | .val d => (f2 e1).bind fun r e2 => match r with
    | .bor x p (.dk ks os) => if x ∈ T3 then .bad else (f3 e2).bind fun ri e3 => match ri with
      | .val kd => match leaves os, kd.key with
        | some ds, some k => if x ∈ Tx ∧ ks.length < 16777216 then (match poke x p (.dk (putD ks ds k d).1 ((putD ks ds k d).2.map O.s)) e3 with
          | some e4 => .ok .nx e4
          | none => .bad) else .bad
        | _, _ => .bad
      | _ => .bad
    | _ => .bad
  | _ => .bad
theorem s_setDk (Tx : List Nat) {st : Stmt} (h : PS X st (sDPut (rdE C E T2 f2) (rdE C E T3 f3) (rdE C E T1 f1))) : PS X st (rdS C E (T1 ++ (T2 ++ (T3 ++ Tx))) (msSetDk Tx T2 T3 f1 f2 f3)) :=
  PS.wk h fun D σ H ⟨m, e1, e2, S, w⟩ => ⟨m, e1, e2, S, Want.imp w.bind fun y env w => fun vy m1 e3 e4 S1 s1 oky => by
    subst e3
    split at w
    · rename_i d
      refine ⟨m1, rfl, e4, S1, Want.mono w.bind s1 fun r env2 w1 vr m2 a1 a2 S2 s2 okr => ?_⟩
      subst a1
      split at w1
      · rename_i x p ks os
        by_cases hh : x ∈ T3
        · rw [if_pos hh] at w1; exact w1.elim
        rw [if_neg hh] at w1
        refine ⟨m2, rfl, a2, S2, Want.mono w1.bind (s1.trans s2) fun ri env3 w2 vi m3 b1 b2 S3 s3 oki => ?_⟩
        subst b1
        split at w2
        · rename_i kd
          split at w2
          · rename_i ds k hds hk
            by_cases hx : x ∈ Tx ∧ ks.length < 16777216
            · rw [if_pos hx] at w2
              obtain rfl := leaves_some hds
              have okr3 := okr.step S2 s3 (by simpa [Rt.hot] using hh) (b2.trans a2.symm)
              have ry : RpO C.K C.cl m3.F m3.H (.s d) vy [] := ⟨rfl, RpD.mono (s2.trans s3).exF _ _ oky⟩
              have s13 := s1.trans (s2.trans s3)
              have hkv := key_v oki hk
              subst hkv
              obtain ⟨f0, a, xs, fl, rfl, rfl, hl, hlen, rr⟩ := okr3.bor S3
              have rd := (RpOs.leaves rr).2
              obtain ⟨xs', e1', e2', e3'⟩ : ∃ xs', putK (ks.zip xs) k vy = (putD ks ds k d).1.zip xs' ∧ (putD ks ds k d).1.length = xs'.length ∧ RpDs C.K C.cl m3.F (putD ks ds k d).2 xs' := by
                unfold putD
                rw [putK_zip hlen]
                by_cases hc : kHas ks k = true
                · rw [if_pos hc, if_pos hc]
                  exact ⟨_, rfl, by rw [List.length_zipWith, ← hlen, Nat.min_self], RpDs.put ry.2 rd⟩
                · rw [if_neg hc, if_neg hc]
                  exact ⟨_, rfl, by rw [List.length_append, List.length_append, hlen]; rfl, RpDs.append rd ⟨vy, [], rfl, ry.2, rfl⟩⟩
              obtain ⟨env', hp, m4, c1, c2, c3, c4, S4, s4, c5⟩ := poke_put (ho := .dK ((putD ks ds k d).1.zip xs')) (o' := .dk (putD ks ds k d).1 ((putD ks ds k d).2.map O.s)) s13 S3 okr3 ry List.nodup_nil (fun b hb => by simp at hb) (fun fr hr => by
                obtain ⟨a2, xs2, f4, e, e', hl4, hlen4, rr4⟩ := hr
                cases e; cases e'
                have z := (RpOs.leaves rr4).1
                subst z
                exact ⟨[], [], [], rfl, fun H' h1 h2 h3 => ⟨a, xs', [], rfl, rfl, h2, e2', e3'.os⟩⟩) ⟨fl, a, xs, fl, rfl, rfl, hl, hlen, rr⟩
              rw [hp] at w2
              refine ⟨a, upd m3.H a (.dK (putK (ks.zip xs) k vy)), rfl, DPut.k hl (by rw [List.length_zip, hlen, Nat.min_self, sizeLine_is, ← hlen]; exact hx.2), ?_⟩
              have := w2 m4 c1 S4 (s4.wk (mem3 hx.1))
              have q : D.nx m4.σ m4.H := this
              rw [c3, c4, b2, ← e1'] at q
              exact q
            · rw [if_neg hx] at w2; exact w2.elim
          · exact w2.elim
        · exact w2.elim
      · exact w1.elim
    · exact w.elim⟩
end
end L3
namespace L3
open PySem L2 PySem.Spec PyProof.Rows
def rGetL : V → V → Hp → VK → Prop := fun o i H Q => ∃ p xs k v, o = .ref p ∧ i = .int k ∧ H p = some (.lst xs) ∧ atI xs k = some v ∧ Q v H
theorem get_list {X : Cx} : PGet X rGetL := by
  intro pins s σ H o i ov iv Q I ro ri h
  obtain ⟨p, xs, k, z, rfl, rfl, hp, he, q⟩ := h
  cases ro
  obtain ⟨t, rfl⟩ := ri
  obtain ⟨its, r, pl, hz⟩ := I.list (.inl (.inl hp))
  obtain ⟨j, h1, h2, h3, h4, h5⟩ := atI_get he
  obtain ⟨w, ew, rw'⟩ := r.get h2
  have hl := r.length
  have hn := line63
  have fin : EP X pins σ Q w s := ⟨z, H, I, rw', q⟩
  by_cases h0 : 0 ≤ k
  · have hj : k.toNat = j := by
      rw [seqIndex_of h0 h5] at h1
      exact Option.some.inj h1
    exact wpAny_getItem_list pl.isList h0 (by omega) (by rw [hj]; simpa using ew) fin
  · have hj : (k + (its.toArray.size : Int)).toNat = j := by
      rw [seqIndex_neg (by omega) h4] at h1
      rw [List.size_toArray, ← hl]
      exact Option.some.inj h1
    exact wpAny_getItem_list_neg pl.isList (by omega) (by rw [List.size_toArray] <;> omega) (by omega) (by rw [hj]; simpa using ew) fin
section
variable {X : Cx} {C : Cn} {E : WX} {e a b o i : Expr} {pos pos' : Pos} {T T1 T2 T3 : List Nat} {f1 f2 f3 : ME}
def msAugIx (Tx Ti Te : List Nat) (g : Int → Int → Int) (fo fi fe : ME) : MS := fun env => (fo env).bind fun r e1 => match r with
  | .bor x p (.lst os) => if x ∈ Ti ∨ x ∈ Te then .bad else (fi e1).bind fun ri e2 => match ri with
    | .val (.int k) => match ixN os.length k with
      | some j => match os[j]? with
        | some (.s (.int v)) => (fe e2).bind fun re e3 => match re with
          | .val (.int z) => if x ∈ Tx then (match poke x p (.lst (os.set j (.s (.int (g v z))))) e3 with
            | some e4 => .ok .nx e4
            | none => .bad) else .bad
          | _ => .bad
        | _ => .bad
      | none => .bad
    | _ => .bad
  | _ => .bad
theorem s_augIx (Tx : List Nat) {g : Int → Int → Int} {st : Stmt} (h : PS X st (tAugS (rdE C E T1 f1) (rdE C E T2 f2) (rdE C E T3 f3) rGetL (ipI g) rSetL)) : PS X st (rdS C E (T1 ++ (T2 ++ (T3 ++ Tx))) (msAugIx Tx T2 T3 g f1 f2 f3)) :=
  PS.wk h fun D σ H ⟨m, e1, e2, S, w⟩ => ⟨m, e1, e2, S, Want.imp w.bind fun r env w vr m1 e3 e4 S1 s1 okr => by
    subst e3
    split at w
    · rename_i x p os
      by_cases hh : x ∈ T2 ∨ x ∈ T3
      · rw [if_pos hh] at w; exact w.elim
      rw [if_neg hh] at w
      refine ⟨m1, rfl, e4, S1, Want.mono w.bind s1 fun ri env2 w1 vi m2 a1 a2 S2 s2 oki => ?_⟩
      subst a1
      split at w1
      · rename_i k
        split at w1
        · rename_i j hj
          split at w1
          · rename_i v hv
            have okr2 := okr.step S1 s2 (by simp only [Rt.hot]; simpa using fun z => hh (.inl z)) (a2.trans e4.symm)
            obtain ⟨f0, a, xs, fl, rfl, rfl, hl, rr⟩ := okr2.bor S2
            obtain ⟨xv, gv, hx1, hx2, _⟩ := rr.get hv
            have hxv : xv = .int v := hx2.2
            subst hxv
            have oki : vi = .int k := oki
            subst oki
            refine ⟨a, xs, k, .int v, rfl, rfl, hl, by unfold atI; rw [rr.length, hj]; exact hx1, ?_⟩
            refine ⟨m2, rfl, a2, S2, Want.mono w1.bind (s1.trans s2) fun re env3 w2 vz m3 b1 b2 S3 s3 oke => ?_⟩
            subst b1
            split at w2
            · rename_i z
              have oke : vz = .int z := oke
              subst oke
              refine ⟨v, z, rfl, rfl, ?_⟩
              by_cases hx : x ∈ Tx
              · rw [if_pos hx] at w2
                have okr3 := okr2.step S2 s3 (by simp only [Rt.hot]; simpa using fun z => hh (.inr z)) (b2.trans a2.symm)
                have ry : RpO C.K C.cl m3.F m3.H (.s (.int (g v z))) (.int (g v z)) [] := ⟨rfl, rfl⟩
                have s13 := s1.trans (s2.trans s3)
                obtain ⟨f0', a', xs3, fl3, ea, rfl, hl3, rr3⟩ := okr3.bor S3
                cases ea
                obtain ⟨env', hp, m4, c1, c2, c3, c4, S4, s4, c5⟩ := poke_put (ho := .lst (xs3.set j (.int (g v z)))) (o' := .lst (os.set j (.s (.int (g v z))))) s13 S3 okr3 ry List.nodup_nil (fun b hb => by simp at hb) (fun fr hr => by
                  obtain ⟨a2, xs2, f4, e, e', hl4, rr4⟩ := hr
                  cases e; cases e'
                  rw [hl3] at hl4; cases hl4
                  obtain ⟨l, g0, r0, e5, k⟩ := rr4.setV (n := j) (ixN_seq hj).2.1
                  exact ⟨l, g0, r0, e5, fun H' h1 h2 h3 => ⟨a, _, _, rfl, rfl, h2, k H' _ _ [] h1 h3⟩⟩) ⟨fl3, a, xs3, fl3, rfl, rfl, hl3, rr3⟩
                rw [hp] at w2
                refine ⟨a, xs3, k, j, rfl, rfl, hl3, by rw [rr3.length]; exact hj, ?_⟩
                have := w2 m4 c1 S4 (s4.wk (mem3 hx))
                have q : D.nx m4.σ m4.H := this
                rw [c3, c4, b2] at q
                exact q
              · rw [if_neg hx] at w2; exact w2.elim
            · exact w2.elim
          · exact w1.elim
        · exact w1.elim
      · exact w1.elim
    · exact w.elim⟩
end
end L3
namespace L3
open PySem L2
section
variable {X : Cx} {C : Cn} {E : WX} {e a b o : Expr} {pos : Pos} {T T1 T2 T3 : List Nat} {fs : MA} {es : List Expr} {f f1 f2 f3 : ME}
def mPop0 (Tx : List Nat) (f : ME) : ME := fun env => (f env).bind fun r e1 => match r with
  | .bor x p (.lst (.s d :: os)) => if x ∈ Tx then (match poke x p (.lst os) e1 with
      | some e2 => .ok (.val d) e2
      | none => .bad) else .bad
  | _ => .bad
theorem e_pop0 (Tx : List Nat) (hK : X.K = C.K) (h : PE X e (tBM X.K "list" rPopAt (rdE C E T1 f1) (tCons (tC (.int 0)) tNil))) : PE X e (rdE C E (T1 ++ Tx) (mPop0 Tx f1)) :=
  PE.wk h fun σ H Q ⟨m, e1, e2, S, w⟩ => ⟨m, e1, e2, S, Want.imp w.bind fun r env w => fun v m' e3 e4 S' s ok => by
    subst e3
    split at w
    · rename_i x p d os
      by_cases hz : x ∈ Tx
      · rw [if_pos hz] at w
        obtain ⟨f0, a, xs, fl, rfl, rfl, hl, rr⟩ := ok.bor S'
        rw [hK]
        obtain ⟨v', vs', f', g', rfl, rfl, ⟨rfl, rr2⟩, rr1⟩ := id rr
        obtain ⟨env', hp, m3, b1, b2, b3, b4, S3, s3, b5⟩ := poke_ok (ho := .lst vs') (o' := .lst os) s S' ok (fun fr hr na nd inx => by
          obtain ⟨a2, xs2, f4, e, e', hl4, rr4⟩ := hr
          cases e; cases e'
          rw [hl] at hl4; cases hl4
          obtain ⟨v2, vs2, f2, g2, ev, rfl, ⟨rfl, _⟩, rr5⟩ := rr4
          cases ev
          exact ⟨g2, ⟨a, _, _, rfl, rfl, upd_same, rr5.upd (by simpa using na)⟩, by simpa using nd, fun b hb => .inl (by simpa using hb)⟩) ⟨[] ++ g', a, _, [] ++ g', rfl, rfl, hl, rr⟩
        rw [hp] at w
        refine ⟨.inl ⟨rfl, _, .inl (.inl hl)⟩, a, _, 0, 0, v', rfl, rfl, hl, by omega, by omega, ?_, rfl, ?_⟩
        · unfold seqIndex?
          simp
        have := w v' m3 b1 (b4.trans e4) S3 (s3.wk (fun i hi => by
          simp only [List.mem_append] at hi ⊢
          rcases hi with z | z
          · exact .inl z
          · have : i = x := by simpa using z
            exact .inr (by rw [this]; exact hz))) (by show RpD C.K C.cl m3.F d v'; rw [b2]; exact rr2)
        rw [b3] at this
        exact this
      · rw [if_neg hz] at w; exact w.elim
    · exact w.elim⟩
end
end L3
namespace L3
open PySem L2 PySem.Spec PyProof.Rows PpSet
def newSetObj (w : World) : Obj := { cls := .type "set", dict := none, data := .set #[] 0 (.fresh 0 0 (!w.params.followText "set-order")) }
def TurnsOk (P : Program) (w : World) (items : Array Value) (S : Addr) (Z : Heap → Prop) : Prop :=
  ∀ (A : Around) (I : Addr) (fp wr : List Addr) (G : Array GenState → Array GenState → Prop) (St : Nat → Shared → Prop) (R : Result → Shared → Prop) (s : Shared), WalksS P w A.in1 I fp wr G items.size (fun i v => items[i]? = some v) St → S ∉ fp → St 0 s → s.heap.get? S = some (newSetObj w) →
    (∀ s', Moved (S :: wr) G s s' → Z s'.heap → R (.ok (.ret .none)) s') → codeAny (model P w) A (.builtin "set.update.loop" ⟨[.ref S, .ref I], []⟩) R s
section
variable {P : Program} {w : World} {A : Around} {E : Value → Shared → Prop} {s : Shared}
theorem set_of_lst {l : Addr} {items : Array Value} {Z : Heap → Prop} {Q : Value → Shared → Prop} (hh : A.handled = none) (hl : s.heap.IsList l items) (ht : TurnsOk P w items s.heap.objs.size Z)
    (h : ∀ (h' : Heap) (tk : Nat), Z h' → (∀ b o, s.heap.get? b = some o → h'.get? b = some o) → Q (.ref s.heap.objs.size) { s with heap := h', toks := tk }) :
    wpAny (model P w) A (call (.type "set") [.ref l]) Q E s := by
  obtain ⟨c, tl, hmro⟩ := F.called_set.mro
  have hmade := F.called_set.made
  have hsub := F.called_set.sub
  refine wpAny_call (codeAny_of_tree ?_)
  show wpAny _ _ (callAny (.type "set") _) _ _ _
  refine wpAny_pure ⟨Code.quiet_builtin _ (by decide +kernel), codeAny_builtin F.entry_type_call ?_⟩
  rw [Around.under_plain (weight_type_call_type "set" [.ref l] []) rfl]
  have h1 := F.called_set.notType
  have h2 := F.called_set.canCreate
  have hct := F.typeCall_set_1 (.ref l)
  repeat (any_goals (first | assumption | wp_step))
  refine codeAny_mono (code_set_led1 (.ref l) (E := E) (Q₁ := fun obj s₁ => obj = .ref s.heap.objs.size ∧ s₁ = { s with heap := s.heap.push (newSetObj w) }) ⟨rfl, rfl⟩) fun r s₁ hr => ?_
  cases r with
  | error e => exact hr
  | ok fl =>
    cases fl with
    | ret obj =>
      obtain ⟨rfl, rfl⟩ := hr
      have hS : (s.heap.push (newSetObj w)).get? s.heap.objs.size = some (newSetObj w) := Heap.get?_push_size _ rfl
      have hT : Shared.TypeIs { s with heap := s.heap.push (newSetObj w) } (.ref s.heap.objs.size) "set" := ⟨_, hS, rfl⟩
      have hli := F.called_set.init.lookup
      have hbi := F.called_set.init.bind (.ref s.heap.objs.size)
      repeat (any_goals (first | assumption | wp_step))
      refine codeAny_mono (codeAny_call_builtin (R := wants (fun r s₂ => r = .none ∧ ∃ h' tk, s₂ = { s with heap := h', toks := tk } ∧ Z h' ∧
          (∀ b o, s.heap.get? b = some o → h'.get? b = some o)) E) F.called_set.init.plain F.entry_set_init (check_set_init_1 hT ?_)) fun r₂ s₂ hr₂ => ?_
      · obtain ⟨ol, hol, hcl, nl, hdl⟩ := hl
        obtain ⟨ocls, odict, odata, oslots⟩ := ol
        simp only at hcl hdl
        subst hcl
        subst hdl
        have hol' : (s.heap.push (newSetObj w)).get? l = some { cls := .type "list", dict := odict, data := .seq items nl, slots := oslots } := Heap.get?_push_of_some _ hol
        have hsls := F.sub_list_set
        have hslf := F.sub_list_frozenset
        have hne : (Value.type "list" == Value.type "dict") = false := by decide
        have hl1 : (s.heap.push (newSetObj w)).IsList l items := ⟨_, hol', rfl, nl, rfl⟩
        unfold Builtin.«set.__init__» noKeywords Builtin.Frozenset.updateFrom
        generalize hPI : pyIter = PI
        wp_walk
        subst hPI
        refine wpAny_pyIter_list hl1 ?_
        refine wpAny_bind (wpAny_runValue ?_)
        have hlS : l < s.heap.objs.size := Heap.lt_size hol
        have hh3 : A.in1.in1.in1.handled = none := by simp [hh]
        have hneI : l ≠ (s.heap.push (newSetObj w)).objs.size := by
          rw [Heap.size_push]; exact Nat.ne_of_lt (Nat.lt_succ_of_lt hlS)
        have hSf : s.heap.objs.size ∉ [(s.heap.push (newSetObj w)).objs.size, l] := by
          rw [Heap.size_push]; simp only [List.mem_cons, List.mem_singleton, List.not_mem_nil, or_false, not_or]
          exact ⟨Nat.ne_of_lt (Nat.lt_succ_self _), Nat.ne_of_gt hlS⟩
        refine ht _ _ _ _ _ _ _ _ ((Walks.list hh3 _ l hneI items).toS) hSf ⟨⟨_, Heap.get?_push_size _ rfl, rfl, rfl⟩, (hl1.push _)⟩ (Heap.get?_push_of_some _ hS) ?_
        intro s' hm hZ
        obtain ⟨h', g2, d', tk', os'⟩ := s'
        have eg : g2 = s.gens := hm.gens
        have ed : d' = s.drawn := hm.drawn
        have eo : os' = s.os := hm.os
        subst eg; subst ed; subst eo
        show wpAny _ _ _ _ _ _
        refine wpAny_pure ?_
        show wpAny _ _ (ret Value.none) _ _ _
        refine wpAny_pure ⟨rfl, h', tk', rfl, hZ, fun b o e => ?_⟩
        have hb0 : b < s.heap.objs.size := Heap.lt_size e
        have hb1 : b ≠ s.heap.objs.size := Nat.ne_of_lt hb0
        have hb2 : b ≠ (s.heap.push (newSetObj w)).objs.size := by
          rw [Heap.size_push]; exact Nat.ne_of_lt (Nat.lt_succ_of_lt hb0)
        exact hm.heap b o (by simp only [List.mem_cons, List.mem_singleton, List.not_mem_nil, or_false, not_or]; exact ⟨hb1, hb2⟩) (Heap.get?_push_of_some _ (Heap.get?_push_of_some _ e))
      · cases r₂ with
        | error e => exact hr₂
        | ok fl₂ =>
          cases fl₂ with
          | ret r =>
            obtain ⟨rfl, h', tk, rfl, hZ, hk'⟩ := hr₂
            repeat (any_goals (first | assumption | wp_step))
            exact h _ _ hZ hk'
          | _ => exact hr₂.elim
    | _ => exact hr.elim
theorem turns_ints {items : Array Value} {ns : List Int} {S : Addr} (hit : IntsAre items.toList ns) (hb : ns.length + 1 < scanBound) : TurnsOk P w items S fun h => ∃ c, c ≤ ns.length ∧ SetR w h S (fun j => decide (j ∈ ns)) c := by
  intro A I fp wr G St R s W hSf st hget hR
  have hisz : items.size = ns.length := by
    have q := IntsAre.length hit
    rw [Array.length_toList] at q
    exact q
  have hval : ∀ (i : Nat) (v : Value), items[i]? = some v → ∃ k t, ns[i]? = some k ∧ v = .int k t := fun i v hv => by
    have hi : i < ns.length := by rw [← hisz]; exact (Array.getElem?_eq_some_iff.mp hv).1
    obtain ⟨t, e⟩ := PyProof.Rows.IntsAre.int_at hit i v (by rw [Array.getElem?_toList]; exact hv)
    refine ⟨ns[i], t, List.getElem?_eq_getElem hi, ?_⟩
    rw [e, List.getD_eq_getElem?_getD, List.getElem?_eq_getElem hi] <;> rfl
  exact set_update_ints W S hSf ns hisz hb hval (items.size - 0) 0 s rfl (Nat.zero_le _) st ⟨0, Nat.le_refl 0, setR_new_at hget⟩ fun s' c hm hc hs => hR s' hm ⟨c, by omega, hs⟩
def cntB (bs : List Bool) : Nat := (if true ∈ bs then 1 else 0) + (if false ∈ bs then 1 else 0)
theorem cntB_add (bs : List Bool) (b : Bool) : cntB (bs ++ [b]) = if decide (b ∈ bs) = true then cntB bs else cntB bs + 1 := by
  unfold cntB
  cases b <;> by_cases h1 : true ∈ bs <;> by_cases h2 : false ∈ bs <;> simp [h1, h2]
theorem cntB_le (bs : List Bool) : cntB bs ≤ 2 := by
  unfold cntB
  split <;> split <;> omega
theorem setB_new_at {h : Heap} {a : Addr} (ho : h.get? a = some (newSetObj w)) : SetB w h a (fun j => decide (j ∈ ([] : List Bool))) 0 :=
  ⟨_, #[], 0, _, ho, ⟨rfl, rfl, rfl⟩, rfl, (fun e he => by simp at he), (by simp), (fun k => by simp), (by decide), (by rfl), rfl, List.Pairwise.nil, by
    show _ ∨ (!w.params.followText "set-order") = true
    cases w.params.followText "set-order"
    · exact .inr rfl
    · exact .inl rfl⟩
theorem turns_go {I : Addr} {fp wr : List Addr} {G : Array GenState → Array GenState → Prop} {n : Nat} {St : Nat → Shared → Prop} {R : Result → Shared → Prop} {Pv : Nat → Value → Prop}
    (W : WalksS P w A.in1 I fp wr G n Pv St) (S : Addr) (hSf : S ∉ fp) (bs : List Bool) (hn : n = bs.length) (hval : ∀ i v, Pv i v → ∃ b, bs[i]? = some b ∧ v = .bool b) :
    ∀ (k i : Nat) (s : Shared), n - i = k → i ≤ n → St i s → SetB w s.heap S (fun j => decide (j ∈ bs.take i)) (cntB (bs.take i)) →
      (∀ s', Moved (S :: wr) G s s' → SetB w s'.heap S (fun j => decide (j ∈ bs)) (cntB bs) → R (.ok (.ret .none)) s') →
      codeAny (model P w) A (.builtin "set.update.loop" ⟨[.ref S, .ref I], []⟩) R s := by
  have hSw : S ∉ wr := fun h => hSf (W.sub _ h)
  have hsub : ∀ b ∈ wr, b ∈ S :: wr := fun b hb => List.mem_cons_of_mem _ hb
  intro k
  induction k with
  | zero =>
    intro i s hk' hi hst hS hR
    have hin : i = n := by omega
    subst hin
    refine codeAny_builtin F.entry_set_update_loop ?_
    rw [Around.under_plainId F.plain_set_update_loop _]
    show wpAny _ A.in1 (pyNext (.ref I) >>= _) _ _ s
    refine wpAny_bind (W.done s _ _ hst fun s' hm => ?_)
    show wpAny _ A.in1 (ret Value.none) _ _ s'
    have e : bs.take i = bs := List.take_of_length_le (by omega)
    rw [e] at hS
    exact wpAny_pure (hR s' (hm.mono hsub) (hS.at fun o e => hm.heap S o hSw e))
  | succ k ih =>
    intro i s hk' hi hst hS hR
    have hlt : i < n := by omega
    refine codeAny_builtin F.entry_set_update_loop ?_
    rw [Around.under_plainId F.plain_set_update_loop _]
    show wpAny _ A.in1 (pyNext (.ref I) >>= _) _ _ s
    refine wpAny_bind (W.item i s _ _ hlt hst fun v s' hP hst' hm => ?_)
    obtain ⟨z, hz, rfl⟩ := hval i v hP
    have hS' : SetB w s'.heap S (fun j => decide (j ∈ bs.take i)) (cntB (bs.take i)) := hS.at fun o e => hm.heap S o hSw e
    show wpAny _ A.in1 (holding [Value.bool z] (setAdd S (.bool z)) >>= _) _ _ s'
    refine wpAny_bind (wpAny_holding ?_)
    unfold setAdd
    refine wpAny_holding ?_
    refine wpAny_bind ((boolK P w).pyHash (k := z) (boolK_is P w z) ?_)
    have rm := cntB_le (bs.take i)
    refine setB_add_hashed (s := { s' with toks := s'.toks + 1 }) hS' (by
      show cntB _ + 1 < scanBound
      have h3 : (3 : Nat) < scanBound := by decide
      exact Nat.lt_of_le_of_lt (by omega) h3) fun h' hsb hS2 => ?_
    have et : bs.take (i + 1) = bs.take i ++ [z] := by rw [List.take_add_one, hz]; rfl
    have hS3 : SetB w h' S (fun j => decide (j ∈ bs.take (i + 1))) (cntB (bs.take (i + 1))) := by
      rw [et, cntB_add]
      exact hS2.congr fun j => by simp [List.mem_append]
    refine wpAny_pure ⟨plainId_quiet F.plain_set_update_loop _, ih (i + 1) _ (by omega) hlt (W.frame _ s' _ _ hst' (Nat.le_succ _) fun b hb o e => ?_) hS3 fun s'' hm'' hS'' => ?_⟩
    · rw [hsb.2 b (fun h : b = S => hSf (by rw [← h]; exact hb))]; exact e
    · refine hR s'' (Moved.trans W.gtrans ((hm.mono hsub).then_heap (Nat.le_succ _) fun b o hb e => ?_) hm'') hS''
      rw [hsb.2 b (fun h : b = S => hb (by rw [h]; exact List.mem_cons_self))]; exact e
theorem turns_flags {items : Array Value} {bs : List Bool} {S : Addr} (hit : items.toList = bs.map Value.bool) : TurnsOk P w items S fun h => SetB w h S (fun j => decide (j ∈ bs)) (cntB bs) := by
  intro A I fp wr G St R s W hSf st hget hR
  have hisz : items.size = bs.length := by
    have q := congrArg List.length hit
    rw [Array.length_toList, List.length_map] at q
    exact q
  refine turns_go W S hSf bs hisz (fun i v hv => ?_) (items.size - 0) 0 s rfl (Nat.zero_le _) st (setB_new_at hget) fun s' hm hs => hR s' hm hs
  have hv2 : items.toList[i]? = some v := by rw [Array.getElem?_toList]; exact hv
  rw [hit, List.getElem?_map] at hv2
  cases q : bs[i]? with
  | none => rw [q] at hv2; cases hv2
  | some b => rw [q] at hv2; cases hv2; exact ⟨b, rfl, rfl⟩
end
end L3
namespace L3
open PySem L2 PySem.Spec PyProof.Rows PpSet
def rSetOfI (K : PySem.W.Frag) (w : World) : List V → Hp → VK → Prop := fun vs H Q => ∃ (a : Addr) (ns : List Int), vs = [V.ref a] ∧ SqL K H a (ns.map V.int) ∧ ns.length + 1 < scanBound ∧
  ∀ p c, H p = none → c ≤ ns.length → Q (.ref p) (upd H p (SetO w p (fun j => decide (j ∈ ns)) c))
def rSetOfB (K : PySem.W.Frag) (w : World) : List V → Hp → VK → Prop := fun vs H Q => ∃ (a : Addr) (bs : List Bool), vs = [V.ref a] ∧ SqL K H a (bs.map V.bl) ∧
  ∀ p, H p = none → Q (.ref p) (upd H p (SetBO w p (fun j => decide (j ∈ bs)) (cntB bs)))
theorem vals_bls : ∀ {bs : List Bool} {us : List Value}, Vals (bs.map V.bl) us → us = bs.map Value.bool
  | [], us, h => by cases h; rfl
  | b :: bs, us, h => by
    cases h with
    | cons h1 h2 =>
      rw [vals_bls h2]
      cases h1
      rfl
section
variable {X : Cx}
theorem cr_setOfI (hc : X.calm = true) : CallR X (.type "set") (rSetOfI X.K X.w) := by
  intro pins s σ H vs us Q I r h
  obtain ⟨a, ns, rfl, hs, hb, q⟩ := h
  obtain ⟨its, rv, hl, hz⟩ := I.list hs
  rw [Vals.ref1 r]
  refine set_of_lst (I.ok.hd hc) hl.isList (turns_ints (items := its.toArray) (by simpa using rv.ints) hb) fun h' tk ⟨c, hc, R⟩ k => ?_
  have hn : H s.heap.objs.size = none := I.hok.fresh (Nat.le_refl _)
  exact ⟨.ref _, upd H s.heap.objs.size (SetO X.w s.heap.objs.size (fun j => decide (j ∈ ns)) c), I.laid (t' := tk) k (Nat.le_refl _) (setO_new R), rfl, q _ _ hn hc⟩
theorem cr_setOfB (hc : X.calm = true) : CallR X (.type "set") (rSetOfB X.K X.w) := by
  intro pins s σ H vs us Q I r h
  obtain ⟨a, bs, rfl, hs, q⟩ := h
  obtain ⟨its, rv, hl, hz⟩ := I.list hs
  rw [Vals.ref1 r]
  refine set_of_lst (I.ok.hd hc) hl.isList (turns_flags (items := its.toArray) (by simpa using vals_bls rv)) fun h' tk R k => ?_
  have hn : H s.heap.objs.size = none := I.hok.fresh (Nat.le_refl _)
  exact ⟨.ref _, upd H s.heap.objs.size (SetBO X.w s.heap.objs.size (fun j => decide (j ∈ bs)) (cntB bs)), I.laid (t' := tk) k (Nat.le_refl _) (setBO_new R), rfl, q _ hn⟩
def rLenB (w : World) : List V → Hp → VK → Prop := fun vs H Q => ∃ (a : Addr) (S : Bool → Bool) (n : Nat), vs = [V.ref a] ∧ H a = some (SetBO w a S n) ∧ Q (.int (n : Nat)) H
theorem cr_lenOfB : CallR X (.builtin "len") (rLenB X.w) := by
  intro pins s σ H vs us Q I r h
  obtain ⟨a, S, n, rfl, ha, q⟩ := h
  obtain ⟨o, es, ep, t, ho, hex, hd, g, nd, hm, hb, hf, hn, _⟩ := setBO_get I ha
  rw [Vals.ref1 r]
  subst hn
  have : (scanBound : Int) < 2 ^ 63 := by decide
  exact call_len_set ho hex hd hf (by omega) ⟨.int _, H, I.tok _, ⟨_, rfl⟩, q⟩
end
def insS (x : Int) : List Int → List Int
  | [] => [x]
  | y :: ys => if x < y then x :: y :: ys else if x = y then y :: ys else y :: insS x ys
def setS : List Int → List Int
  | [] => []
  | x :: xs => insS x (setS xs)
theorem insS_mem {x k : Int} : ∀ {ys : List Int}, k ∈ insS x ys ↔ k = x ∨ k ∈ ys
  | [] => by simp [insS]
  | y :: ys => by
    unfold insS
    split
    · simp
    · split
      · rename_i h
        subst h
        simp
      · simp only [List.mem_cons, insS_mem (ys := ys)]
        constructor
        · rintro (h | h | h)
          · exact .inr (.inl h)
          · exact .inl h
          · exact .inr (.inr h)
        · rintro (h | h | h)
          · exact .inr (.inl h)
          · exact .inl h
          · exact .inr (.inr h)
theorem insS_pw {x : Int} : ∀ {ys : List Int}, ys.Pairwise (· < ·) → (insS x ys).Pairwise (· < ·)
  | [], _ => by simp [insS]
  | y :: ys, h => by
    have h0 := h
    rw [List.pairwise_cons] at h
    unfold insS
    split
    · rename_i hx
      rw [List.pairwise_cons]
      refine ⟨fun a ha => ?_, h0⟩
      rcases List.mem_cons.mp ha with e | e
      · rw [e]; exact hx
      · have := h.1 a e; omega
    · split
      · exact h0
      · rw [List.pairwise_cons]
        refine ⟨fun a ha => ?_, insS_pw h.2⟩
        rcases insS_mem.mp ha with e | e
        · omega
        · exact h.1 a e
theorem setS_mem {k : Int} : ∀ {ns : List Int}, k ∈ setS ns ↔ k ∈ ns
  | [] => by simp [setS]
  | x :: xs => by
    show k ∈ insS x (setS xs) ↔ _
    rw [insS_mem, setS_mem, List.mem_cons]
theorem setS_pw : ∀ ns : List Int, (setS ns).Pairwise (· < ·)
  | [] => List.Pairwise.nil
  | x :: xs => insS_pw (setS_pw xs)
theorem ris_uniq : ∀ {a b : List Int}, a.Pairwise (· < ·) → b.Pairwise (· < ·) → (∀ k, k ∈ a ↔ k ∈ b) → a = b
  | [], [], _, _, _ => rfl
  | [], y :: ys, _, _, h => by have := (h y).2 (by simp); simp at this
  | x :: xs, [], _, _, h => by have := (h x).1 (by simp); simp at this
  | x :: xs, y :: ys, p, q, h => by
    rw [List.pairwise_cons] at p q
    have e : x = y := by
      have h1 := (h x).1 (by simp)
      have h2 := (h y).2 (by simp)
      rcases List.mem_cons.mp h1 with z | z
      · exact z
      · rcases List.mem_cons.mp h2 with z' | z'
        · exact z'.symm
        · have := q.1 x z; have := p.1 y z'; omega
    subst e
    have : xs = ys := ris_uniq p.2 q.2 fun k => by
      constructor
      · intro hk
        rcases List.mem_cons.mp ((h k).1 (by simp [hk])) with z | z
        · have := p.1 k hk; omega
        · exact z
      · intro hk
        rcases List.mem_cons.mp ((h k).2 (by simp [hk])) with z | z
        · have := q.1 k hk; omega
        · exact z
    rw [this]
def gSortSet : List Rt → Option Rt
  | [r] => match r.items with
    | some (true, ds) => (intsOf ds).bind fun ns => if ns.length < 64 then some (.own (.lst ((setS ns).map fun i => O.s (.int i)))) else none
    | _ => none
  | _ => none
def gLenSet : List Rt → Option Rt
  | [r] => match r.items with
    | some (true, ds) => (blsOf ds).map fun bs => .val (.int (cntB bs : Nat))
    | _ => none
  | _ => none
section
variable {C : Cn}
theorem loc_sortSet {w : World} : LocN C (fun vs H Q => rSetOfI C.K w vs H fun v H1 => rSortedSet w [v] H1 Q) gSortSet := by
  intro m xs rs ry Q S h e k
  unfold gSortSet at e
  split at e
  · rename_i r
    obtain ⟨x, av, rfl, hx⟩ := h.one
    split at e
    · rename_i ds q
      obtain ⟨a, xs, rfl, h1, h2⟩ := hx.items S q
      rw [if_pos rfl] at h2
      cases z : intsOf ds with
      | none => rw [z] at e; cases e
      | some ns =>
        rw [z] at e
        simp only [Option.bind_some] at e
        split at e
        · rename_i h64
          cases e
          have hxs := h1.toInts z
          subst hxs
          refine ⟨a, ns, rfl, h2, Nat.lt_of_le_of_lt (by omega : ns.length + 1 ≤ 65) (by decide), fun p c hp hc => ⟨p, _, c, rfl, upd_same, by omega, fun ns' p' q1 q2 q3 hp' => ?_⟩⟩
          have e1 : ns' = setS ns := ris_uniq q1 (setS_pw ns) fun j => by rw [q2, setS_mem]; simp
          subst e1
          have G1 := gro_own (o := SetO w p (fun j => decide (j ∈ ns)) c) S hp
          have S1 := S.gro G1
          have G2 := gro_own (o := .lst ((setS ns).map V.int)) S1 hp'
          have := own_lst (C := C) (av := fun b => m.H b ≠ none) (xs := (setS ns).map V.int) (ds := (setS ns).map D.int) S1 hp' (rpDs_ints _) (fun z => by
            have hne : p' ≠ p := fun y => by
              subst y
              have hp' : upd m.H p' _ p' = none := hp'
              rw [upd_same] at hp'; cases hp'
            have hp' : upd m.H p _ p' = none := hp'
            rw [upd_ne hne] at hp'
            exact z hp')
          rw [List.map_map] at this
          exact k _ _ (G1.trans G2) this
        · cases e
    · cases e
  · cases e
theorem loc_lenSet {w : World} : LocN C (fun vs H Q => rSetOfB C.K w vs H fun v H1 => rLenB w [v] H1 Q) gLenSet := by
  intro m xs rs ry Q S h e k
  unfold gLenSet at e
  split at e
  · rename_i r
    obtain ⟨x, av, rfl, hx⟩ := h.one
    split at e
    · rename_i ds q
      obtain ⟨a, xs, rfl, h1, h2⟩ := hx.items S q
      rw [if_pos rfl] at h2
      cases z : blsOf ds with
      | none => rw [z] at e; cases e
      | some bs =>
        rw [z] at e
        cases e
        have hxs := h1.toBls z
        subst hxs
        refine ⟨a, bs, rfl, h2, fun p hp => ⟨p, _, _, rfl, upd_same, ?_⟩⟩
        exact k _ _ (gro_own (o := SetBO w p (fun j => decide (j ∈ bs)) (cntB bs)) S hp) rfl
    · cases e
  · cases e
end
section
variable {X : Cx} {C : Cn} {E : WX} {e : Expr} {pos pos2 p p2 : Pos} {T : List Nat} {fs : MA}
theorem e_sortSet (hK : X.K = C.K) (hc : X.calm = true) (hg : Gl X "sorted") (hm : X.mg "sorted" = none) (hg2 : Gl X "set") (hm2 : X.mg "set" = none) (ha : PA X [e] (rdA C E T fs))
    (he : starEach [e] X.env = (false, eval e X.env) :: starEach [] X.env := by rfl) (hpl : (backTo pos2 (starEach [] X.env)).any (·.1) = false := by rfl)
    (he2 : starEach [.Call (.Name "set" p2) [e] [] pos2] X.env = (false, eval (.Call (.Name "set" p2) [e] [] pos2) X.env) :: starEach [] X.env := by rfl) (hpl2 : (backTo pos (starEach [] X.env)).any (·.1) = false := by rfl) :
    PE X (.Call (.Name "sorted" p) [.Call (.Name "set" p2) [e] [] pos2] [] pos) (rdE C E T (mN gSortSet fs)) :=
  PE.wk (pe_callB (cr_sortedSet hc) hg hm (by rfl) (pa_cons (pe_callTy (cr_setOfI hc) hg2 hm2 (by rfl) ha (he := he) (hpl := hpl)) pa_nil he2) (he := he2) (hpl := hpl2)) fun σ H Q h => by
    have := rdN (loc_sortSet (C := C) (w := X.w)) h
    rw [← hK] at this
    exact this
theorem e_lenSet (hK : X.K = C.K) (hc : X.calm = true) (hg : Gl X "len") (hm : X.mg "len" = none) (hg2 : Gl X "set") (hm2 : X.mg "set" = none) (ha : PA X [e] (rdA C E T fs))
    (he : starEach [e] X.env = (false, eval e X.env) :: starEach [] X.env := by rfl) (hpl : (backTo pos2 (starEach [] X.env)).any (·.1) = false := by rfl)
    (he2 : starEach [.Call (.Name "set" p2) [e] [] pos2] X.env = (false, eval (.Call (.Name "set" p2) [e] [] pos2) X.env) :: starEach [] X.env := by rfl) (hpl2 : (backTo pos (starEach [] X.env)).any (·.1) = false := by rfl) :
    PE X (.Call (.Name "len" p) [.Call (.Name "set" p2) [e] [] pos2] [] pos) (rdE C E T (mN gLenSet fs)) :=
  PE.wk (pe_callB cr_lenOfB hg hm (by rfl) (pa_cons (pe_callTy (cr_setOfB hc) hg2 hm2 (by rfl) ha (he := he) (hpl := hpl)) pa_nil he2) (he := he2) (hpl := hpl2)) fun σ H Q h => by
    have := rdN (loc_lenSet (C := C) (w := X.w)) h
    rw [← hK] at this
    exact this
end
end L3
namespace L3
open PySem L2
def getAt : List Stp → O → Option O
  | [], o => some o
  | .attr f :: p, .ins _ ns os => (lk ns os f).bind (getAt p)
  | .idx n :: p, .lst os => os[n]?.bind (getAt p)
  | _, _ => none
def peek (x : Nat) (p : List Stp) (env : Env) : Option O := match env[x]? with
  | some (some o0) => getAt p o0
  | _ => none
theorem at_get {K : PySem.W.Frag} {cl : Nat → Addr} {F H : Hp} : ∀ {p : List Stp} {d0 d : O} {v0 : V} {f0 : Fp}, getAt p d0 = some d → RpO K cl F H d0 v0 f0 → ∃ v, At cl H p d0 v0 d v
  | [], d0, d, v0, f0, h, r => by cases h; exact ⟨v0, rfl, rfl⟩
  | .attr f :: p, d0, d, v0, f0, h, r => by
    cases d0 with
    | ins c ns os =>
      have h : (lk ns os f).bind (getAt p) = some d := h
      cases q : lk ns os f with
      | none => rw [q] at h; cases h
      | some o1 =>
        rw [q] at h
        obtain ⟨a, dx, xs, fl, rfl, rfl, hl, hlen, rr⟩ := r
        obtain ⟨l, g, r', e, k1, _⟩ := RpOs.setL (H' := H) (v := (lk ns xs f).getD .non) (Ex.refl F) rr q (by
          obtain ⟨v, _, k, _⟩ := lk_rp rr q
          rw [k]; rfl)
        obtain ⟨v, h2⟩ := at_get (p := p) h k1
        refine ⟨v, a, o1, _, rfl, .attr hl q ?_ hlen, h2⟩
        obtain ⟨v, _, k, _⟩ := lk_rp rr q
        rw [k]; rfl
    | _ => cases h
  | .idx n :: p, d0, d, v0, f0, h, r => by
    cases d0 with
    | lst os =>
      have h : os[n]?.bind (getAt p) = some d := h
      cases q : os[n]? with
      | none => rw [q] at h; cases h
      | some o1 =>
        rw [q] at h
        obtain ⟨a, xs, fl, rfl, rfl, hl, rr⟩ := r
        obtain ⟨v, g, k1, k2, _⟩ := rr.get q
        obtain ⟨v', h2⟩ := at_get (p := p) h k2
        exact ⟨v', a, o1, v, rfl, .idx hl q k1, h2⟩
    | _ => cases h
  | .key n :: p, d0, d, v0, f0, h, r => by cases d0 <;> cases h
section
variable {C : Cn}
theorem blind {T : List Nat} {m0 m : Mo} {x : Nat} {p : List Stp} {o : O} {a : Addr} {av : Addr → Prop} (s : Step T m0 m) (S : Sta C m) (ok : RtOk C m av (.bor x p o) (.ref a)) :
    ∃ env', poke x p (.s (.adr a)) m.env = some env' ∧ ∃ m' g, m'.env = env' ∧ m'.F = m.F ∧ m'.H = m.H ∧ m'.σ = m.σ ∧ Sta C m' ∧ Step (T ++ [x]) m0 m' ∧ RpO C.K C.cl m.F m.H o (.ref a) g ∧ g.Nodup ∧ (∀ b ∈ g, b ∉ m'.fps.flatten ∧ b ∈ m.fps.flatten) ∧ ∀ b ∈ m'.fps.flatten, b ∈ m.fps.flatten := by
  obtain ⟨o0, v0, e1, e2, e3⟩ := ok
  obtain ⟨v1, f0, s1, s2, s3⟩ := S.slot e1
  rw [e2] at s1; cases s1
  obtain ⟨l, g, r, ef, rg, k⟩ := At.set (H' := m.H) (Ex.refl m.F) s3 e3
  obtain ⟨d0', t1, t2⟩ := k (.s (.adr a)) [] (fun _ _ => rfl) ⟨rfl, rfl⟩
  have nd := S.nd x f0 s2
  rw [ef] at nd
  have nd2 : (l ++ (g ++ r)).Nodup := by simpa using nd
  rw [List.nodup_append] at nd2
  obtain ⟨nl, ngr, dl⟩ := nd2
  rw [List.nodup_append] at ngr
  obtain ⟨ng, nr, dr⟩ := ngr
  have inx : ∀ b ∈ l ++ g ++ r, b ∈ f0 := fun b hb => by rw [ef]; exact hb
  have sub : ∀ b ∈ l ++ [] ++ r, b ∈ f0 := fun b hb => inx b (by
    simp only [List.append_nil, List.mem_append] at hb ⊢
    rcases hb with z | z
    · exact .inl (.inl z)
    · exact .inr z)
  obtain ⟨S2, s4⟩ := put (i := x) (o' := d0') (v' := v0) (fp' := l ++ [] ++ r) (F' := m.F) (H' := m.H) s S s2 (Ex.refl _) S.ex (fun b u hb _ => hb) (fun b hb => hb) (fun b h n => absurd n h) t2 (by
      rw [List.append_nil, List.nodup_append]
      exact ⟨nl, nr, fun b hb c hc e => dl b hb c (by simp [hc]) e⟩) (fun b hb => S.df b (mem_fps s2 (sub b hb))) (fun b hb => .inr (.inl (sub b hb))) (fun _ => e2)
  refine ⟨m.env.set x (some d0'), by unfold poke; rw [e1]; dsimp only; rw [t1]; rfl, m.put m.F m.H x d0' v0 (l ++ [] ++ r), g, rfl, rfl, rfl, set_same e2, S2, s4, rg, ng, fun b hb => ⟨fun z => ?_, mem_fps s2 (inx b (by simp [hb]))⟩, fun b hb => ?_⟩
  · rcases mem_flat_set z with y | ⟨j, f, hj, e, y⟩
    · simp only [List.append_nil, List.mem_append] at y
      rcases y with y | y
      · exact dl b y b (by simp [hb]) rfl
      · exact dr b hb b y rfl
    · exact S.dj j x f f0 b hj e s2 y (inx b (by simp [hb]))
  · rcases mem_flat_set hb with y | ⟨j, f, hj, e, y⟩
    · exact mem_fps s2 (sub b y)
    · exact mem_fps e y
theorem reattach {T : List Nat} {m0 m : Mo} {x : Nat} {p : List Stp} {o' : O} {a : Addr} {fp g' : Fp} {F' H' : Hp} (s : Step T m0 m) (S : Sta C m) (G : GPost m.F m.H fp F' H') (d : ∀ b ∈ fp, b ∉ m.fps.flatten)
    (n0 : ∀ b ∈ fp, m0.H b = none ∨ b ∈ m0.fps.flatten) (own : ∀ b ∈ fp, C.H0 b = none ∨ b ∈ C.io) (hg : peek x p m.env = some (.s (.adr a))) (rg : RpO C.K C.cl F' H' o' (.ref a) g') (nd : g'.Nodup) (fF : ∀ b ∈ g', F' b = none)
    (kg : ∀ b ∈ g', b ∉ m.fps.flatten ∧ (m0.H b = none ∨ b ∈ m0.fps.flatten) ∧ (C.H0 b = none ∨ b ∈ C.io)) :
    ∃ env', poke x p o' m.env = some env' ∧ ∃ m', m'.env = env' ∧ m'.F = F' ∧ m'.H = H' ∧ m'.σ = m.σ ∧ Sta C m' ∧ Step (T ++ [x]) m0 m' ∧ ∀ b ∈ m'.fps.flatten, b ∈ m.fps.flatten ∨ b ∈ g' := by
  obtain ⟨S1, s1⟩ := chg s S G d n0 own
  unfold peek at hg
  split at hg
  · rename_i o0 e1
    obtain ⟨v0, f0, e2, e3, r0⟩ := S1.slot (x := x) (d := o0) e1
    obtain ⟨v, hat⟩ := at_get hg r0
    obtain ⟨l, g, r, ef, rg0, k⟩ := At.set (H' := H') (Ex.refl F') r0 hat
    obtain ⟨eg, ev⟩ := rg0
    subst eg
    have ev : v = .ref a := ev
    subst ev
    obtain ⟨d0', t1, t2⟩ := k o' g' (fun _ _ => rfl) rg
    have nd0 := S1.nd x f0 e3
    rw [ef] at nd0
    have nd2 : (l ++ r).Nodup := by simpa using nd0
    rw [List.nodup_append] at nd2
    obtain ⟨nl, nr, dl⟩ := nd2
    have inx : ∀ b ∈ l ++ r, b ∈ f0 := fun b hb => by rw [ef]; simpa using hb
    have off : ∀ b ∈ l ++ r, b ∉ g' := fun b hb z => (kg b z).1 (mem_fps e3 (inx b hb))
    obtain ⟨S2, s4⟩ := put (i := x) (o' := d0') (v' := v0) (fp' := l ++ g' ++ r) (F' := F') (H' := H') s1 S1 e3 (Ex.refl _) S1.ex (fun b u hb _ => hb) (fun b hb => hb) (fun b h n => absurd n h) t2 (by
        have : (l ++ (g' ++ r)).Nodup := by
          rw [List.nodup_append]
          refine ⟨nl, ?_, fun b hb c hc e => ?_⟩
          · rw [List.nodup_append]
            exact ⟨nd, nr, fun b hb c hc e => off c (by simp [hc]) (by rw [← e]; exact hb)⟩
          · subst e
            rcases List.mem_append.mp hc with z | z
            · exact off b (by simp [hb]) z
            · exact dl b hb b z rfl
        simpa using this) (fun b hb => by
        simp only [List.mem_append] at hb
        rcases hb with (z | z) | z
        · exact S1.df b (mem_fps e3 (inx b (by simp [z])))
        · exact fF b z
        · exact S1.df b (mem_fps e3 (inx b (by simp [z])))) (fun b hb => by
        simp only [List.mem_append] at hb
        rcases hb with (z | z) | z
        · exact .inr (.inl (inx b (by simp [z])))
        · exact .inr (.inr ⟨fun j f e y => (kg b z).1 (mem_fps (m := m) e y), (kg b z).2⟩)
        · exact .inr (.inl (inx b (by simp [z])))) (fun _ => e2)
    refine ⟨m.env.set x (some d0'), by unfold poke; rw [e1]; dsimp only; rw [t1]; rfl, _, rfl, rfl, rfl, set_same (σ := m.σ) e2, S2, s4, fun b hb => ?_⟩
    rcases mem_flat_set hb with y | ⟨j, f, hj, e, y⟩
    · simp only [List.mem_append] at y
      rcases y with (y | y) | y
      · exact .inl (mem_fps (m := m) e3 (inx b (by simp [y])))
      · exact .inr y
      · exact .inl (mem_fps (m := m) e3 (inx b (by simp [y])))
    · exact .inl (mem_fps (m := m) e y)
  · cases hg
end
theorem lk_setLk {α : Type} {f : Str} {y : α} : ∀ {ns : List Str} {os : List α}, (lk ns os f).isSome = true → lk ns (setLk ns os f y) f = some y
  | [], os, h => by simp [lk] at h
  | n :: ns, [], h => by simp [lk] at h
  | n :: ns, o :: os, h => by
    unfold setLk
    by_cases e : n = f
    · simp only [if_pos e]
      unfold lk
      rw [if_pos e]
    · simp only [if_neg e]
      unfold lk at h ⊢
      rw [if_neg e] at h ⊢
      exact lk_setLk h
end L3
namespace L3
open PySem L2
section
variable {C : Cn} {m : Mo}
theorem call_okN {C : Cn} {T Sl : List Nat} {m0 m : Mo} {rs : List Rt} {vs : List V} {os outs : List O} {fp fr fp' : Fp} {F' H' : Hp} (s : Step T m0 m) (S : Sta C m) (ok : RtsOk C m rs vs)
    (hfp : ∀ a ∈ fp, (∃ x f, x ∈ slots rs ∧ m.fps[x]? = some f ∧ a ∈ f) ∨ (a ∉ m.fps.flatten ∧ (m0.H a = none ∨ a ∈ m0.fps.flatten) ∧ (C.H0 a = none ∨ a ∈ C.io))) (hsl : ∀ x ∈ slots rs, x < m.env.length) (hn : (slots rs).Nodup) (hS : ∀ x ∈ slots rs, x ∈ Sl) (G : GPost m.F m.H fp F' H') (Go : GOuts C.K C.cl m.H fp F' H' vs outs fr fp')
    (hl : rs.length = outs.length) : ∃ m', Sta C m' ∧ Step (T ++ Sl) m0 m' ∧ m'.F = F' ∧ m'.H = H' ∧ m'.σ = m.σ ∧ m'.env = putOuts m.env rs outs ∧ ∀ a ∈ fr, a ∉ m'.fps.flatten ∧ (m0.H a = none ∨ a ∈ m0.fps.flatten) ∧ (C.H0 a = none ∨ a ∈ C.io) := by
  obtain ⟨S1, s1, e1, e2, e3, k, k2⟩ := fgs_ok (xs := slots rs) s S
  have fpm : ∀ a ∈ fp, m0.H a = none ∨ a ∈ m0.fps.flatten := fun a ha => by
    rcases hfp a ha with ⟨x, f, _, a2, a3⟩ | z
    · exact s.newO a (mem_fps a2 a3)
    · exact z.2.1
  have fpo : ∀ a ∈ fp, C.H0 a = none ∨ a ∈ C.io := fun a ha => by
    rcases hfp a ha with ⟨x, f, _, a2, a3⟩ | z
    · exact S.own a (mem_fps a2 a3)
    · exact z.2.2
  obtain ⟨S2, s2⟩ := chg (fp := fp) (F' := F') (H' := H') s1 S1 (by rw [e1, e2]; exact G) (fun a ha z => by
    obtain ⟨j, g, j1, j2, j3⟩ := k a z
    rcases hfp a ha with ⟨x, f, a1, a2, a3⟩ | y
    · exact S.dj x j f g a (fun q => j1 (by rw [← q]; exact a1)) a2 j2 a3 j3
    · exact y.1 (mem_fps j2 j3)) fpm fpo
  have nw : ∀ a ∈ fr ++ fp', a ∉ (fgs m (slots rs)).fps.flatten ∧ (m0.H a = none ∨ a ∈ m0.fps.flatten) ∧ (C.H0 a = none ∨ a ∈ C.io) := fun a ha => by
    refine ⟨fun z => ?_, ?_, ?_⟩
    · obtain ⟨j, g, j1, j2, j3⟩ := k a z
      rcases Go.newO a ha with y | y
      · exact S.inH a (mem_fps j2 j3) y
      · rcases hfp a y with ⟨x, f, a1, a2, a3⟩ | y2
        · exact S.dj x j f g a (fun q => j1 (by rw [← q]; exact a1)) a2 j2 a3 j3
        · exact y2.1 (mem_fps j2 j3)
    · rcases Go.newO a ha with y | y
      · exact .inl (Classical.byContradiction fun w => s.dom a w y)
      · exact fpm a y
    · rcases Go.newO a ha with y | y
      · exact .inl (S.h0None y)
      · exact fpo a y
  have nd := Go.nd
  rw [List.nodup_append] at nd
  obtain ⟨m', p1, p2, p3, p4, p5, p6, p7⟩ := puts_ok (rs := rs) (vs := vs) (outs := outs) (fp := fp') (σ := m.σ) s2 S2 e3 Go.rp ok.sls nd.2.1 (fun a ha => ⟨Go.fF a (by simp [ha]), nw a (by simp [ha])⟩) hn (fun x hx => k2 x hx (hsl x hx)) hl
  have envq : ∀ {xs : List Nat} {m : Mo} {rs : List Rt} {outs : List O}, (∀ x ∈ xs, x ∈ slots rs) → rs.length = outs.length → (slots rs).Nodup → putOuts (fgs m xs).env rs outs = putOuts m.env rs outs := by
    intro xs
    induction xs with
    | nil => intro m rs outs _ _ _; rfl
    | cons x xs ih =>
      intro m rs outs h1 h2 h3
      show putOuts (fgs (m.fg x) xs).env rs outs = _
      rw [ih (fun y hy => h1 y (by simp [hy])) h2 h3]
      have z : ∀ {rs : List Rt} {outs : List O} {e : Env} {y : Option O}, x ∈ slots rs → rs.length = outs.length → putOuts (e.set x y) rs outs = putOuts e rs outs := by
        intro rs
        induction rs with
        | nil => intro outs e y h; simp [slots] at h
        | cons r rs ih2 =>
          intro outs e y h hl
          cases outs with
          | nil => simp at hl
          | cons o outs =>
            cases r with
            | sl x' =>
              show putOuts ((e.set x y).set x' (some o)) rs outs = putOuts (e.set x' (some o)) rs outs
              by_cases q : x = x'
              · subst q; rw [List.set_set]
              · rw [List.set_comm _ _ q]
                have h : x ∈ x' :: slots rs := h
                exact ih2 ((List.mem_cons.mp h).resolve_left q) (by simpa using hl)
            | val d => exact ih2 h (by simpa using hl)
            | own d => exact ih2 h (by simpa using hl)
            | bor a b d => exact ih2 h (by simpa using hl)
      exact z (h1 x (by simp)) h2
  refine ⟨m', p1, p2.wk (fun i hi => ?_), p3, p4, p5, ?_, fun a ha => ⟨fun z => ?_, (nw a (by simp [ha])).2⟩⟩
  · simp only [List.mem_append] at hi ⊢
    rcases hi with (z | z) | z
    · exact .inl z
    · exact .inr (hS i z)
    · exact .inr (hS i z)
  · rw [p6]
    exact envq (fun x hx => hx) hl hn
  · rcases p7 a z with y | y
    · exact (nw a (by simp [ha])).1 y
    · exact nd.2.2 a ha a y rfl


end
def isAt : Stp → Bool
  | .attr _ => true
  | _ => false
theorem setLk_setLk {α : Type} {f : Str} {y z : α} : ∀ {ns : List Str} {os : List α}, setLk ns (setLk ns os f y) f z = setLk ns os f z
  | [], os => by simp [setLk]
  | n :: ns, [] => by simp [setLk]
  | n :: ns, o :: os => by
    by_cases e : n = f
    · simp [setLk, e]
    · simp only [setLk, if_neg e, setLk_setLk]
theorem lk_setLk' {f : Str} {y : O} {ns : List Str} {os : List O} {o : O} (h : lk ns os f = some o) : lk ns (setLk ns os f y) f = some y := lk_setLk (by rw [h]; rfl)
theorem getAt_setAt : ∀ {p : List Stp} {o y o' : O}, p.all isAt = true → setAt p o y = some o' → getAt p o' = some y ∧ ∀ z, setAt p o' z = setAt p o z
  | [], o, y, o', _, h => by cases h; exact ⟨rfl, fun z => rfl⟩
  | .attr f :: p, o, y, o', hp, h => by
    cases o with
    | ins c ns os =>
      have h : (lk ns os f).bind (fun o1 => (setAt p o1 y).map fun o1' => O.ins c ns (setLk ns os f o1')) = some o' := h
      cases q : lk ns os f with
      | none => rw [q] at h; cases h
      | some o1 =>
        rw [q] at h
        simp only [Option.bind_some] at h
        cases q2 : setAt p o1 y with
        | none => rw [q2] at h; cases h
        | some o2 =>
          rw [q2] at h
          cases h
          obtain ⟨h1, h2⟩ := getAt_setAt (p := p) (by simpa [isAt] using hp) q2
          refine ⟨?_, fun z => ?_⟩
          · show (lk ns (setLk ns os f o2) f).bind (getAt p) = _
            rw [lk_setLk' q]
            exact h1
          · show (lk ns (setLk ns os f o2) f).bind (fun o1 => (setAt p o1 z).map fun o1' => O.ins c ns (setLk ns (setLk ns os f o2) f o1')) = (lk ns os f).bind (fun o1 => (setAt p o1 z).map fun o1' => O.ins c ns (setLk ns os f o1'))
            rw [lk_setLk' q, q]
            simp only [Option.bind_some, h2, setLk_setLk]
    | _ => cases h
  | .idx _ :: p, o, y, o', hp, h => by simp [isAt] at hp
  | .key _ :: p, o, y, o', hp, h => by simp [isAt] at hp
theorem peek_poke {x : Nat} {p : List Stp} {y : O} {env env' : Env} (hp : p.all isAt = true) (h : poke x p y env = some env') : peek x p env' = some y ∧ ∀ z, poke x p z env' = poke x p z env := by
  unfold poke at h
  split at h
  · rename_i o0 e
    cases q : setAt p o0 y with
    | none => rw [q] at h; cases h
    | some o1 =>
      rw [q] at h
      cases h
      have hx := (List.getElem?_eq_some_iff.mp e).1
      obtain ⟨h1, h2⟩ := getAt_setAt hp q
      have e2 : (env.set x (some o1))[x]? = some (some o1) := List.getElem?_set_self hx
      refine ⟨by unfold peek; rw [e2]; exact h1, fun z => ?_⟩
      unfold poke
      rw [e2, e]
      dsimp only
      rw [h2 z]
      cases setAt p o0 z with
      | none => rfl
      | some o3 => simp
  · cases h
def hasNoP (c : Nat) (mn : Str) : O → Bool
  | .ins c' ns os => decide (c' = c) && (lk ns os mn).isNone
  | _ => false
def mMethP (Tx T2 : List Nat) (c : Nat) (mn : Str) (n : Nat) (fn : List O → Rr) (fo : ME) (fs : MA) : ME := fun env => (fo env).bind fun r e1 => match r with
  | .bor x p o => if x ∈ T2 ∨ hasNoP c mn o = false ∨ x ∉ Tx ∨ p.all isAt = false then .bad else (fs e1).bind fun rs e2 => match argsO e2 rs with
    | some os => if rs.length + 1 = n ∧ slots rs = [] then (match fn (o :: os) with
      | .ok r2 (o' :: _) => (match poke x p o' e2 with
        | some e3 => .ok r2.rr e3
        | none => .bad)
      | _ => .bad) else .bad
    | none => .bad
  | _ => .bad
section
variable {X : Cx} {C : Cn} {E : WX} {e a b o : Expr} {pos : Pos} {T T1 T2 T3 Sl : List Nat} {fs : MA} {es : List Expr} {f fo f1 f2 : ME} {n : Nat} {fn : List O → Rr}
theorem rdMethP {Tx : List Nat} {c n : Nat} {mn : Str} {fn : List O → Rr} {fo : ME} {σ : L2.St} {H : Hp} {Q : VK} (h : rdE C E (T1 ++ (T2 ++ Tx)) (mMethP Tx T2 c mn n fn fo fs) σ H Q) :
    tMethS (C.cl c) mn (spG C.K C.cl n fn) (WE E) (rdE C E T1 fo) (rdA C E T2 fs) σ H Q := by
  obtain ⟨m, e1, e2, S, wO⟩ := h
  refine ⟨m, e1, e2, S, Want.imp wO.bind fun r env w => fun v m1 e3 e4 S1 s1 ok => ?_⟩
  clear wO
  subst e3
  split at w
  · rename_i x p o
    by_cases hh : x ∈ T2 ∨ hasNoP c mn o = false ∨ x ∉ Tx ∨ p.all isAt = false
    · rw [if_pos hh] at w; exact w.elim
    rw [if_neg hh] at w
    simp only [not_or, Decidable.not_not, Bool.not_eq_false] at hh
    obtain ⟨hx2, hno, hxT, hat⟩ := hh
    cases o with
    | ins c' ns os =>
      have hno : (decide (c' = c) && (lk ns os mn).isNone) = true := hno
      rw [Bool.and_eq_true] at hno
      have hc' : c' = c := by simpa using hno.1
      subst hc'
      obtain ⟨f0, a, dx, xs, fl, rfl, rfl, hl, hlen, rr⟩ := ok.bor S1
      refine ⟨a, dx, _, rfl, hl, by rw [lk_zip]; exact lk_none rr.length.symm (by simpa using hno.2), m1, rfl, e4, S1, Want.mono w.bind s1 fun rs env2 w => fun vs m2 a1 a2 S2 s2 ok2 => ?_⟩
      subst a1
      have okr := ok.step S1 s2 (by simpa [Rt.hot] using hx2) (a2.trans e4.symm)
      have s12 := s1.trans s2
      cases ho : argsO m2.env rs with
      | none => rw [ho] at w; exact w.elim
      | some ov =>
        rw [ho] at w
        dsimp only at w
        by_cases hc : rs.length + 1 = n ∧ slots rs = []
        · rw [if_pos hc] at w
          obtain ⟨fp, r1, r2, r3, r4⟩ := args_ok S2 ok2 ho
          have hfp : fp = [] := List.eq_nil_iff_forall_not_mem.mpr fun b hb => by
            obtain ⟨y, f, y1, _⟩ := r2 b hb
            rw [hc.2] at y1
            cases y1
          subst hfp
          obtain ⟨envb, hpk, m2b, g, b1, b2, b3, b4, Sb, sb, rg, ng, kg, subb⟩ := blind s12 S2 okr
          refine ⟨m2.F, _ :: ov, g, by rw [List.length_cons, argsO_len ho, hc.1], S2.ex, ⟨_, _, g, [], rfl, by simp, rg, r1⟩, ng, fun b hb => S2.df b (kg b hb).2, ?_⟩
          split at w
          · rename_i r2' o' outs hf
            rw [hf]
            dsimp only
            intro v F' H' fr fp' G rr2 Go
            obtain ⟨v', vr, f', g', ev, rfl, q1, q2⟩ := Go.rp
            cases ev
            have nd := Go.nd
            rw [List.nodup_append, List.nodup_append] at nd
            have nw : ∀ b, (m2.H b = none ∨ b ∈ g) → b ∉ m2b.fps.flatten ∧ (m.H b = none ∨ b ∈ m.fps.flatten) ∧ (C.H0 b = none ∨ b ∈ C.io) := fun b hb => by
              rcases hb with z | z
              · exact ⟨fun y => S2.inH b (subb b y) z, .inl (Classical.byContradiction fun q => s12.dom b q z), .inl (S2.h0None z)⟩
              · exact ⟨(kg b z).1, s12.newO b (kg b z).2, S2.own b (kg b z).2⟩
            obtain ⟨pp1, pp2⟩ := peek_poke hat hpk
            obtain ⟨env3, hp3, m3, c1, c2, c3, c4, S3, s3, k3⟩ := reattach (m := m2b) (x := x) (p := p) (a := a) (o' := o') (g' := f') (fp := g) (F' := F') (H' := H') sb Sb (by rw [b2, b3]; exact G) (fun b hb => (kg b hb).1)
              (fun b hb => s12.newO b (kg b hb).2) (fun b hb => S2.own b (kg b hb).2) (by rw [b1]; exact pp1) q1 nd.2.1.1 (fun b hb => Go.fF b (by simp [hb])) (fun b hb => nw b (Go.newO b (by simp [hb])))
            rw [b1, pp2] at hp3
            rw [hp3] at w
            have q := w v m3 c1 (c4.trans (b4.trans a2)) S3 (s3.wk fun i hi => by
              simp only [List.mem_append] at hi ⊢
              rcases hi with ((z | z) | z) | z
              · exact .inl z
              · exact .inr (.inl z)
              · have : i = x := by simpa using z
                exact .inr (.inr (by rw [this]; exact hxT))
              · have : i = x := by simpa using z
                exact .inr (.inr (by rw [this]; exact hxT)))
            rw [← c3]
            refine q ?_
            have own : RtOk C m3 (Old m) (.own r2') v := by
              refine ⟨fr, by rw [c2, c3]; exact rr2, nd.1, fun b hb => ⟨by rw [c2]; exact Go.fF b (by simp [hb]), fun z => ?_, (nw b (Go.newO b (by simp [hb]))).2.2, fun z => ?_⟩⟩
              · rcases k3 b z with y | y
                · exact (nw b (Go.newO b (by simp [hb]))).1 y
                · exact nd.2.2 b hb b (by simp [y]) rfl
              · rcases (nw b (Go.newO b (by simp [hb]))).2.1 with y | y
                · exact z.1 y
                · exact z.2 y
            cases r2' with
            | s d => show RpD C.K C.cl m3.F d v; rw [c2]; exact rr2.2
            | lst _ => exact own
            | dk _ _ => exact own
            | dt _ _ => exact own
            | ins _ _ _ => exact own
          · exact w.elim
        · rw [if_neg hc] at w; exact w.elim
    | _ => cases hno
  · exact w.elim
theorem e_mthP {CX : CXT} {k : Nat} {fa : Addr} {fd : FuncData} {ps : List Str} {m : Str} {apos : Pos} {pl : Sem Bool} (Tx : List Nat) (c : Nat) (hc : Cls X.K (C.cl c)) (hm : Meth X.K (C.cl c) m fa) (F : FnOk X.prog X.w X.K X.mg X.base CX k fa fd ps (spG C.K C.cl n fn)) (hr : Room k X.A)
    (hb : Binds X.K fd ps []) (hx : ∀ σ, PassesAt CX X σ (WE E σ)) (he : PE X o (rdE C E T1 fo)) (ha : PA X (e :: es) (rdA C E T2 fs)) (hst : starEach (e :: es) X.env = (false, eval e X.env) :: starEach es X.env := by rfl) (hpl : ((backTo pos (starEach es X.env)).any fun z => z.1) = false := by rfl)
    (ht : eval (.Call (.Attribute o m apos) (e :: es) [] pos) X.env = (do
      let u0 ← eval o X.env
      standAt apos.atName
      let (fu, fi) ← holding [u0] (getMethod u0 m pl)
      callWith pos fu fi (backTo pos (starEach (e :: es) X.env)) (backToKw pos (keywordEach [] X.env))) := by rfl) :
    PE X (.Call (.Attribute o m apos) (e :: es) [] pos) (rdE C E (T1 ++ (T2 ++ Tx)) (mMethP Tx T2 c m n fn fo fs)) :=
  PE.wk (pe_methS (pl := pl) he hc hm F hr hb hx ha hst hpl ht) fun σ H Q h => rdMethP h
end
end L3
namespace L3
open PySem L2
def lcLO (vs : List Nat) (set : D → Env → Option Env) (t : MT) (f : ME) : List D → Env → Rs (List O)
  | [], e => .ok [] e
  | d :: ds, e => match set d (wipeE e vs) with
    | none => .bad
    | some e1 => (t e1).bind fun b e2 => if b = true then (f e2).bind fun r e3 => (match r.o with
      | some y => (lcLO vs set t f ds e3).bind fun ys e4 => .ok (y :: ys) e4
      | none => .bad) else lcLO vs set t f ds e2
def mLcO (Tb vs : List Nat) (set : D → Env → Option Env) (fi : MI) (t : MT) (f : ME) : ME := fun env => (fi env).bind fun src e => if src.hot Tb then .bad else if src.items.length ≤ 16777216 then
  (lcLO vs set t f src.items e).bind fun ys e2 => .ok (.own (.lst ys)) (wipeE e2 vs) else .bad
section
variable {X : Cx} {C : Cn} {E : WX} {e a b tg : Expr} {pos : Pos} {T T1 T2 T3 Tt vs : List Nat} {fs : MA} {es : List Expr} {f f1 f2 : ME} {g : MS} {t : MT} {st : Stmt}
structure FqOk (C : Cn) (m m2 : Mo) (d : Addr) (fq : Fp) : Prop where
  nd : fq.Nodup
  nd0 : d ∉ fq
  k : ∀ b ∈ fq, m2.F b = none ∧ b ∉ m2.fps.flatten ∧ m2.H b ≠ none ∧ (C.H0 b = none ∨ b ∈ C.io) ∧ ¬ Old m b
theorem FqOk.nil {m m2 : Mo} {d : Addr} : FqOk C m m2 d [] := ⟨List.nodup_nil, by simp, fun b hb => by simp at hb⟩
theorem FqOk.upd {m m2 : Mo} {d : Addr} {o : HO} {fq : Fp} (h : FqOk C m m2 d fq) : FqOk C m { m2 with H := L2.upd m2.H d o } d fq :=
  ⟨h.nd, h.nd0, fun b hb => by
    obtain ⟨k1, k2, k3, k4, k5⟩ := h.k b hb
    exact ⟨k1, k2, by show L2.upd m2.H d o b ≠ none; rw [upd_ne fun z => h.nd0 (by rw [← z]; exact hb)]; exact k3, k4, k5⟩⟩
theorem FqOk.go {m m2 m5 : Mo} {d : Addr} {fq : Fp} {T : List Nat} {os : List O} {xs : List V} (h : FqOk C m m2 d fq) (s : Step T m2 m5) (r : RpOs C.K C.cl m2.F m2.H os xs fq) : RpOs C.K C.cl m5.F m5.H os xs fq ∧ FqOk C m m5 d fq := by
  have kp : ∀ b ∈ fq, m5.H b = m2.H b := fun b hb => by
    obtain ⟨k1, k2, k3, k4, k5⟩ := h.k b hb
    cases q : m2.H b with
    | none => exact absurd q k3
    | some o => exact s.keep b o q k2
  refine ⟨r.mono s.exF _ _ _ kp, h.nd, h.nd0, fun b hb => ?_⟩
  obtain ⟨k1, k2, k3, k4, k5⟩ := h.k b hb
  exact ⟨Classical.byContradiction fun z => (s.newF b z k1).elim k3 k2, fun z => (s.newO b z).elim k3 k2, by rw [kp b hb]; exact k3, k4, k5⟩
theorem new_o6 {m m5 m6 : Mo} {r : Rt} {o : O} {v : V} {T : List Nat} (s : Step T m m5) (ok : RtOk C m6 (Old m5) r v) (h : r.o = some o) : ∃ fp, RpO C.K C.cl m6.F m6.H o v fp ∧ fp.Nodup ∧ ∀ b ∈ fp, b ∉ m6.fps.flatten ∧ m6.F b = none ∧ ¬ Old m b ∧ (C.H0 b = none ∨ b ∈ C.io) ∧ ¬ Old m5 b := by
  cases r with
  | val d => cases h; exact ⟨[], ⟨rfl, ok⟩, List.nodup_nil, fun b hb => by simp at hb⟩
  | own o' =>
    cases h
    obtain ⟨fp, r, nd, k⟩ := ok
    refine ⟨fp, r, nd, fun b hb => ?_⟩
    obtain ⟨k1, k2, k3, k4⟩ := k b hb
    exact ⟨k2, k1, fun ha => k4 ⟨s.dom b ha.1, fun z => (s.newO b z).elim ha.1 ha.2⟩, k3, k4⟩
  | bor x p o' => cases h
  | sl x => cases h
theorem rdLcO {set : D → Env → Option Env} {gt : TG} {fi : MI} {σ : L2.St} {H : Hp} {Q : VK} (hg : TgOk C gt Tt set) (hTt : ∀ i ∈ Tt, i ∈ vs) (hvs : ∀ i ∈ vs, i ∉ C.IO)
    (h : rdE C E (T1 ++ (vs ++ (Tt ++ (T2 ++ T3)))) (mLcO (vs ++ (Tt ++ (T2 ++ T3))) vs set fi t f) σ H Q) : tLc (rdI C E T1 fi) gt (rdT C E T2 t) (rdE C E T3 f) vs σ H Q := by
  obtain ⟨m, e1, e2, S, w⟩ := h
  refine ⟨m, e1, e2, S, Want.imp w.bind fun src env w => fun J m1 e3 e4 S1 s1 jok => ?_⟩
  generalize hTb : vs ++ (Tt ++ (T2 ++ T3)) = Tb at w
  have tbv : ∀ i ∈ vs, i ∈ Tb := fun i hi => by rw [← hTb]; simp [hi]
  by_cases hh : src.hot Tb = true
  · rw [if_pos hh] at w; exact w.elim
  rw [if_neg hh] at w
  by_cases hz : src.items.length ≤ 16777216
  rotate_left
  · rw [if_neg hz] at w; exact w.elim
  rw [if_pos hz] at w
  have w := Want.bind w
  have hdep : ∀ x, src.dep = some x → x ∉ Tb := fun x hx z => hh (by unfold Src.hot; rw [hx]; simpa using z)
  subst e3
  intro d hd
  have dF : m1.F d = none := S1.fNone hd
  have d0 : C.H0 d = none := S1.h0None hd
  -- what stays true between the turns
  refine ⟨fun i n H' => n = src.items.length - i ∧ i ≤ src.items.length ∧ ∃ (m2 : Mo) (ds : List O) (xs : List V) (fq : Fp), m2.H = H' ∧ m2.σ.length = σ.length ∧ (∀ j, j ∉ vs → m2.σ[j]? = σ[j]?) ∧ Sta C m2 ∧ Step Tb m1 m2 ∧ m2.H d = some (.lst xs) ∧ m2.F d = none ∧ d ∉ m2.fps.flatten ∧
    (RpOs C.K C.cl m2.F m2.H ds xs fq ∧ FqOk C m m2 d fq) ∧ ds.length ≤ i ∧ Want C E m (lcLO vs set t f (src.items.drop i) m2.env) fun ys env' => ∀ (m3 : Mo) (xs' : List V) (fq' : Fp), m3.env = env' → m3.σ.length = σ.length → (∀ j, j ∉ vs → m3.σ[j]? = σ[j]?) → Sta C m3 → Step Tb m1 m3 → m3.H d = some (.lst xs') → m3.F d = none → d ∉ m3.fps.flatten →
      (RpOs C.K C.cl m3.F m3.H (ds ++ ys) xs' fq' ∧ FqOk C m m3 d fq') → Q (.ref d) m3.H, ⟨_, rfl, Nat.zero_le _, { m1 with H := upd m1.H d (.lst []) }, [], [], [], rfl, by rw [← e4], fun j _ => by rw [← e4], S1.gro (gro_own S1 hd), ((gro_own S1 hd).step S1).wk (by simp), upd_same, dF, fun z => S1.inH d z hd, ⟨⟨rfl, rfl⟩, FqOk.nil⟩, Nat.le_refl _, ?_⟩, ?_⟩
  · rw [List.drop_zero]
    refine Want.imp w fun ys env' w m3 xs' fq' a1 a2 a3 a4 a5 a6 a7 a8 a9 => ?_
    -- the end
    obtain ⟨S4, s4, b1, b2, b3, b4⟩ := reset_ok (σ' := σ) a5 a4 hvs (by rw [a2]) (fun j hj => (a3 j hj).symm)
    rw [List.nil_append] at a9
    obtain ⟨a9, a10⟩ := a9
    have s5 : Step (T1 ++ Tb) m (m3.reset vs σ) := (s1.trans s4).wk fun i hi => by
      simp only [List.mem_append] at hi ⊢
      rcases hi with z | z | z
      · exact .inl z
      · exact .inr z
      · exact .inr (tbv i z)
    have := w (.ref d) (m3.reset vs σ) (by rw [b3, a1]) rfl S4 (hTb ▸ s5) ⟨d :: fq', ⟨d, xs', fq', rfl, rfl, by rw [b2]; exact a6, by rw [b1, b2]; exact a9⟩, List.nodup_cons.mpr ⟨a10.nd0, a10.nd⟩, fun a ha => by
      rcases List.mem_cons.mp ha with z | z
      · subst z
        exact ⟨by rw [b1]; exact a7, fun z => a8 (b4 a z), .inl d0, fun z => s1.dom a z.1 hd⟩
      · obtain ⟨k1, k2, k3, k4, k5⟩ := a10.k a z
        exact ⟨by rw [b1]; exact k1, fun z => k2 (b4 a z), k4, k5⟩⟩
    rw [b2] at this
    exact this
  · rintro i n H' ⟨rfl, hi, m2, ds, xs, fq, rfl, hl, hσ, S2, s2, hD, hF, hp, ⟨r2, q2⟩, hds, w2⟩
    have hdepJ : ∀ x, src.dep = some x → x ∉ Tb := hdep
    obtain ⟨j1, j2⟩ := jok m2 Tb S2 s2 rfl hdepJ i
    by_cases hlt : i < src.items.length
    · obtain ⟨go, yl⟩ := j1 src.items[i] (List.getElem?_eq_getElem hlt)
      rw [List.drop_eq_getElem_cons hlt] at w2
      unfold lcLO at w2
      refine .inr ⟨go, fun H' => ∃ (m3 : Mo) (ds : List O) (xs : List V) (fq : Fp), m3.H = H' ∧ m3.σ.length = σ.length ∧ (∀ j, j ∉ vs → m3.σ[j]? = σ[j]?) ∧ Sta C m3 ∧ Step Tb m1 m3 ∧ m3.H d = some (.lst xs) ∧ m3.F d = none ∧ d ∉ m3.fps.flatten ∧
        (RpOs C.K C.cl m3.F m3.H ds xs fq ∧ FqOk C m m3 d fq) ∧ ds.length ≤ i + 1 ∧ Want C E m (lcLO vs set t f (src.items.drop (i + 1)) m3.env) fun ys env' => ∀ (m3 : Mo) (xs' : List V) (fq' : Fp), m3.env = env' → m3.σ.length = σ.length → (∀ j, j ∉ vs → m3.σ[j]? = σ[j]?) → Sta C m3 → Step Tb m1 m3 → m3.H d = some (.lst xs') → m3.F d = none → d ∉ m3.fps.flatten →
          (RpOs C.K C.cl m3.F m3.H (ds ++ ys) xs' fq' ∧ FqOk C m m3 d fq') → Q (.ref d) m3.H, fun H' q => ⟨_, by omega, rfl, hlt, q⟩, fun x H' y => ?_⟩
      obtain ⟨m3, rfl, G, rx⟩ := yl x H' y
      have s3 : Step Tb m1 m3 := step_nil S2 s2 G
      have S3 := S2.gro G
      have wl : (wipe σ vs).length = m3.σ.length := by rw [wipe_length, G.σ, hl]
      obtain ⟨S4, s4, b1, b2, b3, b4⟩ := reset_ok (σ' := wipe σ vs) s3 S3 hvs wl (fun j hj => by rw [wipe_get hj, G.σ]; exact (hσ j hj).symm)
      have s4 : Step Tb m1 (m3.reset vs (wipe σ vs)) := s4.wk fun i hi => (List.mem_append.mp hi).elim id (tbv i)
      have s24 : Step vs m2 (m3.reset vs (wipe σ vs)) := by
        have := (reset_ok (σ' := wipe σ vs) (G.step S2) S3 hvs wl (fun j hj => by rw [wipe_get hj, G.σ]; exact (hσ j hj).symm)).2.1
        simpa using this
      cases hs : set src.items[i] (wipeE m2.env vs) with
      | none => rw [hs] at w2; exact w2.elim
      | some e1' =>
        rw [hs] at w2
        have w2 := Want.bind w2
        have dne : m2.H d ≠ none := by rw [hD]; exact fun z => nomatch z
        rw [← b2]
        refine hg (m3.reset vs (wipe σ vs)) _ x e1' _ S4 (by rw [b1]; exact rx) (by rw [b3, G.env]; exact hs) fun m4 a1 a2 a3 a4 => ?_
        have s5 : Step (Tb ++ Tt) m1 m4 := a4 _ _ s4
        have s5 : Step Tb m1 m4 := s5.wk fun i hi => (List.mem_append.mp hi).elim id fun z => tbv i (hTt i z)
        have s25 : Step (vs ++ Tt) m2 m4 := a4 _ _ s24
        have sig4 : m4.σ.length = σ.length ∧ ∀ j, j ∉ vs → m4.σ[j]? = σ[j]? := by
          have q := a4 [] _ (Step.refl [] (m3.reset vs (wipe σ vs)))
          refine ⟨?_, fun j hj => ?_⟩
          · rw [a3.l1, q.len, ← S4.l1]; exact wipe_length σ vs
          · rw [(q.unt j (by simpa using fun z => hj (hTt j z))).2.2.1]
            show (wipe σ vs)[j]? = _
            exact wipe_get hj
        refine ⟨wipe_ext sig4.1 sig4.2, m4, rfl, rfl, a3, ?_⟩
        rw [a1]
        refine Want.mono w2 (s1.trans s5) fun b env' w m5 c1 c2 S5 s6 => ?_
        subst c1
        have s7 : Step Tb m1 m5 := (s5.trans s6).wk fun i hi => (List.mem_append.mp hi).elim id fun z => by rw [← hTb]; simp [z]
        have s27 := s25.trans s6
        have d7 : m5.H d = some (.lst xs) := s27.keep d _ hD hp
        have F7 : m5.F d = none := Classical.byContradiction fun z => (s27.newF d z hF).elim dne hp
        have p7 : d ∉ m5.fps.flatten := fun z => (s27.newO d z).elim dne hp
        cases b with
        | false =>
          dsimp only
          rw [if_neg Bool.false_ne_true] at w ⊢
          exact ⟨m5, ds, xs, fq, rfl, by rw [c2]; exact sig4.1, by rw [c2]; exact sig4.2, S5, s7, d7, F7, p7, q2.go s27 r2, by omega, w⟩
        | true =>
          dsimp only
          rw [if_pos rfl] at w ⊢
          refine ⟨m5, rfl, c2, S5, ?_⟩
          refine Want.mono w.bind (s1.trans s7) fun r env2 w v m6 c3 c4 S6 s8 ok => ?_
          subst c3
          have s9 : Step Tb m1 m6 := (s7.trans s8).wk fun i hi => (List.mem_append.mp hi).elim id fun z => by rw [← hTb]; simp [z]
          have s29 := s27.trans s8
          have d9 : m6.H d = some (.lst xs) := s29.keep d _ hD hp
          have F9 : m6.F d = none := Classical.byContradiction fun z => (s29.newF d z hF).elim dne hp
          have p9 : d ∉ m6.fps.flatten := fun z => (s29.newO d z).elim dne hp
          cases ho : r.o with
          | none => rw [ho] at w; exact w.elim
          | some yd =>
            rw [ho] at w
            have rl := r2.length
            obtain ⟨r3, q3⟩ := q2.go s29 r2
            obtain ⟨fy, ry, ny, ky⟩ := new_o6 (s1.trans s7) ok ho
            have dOld : Old m5 d := ⟨by rw [d7]; exact fun z => (nomatch z), p7⟩
            have fOld : ∀ b ∈ fq, Old m5 b := fun b hb => ⟨((q2.go s27 r2).2.k b hb).2.2.1, ((q2.go s27 r2).2.k b hb).2.1⟩
            have dny : d ∉ fy := fun z => (ky d z).2.2.2.2 dOld
            have q9 : FqOk C m m6 d (fq ++ fy) := ⟨by
                rw [List.nodup_append]
                exact ⟨q3.nd, ny, fun b hb c hc e => (ky c hc).2.2.2.2 (by rw [← e]; exact fOld b hb)⟩, fun z => (List.mem_append.mp z).elim q3.nd0 dny, fun b hb => (List.mem_append.mp hb).elim (q3.k b) fun z => by
                  obtain ⟨k1, k2, k3, k4, k5⟩ := ky b z
                  exact ⟨k2, k1, ry.inH _ _ _ b z, k4, k3⟩⟩
            have r9 : RpOs C.K C.cl m6.F m6.H (ds ++ [yd]) (xs ++ [v]) (fq ++ fy) := r3.append ⟨v, [], fy, [], rfl, by simp, ry, rfl, rfl⟩
            have dnn : d ∉ fq ++ fy := q9.nd0
            refine ⟨xs, d9, by rw [sizeLine_is, rl]; omega, { m6 with H := upd m6.H d (.lst (xs ++ [v])) }, ds ++ [yd], xs ++ [v], fq ++ fy, rfl, by show m6.σ.length = _; rw [c4]; exact sig4.1, by show ∀ j, j ∉ vs → m6.σ[j]? = _; rw [c4]; exact sig4.2, S6.junk F9 p9 d0, Step.junk S1 s9 hd, upd_same, F9, p9, ⟨r9.upd dnn, q9.upd⟩, by simp; omega, ?_⟩
            refine Want.imp w.bind fun ys env' w m8 xs' fq' a1 a2 a3 a4 a5 a6 a7 a8 a9 => ?_
            exact w m8 xs' fq' a1 a2 a3 a4 a5 a6 a7 a8 (by rw [List.append_assoc] at a9; exact a9)
    · have e : i = src.items.length := by omega
      subst e
      rw [List.drop_length] at w2
      refine .inl ⟨j2 rfl, w2 m2 xs fq rfl hl hσ S2 s2 hD hF hp (by rw [List.append_nil]; exact ⟨r2, q2⟩)⟩
end
end L3
namespace L3
open PySem L2 PySem.Spec PyProof.Rows
section
variable {X : Cx} {C : Cn} {E : WX} {e a b tg o o1 o2 ek ev : Expr} {pos apos p1 p2 : Pos} {T T1 T2 T3 Tt vs Sl : List Nat} {fs : MA} {es : List Expr} {f fo f1 f2 : ME} {g : MS} {t : MT} {st : Stmt} {n : Nat} {fn : List O → Rr}
theorem e_lcO {set : D → Env → Option Env} {gt : TG} {fi : MI} (hg : TgOk C gt Tt set) (hTt : ∀ i ∈ Tt, i ∈ vs) (hvs : ∀ i ∈ vs, i ∉ C.IO) (h : PE X e (tLc (rdI C E T1 fi) gt (rdT C E T2 t) (rdE C E T3 f) vs)) :
    PE X e (rdE C E (T1 ++ (vs ++ (Tt ++ (T2 ++ T3)))) (mLcO (vs ++ (Tt ++ (T2 ++ T3))) vs set fi t f)) := PE.wk h fun σ H Q h => rdLcO hg hTt hvs h
def mDK1 (f1 f2 : ME) : ME := fun env => (f1 env).bind fun rk e1 => match rk with
  | .val kd => (f2 e1).bind fun rv e2 => match rv with
    | .val d => match kd.key with
      | some k => .ok (.own (.dk [k] [.s d])) e2
      | none => .bad
    | _ => .bad
  | _ => .bad
theorem e_dk1 (h1 : PE X ek (rdE C E T1 f1)) (h2 : PE X ev (rdE C E T2 f2)) : PE X (.Dict [some ek] [ev] pos) (rdE C E (T1 ++ T2) (mDK1 f1 f2)) :=
  PE.wk (pe_disp (pps_cons h1 h2 pps_nil) rfl rfl (by simp) (by simp)) fun σ H Q ⟨m, e1, e2, S, w⟩ p hp => by
    subst e1
    have G := gro_own (o := .dK []) S hp
    have S0 := S.gro G
    have s0 : Step [] m { m with H := upd m.H p (.dK []) } := G.step S
    have w1 : Want C E m (f1 m.env) _ := w.bind
    refine ⟨{ m with H := upd m.H p (.dK []) }, rfl, e2, S0, Want.mono w1 s0 fun rk env w vk m1 a1 a2 S1 s1 okk => ?_⟩
    subst a1
    split at w
    · rename_i kd
      refine ⟨m1, rfl, a2, S1, Want.mono w.bind (s0.trans s1) fun rv env2 w vv m2 b1 b2 S2 s2 okv => ?_⟩
      subst b1
      split at w
      · rename_i d
        cases hk : kd.key with
        | none => rw [hk] at w; exact w.elim
        | some k =>
          rw [hk] at w
          have s12 := s1.trans s2
          have hpf : p ∉ m.fps.flatten := fun z => S.inH p z hp
          have dne : upd m.H p (.dK []) p ≠ none := by rw [upd_same]; exact fun z => nomatch z
          have hp2 : m2.H p = some (.dK []) := s12.keep p _ upd_same hpf
          have F2 : m2.F p = none := Classical.byContradiction fun z => (s12.newF p z (S.fNone hp)).elim dne hpf
          have q2 : p ∉ m2.fps.flatten := fun z => (s12.newO p z).elim dne hpf
          have hkv := key_v okk hk
          subst hkv
          refine ⟨hp2, [(k, vv)], rfl, by simp, ?_⟩
          have em : mergeK [] [(k, vv)] = [(k, vv)] := rfl
          rw [em]
          exact w (.ref p) { m2 with H := upd m2.H p (.dK [(k, vv)]) } rfl b2 (S2.junk F2 q2 (S.h0None hp)) (Step.junk S ((s0.trans s12).wk (by simp)) hp) ⟨[p], ⟨p, [vv], [], rfl, rfl, upd_same, rfl, vv, [], [], [], rfl, rfl, ⟨rfl, okv⟩, rfl, rfl⟩, by simp, fun a ha => by
            have ha : a = p := by simpa using ha
            subst ha
            exact ⟨F2, q2, .inl (S.h0None hp), fun z => z.1 hp⟩⟩
      · exact w.elim
    · exact w.elim
def gFld (K : PySem.W.Frag) (ta : TE) (f : Str) : TG := fun v σ H Q => ta σ H fun x H1 => ∃ a C dx fs, x = .ref a ∧ H1 a = some (.ins C dx fs) ∧ Cls K C ∧ NoAttr K C f ∧ fs.length < 1000 ∧ Q σ (upd H1 a (.ins C dx (putF f v fs)))
theorem pg_fld {ta : TE} {fl : Str} (ho : PE X o ta) : PG X (.Attribute o fl pos) (gFld X.K ta fl) := ⟨fun pins s σ H v u Q I r h => by
  rw [assign_Attribute]
  refine wpAny_bind (wpAny_holding (thn (ho.run pins s σ H _ I h) fun ov s1 ⟨x, H1, I1, rx, a, C, dx, fs, ex, ea, c, n, l, q⟩ => ?_))
  subst ex
  obtain rfl : ov = Value.ref a := rx
  refine wpAny_bind (wpAny_standAt (wpAny_bind (wpAny_holding (setattr_ok I1 ea c n l r fun s3 I3 => ?_))))
  exact wpAny_release ⟨σ, _, I3, q⟩⟩
def setF (i : Nat) (cs : List Nat) (f : Str) (d : D) (env : Env) : Option Env := match env[i]? with
  | some (some (.ins c ns os)) => if c ∈ cs ∧ ns.length < 1000 ∧ ns.length = os.length then poke i [] (.ins c (putNs ns f) (putL ns os f (.s d))) env else none
  | _ => none
theorem fld_ok {m : Mo} {i : Nat} {cs : List Nat} {fl : Str} {d : D} {v : V} {env' : Env} (S : Sta C m) (rd : RpD C.K C.cl m.F d v) (h : setF i cs fl d m.env = some env') :
    ∃ a c dx fs m', c ∈ cs ∧ m.σ[i]? = some (some (.ref a)) ∧ m.H a = some (.ins (C.cl c) dx fs) ∧ fs.length < 1000 ∧ m'.env = env' ∧ m'.F = m.F ∧ m'.H = upd m.H a (.ins (C.cl c) dx (putF fl v fs)) ∧ m'.σ = m.σ ∧ Sta C m' ∧ Step [i] m m' := by
  unfold setF at h
  split at h
  · rename_i c ns os e1
    by_cases hx : c ∈ cs ∧ ns.length < 1000 ∧ ns.length = os.length
    · rw [if_pos hx] at h
      obtain ⟨hcc, hns, hno⟩ := hx
      obtain ⟨v0, f0, s1, s2, s3⟩ := S.slot e1
      obtain ⟨a, dx, xs, fl2, rfl, rfl, hl, hlen, rr⟩ := id s3
      have okr : RtOk C m (fun _ => False) (.bor i [] (.ins c ns os)) (.ref a) := ⟨_, _, e1, s1, rfl, rfl⟩
      have ry : RpO C.K C.cl m.F m.H (.s d) v [] := ⟨rfl, rd⟩
      obtain ⟨p1, p2, p3⟩ := putF_zip (f := fl) (v := v) hlen
      obtain ⟨env2, hp, m4, c1, c2, c3, c4, S4, s4, c5⟩ := poke_put (T := []) (ho := .ins (C.cl c) dx ((putNs ns fl).zip (putL ns xs fl v))) (o' := .ins c (putNs ns fl) (putL ns os fl (.s d))) (Step.refl [] m) S okr ry List.nodup_nil (fun b hb => by simp at hb) (fun fr hr => by
        obtain ⟨a2, dx2, xs2, f4, e, e', hl4, hl5, rr4⟩ := hr
        cases e; cases e'
        rw [hl] at hl4
        have q'' := Option.some.inj hl4
        injection q'' with _ qd q''
        obtain rfl := zip_inj hlen hl5 q''
        subst qd
        obtain ⟨l, g0, r0, e5, k⟩ := rr4.putV (n := fl) (ns := ns) hno
        exact ⟨l, g0, r0, e5, fun H' h1 h2 h3 => ⟨a, dx, _, _, rfl, rfl, h2, p2, k H' _ v [] h1 h3⟩⟩) ⟨fl2, a, dx, xs, fl2, rfl, rfl, hl, hlen, rr⟩
      rw [hp] at h
      cases h
      exact ⟨a, c, dx, _, m4, hcc, s1, hl, by rw [List.length_zip, ← hlen]; simpa using hns, c1, c2, by rw [p1]; exact c3, c4, S4, s4⟩
    · rw [if_neg hx] at h; cases h
  · cases h
def msAsgF2 (i : Nat) (cs1 cs2 : List Nat) (n1 n2 : Str) (f : ME) : MS := fun env => (f env).bind fun r e => match r with
  | .val (.tup [d1, d2]) => match (setF i cs1 n1 d1 e).bind (setF i cs2 n2 d2) with
    | some e' => .ok .nx e'
    | none => .bad
  | _ => .bad
theorem s_asgF2 {i : Nat} {cs1 cs2 : List Nat} {n1 n2 : Str} {tg' : Expr} (hK : X.K = C.K) (h1 : ∀ c ∈ cs1, Cls C.K (C.cl c) ∧ NoAttr C.K (C.cl c) n1) (h2 : ∀ c ∈ cs2, Cls C.K (C.cl c) ∧ NoAttr C.K (C.cl c) n2)
    (h : PS X (.Assign [tg'] e pos) (tAsg (rdE C E T f) (L2.gTup X.K 2 (gCons (gFld X.K (tVar i) n1) (gCons (gFld X.K (tVar i) n2) gNil))))) : PS X (.Assign [tg'] e pos) (rdS C E (T ++ [i]) (msAsgF2 i cs1 cs2 n1 n2 f)) :=
  PS.wk h fun D σ H ⟨m, e1, e2, S, w⟩ => ⟨m, e1, e2, S, Want.imp w.bind fun r env w => fun v m' e3 e4 S' s ok => by
    subst e3
    split at w
    · rename_i d1 d2
      obtain ⟨q, xs, rfl, sq, v1, r1, rfl, k1, v2, r2, rfl, k2, e5⟩ := ok
      have e5 : r2 = [] := e5
      subst e5
      cases hs : setF i cs1 n1 d1 m'.env with
      | none => rw [hs] at w; exact w.elim
      | some ea =>
        rw [hs] at w
        simp only [Option.bind_some] at w
        cases hs2 : setF i cs2 n2 d2 ea with
        | none => rw [hs2] at w; exact w.elim
        | some eb =>
          rw [hs2] at w
          obtain ⟨a1, c1, dx1, fs1, m1, i1, i2, i3, i4, i5, i6, i7, i8, S1, s1⟩ := fld_ok S' k1 hs
          obtain ⟨a2, c2, dx2, fs2, m2, j1, j2, j3, j4, j5, j6, j7, j8, S2, s2⟩ := fld_ok (m := m1) S1 (by rw [i6]; exact k2) (by rw [i5]; exact hs2)
          rw [hK]
          refine ⟨q, _, rfl, S'.ex.sqT sq.1, rfl, v1, _, rfl, ⟨.ref a1, by rw [← e4]; exact i2, a1, _, dx1, fs1, rfl, i3, (h1 c1 i1).1, (h1 c1 i1).2, i4, v2, _, rfl, ⟨.ref a2, by rw [← e4, ← i8]; exact j2, a2, _, dx2, fs2, rfl, by rw [← i7]; exact j3, (h2 c2 j1).1, (h2 c2 j1).2, j4, rfl, ?_⟩⟩⟩
          have := w m2 j5 S2 ((s.trans (s1.trans s2)).wk fun i hi => by
            simp only [List.mem_append] at hi ⊢
            rcases hi with z | z | z
            · exact .inl z
            · exact .inr z
            · exact .inr z)
          have q : D.nx m2.σ m2.H := this
          rw [j7, j8, i7, i8, e4] at q
          exact q
    · exact w.elim⟩
end
end L3
namespace L3
open PySem L2
open Classical in
noncomputable def mAll {α : Type} (g : Addr → Rs α) : Rs α := if ∀ a, g a = g 0 then g 0 else .bad
theorem mAll_is {α : Type} {g : Addr → Rs α} {r : Rs α} (h : ∀ a, g a = r) : mAll g = r := by
  unfold mAll
  rw [if_pos (fun a => (h a).trans (h 0).symm)]
  exact h 0
theorem want_all {α : Type} {C : Cn} {E : WX} {m : Mo} {g : Addr → Rs α} {W : α → Env → Prop} (h : Want C E m (mAll g) W) (a : Addr) : Want C E m (g a) W := by
  unfold mAll at h
  by_cases q : ∀ a, g a = g 0
  · rw [if_pos q] at h
    rw [q a]
    exact h
  · rw [if_neg q] at h
    exact h.elim
def isAdr (a : Addr) : Option O → Bool
  | some (.s (.adr b)) => decide (b = a)
  | _ => false
def apB3 (x : Nat) (p : List Stp) (os : List O) (a : Addr) (oy : O) (e3 : Env) : Rs Rt :=
  if os.length < 16777216 ∧ isAdr a (peek x p e3) = true then (match poke x p (.lst (os ++ [oy])) e3 with
    | some e4 => .ok (.val .non) e4
    | none => .bad) else .bad
def apB2 (x : Nat) (p : List Stp) (os : List O) (a : Addr) : Rs Rt → Rs Rt
  | .ok y e3 => match y.o with
    | some oy => apB3 x p os a oy e3
    | none => .bad
  | _ => .bad
def apB1 (x : Nat) (p : List Stp) (os : List O) (f2 : ME) (a : Addr) : Option Env → Rs Rt
  | some e2 => apB2 x p os a (f2 e2)
  | none => .bad
noncomputable def mAppB (Tx : List Nat) (f f2 : ME) : ME := fun env => (f env).bind fun r e1 => match r with
  | .bor x p (.lst os) => if x ∈ Tx then mAll fun a => apB1 x p os f2 a (poke x p (.s (.adr a)) e1) else .bad
  | _ => .bad
section
variable {X : Cx} {C : Cn} {E : WX} {e a b tg o o1 o2 ek ev : Expr} {pos apos p1 p2 : Pos} {T T1 T2 T3 Tt vs Sl : List Nat} {fs : MA} {es : List Expr} {f fo f1 f2 : ME} {g : MS} {t : MT} {st : Stmt} {n : Nat} {fn : List O → Rr}
theorem e_appB (Tx : List Nat) (hK : X.K = C.K) (h : PE X e (tBM X.K "list" rAppend (rdE C E T1 f1) (rdA1 C E T2 f2))) : PE X e (rdE C E (T1 ++ (Tx ++ (T2 ++ Tx))) (mAppB Tx f1 f2)) :=
  PE.wk h fun σ H Q ⟨m, e1, e2, S, w⟩ => ⟨m, e1, e2, S, Want.imp w.bind fun r env w => fun v m1 e3 e4 S1 s1 ok => by
    subst e3
    split at w
    · rename_i x p os
      by_cases hx : x ∈ Tx
      · rw [if_pos hx] at w
        obtain ⟨f0, a, xs, fl, rfl, rfl, hl, rr⟩ := ok.bor S1
        have w := want_all w a
        rw [hK]
        obtain ⟨envb, hpk, mb, g, b1, b2, b3, b4, Sb, sb, rg, ng, kg, subb⟩ := blind s1 S1 ok
        obtain ⟨a', xs', fl', ea, rfl, hl', rr'⟩ := rg
        cases ea
        rw [hl] at hl'
        cases hl'
        rw [hpk] at w
        subst b1
        refine ⟨.inl ⟨rfl, xs, .inl (.inl hl)⟩, mb, b3, b4.trans e4, Sb, ?_⟩
        have w : Want C E m (apB2 x p os a (f2 mb.env)) _ := w
        cases hf : f2 mb.env with
        | bad => rw [hf] at w; exact w.elim
        | exc c ds e => rw [hf] at w; exact w.elim
        | ok y env3 =>
          rw [hf] at w
          intro vy m2 a1 a2 S2 s2 oky
          subst a1
          have w : Want C E m (match y.o with | some oy => apB3 x p os a oy m2.env | none => .bad) _ := w
          cases ho : y.o with
          | none => rw [ho] at w; exact w.elim
          | some oy =>
            rw [ho] at w
            dsimp only at w
            unfold apB3 at w
            by_cases hz : os.length < 16777216 ∧ isAdr a (peek x p m2.env) = true
            · rw [if_pos hz] at w
              have hpe : peek x p m2.env = some (.s (.adr a)) := by
                have := hz.2
                unfold isAdr at this
                split at this
                · rename_i b hb
                  have : b = a := by simpa using this
                  rw [hb, this]
                · cases this
              have hHa : ∀ b ∈ a :: fl', mb.H b ≠ none ∧ b ∉ mb.fps.flatten := fun b hb => ⟨by rw [b3]; exact S1.inH b (kg b hb).2, (kg b hb).1⟩
              have kH : ∀ b ∈ a :: fl', m2.H b = m1.H b := fun b hb => by
                cases q : mb.H b with
                | none => exact absurd q (hHa b hb).1
                | some u => rw [s2.keep b u q (hHa b hb).2, ← q, b3]
              have gF : ∀ b ∈ a :: fl', m2.F b = none := fun b hb => Classical.byContradiction fun z => (s2.newF b z (by rw [b2]; exact S1.df b (kg b hb).2)).elim (hHa b hb).1 (hHa b hb).2
              have gP : ∀ b ∈ a :: fl', b ∉ m2.fps.flatten := fun b hb z => (s2.newO b z).elim (hHa b hb).1 (hHa b hb).2
              have gn : ∀ b ∈ a :: fl', (m.H b = none ∨ b ∈ m.fps.flatten) ∧ (C.H0 b = none ∨ b ∈ C.io) := fun b hb => ⟨s1.newO b (kg b hb).2, S1.own b (kg b hb).2⟩
              obtain ⟨fy, ry, ny, ky6⟩ := new_o6 sb oky ho
              have kyb : ∀ b ∈ fy, b ∉ a :: fl' := fun b hb z => (ky6 b hb).2.2.2.2 ⟨(hHa b z).1, (hHa b z).2⟩
              have ky : ∀ b ∈ fy, b ∉ m2.fps.flatten ∧ m2.F b = none ∧ (m.H b = none ∨ b ∈ m.fps.flatten) ∧ (C.H0 b = none ∨ b ∈ C.io) := fun b hb => by
                obtain ⟨k1, k2, k3, k4, _⟩ := ky6 b hb
                refine ⟨k1, k2, ?_, k4⟩
                by_cases y : m.H b = none
                · exact .inl y
                · exact .inr (Classical.byContradiction fun w => k3 ⟨y, w⟩)
              have s12 : Step (T1 ++ [x] ++ T2) m m2 := sb.trans s2
              have any : a ∉ fy := fun z => kyb a z (by simp)
              rw [List.nodup_cons] at ng
              have hH2 : m2.H a = some (.lst xs) := (kH a (by simp)).trans hl
              have G : GPost m2.F m2.H [a] m2.F (upd m2.H a (.lst (xs ++ [vy]))) := ⟨Ex.refl _, fun b u hb => by
                  have : b ≠ a := fun z => by subst z; rw [gF b (by simp)] at hb; cases hb
                  rw [upd_ne this]; exact S2.ex b u hb, fun b u hb hn => by rw [upd_ne (by simpa using hn)]; exact hb, fun b hb => by
                  by_cases z : b = a
                  · subst z; rw [upd_same]; exact fun z => nomatch z
                  · rw [upd_ne z]; exact hb, fun b h1 h2 => absurd h2 h1⟩
              have rr2 : RpOs C.K C.cl m2.F m2.H os xs fl' := rr'.mono (by rw [← b2]; exact s2.exF) _ _ _ (fun b hb => kH b (by simp [hb]))
              obtain ⟨env4, hp4, m4, c1, c2, c3, c4, S4, s4, k4⟩ := reattach (m := m2) (x := x) (p := p) (a := a) (o' := .lst (os ++ [oy])) (g' := a :: (fl' ++ fy)) (fp := [a]) s12 S2 G (fun b hb => by
                  have : b = a := by simpa using hb
                  subst this; exact gP b (by simp)) (fun b hb => by
                  have : b = a := by simpa using hb
                  subst this; exact (gn b (by simp)).1) (fun b hb => by
                  have : b = a := by simpa using hb
                  subst this; exact (gn b (by simp)).2) hpe ⟨a, _, _, rfl, rfl, upd_same, (rr2.upd ng.1).append ⟨vy, [], fy, [], rfl, by simp, ry.upd any, rfl, rfl⟩⟩ (by
                  rw [List.nodup_cons, List.nodup_append]
                  refine ⟨fun z => (List.mem_append.mp z).elim ng.1 any, ng.2, ny, fun b hb c hc e => kyb c hc (by simp [← e, hb])⟩) (fun b hb => by
                  simp only [List.mem_cons, List.mem_append] at hb
                  rcases hb with z | z | z
                  · subst z; exact gF b (by simp)
                  · exact gF b (by simp [z])
                  · exact (ky b z).2.1) (fun b hb => by
                  simp only [List.mem_cons, List.mem_append] at hb
                  rcases hb with z | z | z
                  · subst z; exact ⟨gP b (by simp), gn b (by simp)⟩
                  · exact ⟨gP b (by simp [z]), gn b (by simp [z])⟩
                  · exact ⟨(ky b z).1, (ky b z).2.2⟩)
              rw [hp4] at w
              refine ⟨a, xs, vy, rfl, rfl, hH2, by rw [rr2.length, sizeLine_is]; exact hz.1, ?_⟩
              have := w .non m4 c1 (by rw [c4, a2]) S4 (s4.wk (fun i hi => by
                simp only [List.mem_append] at hi ⊢
                rcases hi with ((z | z) | z) | z
                · exact .inl z
                · have : i = x := by simpa using z
                  exact .inr (.inl (by rw [this]; exact hx))
                · exact .inr (.inr (.inl z))
                · have : i = x := by simpa using z
                  exact .inr (.inl (by rw [this]; exact hx)))) rfl
              rw [c3] at this
              exact this
            · rw [if_neg hz] at w; exact w.elim
      · rw [if_neg hx] at w; exact w.elim
    · exact w.elim⟩
end
end L3
namespace L3
open PySem L2
def m2C (r r1 : Rt) (o : O) (e3 : Env) : Rr → Rs Rt
  | .ok ro [q1, q2, _] => .ok ro.rr (putOuts e3 [r, r1] [q1, q2])
  | _ => .bad
def m2B (Sl : List Nat) (n : Nat) (fn : List O → Rr) (r r1 : Rt) (o : O) (e3 : Env) : Option (List O) → Rs Rt
  | some os => if n = 3 ∧ (slots [r, r1]).Nodup ∧ (∀ x ∈ slots [r, r1], x ∈ Sl) then m2C r r1 o e3 (fn (os ++ [o])) else .bad
  | none => .bad
def mMeth2 (Sl T2 T3 : List Nat) (c : Nat) (mn : Str) (n : Nat) (fn : List O → Rr) (fo f1 f2 : ME) : ME := fun env => (fo env).bind fun r e1 => if hasNo [c] mn e1 r = true then (f1 e1).bind fun r1 e2 => if r1.hot T3 = true then .bad else (f2 e2).bind fun r2 e3 => match r2 with
  | .own o => m2B Sl n fn r r1 o e3 (argsO e3 [r, r1])
  | _ => .bad
  else .bad
section
variable {X : Cx} {C : Cn} {E : WX} {e ea a b o : Expr} {pos : Pos} {T T1 T2 T3 Sl : List Nat} {fs : MA} {es : List Expr} {f fo f1 f2 : ME} {n : Nat} {fn : List O → Rr}
theorem rpOs_app {K : PySem.W.Frag} {cl : Nat → Addr} {F H : Hp} : ∀ {os os2 : List O} {vs vs2 : List V} {fp : Fp}, os.length = vs.length → RpOs K cl F H (os ++ os2) (vs ++ vs2) fp → ∃ f g, fp = f ++ g ∧ RpOs K cl F H os vs f ∧ RpOs K cl F H os2 vs2 g
  | [], os2, [], vs2, fp, _, h => ⟨[], fp, rfl, ⟨rfl, rfl⟩, h⟩
  | [], os2, v :: vs, vs2, fp, l, h => by simp at l
  | o :: os, os2, [], vs2, fp, l, h => by simp at l
  | o :: os, os2, v :: vs, vs2, fp, l, h => by
    obtain ⟨v', r, f, g, ev, rfl, h1, h2⟩ := h
    cases ev
    obtain ⟨f2, g2, rfl, h3, h4⟩ := rpOs_app (by simpa using l) h2
    exact ⟨f ++ f2, g2, by simp, ⟨v, vs, f, f2, rfl, rfl, h1, h3⟩, h4⟩
theorem rdMeth2 {c : Nat} {mn : Str} {σ : L2.St} {H : Hp} {Q : VK} (h : rdE C E (T1 ++ (T2 ++ (T3 ++ Sl))) (mMeth2 Sl T2 T3 c mn n fn fo f1 f2) σ H Q) :
    tMethS (C.cl c) mn (spG C.K C.cl n fn) (WE E) (rdE C E T1 fo) (tCons (rdE C E T2 f1) (tCons (rdE C E T3 f2) tNil)) σ H Q := by
  obtain ⟨m, e1, e2, S, wO⟩ := h
  refine ⟨m, e1, e2, S, Want.imp wO.bind fun r env w => fun v m1 e3 e4 S1 s1 ok => ?_⟩
  clear wO
  subst e3
  by_cases hh : hasNo [c] mn m1.env r = true
  · rw [if_pos hh] at w
    have rc : (∀ T, r.hot T = false) ∧ ∃ a dx fs, v = .ref a ∧ m1.H a = some (.ins (C.cl c) dx fs) ∧ fs.lookup mn = none := by
      unfold hasNo at hh
      split at hh
      · rename_i c' ns ds
        rw [Bool.and_eq_true] at hh
        have hc' : c' = c := by simpa using hh.1
        subst hc'
        obtain ⟨a, dx, xs, rfl, q, l, rr⟩ := ok
        exact ⟨fun _ => rfl, a, dx, _, rfl, S1.ex _ _ q, by rw [lk_zip]; exact lk_none rr.length.symm (by simpa using hh.2)⟩
      · rename_i x
        split at hh
        · rename_i c' ns os he
          rw [Bool.and_eq_true] at hh
          have hc' : c' = c := by simpa using hh.1
          subst hc'
          obtain ⟨v', f', s1', s2, s3⟩ := S1.slot he
          have ok : m1.σ[x]? = some (some v) := ok
          rw [ok] at s1'; cases s1'
          obtain ⟨a, dx, xs, f, rfl, rfl, q, l, rr⟩ := s3
          exact ⟨fun _ => rfl, a, dx, _, rfl, q, by rw [lk_zip]; exact lk_none rr.length.symm (by simpa using hh.2)⟩
        · rename_i c' ns ds he
          rw [Bool.and_eq_true] at hh
          have hc' : c' = c := by simpa using hh.1
          subst hc'
          obtain ⟨v', f', s1', s2, s3⟩ := S1.slot he
          have ok : m1.σ[x]? = some (some v) := ok
          rw [ok] at s1'; cases s1'
          obtain ⟨rfl, a, dx, xs, rfl, q, l, rr⟩ := s3
          exact ⟨fun _ => rfl, a, dx, _, rfl, S1.ex _ _ q, by rw [lk_zip]; exact lk_none rr.length.symm (by simpa using hh.2)⟩
        · cases hh
      · cases hh
    obtain ⟨hot, a, dx, fs', rfl, q1, q2⟩ := rc
    refine ⟨a, dx, fs', rfl, q1, q2, ?_⟩
    refine ⟨m1, rfl, e4, S1, Want.mono w.bind s1 fun r1 env2 w1 v1 m2 a1 a2 S2 s2 ok1 => ?_⟩
    subst a1
    by_cases h1 : r1.hot T3 = true
    · rw [if_pos h1] at w1; exact w1.elim
    rw [if_neg h1] at w1
    have okr2 := ok.step S1 s2 (hot T2) (a2.trans e4.symm)
    refine ⟨m2, rfl, a2, S2, Want.mono w1.bind (s1.trans s2) fun r2 env3 w2 v2 m3 b1 b2 S3 s3 ok2 => ?_⟩
    subst b1
    have okr3 := okr2.step S2 s3 (hot T3) (b2.trans a2.symm)
    have ok13 := ok1.step S2 s3 (by simpa using h1) (b2.trans a2.symm)
    have s13 : Step (T1 ++ T2 ++ T3) m m3 := (s1.trans s2).trans s3
    have rts : RtsOk C m3 [r, r1] [.ref a, v1] := .cons okr3 (.cons ok13 .nil)
    split at w2
    · rename_i r2' o
      cases ho : argsO m3.env [r, r1] with
      | none => rw [ho] at w2; exact w2.elim
      | some os =>
        rw [ho] at w2
        unfold m2B at w2
        dsimp only at w2
        by_cases hc : n = 3 ∧ (slots [r, r1]).Nodup ∧ (∀ x ∈ slots [r, r1], x ∈ Sl)
        · rw [if_pos hc] at w2
          obtain ⟨c1, c2, c3⟩ := hc
          obtain ⟨fp, p1, p2, p3, p4⟩ := args_ok S3 rts ho
          obtain ⟨fo', ry, ny, ky⟩ := new_o6 (s1.trans s2) ok2 (o := o) rfl
          have dj : ∀ b ∈ fp, b ∉ fo' := fun b hb z => by
            obtain ⟨x, f, _, x2, x3⟩ := p2 b hb
            exact (ky b z).1 (mem_fps x2 x3)
          have ol := argsO_len ho
          refine ⟨m3.F, os ++ [o], fp ++ fo', by rw [List.length_append, ol, c1]; rfl, S3.ex, ?_, ?_, fun b hb => ?_, ?_⟩
          · have p9 : RpOs C.K C.cl m3.F m3.H [o] [v2] fo' := ⟨v2, [], fo', [], rfl, by simp, ry, rfl, rfl⟩
            exact p1.append p9
          · rw [List.nodup_append]
            exact ⟨p3 c2, ny, fun b hb c hc e => dj b hb (by rw [e]; exact hc)⟩
          · rcases List.mem_append.mp hb with z | z
            · obtain ⟨x, f, _, x2, x3⟩ := p2 b z
              exact S3.df b (mem_fps x2 x3)
            · exact (ky b z).2.1
          · cases hf : fn (os ++ [o]) with
            | bad => rw [hf] at w2; exact w2.elim
            | exc cc dd oo => rw [hf] at w2; exact w2.elim
            | ok ro outs =>
              rw [hf] at w2
              unfold m2C at w2
              split at w2
              · rename_i r3 qa qb qc heq
                cases heq
                dsimp only
                intro vv F' H' fr fp' G rr Go
                obtain ⟨f', g', ef, rp1, rp2⟩ := rpOs_app (os := [qa, qb]) (os2 := [qc]) (vs := [V.ref a, v1]) (vs2 := [v2]) rfl Go.rp
                subst ef
                have nd := Go.nd
                have nd2 : ((fr ++ f') ++ g').Nodup := by simpa using nd
                rw [List.nodup_append] at nd2
                have Go2 : GOuts C.K C.cl m3.H (fp ++ fo') F' H' [V.ref a, v1] [qa, qb] fr f' := ⟨rp1, nd2.1, fun b hb => Go.fF b (by
                    simp only [List.mem_append] at hb ⊢
                    rcases hb with z | z
                    · exact .inl z
                    · exact .inr (.inl z)), fun b hb => Go.newO b (by
                    simp only [List.mem_append] at hb ⊢
                    rcases hb with z | z
                    · exact .inl z
                    · exact .inr (.inl z))⟩
                obtain ⟨m4, S4, s4, k1, k2, k3, k4, k5⟩ := call_okN (os := os) s13 S3 rts (fun b hb => by
                    rcases List.mem_append.mp hb with z | z
                    · exact .inl (p2 b z)
                    · obtain ⟨y1, y2, y3, y4, y5⟩ := ky b z
                      refine .inr ⟨y1, ?_, y4⟩
                      by_cases y : m.H b = none
                      · exact .inl y
                      · exact .inr (Classical.byContradiction fun w => y3 ⟨y, w⟩)) p4 c2 c3 G Go2 rfl
                have q := w2 vv m4 k4 (k3.trans b2) S4 (by rw [List.append_assoc, List.append_assoc] at s4; exact s4)
                subst k1 k2
                refine q ?_
                have own : RtOk C m4 (Old m) (.own ro) vv := by
                  refine ⟨fr, rr, (List.nodup_append.mp nd2.1).1, fun b hb => ⟨Go.fF b (by simp [hb]), (k5 b hb).1, (k5 b hb).2.2, fun z => ?_⟩⟩
                  rcases (k5 b hb).2.1 with y | y
                  · exact z.1 y
                  · exact z.2 y
                cases ro with
                | s d => exact rr.2
                | lst _ => exact own
                | dk _ _ => exact own
                | dt _ _ => exact own
                | ins _ _ _ => exact own
              · exact w2.elim
        · rw [if_neg hc] at w2; exact w2.elim
    · exact w2.elim
  · rw [if_neg hh] at w; exact w.elim
theorem e_mth2 {CX : CXT} {k : Nat} {fa : Addr} {fd : FuncData} {ps : List Str} {m : Str} {apos : Pos} {pl : Sem Bool} (Sl : List Nat) (c : Nat) (hc : Cls X.K (C.cl c)) (hm : Meth X.K (C.cl c) m fa) (F : FnOk X.prog X.w X.K X.mg X.base CX k fa fd ps (spG C.K C.cl n fn)) (hr : Room k X.A)
    (hb : Binds X.K fd ps []) (hx : ∀ σ, PassesAt CX X σ (WE E σ)) (he : PE X o (rdE C E T1 fo)) (h1 : PE X e (rdE C E T2 f1)) (h2 : PE X ea (rdE C E T3 f2)) (hst : starEach [e, ea] X.env = (false, eval e X.env) :: starEach [ea] X.env := by rfl) (hst2 : starEach [ea] X.env = (false, eval ea X.env) :: starEach [] X.env := by rfl)
    (hpl : ((backTo pos (starEach [ea] X.env)).any fun z => z.1) = false := by rfl)
    (ht : eval (.Call (.Attribute o m apos) [e, ea] [] pos) X.env = (do
      let u0 ← eval o X.env
      standAt apos.atName
      let (fu, fi) ← holding [u0] (getMethod u0 m pl)
      callWith pos fu fi (backTo pos (starEach [e, ea] X.env)) (backToKw pos (keywordEach [] X.env))) := by rfl) :
    PE X (.Call (.Attribute o m apos) [e, ea] [] pos) (rdE C E (T1 ++ (T2 ++ (T3 ++ Sl))) (mMeth2 Sl T2 T3 c m n fn fo f1 f2)) :=
  PE.wk (pe_methS (pl := pl) he hc hm F hr hb hx (pa_cons h1 (pa_cons h2 pa_nil hst2) hst) hst hpl ht) fun σ H Q h => rdMeth2 h
end
end L3
namespace L3
open PySem L2 PySem.Spec PyProof.Rows
structure Own0 (K : PySem.W.Frag) (mg : Str → Option Value) (cn : Str) (C : Addr) : Prop where
  gC : mg cn = some (.ref C)
  q : PySem.W.excIn K C [.type "ValueError", .type "Exception", .type "BaseException", .type "object"] "ValueError.__new__" = true
  kC : PySem.W.keepIn K (.ref C) = true
  exC : PySem.W.subIn K (.ref C) (.type "BaseException") = some true
  tyC : PySem.W.typeIn K (.ref C) = some (.type "type")
section
variable {X : Cx} {C : Cn} {E : WX} {T T1 T2 : List Nat} {g1 : MS}
theorem pmk_own0 {cn : Str} {A : Addr} {p pos : Pos} (O : Own0 X.K X.mg cn A) (hg : Gl X cn) (hdb : (cn == ("__debug__" : Str)) = false := by decide) : PMk X (.Call (.Name cn p) [] [] pos) (fun _ H Q => Q (.ref A) none H) := by
  intro pins s σ H Q I h
  refine wpAny_Call_Name_kw (ld_glob I hg O.gC ?_ hdb)
  refine PySem.W.callWith_K0 I.kIn O.kC ?_
  obtain ⟨bm, N, nm, qn, bs, hdct, sn, sub, ab, col, dd, k0, k1, k2, k3, k5, mN, hC, hN, hni, T⟩ := exc_obj I.kIn O.q
  refine wpAny_call_exc_subT PySem.F.excBase_ValueError T hC hN hni (fun h' e hm => ?_) (by show 0 ≤ sizeLine; rw [sizeLine_eq]; omega)
  exact mk_of I hm (raises_own O.exC O.tyC) h (I.hok.gone hm.new)
theorem s_raiseOwn0 {cn : Str} {c k : Nat} {p pos pos2 : Pos} (hc : X.calm = true) (O : Own0 X.K X.mg cn (C.cl c)) (hg : Gl X cn) (tk : Takes X E) (hdb : (cn == ("__debug__" : Str)) = false := by decide) :
    PS X (.Raise (some (.Call (.Name cn p) [] [] pos)) none pos2) (rdS C E [] (msRaise0 c)) := s_raise0 (ps_raise hc tk (pmk_own0 O hg hdb))
def g2N (g : MS) : Nat → List D → MS := fun _ ds => match ds with
  | [] => g
  | _ => msBad
theorem s_tryNone {x n : Str} {i c : Nat} {CE : Addr} {body suite : List Stmt} {b₀ : Stmt} {np pos pos' : Pos} {g2 : MS} (hs : X.stack = X.env :: X.outer) (hf : X.env.frame = some X.env.locals) (hN : X.N.Nodup) (hi : X.N[i]? = some n) (hln : X.env.kindOf n = some .local) (hc : Names X x (.ref CE))
    (hiO : i ∉ C.IO) (hin : i < C.n) (hcs : PySem.W.exmOne X.K (.ref (C.cl c)) (.ref CE) = some true)
    (hb : ∀ (W : WX) (pn : List (Addr × Obj)) (xe : Value → Shared → Prop), Takes (X.tr pn xe) W → PSs (X.tr pn xe) body (rdS C W T1 g1))
    (hsu : ∀ (C' : Cn) (ea : Addr) (oe : Obj) (dd : Option Addr) (pn : List (Addr × Obj)), ExcIn C C' i ea c [] dd → Zc (.ref (C.cl c)) dd oe → (∃ vs, oe.data = .fields vs) → PSs (X.suite ea ((ea, oe) :: pn)) (b₀ :: suite) (rdS C' (fun _ _ _ _ => True) T2 g2)) :
    PS X (.Try body [.ExceptHandler (some (.Name x np)) (some n) (b₀ :: suite) pos'] [] [] pos) (rdS C E (T1 ++ List.range C.n) (msTryAs [c] i g1 (g2N g2))) := by
  refine s_tryAs (T2 := T2) (cs := [c]) hs hf hN hi hln hc hiO hin (fun c' hc' => ?_) hb fun c' ds C' ea oe dd pn hc' I hz hf => ?_
  · rw [show c' = c by simpa using hc']; exact hcs
  · rw [show c' = c by simpa using hc'] at I hz
    unfold g2N
    split
    · exact hsu C' ea oe dd pn I hz hf
    · exact s_never
theorem e_xisi0 {C' : Cn} {x : Str} {i c : Nat} {p p2 pos : Pos} {ea : Addr} {oe : Obj} {dd : Option Addr} {pn : List (Addr × Obj)} {v : V} {u : Value} {k : Bool} {ec : Expr} (P : ExT X.K (C.cl c)) (I : ExcIn C C' i ea c [] dd) (hz : Zc (.ref (C.cl c)) dd oe) (hf : ∃ vs, oe.data = .fields vs) (hq : PySem.W.kitOne X.K (.ref (C.cl c)) u = some k) (hcv : ClsV v u)
    (hv : PE (X.suite ea ((ea, oe) :: pn)) (.Name x p) (tVar i)) (hc : PE (X.suite ea ((ea, oe) :: pn)) ec (tC v)) (hg : Gl (X.suite ea ((ea, oe) :: pn)) "isinstance") (hm : X.mg "isinstance" = none)
    (he : starEach (.Name x p :: [ec]) X.env = (false, eval (.Name x p) X.env) :: starEach [ec] X.env := by rfl) (hpl : (backTo pos (starEach [ec] X.env)).any (·.1) = false := by rfl) (hst : starEach (ec :: []) X.env = (false, eval ec X.env) :: starEach [] X.env := by rfl) :
    PE (X.suite ea ((ea, oe) :: pn)) (.Call (.Name "isinstance" p2) [.Name x p, ec] [] pos) (rdE C' E [] (mC (.bl k))) :=
  PE.wk (pe_callB (call_isiE P hz hf hq) hg hm rfl (pa_cons hv (pa_cons hc pa_nil hst) he) (by decide) (by decide) he hpl) fun σ H Q h => by
    obtain ⟨m, e1, e2, S, w⟩ := h
    subst e1 e2
    have hi : i ∈ C'.IO := by rw [I.io]; exact List.mem_append_right _ (by simp)
    refine ⟨.ref ea, (S.pin i hi).trans I.v, v, rfl, hcv, fun d' hd' => ?_, ?_⟩
    · rw [I.e rfl] at hd'; cases hd'
    · exact w (.bl k) m rfl rfl S (Step.refl _ _) rfl
end
theorem spG_calmM {K : PySem.W.Frag} {cl : Nat → Addr} {n : Nat} {f : List O → Rr} {vs : List V} {H : Hp} {Q : VK} {E : XK} (h : spG K cl n (calmF f) vs H Q E) : spG K cl n f vs H Q E0 := spG_calm h
theorem CalXM.calm {P : Program} {w : World} {K : PySem.W.Frag} {mg : Str → Option Value} {base : Heap} {k : Nat} {C : Addr} {m : Str} {ps : List Str} {a : Addr} {fd : FuncData} {cl : Nat → Addr} {n : Nat} {f : List O → Rr} (c : CalXM P w K mg base k C m ps (spG K cl n f) a fd) :
    CalM P w K mg base k C m ps (spG K cl n (calmF f)) a fd := ⟨fn_calm c.ok, c.b, c.c, c.m⟩
end L3
namespace L3
open PySem L2
def slB3 (x : Nat) (p : List Stp) (os : List O) (hi : Option Int) (a : Addr) (e3 : Env) : Rs Rt :=
  if isAdr a (peek x p e3) = true then (match poke x p (.lst os) e3 with
    | some e4 => ofO (gSl none hi (.own (.lst os))) e4
    | none => .bad) else .bad
def slB2 (x : Nat) (p : List Stp) (os : List O) (a : Addr) : Rs (Option Int) → Rs Rt
  | .ok hi e3 => slB3 x p os hi a e3
  | _ => .bad
def slB1 (x : Nat) (p : List Stp) (os : List O) (h : MO) (a : Addr) : Option Env → Rs Rt
  | some e2 => slB2 x p os a (h e2)
  | none => .bad
noncomputable def mSlB (Tx : List Nat) (f : ME) (h : MO) : ME := fun env => (f env).bind fun r e1 => match r with
  | .bor x p (.lst os) => if x ∈ Tx then mAll fun a => slB1 x p os h a (poke x p (.s (.adr a)) e1) else .bad
  | _ => .bad
section
variable {X : Cx} {C : Cn} {E : WX} {e a b tg o : Expr} {pos apos p1 p2 : Pos} {T T1 T2 T3 Tt vs Sl : List Nat} {f : ME} {h : MO}
theorem e_slB {hi : Option Expr} (Tx : List Nat) (hK : X.K = C.K) (ha : PE X a (rdE C E T1 f)) (hh : PO X hi (rdO C E T2 h)) :
    PE X (.Subscript a (.Slice none hi none p2) pos) (rdE C E (T1 ++ (Tx ++ (T2 ++ Tx))) (mSlB Tx f h)) :=
  PE.wk (pe_slice sl_all ha po_none hh) fun σ H Q ⟨m, e1, e2, S, w⟩ => ⟨m, e1, e2, S, Want.imp w.bind fun r env w => fun v m1 e3 e4 S1 s1 ok => by
    subst e3
    split at w
    · rename_i x p os
      by_cases hx : x ∈ Tx
      · rw [if_pos hx] at w
        obtain ⟨f0, a, xs, fl, rfl, rfl, hl, rr⟩ := ok.bor S1
        have w := want_all w a
        obtain ⟨envb, hpk, mb, g, b1, b2, b3, b4, Sb, sb, rg, ng, kg, subb⟩ := blind s1 S1 ok
        obtain ⟨a', xs', fl', ea, rfl, hl', rr'⟩ := rg
        cases ea
        rw [hl] at hl'
        cases hl'
        rw [hpk] at w
        subst b1
        refine ⟨mb, b3, b4.trans e4, Sb, ?_⟩
        have w : Want C E m (slB2 x p os a (h mb.env)) _ := w
        cases hf : h mb.env with
        | bad => rw [hf] at w; exact w.elim
        | exc c ds e => rw [hf] at w; exact w.elim
        | ok hi' env3 =>
          rw [hf] at w
          intro m2 a1 a2 S2 s2
          subst a1
          have w : Want C E m (slB3 x p os hi' a m2.env) _ := w
          unfold slB3 at w
          by_cases hz : isAdr a (peek x p m2.env) = true
          · rw [if_pos hz] at w
            have hpe : peek x p m2.env = some (.s (.adr a)) := by
              unfold isAdr at hz
              split at hz
              · rename_i b hb
                have : b = a := by simpa using hz
                rw [hb, this]
              · cases hz
            have hHa : ∀ b ∈ a :: fl', mb.H b ≠ none ∧ b ∉ mb.fps.flatten := fun b hb => ⟨by rw [b3]; exact S1.inH b (kg b hb).2, (kg b hb).1⟩
            have kH : ∀ b ∈ a :: fl', m2.H b = m1.H b := fun b hb => by
              cases q : mb.H b with
              | none => exact absurd q (hHa b hb).1
              | some u => rw [s2.keep b u q (hHa b hb).2, ← q, b3]
            have gF : ∀ b ∈ a :: fl', m2.F b = none := fun b hb => Classical.byContradiction fun z => (s2.newF b z (by rw [b2]; exact S1.df b (kg b hb).2)).elim (hHa b hb).1 (hHa b hb).2
            have gP : ∀ b ∈ a :: fl', b ∉ m2.fps.flatten := fun b hb z => (s2.newO b z).elim (hHa b hb).1 (hHa b hb).2
            have gn : ∀ b ∈ a :: fl', (m.H b = none ∨ b ∈ m.fps.flatten) ∧ (C.H0 b = none ∨ b ∈ C.io) := fun b hb => ⟨s1.newO b (kg b hb).2, S1.own b (kg b hb).2⟩
            have s12 : Step (T1 ++ [x] ++ T2) m m2 := sb.trans s2
            have hH2 : m2.H a = some (.lst xs) := (kH a (by simp)).trans hl
            have G : GPost m2.F m2.H [] m2.F m2.H := ⟨Ex.refl _, S2.ex, fun b u hb hn => hb, fun b hb => hb, fun b h1 h2 => absurd h2 h1⟩
            have rr2 : RpOs C.K C.cl m2.F m2.H os xs fl' := rr'.mono (by rw [← b2]; exact s2.exF) _ _ _ (fun b hb => kH b (by simp [hb]))
            obtain ⟨env4, hp4, m4, c1, c2, c3, c4, S4, s4, k4⟩ := reattach (m := m2) (x := x) (p := p) (a := a) (o' := .lst os) (g' := a :: fl') (fp := []) s12 S2 G (fun b hb => by simp at hb) (fun b hb => by simp at hb) (fun b hb => by simp at hb) hpe ⟨a, _, _, rfl, rfl, hH2, rr2⟩ ng gF (fun b hb => ⟨gP b hb, gn b hb⟩)
            rw [hp4] at w
            have gq : gSl none hi' (.own (.lst os)) = (leaves os).map fun ds => Rt.own (.lst ((cut ds none hi').map O.s)) := by
              unfold gSl Rt.items
              dsimp only
              cases leaves os <;> rfl
            dsimp only at w
            rw [gq] at w
            cases hlv : leaves os with
            | none =>
              rw [hlv] at w
              exact w.elim
            | some ds =>
              rw [hlv] at w
              have wF := w
              obtain rfl := leaves_some hlv
              have rd := (RpOs.leaves rr2).2
              rw [hK]
              refine .inr (.inl ⟨a, xs, rfl, .inl (.inl hH2), fun q hq => ?_⟩)
              have hq4 : m4.H q = none := by rw [c3]; exact hq
              have G4 := gro_own (o := .lst (cut xs none hi')) S4 hq4
              have s5 := step_nil S4 s4 G4
              have := wF (.ref q) _ (G4.env.trans c1) (G4.σ.trans (by rw [c4, a2])) (S4.gro G4) (s5.wk (fun i hi => by
                simp only [List.mem_append] at hi ⊢
                rcases hi with ((z | z) | z) | z
                · exact .inl z
                · have : i = x := by simpa using z
                  exact .inr (.inl (by rw [this]; exact hx))
                · exact .inr (.inr (.inl z))
                · have : i = x := by simpa using z
                  exact .inr (.inl (by rw [this]; exact hx)))) (own_lst S4 hq4 (by rw [c2]; exact rd.cut none hi') (fun z => s4.dom q z.1 hq4))
              rw [c3] at this
              exact this
          · rw [if_neg hz] at w; exact w.elim
      · rw [if_neg hx] at w; exact w.elim
    · exact w.elim⟩
end
end L3
namespace L3
open PySem L2 PySem.Spec PyProof.Rows
theorem tuple_mul0 (l : Addr) (items : Array Value) (n : Nat) (dd : Option Addr) (sl : Array (Option Value)) (u : Tok) (c1 : (items.isEmpty || (0 : Int) == 1) = false) :
    Meets (Builtin.«tuple.__mul__» ⟨[.ref l, .int 0 u], []⟩) (fun _ R s => s.heap.get? l = some { cls := .type "tuple", dict := dd, data := .seq items n, slots := sl } ∧
      R (.ok (.ret (Value.ref s.heap.objs.size))) { s with heap := s.heap.push { cls := Value.type "tuple", data := Data.seq #[] }, toks := s.toks }) :=
  .of_wp fun prog w A R s h => by
    obtain ⟨hp, g, d, tk, os⟩ := s
    obtain ⟨hl, h⟩ := h
    have f1 := AutoSeq1.idx_int
    have hsz : (#[] : Array Value).size ≤ sizeLine := Nat.zero_le _
    wp_walk using wpAny_loadPart' hl
    repeat (first
      | (refine wpAny_ite_false (decide_eq_false (by rw [c1]; exact Bool.false_ne_true)) ?_; wp_walk using wpAny_loadPart' hl)
      | (refine wpAny_ite_false (decide_eq_false (by decide)) ?_; wp_walk using wpAny_loadPart' hl)
      | (refine wpAny_ite_true (decide_eq_true (by simp)) ?_; wp_walk using wpAny_loadPart' hl)
      | (refine wpAny_ite_false (decide_eq_false (Nat.not_lt.mpr hsz)) ?_; wp_walk using wpAny_loadPart' hl))
    exact ⟨_, rfl, h⟩
theorem tuple_mul1 (l : Addr) (items : Array Value) (n : Nat) (dd : Option Addr) (sl : Array (Option Value)) (u : Tok) :
    Meets (Builtin.«tuple.__mul__» ⟨[.ref l, .int 1 u], []⟩) (fun _ R s => s.heap.get? l = some { cls := .type "tuple", dict := dd, data := .seq items n, slots := sl } ∧
      R (.ok (.ret (Value.ref l))) s) :=
  .of_wp fun prog w A R s h => by
    obtain ⟨hp, g, d, tk, os⟩ := s
    obtain ⟨hl, h⟩ := h
    have f1 := AutoSeq1.idx_int
    wp_walk using wpAny_loadPart' hl
    repeat (first
      | (refine wpAny_ite_false (decide_eq_false (by decide)) ?_; wp_walk using wpAny_loadPart' hl)
      | (refine wpAny_ite_true (decide_eq_true (by simp)) ?_; wp_walk using wpAny_loadPart' hl))
    exact ⟨_, rfl, h⟩
def rRepZ (K : PySem.W.Frag) : R2 := fun x y H Q => ∃ l k xs, x = .ref l ∧ y = .int k ∧ SqT K H l xs ∧ xs ≠ [] ∧ (k = 0 ∧ NewT Q H [] ∨ k = 1 ∧ Q (.ref l) H)
theorem op_repZ {X : Cx} : OpR X (binaryOp .Mult) (rRepZ X.K) := by
  intro pins s σ H x y v u Q I rx ry h
  obtain ⟨l, k, xs, rfl, rfl, hT, hne, h1⟩ := h
  cases rx
  obtain ⟨t, rfl⟩ := ry
  obtain ⟨its, r, ⟨⟨cls, dd, data, sl⟩, ho, hc, n, hd⟩, hs⟩ := I.tuple hT
  simp only at hc hd
  subst hc hd
  have hle : its.length = xs.length := r.length.symm
  have hn : its ≠ [] := fun e => hne (by
    rw [e] at hle
    exact List.eq_nil_of_length_eq_zero hle.symm)
  have hi : its.toArray.isEmpty = false := by
    cases its with
    | nil => exact absurd rfl hn
    | cons a b => rfl
  rcases h1 with ⟨rfl, q⟩ | ⟨rfl, q⟩
  · refine wpAny_binaryOp_repeat_ref (T := "tuple") (U := "int") (by decide) ⟨_, ho, rfl⟩ (fun s' => typeIs_int s' 0 t) noFill_tuple_mul F.fills_int_mul F.slot_int_rmul repeat_tuple F.slot_int_index.lookup
      (call_meets F.slot_int_rmul (typeIs_int s 0 t) F.entry_int_rmul (F.args_int_rmul_2 _ _) (int_rmul_tuple 0 t l its.toArray n dd sl)
        ⟨ho, rfl, ⟨_, ho, rfl⟩, call_meets F.slot_tuple_mul ⟨_, ho, rfl⟩ F.entry_tuple_mul (F.args_tuple_mul_2 _ _) (tuple_mul0 l its.toArray n dd sl t (by rw [hi]; rfl)) ⟨ho, ?_⟩⟩)
    exact newT_go I .nil (Nat.zero_le _) q
  · refine wpAny_binaryOp_repeat_ref (T := "tuple") (U := "int") (by decide) ⟨_, ho, rfl⟩ (fun s' => typeIs_int s' 1 t) noFill_tuple_mul F.fills_int_mul F.slot_int_rmul repeat_tuple F.slot_int_index.lookup
      (call_meets F.slot_int_rmul (typeIs_int s 1 t) F.entry_int_rmul (F.args_int_rmul_2 _ _) (int_rmul_tuple 1 t l its.toArray n dd sl)
        ⟨ho, rfl, ⟨_, ho, rfl⟩, call_meets F.slot_tuple_mul ⟨_, ho, rfl⟩ F.entry_tuple_mul (F.args_tuple_mul_2 _ _) (tuple_mul1 l its.toArray n dd sl t) ⟨ho, ?_⟩⟩)
    exact ⟨.ref l, H, I, rfl, q⟩
def rMul2 (K : PySem.W.Frag) : R2 := fun x y H Q => rRepZ K x y H Q ∨ rMul K x y H Q
theorem op_mulAll2 {X : Cx} : OpR X (binaryOp .Mult) (rMul2 X.K) := OpR.or op_repZ op_mulAll
def gMul2 : Rt → Rt → Option Rt
  | .val (.tup ds), .val (.int k) => if ds ≠ [] ∧ k = 0 then some (.val (.tup [])) else if ds ≠ [] ∧ k = 1 then some (.val (.tup ds)) else gMul (.val (.tup ds)) (.val (.int k))
  | r, r' => gMul r r'
section
variable {C : Cn}
theorem loc_mul2 : Loc2 C (rMul2 C.K) gMul2 := by
  intro m x y rx ry rz av av' Q S h1 h2 h k
  unfold gMul2 at h
  split at h
  · rename_i ds j
    split at h
    · rename_i z
      cases h
      obtain ⟨z1, rfl⟩ := z
      obtain ⟨a, xs, rfl, q1, r1⟩ := h1
      refine .inl ⟨a, 0, xs, rfl, h2, S.ex.sqT q1.1, fun e => z1 (by subst e; exact List.eq_nil_of_length_eq_zero r1.length.symm), .inl ⟨rfl, fun p o hp hd => ?_⟩⟩
      have g : Gro m { m with F := upd m.F p (.frz o (.tup [])), H := upd m.H p (.frz o (.tup [])) } := gro_new S hp
      exact k _ _ g ⟨p, _, rfl, SqP.new hd, rfl⟩
    · split at h
      · rename_i z
        cases h
        obtain ⟨z1, rfl⟩ := z
        have h1' := h1
        obtain ⟨a, xs, rfl, q1, r1⟩ := h1
        exact .inl ⟨a, 1, xs, rfl, h2, S.ex.sqT q1.1, fun e => z1 (by subst e; exact List.eq_nil_of_length_eq_zero r1.length.symm), .inr ⟨rfl, k _ m (Gro.refl S) h1'⟩⟩
      · exact .inr (loc_mul m x y _ _ rz av av' Q S h1 h2 h k)
  · exact .inr (loc_mul m x y _ _ rz av av' Q S h1 h2 h k)
end
end L3
namespace L3
open PySem L2
def Leq {α : Type} (r r' : Rs α) : Prop := r = .bad ∨ r = r'
theorem Leq.refl {α : Type} (r : Rs α) : Leq r r := .inr rfl
theorem Leq.bad {α : Type} {r : Rs α} : Leq .bad r := .inl rfl
theorem Leq.bind {α β : Type} {r r' : Rs α} {f f' : α → Env → Rs β} (h : Leq r r') (k : ∀ a e, Leq (f a e) (f' a e)) : Leq (r.bind f) (r'.bind f') := by
  rcases h with h | h
  · rw [h]; exact .inl rfl
  · rw [h]
    cases r' with
    | ok a e => exact k a e
    | exc c ds e => exact .inr rfl
    | bad => exact .inl rfl
theorem Leq.ite {α : Type} {c : Prop} [Decidable c] {a a' b b' : Rs α} (h1 : Leq a a') (h2 : Leq b b') : Leq (if c then a else b) (if c then a' else b') := by
  by_cases h : c
  · rw [if_pos h, if_pos h]; exact h1
  · rw [if_neg h, if_neg h]; exact h2
theorem Leq.is {α : Type} {r r' : Rs α} (h : Leq r r') (n : r ≠ .bad) : r' = r := (h.resolve_left n).symm
def Le {α : Type} (f f' : Env → Rs α) : Prop := ∀ e, Leq (f e) (f' e)
theorem Le.refl {α : Type} (f : Env → Rs α) : Le f f := fun e => .inr rfl
theorem Le.b1 {α β : Type} {f f' : Env → Rs α} (k : α → Env → Rs β) (h : Le f f') : Le (fun env => (f env).bind k) (fun env => (f' env).bind k) := fun e => Leq.bind (h e) fun a e => .inr rfl
def LeF (f f' : List O → Rr) : Prop := ∀ os, f os = .bad ∨ f os = f' os
theorem LeF.refl (f : List O → Rr) : LeF f f := fun os => .inr rfl
theorem LeF.is {f f' : List O → Rr} {os : List O} {r : Rr} (h : LeF f f') (e : f os = r) (n : r ≠ .bad) : f' os = r := by
  rcases h os with h | h
  · rw [e] at h; exact absurd h n
  · rw [← h, e]
theorem LeF.calm {f f' : List O → Rr} (h : LeF f f') : LeF (calmF f) (calmF f') := fun os => by
  unfold calmF
  rcases h os with h | h
  · rw [h]; exact .inl rfl
  · rw [h]; exact .inr rfl
theorem le_run {IO : List Nat} {k : Nat} {b b' : MS} (h : Le b b') : LeF (runDef IO k b) (runDef IO k b') := fun os => by
  unfold runDef
  rcases h (os.map some ++ List.replicate k none) with h | h
  · rw [h]; exact .inl rfl
  · rw [h]; exact .inr rfl
section
variable {f f' f1 f1' f2 f2' f3 f3' fo fo' : ME} {fs fs' : MA} {t t' t2 t2' : MT} {g g' g1 g1' g2 g2' : MS} {fi fi' : MI} {l l' hh hh' : MO} {fn fn' : List O → Rr}
theorem le_m1 {G : Rt → Option Rt} (h : Le f f') : Le (m1 G f) (m1 G f') := Le.b1 _ h
theorem le_m2 {G : Rt → Rt → Option Rt} {T : List Nat} (h1 : Le f1 f1') (h2 : Le f2 f2') : Le (m2 G T f1 f2) (m2 G T f1' f2') := fun e => Leq.bind (h1 e) fun r e1 => by
  cases r.hot T with
  | true => exact .inl rfl
  | false => exact Leq.bind (h2 e1) fun _ _ => .inr rfl
theorem le_mN {G : List Rt → Option Rt} (h : Le fs fs') : Le (mN G fs) (mN G fs') := Le.b1 _ h
theorem le_cons {T : List Nat} (h1 : Le f f') (h2 : Le fs fs') : Le (mCons T f fs) (mCons T f' fs') := fun e => Leq.bind (h1 e) fun r e1 => Leq.ite .bad (Leq.bind (h2 e1) fun _ _ => .inr rfl)
theorem le_test (h : Le f f') : Le (mTest f) (mTest f') := Le.b1 _ h
theorem le_and (h1 : Le f1 f1') (h2 : Le f2 f2') : Le (mAnd f1 f2) (mAnd f1' f2') := fun e => Leq.bind (h1 e) fun r e1 => by
  cases toB r with
  | none => exact .inl rfl
  | some b => cases b with
    | true => exact h2 e1
    | false => exact .inr rfl
theorem le_or (h1 : Le f1 f1') (h2 : Le f2 f2') : Le (mOr f1 f2) (mOr f1' f2') := fun e => Leq.bind (h1 e) fun r e1 => by
  cases toB r with
  | none => exact .inl rfl
  | some b => cases b with
    | false => exact h2 e1
    | true => exact .inr rfl
theorem le_not (h : Le f f') : Le (mNot f) (mNot f') := Le.b1 _ h
theorem le_mif (h0 : Le t t') (h1 : Le f1 f1') (h2 : Le f2 f2') : Le (mIf t f1 f2) (mIf t' f1' f2') := fun e => Leq.bind (h0 e) fun r e1 => Leq.ite (h1 e1) (h2 e1)
theorem le_tmNot (h : Le t t') : Le (tmNot t) (tmNot t') := Le.b1 _ h
theorem le_tmAnd (h0 : Le t t') (h1 : Le t2 t2') : Le (tmAnd t t2) (tmAnd t' t2') := fun e => Leq.bind (h0 e) fun r e1 => Leq.ite (h1 e1) (.inr rfl)
theorem le_tmOr (h0 : Le t t') (h1 : Le t2 t2') : Le (tmOr t t2) (tmOr t' t2') := fun e => Leq.bind (h0 e) fun r e1 => Leq.ite (.inr rfl) (h1 e1)
theorem le_stl (h : Le f f') : Le (mStl f) (mStl f') := Le.b1 _ h
theorem le_oSome (h : Le f f') : Le (oSome f) (oSome f') := Le.b1 _ h
theorem le_sl {T : List Nat} (h : Le f f') (h1 : Le l l') (h2 : Le hh hh') : Le (mSl T f l hh) (mSl T f' l' hh') := fun e => Leq.bind (h e) fun r e1 => Leq.ite .bad (Leq.bind (h1 e1) fun lo e2 => Leq.bind (h2 e2) fun hi e3 => .inr rfl)
theorem le_lcL {vs : List Nat} {set : D → Env → Option Env} (h0 : Le t t') (h1 : Le f f') : ∀ (ds : List D) (e : Env), Leq (lcL vs set t f ds e) (lcL vs set t' f' ds e)
  | [], e => .inr rfl
  | d :: ds, e => by
    unfold lcL
    cases set d (wipeE e vs) with
    | none => exact .inl rfl
    | some e1 =>
        exact Leq.bind (h0 e1) fun b e2 => Leq.ite (Leq.bind (h1 e2) fun r e3 => by
        cases r with
        | val y => exact Leq.bind (le_lcL h0 h1 ds e3) fun _ _ => .inr rfl
        | _ => exact .inl rfl) (le_lcL h0 h1 ds e2)
theorem le_lc {Tb vs : List Nat} {set : D → Env → Option Env} (hi : Le fi fi') (h0 : Le t t') (h1 : Le f f') : Le (mLc Tb vs set fi t f) (mLc Tb vs set fi' t' f') := fun e => Leq.bind (hi e) fun src e1 => Leq.ite .bad (Leq.ite (Leq.bind (le_lcL h0 h1 _ _) fun _ _ => .inr rfl) (.inr rfl))
theorem le_fn {α : Type} {os : List O} (k : Rr → Rs α) (hb : k .bad = .bad) (h : LeF fn fn') : Leq (k (fn os)) (k (fn' os)) := by
  rcases h os with h | h
  · rw [h, hb]; exact .inl rfl
  · rw [h]; exact .inr rfl
theorem le_call {Sl : List Nat} {n : Nat} (h : LeF fn fn') (h1 : Le fs fs') : Le (mCall Sl n fn fs) (mCall Sl n fn' fs') := fun e => Leq.bind (h1 e) fun rs e1 => by
  cases argsO e1 rs with
  | none => exact .inl rfl
  | some os => exact Leq.ite (le_fn (fun r => match r with
      | .ok r outs => if outs.length = n then Rs.ok r.rr (putOuts e1 rs outs) else .bad
      | .exc c ds outs => if outs.length = n then .exc c ds (putOuts e1 rs outs) else .bad
      | .bad => .bad) rfl h) .bad
theorem le_meth {Sl T2 : List Nat} {c n : Nat} {mn : Str} (h : LeF fn fn') (h0 : Le fo fo') (h1 : Le fs fs') : Le (mMeth Sl T2 c mn n fn fo fs) (mMeth Sl T2 c mn n fn' fo' fs') := fun e => Leq.bind (h0 e) fun r e1 => Leq.ite (le_call h (Le.b1 _ h1) e1) .bad
theorem le_make {Sl : List Nat} {c n : Nat} (h : LeF fn fn') (h1 : Le fs fs') : Le (mMake Sl c n fn fs) (mMake Sl c n fn' fs') := fun e => Leq.bind (h1 e) fun rs e1 => by
  cases argsO e1 rs with
  | none => exact .inl rfl
  | some os => exact Leq.ite (le_fn (fun r => match r with
      | .ok (.s .non) (self :: outs) => if outs.length + 1 = n then Rs.ok self.rr (putOuts e1 rs outs) else .bad
      | .exc c ds (_ :: outs) => if outs.length + 1 = n then .exc c ds (putOuts e1 rs outs) else .bad
      | _ => .bad) rfl h) .bad
theorem le_methP {Tx T2 : List Nat} {c n : Nat} {mn : Str} (h : LeF fn fn') (h0 : Le fo fo') (h1 : Le fs fs') : Le (mMethP Tx T2 c mn n fn fo fs) (mMethP Tx T2 c mn n fn' fo' fs') := fun e => Leq.bind (h0 e) fun r e1 => by
  cases r with
  | bor x p o => exact Leq.ite .bad (Leq.bind (h1 e1) fun rs e2 => by
          cases argsO e2 rs with
      | none => exact .inl rfl
      | some os => exact Leq.ite (le_fn (fun r => match r with
          | .ok r2 (o' :: _) => (match poke x p o' e2 with
            | some e3 => Rs.ok r2.rr e3
            | none => .bad)
          | _ => .bad) rfl h) .bad)
  | _ => exact .inl rfl
theorem le_meth2 {Sl T2 T3 : List Nat} {c n : Nat} {mn : Str} (h : LeF fn fn') (h0 : Le fo fo') (h1 : Le f1 f1') (h2 : Le f2 f2') : Le (mMeth2 Sl T2 T3 c mn n fn fo f1 f2) (mMeth2 Sl T2 T3 c mn n fn' fo' f1' f2') := fun e => Leq.bind (h0 e) fun r e1 => Leq.ite (Leq.bind (h1 e1) fun r1 e2 => Leq.ite .bad (Leq.bind (h2 e2) fun r2 e3 => by
  cases r2 with
  | own o =>
    show Leq (m2B Sl n fn r r1 o e3 (argsO e3 [r, r1])) (m2B Sl n fn' r r1 o e3 (argsO e3 [r, r1]))
    cases argsO e3 [r, r1] with
    | none => exact .inl rfl
    | some os => exact Leq.ite (le_fn (fun q => m2C r r1 o e3 q) rfl h) .bad
  | _ => exact .inl rfl)) .bad
theorem le_append {Tx T2 : List Nat} (h1 : Le f f') (h2 : Le f2 f2') : Le (mAppend Tx T2 f f2) (mAppend Tx T2 f' f2') := fun e => Leq.bind (h1 e) fun r e1 => by
  cases r with
  | bor x p o => cases o with
    | lst os => exact Leq.ite .bad (Leq.bind (h2 e1) fun _ _ => .inr rfl)
    | _ => exact .inl rfl
  | _ => exact .inl rfl
theorem le_apB2 {x : Nat} {p : List Stp} {os : List O} {a : Addr} {r r' : Rs Rt} (h : Leq r r') : Leq (apB2 x p os a r) (apB2 x p os a r') := by
  rcases h with h | h
  · rw [h]; exact .inl rfl
  · rw [h]; exact .inr rfl
theorem le_mAll {α : Type} {q q' : Addr → Rs α} (h : ∀ a, Leq (q a) (q' a)) : Leq (mAll q) (mAll q') := by
  unfold mAll
  by_cases c : ∀ a, q a = q 0
  · rw [if_pos c]
    rcases h 0 with e | e
    · exact .inl e
    · by_cases b : q 0 = .bad
      · exact .inl b
      · have : ∀ a, q' a = q' 0 := fun a => by
          rcases h a with z | z
          · rw [c a] at z; exact absurd z b
          · rw [← z, c a, e]
        rw [if_pos this]
        exact .inr e
  · rw [if_neg c]; exact .inl rfl
theorem le_appB {Tx : List Nat} (h1 : Le f f') (h2 : Le f2 f2') : Le (mAppB Tx f f2) (mAppB Tx f' f2') := fun e => Leq.bind (h1 e) fun r e1 => by
  cases r with
  | bor x p o => cases o with
    | lst os => exact Leq.ite (le_mAll fun a => by
        cases poke x p (.s (.adr a)) e1 with
        | none => exact .inl rfl
        | some e2 => exact le_apB2 (h2 e2)) .bad
    | _ => exact .inl rfl
  | _ => exact .inl rfl
theorem le_seq (h1 : Le g1 g1') (h2 : Le g2 g2') : Le (msSeq g1 g2) (msSeq g1' g2') := fun e => Leq.bind (h1 e) fun fl e1 => by
  cases fl with
  | nx => exact h2 e1
  | _ => exact .inr rfl
theorem le_msIf (h0 : Le t t') (h1 : Le g1 g1') (h2 : Le g2 g2') : Le (msIf t g1 g2) (msIf t' g1' g2') := fun e => Leq.bind (h0 e) fun r e1 => Leq.ite (h1 e1) (h2 e1)
theorem le_set {i : Nat} (h : Le f f') : Le (msSet i f) (msSet i f') := Le.b1 _ h
theorem le_par {is : List Nat} (h : Le fs fs') : Le (msPar is fs) (msPar is fs') := Le.b1 _ h
theorem le_ret (h : Le f f') : Le (msRet f) (msRet f') := Le.b1 _ h
theorem le_expr (h : Le f f') : Le (msExpr f) (msExpr f') := Le.b1 _ h
theorem le_asgT {set : D → Env → Option Env} (h : Le f f') : Le (msAsgT set f) (msAsgT set f') := Le.b1 _ h
theorem le_asgF2 {i : Nat} {c1 c2 : List Nat} {n1 n2 : Str} (h : Le f f') : Le (msAsgF2 i c1 c2 n1 n2 f) (msAsgF2 i c1 c2 n1 n2 f') := Le.b1 _ h
theorem le_setAttr {Tx T2 cs : List Nat} {n : Str} (h1 : Le f f') (h2 : Le fo fo') : Le (msSetAttr Tx T2 cs n f fo) (msSetAttr Tx T2 cs n f' fo') := fun e => Leq.bind (h1 e) fun y e1 => by
  cases y.o with
  | none => exact .inl rfl
  | some oy => exact Leq.bind (h2 e1) fun _ _ => .inr rfl
theorem le_setIx {Tx T2 T3 : List Nat} (h1 : Le f1 f1') (h2 : Le f2 f2') (h3 : Le f3 f3') : Le (msSetIx Tx T2 T3 f1 f2 f3) (msSetIx Tx T2 T3 f1' f2' f3') := fun e => Leq.bind (h1 e) fun y e1 => by
  cases y.o with
  | none => exact .inl rfl
  | some oy =>
      refine Leq.bind (h2 e1) fun r e2 => ?_
      cases r with
      | bor x p o => cases o with
        | lst os => exact Leq.ite .bad (Leq.bind (h3 e2) fun _ _ => .inr rfl)
        | _ => exact .inl rfl
      | _ => exact .inl rfl
theorem le_aug {i : Nat} {G : Rt → Rt → Option Rt} (h : Le f f') : Le (msAug i G f) (msAug i G f') := fun e => by
  unfold msAug
  split
  · exact Leq.bind (h e) fun _ _ => .inr rfl
  · exact .inl rfl
theorem le_forL {set : D → Env → Option Env} (h : Le g g') : ∀ (ds : List D) (e : Env), Leq (forL set g ds e) (forL set g' ds e)
  | [], e => .inr rfl
  | d :: ds, e => by
    unfold forL
    cases set d e with
    | none => exact .inl rfl
    | some e1 =>
        refine Leq.bind (h e1) fun fl e2 => ?_
        cases fl with
        | nx => exact le_forL h ds e2
        | cont => exact le_forL h ds e2
        | _ => exact .inr rfl
theorem le_for {Tb : List Nat} {set : D → Env → Option Env} (hi : Le fi fi') (h : Le g g') : Le (msFor Tb set fi g) (msFor Tb set fi' g') := fun e => Leq.bind (hi e) fun src e1 => Leq.ite .bad (le_forL h _ _)
theorem le_iSeq {b : Bool} (h : Le f f') : Le (iSeq b f) (iSeq b f') := Le.b1 _ h
theorem le_iRg1 (h : Le fs fs') : Le (iRg1 fs) (iRg1 fs') := Le.b1 _ h
theorem le_iEnumM (h : Le fs fs') : Le (iEnumM fs) (iEnumM fs') := Le.b1 _ h
theorem le_whileN (h0 : Le t t') (h1 : Le g g') : ∀ (n : Nat) (e : Env), Leq (whileN t g n e) (whileN t' g' n e)
  | 0, e => .inl rfl
  | n + 1, e => by
    unfold whileN
    exact Leq.bind (h0 e) fun b e1 => Leq.ite (Leq.bind (h1 e1) fun fl e2 => by
      cases fl with
      | nx => exact le_whileN h0 h1 n e2
      | cont => exact le_whileN h0 h1 n e2
      | _ => exact .inr rfl) (.inr rfl)
theorem le_while {n : Nat} (h0 : Le t t') (h1 : Le g g') : Le (whileN t g n) (msWhile t' g') := fun e => by
  rcases le_whileN h0 h1 n e with h | h
  · exact .inl h
  · by_cases b : whileN t' g' n e = .bad
    · exact .inl (h.trans b)
    · exact .inr (h.trans (msWhile_is rfl b).symm)
end
end L3
namespace PySem
namespace PartXline
open PySem.W PySem.Calls PyProof.Rows PySem.HandSPX
def iA (p1 p2 : Pos) : Arguments := { posonlyargs := [], args := [{ arg := "self", annotation := none, pos := p1 }, { arg := "line", annotation := none, pos := p2 }], vararg := none, kwonlyargs := [], kw_defaults := [], kwarg := none, defaults := [] }
def iB (q1 q2 q3 q4 : Pos) : List Stmt := [.Assign [.Attribute (.Name "self" q1) "line" q2] (.Name "line" q3) q4]
def iS : Scope := { kind := .function, names := [(PySem.Str.ofString "self", .local), (PySem.Str.ofString "line", .local)], isGenerator := false, isCoroutine := false, more := [] }
structure PartTxt (K : Frag) (mg : Str → Option Value) (cn qn : Str) (C fI : Addr) : Prop where
  gC : mg cn = some (.ref C)
  cls : ∃ nm q N bs bm sn sub ab col dd k0 k1 k2 k3 k5, K.lookup C = some (excClassObj nm q C N bs bm true sn sub ab col dd k0 k1 k2 k3 k5 "ValueError.__new__") ∧ refsVE bm = true
  sa : findIn K (.ref C) "__setattr__" = some (some (.builtin "object.__setattr__"))
  ga : findIn K (.ref C) "__getattribute__" = some (some (.builtin "BaseException.__getattribute__"))
  gg : findIn K (.ref C) "__getattr__" = some none
  noN : findIn K (.ref C) "line" = some none
  iC : findIn K (.ref C) "__init__" = some (some (.ref fI))
  tC : typeIn K (.ref fI) = some (.type "function")
  kC : keepIn K (.ref C) = true
  exC : subIn K (.ref C) (.type "BaseException") = some true
  tyC : typeIn K (.ref C) = some (.type "type")
  hdC : hasDictIn K C = true
  te : exmOne K (.ref C) (.ref C) = some true
  fn : ∃ (oc : Value) (od : Option Addr) (doc pm : Value) (an : Option Addr) (cdv ct : Value) (osl : Array (Option Value)) (p1 p2 q1 q2 q3 q4 : Pos),
    K.lookup fI = some ⟨oc, od, .func (fnOf "__init__" qn (iA p1 p2) (iB q1 q2 q3 q4) iS .none .none doc pm an cdv ct), osl⟩ ∧ codeIn K cdv qn = true
theorem one_size (v : Value) : [v].length ≤ sizeLine := by
  rw [sizeLine_eq]
  exact (by decide : 1 ≤ 16777216)
theorem kept_but {K : Frag} {h h' : Heap} {x : Addr} (X : K.In h) (hx : K.lookup x = none) (k : ∀ b o, b ≠ x → h.get? b = some o → h'.get? b = some o) : K.In h' := fun a o e =>
  k a o (fun z => by rw [z, hx] at e; cases e) (X a o e)
theorem ldC {M : Model} {s : Shared} {name : Str} {scope : Scope} {L a : Addr} {cd : Value} {m : Str → Option Value} {x : Str} {pos : Pos} {v : Value} {Q : Value → Shared → Prop} {A : Around} {E : Value → Shared → Prop} (hn : s.heap.Ns L m) (hv : m x = some v) (h : Q v s)
    (hk : scope.kind = .function := by rfl) (hl : (envOfC name scope L a cd).kindOf x = some .local := by rfl) (hd : (x == ("__debug__" : Str)) = false := by decide) :
    wpAny M A (eval (.Name x pos) (envOfC name scope L a cd)) Q E s := wpAny_Name (wpAny_loadName_local hk hl hn hv h) hd
structure InitEnd (h h' : Heap) (x C dx t1 : Addr) (v : Value) : Prop where
  keep : ∀ b o, b ≠ x → h.get? b = some o → h'.get? b = some o
  obj : h'.get? x = some { cls := .ref C, dict := some dx, data := .fields #[.ref t1, .none, .none, .none, .bool false, .none] }
  dbig : h.objs.size ≤ dx
  dne : dx ≠ x
  ns : h'.Ns1 dx (fun y => if y = "line" then some v else none)
structure OwnMade (h h' : Heap) (e C d : Addr) (v : Value) : Prop where
  keep : ∀ b o, h.get? b = some o → h'.get? b = some o
  new : h.objs.size ≤ e
  obj : ∃ oe vs, h'.get? e = some oe ∧ oe.cls = .ref C ∧ oe.dict = some d ∧ oe.data = .fields vs ∧ vs[1]? = some .none
  dbig : h.objs.size ≤ d
  dne : d ≠ e
  ns : h'.Ns1 d (fun y => if y = "line" then some v else none)
section
variable {prog : Program} {w : World} {A : Around} {E : Value → Shared → Prop} {R : Result → Shared → Prop} {s : Shared} {K : Frag} {mg : Str → Option Value} {cn qn : Str} {C fI : Addr}
theorem part_init (T : PartTxt K mg cn qn C fI) {x t0 : Addr} {v : Value} (X : K.In s.heap) (hlim : s.heap.NoLimit) (hx : s.heap.get? x = some (excO C t0)) (hnx : K.lookup x = none) (hroom : A.depth < recursionLimit)
    (hq : ∀ h' tk dx, InitEnd s.heap h' x C dx t0 v → R (.ok (.ret .none)) { s with heap := h', toks := tk }) :
    codeAny (model prog w) A (.call (.ref fI) ⟨[.ref x, v], []⟩) R s := by
  obtain ⟨oc, od, doc, pm, an, cdv, ct, osl, p1, p2, q1, q2, q3, q4, ho, hcd⟩ := T.fn
  obtain ⟨nm, q, N, bs, bm, sn, sub, ab, col, dd, k0, k1, k2, k3, k5, hC, hbm⟩ := T.cls
  have hcl : clsIn K C = some { name := nm, bases := bs, mro := .ref C :: bm, ns := N, qualname := q, hasDict := true, slotNames := sn, subclasses := sub, abstract := ab, collection := col, hasDel := false } := by unfold clsIn; rw [hC] <;> rfl
  refine Att.call_fn (binds := [("self", .ref x), ("line", v)]) X hlim ho hcd hroom (BindsTo.of_eq (by first | rfl | with_unfolding_all rfl)) (by first | rfl | decide | with_unfolding_all rfl) (fun s₁ IC => ?_) rfl rfl rfl
  obtain ⟨h₁, tk₁, rfl⟩ := IC.toInCall.same
  have k : ∀ b o, s.heap.get? b = some o → h₁.get? b = some o := IC.toInCall.keep
  have hn := IC.toInCall.ns
  have hxL : s.heap.objs.size ≠ x := Nat.ne_of_gt (Heap.lt_size hx)
  have X₁ : K.In h₁ := X.keeps k
  have hx₁ := k _ _ hx
  -- self.by = by
  show wpAny _ _ (execs _ _) _ _ _
  refine wpAny_execs_cons (plainObj_wpAny_Assign_Attribute ?_)
  refine ldC (v := v) hn (by first | rfl | with_unfolding_all rfl | kernel_rfl) (ldC (v := .ref x) hn (by first | rfl | with_unfolding_all rfl | kernel_rfl) ?_)
  refine set_plain X₁ (ox := excO C t0) (od := none) ⟨hx₁, rfl, rfl, trivial⟩ T.sa ?_
  refine exc_osa X₁ hx₁ hcl (show refsVE (.ref C :: bm) = true from hbm) rfl T.noN (fun h₃ tk₃ dx k₃ dn dne hx₃ hn₃ => ?_)
  show wpAny _ _ (execs _ _) _ _ _
  have z : s.heap.objs.size < h₁.objs.size := hn.lt
  exact wpAny_execs_nil (hq h₃ tk₃ dx ⟨fun b o hb e => k₃ b o hb (k b o e), hx₃, Nat.le_of_lt (Nat.lt_of_lt_of_le z dn), dne, hn₃⟩)
theorem part_made (T : PartTxt K mg cn qn C fI) {v : Value} (X : K.In s.heap) (hlim : s.heap.NoLimit) (hroom : A.depth + 1 < recursionLimit)
    (hq : ∀ h' tk e d, OwnMade s.heap h' e C d v → R (.ok (.ret (.ref e))) { s with heap := h', toks := tk }) :
    codeAny (model prog w) A (.call (.ref C) ⟨[v], []⟩) R s := by
  obtain ⟨nm, q, N, bs, bm, sn, sub, ab, col, dd, k0, k1, k2, k3, k5, hC, hbm⟩ := T.cls
  obtain ⟨hp, g, dr, tk, os⟩ := s
  have k : ∀ b o, hp.get? b = some o → ((hp.push (kdv_tup [v])).push (excO C hp.objs.size)).get? b = some o := fun b o e => Heap.get?_push_of_some _ (Heap.get?_push_of_some _ e)
  have hget : ((hp.push (kdv_tup [v])).push (excO C hp.objs.size)).get? (hp.objs.size + 1) = some (excO C hp.objs.size) := by heap_get
  have hnx : K.lookup (hp.objs.size + 1) = none := by
    cases e : K.lookup (hp.objs.size + 1) with
    | none => rfl
    | some o =>
      have z : hp.get? (hp.objs.size + 1) = some o := X _ _ e
      exact absurd (Nat.lt_of_succ_lt (Heap.lt_size z)) (Nat.lt_irrefl _)
  refine call_own F.excBase_ValueError (fun X => refsVE_contains X bm hbm) (X _ _ hC) (looks_findIn X T.iC) (fun self => bind_fn X self T.tC) (one_size v) ?_
  refine part_init (s := ⟨(hp.push (kdv_tup [v])).push (excO C hp.objs.size), g, dr, tk, os⟩) T (X.keeps k) (hlim.keeps k) hget hnx ?_ fun h' tk' dx ⟨k', hx, dn, dne, hns⟩ => ?_
  · show A.depth + 1 < recursionLimit
    exact hroom
  · have old : ∀ b o, hp.get? b = some o → h'.get? b = some o := fun b o e => k' b o (Nat.ne_of_lt (Nat.lt_succ_of_lt (Heap.lt_size e))) (k b o e)
    have z : hp.objs.size + 1 + 1 ≤ dx := by
      first
        | (simpa only [Heap.size_push] using dn)
        | exact dn
        | (have q := dn; rw [Heap.size_push, Heap.size_push] at q; exact q)
    exact ⟨rfl, hq h' tk' (hp.objs.size + 1) dx ⟨old, Nat.le_succ _, ⟨_, _, hx, rfl, rfl, rfl, rfl⟩, Nat.le_trans (Nat.le_trans (Nat.le_succ _) (Nat.le_succ _)) z, dne, hns⟩⟩
end
end PartXline
end PySem
namespace L2
open PySem PySem.Spec PyProof.Rows
theorem relO_line {v : V} {v' : Value} (r : RelV v v') (f : Str) : RelO (List.lookup f [(("line" : Str), v)]) (if f = "line" then some v' else none) := by
  by_cases hw : f = "line"
  · subst hw
    rw [if_pos rfl]
    have q : List.lookup ("line" : Str) [(("line" : Str), v)] = some v := by simp [List.lookup]
    rw [q]
    exact r
  · rw [if_neg hw]
    have qw : (f == ("line" : Str)) = false := by simpa using hw
    have q2 : List.lookup f [(("line" : Str), v)] = none := by simp [List.lookup, qw]
    rw [q2]
    trivial
section
variable {X : Cx} {cn qn : Str} {C fI : Addr}
def tMk_line (C : Addr) (ta : TA) : St → Hp → XK → Prop := fun σ H Q => ta σ H fun vs H1 => ∃ v, vs = [v] ∧ ∀ d, H1 d = none → Q (.ref C) (some d) (upd H1 d (.xd [(("line" : Str), v)]))
theorem pmk_line {a : Expr} {ta : TA} {p pos : Pos} {k : Nat} (T : PySem.PartXline.PartTxt X.K X.mg cn qn C fI) (hr : Room k X.A) (ha : PA X [a] ta) (hg : Gl X cn := by rfl) (hdb : (cn == ("__debug__" : Str)) = false := by decide)
    (he : starEach (a :: []) X.env = (false, eval a X.env) :: starEach [] X.env := by rfl) (hpl : (backTo pos (starEach [] X.env)).any (·.1) = false := by rfl) :
    PMk X (.Call (.Name cn p) [a] [] pos) (tMk_line C ta) := by
  intro pins s σ H Q I h
  refine wpAny_Call_Name_kw (ld_glob I hg T.gC ?_ hdb)
  refine PySem.W.callWith_K (h₀ := X.base) I.ok.mod.kin T.kC (thn (ha.run pos pins s σ H _ I h) fun us s1 hh => ?_) he hpl
  obtain ⟨vs, H1, I1, r1, v, ev, q1⟩ := hh
  subst ev
  refine ⟨I1.kIn, ?_⟩
  cases r1 with
  | cons rv rn =>
    rename_i v' us'
    cases rn
    show wpAny _ _ (call (.ref C) [v']) _ _ _
    have hlim := I1.nolimit
    obtain ⟨hp, g, dr, tk, os⟩ := s1
    refine wpAny_call (PySem.PartXline.part_made T I1.kIn hlim (by have := hr.dp; omega) fun h' tk' e d M => ?_)
    show MkP X pins σ Q (.ref e) ⟨h', g, dr, tk', os⟩
    obtain ⟨oe, fv, hoe, hc, hd, hdat, h1⟩ := M.obj
    have hns := M.ns
    obtain ⟨G', g1, g2⟩ := restrict h' fun b => decide (b ≠ e)
    have gk : ∀ b, b ≠ e → G'.get? b = h'.get? b := fun b hb => g1 b (decide_eq_true hb)
    have ge : G'.get? e = none := g2 e (by simp)
    have old : ∀ b o, hp.get? b = some o → G'.get? b = some o := fun b o q => (gk b (Nat.ne_of_lt (Nat.lt_of_lt_of_le (Heap.lt_size q) M.new))).trans (M.keep b o q)
    have ob : ObjOk X.prog X.w (upd H1 d (.xd [(("line" : Str), v)])) G' d (.xd [(("line" : Str), v)]) :=
      ⟨_, hns.at (fun o q => (gk d M.dne).trans q), fun f => relO_line rv f⟩
    have J : Inv X pins σ (upd H1 d (.xd [(("line" : Str), v)])) ⟨G', g, dr, tk', os⟩ := I1.laid (t' := tk') old M.dbig ob
    refine ⟨e, oe, fv, ⟨G', g, dr, tk', os⟩, _, .ref C, some d, rfl, J, fun b o q => ?_, ge, hoe, ⟨hc, hd⟩, hdat, h1, ?_, rfl, I1.bare, raises_own T.exC T.tyC, q1 d (I1.hok.fresh M.dbig)⟩
    · by_cases hb : b = e
      · have q' : G'.get? b = some o := q
        rw [hb, ge] at q'; cases q'
      · exact (gk b hb).symm.trans q
    · rw [upd_ne (Ne.symm M.dne)]
      exact I1.hok.fresh M.new
end
end L2
namespace PySem
namespace PartXplace
open PySem.W PySem.Calls PyProof.Rows PySem.HandSPX
def iA (p1 p2 : Pos) : Arguments := { posonlyargs := [], args := [{ arg := "self", annotation := none, pos := p1 }, { arg := "place", annotation := none, pos := p2 }], vararg := none, kwonlyargs := [], kw_defaults := [], kwarg := none, defaults := [] }
def iB (q1 q2 q3 q4 : Pos) : List Stmt := [.Assign [.Attribute (.Name "self" q1) "place" q2] (.Name "place" q3) q4]
def iS : Scope := { kind := .function, names := [(PySem.Str.ofString "self", .local), (PySem.Str.ofString "place", .local)], isGenerator := false, isCoroutine := false, more := [] }
structure PartTxt (K : Frag) (mg : Str → Option Value) (cn qn : Str) (C fI : Addr) : Prop where
  gC : mg cn = some (.ref C)
  cls : ∃ nm q N bs bm sn sub ab col dd k0 k1 k2 k3 k5, K.lookup C = some (excClassObj nm q C N bs bm true sn sub ab col dd k0 k1 k2 k3 k5 "ValueError.__new__") ∧ refsVE bm = true
  sa : findIn K (.ref C) "__setattr__" = some (some (.builtin "object.__setattr__"))
  ga : findIn K (.ref C) "__getattribute__" = some (some (.builtin "BaseException.__getattribute__"))
  gg : findIn K (.ref C) "__getattr__" = some none
  noN : findIn K (.ref C) "place" = some none
  iC : findIn K (.ref C) "__init__" = some (some (.ref fI))
  tC : typeIn K (.ref fI) = some (.type "function")
  kC : keepIn K (.ref C) = true
  exC : subIn K (.ref C) (.type "BaseException") = some true
  tyC : typeIn K (.ref C) = some (.type "type")
  hdC : hasDictIn K C = true
  te : exmOne K (.ref C) (.ref C) = some true
  fn : ∃ (oc : Value) (od : Option Addr) (doc pm : Value) (an : Option Addr) (cdv ct : Value) (osl : Array (Option Value)) (p1 p2 q1 q2 q3 q4 : Pos),
    K.lookup fI = some ⟨oc, od, .func (fnOf "__init__" qn (iA p1 p2) (iB q1 q2 q3 q4) iS .none .none doc pm an cdv ct), osl⟩ ∧ codeIn K cdv qn = true
theorem one_size (v : Value) : [v].length ≤ sizeLine := by
  rw [sizeLine_eq]
  exact (by decide : 1 ≤ 16777216)
theorem kept_but {K : Frag} {h h' : Heap} {x : Addr} (X : K.In h) (hx : K.lookup x = none) (k : ∀ b o, b ≠ x → h.get? b = some o → h'.get? b = some o) : K.In h' := fun a o e =>
  k a o (fun z => by rw [z, hx] at e; cases e) (X a o e)
theorem ldC {M : Model} {s : Shared} {name : Str} {scope : Scope} {L a : Addr} {cd : Value} {m : Str → Option Value} {x : Str} {pos : Pos} {v : Value} {Q : Value → Shared → Prop} {A : Around} {E : Value → Shared → Prop} (hn : s.heap.Ns L m) (hv : m x = some v) (h : Q v s)
    (hk : scope.kind = .function := by rfl) (hl : (envOfC name scope L a cd).kindOf x = some .local := by rfl) (hd : (x == ("__debug__" : Str)) = false := by decide) :
    wpAny M A (eval (.Name x pos) (envOfC name scope L a cd)) Q E s := wpAny_Name (wpAny_loadName_local hk hl hn hv h) hd
structure InitEnd (h h' : Heap) (x C dx t1 : Addr) (v : Value) : Prop where
  keep : ∀ b o, b ≠ x → h.get? b = some o → h'.get? b = some o
  obj : h'.get? x = some { cls := .ref C, dict := some dx, data := .fields #[.ref t1, .none, .none, .none, .bool false, .none] }
  dbig : h.objs.size ≤ dx
  dne : dx ≠ x
  ns : h'.Ns1 dx (fun y => if y = "place" then some v else none)
structure OwnMade (h h' : Heap) (e C d : Addr) (v : Value) : Prop where
  keep : ∀ b o, h.get? b = some o → h'.get? b = some o
  new : h.objs.size ≤ e
  obj : ∃ oe vs, h'.get? e = some oe ∧ oe.cls = .ref C ∧ oe.dict = some d ∧ oe.data = .fields vs ∧ vs[1]? = some .none
  dbig : h.objs.size ≤ d
  dne : d ≠ e
  ns : h'.Ns1 d (fun y => if y = "place" then some v else none)
section
variable {prog : Program} {w : World} {A : Around} {E : Value → Shared → Prop} {R : Result → Shared → Prop} {s : Shared} {K : Frag} {mg : Str → Option Value} {cn qn : Str} {C fI : Addr}
theorem part_init (T : PartTxt K mg cn qn C fI) {x t0 : Addr} {v : Value} (X : K.In s.heap) (hlim : s.heap.NoLimit) (hx : s.heap.get? x = some (excO C t0)) (hnx : K.lookup x = none) (hroom : A.depth < recursionLimit)
    (hq : ∀ h' tk dx, InitEnd s.heap h' x C dx t0 v → R (.ok (.ret .none)) { s with heap := h', toks := tk }) :
    codeAny (model prog w) A (.call (.ref fI) ⟨[.ref x, v], []⟩) R s := by
  obtain ⟨oc, od, doc, pm, an, cdv, ct, osl, p1, p2, q1, q2, q3, q4, ho, hcd⟩ := T.fn
  obtain ⟨nm, q, N, bs, bm, sn, sub, ab, col, dd, k0, k1, k2, k3, k5, hC, hbm⟩ := T.cls
  have hcl : clsIn K C = some { name := nm, bases := bs, mro := .ref C :: bm, ns := N, qualname := q, hasDict := true, slotNames := sn, subclasses := sub, abstract := ab, collection := col, hasDel := false } := by unfold clsIn; rw [hC] <;> rfl
  refine Att.call_fn (binds := [("self", .ref x), ("place", v)]) X hlim ho hcd hroom (BindsTo.of_eq (by first | rfl | with_unfolding_all rfl)) (by first | rfl | decide | with_unfolding_all rfl) (fun s₁ IC => ?_) rfl rfl rfl
  obtain ⟨h₁, tk₁, rfl⟩ := IC.toInCall.same
  have k : ∀ b o, s.heap.get? b = some o → h₁.get? b = some o := IC.toInCall.keep
  have hn := IC.toInCall.ns
  have hxL : s.heap.objs.size ≠ x := Nat.ne_of_gt (Heap.lt_size hx)
  have X₁ : K.In h₁ := X.keeps k
  have hx₁ := k _ _ hx
  -- self.by = by
  show wpAny _ _ (execs _ _) _ _ _
  refine wpAny_execs_cons (plainObj_wpAny_Assign_Attribute ?_)
  refine ldC (v := v) hn (by first | rfl | with_unfolding_all rfl | kernel_rfl) (ldC (v := .ref x) hn (by first | rfl | with_unfolding_all rfl | kernel_rfl) ?_)
  refine set_plain X₁ (ox := excO C t0) (od := none) ⟨hx₁, rfl, rfl, trivial⟩ T.sa ?_
  refine exc_osa X₁ hx₁ hcl (show refsVE (.ref C :: bm) = true from hbm) rfl T.noN (fun h₃ tk₃ dx k₃ dn dne hx₃ hn₃ => ?_)
  show wpAny _ _ (execs _ _) _ _ _
  have z : s.heap.objs.size < h₁.objs.size := hn.lt
  exact wpAny_execs_nil (hq h₃ tk₃ dx ⟨fun b o hb e => k₃ b o hb (k b o e), hx₃, Nat.le_of_lt (Nat.lt_of_lt_of_le z dn), dne, hn₃⟩)
theorem part_made (T : PartTxt K mg cn qn C fI) {v : Value} (X : K.In s.heap) (hlim : s.heap.NoLimit) (hroom : A.depth + 1 < recursionLimit)
    (hq : ∀ h' tk e d, OwnMade s.heap h' e C d v → R (.ok (.ret (.ref e))) { s with heap := h', toks := tk }) :
    codeAny (model prog w) A (.call (.ref C) ⟨[v], []⟩) R s := by
  obtain ⟨nm, q, N, bs, bm, sn, sub, ab, col, dd, k0, k1, k2, k3, k5, hC, hbm⟩ := T.cls
  obtain ⟨hp, g, dr, tk, os⟩ := s
  have k : ∀ b o, hp.get? b = some o → ((hp.push (kdv_tup [v])).push (excO C hp.objs.size)).get? b = some o := fun b o e => Heap.get?_push_of_some _ (Heap.get?_push_of_some _ e)
  have hget : ((hp.push (kdv_tup [v])).push (excO C hp.objs.size)).get? (hp.objs.size + 1) = some (excO C hp.objs.size) := by heap_get
  have hnx : K.lookup (hp.objs.size + 1) = none := by
    cases e : K.lookup (hp.objs.size + 1) with
    | none => rfl
    | some o =>
      have z : hp.get? (hp.objs.size + 1) = some o := X _ _ e
      exact absurd (Nat.lt_of_succ_lt (Heap.lt_size z)) (Nat.lt_irrefl _)
  refine call_own F.excBase_ValueError (fun X => refsVE_contains X bm hbm) (X _ _ hC) (looks_findIn X T.iC) (fun self => bind_fn X self T.tC) (one_size v) ?_
  refine part_init (s := ⟨(hp.push (kdv_tup [v])).push (excO C hp.objs.size), g, dr, tk, os⟩) T (X.keeps k) (hlim.keeps k) hget hnx ?_ fun h' tk' dx ⟨k', hx, dn, dne, hns⟩ => ?_
  · show A.depth + 1 < recursionLimit
    exact hroom
  · have old : ∀ b o, hp.get? b = some o → h'.get? b = some o := fun b o e => k' b o (Nat.ne_of_lt (Nat.lt_succ_of_lt (Heap.lt_size e))) (k b o e)
    have z : hp.objs.size + 1 + 1 ≤ dx := by
      first
        | (simpa only [Heap.size_push] using dn)
        | exact dn
        | (have q := dn; rw [Heap.size_push, Heap.size_push] at q; exact q)
    exact ⟨rfl, hq h' tk' (hp.objs.size + 1) dx ⟨old, Nat.le_succ _, ⟨_, _, hx, rfl, rfl, rfl, rfl⟩, Nat.le_trans (Nat.le_trans (Nat.le_succ _) (Nat.le_succ _)) z, dne, hns⟩⟩
end
end PartXplace
end PySem
namespace L2
open PySem PySem.Spec PyProof.Rows
theorem relO_place {v : V} {v' : Value} (r : RelV v v') (f : Str) : RelO (List.lookup f [(("place" : Str), v)]) (if f = "place" then some v' else none) := by
  by_cases hw : f = "place"
  · subst hw
    rw [if_pos rfl]
    have q : List.lookup ("place" : Str) [(("place" : Str), v)] = some v := by simp [List.lookup]
    rw [q]
    exact r
  · rw [if_neg hw]
    have qw : (f == ("place" : Str)) = false := by simpa using hw
    have q2 : List.lookup f [(("place" : Str), v)] = none := by simp [List.lookup, qw]
    rw [q2]
    trivial
section
variable {X : Cx} {cn qn : Str} {C fI : Addr}
def tMk_place (C : Addr) (ta : TA) : St → Hp → XK → Prop := fun σ H Q => ta σ H fun vs H1 => ∃ v, vs = [v] ∧ ∀ d, H1 d = none → Q (.ref C) (some d) (upd H1 d (.xd [(("place" : Str), v)]))
theorem pmk_place {a : Expr} {ta : TA} {p pos : Pos} {k : Nat} (T : PySem.PartXplace.PartTxt X.K X.mg cn qn C fI) (hr : Room k X.A) (ha : PA X [a] ta) (hg : Gl X cn := by rfl) (hdb : (cn == ("__debug__" : Str)) = false := by decide)
    (he : starEach (a :: []) X.env = (false, eval a X.env) :: starEach [] X.env := by rfl) (hpl : (backTo pos (starEach [] X.env)).any (·.1) = false := by rfl) :
    PMk X (.Call (.Name cn p) [a] [] pos) (tMk_place C ta) := by
  intro pins s σ H Q I h
  refine wpAny_Call_Name_kw (ld_glob I hg T.gC ?_ hdb)
  refine PySem.W.callWith_K (h₀ := X.base) I.ok.mod.kin T.kC (thn (ha.run pos pins s σ H _ I h) fun us s1 hh => ?_) he hpl
  obtain ⟨vs, H1, I1, r1, v, ev, q1⟩ := hh
  subst ev
  refine ⟨I1.kIn, ?_⟩
  cases r1 with
  | cons rv rn =>
    rename_i v' us'
    cases rn
    show wpAny _ _ (call (.ref C) [v']) _ _ _
    have hlim := I1.nolimit
    obtain ⟨hp, g, dr, tk, os⟩ := s1
    refine wpAny_call (PySem.PartXplace.part_made T I1.kIn hlim (by have := hr.dp; omega) fun h' tk' e d M => ?_)
    show MkP X pins σ Q (.ref e) ⟨h', g, dr, tk', os⟩
    obtain ⟨oe, fv, hoe, hc, hd, hdat, h1⟩ := M.obj
    have hns := M.ns
    obtain ⟨G', g1, g2⟩ := restrict h' fun b => decide (b ≠ e)
    have gk : ∀ b, b ≠ e → G'.get? b = h'.get? b := fun b hb => g1 b (decide_eq_true hb)
    have ge : G'.get? e = none := g2 e (by simp)
    have old : ∀ b o, hp.get? b = some o → G'.get? b = some o := fun b o q => (gk b (Nat.ne_of_lt (Nat.lt_of_lt_of_le (Heap.lt_size q) M.new))).trans (M.keep b o q)
    have ob : ObjOk X.prog X.w (upd H1 d (.xd [(("place" : Str), v)])) G' d (.xd [(("place" : Str), v)]) :=
      ⟨_, hns.at (fun o q => (gk d M.dne).trans q), fun f => relO_place rv f⟩
    have J : Inv X pins σ (upd H1 d (.xd [(("place" : Str), v)])) ⟨G', g, dr, tk', os⟩ := I1.laid (t' := tk') old M.dbig ob
    refine ⟨e, oe, fv, ⟨G', g, dr, tk', os⟩, _, .ref C, some d, rfl, J, fun b o q => ?_, ge, hoe, ⟨hc, hd⟩, hdat, h1, ?_, rfl, I1.bare, raises_own T.exC T.tyC, q1 d (I1.hok.fresh M.dbig)⟩
    · by_cases hb : b = e
      · have q' : G'.get? b = some o := q
        rw [hb, ge] at q'; cases q'
      · exact (gk b hb).symm.trans q
    · rw [upd_ne (Ne.symm M.dne)]
      exact I1.hok.fresh M.new
end
end L2
namespace PySem
namespace PartXname
open PySem.W PySem.Calls PyProof.Rows PySem.HandSPX
def iA (p1 p2 : Pos) : Arguments := { posonlyargs := [], args := [{ arg := "self", annotation := none, pos := p1 }, { arg := "name", annotation := none, pos := p2 }], vararg := none, kwonlyargs := [], kw_defaults := [], kwarg := none, defaults := [] }
def iB (q1 q2 q3 q4 : Pos) : List Stmt := [.Assign [.Attribute (.Name "self" q1) "name" q2] (.Name "name" q3) q4]
def iS : Scope := { kind := .function, names := [(PySem.Str.ofString "self", .local), (PySem.Str.ofString "name", .local)], isGenerator := false, isCoroutine := false, more := [] }
structure PartTxt (K : Frag) (mg : Str → Option Value) (cn qn : Str) (C fI : Addr) : Prop where
  gC : mg cn = some (.ref C)
  cls : ∃ nm q N bs bm sn sub ab col dd k0 k1 k2 k3 k5, K.lookup C = some (excClassObj nm q C N bs bm true sn sub ab col dd k0 k1 k2 k3 k5 "ValueError.__new__") ∧ refsVE bm = true
  sa : findIn K (.ref C) "__setattr__" = some (some (.builtin "object.__setattr__"))
  ga : findIn K (.ref C) "__getattribute__" = some (some (.builtin "BaseException.__getattribute__"))
  gg : findIn K (.ref C) "__getattr__" = some none
  noN : findIn K (.ref C) "name" = some none
  iC : findIn K (.ref C) "__init__" = some (some (.ref fI))
  tC : typeIn K (.ref fI) = some (.type "function")
  kC : keepIn K (.ref C) = true
  exC : subIn K (.ref C) (.type "BaseException") = some true
  tyC : typeIn K (.ref C) = some (.type "type")
  hdC : hasDictIn K C = true
  te : exmOne K (.ref C) (.ref C) = some true
  fn : ∃ (oc : Value) (od : Option Addr) (doc pm : Value) (an : Option Addr) (cdv ct : Value) (osl : Array (Option Value)) (p1 p2 q1 q2 q3 q4 : Pos),
    K.lookup fI = some ⟨oc, od, .func (fnOf "__init__" qn (iA p1 p2) (iB q1 q2 q3 q4) iS .none .none doc pm an cdv ct), osl⟩ ∧ codeIn K cdv qn = true
theorem one_size (v : Value) : [v].length ≤ sizeLine := by
  rw [sizeLine_eq]
  exact (by decide : 1 ≤ 16777216)
theorem kept_but {K : Frag} {h h' : Heap} {x : Addr} (X : K.In h) (hx : K.lookup x = none) (k : ∀ b o, b ≠ x → h.get? b = some o → h'.get? b = some o) : K.In h' := fun a o e =>
  k a o (fun z => by rw [z, hx] at e; cases e) (X a o e)
theorem ldC {M : Model} {s : Shared} {name : Str} {scope : Scope} {L a : Addr} {cd : Value} {m : Str → Option Value} {x : Str} {pos : Pos} {v : Value} {Q : Value → Shared → Prop} {A : Around} {E : Value → Shared → Prop} (hn : s.heap.Ns L m) (hv : m x = some v) (h : Q v s)
    (hk : scope.kind = .function := by rfl) (hl : (envOfC name scope L a cd).kindOf x = some .local := by rfl) (hd : (x == ("__debug__" : Str)) = false := by decide) :
    wpAny M A (eval (.Name x pos) (envOfC name scope L a cd)) Q E s := wpAny_Name (wpAny_loadName_local hk hl hn hv h) hd
structure InitEnd (h h' : Heap) (x C dx t1 : Addr) (v : Value) : Prop where
  keep : ∀ b o, b ≠ x → h.get? b = some o → h'.get? b = some o
  obj : h'.get? x = some { cls := .ref C, dict := some dx, data := .fields #[.ref t1, .none, .none, .none, .bool false, .none] }
  dbig : h.objs.size ≤ dx
  dne : dx ≠ x
  ns : h'.Ns1 dx (fun y => if y = "name" then some v else none)
structure OwnMade (h h' : Heap) (e C d : Addr) (v : Value) : Prop where
  keep : ∀ b o, h.get? b = some o → h'.get? b = some o
  new : h.objs.size ≤ e
  obj : ∃ oe vs, h'.get? e = some oe ∧ oe.cls = .ref C ∧ oe.dict = some d ∧ oe.data = .fields vs ∧ vs[1]? = some .none
  dbig : h.objs.size ≤ d
  dne : d ≠ e
  ns : h'.Ns1 d (fun y => if y = "name" then some v else none)
section
variable {prog : Program} {w : World} {A : Around} {E : Value → Shared → Prop} {R : Result → Shared → Prop} {s : Shared} {K : Frag} {mg : Str → Option Value} {cn qn : Str} {C fI : Addr}
theorem part_init (T : PartTxt K mg cn qn C fI) {x t0 : Addr} {v : Value} (X : K.In s.heap) (hlim : s.heap.NoLimit) (hx : s.heap.get? x = some (excO C t0)) (hnx : K.lookup x = none) (hroom : A.depth < recursionLimit)
    (hq : ∀ h' tk dx, InitEnd s.heap h' x C dx t0 v → R (.ok (.ret .none)) { s with heap := h', toks := tk }) :
    codeAny (model prog w) A (.call (.ref fI) ⟨[.ref x, v], []⟩) R s := by
  obtain ⟨oc, od, doc, pm, an, cdv, ct, osl, p1, p2, q1, q2, q3, q4, ho, hcd⟩ := T.fn
  obtain ⟨nm, q, N, bs, bm, sn, sub, ab, col, dd, k0, k1, k2, k3, k5, hC, hbm⟩ := T.cls
  have hcl : clsIn K C = some { name := nm, bases := bs, mro := .ref C :: bm, ns := N, qualname := q, hasDict := true, slotNames := sn, subclasses := sub, abstract := ab, collection := col, hasDel := false } := by unfold clsIn; rw [hC] <;> rfl
  refine Att.call_fn (binds := [("self", .ref x), ("name", v)]) X hlim ho hcd hroom (BindsTo.of_eq (by first | rfl | with_unfolding_all rfl)) (by first | rfl | decide | with_unfolding_all rfl) (fun s₁ IC => ?_) rfl rfl rfl
  obtain ⟨h₁, tk₁, rfl⟩ := IC.toInCall.same
  have k : ∀ b o, s.heap.get? b = some o → h₁.get? b = some o := IC.toInCall.keep
  have hn := IC.toInCall.ns
  have hxL : s.heap.objs.size ≠ x := Nat.ne_of_gt (Heap.lt_size hx)
  have X₁ : K.In h₁ := X.keeps k
  have hx₁ := k _ _ hx
  -- self.by = by
  show wpAny _ _ (execs _ _) _ _ _
  refine wpAny_execs_cons (plainObj_wpAny_Assign_Attribute ?_)
  refine ldC (v := v) hn (by first | rfl | with_unfolding_all rfl | kernel_rfl) (ldC (v := .ref x) hn (by first | rfl | with_unfolding_all rfl | kernel_rfl) ?_)
  refine set_plain X₁ (ox := excO C t0) (od := none) ⟨hx₁, rfl, rfl, trivial⟩ T.sa ?_
  refine exc_osa X₁ hx₁ hcl (show refsVE (.ref C :: bm) = true from hbm) rfl T.noN (fun h₃ tk₃ dx k₃ dn dne hx₃ hn₃ => ?_)
  show wpAny _ _ (execs _ _) _ _ _
  have z : s.heap.objs.size < h₁.objs.size := hn.lt
  exact wpAny_execs_nil (hq h₃ tk₃ dx ⟨fun b o hb e => k₃ b o hb (k b o e), hx₃, Nat.le_of_lt (Nat.lt_of_lt_of_le z dn), dne, hn₃⟩)
theorem part_made (T : PartTxt K mg cn qn C fI) {v : Value} (X : K.In s.heap) (hlim : s.heap.NoLimit) (hroom : A.depth + 1 < recursionLimit)
    (hq : ∀ h' tk e d, OwnMade s.heap h' e C d v → R (.ok (.ret (.ref e))) { s with heap := h', toks := tk }) :
    codeAny (model prog w) A (.call (.ref C) ⟨[v], []⟩) R s := by
  obtain ⟨nm, q, N, bs, bm, sn, sub, ab, col, dd, k0, k1, k2, k3, k5, hC, hbm⟩ := T.cls
  obtain ⟨hp, g, dr, tk, os⟩ := s
  have k : ∀ b o, hp.get? b = some o → ((hp.push (kdv_tup [v])).push (excO C hp.objs.size)).get? b = some o := fun b o e => Heap.get?_push_of_some _ (Heap.get?_push_of_some _ e)
  have hget : ((hp.push (kdv_tup [v])).push (excO C hp.objs.size)).get? (hp.objs.size + 1) = some (excO C hp.objs.size) := by heap_get
  have hnx : K.lookup (hp.objs.size + 1) = none := by
    cases e : K.lookup (hp.objs.size + 1) with
    | none => rfl
    | some o =>
      have z : hp.get? (hp.objs.size + 1) = some o := X _ _ e
      exact absurd (Nat.lt_of_succ_lt (Heap.lt_size z)) (Nat.lt_irrefl _)
  refine call_own F.excBase_ValueError (fun X => refsVE_contains X bm hbm) (X _ _ hC) (looks_findIn X T.iC) (fun self => bind_fn X self T.tC) (one_size v) ?_
  refine part_init (s := ⟨(hp.push (kdv_tup [v])).push (excO C hp.objs.size), g, dr, tk, os⟩) T (X.keeps k) (hlim.keeps k) hget hnx ?_ fun h' tk' dx ⟨k', hx, dn, dne, hns⟩ => ?_
  · show A.depth + 1 < recursionLimit
    exact hroom
  · have old : ∀ b o, hp.get? b = some o → h'.get? b = some o := fun b o e => k' b o (Nat.ne_of_lt (Nat.lt_succ_of_lt (Heap.lt_size e))) (k b o e)
    have z : hp.objs.size + 1 + 1 ≤ dx := by
      first
        | (simpa only [Heap.size_push] using dn)
        | exact dn
        | (have q := dn; rw [Heap.size_push, Heap.size_push] at q; exact q)
    exact ⟨rfl, hq h' tk' (hp.objs.size + 1) dx ⟨old, Nat.le_succ _, ⟨_, _, hx, rfl, rfl, rfl, rfl⟩, Nat.le_trans (Nat.le_trans (Nat.le_succ _) (Nat.le_succ _)) z, dne, hns⟩⟩
end
end PartXname
end PySem
namespace L2
open PySem PySem.Spec PyProof.Rows
theorem relO_name {v : V} {v' : Value} (r : RelV v v') (f : Str) : RelO (List.lookup f [(("name" : Str), v)]) (if f = "name" then some v' else none) := by
  by_cases hw : f = "name"
  · subst hw
    rw [if_pos rfl]
    have q : List.lookup ("name" : Str) [(("name" : Str), v)] = some v := by simp [List.lookup]
    rw [q]
    exact r
  · rw [if_neg hw]
    have qw : (f == ("name" : Str)) = false := by simpa using hw
    have q2 : List.lookup f [(("name" : Str), v)] = none := by simp [List.lookup, qw]
    rw [q2]
    trivial
section
variable {X : Cx} {cn qn : Str} {C fI : Addr}
def tMk_name (C : Addr) (ta : TA) : St → Hp → XK → Prop := fun σ H Q => ta σ H fun vs H1 => ∃ v, vs = [v] ∧ ∀ d, H1 d = none → Q (.ref C) (some d) (upd H1 d (.xd [(("name" : Str), v)]))
theorem pmk_name {a : Expr} {ta : TA} {p pos : Pos} {k : Nat} (T : PySem.PartXname.PartTxt X.K X.mg cn qn C fI) (hr : Room k X.A) (ha : PA X [a] ta) (hg : Gl X cn := by rfl) (hdb : (cn == ("__debug__" : Str)) = false := by decide)
    (he : starEach (a :: []) X.env = (false, eval a X.env) :: starEach [] X.env := by rfl) (hpl : (backTo pos (starEach [] X.env)).any (·.1) = false := by rfl) :
    PMk X (.Call (.Name cn p) [a] [] pos) (tMk_name C ta) := by
  intro pins s σ H Q I h
  refine wpAny_Call_Name_kw (ld_glob I hg T.gC ?_ hdb)
  refine PySem.W.callWith_K (h₀ := X.base) I.ok.mod.kin T.kC (thn (ha.run pos pins s σ H _ I h) fun us s1 hh => ?_) he hpl
  obtain ⟨vs, H1, I1, r1, v, ev, q1⟩ := hh
  subst ev
  refine ⟨I1.kIn, ?_⟩
  cases r1 with
  | cons rv rn =>
    rename_i v' us'
    cases rn
    show wpAny _ _ (call (.ref C) [v']) _ _ _
    have hlim := I1.nolimit
    obtain ⟨hp, g, dr, tk, os⟩ := s1
    refine wpAny_call (PySem.PartXname.part_made T I1.kIn hlim (by have := hr.dp; omega) fun h' tk' e d M => ?_)
    show MkP X pins σ Q (.ref e) ⟨h', g, dr, tk', os⟩
    obtain ⟨oe, fv, hoe, hc, hd, hdat, h1⟩ := M.obj
    have hns := M.ns
    obtain ⟨G', g1, g2⟩ := restrict h' fun b => decide (b ≠ e)
    have gk : ∀ b, b ≠ e → G'.get? b = h'.get? b := fun b hb => g1 b (decide_eq_true hb)
    have ge : G'.get? e = none := g2 e (by simp)
    have old : ∀ b o, hp.get? b = some o → G'.get? b = some o := fun b o q => (gk b (Nat.ne_of_lt (Nat.lt_of_lt_of_le (Heap.lt_size q) M.new))).trans (M.keep b o q)
    have ob : ObjOk X.prog X.w (upd H1 d (.xd [(("name" : Str), v)])) G' d (.xd [(("name" : Str), v)]) :=
      ⟨_, hns.at (fun o q => (gk d M.dne).trans q), fun f => relO_name rv f⟩
    have J : Inv X pins σ (upd H1 d (.xd [(("name" : Str), v)])) ⟨G', g, dr, tk', os⟩ := I1.laid (t' := tk') old M.dbig ob
    refine ⟨e, oe, fv, ⟨G', g, dr, tk', os⟩, _, .ref C, some d, rfl, J, fun b o q => ?_, ge, hoe, ⟨hc, hd⟩, hdat, h1, ?_, rfl, I1.bare, raises_own T.exC T.tyC, q1 d (I1.hok.fresh M.dbig)⟩
    · by_cases hb : b = e
      · have q' : G'.get? b = some o := q
        rw [hb, ge] at q'; cases q'
      · exact (gk b hb).symm.trans q
    · rw [upd_ne (Ne.symm M.dne)]
      exact I1.hok.fresh M.new
end
end L2
namespace L3
open PySem L2 PySem.Spec PyProof.Rows
section
variable {X : Cx}
theorem pe_mk {e : Expr} {t : L2.St → Hp → XK → Prop} (h : PMk X e t) : PE X e (fun σ H Q => t σ H fun cls dd H1 => ∀ a oe, H1 a = none → Zc cls dd oe → (∃ vs, oe.data = .fields vs) → Q (.ref a) (upd H1 a (.frz oe (.ext fun _ => True)))) := by
  refine ⟨fun pins s σ H Q I hh => ?_⟩
  refine thn (h pins s σ H _ I hh) fun u s' hm => ?_
  obtain ⟨a, oe, vs, sI, H', cls, d, rfl, J, k, hne, ha, hz, hd, h1, na, os, ag, r, q⟩ := hm
  obtain ⟨hp, g, dr, tk, os'⟩ := s'
  cases os
  have U : Un (frs X.stack) [] H' (upd H' a (.frz oe (.ext fun _ => True))) sI.heap hp := Un.laidN k hne na
  exact ⟨.ref a, _, J.call (g' := g) (t' := tk) (d' := dr) U (J.hok.laidN k na ⟨ha, trivial, ⟨_, ha⟩, fun _ _ _ _ => trivial⟩) ag (fun _ z => nomatch z), rfl, q a oe na hz ⟨_, hd⟩⟩
def tMk1 (C : Addr) (fld : Str) (ta : TA) : L2.St → Hp → XK → Prop := fun σ H Q => ta σ H fun vs H1 => ∃ v, vs = [v] ∧ ∀ d, H1 d = none → Q (.ref C) (some d) (upd H1 d (.xd [(fld, v)]))
structure FldT (K : PySem.W.Frag) (A : Addr) (fld : Str) : Prop where
  ga : PySem.W.findIn K (.ref A) "__getattribute__" = some (some (.builtin "BaseException.__getattribute__"))
  gg : PySem.W.findIn K (.ref A) "__getattr__" = some none
  exC : PySem.W.subIn K (.ref A) (.type "BaseException") = some true
  hdC : PySem.W.hasDictIn K A = true
  noN : PySem.W.findIn K (.ref A) fld = some none
def rFld (K : PySem.W.Frag) (A : Addr) (fld : Str) : V → Hp → VK → Prop := fun x H1 Q => ∃ a oe u dd v, x = .ref a ∧ H1 a = some (.frz oe u) ∧ Zc (.ref A) (some dd) oe ∧ (∃ vs, oe.data = .fields vs) ∧ H1 dd = some (.xd [(fld, v)]) ∧ Q v H1
theorem relO_one {fld : Str} {v : V} : List.lookup fld [(fld, v)] = some v := by simp [List.lookup]
theorem pe_byV {A : Addr} {fld : Str} {e : Expr} {te : TE} {pos : Pos} (T : FldT X.K A fld) (he : PE X e te)
    (hb : attributeBase e fld X.env (eval e X.env) = eval e X.env) :
    PE X (.Attribute e fld pos) (fun σ H Q => te σ H fun x H1 => rFld X.K A fld x H1 Q) := by
  refine ⟨fun pins s σ H Q I h => ?_⟩
  refine attr_of hb (thn (he.run pins s σ H _ I h) fun u s1 hh => ?_)
  obtain ⟨x, H1, I1, rx, a, oe, uu, dd, v, ex, efz, hz, hf, ea, q⟩ := hh
  subst ex
  obtain rfl : u = Value.ref a := rx
  obtain ⟨ha, _⟩ := (show ObjOk X.prog X.w H1 s1.heap a (.frz oe uu) from I1.hok a _ efz)
  obtain ⟨vs, hd⟩ := hf
  have hx : ObjOk X.prog X.w H1 s1.heap dd (.xd [(fld, v)]) := I1.hok dd _ ea
  obtain ⟨mA, hns, hr⟩ := hx
  obtain ⟨od, ho, hl⟩ := lookIn_ns hns
  obtain ⟨u, hu, ru⟩ := RelO.some_of (v := v) (o := mA fld) (by rw [← relO_one (fld := fld) (v := v)]; exact hr fld)
  have J : PySem.W.InstAt s1.heap a oe A (some od) := ⟨ha, hz.1, by unfold PySem.W.notCls; rw [hd] <;> rfl, by rw [hz.2]; exact ho⟩
  exact HandSPX.exc_get I1.kIn J T.ga T.gg T.exC (PySem.W.findObj_own T.hdC T.noN rfl (by rw [hl, hu])) (handed_of ru) ⟨v, H1, I1.tok _, ru, q⟩
def rIsiV (K : PySem.W.Frag) : List V → Hp → VK → Prop := fun xs H Q => ∃ a oe uu dd A c u b, xs = [.ref a, c] ∧ ClsV c u ∧ H a = some (.frz oe uu) ∧ Zc (.ref A) dd oe ∧ (∃ vs, oe.data = .fields vs) ∧ (∀ d, dd = some d → ∃ fl, H d = some (.xd fl)) ∧ ExT K A ∧ PySem.W.kitOne K (.ref A) u = some b ∧ Q (.bl b) H
theorem call_isiV : CallR X (.builtin "isinstance") (rIsiV X.K) := by
  intro pins s σ H xs us Q I r h
  obtain ⟨ea, oe, uu, dd, A, c, u, b, rfl, k, efz, hz, hf, hd, T, hk, q⟩ := h
  obtain ⟨u1, u2, rfl, r1, r2⟩ := vals2 r
  cases (show u1 = Value.ref ea from r1)
  have e2 := k.eq r2
  subst e2
  obtain ⟨ha, _⟩ := (show ObjOk X.prog X.w H s.heap ea (.frz oe uu) from I.hok ea _ efz)
  obtain ⟨vs, hdat⟩ := hf
  have nc : PySem.W.notCls oe = true := by unfold PySem.W.notCls; rw [hdat] <;> rfl
  cases dd with
  | none =>
    have J : PySem.W.InstAt s.heap ea oe A none := ⟨ha, hz.1, nc, by rw [hz.2]; trivial⟩
    exact PySem.W.kia_one (PySem.W.kitx_exc T.cl T.ga T.gg T.sub T.at_ T.gt T.tk T.mr) I.kIn J hk (fun z => nomatch z) fun tk => ⟨.bl b, H, I.tok tk, rfl, q⟩
  | some d =>
    obtain ⟨fl, hfl⟩ := hd d rfl
    have hx : ObjOk X.prog X.w H s.heap d (.xd fl) := I.hok d _ hfl
    obtain ⟨mA, hns, hr⟩ := hx
    obtain ⟨od, ho, hl⟩ := lookIn_ns hns
    have J : PySem.W.InstAt s.heap ea oe A (some od) := ⟨ha, hz.1, nc, by rw [hz.2]; exact ho⟩
    exact PySem.W.kia_one (PySem.W.kitx_exc T.cl T.ga T.gg T.sub T.at_ T.gt T.tk T.mr) I.kIn J hk (fun z => nomatch z) fun tk => ⟨.bl b, H, I.tok tk, rfl, q⟩
def rCountD (K : PySem.W.Frag) : V → List V → Hp → VK → Prop := fun x xs H Q => ∃ (a : Addr) (y : V) (d : PyData) (ds : List PyData), x = V.ref a ∧ xs = [y] ∧ Dp K H (V.ref a) (.list ds) ∧ Dp K H y d ∧
  SeqAt.shaped (.list ds) = true ∧ SeqAt.shaped d = true ∧ Q (.int (ds.countP fun z => PyData.eqv z d : Nat)) H
theorem mt_countD (hu : X.A.units + 65 < cLine) : MtR X "list.count" (rCountD X.K) := by
  intro pins s σ H x xs v us Q I rx rxs h
  obtain ⟨a, y, d, ds, rfl, rfl, hl, hy, sl, sd, q⟩ := h
  cases rx
  cases rxs with
  | cons ry rt =>
    rename_i uy ut
    cases rt
    obtain ⟨bs, r1⟩ := Dp.reads I d y uy hy ry
    have hxs : PyData.canLayAll0 ds = true := SeqAt.canLay_of_shaped sl
    have hroom : X.A.units + 1 + min (PyData.depthAll ds) d.depth < cLine := room_in_shaped sd hu
    cases hl with
    | lst hs ha =>
      obtain ⟨its, rv, ⟨⟨cls, dd, data, sls⟩, n, ho, hc, hdn, hdt⟩, hlen⟩ := I.list hs
      simp only at hc hdt
      subst hc hdt
      obtain ⟨as, h4⟩ := Dp.readsAll I ds _ its ha rv
      have hmap : its.map (SeqAt.readOf s.heap) = ds := SeqAt.readsAll_map ds its as hxs h4
      have ec : its.toArray.toList.countP (fun u => PyData.eqv (SeqAt.readOf s.heap u) d) = ds.countP fun z => PyData.eqv z d := by
        rw [← hmap, List.countP_map]
        rfl
      refine call_meets PySem.F.slot_list_count ⟨_, ho, rfl⟩ PySem.F.entry_list_count (PySem.F.args_list_count_2 _ _)
        (SeqAt.list_countAt a its.toArray n dd sls uy (fun u => PyData.eqv (SeqAt.readOf s.heap u) d)) ⟨ho, SeqAt.items_eqAt (vs := its.toArray) (show ReadsAll s.heap its.toArray.toList ds as from h4) r1 hxs (SeqAt.canLay_of_shaped sd) hroom, ?_⟩
      rw [ec]
      exact ⟨.int _, H, I.tok _, ⟨_, rfl⟩, q⟩
end
def gExn (c : Nat) : Rt → Option Rt
  | .val d => some (.val (.exn c [d]))
  | _ => none
def gXget (c : Nat) : Rt → Option Rt
  | .val (.exn c' [d]) => if c' = c then some (.val d) else none
  | _ => none
def gIsiE (nx : Nat) : List Rt → Option Rt
  | [.val (.exn c _), .val (.cls n)] => if c < nx ∧ n ≤ nx then some (.val (.bl (decide (c = n) || decide (n = nx)))) else none
  | [.val (.exn c _), .val (.ty n)] => if c < nx ∧ n = "ValueError" then some (.val (.bl true)) else none
  | _ => none
structure ExvT (K : PySem.W.Frag) (cl : Nat → Addr) (nx : Nat) : Prop where
  x : ∀ c, c < nx → ExT K (cl c)
  o : ∀ c, c < nx → ∀ n, n ≤ nx → PySem.W.kitOne K (.ref (cl c)) (.ref (cl n)) = some (decide (c = n) || decide (n = nx))
  v : ∀ c, c < nx → PySem.W.kitOne K (.ref (cl c)) (.type "ValueError") = some true
def ixD : List PyData → PyData → Option Nat
  | [], _ => none
  | x :: xs, z => if PyData.eqv x z = true then some 0 else (ixD xs z).map (· + 1)
theorem ixD_is : ∀ {ys : List PyData} {z : PyData} {j : Nat}, ixD ys z = some j → (∃ y, ys[j]? = some y ∧ PyData.eqv y z = true) ∧ ∀ (m : Nat) (z' : PyData), m < j → ys[m]? = some z' → PyData.eqv z' z = false
  | [], _, _, h => by cases h
  | x :: xs, z, j, h => by
    unfold ixD at h
    by_cases e : PyData.eqv x z = true
    · rw [if_pos e] at h
      cases h
      exact ⟨⟨x, rfl, e⟩, fun m z' hm => absurd hm (Nat.not_lt_zero _)⟩
    · rw [if_neg e] at h
      cases q : ixD xs z with
      | none => rw [q] at h; cases h
      | some k =>
        rw [q] at h
        cases h
        obtain ⟨h1, h2⟩ := ixD_is q
        refine ⟨by simpa using h1, fun m z' hm hz => ?_⟩
        cases m with
        | zero =>
          have : x = z' := by simpa using hz
          subst this
          exact Bool.eq_false_iff.mpr e
        | succ m => exact h2 m z' (Nat.lt_of_succ_lt_succ hm) (by simpa using hz)
def gLCt (ds : List D) (d : D) : Option D := match D.pys ds, d.py with
  | some ps, some p => if SeqAt.shaped (.list ps) = true ∧ SeqAt.shaped p = true then some (.int (ps.countP fun z => PyData.eqv z p : Nat)) else none
  | _, _ => none
def gLIx (ds : List D) (d : D) : Option D := match D.pys ds, d.py with
  | some ps, some p => if SeqAt.shaped (.list ps) = true ∧ SeqAt.shaped p = true then (ixD ps p).map fun j => .int (j : Nat) else none
  | _, _ => none
def mLM (g : List D → D → Option D) (f1 f2 : ME) : ME := fun env => (f1 env).bind fun r1 e1 => match r1 with
  | .val (.lst ds) => (f2 e1).bind fun r2 e2 => match r2 with
    | .val d => ofO ((g ds d).map Rt.val) e2
    | _ => .bad
  | _ => .bad
section
variable {X : Cx} {C : Cn} {E : WX} {e a b o : Expr} {p p2 pos apos cpos : Pos} {T T1 T2 : List Nat} {f f1 f2 : ME} {fs : MA}
theorem loc_exn {c : Nat} : Loc1 C (fun v H Q => ∀ d, H d = none → ∀ a oe, (upd H d (.xd [(xfld c, v)])) a = none → Zc (.ref (C.cl c)) (some d) oe → (∃ vs, oe.data = .fields vs) → Q (.ref a) (upd (upd H d (.xd [(xfld c, v)])) a (.frz oe (.ext fun _ => True)))) (gExn c) := by
  intro m x rx ry av Q S h e k
  unfold gExn at e
  split at e
  · rename_i d
    cases e
    intro dx hdx a oe ha hz hf
    have G1 := gro_new (o := .xd [(xfld c, x)]) S hdx
    have S1 := S.gro G1
    have G2 := gro_new (o := .frz oe (.ext fun _ => True)) S1 ha
    refine k _ _ (G1.trans G2) ⟨a, oe, _, some dx, [x], rfl, upd_same, hz, hf, .inr ⟨dx, x, rfl, rfl, ?_⟩, ⟨x, [], rfl, RpD.mono (G1.trans G2).exF _ _ h, rfl⟩⟩
    have hne : dx ≠ a := fun z => by
      subst z
      rw [upd_same] at ha
      cases ha
    exact (upd_ne hne).trans upd_same
  · cases e
theorem e_exn1 {c : Nat} {A : Addr} {fld : Str} (hA : A = C.cl c) (hx : xfld c = fld) (pm : PMk X e (tMk1 A fld (rdA1 C E T f))) : PE X e (rdE C E T (m1 (gExn c) f)) :=
  PE.wk (pe_mk pm) fun σ H Q h => by
    obtain ⟨m, e1, e2, S, w⟩ := rd1 (loc_exn (C := C) (c := c)) h
    refine ⟨m, e1, e2, S, Want.imp w fun r env w v m' e3 e4 S' s ok => ⟨v, rfl, fun d hd => ?_⟩⟩
    have := w v m' e3 e4 S' s ok d hd
    rw [hx] at this
    rw [hA]
    exact this
theorem e_exn0 {c : Nat} {cn : Str} (O : Own0 X.K X.mg cn (C.cl c)) (hg : Gl X cn) (hdb : (cn == ("__debug__" : Str)) = false := by decide) : PE X (.Call (.Name cn p) [] [] pos) (rdE C E [] (mC (.exn c []))) :=
  PE.wk (pe_mk (pmk_own0 O hg hdb)) fun σ H Q ⟨m, e1, e2, S, w⟩ => by
    subst e1 e2
    intro a oe ha hz hf
    have G := gro_new (o := .frz oe (.ext fun _ => True)) S ha
    exact w (.ref a) { m with F := upd m.F a (.frz oe (.ext fun _ => True)), H := upd m.H a (.frz oe (.ext fun _ => True)) } rfl rfl (S.gro G) (G.step S) ⟨a, oe, _, none, [], rfl, upd_same, hz, hf, .inl ⟨rfl, rfl⟩, rfl⟩
theorem loc_xget {K : PySem.W.Frag} {c : Nat} : Loc1 C (rFld K (C.cl c) (xfld c)) (gXget c) := by
  intro m x rx ry av Q S h e k
  unfold gXget at e
  split at e
  · rename_i c' d
    split at e
    · rename_i hc
      subst hc
      cases e
      obtain ⟨a, oe, u, dd, xs, rfl, q, hz, hf, hx, v, r, e3, h1, h2⟩ := h
      cases h2
      rcases hx with ⟨hx, _⟩ | ⟨d1, x1, hx1, hx2, hx3⟩
      · rw [hx] at e3; cases e3
      · rw [hx1] at e3
        cases e3
        subst hx2
        exact ⟨a, oe, u, d1, v, rfl, S.ex _ _ q, hz, hf, S.ex _ _ hx3, k v m (Gro.refl S) h1⟩
    · cases e
  · cases e
theorem e_xget {c : Nat} {A : Addr} {fld : Str} (hA : A = C.cl c) (hx : xfld c = fld) (T0 : FldT X.K A fld) (he : PE X e (rdE C E T f))
    (hb : attributeBase e fld X.env (eval e X.env) = eval e X.env := by rfl) : PE X (.Attribute e fld pos) (rdE C E T (m1 (gXget c) f)) := by
  subst hA hx
  exact PE.wk (pe_byV T0 he hb) fun σ H Q h => rd1 loc_xget h
theorem loc_isiE {nx : Nat} (O : ExvT C.K C.cl nx) : LocN C (rIsiV C.K) (gIsiE nx) := by
  intro m xs rs ry Q S h e k
  unfold gIsiE at e
  split at e
  · rename_i c ds n
    split at e
    · rename_i hh
      cases e
      obtain ⟨x, y, av, av', rfl, h1, h2⟩ := h.two
      obtain ⟨a, oe, u, dd, xs, rfl, q, hz, hf, hx, _⟩ := h1
      have h2 : y = .ref (C.cl n) := h2
      subst h2
      refine ⟨a, oe, u, dd, C.cl c, .ref (C.cl n), .ref (C.cl n), _, rfl, .own _, S.ex _ _ q, hz, hf, fun d hd => ?_, O.x c hh.1, O.o c hh.1 n hh.2, k _ m (Gro.refl S) rfl⟩
      rcases hx with ⟨_, hx⟩ | ⟨d1, x1, hx1, hx2, hx3⟩
      · rw [hx] at hd; cases hd
      · rw [hx2] at hd; cases hd; exact ⟨_, S.ex _ _ hx3⟩
    · cases e
  · rename_i c ds n
    split at e
    · rename_i hh
      cases e
      obtain ⟨hc, rfl⟩ := hh
      obtain ⟨x, y, av, av', rfl, h1, h2⟩ := h.two
      obtain ⟨a, oe, u, dd, xs, rfl, q, hz, hf, hx, _⟩ := h1
      have h2 : y = .ty "ValueError" := h2
      subst h2
      refine ⟨a, oe, u, dd, C.cl c, .ty "ValueError", .type "ValueError", _, rfl, .ty _, S.ex _ _ q, hz, hf, fun d hd => ?_, O.x c hc, O.v c hc, k _ m (Gro.refl S) rfl⟩
      rcases hx with ⟨_, hx⟩ | ⟨d1, x1, hx1, hx2, hx3⟩
      · rw [hx] at hd; cases hd
      · rw [hx2] at hd; cases hd; exact ⟨_, S.ex _ _ hx3⟩
    · cases e
  · cases e
theorem lm_core {r : V → List V → Hp → VK → Prop} {g : List D → D → Option D} (hK : X.K = C.K)
    (hr : ∀ (H : Hp) (x : Addr) (xs : List V) (ds : List D) (y : V) (d d' : D) (Q : VK), SqL C.K H x xs → RpDs C.K C.cl H ds xs → RpD C.K C.cl H d y → g ds d = some d' → (∀ v, (∀ F, RpD C.K C.cl F d' v) → Q v H) → r (.ref x) [y] H Q)
    (h : PE X e (tBM X.K "list" r (rdE C E T1 f1) (rdA1 C E T2 f2))) : PE X e (rdE C E (T1 ++ T2) (mLM g f1 f2)) := PE.wk h fun σ H Q ⟨m, e1, e2, S, w⟩ =>
  ⟨m, e1, e2, S, Want.imp w.bind fun r1 env w => fun v1 m1 a1 a2 S1 s1 ok1 => by
    subst a1
    split at w
    · rename_i ds
      obtain ⟨p, xs, rfl, sp, rr⟩ := ok1
      refine ⟨.inl ⟨rfl, xs, by rw [hK]; exact S1.ex.sqL sp⟩, m1, rfl, a2, S1, Want.mono w.bind s1 fun r2 env2 w => fun v2 m2 b1 b2 S2 s2 ok2 => ?_⟩
      subst b1
      split at w
      · rename_i d
        cases z : g ds d with
        | none => rw [z] at w; exact w.elim
        | some d' =>
          rw [z] at w
          have ex12 : Ex m1.F m2.H := s2.exF.trans S2.ex
          exact hr _ p xs ds v2 d d' Q (ex12.sqL sp) (rr.mono ex12 _ _) (RpD.mono S2.ex _ _ ok2) z fun v hv => w v m2 rfl b2 S2 (s1.trans s2) (hv _)
      · exact w.elim
    · exact w.elim⟩
theorem e_lct (hK : X.K = C.K) (h : PE X e (tBM X.K "list" (rCountD X.K) (rdE C E T1 f1) (rdA1 C E T2 f2))) : PE X e (rdE C E (T1 ++ T2) (mLM gLCt f1 f2)) :=
  lm_core hK (fun H x xs ds y d d' Q h1 h2 h3 h4 k => by
    unfold gLCt at h4
    split at h4
    · rename_i ps p q1 q2
      split at h4
      · rename_i hs
        cases h4
        rw [hK]
        exact ⟨x, y, p, ps, rfl, rfl, .lst h1 (RpDs.dp ds xs ps h2 q1), RpD.dp d y p h3 q2, hs.1, hs.2, k _ fun F => rfl⟩
      · cases h4
    · cases h4) h
theorem e_lix (hK : X.K = C.K) (h : PE X e (tBM X.K "list" (rIndexD X.K) (rdE C E T1 f1) (rdA1 C E T2 f2))) : PE X e (rdE C E (T1 ++ T2) (mLM gLIx f1 f2)) :=
  lm_core hK (fun H x xs ds y d d' Q h1 h2 h3 h4 k => by
    unfold gLIx at h4
    split at h4
    · rename_i ps p q1 q2
      split at h4
      · rename_i hs
        cases z : ixD ps p with
        | none => rw [z] at h4; cases h4
        | some j =>
          rw [z] at h4
          cases h4
          obtain ⟨⟨y', i1, i2⟩, i3⟩ := ixD_is z
          rw [hK]
          exact ⟨x, y, p, ps, j, y', rfl, rfl, .lst h1 (RpDs.dp ds xs ps h2 q1), RpD.dp d y p h3 q2, hs.1, hs.2, i1, i2, i3, k _ fun F => rfl⟩
      · cases h4
    · cases h4) h
end
end L3
namespace L3
open PySem L2 PySem.Spec PyProof.Rows
def repD : D → Option Str
  | .dk [] [] => some (dictText [])
  | d => match d.py with
    | some p => if p.showable = true ∧ p.hasDict = false ∧ p.depth ≤ 60 ∧ p.shown.length ≤ 16777216 then some p.shown else none
    | none => none
def gRep : List Rt → Option Rt
  | [r] => if r.isSl = true then none else (repD r.d).map fun s => .val (.str s)
  | _ => none
section
variable {X : Cx}
def rRep (K : PySem.W.Frag) : List V → Hp → VK → Prop := fun xs H Q => ∃ x, xs = [x] ∧ ((∃ d : PyData, Dp K H x d ∧ d.showable = true ∧ d.hasDict = false ∧ d.depth ≤ 60 ∧ d.shown.length ≤ sizeLine ∧ Q (.str d.shown) H) ∨
  ∃ a, x = .ref a ∧ H a = some (.dK []) ∧ Q (.str (dictText [])) H)
theorem call_rep (hg : X.A.guards = some []) (hu : X.A.units + 65 < cLine) : CallR X (.builtin "repr") (rRep X.K) := by
  intro pins s σ H xs us Q I r h
  obtain ⟨x, rfl, h⟩ := h
  obtain ⟨u, rfl, ru⟩ := r.one
  rcases h with ⟨d, hd, hs, hn, hdp, hz, q⟩ | ⟨a, rfl, ha, q⟩
  · obtain ⟨as, rr⟩ := Dp.reads I d x u hd ru
    cases rr with
    | none => exact PySem.P.repr_of_none ⟨.str _, H, I.tok _, ⟨_, rfl⟩, by simpa only [PyData.shown] using q⟩
    | bool b => exact PySem.P.repr_of_bool ⟨.str _, H, I.tok _, ⟨_, rfl⟩, by simpa only [PyData.shown] using q⟩
    | int i t => exact PySem.P.repr_of_int (by simpa [PyData.showable] using hs) ⟨.str _, H, I.tok _, ⟨_, rfl⟩, by simpa only [PyData.shown] using q⟩
    | str y t => exact PySem.P.repr_of_str ⟨.str _, H, I.tok _, ⟨_, rfl⟩, by simpa only [PyData.shown] using q⟩ (by simpa only [PyData.shown] using hz)
    | list h1 h2 h3 h4 => exact repr_of_reads' (.list h1 h2 h3 h4) hs (fun e => by rw [hn] at e; cases e) hg (by omega) (fun _ _ e => e) (fun h' u tk k => ⟨.str _, H, I.kept k, ⟨_, rfl⟩, q⟩) hz
    | tuple h1 h2 h3 h4 => exact repr_of_reads' (.tuple h1 h2 h3 h4) hs (fun e => by rw [hn] at e; cases e) hg (by omega) (fun _ _ e => e) (fun h' u tk k => ⟨.str _, H, I.kept k, ⟨_, rfl⟩, q⟩) hz
    | dict h1 h2 h3 h4 h5 => simp [PyData.hasDict] at hn
  · cases (show u = Value.ref a from ru)
    obtain ⟨_, hsm, vs, rel, o, es, ep, ho, hx, hdat, hk, hp, _⟩ : ([] : List (Key × V)).length ≤ sizeLine ∧ (a == sysModules) = false ∧ ∃ vs, KV [] vs ∧ s.heap.DictOf (mixKind X.prog X.w) a vs := I.hok a _ ha
    cases rel
    have hes : es.toList = [] := by
      cases e : es.toList with
      | nil => rfl
      | cons y ys => rw [e] at hp; cases hp
    have rr : Reads s.heap (.ref a) (.dict []) (a :: [] ++ []) := .dict ho hx.1 hdat (by rw [hes]; exact .nil) (by rw [hes]; exact .nil)
    have e0 : (PyData.dict []).shown = dictText [] := by simp only [PyData.shown, PyData.shownKv]
    refine repr_of_reads' rr rfl (fun _ hm => ?_) hg (by show X.A.units + (0 + 1 + 1) < cLine; omega) (fun _ _ e => e) (fun h' u tk k => ⟨.str _, H, I.kept k, ⟨_, rfl⟩, by rw [e0]; exact q⟩) (by rw [e0, sizeLine_eq]; decide +kernel)
    have : sysModules = a := by simpa using hm
    subst this
    simp at hsm
end
section
variable {X : Cx} {C : Cn} {E : WX} {e : Expr} {p pos : Pos} {T : List Nat} {fs : MA}
theorem loc_rep : LocN C (rRep C.K) gRep := by
  intro m xs rs ry Q S h e k
  unfold gRep at e
  split at e
  · rename_i r
    obtain ⟨x, av, rfl, hx⟩ := h.one
    by_cases hs : r.isSl = true
    · rw [if_pos hs] at e; cases e
    rw [if_neg hs] at e
    have rd := hx.rd S (by cases z : r.isSl <;> simp_all)
    cases q : repD r.d with
    | none => rw [q] at e; cases e
    | some y =>
      rw [q] at e
      cases e
      refine ⟨x, rfl, ?_⟩
      unfold repD at q
      split at q
      · rename_i q0
        cases q
        rw [q0] at rd
        obtain ⟨a, xs, rfl, h1, h2, h3⟩ := rd
        have : xs = [] := h3
        subst this
        exact .inr ⟨a, rfl, h1, k _ m (Gro.refl S) rfl⟩
      · split at q
        · rename_i d hd
          split at q
          · rename_i z
            cases q
            exact .inl ⟨d, RpD.dp _ _ _ rd hd, z.1, z.2.1, z.2.2.1, by rw [sizeLine_is]; exact z.2.2.2, k _ m (Gro.refl S) rfl⟩
          · cases q
        · cases q
  · cases e
end
theorem t1 : (repD (.tup [.int 10000000000000000000, .str "arrow", .non, .lst [.bl true, .int (-7)]])).isSome = true := by kernel_rfl
end L3
namespace L3
open PySem L2
def al3 (e : Env) (d : D) (o : Option Env) : Rs Fl := match o with
  | some e4 => .ok (.ret (.val d)) e4
  | none => .bad
def al2 (x : Nat) (p : List Stp) (i : Nat) (a : Addr) : Rs Fl → Rs Fl
  | .ok (.ret (.val d)) e3 => (match e3[i]? with
    | some (some o') => if isAdr a (peek x p e3) = true then al3 e3 d (poke x p o' (e3.set i none)) else .bad
    | _ => .bad)
  | _ => .bad
def al1 (x : Nat) (p : List Stp) (i : Nat) (o : O) (g : MS) (a : Addr) : Option Env → Rs Fl
  | some e2 => al2 x p i a (g (e2.set i (some o)))
  | none => .bad
noncomputable def msAlias (i : Nat) (f : ME) (g : MS) : MS := fun env => (f env).bind fun r e1 => match r with
  | .bor x p (.lst os) => if x ≠ i then mAll fun a => al1 x p i (.lst os) g a (poke x p (.s (.adr a)) e1) else .bad
  | _ => .bad
section
variable {X : Cx} {C : Cn} {E : WX} {e : Expr} {pos : Pos} {T1 T2 : List Nat} {f : ME} {g : MS} {rest : List Stmt}
theorem peek_ne {x i : Nat} {p : List Stp} {env : Env} {o : Option O} (h : x ≠ i) : peek x p (env.set i o) = peek x p env := by
  unfold peek
  rw [List.getElem?_set_ne (Ne.symm h)]
theorem sta_drop {m : Mo} {i : Nat} (S : Sta C m) : Sta C { m with env := m.env.set i none, fps := m.fps.set i [] } where
  ln := by show (m.env.set i none).length = _; rw [List.length_set]; exact S.ln
  l1 := by show m.σ.length = (m.env.set i none).length; rw [List.length_set]; exact S.l1
  l2 := by show (m.fps.set i []).length = (m.env.set i none).length; rw [List.length_set, List.length_set]; exact S.l2
  sl := fun j o s f a1 a2 a3 => by
    have a1 : (m.env.set i none)[j]? = some o := a1
    have a3 : (m.fps.set i [])[j]? = some f := a3
    by_cases hj : j = i
    · subst hj
      by_cases hl : j < m.env.length
      · rw [List.getElem?_set_self hl] at a1
        cases a1
        rw [List.getElem?_set_self (by rw [S.l2]; exact hl)] at a3
        cases a3
        rfl
      · rw [List.getElem?_eq_none (by rw [List.length_set]; omega)] at a1; cases a1
    · rw [List.getElem?_set_ne (Ne.symm hj)] at a1 a3
      exact S.sl j o s f a1 a2 a3
  ex := S.ex
  exF := S.exF
  newF := S.newF
  nd := fun j f a3 => by
    have a3 : (m.fps.set i [])[j]? = some f := a3
    by_cases hj : j = i
    · subst hj
      by_cases hl : j < m.fps.length
      · rw [List.getElem?_set_self hl] at a3; cases a3; exact List.nodup_nil
      · rw [List.getElem?_eq_none (by rw [List.length_set]; omega)] at a3; cases a3
    · rw [List.getElem?_set_ne (Ne.symm hj)] at a3
      exact S.nd j f a3
  dj := fun j k f1 f2 a hjk a3 a4 h1 h2 => by
    have a3 : (m.fps.set i [])[j]? = some f1 := a3
    have a4 : (m.fps.set i [])[k]? = some f2 := a4
    have key : ∀ {l : Nat} {f : Fp}, (m.fps.set i [])[l]? = some f → a ∈ f → m.fps[l]? = some f := fun {l f} q ha => by
      by_cases hl : l = i
      · subst hl
        by_cases hq : l < m.fps.length
        · rw [List.getElem?_set_self hq] at q; cases q; simp at ha
        · rw [List.getElem?_eq_none (by rw [List.length_set]; omega)] at q; cases q
      · rwa [List.getElem?_set_ne (Ne.symm hl)] at q
    exact S.dj j k f1 f2 a hjk (key a3 h1) (key a4 h2) h1 h2
  df := fun a ha => S.df a (by
    rcases mem_flat_set ha with z | ⟨j, f1, _, q, z⟩
    · simp at z
    · exact mem_fps q z)
  own := fun a ha => S.own a (by
    rcases mem_flat_set ha with z | ⟨j, f1, _, q, z⟩
    · simp at z
    · exact mem_fps q z)
  frame := S.frame
  dom := S.dom
  pin := S.pin
theorem s_alias {x : Str} {pos' : Pos} (i : Nat) (hN : X.N.Nodup) (hi : X.N[i]? = some x) (hx : Loc X.env.scope x) (he : PE X e (rdE C E T1 f)) (hIO : i ∉ C.IO) (hlen : i < C.n)
    (hrest : ∀ (F0 H0 : Hp) (io : Fp) (vs : L2.St), PSs X rest (rdS ⟨C.K, C.cl, F0, H0, io, C.IO ++ [i], vs, C.n⟩ E T2 g))
    (hs : swapsWith e (some (.Name x pos')) pos.line X.env = pure false := by rfl) (hf : X.fn x = true ∨ X.env.scope.names.lookup x = some .local := by first | exact .inl rfl | exact .inr rfl | assumption) :
    PSs X (.Assign [.Name x pos'] e pos :: rest) (rdS C E (List.range C.n) (msAlias i f g)) := by
  refine PSs.wk (pss_cons (ps_set hN hi hx he hs hf) (PSs.ex (ι := Hp × Hp × Fp × L2.St) (P := fun _ => True) (t := fun z => rdS ⟨C.K, C.cl, z.1, z.2.1, z.2.2.1, C.IO ++ [i], z.2.2.2, C.n⟩ E T2 g) fun z _ => hrest z.1 z.2.1 z.2.2.1 z.2.2.2)) fun D0 σ H ⟨m, e1, e2, S, w⟩ => ?_
  refine ⟨m, e1, e2, S, Want.imp w.bind fun r env w => fun v m1 e3 e4 S1 s1 ok => ?_⟩
  subst e3
  split at w
  · rename_i x0 p os
    by_cases hxi : x0 ≠ i
    · rw [if_pos hxi] at w
      obtain ⟨f0, a, xs, fl, rfl, rfl, hl, rr⟩ := ok.bor S1
      have w := want_all w a
      obtain ⟨envb, hpk, mb, gg, b1, b2, b3, b4, Sb, sb, rg, ng, kg, subb⟩ := blind s1 S1 ok
      rw [hpk] at w
      have okb : RtOk C mb (Old m) (.own (.lst os)) (.ref a) := ⟨gg, by rw [b2, b3]; exact rg, ng, fun b hb => ⟨by rw [b2]; exact S1.df b (kg b hb).2, (kg b hb).1, S1.own b (kg b hb).2, fun z => (s1.newO b (kg b hb).2).elim z.1 z.2⟩⟩
      have hib : i < mb.env.length := by rw [Sb.ln]; exact hlen
      obtain ⟨fp, S2, s2⟩ := store_rd (i := i) sb Sb okb rfl hib hIO
      have hse : (mb.put mb.F mb.H i (.lst os) (.ref a) fp).σ = σ.set i (some (.ref a)) := by show mb.σ.set i _ = _; rw [b4, e4]
      have hsi : (mb.put mb.F mb.H i (.lst os) (.ref a) fp).σ[i]? = some (some (.ref a)) := by
        show (mb.σ.set i (some (.ref a)))[i]? = _
        rw [List.getElem?_set_self (by rw [Sb.l1]; exact hib)]
      generalize hm2 : mb.put mb.F mb.H i (.lst os) (.ref a) fp = m2 at S2 s2 hse hsi
      have hm2e : m2.env = envb.set i (some (.lst os)) := by rw [← hm2]; show mb.env.set i _ = _; rw [b1]
      have hm2H : m2.H = m1.H := by rw [← hm2]; exact b3
      have S3 : Sta (cnX C m2 i (.ref a)) m2 := ⟨S2.ln, S2.l1, S2.l2, S2.sl, S2.ex, Ex.refl _, fun a h n => absurd n h, S2.nd, S2.dj, S2.df, fun a ha => .inr ha, fun b o h _ => h, fun b h => h, fun j _ => by
        show m2.σ[j]? = (m2.σ.set i (some (.ref a)))[j]?
        rw [set_same hsi]⟩
      refine ⟨(m2.F, m2.H, m2.fps.flatten, m2.σ.set i (some (.ref a))), trivial, m2, hm2H, hse, S3, ?_⟩
      have w : Want C E m (al2 x0 p i a (g (envb.set i (some (.lst os))))) _ := w
      rw [← hm2e] at w
      cases hg : g m2.env with
      | bad => rw [hg] at w; exact w.elim
      | exc c ds e => rw [hg] at w; exact w.elim
      | ok flw env3 =>
        rw [hg] at w
        cases flw with
        | ret r =>
          cases r with
          | val d =>
            have w : Want C E m (match env3[i]? with
              | some (some o') => if isAdr a (peek x0 p env3) = true then al3 env3 d (poke x0 p o' (env3.set i none)) else .bad
              | _ => .bad) _ := w
            intro m4 q1 S4 s4 v av okv
            have okv : RpD C.K C.cl m4.F d v := okv
            subst q1
            split at w
            · rename_i o' ho'
              by_cases hadr : isAdr a (peek x0 p m4.env) = true
              · rw [if_pos hadr] at w
                have hpe : peek x0 p m4.env = some (.s (.adr a)) := by
                  have := hadr
                  unfold isAdr at this
                  split at this
                  · rename_i b hb
                    have : b = a := by simpa using this
                    rw [hb, this]
                  · cases this
                obtain ⟨v', f', c1, c2, c3⟩ := S4.slot ho'
                have hpin : m4.σ[i]? = (m2.σ.set i (some (.ref a)))[i]? := S4.pin i (List.mem_append_right _ (by simp))
                rw [set_same hsi, hsi] at hpin
                rw [c1] at hpin
                cases hpin
                have S5 := sta_drop (i := i) S4
                have hil4 : i < m4.env.length := by rw [S4.ln]; exact hlen
                obtain ⟨S6, s6⟩ := sta_back (C := C) (m0 := m2) (i := i) (v := .ref a) S2 hIO hlen S5 (by
                  show (m4.env.set i none)[i]? = _
                  rw [List.getElem?_set_self hil4])
                have s26 := s2.trans s6
                have c3 : RpO C.K C.cl m4.F m4.H o' (.ref a) f' := c3
                obtain ⟨env7, hp7, m7, d1, d2, d3, d4, S7, s7, k7⟩ := reattach (x := x0) (p := p) (a := a) (o' := o') (g' := f') (fp := []) (F' := m4.F) (H' := m4.H) s26 S6
                  ⟨Ex.refl _, S6.ex, fun b u h _ => h, fun b h => h, fun b h1 h2 => absurd h2 h1⟩ (fun b hb => by simp at hb) (fun b hb => by simp at hb) (fun b hb => by simp at hb)
                  (by show peek x0 p (m4.env.set i none) = _; rw [peek_ne hxi]; exact hpe) c3 (S4.nd i f' c2) (fun b hb => S4.df b (mem_fps c2 hb)) (fun b hb => by
                    have hown : m2.H b = none ∨ b ∈ m2.fps.flatten := S4.own b (mem_fps c2 hb)
                    refine ⟨fun z => ?_, ?_, ?_⟩
                    · have z : b ∈ (m4.fps.set i []).flatten := z
                      rcases mem_flat_set z with y | ⟨j, f1, hj, q, y⟩
                      · simp at y
                      · exact S4.dj j i f1 f' b hj q c2 y hb
                    · rcases hown with y | y
                      · exact .inl (Classical.byContradiction fun n => s2.dom b n y)
                      · exact s2.newO b y
                    · rcases hown with y | y
                      · exact .inl (Classical.byContradiction fun n => S2.dom b n y)
                      · exact S2.own b y)
                have hp7 : poke x0 p o' (m4.env.set i none) = some env7 := hp7
                rw [hp7] at w
                have := w m7 d1 S7 (step_all s7 S S7) v (fun _ => False) (by show RpD C.K C.cl m7.F d v; rw [d2]; exact okv)
                rw [d3] at this
                exact this
              · rw [if_neg hadr] at w; exact w.elim
            · exact w.elim
          | _ => exact w.elim
        | _ => exact w.elim
    · rw [if_neg hxi] at w; exact w.elim
  · exact w.elim
end
end L3
namespace L3
open PySem PySem.Spec PyProof.Rows L2
section
variable {P : Program} {w : World} {K : PySem.W.Frag} {mg : Str → Option Value} {base : Heap} {cl : Nat → Addr}
theorem run_top {x qual : Str} {st : Stmt} {f : Addr} {fd : FuncData} {N ps : List Str} {k : Nat} (F : Fun K x qual st f fd) (S : FnScope N ps (defScope st)) {z : Shared} {M : Hp} {args : Args} {us : List Value} {xs : List V} {Q : VK} {E : XK}
    (hr : Room (k + 1) callerA) (ev : Env0 P w K mg base callerA [] z M) (hb : BindsTo z fd args (ps.zip us)) (rv : Vals xs us) (hl : xs.length = ps.length)
    (hps : ∀ cdv, ∃ t, PSs (cxOf CX0 P w K mg base N qual (defScope st) f cdv callerA [] z M E).nox (defBody st) t ∧ t { nx := fun _ M' => Q .non M', rt := Q } (start N xs) M) :
    codeAny (model P w) callerA (.call (.ref f) args) (CR CX0 [] P w M z Q E) z := by
  obtain ⟨oc, od, kV, doc, pm, an, cdv, ct, osl, rfl, lk, hcd⟩ := F.ex
  have kin : K.In z.heap := ev.mod.kin.keeps fun b o q => (ev.bs b o q).1
  have nol : z.heap.NoLimit := ev.mod.nolimit.keeps fun b o q => (ev.bs b o q).1
  have hks : ∀ y ∈ ps.zip us, (defScope st).names.lookup y.1 = some .local ∨ ((defScope st).names.lookup y.1 = some .cell ∧ ((cellsFrom (z.heap.objs.size + 1) (defScope st).names []).lookup y.1).isSome = true) := fun ⟨n, v⟩ hy => by
    rcases S.par n (List.of_mem_zip hy).1 with q | q
    · left; exact q
    · right; exact ⟨q, PySem.W.cellsFrom_some _ _ _ (.inl q)⟩
  obtain ⟨t, ht, hq⟩ := hps cdv
  refine codeAny_call_function hr.depth (kin _ _ lk) rfl S.co S.gen rfl (PySem.W.codeRec_of kin hcd) (hb _ _ _ _ ?_)
  refine wpAny_newFunctionEnv_cells S.kind hks fun en hen z1 hz => ?_
  subst hen
  refine ⟨nol.keeps hz.toInCall.keep, codeAny_func ?_⟩
  have J0 : Inv (cxOf CX0 P w K mg base N qual (defScope st) f cdv callerA [] z M E) [] (start N xs) M z1 := inv_start S hr.hd ev hl rv hz
  have out : ∀ {σ' : L2.St} {M' : Hp} {v : V} {u : Value} {z' : Shared}, Inv (cxOf CX0 P w K mg base N qual (defScope st) f cdv callerA [] z M E) [] σ' M' z' → RelV v u → Q v M' → CE [] P w M z Q u z' :=
    fun J a b => ⟨_, _, J.os, J.bare, J.base, J.hok, a, b⟩
  refine wpAny_mono (ht.nox.run [] z1 (start N xs) M _ J0 hq) (fun fl z' hf => ?_) fun e z' hf => hf
  cases fl with
  | ret u =>
    obtain ⟨v, σ', M', J, a, b⟩ := hf
    exact out J a b
  | next =>
    obtain ⟨σ', M', J, b⟩ := hf
    exact out (v := V.non) (u := Value.none) J rfl b
  | brk => obtain ⟨_, _, _, b⟩ := hf; exact b.elim
  | cont => obtain ⟨_, _, _, b⟩ := hf; exact b.elim
theorem run_topG {x qual : Str} {st : Stmt} {f : Addr} {fd : FuncData} {N ps : List Str} {k : Nat} {IO : List Nat} {body : MS} (F : Fun K x qual st f fd) (S : FnScope N ps (defScope st)) (hN : ps.length ≤ N.length) {z : Shared} {M : Hp} {args : Args} {us : List Value} {xs : List V} {Q : VK} {E : XK}
    (hr : Room (k + 1) callerA) (ev : Env0 P w K mg base callerA [] z M) (hb : BindsTo z fd args (ps.zip us)) (rv : Vals xs us) (h : spG K cl ps.length (runDef IO (N.length - ps.length) body) xs M Q E)
    (hps : ∀ (cdv : Value) (F0 H0 : Hp) (io : Fp) (vs : L2.St), Room k (callerA.deeper (PyProof.Rows.envOfC qual (defScope st) z.heap.objs.size f cdv)) → ∃ T, PSs (cxOf CX0 P w K mg base N qual (defScope st) f cdv callerA [] z M E).nox (defBody st) (rdS ⟨K, cl, F0, H0, io, IO, vs, N.length⟩ (upE E) T body)) :
    codeAny (model P w) callerA (.call (.ref f) args) (CR CX0 [] P w M z Q E) z := by
  refine run_top F S hr ev hb rv (spG_len h) fun cdv => ?_
  obtain ⟨C, c1, c2, c3, c4, rd⟩ := fn_core hN h
  obtain ⟨K', cl', F0, H0, io, IO', vs, n⟩ := C
  have c1 : K' = K := c1
  have c2 : cl' = cl := c2
  have c3 : IO' = IO := c3
  have c4 : n = N.length := c4
  subst c1 c2 c3 c4
  obtain ⟨T, hp⟩ := hps cdv F0 H0 io vs (hr.deeper _)
  exact ⟨_, hp, rd T⟩
end
theorem top_call {P : Program} {w : World} {K : PySem.W.Frag} {mg mb : Str → Option Value} {fa a : Addr} {z : Shared} {items : List Value} {ns : List Int}
    (kin : K.In z.heap) (hns : z.heap.Ns mainGlobals mg) (hb : z.heap.Ns builtinsNs mb) (hbb : ∀ x : Str, x ≠ "__name__" → mb x = bootBuiltins x) (nol : z.heap.NoLimit) (hg : z.gens = #[])
    (ha : z.heap.get? a = some { cls := .type "list", data := .seq items.toArray }) (hi : IntsAre items ns) (hl : ns.length ≤ sizeLine)
    (G : ∀ (base : Heap) (M : Hp), K.In base → base.Ns mainGlobals mg → SqL K M a (ns.map V.int) → Env0 P w K mg base callerA [] z M → codeAny (model P w) callerA (.call (.ref fa) ⟨[.ref a], []⟩) (CR CX0 [] P w M z (fun v _ => v = .bl true) (fun _ _ _ => False)) z) :
    codeAny (model P w) callerA (.call (.ref fa) ⟨[.ref a], []⟩) (fun r z' => r = .ok (.ret (.bool true)) ∧ OldK z.heap z'.heap ∧ z'.os = z.os ∧ AllBare z'.gens) z := by
  have rv := vals_ints hi
  have lenI := hi.length
  have main : ∀ M : Hp, Only M → SqL K M a (ns.map V.int) → HOk P w M z.heap → (∀ b, M b ≠ none → b = a) → (M a ≠ none → K.lookup a = none) →
      codeAny (model P w) callerA (.call (.ref fa) ⟨[.ref a], []⟩) (fun r z' => r = .ok (.ret (.bool true)) ∧ OldK z.heap z'.heap ∧ z'.os = z.os ∧ AllBare z'.gens) z := by
    intro M hO hS hok hA hK
    have put : ∀ {b : Addr} {o : Obj}, z.heap.get? b = some o → M b = none → (hidT z.heap M).get? b = some o := fun q n => hidT_get q n
    have offD : ∀ {b : Addr} {o : Obj} {es : Array DictEntry} {ep : Nat}, z.heap.get? b = some o → o.data = .dict es ep → M b = none := by
      intro b o es ep q d
      cases y : M b with
      | none => rfl
      | some u =>
        obtain rfl : b = a := hA b (by rw [y]; simp)
        rw [ha] at q; cases q
        exact nomatch (show Data.seq items.toArray _ = Data.dict es ep from d)
    have nsM : ∀ {b : Addr} {m : Str → Option Value}, z.heap.Ns b m → (hidT z.heap M).Ns b m := fun ⟨o, es, ep, q, d, r⟩ => ⟨o, es, ep, put q (offD q d), d, r⟩
    have kinM : K.In (hidT z.heap M) := fun b o q => put (kin b o q) (by
      cases y : M b with
      | none => rfl
      | some u =>
        obtain rfl : b = a := hA b (by rw [y]; simp)
        rw [hK (by rw [y]; simp)] at q; cases q)
    have md : Mod K mg (hidT z.heap M) := ⟨kinM, nsM hns, ⟨mb, nsM hb, hbb⟩, let ⟨mc, q1, q2⟩ := nol; ⟨mc, nsM q1, q2⟩⟩
    have ev : Env0 P w K mg (hidT z.heap M) callerA [] z M := ⟨rfl, md, fun b o q => of_hidT q, Nat.le_of_eq (hidT_size _ _), trivial, fun b hm => absurd (show b ∈ ([] : List Addr) from hm) (by simp), hok, .of_eq hg⟩
    refine codeAny_mono (G _ M kinM (nsM hns) hS ev) fun r z' hq => ?_
    cases r with
    | error e => exact False.elim hq
    | ok fl =>
      cases fl with
      | next => exact hq.elim
      | brk => exact hq.elim
      | cont => exact hq.elim
      | ret u =>
        obtain ⟨v, M', os, bare, un, hok', ru, q⟩ := hq
        have q : v = .bl true := q
        subst q
        obtain rfl : u = Value.bool true := ru
        refine ⟨rfl, OldK.of_keep fun b o y => ?_, os, bare⟩
        cases y2 : M b with
        | none => exact un.keep b o y y2 (fun t => absurd (show b ∈ ([] : List Addr) from t) (by simp)) (by simp)
        | some u =>
          rcases hO b with t | ⟨ob, xs, t⟩
          · rw [y2] at t; cases t
          · obtain ⟨g1, _⟩ := hok b _ t
            obtain ⟨g2, _⟩ := hok' b _ (un.frzs b ob _ t)
            rw [y] at g1; cases g1
            exact g2
  cases hk : K.lookup a with
  | some o =>
    have q := kin a o hk
    rw [ha] at q
    cases q
    exact main (fun _ => none) (fun _ => .inl rfl) (.inr ⟨_, items.toArray, _, hk, rfl, rfl, rfl, by rw [List.size_toArray, lenI]; exact hl, by simpa using rv⟩) (fun b u t => nomatch t) (fun b t => absurd rfl t) fun t => absurd rfl t
  | none =>
    have self : (if a = a then some (HO.frz { cls := .type "list", data := .seq items.toArray } (.lst (ns.map V.int))) else none) = some (HO.frz { cls := .type "list", data := .seq items.toArray } (.lst (ns.map V.int))) := if_pos rfl
    refine main (fun b => if b = a then some (.frz { cls := .type "list", data := .seq items.toArray } (.lst (ns.map V.int))) else none) (fun b => ?_) (.inl (.inr ⟨_, self⟩)) (fun b u t => ?_) (fun b t => ?_) fun _ => hk
    · by_cases y : b = a
      · right; exact ⟨_, _, if_pos y⟩
      · left; exact if_neg y
    · by_cases y : b = a
      · have t2 := (if_pos y).symm.trans t
        cases t2
        subst y
        exact ⟨ha, by rw [List.length_map]; exact hl, items, _, rv, ha⟩
      · exact nomatch ((if_neg y).symm.trans t : none = some u)
    · exact Classical.byContradiction fun y => t (if_neg y)
end L3
namespace L3
open PySem L2 PySem.Spec PyProof.Rows
theorem nodup_len : ∀ {a b : List Int}, a.Nodup → b.Nodup → (∀ k, k ∈ a ↔ k ∈ b) → a.length = b.length
  | [], b, _, _, h => by
    cases b with
    | nil => rfl
    | cons y ys => have := (h y).2 (by simp); simp at this
  | x :: xs, b, p, q, h => by
    have hx : x ∈ b := (h x).1 (by simp)
    have px := List.nodup_cons.mp p
    have ih := nodup_len px.2 (q.erase x) (fun k => by
      rw [q.mem_erase_iff]
      constructor
      · intro hk
        exact ⟨fun e => px.1 (e ▸ hk), (h k).1 (by simp [hk])⟩
      · rintro ⟨h1, h2⟩
        rcases List.mem_cons.mp ((h k).2 h2) with z | z
        · exact absurd z h1
        · exact z)
    have hp := List.length_pos_of_mem hx
    rw [List.length_cons, ih, List.length_erase_of_mem hx]
    omega
def rLenI (w : World) : List V → Hp → VK → Prop := fun vs H Q => ∃ (a : Addr) (ns : List Int) (n : Nat), vs = [V.ref a] ∧ H a = some (SetO w a (fun j => decide (j ∈ ns)) n) ∧ Q (.int ((setS ns).length : Nat)) H
section
variable {X : Cx}
theorem cr_lenOfI : CallR X (.builtin "len") (rLenI X.w) := by
  intro pins s σ H vs us Q I r h
  obtain ⟨a, ns, n, rfl, ha, q⟩ := h
  obtain ⟨o, es, ep, t, ho, hex, hd, g, nd, hm, hb, hf, hn, _⟩ := setO_get I ha
  rw [Vals.ref1 r]
  have e : es.size = (setS ns).length := by
    have := nodup_len nd ((setS_pw ns).imp fun {a b} (h : a < b) => by omega) (fun k => by rw [← hm k, setS_mem]; simp)
    simpa using this
  have : (scanBound : Int) < 2 ^ 63 := by decide
  refine call_len_set ho hex hd hf (by omega) ⟨.int _, H, I.tok _, ⟨_, rfl⟩, ?_⟩
  rw [e]
  exact q
end
def gLenSetI : List Rt → Option Rt
  | [r] => match r.items with
    | some (true, ds) => (intsOf ds).bind fun ns => if ns.length < 64 then some (.val (.int ((setS ns).length : Nat))) else none
    | _ => none
  | _ => none
section
variable {X : Cx} {C : Cn} {E : WX} {e : Expr} {pos pos2 p p2 : Pos} {T : List Nat} {fs : MA}
theorem loc_lenSetI {w : World} : LocN C (fun vs H Q => rSetOfI C.K w vs H fun v H1 => rLenI w [v] H1 Q) gLenSetI := by
  intro m xs rs ry Q S h e k
  unfold gLenSetI at e
  split at e
  · rename_i r
    obtain ⟨x, av, rfl, hx⟩ := h.one
    split at e
    · rename_i ds q
      obtain ⟨a, xs, rfl, h1, h2⟩ := hx.items S q
      rw [if_pos rfl] at h2
      cases z : intsOf ds with
      | none => rw [z] at e; cases e
      | some ns =>
        rw [z] at e
        simp only [Option.bind_some] at e
        split at e
        · rename_i h64
          cases e
          have hxs := h1.toInts z
          subst hxs
          refine ⟨a, ns, rfl, h2, Nat.lt_of_le_of_lt (by omega : ns.length + 1 ≤ 65) (by decide), fun p c hp hc => ⟨p, ns, c, rfl, upd_same, ?_⟩⟩
          exact k _ _ (gro_own (o := SetO w p (fun j => decide (j ∈ ns)) c) S hp) rfl
        · cases e
    · cases e
  · cases e
theorem e_lenSetI (hK : X.K = C.K) (hc : X.calm = true) (hg : Gl X "len") (hm : X.mg "len" = none) (hg2 : Gl X "set") (hm2 : X.mg "set" = none) (ha : PA X [e] (rdA C E T fs))
    (he : starEach [e] X.env = (false, eval e X.env) :: starEach [] X.env := by rfl) (hpl : (backTo pos2 (starEach [] X.env)).any (·.1) = false := by rfl)
    (he2 : starEach [.Call (.Name "set" p2) [e] [] pos2] X.env = (false, eval (.Call (.Name "set" p2) [e] [] pos2) X.env) :: starEach [] X.env := by rfl) (hpl2 : (backTo pos (starEach [] X.env)).any (·.1) = false := by rfl) :
    PE X (.Call (.Name "len" p) [.Call (.Name "set" p2) [e] [] pos2] [] pos) (rdE C E T (mN gLenSetI fs)) :=
  PE.wk (pe_callB cr_lenOfI hg hm (by rfl) (pa_cons (pe_callTy (cr_setOfI hc) hg2 hm2 (by rfl) ha (he := he) (hpl := hpl)) pa_nil he2) (he := he2) (hpl := hpl2)) fun σ H Q h => by
    have := rdN (loc_lenSetI (C := C) (w := X.w)) h
    rw [← hK] at this
    exact this
end
theorem fld_part {K : PySem.W.Frag} {mg : Str → Option Value} {cn qn : Str} {C fI : Addr} (T : PySem.PartX.PartTxt K mg cn qn C fI) : FldT K C "part" := ⟨T.ga, T.gg, T.exC, T.hdC, T.noN⟩
theorem fld_line {K : PySem.W.Frag} {mg : Str → Option Value} {cn qn : Str} {C fI : Addr} (T : PySem.PartXline.PartTxt K mg cn qn C fI) : FldT K C "line" := ⟨T.ga, T.gg, T.exC, T.hdC, T.noN⟩
theorem fld_place {K : PySem.W.Frag} {mg : Str → Option Value} {cn qn : Str} {C fI : Addr} (T : PySem.PartXplace.PartTxt K mg cn qn C fI) : FldT K C "place" := ⟨T.ga, T.gg, T.exC, T.hdC, T.noN⟩
theorem fld_name {K : PySem.W.Frag} {mg : Str → Option Value} {cn qn : Str} {C fI : Addr} (T : PySem.PartXname.PartTxt K mg cn qn C fI) : FldT K C "name" := ⟨T.ga, T.gg, T.exC, T.hdC, T.noN⟩
end L3
namespace L3
noncomputable section
open PySem L2
def top (i : Nat) : Stmt := PySem.Challenge.pw_bigcorners_k00_errors_of_the_package.main.body.getD i (.Pass ⟨0, 0, 0, 0⟩)
structure Txt (w : World) (K : PySem.W.Frag) (mg : Str → Option Value) (cl : Nat → Addr) (aI_BadBook aI_BadChart aI_BadText aI_NoName aI_Tangled : Addr) : Prop where
  c_Apart : mg "Apart" = some (.ref (cl 21))
  c_BadBook : mg "BadBook" = some (.ref (cl 4))
  c_BadChart : mg "BadChart" = some (.ref (cl 0))
  c_BadText : mg "BadText" = some (.ref (cl 1))
  c_ChartError : mg "ChartError" = some (.ref (cl 24))
  c_Full : mg "Full" = some (.ref (cl 20))
  c_NoArrow : mg "NoArrow" = some (.ref (cl 6))
  c_NoBreak : mg "NoBreak" = some (.ref (cl 17))
  c_NoContents : mg "NoContents" = some (.ref (cl 14))
  c_NoDealing : mg "NoDealing" = some (.ref (cl 10))
  c_NoEnd : mg "NoEnd" = some (.ref (cl 5))
  c_NoLine : mg "NoLine" = some (.ref (cl 22))
  c_NoName : mg "NoName" = some (.ref (cl 3))
  c_NoNumber : mg "NoNumber" = some (.ref (cl 9))
  c_NoPicture : mg "NoPicture" = some (.ref (cl 7))
  c_NoPlace : mg "NoPlace" = some (.ref (cl 13))
  c_NoPrice : mg "NoPrice" = some (.ref (cl 19))
  c_NoRoutine : mg "NoRoutine" = some (.ref (cl 12))
  c_NoRunner : mg "NoRunner" = some (.ref (cl 23))
  c_NoSketch : mg "NoSketch" = some (.ref (cl 11))
  c_NoTable : mg "NoTable" = some (.ref (cl 8))
  c_NotOneRim : mg "NotOneRim" = some (.ref (cl 18))
  c_NotRunning : mg "NotRunning" = some (.ref (cl 15))
  c_NothingDone : mg "NothingDone" = some (.ref (cl 16))
  c_Tangled : mg "Tangled" = some (.ref (cl 2))
  p_BadBook : PySem.PartX.PartTxt K mg "BadBook" "BadBook.__init__" (cl 4) aI_BadBook
  p_BadChart : PySem.PartX.PartTxt K mg "BadChart" "BadChart.__init__" (cl 0) aI_BadChart
  p_BadText : PySem.PartXline.PartTxt K mg "BadText" "BadText.__init__" (cl 1) aI_BadText
  p_NoName : PySem.PartXname.PartTxt K mg "NoName" "NoName.__init__" (cl 3) aI_NoName
  p_Tangled : PySem.PartXplace.PartTxt K mg "Tangled" "Tangled.__init__" (cl 2) aI_Tangled
  q_Apart : Own0 K mg "Apart" (cl 21)
  q_Full : Own0 K mg "Full" (cl 20)
  q_NoArrow : Own0 K mg "NoArrow" (cl 6)
  q_NoBreak : Own0 K mg "NoBreak" (cl 17)
  q_NoContents : Own0 K mg "NoContents" (cl 14)
  q_NoDealing : Own0 K mg "NoDealing" (cl 10)
  q_NoEnd : Own0 K mg "NoEnd" (cl 5)
  q_NoLine : Own0 K mg "NoLine" (cl 22)
  q_NoNumber : Own0 K mg "NoNumber" (cl 9)
  q_NoPicture : Own0 K mg "NoPicture" (cl 7)
  q_NoPlace : Own0 K mg "NoPlace" (cl 13)
  q_NoPrice : Own0 K mg "NoPrice" (cl 19)
  q_NoRoutine : Own0 K mg "NoRoutine" (cl 12)
  q_NoRunner : Own0 K mg "NoRunner" (cl 23)
  q_NoSketch : Own0 K mg "NoSketch" (cl 11)
  q_NoTable : Own0 K mg "NoTable" (cl 8)
  q_NotOneRim : Own0 K mg "NotOneRim" (cl 18)
  q_NotRunning : Own0 K mg "NotRunning" (cl 15)
  q_NothingDone : Own0 K mg "NothingDone" (cl 16)
  exv : ExvT K cl 24
  z_ValueError : mg "ValueError" = none
  z_abs : mg "abs" = none
  z_int : mg "int" = none
  z_isinstance : mg "isinstance" = none
  z_len : mg "len" = none
  z_range : mg "range" = none
  z_repr : mg "repr" = none
  z_set : mg "set" = none
  z_sum : mg "sum" = none
section
variable {P : Program} {w : World} {K : PySem.W.Frag} {mg : Str → Option Value} {base : Heap} {cl : Nat → Addr} {aI_BadBook aI_BadChart aI_BadText aI_NoName aI_Tangled : Addr}
abbrev s__law_pool : Stmt := top 27
theorem sc__law_pool : FnScope ["script", "seed", "cell"] ["script"] (defScope s__law_pool) := ⟨rfl, rfl, rfl, by decide +kernel, rfl, by decide +kernel, by decide +kernel⟩
def e1__law_pool : MS := (msSet 1 (m2 (gIc cMod fun i j => .int (i % j)) [] (mN gInt (mCons [] (m2 gAdd [] (m2 gAdd [] (m2 gMul [] (mVar 1) (mC (.int 48271))) (m2 (gIc cMod fun i j => .int (i % j)) [] (mN gInt (mCons [] (mVar 2) mNil)) (mC (.int 2147483629)))) (mC (.int 11))) mNil)) (mC (.int 2147483647))))
def e2__law_pool : MT := (mTest (m2 (gI fun i j => .bl (decide (j ≤ i))) [] (mN gAbs (mCons [] (mVar 2) mNil)) (m2 (gIc cPow2 fun i j => .int (i ^ j.toNat)) [] (mC (.int 10)) (mC (.int 18)))))
def e3__law_pool : ME := (mN gAbs (mCons [] (mVar 2) mNil))
def b__law_pool : MS := (msSeq (msSet 1 (m2 gAdd [] (m2 gAdd [] (m2 (gIc cMod fun i j => .int (i % j)) [] (mN gInt (mCons [] (mN gSum (mCons [] (mSl [] (mVar 0) oNone (oSome (mC (.int 1)))) mNil)) mNil)) (mC (.int 1000003))) (mN gLen (mCons [] (mVar 0) mNil))) (mC (.int 1))))
  (msSeq (msFor [2, 1] (setT [2]) (iSeq false (mStl (mSl [] (mVar 0) oNone (oSome (mC (.int 63)))))) (e1__law_pool))
  (msRet (mLstD (mCons [2, 2] (mVar 1) (mCons [2, 2] (mC (.int 0)) (mCons [] (mLc [2, 2] [2] (setT [2]) (iSeq false (mStl (mSl [] (mVar 0) oNone (oSome (mC (.int 63)))))) (e2__law_pool) (e3__law_pool)) mNil)))))))
theorem ok__law_pool {f : Addr} {fd : FuncData} {k : Nat} (T : Txt w K mg cl aI_BadBook aI_BadChart aI_BadText aI_NoName aI_Tangled)  (F : Fun K "_law_pool" "_law_pool" s__law_pool f fd) : FnOk P w K mg base CX0 (k + 1) f fd ["script"] (spG K cl 1 (runDef [] 2 (b__law_pool))) :=
  fn_def2 F sc__law_pool (by decide) fun cdv A outer s H E F0 H0 io vs hr => ⟨_, (s_cons (s_set 1 sc__law_pool.nd rfl (by first | exact Or.inl rfl | exact Or.inr rfl) (e_op op_addAll loc_add (e_op op_addAll loc_add (e_op op_mod loc_mod (e_cb loc_int (pe_callTy call_int1 (by rfl) T.z_int rfl (a_cons (e_cb (loc_sum) (pe_callB (cr_sum rfl) (by rfl) T.z_sum rfl (a_cons (e_sl rfl (e_var 0) o_none (o_some e_int)) a_nil))) a_nil))) e_int) (e_cb (loc_len) (pe_callB call_len (by rfl) T.z_len rfl (a_cons (e_var 0) a_nil)))) e_int) (by show 1 ∉ ([] : List Nat); decide) (by show 1 < 3; decide))
  (s_cons (s_for PassesOwn.never rfl (tg_name (by show 2 < 3; decide) (by show 2 ∉ ([] : List Nat); decide)) (i_list rfl (e_stl (e_sl rfl (e_var 0) o_none (o_some e_int)))) (pg_name (i := 2) sc__law_pool.nd rfl (by first | exact Or.inl rfl | exact Or.inr rfl)) (s_one (s_set 1 sc__law_pool.nd rfl (by first | exact Or.inl rfl | exact Or.inr rfl) (e_op op_mod loc_mod (e_cb loc_int (pe_callTy call_int1 (by rfl) T.z_int rfl (a_cons (e_op op_addAll loc_add (e_op op_addAll loc_add (e_op op_mulAll (loc_mul) (e_var 1) e_int) (e_op op_mod loc_mod (e_cb loc_int (pe_callTy call_int1 (by rfl) T.z_int rfl (a_cons (e_var 2) a_nil))) e_int)) e_int) a_nil))) e_int) (by show 1 ∉ ([] : List Nat); decide) (by show 1 < 3; decide))))
  (s_one (s_ret (e_lstD (d_cons (e_var 1) (d_cons e_int (d_cons (e_lc (vs := [2]) (tg_name (by show 2 < 3; decide) (by show 2 ∉ ([] : List Nat); decide)) (by decide) (by show ∀ i ∈ ([2] : List Nat), i ∉ ([] : List Nat); decide) (pe_lc (own := [("cell", 2)]) rfl sc__law_pool.nd (i_list rfl (e_stl (e_sl rfl (e_var 0) o_none (o_some e_int)))) (blkOk_by (N := ["script", "seed", "cell"]) (sc := defScope s__law_pool) (by decide +kernel)) (fun _ _ _ _ _ => (pg_name (i := 2) sc__law_pool.nd rfl (by first | exact Or.inl rfl | exact Or.inr rfl))) (fun _ _ _ _ _ => (ts_one (t_cmp op_ge loc_ge (e_cb loc_abs (pe_callB call_abs (by rfl) T.z_abs rfl (a_cons (e_var 2) a_nil))) (e_op op_powW loc_powW e_int e_int)))) (fun _ _ _ _ _ => (e_cb loc_abs (pe_callB call_abs (by rfl) T.z_abs rfl (a_cons (e_var 2) a_nil)))))) d_nil))))))))⟩
abbrev s__law_draw : Stmt := top 28
theorem sc__law_draw : FnScope ["pool", "many", "cells", "digit", "mixed"] ["pool", "many"] (defScope s__law_draw) := ⟨rfl, rfl, rfl, by decide +kernel, rfl, by decide +kernel, by decide +kernel⟩
def b__law_draw : MS := (msSeq (msSetIx [0] [] [] (m2 gAdd [] (m2 gIx [] (mVar 0) (mC (.int 1))) (mC (.int 1))) (mVar 0) (mC (.int 1)))
  (msAlias 2 (m2 gIx [] (mVar 0) (mC (.int 2)))
  (msSeq (msIf (mTest (m2 (gI fun i j => .bl (decide (j < i))) [] (mN gLen (mCons [] (mVar 2) mNil)) (mC (.int 0)))) (msSeq (msSet 3 (m2 (gIc cMod fun i j => .int (i % j)) [] (mN gInt (mCons [] (m2 gIx [] (mVar 2) (mC (.int 0))) mNil)) (mVar 1)))
  (msSeq (msSetIx [2] [] [] (m2 (gIc cDiv fun i j => .int (i / j)) [] (mN gInt (mCons [] (m2 gIx [] (mVar 2) (mC (.int 0))) mNil)) (mVar 1)) (mVar 2) (mC (.int 0)))
  (msSeq (msIf (mTest (m2 gEq [] (m2 gIx [] (mVar 2) (mC (.int 0))) (mC (.int 0)))) (msExpr (mPop0 [2] (mVar 2))) msNil)
  (msRet (mVar 3))))) msNil)
  (msSeq (msSet 4 (m2 (gIc cMod fun i j => .int (i % j)) [] (mN gInt (mCons [] (m2 gMul [] (m2 gAdd [] (m2 gIx [] (mVar 0) (mC (.int 0))) (m2 gMul [] (mC (.int 7919)) (m2 gIx [] (mVar 0) (mC (.int 1))))) (mC (.int 48271))) mNil)) (mC (.int 2147483647))))
  (msSeq (msSet 4 (m2 (gIc cMod fun i j => .int (i % j)) [] (mN gInt (mCons [] (m2 gMul [] (mVar 4) (m2 gAdd [] (m2 (gIc cDiv fun i j => .int (i / j)) [] (mVar 4) (mC (.int 1009))) (mC (.int 69621)))) mNil)) (mC (.int 2147483647))))
  (msSeq (msSet 4 (m2 (gIc cMod fun i j => .int (i % j)) [] (mN gInt (mCons [] (m2 gMul [] (mVar 4) (m2 gAdd [] (m2 (gIc cDiv fun i j => .int (i / j)) [] (mVar 4) (mC (.int 2003))) (mC (.int 40692)))) mNil)) (mC (.int 2147483399))))
  (msRet (m2 (gIc cMod fun i j => .int (i % j)) [] (mN gInt (mCons [] (m2 (gIc cDiv fun i j => .int (i / j)) [] (mVar 4) (mC (.int 16))) mNil)) (mVar 1)))))))))
theorem ok__law_draw {f : Addr} {fd : FuncData} {k : Nat} (T : Txt w K mg cl aI_BadBook aI_BadChart aI_BadText aI_NoName aI_Tangled)  (F : Fun K "_law_draw" "_law_draw" s__law_draw f fd) : FnOk P w K mg base CX0 (k + 1) f fd ["pool", "many"] (spG K cl 2 (runDef [0] 3 (b__law_draw))) :=
  fn_def2 F sc__law_draw (by decide) fun cdv A outer s H E F0 H0 io vs hr => ⟨_, (s_cons (s_setIx [0] (ps_asg (e_op op_addAll loc_add (e_ix ix_seq (loc_ix) (e_var 0) e_int (fun _ _ => rfl)) e_int) (pg_sub (e_var 0) e_int set_list)))
  (s_alias 2 sc__law_draw.nd rfl (by first | exact Or.inl rfl | exact Or.inr rfl) (e_ix ix_seq (loc_ix) (e_var 0) e_int (fun _ _ => rfl)) (by show 2 ∉ ([0] : List Nat); decide) (by show 2 < 5; decide) (fun F0 H0 io vs => (s_cons (s_if (t_cmp op_gt loc_gt (e_cb (loc_len) (pe_callB call_len (by rfl) T.z_len rfl (a_cons (e_var 2) a_nil))) e_int) (s_cons (s_set 3 sc__law_draw.nd rfl (by first | exact Or.inl rfl | exact Or.inr rfl) (e_op op_mod loc_mod (e_cb loc_int (pe_callTy call_int1 (by rfl) T.z_int rfl (a_cons (e_ix ix_seq (loc_ix) (e_var 2) e_int (fun _ _ => rfl)) a_nil))) (e_var 1)) (by show 3 ∉ ([0, 2] : List Nat); decide) (by show 3 < 5; decide))
  (s_cons (s_setIx [2] (ps_asg (e_op op_fdiv loc_fdiv (e_cb loc_int (pe_callTy call_int1 (by rfl) T.z_int rfl (a_cons (e_ix ix_seq (loc_ix) (e_var 2) e_int (fun _ _ => rfl)) a_nil))) (e_var 1)) (pg_sub (e_var 2) e_int set_list)))
  (s_cons (s_if (t_cmp (op_eqD hr.units) (loc_eq) (e_ix ix_seq (loc_ix) (e_var 2) e_int (fun _ _ => rfl)) e_int) (s_one (s_expr (e_pop0 [2] rfl (pe_bm PySem.F.plainAttrs_list PySem.F.slot_list_pop PySem.F.type_list_pop mt_popAt (e_var 2) (pa_cons pe_int pa_nil))))) s_nil)
  (s_one (s_ret (e_var 3)))))) s_nil)
  (s_cons (s_set 4 sc__law_draw.nd rfl (by first | exact Or.inl rfl | exact Or.inr rfl) (e_op op_mod loc_mod (e_cb loc_int (pe_callTy call_int1 (by rfl) T.z_int rfl (a_cons (e_op op_mulAll (loc_mul) (e_op op_addAll loc_add (e_ix ix_seq (loc_ix) (e_var 0) e_int (fun _ _ => rfl)) (e_op op_mulAll (loc_mul) e_int (e_ix ix_seq (loc_ix) (e_var 0) e_int (fun _ _ => rfl)))) e_int) a_nil))) e_int) (by show 4 ∉ ([0, 2] : List Nat); decide) (by show 4 < 5; decide))
  (s_cons (s_set 4 sc__law_draw.nd rfl (by first | exact Or.inl rfl | exact Or.inr rfl) (e_op op_mod loc_mod (e_cb loc_int (pe_callTy call_int1 (by rfl) T.z_int rfl (a_cons (e_op op_mulAll (loc_mul) (e_var 4) (e_op op_addAll loc_add (e_op op_fdiv loc_fdiv (e_var 4) e_int) e_int)) a_nil))) e_int) (by show 4 ∉ ([0, 2] : List Nat); decide) (by show 4 < 5; decide))
  (s_cons (s_set 4 sc__law_draw.nd rfl (by first | exact Or.inl rfl | exact Or.inr rfl) (e_op op_mod loc_mod (e_cb loc_int (pe_callTy call_int1 (by rfl) T.z_int rfl (a_cons (e_op op_mulAll (loc_mul) (e_var 4) (e_op op_addAll loc_add (e_op op_fdiv loc_fdiv (e_var 4) e_int) e_int)) a_nil))) e_int) (by show 4 ∉ ([0, 2] : List Nat); decide) (by show 4 < 5; decide))
  (s_one (s_ret (e_op op_mod loc_mod (e_cb loc_int (pe_callTy call_int1 (by rfl) T.z_int rfl (a_cons (e_op op_fdiv loc_fdiv (e_var 4) e_int) a_nil))) (e_var 1)))))))))))⟩
abbrev s__law_deep : Stmt := top 29
theorem sc__law_deep : FnScope ["thing", "turn"] [] (defScope s__law_deep) := ⟨rfl, rfl, rfl, by decide +kernel, rfl, by decide +kernel, by decide +kernel⟩
def e1__law_deep : MS := (msSet 0 (mStl (mN gLst (mCons [] (mVar 0) mNil))))
def b__law_deep : MS := (msSeq (msSet 0 (mStl (mN gLst (mCons [] (mC .non) mNil))))
  (msSeq (msFor [1, 0] (setT [1]) (iRg1 (mCons [] (mC (.int 35)) mNil)) (e1__law_deep))
  (msRet (mVar 0))))
theorem ok__law_deep {f : Addr} {fd : FuncData} {k : Nat} (T : Txt w K mg cl aI_BadBook aI_BadChart aI_BadText aI_NoName aI_Tangled)  (F : Fun K "_law_deep" "_law_deep" s__law_deep f fd) : FnOk P w K mg base CX0 (k + 1) f fd [] (spG K cl 0 (runDef [] 2 (b__law_deep))) :=
  fn_def2 F sc__law_deep (by decide) fun cdv A outer s H E F0 H0 io vs hr => ⟨_, (s_cons (s_set 0 sc__law_deep.nd rfl (by first | exact Or.inl rfl | exact Or.inr rfl) (e_stl (e_lst (a_cons e_non a_nil))) (by show 0 ∉ ([] : List Nat); decide) (by show 0 < 2; decide))
  (s_cons (s_for PassesOwn.never rfl (tg_name (by show 1 < 2; decide) (by show 1 ∉ ([] : List Nat); decide)) (i_rg1 (pi_range1 (by rfl) T.z_range (a_cons e_int a_nil))) (pg_name (i := 1) sc__law_deep.nd rfl (by first | exact Or.inl rfl | exact Or.inr rfl)) (s_one (s_set 0 sc__law_deep.nd rfl (by first | exact Or.inl rfl | exact Or.inr rfl) (e_stl (e_lst (a_cons (e_var 0) a_nil))) (by show 0 ∉ ([] : List Nat); decide) (by show 0 < 2; decide))))
  (s_one (s_ret (e_var 0)))))⟩
abbrev s__law_made : Stmt := top 30
theorem sc__law_made : FnScope ["which", "thing"] ["which", "thing"] (defScope s__law_made) := ⟨rfl, rfl, rfl, by decide +kernel, rfl, by decide +kernel, by decide +kernel⟩
def b__law_made : MS := (msSeq (msIf (mTest (m2 gEq [] (mVar 0) (mC (.int 0)))) (msRet (mN gTup (mCons [] (m1 (gXget 0) (m1 (gExn 0) (mVar 1))) (mCons [] (mStl (m1 (gExn 0) (mVar 1))) mNil)))) msNil)
  (msSeq (msIf (mTest (m2 gEq [] (mVar 0) (mC (.int 1)))) (msRet (mN gTup (mCons [] (m1 (gXget 4) (m1 (gExn 4) (mVar 1))) (mCons [] (mStl (m1 (gExn 4) (mVar 1))) mNil)))) msNil)
  (msSeq (msIf (mTest (m2 gEq [] (mVar 0) (mC (.int 2)))) (msRet (mN gTup (mCons [] (m1 (gXget 1) (m1 (gExn 1) (mVar 1))) (mCons [] (mStl (m1 (gExn 1) (mVar 1))) mNil)))) msNil)
  (msSeq (msIf (mTest (m2 gEq [] (mVar 0) (mC (.int 3)))) (msRet (mN gTup (mCons [] (m1 (gXget 2) (m1 (gExn 2) (mVar 1))) (mCons [] (mStl (m1 (gExn 2) (mVar 1))) mNil)))) msNil)
  (msRet (mN gTup (mCons [] (m1 (gXget 3) (m1 (gExn 3) (mVar 1))) (mCons [] (mStl (m1 (gExn 3) (mVar 1))) mNil))))))))
theorem ok__law_made {f : Addr} {fd : FuncData} {k : Nat} (T : Txt w K mg cl aI_BadBook aI_BadChart aI_BadText aI_NoName aI_Tangled)  (F : Fun K "_law_made" "_law_made" s__law_made f fd) : FnOk P w K mg base CX0 (k + 1) f fd ["which", "thing"] (spG K cl 2 (runDef [] 0 (b__law_made))) :=
  fn_def2 F sc__law_made (by decide) fun cdv A outer s H E F0 H0 io vs hr => ⟨_, (s_cons (s_if (t_cmp (op_eqD hr.units) (loc_eq) (e_var 0) e_int) (s_one (s_ret (e_tup (a_cons (e_xget (c := 0) (A := cl 0) (fld := "part") rfl (by rfl) (fld_part T.p_BadChart) (e_exn1 (c := 0) (A := cl 0) (fld := "part") rfl (by rfl) (pmk_part (k := 0) T.p_BadChart (hr.mono (by omega)) (a_one (e_var 1)) (by rfl)))) (a_cons (e_stl (e_exn1 (c := 0) (A := cl 0) (fld := "part") rfl (by rfl) (pmk_part (k := 0) T.p_BadChart (hr.mono (by omega)) (a_one (e_var 1)) (by rfl)))) a_nil))))) s_nil)
  (s_cons (s_if (t_cmp (op_eqD hr.units) (loc_eq) (e_var 0) e_int) (s_one (s_ret (e_tup (a_cons (e_xget (c := 4) (A := cl 4) (fld := "part") rfl (by rfl) (fld_part T.p_BadBook) (e_exn1 (c := 4) (A := cl 4) (fld := "part") rfl (by rfl) (pmk_part (k := 0) T.p_BadBook (hr.mono (by omega)) (a_one (e_var 1)) (by rfl)))) (a_cons (e_stl (e_exn1 (c := 4) (A := cl 4) (fld := "part") rfl (by rfl) (pmk_part (k := 0) T.p_BadBook (hr.mono (by omega)) (a_one (e_var 1)) (by rfl)))) a_nil))))) s_nil)
  (s_cons (s_if (t_cmp (op_eqD hr.units) (loc_eq) (e_var 0) e_int) (s_one (s_ret (e_tup (a_cons (e_xget (c := 1) (A := cl 1) (fld := "line") rfl (by rfl) (fld_line T.p_BadText) (e_exn1 (c := 1) (A := cl 1) (fld := "line") rfl (by rfl) (pmk_line (k := 0) T.p_BadText (hr.mono (by omega)) (a_one (e_var 1)) (by rfl)))) (a_cons (e_stl (e_exn1 (c := 1) (A := cl 1) (fld := "line") rfl (by rfl) (pmk_line (k := 0) T.p_BadText (hr.mono (by omega)) (a_one (e_var 1)) (by rfl)))) a_nil))))) s_nil)
  (s_cons (s_if (t_cmp (op_eqD hr.units) (loc_eq) (e_var 0) e_int) (s_one (s_ret (e_tup (a_cons (e_xget (c := 2) (A := cl 2) (fld := "place") rfl (by rfl) (fld_place T.p_Tangled) (e_exn1 (c := 2) (A := cl 2) (fld := "place") rfl (by rfl) (pmk_place (k := 0) T.p_Tangled (hr.mono (by omega)) (a_one (e_var 1)) (by rfl)))) (a_cons (e_stl (e_exn1 (c := 2) (A := cl 2) (fld := "place") rfl (by rfl) (pmk_place (k := 0) T.p_Tangled (hr.mono (by omega)) (a_one (e_var 1)) (by rfl)))) a_nil))))) s_nil)
  (s_one (s_ret (e_tup (a_cons (e_xget (c := 3) (A := cl 3) (fld := "name") rfl (by rfl) (fld_name T.p_NoName) (e_exn1 (c := 3) (A := cl 3) (fld := "name") rfl (by rfl) (pmk_name (k := 0) T.p_NoName (hr.mono (by omega)) (a_one (e_var 1)) (by rfl)))) (a_cons (e_stl (e_exn1 (c := 3) (A := cl 3) (fld := "name") rfl (by rfl) (pmk_name (k := 0) T.p_NoName (hr.mono (by omega)) (a_one (e_var 1)) (by rfl)))) a_nil)))))))))⟩
abbrev s__law_plain_ones : Stmt := top 31
theorem sc__law_plain_ones : FnScope ["found"] [] (defScope s__law_plain_ones) := ⟨rfl, rfl, rfl, by decide +kernel, rfl, by decide +kernel, by decide +kernel⟩
def b__law_plain_ones : MS := (msSeq (msSet 0 (mN gLst (mCons [] (mStl (mC (.exn 5 []))) (mCons [] (mStl (mC (.exn 6 []))) (mCons [] (mStl (mC (.exn 7 []))) (mCons [] (mStl (mC (.exn 8 []))) (mCons [] (mStl (mC (.exn 9 []))) (mCons [] (mStl (mC (.exn 10 []))) (mCons [] (mStl (mC (.exn 11 []))) (mCons [] (mStl (mC (.exn 12 []))) (mCons [] (mStl (mC (.exn 13 []))) mNil)))))))))))
  (msSeq (msSet 0 (m2 gAdd [] (mVar 0) (mN gLst (mCons [] (mStl (mC (.exn 14 []))) (mCons [] (mStl (mC (.exn 15 []))) (mCons [] (mStl (mC (.exn 16 []))) (mCons [] (mStl (mC (.exn 17 []))) (mCons [] (mStl (mC (.exn 18 []))) (mCons [] (mStl (mC (.exn 19 []))) (mCons [] (mStl (mC (.exn 20 []))) (mCons [] (mStl (mC (.exn 21 []))) mNil)))))))))))
  (msRet (m2 gAdd [] (mVar 0) (mN gLst (mCons [] (mStl (mC (.exn 22 []))) (mCons [] (mStl (mC (.exn 23 []))) mNil)))))))
theorem ok__law_plain_ones {f : Addr} {fd : FuncData} {k : Nat} (T : Txt w K mg cl aI_BadBook aI_BadChart aI_BadText aI_NoName aI_Tangled)  (F : Fun K "_law_plain_ones" "_law_plain_ones" s__law_plain_ones f fd) : FnOk P w K mg base CX0 (k + 1) f fd [] (spG K cl 0 (runDef [] 1 (b__law_plain_ones))) :=
  fn_def2 F sc__law_plain_ones (by decide) fun cdv A outer s H E F0 H0 io vs hr => ⟨_, (s_cons (s_set 0 sc__law_plain_ones.nd rfl (by first | exact Or.inl rfl | exact Or.inr rfl) (e_lst (a_cons (e_stl (e_exn0 (c := 5) T.q_NoEnd (by rfl))) (a_cons (e_stl (e_exn0 (c := 6) T.q_NoArrow (by rfl))) (a_cons (e_stl (e_exn0 (c := 7) T.q_NoPicture (by rfl))) (a_cons (e_stl (e_exn0 (c := 8) T.q_NoTable (by rfl))) (a_cons (e_stl (e_exn0 (c := 9) T.q_NoNumber (by rfl))) (a_cons (e_stl (e_exn0 (c := 10) T.q_NoDealing (by rfl))) (a_cons (e_stl (e_exn0 (c := 11) T.q_NoSketch (by rfl))) (a_cons (e_stl (e_exn0 (c := 12) T.q_NoRoutine (by rfl))) (a_cons (e_stl (e_exn0 (c := 13) T.q_NoPlace (by rfl))) a_nil)))))))))) (by show 0 ∉ ([] : List Nat); decide) (by show 0 < 1; decide))
  (s_cons (s_set 0 sc__law_plain_ones.nd rfl (by first | exact Or.inl rfl | exact Or.inr rfl) (e_op op_addAll loc_add (e_var 0) (e_lst (a_cons (e_stl (e_exn0 (c := 14) T.q_NoContents (by rfl))) (a_cons (e_stl (e_exn0 (c := 15) T.q_NotRunning (by rfl))) (a_cons (e_stl (e_exn0 (c := 16) T.q_NothingDone (by rfl))) (a_cons (e_stl (e_exn0 (c := 17) T.q_NoBreak (by rfl))) (a_cons (e_stl (e_exn0 (c := 18) T.q_NotOneRim (by rfl))) (a_cons (e_stl (e_exn0 (c := 19) T.q_NoPrice (by rfl))) (a_cons (e_stl (e_exn0 (c := 20) T.q_Full (by rfl))) (a_cons (e_stl (e_exn0 (c := 21) T.q_Apart (by rfl))) a_nil)))))))))) (by show 0 ∉ ([] : List Nat); decide) (by show 0 < 1; decide))
  (s_one (s_ret (e_op op_addAll loc_add (e_var 0) (e_lst (a_cons (e_stl (e_exn0 (c := 22) T.q_NoLine (by rfl))) (a_cons (e_stl (e_exn0 (c := 23) T.q_NoRunner (by rfl))) a_nil))))))))⟩
abbrev s__law_kinds : Stmt := top 32
theorem sc__law_kinds : FnScope ["error", "found"] ["error"] (defScope s__law_kinds) := ⟨rfl, rfl, rfl, by decide +kernel, rfl, by decide +kernel, by decide +kernel⟩
def b__law_kinds : MS := (msSeq (msSet 1 (mN gLst (mCons [] (mN (gIsiE 24) (mCons [] (mVar 0) (mCons [] (mC (.cls 0)) mNil))) (mCons [] (mN (gIsiE 24) (mCons [] (mVar 0) (mCons [] (mC (.cls 4)) mNil))) (mCons [] (mN (gIsiE 24) (mCons [] (mVar 0) (mCons [] (mC (.cls 1)) mNil))) (mCons [] (mN (gIsiE 24) (mCons [] (mVar 0) (mCons [] (mC (.cls 2)) mNil))) mNil))))))
  (msSeq (msSet 1 (m2 gAdd [] (mVar 1) (mN gLst (mCons [] (mN (gIsiE 24) (mCons [] (mVar 0) (mCons [] (mC (.cls 3)) mNil))) (mCons [] (mN (gIsiE 24) (mCons [] (mVar 0) (mCons [] (mC (.cls 5)) mNil))) (mCons [] (mN (gIsiE 24) (mCons [] (mVar 0) (mCons [] (mC (.cls 6)) mNil))) mNil))))))
  (msSeq (msSet 1 (m2 gAdd [] (mVar 1) (mN gLst (mCons [] (mN (gIsiE 24) (mCons [] (mVar 0) (mCons [] (mC (.cls 7)) mNil))) (mCons [] (mN (gIsiE 24) (mCons [] (mVar 0) (mCons [] (mC (.cls 8)) mNil))) (mCons [] (mN (gIsiE 24) (mCons [] (mVar 0) (mCons [] (mC (.cls 9)) mNil))) mNil))))))
  (msSeq (msSet 1 (m2 gAdd [] (mVar 1) (mN gLst (mCons [] (mN (gIsiE 24) (mCons [] (mVar 0) (mCons [] (mC (.cls 10)) mNil))) (mCons [] (mN (gIsiE 24) (mCons [] (mVar 0) (mCons [] (mC (.cls 11)) mNil))) (mCons [] (mN (gIsiE 24) (mCons [] (mVar 0) (mCons [] (mC (.cls 12)) mNil))) mNil))))))
  (msSeq (msSet 1 (m2 gAdd [] (mVar 1) (mN gLst (mCons [] (mN (gIsiE 24) (mCons [] (mVar 0) (mCons [] (mC (.cls 13)) mNil))) (mCons [] (mN (gIsiE 24) (mCons [] (mVar 0) (mCons [] (mC (.cls 14)) mNil))) (mCons [] (mN (gIsiE 24) (mCons [] (mVar 0) (mCons [] (mC (.cls 15)) mNil))) mNil))))))
  (msSeq (msSet 1 (m2 gAdd [] (mVar 1) (mN gLst (mCons [] (mN (gIsiE 24) (mCons [] (mVar 0) (mCons [] (mC (.cls 16)) mNil))) (mCons [] (mN (gIsiE 24) (mCons [] (mVar 0) (mCons [] (mC (.cls 17)) mNil))) (mCons [] (mN (gIsiE 24) (mCons [] (mVar 0) (mCons [] (mC (.cls 18)) mNil))) mNil))))))
  (msSeq (msSet 1 (m2 gAdd [] (mVar 1) (mN gLst (mCons [] (mN (gIsiE 24) (mCons [] (mVar 0) (mCons [] (mC (.cls 19)) mNil))) (mCons [] (mN (gIsiE 24) (mCons [] (mVar 0) (mCons [] (mC (.cls 20)) mNil))) (mCons [] (mN (gIsiE 24) (mCons [] (mVar 0) (mCons [] (mC (.cls 21)) mNil))) mNil))))))
  (msRet (m2 gAdd [] (mVar 1) (mN gLst (mCons [] (mN (gIsiE 24) (mCons [] (mVar 0) (mCons [] (mC (.cls 22)) mNil))) (mCons [] (mN (gIsiE 24) (mCons [] (mVar 0) (mCons [] (mC (.cls 23)) mNil))) mNil))))))))))))
theorem ok__law_kinds {f : Addr} {fd : FuncData} {k : Nat} (T : Txt w K mg cl aI_BadBook aI_BadChart aI_BadText aI_NoName aI_Tangled)  (F : Fun K "_law_kinds" "_law_kinds" s__law_kinds f fd) : FnOk P w K mg base CX0 (k + 1) f fd ["error"] (spG K cl 1 (runDef [] 1 (b__law_kinds))) :=
  fn_def2 F sc__law_kinds (by decide) fun cdv A outer s H E F0 H0 io vs hr => ⟨_, (s_cons (s_set 1 sc__law_kinds.nd rfl (by first | exact Or.inl rfl | exact Or.inr rfl) (e_lst (a_cons (e_cb (loc_isiE T.exv) (pe_callB call_isiV (by rfl) T.z_isinstance rfl (a_cons (e_var 0) (a_cons (e_own (by rfl) T.c_BadChart) a_nil)))) (a_cons (e_cb (loc_isiE T.exv) (pe_callB call_isiV (by rfl) T.z_isinstance rfl (a_cons (e_var 0) (a_cons (e_own (by rfl) T.c_BadBook) a_nil)))) (a_cons (e_cb (loc_isiE T.exv) (pe_callB call_isiV (by rfl) T.z_isinstance rfl (a_cons (e_var 0) (a_cons (e_own (by rfl) T.c_BadText) a_nil)))) (a_cons (e_cb (loc_isiE T.exv) (pe_callB call_isiV (by rfl) T.z_isinstance rfl (a_cons (e_var 0) (a_cons (e_own (by rfl) T.c_Tangled) a_nil)))) a_nil))))) (by show 1 ∉ ([] : List Nat); decide) (by show 1 < 2; decide))
  (s_cons (s_set 1 sc__law_kinds.nd rfl (by first | exact Or.inl rfl | exact Or.inr rfl) (e_op op_addAll loc_add (e_var 1) (e_lst (a_cons (e_cb (loc_isiE T.exv) (pe_callB call_isiV (by rfl) T.z_isinstance rfl (a_cons (e_var 0) (a_cons (e_own (by rfl) T.c_NoName) a_nil)))) (a_cons (e_cb (loc_isiE T.exv) (pe_callB call_isiV (by rfl) T.z_isinstance rfl (a_cons (e_var 0) (a_cons (e_own (by rfl) T.c_NoEnd) a_nil)))) (a_cons (e_cb (loc_isiE T.exv) (pe_callB call_isiV (by rfl) T.z_isinstance rfl (a_cons (e_var 0) (a_cons (e_own (by rfl) T.c_NoArrow) a_nil)))) a_nil))))) (by show 1 ∉ ([] : List Nat); decide) (by show 1 < 2; decide))
  (s_cons (s_set 1 sc__law_kinds.nd rfl (by first | exact Or.inl rfl | exact Or.inr rfl) (e_op op_addAll loc_add (e_var 1) (e_lst (a_cons (e_cb (loc_isiE T.exv) (pe_callB call_isiV (by rfl) T.z_isinstance rfl (a_cons (e_var 0) (a_cons (e_own (by rfl) T.c_NoPicture) a_nil)))) (a_cons (e_cb (loc_isiE T.exv) (pe_callB call_isiV (by rfl) T.z_isinstance rfl (a_cons (e_var 0) (a_cons (e_own (by rfl) T.c_NoTable) a_nil)))) (a_cons (e_cb (loc_isiE T.exv) (pe_callB call_isiV (by rfl) T.z_isinstance rfl (a_cons (e_var 0) (a_cons (e_own (by rfl) T.c_NoNumber) a_nil)))) a_nil))))) (by show 1 ∉ ([] : List Nat); decide) (by show 1 < 2; decide))
  (s_cons (s_set 1 sc__law_kinds.nd rfl (by first | exact Or.inl rfl | exact Or.inr rfl) (e_op op_addAll loc_add (e_var 1) (e_lst (a_cons (e_cb (loc_isiE T.exv) (pe_callB call_isiV (by rfl) T.z_isinstance rfl (a_cons (e_var 0) (a_cons (e_own (by rfl) T.c_NoDealing) a_nil)))) (a_cons (e_cb (loc_isiE T.exv) (pe_callB call_isiV (by rfl) T.z_isinstance rfl (a_cons (e_var 0) (a_cons (e_own (by rfl) T.c_NoSketch) a_nil)))) (a_cons (e_cb (loc_isiE T.exv) (pe_callB call_isiV (by rfl) T.z_isinstance rfl (a_cons (e_var 0) (a_cons (e_own (by rfl) T.c_NoRoutine) a_nil)))) a_nil))))) (by show 1 ∉ ([] : List Nat); decide) (by show 1 < 2; decide))
  (s_cons (s_set 1 sc__law_kinds.nd rfl (by first | exact Or.inl rfl | exact Or.inr rfl) (e_op op_addAll loc_add (e_var 1) (e_lst (a_cons (e_cb (loc_isiE T.exv) (pe_callB call_isiV (by rfl) T.z_isinstance rfl (a_cons (e_var 0) (a_cons (e_own (by rfl) T.c_NoPlace) a_nil)))) (a_cons (e_cb (loc_isiE T.exv) (pe_callB call_isiV (by rfl) T.z_isinstance rfl (a_cons (e_var 0) (a_cons (e_own (by rfl) T.c_NoContents) a_nil)))) (a_cons (e_cb (loc_isiE T.exv) (pe_callB call_isiV (by rfl) T.z_isinstance rfl (a_cons (e_var 0) (a_cons (e_own (by rfl) T.c_NotRunning) a_nil)))) a_nil))))) (by show 1 ∉ ([] : List Nat); decide) (by show 1 < 2; decide))
  (s_cons (s_set 1 sc__law_kinds.nd rfl (by first | exact Or.inl rfl | exact Or.inr rfl) (e_op op_addAll loc_add (e_var 1) (e_lst (a_cons (e_cb (loc_isiE T.exv) (pe_callB call_isiV (by rfl) T.z_isinstance rfl (a_cons (e_var 0) (a_cons (e_own (by rfl) T.c_NothingDone) a_nil)))) (a_cons (e_cb (loc_isiE T.exv) (pe_callB call_isiV (by rfl) T.z_isinstance rfl (a_cons (e_var 0) (a_cons (e_own (by rfl) T.c_NoBreak) a_nil)))) (a_cons (e_cb (loc_isiE T.exv) (pe_callB call_isiV (by rfl) T.z_isinstance rfl (a_cons (e_var 0) (a_cons (e_own (by rfl) T.c_NotOneRim) a_nil)))) a_nil))))) (by show 1 ∉ ([] : List Nat); decide) (by show 1 < 2; decide))
  (s_cons (s_set 1 sc__law_kinds.nd rfl (by first | exact Or.inl rfl | exact Or.inr rfl) (e_op op_addAll loc_add (e_var 1) (e_lst (a_cons (e_cb (loc_isiE T.exv) (pe_callB call_isiV (by rfl) T.z_isinstance rfl (a_cons (e_var 0) (a_cons (e_own (by rfl) T.c_NoPrice) a_nil)))) (a_cons (e_cb (loc_isiE T.exv) (pe_callB call_isiV (by rfl) T.z_isinstance rfl (a_cons (e_var 0) (a_cons (e_own (by rfl) T.c_Full) a_nil)))) (a_cons (e_cb (loc_isiE T.exv) (pe_callB call_isiV (by rfl) T.z_isinstance rfl (a_cons (e_var 0) (a_cons (e_own (by rfl) T.c_Apart) a_nil)))) a_nil))))) (by show 1 ∉ ([] : List Nat); decide) (by show 1 < 2; decide))
  (s_one (s_ret (e_op op_addAll loc_add (e_var 1) (e_lst (a_cons (e_cb (loc_isiE T.exv) (pe_callB call_isiV (by rfl) T.z_isinstance rfl (a_cons (e_var 0) (a_cons (e_own (by rfl) T.c_NoLine) a_nil)))) (a_cons (e_cb (loc_isiE T.exv) (pe_callB call_isiV (by rfl) T.z_isinstance rfl (a_cons (e_var 0) (a_cons (e_own (by rfl) T.c_NoRunner) a_nil)))) a_nil)))))))))))))⟩
abbrev s_law : Stmt := top 33
theorem sc_law : FnScope ["script", "pool", "things", "errors", "which", "thing", "told", "error"] ["script"] (defScope s_law) := ⟨rfl, rfl, rfl, by decide +kernel, rfl, by decide +kernel, by decide +kernel⟩
def e1_law (f__law_pool : List O → Rr) (f__law_deep : List O → Rr) (f__law_draw : List O → Rr) (f__law_made : List O → Rr) (f__law_plain_ones : List O → Rr) (f__law_kinds : List O → Rr) : MS := (msSeq (msSet 5 (m2 gIx [1] (mVar 2) (mCall [1] 2 f__law_draw (mCons [] (mSlot 1) (mCons [] (mC (.int 11)) mNil)))))
  (msSeq (msAsgT (setTup [6, 7]) (mStl (mCall [] 2 f__law_made (mCons [] (mVar 4) (mCons [] (mVar 5) mNil)))))
  (msSeq (msIf (mTest (m2 gNe [] (mN gRep (mCons [] (mVar 6) mNil)) (mN gRep (mCons [] (mVar 5) mNil)))) (msRet (mC (.bl false))) msNil)
  (msExpr (mAppend [3] [] (mVar 3) (mVar 7))))))
def e2_law (f__law_pool : List O → Rr) (f__law_deep : List O → Rr) (f__law_draw : List O → Rr) (f__law_made : List O → Rr) (f__law_plain_ones : List O → Rr) (f__law_kinds : List O → Rr) : MS := (msIf (tmOr (tmNot (mTest (mN (gIsiE 24) (mCons [] (mVar 7) (mCons [] (mC (.cls 24)) mNil))))) (tmOr (tmNot (mTest (mN (gIsiE 24) (mCons [] (mVar 7) (mCons [] (mC (.ty "ValueError")) mNil))))) (mTest (m2 gNe [] (mLM gLCt (mStl (mCall [] 1 f__law_kinds (mCons [] (mVar 7) mNil))) (mC (.bl true))) (mC (.int 1)))))) (msRet (mC (.bl false))) msNil)
def e3_law (f__law_pool : List O → Rr) (f__law_deep : List O → Rr) (f__law_draw : List O → Rr) (f__law_made : List O → Rr) (f__law_plain_ones : List O → Rr) (f__law_kinds : List O → Rr) : ME := (mStl (mLM gLIx (mStl (mCall [] 1 f__law_kinds (mCons [] (mVar 7) mNil))) (mC (.bl true))))
def b_law (f__law_pool : List O → Rr) (f__law_deep : List O → Rr) (f__law_draw : List O → Rr) (f__law_made : List O → Rr) (f__law_plain_ones : List O → Rr) (f__law_kinds : List O → Rr) : MS := (msSeq (msSet 1 (mCall [] 1 f__law_pool (mCons [] (mVar 0) mNil)))
  (msSeq (msSet 2 (mStl (mN gLst (mCons [] (mC .non) (mCons [] (mC (.int 0)) (mCons [] (mC (.bl true)) (mCons [] (mC (.str "a")) (mCons [] (mN gTup mNil) (mCons [] (mN gTup (mCons [] (mC (.str "arrow")) (mCons [] (mC (.int 3)) mNil))) (mCons [] (mStl (mN gLst (mCons [] (mC (.int 1)) mNil))) (mCons [] (mStl mDK0) (mCons [] (mStl (mCall [] 0 f__law_deep mNil)) (mCons [] (m1 gNeg (mC (.int 7))) (mCons [] (m2 (gIc cPow2 fun i j => .int (i ^ j.toNat)) [] (mC (.int 10)) (mC (.int 19))) mNil))))))))))))))
  (msSeq (msSet 3 (mN gLst mNil))
  (msSeq (msFor [4, 1, 5, 6, 7, 3] (setT [4]) (iRg1 (mCons [] (mC (.int 5)) mNil)) (e1_law f__law_pool f__law_deep f__law_draw f__law_made f__law_plain_ones f__law_kinds))
  (msSeq (msSet 3 (m2 gAdd [] (mVar 3) (mCall [] 0 f__law_plain_ones mNil)))
  (msSeq (msFor [7] (setT [7]) (iSeq false (mVar 3)) (e2_law f__law_pool f__law_deep f__law_draw f__law_made f__law_plain_ones f__law_kinds))
  (msRet (m2 gEq [] (mN gLenSetI (mCons [] (mLc [7, 7] [7] (setT [7]) (iSeq false (mVar 3)) mYes (e3_law f__law_pool f__law_deep f__law_draw f__law_made f__law_plain_ones f__law_kinds)) mNil)) (mN gLen (mCons [] (mVar 3) mNil))))))))))
theorem ok_law {f : Addr} {fd : FuncData} {k : Nat} (T : Txt w K mg cl aI_BadBook aI_BadChart aI_BadText aI_NoName aI_Tangled) {f__law_pool : List O → Rr} {a__law_pool : Addr} {d__law_pool : FuncData} {k__law_pool : Nat} (l__law_pool : k__law_pool ≤ k) (c__law_pool : CalF P w K mg base k__law_pool "_law_pool" ["script"] (spG K cl 1 f__law_pool) a__law_pool d__law_pool) {f__law_deep : List O → Rr} {a__law_deep : Addr} {d__law_deep : FuncData} {k__law_deep : Nat} (l__law_deep : k__law_deep ≤ k) (c__law_deep : CalF P w K mg base k__law_deep "_law_deep" [] (spG K cl 0 f__law_deep) a__law_deep d__law_deep) {f__law_draw : List O → Rr} {a__law_draw : Addr} {d__law_draw : FuncData} {k__law_draw : Nat} (l__law_draw : k__law_draw ≤ k) (c__law_draw : CalF P w K mg base k__law_draw "_law_draw" ["pool", "many"] (spG K cl 2 f__law_draw) a__law_draw d__law_draw) {f__law_made : List O → Rr} {a__law_made : Addr} {d__law_made : FuncData} {k__law_made : Nat} (l__law_made : k__law_made ≤ k) (c__law_made : CalF P w K mg base k__law_made "_law_made" ["which", "thing"] (spG K cl 2 f__law_made) a__law_made d__law_made) {f__law_plain_ones : List O → Rr} {a__law_plain_ones : Addr} {d__law_plain_ones : FuncData} {k__law_plain_ones : Nat} (l__law_plain_ones : k__law_plain_ones ≤ k) (c__law_plain_ones : CalF P w K mg base k__law_plain_ones "_law_plain_ones" [] (spG K cl 0 f__law_plain_ones) a__law_plain_ones d__law_plain_ones) {f__law_kinds : List O → Rr} {a__law_kinds : Addr} {d__law_kinds : FuncData} {k__law_kinds : Nat} (l__law_kinds : k__law_kinds ≤ k) (c__law_kinds : CalF P w K mg base k__law_kinds "_law_kinds" ["error"] (spG K cl 1 f__law_kinds) a__law_kinds d__law_kinds) (F : Fun K "law" "law" s_law f fd) {z : Shared} {M : Hp} {args : Args} {us : List Value} {xs : List V} {Q : VK} {E : XK} (hk : Room (k + 1) callerA) (ev : Env0 P w K mg base callerA [] z M) (hb : BindsTo z fd args ((["script"] : List Str).zip us)) (rv : Vals xs us) (h : spG K cl 1 (runDef [] 7 (b_law f__law_pool f__law_deep f__law_draw f__law_made f__law_plain_ones f__law_kinds)) xs M Q E) : codeAny (model P w) callerA (.call (.ref f) args) (CR CX0 [] P w M z Q E) z :=
  run_topG F sc_law (by decide) hk ev hb rv h fun cdv F0 H0 io vs hr => ⟨_, (s_cons (s_set 1 sc_law.nd rfl (by first | exact Or.inl rfl | exact Or.inr rfl) (e_call [] rfl c__law_pool.ok (hr.mono (by omega)) (by rfl) c__law_pool.g c__law_pool.kp c__law_pool.b passN (a_cons (e_var 0) a_nil)) (by show 1 ∉ ([] : List Nat); decide) (by show 1 < 8; decide))
  (s_cons (s_set 2 sc_law.nd rfl (by first | exact Or.inl rfl | exact Or.inr rfl) (e_stl (e_lst (a_cons e_non (a_cons e_int (a_cons e_bl (a_cons e_str (a_cons (e_tup a_nil) (a_cons (e_tup (a_cons e_str (a_cons e_int a_nil))) (a_cons (e_stl (e_lst (a_cons e_int a_nil))) (a_cons (e_stl e_dk0) (a_cons (e_stl (e_call0 [] rfl c__law_deep.ok (hr.mono (by omega)) (by rfl) c__law_deep.g c__law_deep.kp c__law_deep.b passN)) (a_cons (e_un un_neg loc_neg e_int) (a_cons (e_op op_powW loc_powW e_int e_int) a_nil))))))))))))) (by show 2 ∉ ([] : List Nat); decide) (by show 2 < 8; decide))
  (s_cons (s_set 3 sc_law.nd rfl (by first | exact Or.inl rfl | exact Or.inr rfl) (e_lst a_nil) (by show 3 ∉ ([] : List Nat); decide) (by show 3 < 8; decide))
  (s_cons (s_for PassesOwn.never rfl (tg_name (by show 4 < 8; decide) (by show 4 ∉ ([] : List Nat); decide)) (i_rg1 (pi_range1 (by rfl) T.z_range (a_cons e_int a_nil))) (pg_name (i := 4) sc_law.nd rfl (by first | exact Or.inl rfl | exact Or.inr rfl)) (s_cons (s_set 5 sc_law.nd rfl (by first | exact Or.inl rfl | exact Or.inr rfl) (e_ix ix_seq (loc_ix) (e_var 2) (e_call [1] rfl c__law_draw.ok (hr.mono (by omega)) (by rfl) c__law_draw.g c__law_draw.kp c__law_draw.b passN (a_cons (e_slot 1) (a_cons e_int a_nil))) (fun _ _ => rfl)) (by show 5 ∉ ([] : List Nat); decide) (by show 5 < 8; decide))
  (s_cons (s_asgT (tg_tup (is := [6, 7]) (n := 2) rfl (by show ∀ i ∈ ([6, 7] : List Nat), i < 8 ∧ i ∉ ([] : List Nat); decide)) (ps_asg (e_stl (e_call [] rfl c__law_made.ok (hr.mono (by omega)) (by rfl) c__law_made.g c__law_made.kp c__law_made.b passN (a_cons (e_var 4) (a_cons (e_var 5) a_nil)))) (pg_tup rfl (pgs_cons (pg_name (i := 6) sc_law.nd rfl (by first | exact Or.inl rfl | exact Or.inr rfl)) (pgs_cons (pg_name (i := 7) sc_law.nd rfl (by first | exact Or.inl rfl | exact Or.inr rfl)) pgs_nil)))))
  (s_cons (s_if (t_cmp (op_neD hr.units) (loc_ne) (e_cb loc_rep (pe_callB (call_rep (by rfl) (units65 hr)) (by rfl) T.z_repr rfl (a_cons (e_var 6) a_nil))) (e_cb loc_rep (pe_callB (call_rep (by rfl) (units65 hr)) (by rfl) T.z_repr rfl (a_cons (e_var 5) a_nil)))) (s_one (s_ret e_bl)) s_nil)
  (s_one (s_expr (e_append [3] rfl (pe_bm PySem.F.plainAttrs_list PySem.F.slot_list_append PySem.F.type_list_append mt_append (e_var 3) (a_one (e_var 7))))))))))
  (s_cons (s_set 3 sc_law.nd rfl (by first | exact Or.inl rfl | exact Or.inr rfl) (e_op op_addAll loc_add (e_var 3) (e_call0 [] rfl c__law_plain_ones.ok (hr.mono (by omega)) (by rfl) c__law_plain_ones.g c__law_plain_ones.kp c__law_plain_ones.b passN)) (by show 3 ∉ ([] : List Nat); decide) (by show 3 < 8; decide))
  (s_cons (s_for PassesOwn.never rfl (tg_name (by show 7 < 8; decide) (by show 7 ∉ ([] : List Nat); decide)) (i_list rfl (e_var 3)) (pg_name (i := 7) sc_law.nd rfl (by first | exact Or.inl rfl | exact Or.inr rfl)) (s_one (s_if (t_w (w_or (t_not (t_val (e_cb (loc_isiE T.exv) (pe_callB call_isiV (by rfl) T.z_isinstance rfl (a_cons (e_var 7) (a_cons (e_own (by rfl) T.c_ChartError) a_nil)))))) (w_or (t_not (t_val (e_cb (loc_isiE T.exv) (pe_callB call_isiV (by rfl) T.z_isinstance rfl (a_cons (e_var 7) (a_cons (e_ty (by rfl) T.z_ValueError rfl) a_nil)))))) (w_or1 (t_cmp (op_neD hr.units) (loc_ne) (e_lct rfl (pe_bm PySem.F.plainAttrs_list PySem.F.slot_list_count PySem.F.type_list_count (mt_countD (units65 hr)) (e_stl (e_call [] rfl c__law_kinds.ok (hr.mono (by omega)) (by rfl) c__law_kinds.g c__law_kinds.kp c__law_kinds.b passN (a_cons (e_var 7) a_nil))) (a_one e_bl))) e_int))))) (s_one (s_ret e_bl)) s_nil)))
  (s_one (s_ret (e_cmp (op_eqD hr.units) (loc_eq) (e_lenSetI rfl rfl (by rfl) T.z_len (by rfl) T.z_set (a_cons (e_lc (vs := [7]) (tg_name (by show 7 < 8; decide) (by show 7 ∉ ([] : List Nat); decide)) (by decide) (by show ∀ i ∈ ([7] : List Nat), i ∉ ([] : List Nat); decide) (pe_lc (own := [("error", 7)]) rfl sc_law.nd (i_list rfl (e_var 3)) (blkOk_by (N := ["script", "pool", "things", "errors", "which", "thing", "told", "error"]) (sc := defScope s_law) (by decide +kernel)) (fun _ _ _ _ _ => (pg_name (i := 7) sc_law.nd rfl (by first | exact Or.inl rfl | exact Or.inr rfl))) (fun _ _ _ _ _ => ts_nil) (fun _ _ _ _ _ => (e_stl (e_lix rfl (pe_bm PySem.F.plainAttrs_list PySem.F.slot_list_index PySem.F.type_list_index (mt_indexD (units65 hr)) (e_stl (e_call [] rfl c__law_kinds.ok (hr.mono (by omega)) (by rfl) c__law_kinds.g c__law_kinds.kp c__law_kinds.b passN (a_cons (e_var 7) a_nil))) (a_one e_bl))))))) a_nil)) (e_cb (loc_len) (pe_callB call_len (by rfl) T.z_len rfl (a_cons (e_var 3) a_nil))))))))))))⟩
end
end
end L3
namespace L3
open PySem L2
noncomputable def f__law_pool : List O → Rr := runDef [] 2 (b__law_pool)
noncomputable def f__law_draw : List O → Rr := runDef [0] 3 (b__law_draw)
noncomputable def f__law_deep : List O → Rr := runDef [] 2 (b__law_deep)
noncomputable def f__law_made : List O → Rr := runDef [] 0 (b__law_made)
noncomputable def f__law_plain_ones : List O → Rr := runDef [] 1 (b__law_plain_ones)
noncomputable def f__law_kinds : List O → Rr := runDef [] 1 (b__law_kinds)
noncomputable def f_law : List O → Rr := runDef [] 7 (b_law f__law_pool f__law_deep f__law_draw f__law_made f__law_plain_ones f__law_kinds)
end L3
namespace L3
open PySem L2
theorem mod_a (x : Int) : (x % 2147483647).natAbs < 18446744073709551616 := by omega
theorem mod_b (x : Int) : (x % 2147483399).natAbs < 18446744073709551616 := by omega
def pl (s c : Int) (cs : List Int) : O := .lst [.s (.int s), .s (.int c), .lst (cs.map fun i => O.s (.int i))]
def pla (s c : Int) (a : Addr) : O := .lst [.s (.int s), .s (.int c), .s (.adr a)]
theorem alias_is {i x : Nat} {p : List Stp} {os : List O} {f : ME} {g : MS} {env e1 : Env} {R : Rs Fl} (hf : f env = .ok (.bor x p (.lst os)) e1) (hx : x ≠ i)
    (h : ∀ a, al1 x p i (.lst os) g a (poke x p (.s (.adr a)) e1) = R) : msAlias i f g env = R := by
  unfold msAlias
  rw [hf]
  show (if x ≠ i then mAll fun a => al1 x p i (.lst os) g a (poke x p (.s (.adr a)) e1) else .bad) = R
  rw [if_pos hx]
  exact mAll_is h
def gDraw : MS := (msSeq (msIf (mTest (m2 (gI fun i j => .bl (decide (j < i))) [] (mN gLen (mCons [] (mVar 2) mNil)) (mC (.int 0)))) (msSeq (msSet 3 (m2 (gIc cMod fun i j => .int (i % j)) [] (mN gInt (mCons [] (m2 gIx [] (mVar 2) (mC (.int 0))) mNil)) (mVar 1)))
  (msSeq (msSetIx [2] [] [] (m2 (gIc cDiv fun i j => .int (i / j)) [] (mN gInt (mCons [] (m2 gIx [] (mVar 2) (mC (.int 0))) mNil)) (mVar 1)) (mVar 2) (mC (.int 0)))
  (msSeq (msIf (mTest (m2 gEq [] (m2 gIx [] (mVar 2) (mC (.int 0))) (mC (.int 0)))) (msExpr (mPop0 [2] (mVar 2))) msNil)
  (msRet (mVar 3))))) msNil)
  (msSeq (msSet 4 (m2 (gIc cMod fun i j => .int (i % j)) [] (mN gInt (mCons [] (m2 gMul [] (m2 gAdd [] (m2 gIx [] (mVar 0) (mC (.int 0))) (m2 gMul [] (mC (.int 7919)) (m2 gIx [] (mVar 0) (mC (.int 1))))) (mC (.int 48271))) mNil)) (mC (.int 2147483647))))
  (msSeq (msSet 4 (m2 (gIc cMod fun i j => .int (i % j)) [] (mN gInt (mCons [] (m2 gMul [] (mVar 4) (m2 gAdd [] (m2 (gIc cDiv fun i j => .int (i / j)) [] (mVar 4) (mC (.int 1009))) (mC (.int 69621)))) mNil)) (mC (.int 2147483647))))
  (msSeq (msSet 4 (m2 (gIc cMod fun i j => .int (i % j)) [] (mN gInt (mCons [] (m2 gMul [] (mVar 4) (m2 gAdd [] (m2 (gIc cDiv fun i j => .int (i / j)) [] (mVar 4) (mC (.int 2003))) (mC (.int 40692)))) mNil)) (mC (.int 2147483399))))
  (msRet (m2 (gIc cMod fun i j => .int (i % j)) [] (mN gInt (mCons [] (m2 (gIc cDiv fun i j => .int (i / j)) [] (mVar 4) (mC (.int 16))) mNil)) (mVar 1)))))))
theorem p_pop0 (a b c d : Option O) (n : Int) (os : List O) : mPop0 [2] (mVar 2) [a, b, some (.lst (.s (.int n) :: os)), c, d] = .ok (.val (.int n)) [a, b, some (.lst os), c, d] := rfl
def u1 (s c : Int) : Int := (s + 7919 * c) * 48271 % 2147483647
def u2 (s c : Int) : Int := u1 s c * (u1 s c / 1009 + 69621) % 2147483647
def u3 (s c : Int) : Int := u2 s c * (u2 s c / 2003 + 40692) % 2147483399
theorem p_gdraw (s c many : Int) (cs : List Int) (h0 : 0 < many) (h1 : many < 1073741824) : ∃ (v : Int) (cs' : List Int) (x y : Option O), (0 ≤ v ∧ v < many) ∧ ∀ a,
    gDraw [some (pla s c a), some (.s (.int many)), some (.lst (cs.map fun i => O.s (.int i))), none, none] = .ok (.ret (.val (.int v))) [some (pla s c a), some (.s (.int many)), some (.lst (cs'.map fun i => O.s (.int i))), x, y] := by
  have m0 : ∀ x : Int, 0 ≤ x % many := fun x => Int.emod_nonneg x (by omega)
  have m1 : ∀ x : Int, x % many < many := fun x => Int.emod_lt_of_pos x h0
  unfold gDraw pla
  cases cs with
  | nil =>
    refine ⟨u3 s c / 16 % many, [], none, some (.s (.int (u3 s c))), ⟨m0 _, m1 _⟩, fun a => ?_⟩
    unfold u3 u2 u1
    simp [ixN, cMod, cDiv, cMul2, h0, h1, mod_a, mod_b]
  | cons n ns =>
    by_cases hz : n / many = 0
    · refine ⟨n % many, ns, some (.s (.int (n % many))), none, ⟨m0 _, m1 _⟩, fun a => ?_⟩
      simp [ixN, cMod, cDiv, cMul2, h0, h1, mod_a, mod_b, hz, p_pop0]
    · refine ⟨n % many, n / many :: ns, some (.s (.int (n % many))), none, ⟨m0 _, m1 _⟩, fun a => ?_⟩
      simp [ixN, cMod, cDiv, cMul2, h0, h1, mod_a, mod_b, hz]
theorem p_draw (s c many : Int) (cs : List Int) (h0 : 0 < many) (h1 : many < 1073741824) : ∃ (v : Int) (cs' : List Int), (0 ≤ v ∧ v < many) ∧ f__law_draw [pl s c cs, .s (.int many)] = .ok (.s (.int v)) [pl s (c + 1) cs', .s (.int many)] := by
  obtain ⟨v, cs', x, y, hv, hg⟩ := p_gdraw s (c + 1) many cs h0 h1
  refine ⟨v, cs', hv, ?_⟩
  have al : msAlias 2 (m2 gIx [] (mVar 0) (mC (.int 2))) gDraw [some (pl s (c + 1) cs), some (.s (.int many)), none, none, none] = .ok (.ret (.val (.int v))) [some (pl s (c + 1) cs'), some (.s (.int many)), none, x, y] := by
    refine alias_is (x := 0) (p := [.idx 2]) (os := cs.map fun i => O.s (.int i)) (e1 := [some (pl s (c + 1) cs), some (.s (.int many)), none, none, none]) ?_ (by decide) fun a => ?_
    · exact rfl
    · have e1 : poke 0 [.idx 2] (.s (.adr a)) [some (pl s (c + 1) cs), some (.s (.int many)), none, none, none] = some [some (pla s (c + 1) a), some (.s (.int many)), none, none, none] := rfl
      rw [e1]
      show al2 0 [.idx 2] 2 a (gDraw [some (pla s (c + 1) a), some (.s (.int many)), some (.lst (cs.map fun i => O.s (.int i))), none, none]) = _
      rw [hg a]
      have e2 : peek 0 [.idx 2] [some (pla s (c + 1) a), some (.s (.int many)), some (.lst (cs'.map fun i => O.s (.int i))), x, y] = some (.s (.adr a)) := rfl
      show (if isAdr a (peek 0 [.idx 2] [some (pla s (c + 1) a), some (.s (.int many)), some (.lst (cs'.map fun i => O.s (.int i))), x, y]) = true then al3 _ _ _ else .bad) = _
      rw [e2, if_pos (show isAdr a (some (.s (.adr a))) = true from decide_eq_true rfl)]
      rfl
  have bd : f__law_draw = runDef [0] 3 (msSeq (msSetIx [0] [] [] (m2 gAdd [] (m2 gIx [] (mVar 0) (mC (.int 1))) (mC (.int 1))) (mVar 0) (mC (.int 1))) (msAlias 2 (m2 gIx [] (mVar 0) (mC (.int 2))) gDraw)) := rfl
  rw [bd]
  have st : msSetIx [0] [] [] (m2 gAdd [] (m2 gIx [] (mVar 0) (mC (.int 1))) (mC (.int 1))) (mVar 0) (mC (.int 1)) [some (pl s c cs), some (.s (.int many)), none, none, none] = .ok .nx [some (pl s (c + 1) cs), some (.s (.int many)), none, none, none] := by
    unfold pl
    simp [ixN]
  rw [ev_run, ev_seq]
  show runK [0] _ (seqK _ (msSetIx [0] [] [] (m2 gAdd [] (m2 gIx [] (mVar 0) (mC (.int 1))) (mC (.int 1))) (mVar 0) (mC (.int 1)) [some (pl s c cs), some (.s (.int many)), none, none, none])) = _
  rw [st, ev_seq1, al]
  rfl
end L3
namespace L3
open PySem L2
theorem p_made (k : Nat) (c : Nat) (t : D) (h : (k, c) ∈ [(0, 0), (1, 4), (2, 1), (3, 2), (4, 3)]) : f__law_made [.s (.int (k : Nat)), .s t] = .ok (.s (.tup [t, .exn c [t]])) [.s (.int (k : Nat)), .s t] := by
  simp only [List.mem_cons, Prod.mk.injEq, List.mem_nil_iff, or_false] at h
  rcases h with ⟨rfl, rfl⟩ | ⟨rfl, rfl⟩ | ⟨rfl, rfl⟩ | ⟨rfl, rfl⟩ | ⟨rfl, rfl⟩ <;> kernel_rfl
def things : List D := [.non, .int 0, .bl true, .str "a", .tup [], .tup [.str "arrow", .int 3], .lst [.int 1], .dk [] [], f36 36, .int (-7), .int 10000000000000000000]
where f36 : Nat → D
  | 0 => .non
  | n + 1 => .lst [f36 n]
theorem p_deep : f__law_deep [] = .ok (.s (things.f36 36)) [] := by kernel_rfl
def okS (d : D) : Bool := match repD d with
  | some y => SeqAt.shaped (.str y) && PyData.eqv (.str y) (.str y)
  | none => false
theorem ok_things : things.all okS = true := by kernel_rfl
theorem ok_thing {d : D} (h : d ∈ things) : ∃ y, gRep [.val d] = some (.val (.str y)) ∧ gNe (.val (.str y)) (.val (.str y)) = some (.val (.bl false)) := by
  have h := List.all_eq_true.mp ok_things d h
  unfold okS at h
  split at h
  · rename_i y q
    have h := Bool.and_eq_true_iff.mp h
    refine ⟨y, ?_, ?_⟩
    · show (if Rt.isSl (.val d) = true then none else (repD (Rt.val d).d).map fun s => Rt.val (.str s)) = _
      rw [if_neg (show ¬ (Rt.isSl (.val d) = true) from fun h => nomatch (show false = true from h)), show (Rt.val d).d = d from rfl, q]
      rfl
    · unfold gNe
      rw [if_neg (show ¬ (Rt.isSl (.val (.str y)) = true ∨ Rt.isSl (.val (.str y)) = true) from fun h => h.elim (fun z => nomatch (show false = true from z)) fun z => nomatch (show false = true from z))]
      have : eqD (Rt.val (.str y)).d (Rt.val (.str y)).d = some true := by
        show (if SeqAt.shaped (.str y) = true ∧ SeqAt.shaped (.str y) = true then some (PyData.eqv (.str y) (.str y)) else none) = _
        rw [if_pos ⟨h.1, h.1⟩, h.2]
      rw [this]
      rfl
  · cases h

noncomputable def E1 : MS := e1_law f__law_pool f__law_deep f__law_draw f__law_made f__law_plain_ones f__law_kinds
noncomputable def restB : MS := (msSeq (msSet 3 (m2 gAdd [] (mVar 3) (mCall [] 0 f__law_plain_ones mNil)))
  (msSeq (msFor [7] (setT [7]) (iSeq false (mVar 3)) (e2_law f__law_pool f__law_deep f__law_draw f__law_made f__law_plain_ones f__law_kinds))
  (msRet (m2 gEq [] (mN gLenSetI (mCons [] (mLc [7, 7] [7] (setT [7]) (iSeq false (mVar 3)) mYes (e3_law f__law_pool f__law_deep f__law_draw f__law_made f__law_plain_ones f__law_kinds)) mNil)) (mN gLen (mCons [] (mVar 3) mNil))))))
def retOf : Rs Fl → Option D
  | .ok (.ret (.val d)) (_ :: _) => some d
  | _ => none
theorem retOf_is {r : Rs Fl} {d : D} (h : retOf r = some d) : ∃ x e, r = .ok (.ret (.val d)) (x :: e) := by
  unfold retOf at h
  split at h
  · cases h; exact ⟨_, _, rfl⟩
  · cases h
theorem p_rest (x0 x1 x2 x4 x5 x6 x7 : Option O) (a b c d e : D) : retOf (restB [x0, x1, x2, some (.lst [.s (.exn 0 [a]), .s (.exn 4 [b]), .s (.exn 1 [c]), .s (.exn 2 [d]), .s (.exn 3 [e])]), x4, x5, x6, x7]) = some (.bl true) := by kernel_rfl
end L3
namespace L3
open PySem L2
theorem things_len : things.length = 11 := rfl
theorem p_turn (k cc : Nat) (h : (k, cc) ∈ [(0, 0), (1, 4), (2, 1), (3, 2), (4, 3)]) (s c : Int) (cs : List Int) (x0 x5 x6 x7 : Option O) (es : List O) (hes : es.length < 6) :
    ∃ (cs' : List Int) (t : D) (y5 y6 y7 : Option O), E1 [x0, some (pl s c cs), some (.s (.lst things)), some (.lst es), some (.s (.int (k : Nat))), x5, x6, x7] =
      .ok .nx [x0, some (pl s (c + 1) cs'), some (.s (.lst things)), some (.lst (es ++ [.s (.exn cc [t])])), some (.s (.int (k : Nat))), y5, y6, y7] := by
  obtain ⟨v, cs', ⟨v0, v1⟩, e1⟩ := p_draw s c 11 cs (by decide) (by decide)
  obtain ⟨n, rfl⟩ : ∃ n : Nat, v = n := ⟨v.toNat, by omega⟩
  have hn : n < things.length := by rw [things_len]; omega
  have e2 : atI things (n : Int) = some things[n] := atI_nat (List.getElem?_eq_getElem hn)
  have hm : things[n] ∈ things := List.getElem_mem hn
  generalize things[n] = t at e2 hm
  obtain ⟨y, r1, r2⟩ := ok_thing hm
  have e3 := p_made k cc t h
  have hl : es.length < 16777216 := by omega
  refine ⟨cs', t, some (.s t), some (.s t), some (.s (.exn cc [t])), ?_⟩
  unfold E1 e1_law
  generalize things = T at e2 ⊢
  simp [e1, e2, e3, r1, r2, hl]
def cc : Nat → Nat
  | 0 => 0
  | 1 => 4
  | 2 => 1
  | 3 => 2
  | _ => 3
def esK (k : Nat) (ts : Nat → D) : List O := (List.range k).map fun j => O.s (.exn (cc j) [ts j])
theorem esK_succ (k : Nat) (ts : Nat → D) (t : D) : esK (k + 1) (fun j => if j = k then t else ts j) = esK k ts ++ [.s (.exn (cc k) [t])] := by
  unfold esK
  rw [List.range_succ, List.map_append]
  congr 1
  · exact List.map_congr_left fun j hj => by
      have : j ≠ k := by have := List.mem_range.mp hj; omega
      show O.s (D.exn (cc j) [if j = k then t else ts j]) = _
      rw [if_neg this]
  · simp
theorem p_five (x0 : Option O) (s : Int) (cs : List Int) : ∃ e', forL (setT [4]) E1 [.int 0, .int 1, .int 2, .int 3, .int 4] [x0, some (pl s 0 cs), some (.s (.lst things)), some (.lst []), none, none, none, none] = .ok .nx e' ∧
    ∃ (a b c d e : D) (x1 x2 x4 x5 x6 x7 : Option O), e' = [x0, x1, x2, some (.lst [.s (.exn 0 [a]), .s (.exn 4 [b]), .s (.exn 1 [c]), .s (.exn 2 [d]), .s (.exn 3 [e])]), x4, x5, x6, x7] := by
  obtain ⟨e', h1, k, ts, s', c, cs', y4, y5, y6, y7, h2, h3, h4⟩ := for_inv (set := setT [4]) (g := E1) (I := fun ds e => ∃ (k : Nat) (ts : Nat → D) (s c : Int) (cs : List Int) (y4 y5 y6 y7 : Option O), ds = ((List.range 5).drop k).map (fun (j : Nat) => D.int j) ∧ k ≤ 5 ∧
      e = [x0, some (pl s c cs), some (.s (.lst things)), some (.lst (esK k ts)), y4, y5, y6, y7]) (fun d ds e ⟨k, ts, s, c, cs, y4, y5, y6, y7, h2, h3, h4⟩ => by
    have hk : k = 0 ∨ k = 1 ∨ k = 2 ∨ k = 3 ∨ k = 4 ∨ k = 5 := by omega
    have key : d = .int (k : Nat) → ds = ((List.range 5).drop (k + 1)).map (fun (j : Nat) => D.int j) → k < 5 → (k, cc k) ∈ [(0, 0), (1, 4), (2, 1), (3, 2), (4, 3)] → ∃ e1 e2, setT [4] d e = some e1 ∧ E1 e1 = .ok .nx e2 ∧ ∃ (k : Nat) (ts : Nat → D) (s c : Int) (cs : List Int) (y4 y5 y6 y7 : Option O), ds = ((List.range 5).drop k).map (fun (j : Nat) => D.int j) ∧ k ≤ 5 ∧
        e2 = [x0, some (pl s c cs), some (.s (.lst things)), some (.lst (esK k ts)), y4, y5, y6, y7] := by
      intro q1 q2 q3 q4
      subst q1 h4
      obtain ⟨cs', t, z5, z6, z7, q5⟩ := p_turn k (cc k) q4 s c cs x0 y5 y6 y7 (esK k ts) (by unfold esK; rw [List.length_map, List.length_range]; omega)
      exact ⟨_, _, rfl, q5, k + 1, fun j => if j = k then t else ts j, s, c + 1, cs', _, _, _, _, q2, by omega, by rw [esK_succ]⟩
    rcases hk with rfl | rfl | rfl | rfl | rfl | rfl
    · cases h2; exact key rfl rfl (by decide) (by decide)
    · cases h2; exact key rfl rfl (by decide) (by decide)
    · cases h2; exact key rfl rfl (by decide) (by decide)
    · cases h2; exact key rfl rfl (by decide) (by decide)
    · cases h2; exact key rfl rfl (by decide) (by decide)
    · cases h2) [.int 0, .int 1, .int 2, .int 3, .int 4] [x0, some (pl s 0 cs), some (.s (.lst things)), some (.lst []), none, none, none, none] ⟨0, fun _ => .non, s, 0, cs, none, none, none, none, rfl, by decide, rfl⟩
  refine ⟨e', h1, ?_⟩
  have hk : k = 0 ∨ k = 1 ∨ k = 2 ∨ k = 3 ∨ k = 4 ∨ k = 5 := by omega
  rcases hk with rfl | rfl | rfl | rfl | rfl | rfl
  · cases h2
  · cases h2
  · cases h2
  · cases h2
  · cases h2
  · exact ⟨_, _, _, _, _, _, _, _, _, _, _, h4⟩
end L3
namespace L3
open PySem L2
theorem cut_map (ns : List Int) (lo hi : Option Int) : cut (ns.map D.int) lo hi = (cut ns lo hi).map D.int := by
  unfold cut
  rw [List.length_map, List.map_take, List.map_drop]
theorem cut_len (xs : List Int) (lo hi : Option Int) : (cut xs lo hi).length ≤ xs.length := by
  unfold cut
  rw [List.length_take, List.length_drop]
  omega
theorem log10 : Nat.log2 10 = 3 := by decide
theorem sum_own (cs : List Int) : gSum [.own (.lst ((cs.map D.int).map O.s))] = some (.val (.int cs.sum)) := by
  unfold gSum
  have e : Rt.items (.own (.lst ((cs.map D.int).map O.s))) = some (true, cs.map D.int) := by
    show (leaves ((cs.map D.int).map O.s)).map _ = _
    rw [leaves_map]; rfl
  show (match Rt.items (.own (.lst ((cs.map D.int).map O.s))) with
    | some (true, ds) => (intsOf ds).map fun (ns : List Int) => Rt.val (.int ns.sum)
    | _ => none) = _
  rw [e]
  show (intsOf (cs.map D.int)).map _ = _
  rw [ints_map]
  rfl
theorem p_pool (ns : List Int) (hn : ns.length ≤ 63) : ∃ s cs, f__law_pool [.s (.lst (ns.map D.int))] = .ok (pl s 0 cs) [.s (.lst (ns.map D.int))] := by
  have hz : ∀ hi, (cut ns none (some hi)).length ≤ 16777216 := fun hi => Nat.le_trans (cut_len _ _ _) (by omega)
  have hL : ∀ (items : List Int) (s : Int) (x : Option O), ∃ s' x', forL (setT [2]) e1__law_pool (items.map D.int) [some (.s (.lst (ns.map D.int))), some (.s (.int s)), x] = .ok .nx [some (.s (.lst (ns.map D.int))), some (.s (.int s')), x'] := by
    intro items s x
    obtain ⟨e', h1, h2, s', x', h3⟩ := for_inv (set := setT [2]) (g := e1__law_pool) (I := fun ds e => (∀ d ∈ ds, ∃ i : Int, d = .int i) ∧ ∃ (s : Int) (x : Option O), e = [some (.s (.lst (ns.map D.int))), some (.s (.int s)), x]) (fun d ds e ⟨h2, s, x, h3⟩ => by
      obtain ⟨i, rfl⟩ := h2 d (by simp)
      subst h3
      refine ⟨_, [some (.s (.lst (ns.map D.int))), some (.s (.int ((s * 48271 + i % 2147483629 + 11) % 2147483647))), some (.s (.int i))], rfl, ?_, fun d hd => h2 d (by simp [hd]), _, _, rfl⟩
      unfold e1__law_pool
      simp [-List.map_map, cMod, cDiv, cMul2]) (items.map D.int) [some (.s (.lst (ns.map D.int))), some (.s (.int s)), x] ⟨fun d hd => by
        obtain ⟨i, _, rfl⟩ := List.mem_map.mp hd
        exact ⟨i, rfl⟩, _, _, rfl⟩
    exact ⟨s', x', by rw [h1, h3]⟩
  have hC : ∀ (items : List Int) (s : Int) (x : Option O), ∃ (cs : List Int) (x' : Option O), lcL [2] (setT [2]) e2__law_pool e3__law_pool (items.map D.int) [some (.s (.lst (ns.map D.int))), some (.s (.int s)), x] = .ok (cs.map D.int) [some (.s (.lst (ns.map D.int))), some (.s (.int s)), x'] := by
    intro items
    induction items with
    | nil => exact fun s x => ⟨[], x, rfl⟩
    | cons i is ih =>
      intro s x
      obtain ⟨cs, x', h⟩ := ih s (some (.s (.int i)))
      have e0 : setT [2] (.int i) (wipeE [some (.s (.lst (ns.map D.int))), some (.s (.int s)), x] [2]) = some [some (.s (.lst (ns.map D.int))), some (.s (.int s)), some (.s (.int i))] := rfl
      by_cases h18 : (1000000000000000000 : Int) ≤ (if i < 0 then -i else i)
      · refine ⟨(if i < 0 then -i else i) :: cs, x', ?_⟩
        have e1 : e2__law_pool [some (.s (.lst (ns.map D.int))), some (.s (.int s)), some (.s (.int i))] = .ok true [some (.s (.lst (ns.map D.int))), some (.s (.int s)), some (.s (.int i))] := by
          unfold e2__law_pool
          simp [-List.map_map, cPow2, log10, h18]
        have e2 : e3__law_pool [some (.s (.lst (ns.map D.int))), some (.s (.int s)), some (.s (.int i))] = .ok (.val (.int (if i < 0 then -i else i))) [some (.s (.lst (ns.map D.int))), some (.s (.int s)), some (.s (.int i))] := by
          unfold e3__law_pool
          simp [-List.map_map]
        rw [List.map_cons, lc_cons, e0, ev_lcT, e1, ev_lcB, if_pos rfl, e2, ev_lcE, h, ev_lcG]
        rfl
      · refine ⟨cs, x', ?_⟩
        have e1 : e2__law_pool [some (.s (.lst (ns.map D.int))), some (.s (.int s)), some (.s (.int i))] = .ok false [some (.s (.lst (ns.map D.int))), some (.s (.int s)), some (.s (.int i))] := by
          unfold e2__law_pool
          simp [-List.map_map, cPow2, log10, h18]
        rw [List.map_cons, lc_cons, e0, ev_lcT, e1, ev_lcB, if_neg (by decide), h]
  have hm : ∀ (cs : List Int), (cs.map D.int).map O.s = cs.map fun i => O.s (.int i) := fun cs => List.map_map
  unfold f__law_pool b__law_pool pl
  obtain ⟨s1, x1, l1⟩ := hL (cut ns none (some 63)) ((cut ns none (some 1)).sum % 1000003 + (ns.length : Int) + 1) none
  obtain ⟨cs, x2, l2⟩ := hC (cut ns none (some 63)) s1 x1
  refine ⟨s1, cs, ?_⟩
  simp [-List.map_map, cMod, cDiv, cMul2, cut_map, hz, sum_own, l1, l2]
  unfold mLstD
  simp [-List.map_map, cMod, cDiv, cMul2, cut_map, hz, sum_own, l1, l2]
  rw [← hm cs]
  exact rfl
def LawTrue (f : List O → Rr) : Prop := ∀ ns : List Int, ns.length ≤ 63 → ∃ outs, f [.s (.lst (ns.map D.int))] = .ok (.s (.bl true)) outs
noncomputable def B2 : MS := (msSet 2 (mStl (mN gLst (mCons [] (mC .non) (mCons [] (mC (.int 0)) (mCons [] (mC (.bl true)) (mCons [] (mC (.str "a")) (mCons [] (mN gTup mNil) (mCons [] (mN gTup (mCons [] (mC (.str "arrow")) (mCons [] (mC (.int 3)) mNil))) (mCons [] (mStl (mN gLst (mCons [] (mC (.int 1)) mNil))) (mCons [] (mStl mDK0) (mCons [] (mStl (mCall [] 0 f__law_deep mNil)) (mCons [] (m1 gNeg (mC (.int 7))) (mCons [] (m2 (gIc cPow2 fun i j => .int (i ^ j.toNat)) [] (mC (.int 10)) (mC (.int 19))) mNil))))))))))))))
theorem b2_is (x0 x1 : Option O) : B2 [x0, x1, none, none, none, none, none, none] = .ok .nx [x0, x1, some (.s (.lst things)), none, none, none, none, none] := by kernel_rfl
theorem law_true : LawTrue f_law := by
  intro ns hn
  obtain ⟨s, cs, hp⟩ := p_pool ns hn
  obtain ⟨e', h5, a, b, c, d, e, x1, x2, x4, x5, x6, x7, rfl⟩ := p_five (some (.s (.lst (ns.map D.int)))) s cs
  obtain ⟨y9, e9, h9⟩ := retOf_is (p_rest (some (.s (.lst (ns.map D.int)))) x1 x2 x4 x5 x6 x7 a b c d e)
  have bd : f_law = runDef [] 7 (msSeq (msSet 1 (mCall [] 1 f__law_pool (mCons [] (mVar 0) mNil))) (msSeq B2 (msSeq (msSet 3 (mN gLst mNil)) (msSeq (msFor [4, 1, 5, 6, 7, 3] (setT [4]) (iRg1 (mCons [] (mC (.int 5)) mNil)) E1) restB)))) := rfl
  have hA : msSet 1 (mCall [] 1 f__law_pool (mCons [] (mVar 0) mNil)) [some (.s (.lst (ns.map D.int))), none, none, none, none, none, none, none] = .ok .nx [some (.s (.lst (ns.map D.int))), some (pl s 0 cs), none, none, none, none, none, none] := by
    simp [-List.map_map, hp]
    exact rfl
  have hD : ∀ y0 y1 y2, msSet 3 (mN gLst mNil) [y0, y1, y2, none, none, none, none, none] = .ok .nx [y0, y1, y2, some (.lst []), none, none, none, none] := fun y0 y1 y2 => rfl
  have hF : msFor [4, 1, 5, 6, 7, 3] (setT [4]) (iRg1 (mCons [] (mC (.int 5)) mNil)) E1 [some (.s (.lst (ns.map D.int))), some (pl s 0 cs), some (.s (.lst things)), some (.lst []), none, none, none, none] = .ok .nx [some (.s (.lst (ns.map D.int))), x1, x2, some (.lst [.s (.exn 0 [a]), .s (.exn 4 [b]), .s (.exn 1 [c]), .s (.exn 2 [d]), .s (.exn 3 [e])]), x4, x5, x6, x7] := by
    rw [ev_for]
    exact h5
  refine ⟨[.s (.lst (ns.map D.int))], ?_⟩
  rw [bd, ev_run, ev_seq]
  show runK [] _ (seqK _ (msSet 1 (mCall [] 1 f__law_pool (mCons [] (mVar 0) mNil)) [some (.s (.lst (ns.map D.int))), none, none, none, none, none, none, none])) = _
  rw [hA, ev_seq1, ev_seq, b2_is, ev_seq1, ev_seq, hD, ev_seq1, ev_seq, hF, ev_seq1, h9]
  exact rfl
end L3
namespace L3
open PySem L2
def clOf (l : List Addr) (n : Nat) : Addr := l.getD n 0
theorem spG_len0 {K : PySem.W.Frag} {cl : Nat → Addr} (n : Nat) : ∀ (vs : List V) (H : Hp) (Q : VK) (E : XK), spG K cl n (fun _ => .bad) vs H Q E → vs.length = n ∧ False := fun vs H Q E h => by
  have l := spG_len h
  obtain ⟨F, os, fp, _, _, _, _, _, w⟩ := h
  exact ⟨l, w⟩
theorem fn_bad {P : Program} {w : World} {K : PySem.W.Frag} {mg : Str → Option Value} {base : Heap} {k : Nat} {f : Addr} {fd : FuncData} {ps : List Str} {sp : Sp} (h : ∀ vs H Q E, sp vs H Q E → vs.length = ps.length ∧ False) : FnOk P w K mg base CX0 k f fd ps sp :=
  ⟨fun vs H Q E q => (h vs H Q E q).1, fun A outer s H args us vs Q E hr he hb hv hs => (h _ _ _ _ hs).2.elim⟩
def spLaw (K : PySem.W.Frag) : Sp := fun vs H Q _ => ∃ (a : Addr) (ns : List Int), vs = [.ref a] ∧ SqL K H a (ns.map V.int) ∧ ns.length ≤ 63 ∧ ∀ H', Q (.bl true) H'
theorem ints_rp {K : PySem.W.Frag} {cl : Nat → Addr} {F : Hp} (ns : List Int) : RpDs K cl F (ns.map D.int) (ns.map V.int) := by
  induction ns with
  | nil => rfl
  | cons n ns ih => exact ⟨_, _, rfl, rfl, ih⟩
theorem spLaw_of {K : PySem.W.Frag} {cl : Nat → Addr} {f : List O → Rr} (hlaw : LawTrue f) {vs : List V} {H : Hp} {Q : VK} {E : XK} (h : spLaw K vs H Q E) : spG K cl 1 f vs H Q E := by
  obtain ⟨a, ns, rfl, hS, hl, k⟩ := h
  obtain ⟨outs, e⟩ := hlaw ns hl
  refine ⟨H, [.s (.lst (ns.map D.int))], [], rfl, Ex.refl _, ⟨_, _, [], [], rfl, rfl, ⟨rfl, a, _, rfl, hS, ints_rp ns⟩, rfl, rfl⟩, List.nodup_nil, fun a ha => by simp at ha, ?_⟩
  rw [e]
  intro v F' H' fr fp' _ r _
  have : v = .bl true := r.2
  subst this
  exact k H'
def TabE : List DictEntry → List (Str × D) → Prop
  | [], [] => True
  | e :: es, (k, d) :: r => (∃ t, e.key = .str k t) ∧ (∃ v0, RelV v0 e.val ∧ ∀ (K : PySem.W.Frag) (cl : Nat → Addr) (F : Hp), RpD K cl F d v0) ∧ e.refKey = false ∧ TabE es r
  | _, _ => False
theorem tabE_find : ∀ {es : List DictEntry} {tab : List (Str × D)} (z : Str), TabE es tab → es.any (·.refKey) = false ∧ match lookT tab z with
    | none => es.find? (·.key.isStr z) = none
    | some dd => ∃ (e : DictEntry) (v0 : V), es.find? (·.key.isStr z) = some e ∧ RelV v0 e.val ∧ ∀ (K : PySem.W.Frag) (cl : Nat → Addr) (F : Hp), RpD K cl F dd v0
  | [], [], z, _ => ⟨rfl, rfl⟩
  | [], _ :: _, z, h => h.elim
  | _ :: _, [], z, h => h.elim
  | e :: es, (k, d) :: r, z, ⟨⟨t, hk⟩, ⟨v0, r0, q⟩, hr, h⟩ => by
    obtain ⟨i1, i2⟩ := tabE_find z h
    refine ⟨by rw [List.any_cons, hr, i1]; rfl, ?_⟩
    unfold lookT
    by_cases e1 : k = z
    · rw [if_pos e1]
      refine ⟨e, v0, ?_, r0, q⟩
      rw [List.find?_cons_of_pos]
      rw [hk]; show (k == z) = true; rw [e1]; exact beq_self_eq_true z
    · rw [if_neg e1]
      have e2 : e.key.isStr z = false := by rw [hk]; show (k == z) = false; exact beq_false_of_ne e1
      rw [List.find?_cons_of_neg (by rw [e2]; exact Bool.false_ne_true)]
      exact i2
theorem ktab_of {K : PySem.W.Frag} {cl : Nat → Addr} {d : Addr} {oc : Value} {od : Option Addr} {sl : Array (Option Value)} {es : Array DictEntry} {n : Nat} {tab : List (Str × D)} (l : K.lookup d = some ⟨oc, od, .dict es n, sl⟩) (h : TabE es.toList tab) : KTab K cl d tab := fun z => by
  obtain ⟨h1, h2⟩ := tabE_find z h
  unfold PySem.W.nsIn
  rw [l]
  dsimp only
  cases q : lookT tab z with
  | none =>
    rw [q] at h2
    have h2 : es.toList.find? (·.key.isStr z) = none := h2
    rw [h2, h1]
    exact ⟨none, rfl, rfl⟩
  | some dd =>
    rw [q] at h2
    obtain ⟨e, v0, f1, r0, k⟩ := h2
    rw [f1]
    exact ⟨_, rfl, _, v0, rfl, r0, fun F => k K cl F⟩

def Kits (K : PySem.W.Frag) (A : Addr) : List (Value × Bool) → Prop
  | [] => True
  | (u, b) :: r => PySem.W.kitOne K (.ref A) u = some b ∧ Kits K A r
theorem Kits.get {K : PySem.W.Frag} {A : Addr} : ∀ {l : List (Value × Bool)} {j : Nat} {u : Value} {b : Bool}, Kits K A l → l[j]? = some (u, b) → PySem.W.kitOne K (.ref A) u = some b
  | [], j, u, b, _, h => by simp at h
  | (u1, b1) :: r, 0, u, b, q, h => by
    simp at h
    obtain ⟨rfl, rfl⟩ := h
    exact q.1
  | (u1, b1) :: r, j + 1, u, b, q, h => Kits.get (l := r) q.2 (by simpa using h)
def kl (cl : Nat → Addr) (nx c : Nat) : List (Value × Bool) := ((List.range (nx + 1)).map fun n => (Value.ref (cl n), decide (c = n) || decide (n = nx))) ++ [(.type "ValueError", true)]
theorem exv_of {K : PySem.W.Frag} {cl : Nat → Addr} {nx : Nat} (x : ∀ c, c < nx → ExT K (cl c)) (o : ∀ c, c < nx → Kits K (cl c) (kl cl nx c)) : ExvT K cl nx :=
  ⟨x, fun c hc n hn => (o c hc).get (j := n) (by
    unfold kl
    rw [List.getElem?_append_left (by rw [List.length_map, List.length_range]; omega), List.getElem?_map, List.getElem?_range (by omega)]
    rfl), fun c hc => (o c hc).get (j := nx + 1) (by
    unfold kl
    rw [List.getElem?_append_right (by rw [List.length_map, List.length_range]; omega), List.length_map, List.length_range]
    simp)⟩
theorem all_mk {l : PySem.W.OpenLaw} {w : World} {K : PySem.W.Frag} {h : Heap} {mg : Str → Option Value} {fa : Addr} (hlaw : LawTrue f_law) (X : K.In h) (G : h.Ns mainGlobals mg) (hfa : mg "law" = some (.ref fa)) {C_BadChart : Addr} {C_BadText : Addr} {C_Tangled : Addr} {C_NoName : Addr} {C_BadBook : Addr} {C_NoEnd : Addr} {C_NoArrow : Addr} {C_NoPicture : Addr} {C_NoTable : Addr} {C_NoNumber : Addr} {C_NoDealing : Addr} {C_NoSketch : Addr} {C_NoRoutine : Addr} {C_NoPlace : Addr} {C_NoContents : Addr} {C_NotRunning : Addr} {C_NothingDone : Addr} {C_NoBreak : Addr} {C_NotOneRim : Addr} {C_NoPrice : Addr} {C_Full : Addr} {C_Apart : Addr} {C_NoLine : Addr} {C_NoRunner : Addr} {C_ChartError : Addr} {a__law_pool : Addr} {a__law_draw : Addr} {a__law_deep : Addr} {a__law_made : Addr} {a__law_plain_ones : Addr} {a__law_kinds : Addr} {a_law : Addr} {o1__law_pool v1__law_pool v2__law_pool v3__law_pool v4__law_pool v5__law_pool : Value} {o2__law_pool n__law_pool : Option Addr} {sl__law_pool : Array (Option Value)} {o1__law_draw v1__law_draw v2__law_draw v3__law_draw v4__law_draw v5__law_draw : Value} {o2__law_draw n__law_draw : Option Addr} {sl__law_draw : Array (Option Value)} {o1__law_deep v1__law_deep v2__law_deep v3__law_deep v4__law_deep v5__law_deep : Value} {o2__law_deep n__law_deep : Option Addr} {sl__law_deep : Array (Option Value)} {o1__law_made v1__law_made v2__law_made v3__law_made v4__law_made v5__law_made : Value} {o2__law_made n__law_made : Option Addr} {sl__law_made : Array (Option Value)} {o1__law_plain_ones v1__law_plain_ones v2__law_plain_ones v3__law_plain_ones v4__law_plain_ones v5__law_plain_ones : Value} {o2__law_plain_ones n__law_plain_ones : Option Addr} {sl__law_plain_ones : Array (Option Value)} {o1__law_kinds v1__law_kinds v2__law_kinds v3__law_kinds v4__law_kinds v5__law_kinds : Value} {o2__law_kinds n__law_kinds : Option Addr} {sl__law_kinds : Array (Option Value)} {o1_law v1_law v2_law v3_law v4_law v5_law : Value} {o2_law n_law : Option Addr} {sl_law : Array (Option Value)} {nm_BadBook q_BadBook : Str} {N_BadBook : Addr} {bs_BadBook bm_BadBook : List Value} {sn_BadBook : List Str} {sub_BadBook : List Value} {ab_BadBook : Bool} {col_BadBook : Option Bool} {dd_BadBook : Option Addr} {k0_BadBook k1_BadBook k2_BadBook k3_BadBook k5_BadBook : Option Value} {aI_BadBook : Addr} {oc_BadBook : Value} {od_BadBook : Option Addr} {doc_BadBook pm_BadBook cdv_BadBook ct_BadBook : Value} {an_BadBook : Option Addr} {osl_BadBook : Array (Option Value)} {p1_BadBook p2_BadBook q1_BadBook q2_BadBook q3_BadBook q4_BadBook : Pos} {nm_BadChart q_BadChart : Str} {N_BadChart : Addr} {bs_BadChart bm_BadChart : List Value} {sn_BadChart : List Str} {sub_BadChart : List Value} {ab_BadChart : Bool} {col_BadChart : Option Bool} {dd_BadChart : Option Addr} {k0_BadChart k1_BadChart k2_BadChart k3_BadChart k5_BadChart : Option Value} {aI_BadChart : Addr} {oc_BadChart : Value} {od_BadChart : Option Addr} {doc_BadChart pm_BadChart cdv_BadChart ct_BadChart : Value} {an_BadChart : Option Addr} {osl_BadChart : Array (Option Value)} {p1_BadChart p2_BadChart q1_BadChart q2_BadChart q3_BadChart q4_BadChart : Pos} {nm_BadText q_BadText : Str} {N_BadText : Addr} {bs_BadText bm_BadText : List Value} {sn_BadText : List Str} {sub_BadText : List Value} {ab_BadText : Bool} {col_BadText : Option Bool} {dd_BadText : Option Addr} {k0_BadText k1_BadText k2_BadText k3_BadText k5_BadText : Option Value} {aI_BadText : Addr} {oc_BadText : Value} {od_BadText : Option Addr} {doc_BadText pm_BadText cdv_BadText ct_BadText : Value} {an_BadText : Option Addr} {osl_BadText : Array (Option Value)} {p1_BadText p2_BadText q1_BadText q2_BadText q3_BadText q4_BadText : Pos} {nm_NoName q_NoName : Str} {N_NoName : Addr} {bs_NoName bm_NoName : List Value} {sn_NoName : List Str} {sub_NoName : List Value} {ab_NoName : Bool} {col_NoName : Option Bool} {dd_NoName : Option Addr} {k0_NoName k1_NoName k2_NoName k3_NoName k5_NoName : Option Value} {aI_NoName : Addr} {oc_NoName : Value} {od_NoName : Option Addr} {doc_NoName pm_NoName cdv_NoName ct_NoName : Value} {an_NoName : Option Addr} {osl_NoName : Array (Option Value)} {p1_NoName p2_NoName q1_NoName q2_NoName q3_NoName q4_NoName : Pos} {nm_Tangled q_Tangled : Str} {N_Tangled : Addr} {bs_Tangled bm_Tangled : List Value} {sn_Tangled : List Str} {sub_Tangled : List Value} {ab_Tangled : Bool} {col_Tangled : Option Bool} {dd_Tangled : Option Addr} {k0_Tangled k1_Tangled k2_Tangled k3_Tangled k5_Tangled : Option Value} {aI_Tangled : Addr} {oc_Tangled : Value} {od_Tangled : Option Addr} {doc_Tangled pm_Tangled cdv_Tangled ct_Tangled : Value} {an_Tangled : Option Addr} {osl_Tangled : Array (Option Value)} {p1_Tangled p2_Tangled q1_Tangled q2_Tangled q3_Tangled q4_Tangled : Pos} 
  (aC_BadChart : PySem.W.nsIn K mainGlobals "BadChart" = some (some (.ref C_BadChart)))
  (aC_BadText : PySem.W.nsIn K mainGlobals "BadText" = some (some (.ref C_BadText)))
  (aC_Tangled : PySem.W.nsIn K mainGlobals "Tangled" = some (some (.ref C_Tangled)))
  (aC_NoName : PySem.W.nsIn K mainGlobals "NoName" = some (some (.ref C_NoName)))
  (aC_BadBook : PySem.W.nsIn K mainGlobals "BadBook" = some (some (.ref C_BadBook)))
  (aC_NoEnd : PySem.W.nsIn K mainGlobals "NoEnd" = some (some (.ref C_NoEnd)))
  (aC_NoArrow : PySem.W.nsIn K mainGlobals "NoArrow" = some (some (.ref C_NoArrow)))
  (aC_NoPicture : PySem.W.nsIn K mainGlobals "NoPicture" = some (some (.ref C_NoPicture)))
  (aC_NoTable : PySem.W.nsIn K mainGlobals "NoTable" = some (some (.ref C_NoTable)))
  (aC_NoNumber : PySem.W.nsIn K mainGlobals "NoNumber" = some (some (.ref C_NoNumber)))
  (aC_NoDealing : PySem.W.nsIn K mainGlobals "NoDealing" = some (some (.ref C_NoDealing)))
  (aC_NoSketch : PySem.W.nsIn K mainGlobals "NoSketch" = some (some (.ref C_NoSketch)))
  (aC_NoRoutine : PySem.W.nsIn K mainGlobals "NoRoutine" = some (some (.ref C_NoRoutine)))
  (aC_NoPlace : PySem.W.nsIn K mainGlobals "NoPlace" = some (some (.ref C_NoPlace)))
  (aC_NoContents : PySem.W.nsIn K mainGlobals "NoContents" = some (some (.ref C_NoContents)))
  (aC_NotRunning : PySem.W.nsIn K mainGlobals "NotRunning" = some (some (.ref C_NotRunning)))
  (aC_NothingDone : PySem.W.nsIn K mainGlobals "NothingDone" = some (some (.ref C_NothingDone)))
  (aC_NoBreak : PySem.W.nsIn K mainGlobals "NoBreak" = some (some (.ref C_NoBreak)))
  (aC_NotOneRim : PySem.W.nsIn K mainGlobals "NotOneRim" = some (some (.ref C_NotOneRim)))
  (aC_NoPrice : PySem.W.nsIn K mainGlobals "NoPrice" = some (some (.ref C_NoPrice)))
  (aC_Full : PySem.W.nsIn K mainGlobals "Full" = some (some (.ref C_Full)))
  (aC_Apart : PySem.W.nsIn K mainGlobals "Apart" = some (some (.ref C_Apart)))
  (aC_NoLine : PySem.W.nsIn K mainGlobals "NoLine" = some (some (.ref C_NoLine)))
  (aC_NoRunner : PySem.W.nsIn K mainGlobals "NoRunner" = some (some (.ref C_NoRunner)))
  (aC_ChartError : PySem.W.nsIn K mainGlobals "ChartError" = some (some (.ref C_ChartError)))
  (g__law_pool : PySem.W.nsIn K mainGlobals "_law_pool" = some (some (.ref a__law_pool)))
  (l__law_pool : K.lookup a__law_pool = some ⟨o1__law_pool, o2__law_pool, .func (PySem.W.fnOf "_law_pool" "_law_pool" (defArgs s__law_pool) (defBody s__law_pool) (defScope s__law_pool) .none v1__law_pool v2__law_pool v3__law_pool n__law_pool v4__law_pool v5__law_pool), sl__law_pool⟩)
  (c__law_pool : PySem.W.codeIn K v4__law_pool "_law_pool" = true)
  (k__law_pool : PySem.W.keepIn K (.ref a__law_pool) = true)
  (g__law_draw : PySem.W.nsIn K mainGlobals "_law_draw" = some (some (.ref a__law_draw)))
  (l__law_draw : K.lookup a__law_draw = some ⟨o1__law_draw, o2__law_draw, .func (PySem.W.fnOf "_law_draw" "_law_draw" (defArgs s__law_draw) (defBody s__law_draw) (defScope s__law_draw) .none v1__law_draw v2__law_draw v3__law_draw n__law_draw v4__law_draw v5__law_draw), sl__law_draw⟩)
  (c__law_draw : PySem.W.codeIn K v4__law_draw "_law_draw" = true)
  (k__law_draw : PySem.W.keepIn K (.ref a__law_draw) = true)
  (g__law_deep : PySem.W.nsIn K mainGlobals "_law_deep" = some (some (.ref a__law_deep)))
  (l__law_deep : K.lookup a__law_deep = some ⟨o1__law_deep, o2__law_deep, .func (PySem.W.fnOf "_law_deep" "_law_deep" (defArgs s__law_deep) (defBody s__law_deep) (defScope s__law_deep) .none v1__law_deep v2__law_deep v3__law_deep n__law_deep v4__law_deep v5__law_deep), sl__law_deep⟩)
  (c__law_deep : PySem.W.codeIn K v4__law_deep "_law_deep" = true)
  (k__law_deep : PySem.W.keepIn K (.ref a__law_deep) = true)
  (g__law_made : PySem.W.nsIn K mainGlobals "_law_made" = some (some (.ref a__law_made)))
  (l__law_made : K.lookup a__law_made = some ⟨o1__law_made, o2__law_made, .func (PySem.W.fnOf "_law_made" "_law_made" (defArgs s__law_made) (defBody s__law_made) (defScope s__law_made) .none v1__law_made v2__law_made v3__law_made n__law_made v4__law_made v5__law_made), sl__law_made⟩)
  (c__law_made : PySem.W.codeIn K v4__law_made "_law_made" = true)
  (k__law_made : PySem.W.keepIn K (.ref a__law_made) = true)
  (g__law_plain_ones : PySem.W.nsIn K mainGlobals "_law_plain_ones" = some (some (.ref a__law_plain_ones)))
  (l__law_plain_ones : K.lookup a__law_plain_ones = some ⟨o1__law_plain_ones, o2__law_plain_ones, .func (PySem.W.fnOf "_law_plain_ones" "_law_plain_ones" (defArgs s__law_plain_ones) (defBody s__law_plain_ones) (defScope s__law_plain_ones) .none v1__law_plain_ones v2__law_plain_ones v3__law_plain_ones n__law_plain_ones v4__law_plain_ones v5__law_plain_ones), sl__law_plain_ones⟩)
  (c__law_plain_ones : PySem.W.codeIn K v4__law_plain_ones "_law_plain_ones" = true)
  (k__law_plain_ones : PySem.W.keepIn K (.ref a__law_plain_ones) = true)
  (g__law_kinds : PySem.W.nsIn K mainGlobals "_law_kinds" = some (some (.ref a__law_kinds)))
  (l__law_kinds : K.lookup a__law_kinds = some ⟨o1__law_kinds, o2__law_kinds, .func (PySem.W.fnOf "_law_kinds" "_law_kinds" (defArgs s__law_kinds) (defBody s__law_kinds) (defScope s__law_kinds) .none v1__law_kinds v2__law_kinds v3__law_kinds n__law_kinds v4__law_kinds v5__law_kinds), sl__law_kinds⟩)
  (c__law_kinds : PySem.W.codeIn K v4__law_kinds "_law_kinds" = true)
  (k__law_kinds : PySem.W.keepIn K (.ref a__law_kinds) = true)
  (g_law : PySem.W.nsIn K mainGlobals "law" = some (some (.ref a_law)))
  (l_law : K.lookup a_law = some ⟨o1_law, o2_law, .func (PySem.W.fnOf "law" "law" (defArgs s_law) (defBody s_law) (defScope s_law) .none v1_law v2_law v3_law n_law v4_law v5_law), sl_law⟩)
  (c_law : PySem.W.codeIn K v4_law "law" = true)
  (k_law : PySem.W.keepIn K (.ref a_law) = true)
  (lk_BadBook : K.lookup C_BadBook = some (excClassObj nm_BadBook q_BadBook C_BadBook N_BadBook bs_BadBook bm_BadBook true sn_BadBook sub_BadBook ab_BadBook col_BadBook dd_BadBook k0_BadBook k1_BadBook k2_BadBook k3_BadBook k5_BadBook "ValueError.__new__"))
  (rf_BadBook : PySem.HandSPX.refsVE bm_BadBook = true)
  (psa_BadBook : PySem.W.findIn K (.ref C_BadBook) "__setattr__" = some (some (.builtin "object.__setattr__")))
  (pga_BadBook : PySem.W.findIn K (.ref C_BadBook) "__getattribute__" = some (some (.builtin "BaseException.__getattribute__")))
  (pgg_BadBook : PySem.W.findIn K (.ref C_BadBook) "__getattr__" = some none)
  (pno_BadBook : PySem.W.findIn K (.ref C_BadBook) "part" = some none)
  (piC_BadBook : PySem.W.findIn K (.ref C_BadBook) "__init__" = some (some (.ref aI_BadBook)))
  (ptC_BadBook : PySem.W.typeIn K (.ref aI_BadBook) = some (.type "function"))
  (pkC_BadBook : PySem.W.keepIn K (.ref C_BadBook) = true)
  (pex_BadBook : PySem.W.subIn K (.ref C_BadBook) (.type "BaseException") = some true)
  (pty_BadBook : PySem.W.typeIn K (.ref C_BadBook) = some (.type "type"))
  (phd_BadBook : PySem.W.hasDictIn K C_BadBook = true)
  (pte_BadBook : PySem.W.exmOne K (.ref C_BadBook) (.ref C_BadBook) = some true)
  (lf_BadBook : K.lookup aI_BadBook = some ⟨oc_BadBook, od_BadBook, .func (PySem.W.fnOf "__init__" "BadBook.__init__" (PySem.PartX.iA p1_BadBook p2_BadBook) (PySem.PartX.iB q1_BadBook q2_BadBook q3_BadBook q4_BadBook) PySem.PartX.iS .none .none doc_BadBook pm_BadBook an_BadBook cdv_BadBook ct_BadBook), osl_BadBook⟩)
  (cf_BadBook : PySem.W.codeIn K cdv_BadBook "BadBook.__init__" = true)
  (lk_BadChart : K.lookup C_BadChart = some (excClassObj nm_BadChart q_BadChart C_BadChart N_BadChart bs_BadChart bm_BadChart true sn_BadChart sub_BadChart ab_BadChart col_BadChart dd_BadChart k0_BadChart k1_BadChart k2_BadChart k3_BadChart k5_BadChart "ValueError.__new__"))
  (rf_BadChart : PySem.HandSPX.refsVE bm_BadChart = true)
  (psa_BadChart : PySem.W.findIn K (.ref C_BadChart) "__setattr__" = some (some (.builtin "object.__setattr__")))
  (pga_BadChart : PySem.W.findIn K (.ref C_BadChart) "__getattribute__" = some (some (.builtin "BaseException.__getattribute__")))
  (pgg_BadChart : PySem.W.findIn K (.ref C_BadChart) "__getattr__" = some none)
  (pno_BadChart : PySem.W.findIn K (.ref C_BadChart) "part" = some none)
  (piC_BadChart : PySem.W.findIn K (.ref C_BadChart) "__init__" = some (some (.ref aI_BadChart)))
  (ptC_BadChart : PySem.W.typeIn K (.ref aI_BadChart) = some (.type "function"))
  (pkC_BadChart : PySem.W.keepIn K (.ref C_BadChart) = true)
  (pex_BadChart : PySem.W.subIn K (.ref C_BadChart) (.type "BaseException") = some true)
  (pty_BadChart : PySem.W.typeIn K (.ref C_BadChart) = some (.type "type"))
  (phd_BadChart : PySem.W.hasDictIn K C_BadChart = true)
  (pte_BadChart : PySem.W.exmOne K (.ref C_BadChart) (.ref C_BadChart) = some true)
  (lf_BadChart : K.lookup aI_BadChart = some ⟨oc_BadChart, od_BadChart, .func (PySem.W.fnOf "__init__" "BadChart.__init__" (PySem.PartX.iA p1_BadChart p2_BadChart) (PySem.PartX.iB q1_BadChart q2_BadChart q3_BadChart q4_BadChart) PySem.PartX.iS .none .none doc_BadChart pm_BadChart an_BadChart cdv_BadChart ct_BadChart), osl_BadChart⟩)
  (cf_BadChart : PySem.W.codeIn K cdv_BadChart "BadChart.__init__" = true)
  (lk_BadText : K.lookup C_BadText = some (excClassObj nm_BadText q_BadText C_BadText N_BadText bs_BadText bm_BadText true sn_BadText sub_BadText ab_BadText col_BadText dd_BadText k0_BadText k1_BadText k2_BadText k3_BadText k5_BadText "ValueError.__new__"))
  (rf_BadText : PySem.HandSPX.refsVE bm_BadText = true)
  (psa_BadText : PySem.W.findIn K (.ref C_BadText) "__setattr__" = some (some (.builtin "object.__setattr__")))
  (pga_BadText : PySem.W.findIn K (.ref C_BadText) "__getattribute__" = some (some (.builtin "BaseException.__getattribute__")))
  (pgg_BadText : PySem.W.findIn K (.ref C_BadText) "__getattr__" = some none)
  (pno_BadText : PySem.W.findIn K (.ref C_BadText) "line" = some none)
  (piC_BadText : PySem.W.findIn K (.ref C_BadText) "__init__" = some (some (.ref aI_BadText)))
  (ptC_BadText : PySem.W.typeIn K (.ref aI_BadText) = some (.type "function"))
  (pkC_BadText : PySem.W.keepIn K (.ref C_BadText) = true)
  (pex_BadText : PySem.W.subIn K (.ref C_BadText) (.type "BaseException") = some true)
  (pty_BadText : PySem.W.typeIn K (.ref C_BadText) = some (.type "type"))
  (phd_BadText : PySem.W.hasDictIn K C_BadText = true)
  (pte_BadText : PySem.W.exmOne K (.ref C_BadText) (.ref C_BadText) = some true)
  (lf_BadText : K.lookup aI_BadText = some ⟨oc_BadText, od_BadText, .func (PySem.W.fnOf "__init__" "BadText.__init__" (PySem.PartXline.iA p1_BadText p2_BadText) (PySem.PartXline.iB q1_BadText q2_BadText q3_BadText q4_BadText) PySem.PartXline.iS .none .none doc_BadText pm_BadText an_BadText cdv_BadText ct_BadText), osl_BadText⟩)
  (cf_BadText : PySem.W.codeIn K cdv_BadText "BadText.__init__" = true)
  (lk_NoName : K.lookup C_NoName = some (excClassObj nm_NoName q_NoName C_NoName N_NoName bs_NoName bm_NoName true sn_NoName sub_NoName ab_NoName col_NoName dd_NoName k0_NoName k1_NoName k2_NoName k3_NoName k5_NoName "ValueError.__new__"))
  (rf_NoName : PySem.HandSPX.refsVE bm_NoName = true)
  (psa_NoName : PySem.W.findIn K (.ref C_NoName) "__setattr__" = some (some (.builtin "object.__setattr__")))
  (pga_NoName : PySem.W.findIn K (.ref C_NoName) "__getattribute__" = some (some (.builtin "BaseException.__getattribute__")))
  (pgg_NoName : PySem.W.findIn K (.ref C_NoName) "__getattr__" = some none)
  (pno_NoName : PySem.W.findIn K (.ref C_NoName) "name" = some none)
  (piC_NoName : PySem.W.findIn K (.ref C_NoName) "__init__" = some (some (.ref aI_NoName)))
  (ptC_NoName : PySem.W.typeIn K (.ref aI_NoName) = some (.type "function"))
  (pkC_NoName : PySem.W.keepIn K (.ref C_NoName) = true)
  (pex_NoName : PySem.W.subIn K (.ref C_NoName) (.type "BaseException") = some true)
  (pty_NoName : PySem.W.typeIn K (.ref C_NoName) = some (.type "type"))
  (phd_NoName : PySem.W.hasDictIn K C_NoName = true)
  (pte_NoName : PySem.W.exmOne K (.ref C_NoName) (.ref C_NoName) = some true)
  (lf_NoName : K.lookup aI_NoName = some ⟨oc_NoName, od_NoName, .func (PySem.W.fnOf "__init__" "NoName.__init__" (PySem.PartXname.iA p1_NoName p2_NoName) (PySem.PartXname.iB q1_NoName q2_NoName q3_NoName q4_NoName) PySem.PartXname.iS .none .none doc_NoName pm_NoName an_NoName cdv_NoName ct_NoName), osl_NoName⟩)
  (cf_NoName : PySem.W.codeIn K cdv_NoName "NoName.__init__" = true)
  (lk_Tangled : K.lookup C_Tangled = some (excClassObj nm_Tangled q_Tangled C_Tangled N_Tangled bs_Tangled bm_Tangled true sn_Tangled sub_Tangled ab_Tangled col_Tangled dd_Tangled k0_Tangled k1_Tangled k2_Tangled k3_Tangled k5_Tangled "ValueError.__new__"))
  (rf_Tangled : PySem.HandSPX.refsVE bm_Tangled = true)
  (psa_Tangled : PySem.W.findIn K (.ref C_Tangled) "__setattr__" = some (some (.builtin "object.__setattr__")))
  (pga_Tangled : PySem.W.findIn K (.ref C_Tangled) "__getattribute__" = some (some (.builtin "BaseException.__getattribute__")))
  (pgg_Tangled : PySem.W.findIn K (.ref C_Tangled) "__getattr__" = some none)
  (pno_Tangled : PySem.W.findIn K (.ref C_Tangled) "place" = some none)
  (piC_Tangled : PySem.W.findIn K (.ref C_Tangled) "__init__" = some (some (.ref aI_Tangled)))
  (ptC_Tangled : PySem.W.typeIn K (.ref aI_Tangled) = some (.type "function"))
  (pkC_Tangled : PySem.W.keepIn K (.ref C_Tangled) = true)
  (pex_Tangled : PySem.W.subIn K (.ref C_Tangled) (.type "BaseException") = some true)
  (pty_Tangled : PySem.W.typeIn K (.ref C_Tangled) = some (.type "type"))
  (phd_Tangled : PySem.W.hasDictIn K C_Tangled = true)
  (pte_Tangled : PySem.W.exmOne K (.ref C_Tangled) (.ref C_Tangled) = some true)
  (lf_Tangled : K.lookup aI_Tangled = some ⟨oc_Tangled, od_Tangled, .func (PySem.W.fnOf "__init__" "Tangled.__init__" (PySem.PartXplace.iA p1_Tangled p2_Tangled) (PySem.PartXplace.iB q1_Tangled q2_Tangled q3_Tangled q4_Tangled) PySem.PartXplace.iS .none .none doc_Tangled pm_Tangled an_Tangled cdv_Tangled ct_Tangled), osl_Tangled⟩)
  (cf_Tangled : PySem.W.codeIn K cdv_Tangled "Tangled.__init__" = true)
  (oq_Apart : PySem.W.excIn K C_Apart [.type "ValueError", .type "Exception", .type "BaseException", .type "object"] "ValueError.__new__" = true)
  (okc_Apart : PySem.W.keepIn K (.ref C_Apart) = true)
  (oex_Apart : PySem.W.subIn K (.ref C_Apart) (.type "BaseException") = some true)
  (oty_Apart : PySem.W.typeIn K (.ref C_Apart) = some (.type "type"))
  (oq_Full : PySem.W.excIn K C_Full [.type "ValueError", .type "Exception", .type "BaseException", .type "object"] "ValueError.__new__" = true)
  (okc_Full : PySem.W.keepIn K (.ref C_Full) = true)
  (oex_Full : PySem.W.subIn K (.ref C_Full) (.type "BaseException") = some true)
  (oty_Full : PySem.W.typeIn K (.ref C_Full) = some (.type "type"))
  (oq_NoArrow : PySem.W.excIn K C_NoArrow [.type "ValueError", .type "Exception", .type "BaseException", .type "object"] "ValueError.__new__" = true)
  (okc_NoArrow : PySem.W.keepIn K (.ref C_NoArrow) = true)
  (oex_NoArrow : PySem.W.subIn K (.ref C_NoArrow) (.type "BaseException") = some true)
  (oty_NoArrow : PySem.W.typeIn K (.ref C_NoArrow) = some (.type "type"))
  (oq_NoBreak : PySem.W.excIn K C_NoBreak [.type "ValueError", .type "Exception", .type "BaseException", .type "object"] "ValueError.__new__" = true)
  (okc_NoBreak : PySem.W.keepIn K (.ref C_NoBreak) = true)
  (oex_NoBreak : PySem.W.subIn K (.ref C_NoBreak) (.type "BaseException") = some true)
  (oty_NoBreak : PySem.W.typeIn K (.ref C_NoBreak) = some (.type "type"))
  (oq_NoContents : PySem.W.excIn K C_NoContents [.type "ValueError", .type "Exception", .type "BaseException", .type "object"] "ValueError.__new__" = true)
  (okc_NoContents : PySem.W.keepIn K (.ref C_NoContents) = true)
  (oex_NoContents : PySem.W.subIn K (.ref C_NoContents) (.type "BaseException") = some true)
  (oty_NoContents : PySem.W.typeIn K (.ref C_NoContents) = some (.type "type"))
  (oq_NoDealing : PySem.W.excIn K C_NoDealing [.type "ValueError", .type "Exception", .type "BaseException", .type "object"] "ValueError.__new__" = true)
  (okc_NoDealing : PySem.W.keepIn K (.ref C_NoDealing) = true)
  (oex_NoDealing : PySem.W.subIn K (.ref C_NoDealing) (.type "BaseException") = some true)
  (oty_NoDealing : PySem.W.typeIn K (.ref C_NoDealing) = some (.type "type"))
  (oq_NoEnd : PySem.W.excIn K C_NoEnd [.type "ValueError", .type "Exception", .type "BaseException", .type "object"] "ValueError.__new__" = true)
  (okc_NoEnd : PySem.W.keepIn K (.ref C_NoEnd) = true)
  (oex_NoEnd : PySem.W.subIn K (.ref C_NoEnd) (.type "BaseException") = some true)
  (oty_NoEnd : PySem.W.typeIn K (.ref C_NoEnd) = some (.type "type"))
  (oq_NoLine : PySem.W.excIn K C_NoLine [.type "ValueError", .type "Exception", .type "BaseException", .type "object"] "ValueError.__new__" = true)
  (okc_NoLine : PySem.W.keepIn K (.ref C_NoLine) = true)
  (oex_NoLine : PySem.W.subIn K (.ref C_NoLine) (.type "BaseException") = some true)
  (oty_NoLine : PySem.W.typeIn K (.ref C_NoLine) = some (.type "type"))
  (oq_NoNumber : PySem.W.excIn K C_NoNumber [.type "ValueError", .type "Exception", .type "BaseException", .type "object"] "ValueError.__new__" = true)
  (okc_NoNumber : PySem.W.keepIn K (.ref C_NoNumber) = true)
  (oex_NoNumber : PySem.W.subIn K (.ref C_NoNumber) (.type "BaseException") = some true)
  (oty_NoNumber : PySem.W.typeIn K (.ref C_NoNumber) = some (.type "type"))
  (oq_NoPicture : PySem.W.excIn K C_NoPicture [.type "ValueError", .type "Exception", .type "BaseException", .type "object"] "ValueError.__new__" = true)
  (okc_NoPicture : PySem.W.keepIn K (.ref C_NoPicture) = true)
  (oex_NoPicture : PySem.W.subIn K (.ref C_NoPicture) (.type "BaseException") = some true)
  (oty_NoPicture : PySem.W.typeIn K (.ref C_NoPicture) = some (.type "type"))
  (oq_NoPlace : PySem.W.excIn K C_NoPlace [.type "ValueError", .type "Exception", .type "BaseException", .type "object"] "ValueError.__new__" = true)
  (okc_NoPlace : PySem.W.keepIn K (.ref C_NoPlace) = true)
  (oex_NoPlace : PySem.W.subIn K (.ref C_NoPlace) (.type "BaseException") = some true)
  (oty_NoPlace : PySem.W.typeIn K (.ref C_NoPlace) = some (.type "type"))
  (oq_NoPrice : PySem.W.excIn K C_NoPrice [.type "ValueError", .type "Exception", .type "BaseException", .type "object"] "ValueError.__new__" = true)
  (okc_NoPrice : PySem.W.keepIn K (.ref C_NoPrice) = true)
  (oex_NoPrice : PySem.W.subIn K (.ref C_NoPrice) (.type "BaseException") = some true)
  (oty_NoPrice : PySem.W.typeIn K (.ref C_NoPrice) = some (.type "type"))
  (oq_NoRoutine : PySem.W.excIn K C_NoRoutine [.type "ValueError", .type "Exception", .type "BaseException", .type "object"] "ValueError.__new__" = true)
  (okc_NoRoutine : PySem.W.keepIn K (.ref C_NoRoutine) = true)
  (oex_NoRoutine : PySem.W.subIn K (.ref C_NoRoutine) (.type "BaseException") = some true)
  (oty_NoRoutine : PySem.W.typeIn K (.ref C_NoRoutine) = some (.type "type"))
  (oq_NoRunner : PySem.W.excIn K C_NoRunner [.type "ValueError", .type "Exception", .type "BaseException", .type "object"] "ValueError.__new__" = true)
  (okc_NoRunner : PySem.W.keepIn K (.ref C_NoRunner) = true)
  (oex_NoRunner : PySem.W.subIn K (.ref C_NoRunner) (.type "BaseException") = some true)
  (oty_NoRunner : PySem.W.typeIn K (.ref C_NoRunner) = some (.type "type"))
  (oq_NoSketch : PySem.W.excIn K C_NoSketch [.type "ValueError", .type "Exception", .type "BaseException", .type "object"] "ValueError.__new__" = true)
  (okc_NoSketch : PySem.W.keepIn K (.ref C_NoSketch) = true)
  (oex_NoSketch : PySem.W.subIn K (.ref C_NoSketch) (.type "BaseException") = some true)
  (oty_NoSketch : PySem.W.typeIn K (.ref C_NoSketch) = some (.type "type"))
  (oq_NoTable : PySem.W.excIn K C_NoTable [.type "ValueError", .type "Exception", .type "BaseException", .type "object"] "ValueError.__new__" = true)
  (okc_NoTable : PySem.W.keepIn K (.ref C_NoTable) = true)
  (oex_NoTable : PySem.W.subIn K (.ref C_NoTable) (.type "BaseException") = some true)
  (oty_NoTable : PySem.W.typeIn K (.ref C_NoTable) = some (.type "type"))
  (oq_NotOneRim : PySem.W.excIn K C_NotOneRim [.type "ValueError", .type "Exception", .type "BaseException", .type "object"] "ValueError.__new__" = true)
  (okc_NotOneRim : PySem.W.keepIn K (.ref C_NotOneRim) = true)
  (oex_NotOneRim : PySem.W.subIn K (.ref C_NotOneRim) (.type "BaseException") = some true)
  (oty_NotOneRim : PySem.W.typeIn K (.ref C_NotOneRim) = some (.type "type"))
  (oq_NotRunning : PySem.W.excIn K C_NotRunning [.type "ValueError", .type "Exception", .type "BaseException", .type "object"] "ValueError.__new__" = true)
  (okc_NotRunning : PySem.W.keepIn K (.ref C_NotRunning) = true)
  (oex_NotRunning : PySem.W.subIn K (.ref C_NotRunning) (.type "BaseException") = some true)
  (oty_NotRunning : PySem.W.typeIn K (.ref C_NotRunning) = some (.type "type"))
  (oq_NothingDone : PySem.W.excIn K C_NothingDone [.type "ValueError", .type "Exception", .type "BaseException", .type "object"] "ValueError.__new__" = true)
  (okc_NothingDone : PySem.W.keepIn K (.ref C_NothingDone) = true)
  (oex_NothingDone : PySem.W.subIn K (.ref C_NothingDone) (.type "BaseException") = some true)
  (oty_NothingDone : PySem.W.typeIn K (.ref C_NothingDone) = some (.type "type"))
  (ext_BadChart : ExT K C_BadChart)
  (kit_BadChart : Kits K C_BadChart [(.ref C_BadChart, true), (.ref C_BadText, false), (.ref C_Tangled, false), (.ref C_NoName, false), (.ref C_BadBook, false), (.ref C_NoEnd, false), (.ref C_NoArrow, false), (.ref C_NoPicture, false), (.ref C_NoTable, false), (.ref C_NoNumber, false), (.ref C_NoDealing, false), (.ref C_NoSketch, false), (.ref C_NoRoutine, false), (.ref C_NoPlace, false), (.ref C_NoContents, false), (.ref C_NotRunning, false), (.ref C_NothingDone, false), (.ref C_NoBreak, false), (.ref C_NotOneRim, false), (.ref C_NoPrice, false), (.ref C_Full, false), (.ref C_Apart, false), (.ref C_NoLine, false), (.ref C_NoRunner, false), (.ref C_ChartError, true), (.type "ValueError", true)])
  (ext_BadText : ExT K C_BadText)
  (kit_BadText : Kits K C_BadText [(.ref C_BadChart, false), (.ref C_BadText, true), (.ref C_Tangled, false), (.ref C_NoName, false), (.ref C_BadBook, false), (.ref C_NoEnd, false), (.ref C_NoArrow, false), (.ref C_NoPicture, false), (.ref C_NoTable, false), (.ref C_NoNumber, false), (.ref C_NoDealing, false), (.ref C_NoSketch, false), (.ref C_NoRoutine, false), (.ref C_NoPlace, false), (.ref C_NoContents, false), (.ref C_NotRunning, false), (.ref C_NothingDone, false), (.ref C_NoBreak, false), (.ref C_NotOneRim, false), (.ref C_NoPrice, false), (.ref C_Full, false), (.ref C_Apart, false), (.ref C_NoLine, false), (.ref C_NoRunner, false), (.ref C_ChartError, true), (.type "ValueError", true)])
  (ext_Tangled : ExT K C_Tangled)
  (kit_Tangled : Kits K C_Tangled [(.ref C_BadChart, false), (.ref C_BadText, false), (.ref C_Tangled, true), (.ref C_NoName, false), (.ref C_BadBook, false), (.ref C_NoEnd, false), (.ref C_NoArrow, false), (.ref C_NoPicture, false), (.ref C_NoTable, false), (.ref C_NoNumber, false), (.ref C_NoDealing, false), (.ref C_NoSketch, false), (.ref C_NoRoutine, false), (.ref C_NoPlace, false), (.ref C_NoContents, false), (.ref C_NotRunning, false), (.ref C_NothingDone, false), (.ref C_NoBreak, false), (.ref C_NotOneRim, false), (.ref C_NoPrice, false), (.ref C_Full, false), (.ref C_Apart, false), (.ref C_NoLine, false), (.ref C_NoRunner, false), (.ref C_ChartError, true), (.type "ValueError", true)])
  (ext_NoName : ExT K C_NoName)
  (kit_NoName : Kits K C_NoName [(.ref C_BadChart, false), (.ref C_BadText, false), (.ref C_Tangled, false), (.ref C_NoName, true), (.ref C_BadBook, false), (.ref C_NoEnd, false), (.ref C_NoArrow, false), (.ref C_NoPicture, false), (.ref C_NoTable, false), (.ref C_NoNumber, false), (.ref C_NoDealing, false), (.ref C_NoSketch, false), (.ref C_NoRoutine, false), (.ref C_NoPlace, false), (.ref C_NoContents, false), (.ref C_NotRunning, false), (.ref C_NothingDone, false), (.ref C_NoBreak, false), (.ref C_NotOneRim, false), (.ref C_NoPrice, false), (.ref C_Full, false), (.ref C_Apart, false), (.ref C_NoLine, false), (.ref C_NoRunner, false), (.ref C_ChartError, true), (.type "ValueError", true)])
  (ext_BadBook : ExT K C_BadBook)
  (kit_BadBook : Kits K C_BadBook [(.ref C_BadChart, false), (.ref C_BadText, false), (.ref C_Tangled, false), (.ref C_NoName, false), (.ref C_BadBook, true), (.ref C_NoEnd, false), (.ref C_NoArrow, false), (.ref C_NoPicture, false), (.ref C_NoTable, false), (.ref C_NoNumber, false), (.ref C_NoDealing, false), (.ref C_NoSketch, false), (.ref C_NoRoutine, false), (.ref C_NoPlace, false), (.ref C_NoContents, false), (.ref C_NotRunning, false), (.ref C_NothingDone, false), (.ref C_NoBreak, false), (.ref C_NotOneRim, false), (.ref C_NoPrice, false), (.ref C_Full, false), (.ref C_Apart, false), (.ref C_NoLine, false), (.ref C_NoRunner, false), (.ref C_ChartError, true), (.type "ValueError", true)])
  (ext_NoEnd : ExT K C_NoEnd)
  (kit_NoEnd : Kits K C_NoEnd [(.ref C_BadChart, false), (.ref C_BadText, false), (.ref C_Tangled, false), (.ref C_NoName, false), (.ref C_BadBook, false), (.ref C_NoEnd, true), (.ref C_NoArrow, false), (.ref C_NoPicture, false), (.ref C_NoTable, false), (.ref C_NoNumber, false), (.ref C_NoDealing, false), (.ref C_NoSketch, false), (.ref C_NoRoutine, false), (.ref C_NoPlace, false), (.ref C_NoContents, false), (.ref C_NotRunning, false), (.ref C_NothingDone, false), (.ref C_NoBreak, false), (.ref C_NotOneRim, false), (.ref C_NoPrice, false), (.ref C_Full, false), (.ref C_Apart, false), (.ref C_NoLine, false), (.ref C_NoRunner, false), (.ref C_ChartError, true), (.type "ValueError", true)])
  (ext_NoArrow : ExT K C_NoArrow)
  (kit_NoArrow : Kits K C_NoArrow [(.ref C_BadChart, false), (.ref C_BadText, false), (.ref C_Tangled, false), (.ref C_NoName, false), (.ref C_BadBook, false), (.ref C_NoEnd, false), (.ref C_NoArrow, true), (.ref C_NoPicture, false), (.ref C_NoTable, false), (.ref C_NoNumber, false), (.ref C_NoDealing, false), (.ref C_NoSketch, false), (.ref C_NoRoutine, false), (.ref C_NoPlace, false), (.ref C_NoContents, false), (.ref C_NotRunning, false), (.ref C_NothingDone, false), (.ref C_NoBreak, false), (.ref C_NotOneRim, false), (.ref C_NoPrice, false), (.ref C_Full, false), (.ref C_Apart, false), (.ref C_NoLine, false), (.ref C_NoRunner, false), (.ref C_ChartError, true), (.type "ValueError", true)])
  (ext_NoPicture : ExT K C_NoPicture)
  (kit_NoPicture : Kits K C_NoPicture [(.ref C_BadChart, false), (.ref C_BadText, false), (.ref C_Tangled, false), (.ref C_NoName, false), (.ref C_BadBook, false), (.ref C_NoEnd, false), (.ref C_NoArrow, false), (.ref C_NoPicture, true), (.ref C_NoTable, false), (.ref C_NoNumber, false), (.ref C_NoDealing, false), (.ref C_NoSketch, false), (.ref C_NoRoutine, false), (.ref C_NoPlace, false), (.ref C_NoContents, false), (.ref C_NotRunning, false), (.ref C_NothingDone, false), (.ref C_NoBreak, false), (.ref C_NotOneRim, false), (.ref C_NoPrice, false), (.ref C_Full, false), (.ref C_Apart, false), (.ref C_NoLine, false), (.ref C_NoRunner, false), (.ref C_ChartError, true), (.type "ValueError", true)])
  (ext_NoTable : ExT K C_NoTable)
  (kit_NoTable : Kits K C_NoTable [(.ref C_BadChart, false), (.ref C_BadText, false), (.ref C_Tangled, false), (.ref C_NoName, false), (.ref C_BadBook, false), (.ref C_NoEnd, false), (.ref C_NoArrow, false), (.ref C_NoPicture, false), (.ref C_NoTable, true), (.ref C_NoNumber, false), (.ref C_NoDealing, false), (.ref C_NoSketch, false), (.ref C_NoRoutine, false), (.ref C_NoPlace, false), (.ref C_NoContents, false), (.ref C_NotRunning, false), (.ref C_NothingDone, false), (.ref C_NoBreak, false), (.ref C_NotOneRim, false), (.ref C_NoPrice, false), (.ref C_Full, false), (.ref C_Apart, false), (.ref C_NoLine, false), (.ref C_NoRunner, false), (.ref C_ChartError, true), (.type "ValueError", true)])
  (ext_NoNumber : ExT K C_NoNumber)
  (kit_NoNumber : Kits K C_NoNumber [(.ref C_BadChart, false), (.ref C_BadText, false), (.ref C_Tangled, false), (.ref C_NoName, false), (.ref C_BadBook, false), (.ref C_NoEnd, false), (.ref C_NoArrow, false), (.ref C_NoPicture, false), (.ref C_NoTable, false), (.ref C_NoNumber, true), (.ref C_NoDealing, false), (.ref C_NoSketch, false), (.ref C_NoRoutine, false), (.ref C_NoPlace, false), (.ref C_NoContents, false), (.ref C_NotRunning, false), (.ref C_NothingDone, false), (.ref C_NoBreak, false), (.ref C_NotOneRim, false), (.ref C_NoPrice, false), (.ref C_Full, false), (.ref C_Apart, false), (.ref C_NoLine, false), (.ref C_NoRunner, false), (.ref C_ChartError, true), (.type "ValueError", true)])
  (ext_NoDealing : ExT K C_NoDealing)
  (kit_NoDealing : Kits K C_NoDealing [(.ref C_BadChart, false), (.ref C_BadText, false), (.ref C_Tangled, false), (.ref C_NoName, false), (.ref C_BadBook, false), (.ref C_NoEnd, false), (.ref C_NoArrow, false), (.ref C_NoPicture, false), (.ref C_NoTable, false), (.ref C_NoNumber, false), (.ref C_NoDealing, true), (.ref C_NoSketch, false), (.ref C_NoRoutine, false), (.ref C_NoPlace, false), (.ref C_NoContents, false), (.ref C_NotRunning, false), (.ref C_NothingDone, false), (.ref C_NoBreak, false), (.ref C_NotOneRim, false), (.ref C_NoPrice, false), (.ref C_Full, false), (.ref C_Apart, false), (.ref C_NoLine, false), (.ref C_NoRunner, false), (.ref C_ChartError, true), (.type "ValueError", true)])
  (ext_NoSketch : ExT K C_NoSketch)
  (kit_NoSketch : Kits K C_NoSketch [(.ref C_BadChart, false), (.ref C_BadText, false), (.ref C_Tangled, false), (.ref C_NoName, false), (.ref C_BadBook, false), (.ref C_NoEnd, false), (.ref C_NoArrow, false), (.ref C_NoPicture, false), (.ref C_NoTable, false), (.ref C_NoNumber, false), (.ref C_NoDealing, false), (.ref C_NoSketch, true), (.ref C_NoRoutine, false), (.ref C_NoPlace, false), (.ref C_NoContents, false), (.ref C_NotRunning, false), (.ref C_NothingDone, false), (.ref C_NoBreak, false), (.ref C_NotOneRim, false), (.ref C_NoPrice, false), (.ref C_Full, false), (.ref C_Apart, false), (.ref C_NoLine, false), (.ref C_NoRunner, false), (.ref C_ChartError, true), (.type "ValueError", true)])
  (ext_NoRoutine : ExT K C_NoRoutine)
  (kit_NoRoutine : Kits K C_NoRoutine [(.ref C_BadChart, false), (.ref C_BadText, false), (.ref C_Tangled, false), (.ref C_NoName, false), (.ref C_BadBook, false), (.ref C_NoEnd, false), (.ref C_NoArrow, false), (.ref C_NoPicture, false), (.ref C_NoTable, false), (.ref C_NoNumber, false), (.ref C_NoDealing, false), (.ref C_NoSketch, false), (.ref C_NoRoutine, true), (.ref C_NoPlace, false), (.ref C_NoContents, false), (.ref C_NotRunning, false), (.ref C_NothingDone, false), (.ref C_NoBreak, false), (.ref C_NotOneRim, false), (.ref C_NoPrice, false), (.ref C_Full, false), (.ref C_Apart, false), (.ref C_NoLine, false), (.ref C_NoRunner, false), (.ref C_ChartError, true), (.type "ValueError", true)])
  (ext_NoPlace : ExT K C_NoPlace)
  (kit_NoPlace : Kits K C_NoPlace [(.ref C_BadChart, false), (.ref C_BadText, false), (.ref C_Tangled, false), (.ref C_NoName, false), (.ref C_BadBook, false), (.ref C_NoEnd, false), (.ref C_NoArrow, false), (.ref C_NoPicture, false), (.ref C_NoTable, false), (.ref C_NoNumber, false), (.ref C_NoDealing, false), (.ref C_NoSketch, false), (.ref C_NoRoutine, false), (.ref C_NoPlace, true), (.ref C_NoContents, false), (.ref C_NotRunning, false), (.ref C_NothingDone, false), (.ref C_NoBreak, false), (.ref C_NotOneRim, false), (.ref C_NoPrice, false), (.ref C_Full, false), (.ref C_Apart, false), (.ref C_NoLine, false), (.ref C_NoRunner, false), (.ref C_ChartError, true), (.type "ValueError", true)])
  (ext_NoContents : ExT K C_NoContents)
  (kit_NoContents : Kits K C_NoContents [(.ref C_BadChart, false), (.ref C_BadText, false), (.ref C_Tangled, false), (.ref C_NoName, false), (.ref C_BadBook, false), (.ref C_NoEnd, false), (.ref C_NoArrow, false), (.ref C_NoPicture, false), (.ref C_NoTable, false), (.ref C_NoNumber, false), (.ref C_NoDealing, false), (.ref C_NoSketch, false), (.ref C_NoRoutine, false), (.ref C_NoPlace, false), (.ref C_NoContents, true), (.ref C_NotRunning, false), (.ref C_NothingDone, false), (.ref C_NoBreak, false), (.ref C_NotOneRim, false), (.ref C_NoPrice, false), (.ref C_Full, false), (.ref C_Apart, false), (.ref C_NoLine, false), (.ref C_NoRunner, false), (.ref C_ChartError, true), (.type "ValueError", true)])
  (ext_NotRunning : ExT K C_NotRunning)
  (kit_NotRunning : Kits K C_NotRunning [(.ref C_BadChart, false), (.ref C_BadText, false), (.ref C_Tangled, false), (.ref C_NoName, false), (.ref C_BadBook, false), (.ref C_NoEnd, false), (.ref C_NoArrow, false), (.ref C_NoPicture, false), (.ref C_NoTable, false), (.ref C_NoNumber, false), (.ref C_NoDealing, false), (.ref C_NoSketch, false), (.ref C_NoRoutine, false), (.ref C_NoPlace, false), (.ref C_NoContents, false), (.ref C_NotRunning, true), (.ref C_NothingDone, false), (.ref C_NoBreak, false), (.ref C_NotOneRim, false), (.ref C_NoPrice, false), (.ref C_Full, false), (.ref C_Apart, false), (.ref C_NoLine, false), (.ref C_NoRunner, false), (.ref C_ChartError, true), (.type "ValueError", true)])
  (ext_NothingDone : ExT K C_NothingDone)
  (kit_NothingDone : Kits K C_NothingDone [(.ref C_BadChart, false), (.ref C_BadText, false), (.ref C_Tangled, false), (.ref C_NoName, false), (.ref C_BadBook, false), (.ref C_NoEnd, false), (.ref C_NoArrow, false), (.ref C_NoPicture, false), (.ref C_NoTable, false), (.ref C_NoNumber, false), (.ref C_NoDealing, false), (.ref C_NoSketch, false), (.ref C_NoRoutine, false), (.ref C_NoPlace, false), (.ref C_NoContents, false), (.ref C_NotRunning, false), (.ref C_NothingDone, true), (.ref C_NoBreak, false), (.ref C_NotOneRim, false), (.ref C_NoPrice, false), (.ref C_Full, false), (.ref C_Apart, false), (.ref C_NoLine, false), (.ref C_NoRunner, false), (.ref C_ChartError, true), (.type "ValueError", true)])
  (ext_NoBreak : ExT K C_NoBreak)
  (kit_NoBreak : Kits K C_NoBreak [(.ref C_BadChart, false), (.ref C_BadText, false), (.ref C_Tangled, false), (.ref C_NoName, false), (.ref C_BadBook, false), (.ref C_NoEnd, false), (.ref C_NoArrow, false), (.ref C_NoPicture, false), (.ref C_NoTable, false), (.ref C_NoNumber, false), (.ref C_NoDealing, false), (.ref C_NoSketch, false), (.ref C_NoRoutine, false), (.ref C_NoPlace, false), (.ref C_NoContents, false), (.ref C_NotRunning, false), (.ref C_NothingDone, false), (.ref C_NoBreak, true), (.ref C_NotOneRim, false), (.ref C_NoPrice, false), (.ref C_Full, false), (.ref C_Apart, false), (.ref C_NoLine, false), (.ref C_NoRunner, false), (.ref C_ChartError, true), (.type "ValueError", true)])
  (ext_NotOneRim : ExT K C_NotOneRim)
  (kit_NotOneRim : Kits K C_NotOneRim [(.ref C_BadChart, false), (.ref C_BadText, false), (.ref C_Tangled, false), (.ref C_NoName, false), (.ref C_BadBook, false), (.ref C_NoEnd, false), (.ref C_NoArrow, false), (.ref C_NoPicture, false), (.ref C_NoTable, false), (.ref C_NoNumber, false), (.ref C_NoDealing, false), (.ref C_NoSketch, false), (.ref C_NoRoutine, false), (.ref C_NoPlace, false), (.ref C_NoContents, false), (.ref C_NotRunning, false), (.ref C_NothingDone, false), (.ref C_NoBreak, false), (.ref C_NotOneRim, true), (.ref C_NoPrice, false), (.ref C_Full, false), (.ref C_Apart, false), (.ref C_NoLine, false), (.ref C_NoRunner, false), (.ref C_ChartError, true), (.type "ValueError", true)])
  (ext_NoPrice : ExT K C_NoPrice)
  (kit_NoPrice : Kits K C_NoPrice [(.ref C_BadChart, false), (.ref C_BadText, false), (.ref C_Tangled, false), (.ref C_NoName, false), (.ref C_BadBook, false), (.ref C_NoEnd, false), (.ref C_NoArrow, false), (.ref C_NoPicture, false), (.ref C_NoTable, false), (.ref C_NoNumber, false), (.ref C_NoDealing, false), (.ref C_NoSketch, false), (.ref C_NoRoutine, false), (.ref C_NoPlace, false), (.ref C_NoContents, false), (.ref C_NotRunning, false), (.ref C_NothingDone, false), (.ref C_NoBreak, false), (.ref C_NotOneRim, false), (.ref C_NoPrice, true), (.ref C_Full, false), (.ref C_Apart, false), (.ref C_NoLine, false), (.ref C_NoRunner, false), (.ref C_ChartError, true), (.type "ValueError", true)])
  (ext_Full : ExT K C_Full)
  (kit_Full : Kits K C_Full [(.ref C_BadChart, false), (.ref C_BadText, false), (.ref C_Tangled, false), (.ref C_NoName, false), (.ref C_BadBook, false), (.ref C_NoEnd, false), (.ref C_NoArrow, false), (.ref C_NoPicture, false), (.ref C_NoTable, false), (.ref C_NoNumber, false), (.ref C_NoDealing, false), (.ref C_NoSketch, false), (.ref C_NoRoutine, false), (.ref C_NoPlace, false), (.ref C_NoContents, false), (.ref C_NotRunning, false), (.ref C_NothingDone, false), (.ref C_NoBreak, false), (.ref C_NotOneRim, false), (.ref C_NoPrice, false), (.ref C_Full, true), (.ref C_Apart, false), (.ref C_NoLine, false), (.ref C_NoRunner, false), (.ref C_ChartError, true), (.type "ValueError", true)])
  (ext_Apart : ExT K C_Apart)
  (kit_Apart : Kits K C_Apart [(.ref C_BadChart, false), (.ref C_BadText, false), (.ref C_Tangled, false), (.ref C_NoName, false), (.ref C_BadBook, false), (.ref C_NoEnd, false), (.ref C_NoArrow, false), (.ref C_NoPicture, false), (.ref C_NoTable, false), (.ref C_NoNumber, false), (.ref C_NoDealing, false), (.ref C_NoSketch, false), (.ref C_NoRoutine, false), (.ref C_NoPlace, false), (.ref C_NoContents, false), (.ref C_NotRunning, false), (.ref C_NothingDone, false), (.ref C_NoBreak, false), (.ref C_NotOneRim, false), (.ref C_NoPrice, false), (.ref C_Full, false), (.ref C_Apart, true), (.ref C_NoLine, false), (.ref C_NoRunner, false), (.ref C_ChartError, true), (.type "ValueError", true)])
  (ext_NoLine : ExT K C_NoLine)
  (kit_NoLine : Kits K C_NoLine [(.ref C_BadChart, false), (.ref C_BadText, false), (.ref C_Tangled, false), (.ref C_NoName, false), (.ref C_BadBook, false), (.ref C_NoEnd, false), (.ref C_NoArrow, false), (.ref C_NoPicture, false), (.ref C_NoTable, false), (.ref C_NoNumber, false), (.ref C_NoDealing, false), (.ref C_NoSketch, false), (.ref C_NoRoutine, false), (.ref C_NoPlace, false), (.ref C_NoContents, false), (.ref C_NotRunning, false), (.ref C_NothingDone, false), (.ref C_NoBreak, false), (.ref C_NotOneRim, false), (.ref C_NoPrice, false), (.ref C_Full, false), (.ref C_Apart, false), (.ref C_NoLine, true), (.ref C_NoRunner, false), (.ref C_ChartError, true), (.type "ValueError", true)])
  (ext_NoRunner : ExT K C_NoRunner)
  (kit_NoRunner : Kits K C_NoRunner [(.ref C_BadChart, false), (.ref C_BadText, false), (.ref C_Tangled, false), (.ref C_NoName, false), (.ref C_BadBook, false), (.ref C_NoEnd, false), (.ref C_NoArrow, false), (.ref C_NoPicture, false), (.ref C_NoTable, false), (.ref C_NoNumber, false), (.ref C_NoDealing, false), (.ref C_NoSketch, false), (.ref C_NoRoutine, false), (.ref C_NoPlace, false), (.ref C_NoContents, false), (.ref C_NotRunning, false), (.ref C_NothingDone, false), (.ref C_NoBreak, false), (.ref C_NotOneRim, false), (.ref C_NoPrice, false), (.ref C_Full, false), (.ref C_Apart, false), (.ref C_NoLine, false), (.ref C_NoRunner, true), (.ref C_ChartError, true), (.type "ValueError", true)])
  (z_ValueError : PySem.W.nsIn K mainGlobals "ValueError" = some none)
  (z_abs : PySem.W.nsIn K mainGlobals "abs" = some none)
  (z_int : PySem.W.nsIn K mainGlobals "int" = some none)
  (z_isinstance : PySem.W.nsIn K mainGlobals "isinstance" = some none)
  (z_len : PySem.W.nsIn K mainGlobals "len" = some none)
  (z_range : PySem.W.nsIn K mainGlobals "range" = some none)
  (z_repr : PySem.W.nsIn K mainGlobals "repr" = some none)
  (z_set : PySem.W.nsIn K mainGlobals "set" = some none)
  (z_sum : PySem.W.nsIn K mainGlobals "sum" = some none)
  : ∀ (z : Shared) (base : Heap) (M : Hp) (a : Addr) (ns : List Int), ns.length ≤ 63 → K.In base → base.Ns mainGlobals mg → SqL K M a (ns.map V.int) → Env0 l.prog w K mg base callerA [] z M → codeAny (model l.prog w) callerA (.call (.ref fa) ⟨[.ref a], []⟩) (CR CX0 [] l.prog w M z (fun v _ => v = .bl true) (fun _ _ _ => False)) z := by
  have e := hfa.symm.trans (PySem.W.mg_of X G g_law)
  cases e
  have T : Txt w K mg (clOf [C_BadChart, C_BadText, C_Tangled, C_NoName, C_BadBook, C_NoEnd, C_NoArrow, C_NoPicture, C_NoTable, C_NoNumber, C_NoDealing, C_NoSketch, C_NoRoutine, C_NoPlace, C_NoContents, C_NotRunning, C_NothingDone, C_NoBreak, C_NotOneRim, C_NoPrice, C_Full, C_Apart, C_NoLine, C_NoRunner, C_ChartError]) aI_BadBook aI_BadChart aI_BadText aI_NoName aI_Tangled := ⟨PySem.W.mg_of X G aC_Apart, PySem.W.mg_of X G aC_BadBook, PySem.W.mg_of X G aC_BadChart, PySem.W.mg_of X G aC_BadText, PySem.W.mg_of X G aC_ChartError, PySem.W.mg_of X G aC_Full, PySem.W.mg_of X G aC_NoArrow, PySem.W.mg_of X G aC_NoBreak, PySem.W.mg_of X G aC_NoContents, PySem.W.mg_of X G aC_NoDealing, PySem.W.mg_of X G aC_NoEnd, PySem.W.mg_of X G aC_NoLine, PySem.W.mg_of X G aC_NoName, PySem.W.mg_of X G aC_NoNumber, PySem.W.mg_of X G aC_NoPicture, PySem.W.mg_of X G aC_NoPlace, PySem.W.mg_of X G aC_NoPrice, PySem.W.mg_of X G aC_NoRoutine, PySem.W.mg_of X G aC_NoRunner, PySem.W.mg_of X G aC_NoSketch, PySem.W.mg_of X G aC_NoTable, PySem.W.mg_of X G aC_NotOneRim, PySem.W.mg_of X G aC_NotRunning, PySem.W.mg_of X G aC_NothingDone, PySem.W.mg_of X G aC_Tangled, ⟨PySem.W.mg_of X G aC_BadBook, ⟨_, _, _, _, _, _, _, _, _, _, _, _, _, _, _, lk_BadBook, rf_BadBook⟩, psa_BadBook, pga_BadBook, pgg_BadBook, pno_BadBook, piC_BadBook, ptC_BadBook, pkC_BadBook, pex_BadBook, pty_BadBook, phd_BadBook, pte_BadBook, ⟨_, _, _, _, _, _, _, _, _, _, _, _, _, _, lf_BadBook, cf_BadBook⟩⟩, ⟨PySem.W.mg_of X G aC_BadChart, ⟨_, _, _, _, _, _, _, _, _, _, _, _, _, _, _, lk_BadChart, rf_BadChart⟩, psa_BadChart, pga_BadChart, pgg_BadChart, pno_BadChart, piC_BadChart, ptC_BadChart, pkC_BadChart, pex_BadChart, pty_BadChart, phd_BadChart, pte_BadChart, ⟨_, _, _, _, _, _, _, _, _, _, _, _, _, _, lf_BadChart, cf_BadChart⟩⟩, ⟨PySem.W.mg_of X G aC_BadText, ⟨_, _, _, _, _, _, _, _, _, _, _, _, _, _, _, lk_BadText, rf_BadText⟩, psa_BadText, pga_BadText, pgg_BadText, pno_BadText, piC_BadText, ptC_BadText, pkC_BadText, pex_BadText, pty_BadText, phd_BadText, pte_BadText, ⟨_, _, _, _, _, _, _, _, _, _, _, _, _, _, lf_BadText, cf_BadText⟩⟩, ⟨PySem.W.mg_of X G aC_NoName, ⟨_, _, _, _, _, _, _, _, _, _, _, _, _, _, _, lk_NoName, rf_NoName⟩, psa_NoName, pga_NoName, pgg_NoName, pno_NoName, piC_NoName, ptC_NoName, pkC_NoName, pex_NoName, pty_NoName, phd_NoName, pte_NoName, ⟨_, _, _, _, _, _, _, _, _, _, _, _, _, _, lf_NoName, cf_NoName⟩⟩, ⟨PySem.W.mg_of X G aC_Tangled, ⟨_, _, _, _, _, _, _, _, _, _, _, _, _, _, _, lk_Tangled, rf_Tangled⟩, psa_Tangled, pga_Tangled, pgg_Tangled, pno_Tangled, piC_Tangled, ptC_Tangled, pkC_Tangled, pex_Tangled, pty_Tangled, phd_Tangled, pte_Tangled, ⟨_, _, _, _, _, _, _, _, _, _, _, _, _, _, lf_Tangled, cf_Tangled⟩⟩, ⟨PySem.W.mg_of X G aC_Apart, oq_Apart, okc_Apart, oex_Apart, oty_Apart⟩, ⟨PySem.W.mg_of X G aC_Full, oq_Full, okc_Full, oex_Full, oty_Full⟩, ⟨PySem.W.mg_of X G aC_NoArrow, oq_NoArrow, okc_NoArrow, oex_NoArrow, oty_NoArrow⟩, ⟨PySem.W.mg_of X G aC_NoBreak, oq_NoBreak, okc_NoBreak, oex_NoBreak, oty_NoBreak⟩, ⟨PySem.W.mg_of X G aC_NoContents, oq_NoContents, okc_NoContents, oex_NoContents, oty_NoContents⟩, ⟨PySem.W.mg_of X G aC_NoDealing, oq_NoDealing, okc_NoDealing, oex_NoDealing, oty_NoDealing⟩, ⟨PySem.W.mg_of X G aC_NoEnd, oq_NoEnd, okc_NoEnd, oex_NoEnd, oty_NoEnd⟩, ⟨PySem.W.mg_of X G aC_NoLine, oq_NoLine, okc_NoLine, oex_NoLine, oty_NoLine⟩, ⟨PySem.W.mg_of X G aC_NoNumber, oq_NoNumber, okc_NoNumber, oex_NoNumber, oty_NoNumber⟩, ⟨PySem.W.mg_of X G aC_NoPicture, oq_NoPicture, okc_NoPicture, oex_NoPicture, oty_NoPicture⟩, ⟨PySem.W.mg_of X G aC_NoPlace, oq_NoPlace, okc_NoPlace, oex_NoPlace, oty_NoPlace⟩, ⟨PySem.W.mg_of X G aC_NoPrice, oq_NoPrice, okc_NoPrice, oex_NoPrice, oty_NoPrice⟩, ⟨PySem.W.mg_of X G aC_NoRoutine, oq_NoRoutine, okc_NoRoutine, oex_NoRoutine, oty_NoRoutine⟩, ⟨PySem.W.mg_of X G aC_NoRunner, oq_NoRunner, okc_NoRunner, oex_NoRunner, oty_NoRunner⟩, ⟨PySem.W.mg_of X G aC_NoSketch, oq_NoSketch, okc_NoSketch, oex_NoSketch, oty_NoSketch⟩, ⟨PySem.W.mg_of X G aC_NoTable, oq_NoTable, okc_NoTable, oex_NoTable, oty_NoTable⟩, ⟨PySem.W.mg_of X G aC_NotOneRim, oq_NotOneRim, okc_NotOneRim, oex_NotOneRim, oty_NotOneRim⟩, ⟨PySem.W.mg_of X G aC_NotRunning, oq_NotRunning, okc_NotRunning, oex_NotRunning, oty_NotRunning⟩, ⟨PySem.W.mg_of X G aC_NothingDone, oq_NothingDone, okc_NothingDone, oex_NothingDone, oty_NothingDone⟩, exv_of (fun c hc => match c, hc with | 0, _ => ext_BadChart | 1, _ => ext_BadText | 2, _ => ext_Tangled | 3, _ => ext_NoName | 4, _ => ext_BadBook | 5, _ => ext_NoEnd | 6, _ => ext_NoArrow | 7, _ => ext_NoPicture | 8, _ => ext_NoTable | 9, _ => ext_NoNumber | 10, _ => ext_NoDealing | 11, _ => ext_NoSketch | 12, _ => ext_NoRoutine | 13, _ => ext_NoPlace | 14, _ => ext_NoContents | 15, _ => ext_NotRunning | 16, _ => ext_NothingDone | 17, _ => ext_NoBreak | 18, _ => ext_NotOneRim | 19, _ => ext_NoPrice | 20, _ => ext_Full | 21, _ => ext_Apart | 22, _ => ext_NoLine | 23, _ => ext_NoRunner | n + 24, hc => absurd hc (by omega)) (fun c hc => match c, hc with | 0, _ => kit_BadChart | 1, _ => kit_BadText | 2, _ => kit_Tangled | 3, _ => kit_NoName | 4, _ => kit_BadBook | 5, _ => kit_NoEnd | 6, _ => kit_NoArrow | 7, _ => kit_NoPicture | 8, _ => kit_NoTable | 9, _ => kit_NoNumber | 10, _ => kit_NoDealing | 11, _ => kit_NoSketch | 12, _ => kit_NoRoutine | 13, _ => kit_NoPlace | 14, _ => kit_NoContents | 15, _ => kit_NotRunning | 16, _ => kit_NothingDone | 17, _ => kit_NoBreak | 18, _ => kit_NotOneRim | 19, _ => kit_NoPrice | 20, _ => kit_Full | 21, _ => kit_Apart | 22, _ => kit_NoLine | 23, _ => kit_NoRunner | n + 24, hc => absurd hc (by omega)), PySem.W.mg_none_of X G z_ValueError, PySem.W.mg_none_of X G z_abs, PySem.W.mg_none_of X G z_int, PySem.W.mg_none_of X G z_isinstance, PySem.W.mg_none_of X G z_len, PySem.W.mg_none_of X G z_range, PySem.W.mg_none_of X G z_repr, PySem.W.mg_none_of X G z_set, PySem.W.mg_none_of X G z_sum⟩
  obtain ⟨d__law_pool, F__law_pool, b__law_pool⟩ : ∃ fd, Fun K "_law_pool" "_law_pool" s__law_pool a__law_pool fd ∧ Binds K fd ["script"] [] := ⟨_, fun_mk (st := s__law_pool) l__law_pool c__law_pool k__law_pool, (fun_mk (st := s__law_pool) l__law_pool c__law_pool k__law_pool).binds (ps := ["script"]) fun _ _ _ _ _ _ us hl => match us, hl with | [_], _ => rfl⟩
  obtain ⟨d__law_draw, F__law_draw, b__law_draw⟩ : ∃ fd, Fun K "_law_draw" "_law_draw" s__law_draw a__law_draw fd ∧ Binds K fd ["pool", "many"] [] := ⟨_, fun_mk (st := s__law_draw) l__law_draw c__law_draw k__law_draw, (fun_mk (st := s__law_draw) l__law_draw c__law_draw k__law_draw).binds (ps := ["pool", "many"]) fun _ _ _ _ _ _ us hl => match us, hl with | [_, _], _ => rfl⟩
  obtain ⟨d__law_deep, F__law_deep, b__law_deep⟩ : ∃ fd, Fun K "_law_deep" "_law_deep" s__law_deep a__law_deep fd ∧ Binds K fd [] [] := ⟨_, fun_mk (st := s__law_deep) l__law_deep c__law_deep k__law_deep, (fun_mk (st := s__law_deep) l__law_deep c__law_deep k__law_deep).binds (ps := []) fun _ _ _ _ _ _ us hl => match us, hl with | [], _ => rfl⟩
  obtain ⟨d__law_made, F__law_made, b__law_made⟩ : ∃ fd, Fun K "_law_made" "_law_made" s__law_made a__law_made fd ∧ Binds K fd ["which", "thing"] [] := ⟨_, fun_mk (st := s__law_made) l__law_made c__law_made k__law_made, (fun_mk (st := s__law_made) l__law_made c__law_made k__law_made).binds (ps := ["which", "thing"]) fun _ _ _ _ _ _ us hl => match us, hl with | [_, _], _ => rfl⟩
  obtain ⟨d__law_plain_ones, F__law_plain_ones, b__law_plain_ones⟩ : ∃ fd, Fun K "_law_plain_ones" "_law_plain_ones" s__law_plain_ones a__law_plain_ones fd ∧ Binds K fd [] [] := ⟨_, fun_mk (st := s__law_plain_ones) l__law_plain_ones c__law_plain_ones k__law_plain_ones, (fun_mk (st := s__law_plain_ones) l__law_plain_ones c__law_plain_ones k__law_plain_ones).binds (ps := []) fun _ _ _ _ _ _ us hl => match us, hl with | [], _ => rfl⟩
  obtain ⟨d__law_kinds, F__law_kinds, b__law_kinds⟩ : ∃ fd, Fun K "_law_kinds" "_law_kinds" s__law_kinds a__law_kinds fd ∧ Binds K fd ["error"] [] := ⟨_, fun_mk (st := s__law_kinds) l__law_kinds c__law_kinds k__law_kinds, (fun_mk (st := s__law_kinds) l__law_kinds c__law_kinds k__law_kinds).binds (ps := ["error"]) fun _ _ _ _ _ _ us hl => match us, hl with | [_], _ => rfl⟩
  have F_law := fun_mk (st := s_law) l_law c_law k_law
  have b_law := F_law.binds (ps := ["script"]) fun _ _ _ _ _ _ us hl => match us, hl with | [_], _ => rfl
  intro z base M a ns hlen KB GB hS ev
  have h__law_pool : CalF l.prog w K mg base 1 "_law_pool" ["script"] (spG K (clOf [C_BadChart, C_BadText, C_Tangled, C_NoName, C_BadBook, C_NoEnd, C_NoArrow, C_NoPicture, C_NoTable, C_NoNumber, C_NoDealing, C_NoSketch, C_NoRoutine, C_NoPlace, C_NoContents, C_NotRunning, C_NothingDone, C_NoBreak, C_NotOneRim, C_NoPrice, C_Full, C_Apart, C_NoLine, C_NoRunner, C_ChartError]) 1 f__law_pool) a__law_pool d__law_pool := ⟨ok__law_pool (k := 0) T  F__law_pool, b__law_pool, PySem.W.mg_of X G g__law_pool, k__law_pool⟩
  have h__law_draw : CalF l.prog w K mg base 1 "_law_draw" ["pool", "many"] (spG K (clOf [C_BadChart, C_BadText, C_Tangled, C_NoName, C_BadBook, C_NoEnd, C_NoArrow, C_NoPicture, C_NoTable, C_NoNumber, C_NoDealing, C_NoSketch, C_NoRoutine, C_NoPlace, C_NoContents, C_NotRunning, C_NothingDone, C_NoBreak, C_NotOneRim, C_NoPrice, C_Full, C_Apart, C_NoLine, C_NoRunner, C_ChartError]) 2 f__law_draw) a__law_draw d__law_draw := ⟨ok__law_draw (k := 0) T  F__law_draw, b__law_draw, PySem.W.mg_of X G g__law_draw, k__law_draw⟩
  have h__law_deep : CalF l.prog w K mg base 1 "_law_deep" [] (spG K (clOf [C_BadChart, C_BadText, C_Tangled, C_NoName, C_BadBook, C_NoEnd, C_NoArrow, C_NoPicture, C_NoTable, C_NoNumber, C_NoDealing, C_NoSketch, C_NoRoutine, C_NoPlace, C_NoContents, C_NotRunning, C_NothingDone, C_NoBreak, C_NotOneRim, C_NoPrice, C_Full, C_Apart, C_NoLine, C_NoRunner, C_ChartError]) 0 f__law_deep) a__law_deep d__law_deep := ⟨ok__law_deep (k := 0) T  F__law_deep, b__law_deep, PySem.W.mg_of X G g__law_deep, k__law_deep⟩
  have h__law_made : CalF l.prog w K mg base 1 "_law_made" ["which", "thing"] (spG K (clOf [C_BadChart, C_BadText, C_Tangled, C_NoName, C_BadBook, C_NoEnd, C_NoArrow, C_NoPicture, C_NoTable, C_NoNumber, C_NoDealing, C_NoSketch, C_NoRoutine, C_NoPlace, C_NoContents, C_NotRunning, C_NothingDone, C_NoBreak, C_NotOneRim, C_NoPrice, C_Full, C_Apart, C_NoLine, C_NoRunner, C_ChartError]) 2 f__law_made) a__law_made d__law_made := ⟨ok__law_made (k := 0) T  F__law_made, b__law_made, PySem.W.mg_of X G g__law_made, k__law_made⟩
  have h__law_plain_ones : CalF l.prog w K mg base 1 "_law_plain_ones" [] (spG K (clOf [C_BadChart, C_BadText, C_Tangled, C_NoName, C_BadBook, C_NoEnd, C_NoArrow, C_NoPicture, C_NoTable, C_NoNumber, C_NoDealing, C_NoSketch, C_NoRoutine, C_NoPlace, C_NoContents, C_NotRunning, C_NothingDone, C_NoBreak, C_NotOneRim, C_NoPrice, C_Full, C_Apart, C_NoLine, C_NoRunner, C_ChartError]) 0 f__law_plain_ones) a__law_plain_ones d__law_plain_ones := ⟨ok__law_plain_ones (k := 0) T  F__law_plain_ones, b__law_plain_ones, PySem.W.mg_of X G g__law_plain_ones, k__law_plain_ones⟩
  have h__law_kinds : CalF l.prog w K mg base 1 "_law_kinds" ["error"] (spG K (clOf [C_BadChart, C_BadText, C_Tangled, C_NoName, C_BadBook, C_NoEnd, C_NoArrow, C_NoPicture, C_NoTable, C_NoNumber, C_NoDealing, C_NoSketch, C_NoRoutine, C_NoPlace, C_NoContents, C_NotRunning, C_NothingDone, C_NoBreak, C_NotOneRim, C_NoPrice, C_Full, C_Apart, C_NoLine, C_NoRunner, C_ChartError]) 1 f__law_kinds) a__law_kinds d__law_kinds := ⟨ok__law_kinds (k := 0) T  F__law_kinds, b__law_kinds, PySem.W.mg_of X G g__law_kinds, k__law_kinds⟩
  exact ok_law (k := 1) T (by decide) h__law_pool (by decide) h__law_deep (by decide) h__law_draw (by decide) h__law_made (by decide) h__law_plain_ones (by decide) h__law_kinds F_law (z := z) (us := [.ref a]) (xs := [.ref a]) ⟨rfl, by decide, by decide⟩ ev (.of_eq rfl) (.cons rfl .nil) (spLaw_of hlaw ⟨a, ns, rfl, hS, hlen, fun _ => rfl⟩)
end L3
open PySem PySem.W PyProof.Rows
namespace HD
abbrev rr : OpenRow := OpenLaw.row PySem.Challenge.rw_bigcorners_k00_errors_of_the_package
abbrev qv : Program := view rr.prog [1, 2, 3, 4, 5, 6, 7, 8, 9, 10, 11, 12, 13, 14, 15, 16, 17, 18, 19, 20, 21, 22, 23, 24, 25, 27, 28, 29, 30, 31, 32, 33]
def names : List PySem.Str := []
end HD
open HD in
local macro_rules
  | `(tactic| o_head $H:term) => `(tactic| (
      refine holds_open (r := rr) (q := qv) (loose := names) (Xt := fun z => xlAt qv [] z && recOk (RowW.records rr.toRowW) z) (XP := XL qv [])
        (Yf := Hook.obs $H) (Ya := Hook.val $H) (YP := Hook.says $H) (N := 12186) ?_ (Hook.of $H) (Hook.keeps $H)
        (fun z e => xl_of z (Bool.and_eq_true_iff.mp e).1) XL.keeps (by rfl) (by rfl) (by rfl) (fun z e => recFacts_of (Bool.and_eq_true_iff.mp e).2) (by rfl)
        (by first | assumption | decide +kernel) (by decide +kernel) ⟨rfl, rfl, rfl, rfl, rfl, by decide +kernel⟩ ?_ ?_))
theorem PySem.Challenge.cw_bigcorners_k00_errors_of_the_package_holds : PySem.Challenge.rw_bigcorners_k00_errors_of_the_package.Holds := by
  w_on; o_law; k_head
  · refine HeadRun.left_oneK (M := 11486) (by kernel_rfl) (by rfl) (fun s => by kernel_rfl) (by rfl) ?_
    intro w os; kernel_rfl
  · w_witness2
  k_fill
  refine Att.attach_call (n := 63) rfl rfl fun w s0 s1 mg mb fa o pm cd doc a vs ns G Y ho hd hcd hmg hobj hints hlen hg => ?_
  have KX := PySem.W.kIn_of Y
  refine L3.top_call KX G.T.g G.T.b G.T.builtins G.T.nolimit hg hobj hints (Nat.le_trans hlen (by decide)) fun base M hK hN hS ev => ?_
  refine' L3.all_mk L3.law_true KX G.T.g hmg ?aC_BadChart ?aC_BadText ?aC_Tangled ?aC_NoName ?aC_BadBook ?aC_NoEnd ?aC_NoArrow ?aC_NoPicture ?aC_NoTable ?aC_NoNumber ?aC_NoDealing ?aC_NoSketch ?aC_NoRoutine ?aC_NoPlace ?aC_NoContents ?aC_NotRunning ?aC_NothingDone ?aC_NoBreak ?aC_NotOneRim ?aC_NoPrice ?aC_Full ?aC_Apart ?aC_NoLine ?aC_NoRunner ?aC_ChartError ?g__law_pool ?l__law_pool ?c__law_pool ?k__law_pool ?g__law_draw ?l__law_draw ?c__law_draw ?k__law_draw ?g__law_deep ?l__law_deep ?c__law_deep ?k__law_deep ?g__law_made ?l__law_made ?c__law_made ?k__law_made ?g__law_plain_ones ?l__law_plain_ones ?c__law_plain_ones ?k__law_plain_ones ?g__law_kinds ?l__law_kinds ?c__law_kinds ?k__law_kinds ?g_law ?l_law ?c_law ?k_law ?lk_BadBook ?rf_BadBook ?psa_BadBook ?pga_BadBook ?pgg_BadBook ?pno_BadBook ?piC_BadBook ?ptC_BadBook ?pkC_BadBook ?pex_BadBook ?pty_BadBook ?phd_BadBook ?pte_BadBook ?lf_BadBook ?cf_BadBook ?lk_BadChart ?rf_BadChart ?psa_BadChart ?pga_BadChart ?pgg_BadChart ?pno_BadChart ?piC_BadChart ?ptC_BadChart ?pkC_BadChart ?pex_BadChart ?pty_BadChart ?phd_BadChart ?pte_BadChart ?lf_BadChart ?cf_BadChart ?lk_BadText ?rf_BadText ?psa_BadText ?pga_BadText ?pgg_BadText ?pno_BadText ?piC_BadText ?ptC_BadText ?pkC_BadText ?pex_BadText ?pty_BadText ?phd_BadText ?pte_BadText ?lf_BadText ?cf_BadText ?lk_NoName ?rf_NoName ?psa_NoName ?pga_NoName ?pgg_NoName ?pno_NoName ?piC_NoName ?ptC_NoName ?pkC_NoName ?pex_NoName ?pty_NoName ?phd_NoName ?pte_NoName ?lf_NoName ?cf_NoName ?lk_Tangled ?rf_Tangled ?psa_Tangled ?pga_Tangled ?pgg_Tangled ?pno_Tangled ?piC_Tangled ?ptC_Tangled ?pkC_Tangled ?pex_Tangled ?pty_Tangled ?phd_Tangled ?pte_Tangled ?lf_Tangled ?cf_Tangled ?oq_Apart ?okc_Apart ?oex_Apart ?oty_Apart ?oq_Full ?okc_Full ?oex_Full ?oty_Full ?oq_NoArrow ?okc_NoArrow ?oex_NoArrow ?oty_NoArrow ?oq_NoBreak ?okc_NoBreak ?oex_NoBreak ?oty_NoBreak ?oq_NoContents ?okc_NoContents ?oex_NoContents ?oty_NoContents ?oq_NoDealing ?okc_NoDealing ?oex_NoDealing ?oty_NoDealing ?oq_NoEnd ?okc_NoEnd ?oex_NoEnd ?oty_NoEnd ?oq_NoLine ?okc_NoLine ?oex_NoLine ?oty_NoLine ?oq_NoNumber ?okc_NoNumber ?oex_NoNumber ?oty_NoNumber ?oq_NoPicture ?okc_NoPicture ?oex_NoPicture ?oty_NoPicture ?oq_NoPlace ?okc_NoPlace ?oex_NoPlace ?oty_NoPlace ?oq_NoPrice ?okc_NoPrice ?oex_NoPrice ?oty_NoPrice ?oq_NoRoutine ?okc_NoRoutine ?oex_NoRoutine ?oty_NoRoutine ?oq_NoRunner ?okc_NoRunner ?oex_NoRunner ?oty_NoRunner ?oq_NoSketch ?okc_NoSketch ?oex_NoSketch ?oty_NoSketch ?oq_NoTable ?okc_NoTable ?oex_NoTable ?oty_NoTable ?oq_NotOneRim ?okc_NotOneRim ?oex_NotOneRim ?oty_NotOneRim ?oq_NotRunning ?okc_NotRunning ?oex_NotRunning ?oty_NotRunning ?oq_NothingDone ?okc_NothingDone ?oex_NothingDone ?oty_NothingDone ?ext_BadChart ?kit_BadChart ?ext_BadText ?kit_BadText ?ext_Tangled ?kit_Tangled ?ext_NoName ?kit_NoName ?ext_BadBook ?kit_BadBook ?ext_NoEnd ?kit_NoEnd ?ext_NoArrow ?kit_NoArrow ?ext_NoPicture ?kit_NoPicture ?ext_NoTable ?kit_NoTable ?ext_NoNumber ?kit_NoNumber ?ext_NoDealing ?kit_NoDealing ?ext_NoSketch ?kit_NoSketch ?ext_NoRoutine ?kit_NoRoutine ?ext_NoPlace ?kit_NoPlace ?ext_NoContents ?kit_NoContents ?ext_NotRunning ?kit_NotRunning ?ext_NothingDone ?kit_NothingDone ?ext_NoBreak ?kit_NoBreak ?ext_NotOneRim ?kit_NotOneRim ?ext_NoPrice ?kit_NoPrice ?ext_Full ?kit_Full ?ext_Apart ?kit_Apart ?ext_NoLine ?kit_NoLine ?ext_NoRunner ?kit_NoRunner ?z_ValueError ?z_abs ?z_int ?z_isinstance ?z_len ?z_range ?z_repr ?z_set ?z_sum s1 base M a ns hlen hK hN hS ev
  (case aC_BadChart => k_is)
  (case aC_BadText => k_is)
  (case aC_Tangled => k_is)
  (case aC_NoName => k_is)
  (case aC_BadBook => k_is)
  (case aC_NoEnd => k_is)
  (case aC_NoArrow => k_is)
  (case aC_NoPicture => k_is)
  (case aC_NoTable => k_is)
  (case aC_NoNumber => k_is)
  (case aC_NoDealing => k_is)
  (case aC_NoSketch => k_is)
  (case aC_NoRoutine => k_is)
  (case aC_NoPlace => k_is)
  (case aC_NoContents => k_is)
  (case aC_NotRunning => k_is)
  (case aC_NothingDone => k_is)
  (case aC_NoBreak => k_is)
  (case aC_NotOneRim => k_is)
  (case aC_NoPrice => k_is)
  (case aC_Full => k_is)
  (case aC_Apart => k_is)
  (case aC_NoLine => k_is)
  (case aC_NoRunner => k_is)
  (case aC_ChartError => k_is)
  (case g__law_pool => k_is)
  (case l__law_pool => k_is)
  (case c__law_pool => k_is)
  (case k__law_pool => k_is)
  (case g__law_draw => k_is)
  (case l__law_draw => k_is)
  (case c__law_draw => k_is)
  (case k__law_draw => k_is)
  (case g__law_deep => k_is)
  (case l__law_deep => k_is)
  (case c__law_deep => k_is)
  (case k__law_deep => k_is)
  (case g__law_made => k_is)
  (case l__law_made => k_is)
  (case c__law_made => k_is)
  (case k__law_made => k_is)
  (case g__law_plain_ones => k_is)
  (case l__law_plain_ones => k_is)
  (case c__law_plain_ones => k_is)
  (case k__law_plain_ones => k_is)
  (case g__law_kinds => k_is)
  (case l__law_kinds => k_is)
  (case c__law_kinds => k_is)
  (case k__law_kinds => k_is)
  (case g_law => k_is)
  (case l_law => k_is)
  (case c_law => k_is)
  (case k_law => k_is)
  (case lk_BadBook => k_is)
  (case rf_BadBook => rfl)
  (case psa_BadBook => k_is)
  (case pga_BadBook => k_is)
  (case pgg_BadBook => k_is)
  (case pno_BadBook => k_is)
  (case piC_BadBook => k_is)
  (case ptC_BadBook => k_is)
  (case pkC_BadBook => k_is)
  (case pex_BadBook => k_is)
  (case pty_BadBook => k_is)
  (case phd_BadBook => k_is)
  (case pte_BadBook => kts_exm)
  (case lf_BadBook => k_is)
  (case cf_BadBook => k_is)
  (case lk_BadChart => k_is)
  (case rf_BadChart => rfl)
  (case psa_BadChart => k_is)
  (case pga_BadChart => k_is)
  (case pgg_BadChart => k_is)
  (case pno_BadChart => k_is)
  (case piC_BadChart => k_is)
  (case ptC_BadChart => k_is)
  (case pkC_BadChart => k_is)
  (case pex_BadChart => k_is)
  (case pty_BadChart => k_is)
  (case phd_BadChart => k_is)
  (case pte_BadChart => kts_exm)
  (case lf_BadChart => k_is)
  (case cf_BadChart => k_is)
  (case lk_BadText => k_is)
  (case rf_BadText => rfl)
  (case psa_BadText => k_is)
  (case pga_BadText => k_is)
  (case pgg_BadText => k_is)
  (case pno_BadText => k_is)
  (case piC_BadText => k_is)
  (case ptC_BadText => k_is)
  (case pkC_BadText => k_is)
  (case pex_BadText => k_is)
  (case pty_BadText => k_is)
  (case phd_BadText => k_is)
  (case pte_BadText => kts_exm)
  (case lf_BadText => k_is)
  (case cf_BadText => k_is)
  (case lk_NoName => k_is)
  (case rf_NoName => rfl)
  (case psa_NoName => k_is)
  (case pga_NoName => k_is)
  (case pgg_NoName => k_is)
  (case pno_NoName => k_is)
  (case piC_NoName => k_is)
  (case ptC_NoName => k_is)
  (case pkC_NoName => k_is)
  (case pex_NoName => k_is)
  (case pty_NoName => k_is)
  (case phd_NoName => k_is)
  (case pte_NoName => kts_exm)
  (case lf_NoName => k_is)
  (case cf_NoName => k_is)
  (case lk_Tangled => k_is)
  (case rf_Tangled => rfl)
  (case psa_Tangled => k_is)
  (case pga_Tangled => k_is)
  (case pgg_Tangled => k_is)
  (case pno_Tangled => k_is)
  (case piC_Tangled => k_is)
  (case ptC_Tangled => k_is)
  (case pkC_Tangled => k_is)
  (case pex_Tangled => k_is)
  (case pty_Tangled => k_is)
  (case phd_Tangled => k_is)
  (case pte_Tangled => kts_exm)
  (case lf_Tangled => k_is)
  (case cf_Tangled => k_is)
  (case oq_Apart => k_exc)
  (case okc_Apart => k_is)
  (case oex_Apart => k_is)
  (case oty_Apart => k_is)
  (case oq_Full => k_exc)
  (case okc_Full => k_is)
  (case oex_Full => k_is)
  (case oty_Full => k_is)
  (case oq_NoArrow => k_exc)
  (case okc_NoArrow => k_is)
  (case oex_NoArrow => k_is)
  (case oty_NoArrow => k_is)
  (case oq_NoBreak => k_exc)
  (case okc_NoBreak => k_is)
  (case oex_NoBreak => k_is)
  (case oty_NoBreak => k_is)
  (case oq_NoContents => k_exc)
  (case okc_NoContents => k_is)
  (case oex_NoContents => k_is)
  (case oty_NoContents => k_is)
  (case oq_NoDealing => k_exc)
  (case okc_NoDealing => k_is)
  (case oex_NoDealing => k_is)
  (case oty_NoDealing => k_is)
  (case oq_NoEnd => k_exc)
  (case okc_NoEnd => k_is)
  (case oex_NoEnd => k_is)
  (case oty_NoEnd => k_is)
  (case oq_NoLine => k_exc)
  (case okc_NoLine => k_is)
  (case oex_NoLine => k_is)
  (case oty_NoLine => k_is)
  (case oq_NoNumber => k_exc)
  (case okc_NoNumber => k_is)
  (case oex_NoNumber => k_is)
  (case oty_NoNumber => k_is)
  (case oq_NoPicture => k_exc)
  (case okc_NoPicture => k_is)
  (case oex_NoPicture => k_is)
  (case oty_NoPicture => k_is)
  (case oq_NoPlace => k_exc)
  (case okc_NoPlace => k_is)
  (case oex_NoPlace => k_is)
  (case oty_NoPlace => k_is)
  (case oq_NoPrice => k_exc)
  (case okc_NoPrice => k_is)
  (case oex_NoPrice => k_is)
  (case oty_NoPrice => k_is)
  (case oq_NoRoutine => k_exc)
  (case okc_NoRoutine => k_is)
  (case oex_NoRoutine => k_is)
  (case oty_NoRoutine => k_is)
  (case oq_NoRunner => k_exc)
  (case okc_NoRunner => k_is)
  (case oex_NoRunner => k_is)
  (case oty_NoRunner => k_is)
  (case oq_NoSketch => k_exc)
  (case okc_NoSketch => k_is)
  (case oex_NoSketch => k_is)
  (case oty_NoSketch => k_is)
  (case oq_NoTable => k_exc)
  (case okc_NoTable => k_is)
  (case oex_NoTable => k_is)
  (case oty_NoTable => k_is)
  (case oq_NotOneRim => k_exc)
  (case okc_NotOneRim => k_is)
  (case oex_NotOneRim => k_is)
  (case oty_NotOneRim => k_is)
  (case oq_NotRunning => k_exc)
  (case okc_NotRunning => k_is)
  (case oex_NotRunning => k_is)
  (case oty_NotRunning => k_is)
  (case oq_NothingDone => k_exc)
  (case okc_NothingDone => k_is)
  (case oex_NothingDone => k_is)
  (case oty_NothingDone => k_is)
  (case ext_BadChart => exact ⟨rfl, by k_is, by k_is, by k_is, by k_is, by k_is, by k_is, by k_is⟩)
  (case kit_BadChart => exact ⟨by kit_is, by kit_is, by kit_is, by kit_is, by kit_is, by kit_is, by kit_is, by kit_is, by kit_is, by kit_is, by kit_is, by kit_is, by kit_is, by kit_is, by kit_is, by kit_is, by kit_is, by kit_is, by kit_is, by kit_is, by kit_is, by kit_is, by kit_is, by kit_is, by kit_is, by kit_is, trivial⟩)
  (case ext_BadText => exact ⟨rfl, by k_is, by k_is, by k_is, by k_is, by k_is, by k_is, by k_is⟩)
  (case kit_BadText => exact ⟨by kit_is, by kit_is, by kit_is, by kit_is, by kit_is, by kit_is, by kit_is, by kit_is, by kit_is, by kit_is, by kit_is, by kit_is, by kit_is, by kit_is, by kit_is, by kit_is, by kit_is, by kit_is, by kit_is, by kit_is, by kit_is, by kit_is, by kit_is, by kit_is, by kit_is, by kit_is, trivial⟩)
  (case ext_Tangled => exact ⟨rfl, by k_is, by k_is, by k_is, by k_is, by k_is, by k_is, by k_is⟩)
  (case kit_Tangled => exact ⟨by kit_is, by kit_is, by kit_is, by kit_is, by kit_is, by kit_is, by kit_is, by kit_is, by kit_is, by kit_is, by kit_is, by kit_is, by kit_is, by kit_is, by kit_is, by kit_is, by kit_is, by kit_is, by kit_is, by kit_is, by kit_is, by kit_is, by kit_is, by kit_is, by kit_is, by kit_is, trivial⟩)
  (case ext_NoName => exact ⟨rfl, by k_is, by k_is, by k_is, by k_is, by k_is, by k_is, by k_is⟩)
  (case kit_NoName => exact ⟨by kit_is, by kit_is, by kit_is, by kit_is, by kit_is, by kit_is, by kit_is, by kit_is, by kit_is, by kit_is, by kit_is, by kit_is, by kit_is, by kit_is, by kit_is, by kit_is, by kit_is, by kit_is, by kit_is, by kit_is, by kit_is, by kit_is, by kit_is, by kit_is, by kit_is, by kit_is, trivial⟩)
  (case ext_BadBook => exact ⟨rfl, by k_is, by k_is, by k_is, by k_is, by k_is, by k_is, by k_is⟩)
  (case kit_BadBook => exact ⟨by kit_is, by kit_is, by kit_is, by kit_is, by kit_is, by kit_is, by kit_is, by kit_is, by kit_is, by kit_is, by kit_is, by kit_is, by kit_is, by kit_is, by kit_is, by kit_is, by kit_is, by kit_is, by kit_is, by kit_is, by kit_is, by kit_is, by kit_is, by kit_is, by kit_is, by kit_is, trivial⟩)
  (case ext_NoEnd => exact ⟨rfl, by k_is, by k_is, by k_is, by k_is, by k_is, by k_is, by k_is⟩)
  (case kit_NoEnd => exact ⟨by kit_is, by kit_is, by kit_is, by kit_is, by kit_is, by kit_is, by kit_is, by kit_is, by kit_is, by kit_is, by kit_is, by kit_is, by kit_is, by kit_is, by kit_is, by kit_is, by kit_is, by kit_is, by kit_is, by kit_is, by kit_is, by kit_is, by kit_is, by kit_is, by kit_is, by kit_is, trivial⟩)
  (case ext_NoArrow => exact ⟨rfl, by k_is, by k_is, by k_is, by k_is, by k_is, by k_is, by k_is⟩)
  (case kit_NoArrow => exact ⟨by kit_is, by kit_is, by kit_is, by kit_is, by kit_is, by kit_is, by kit_is, by kit_is, by kit_is, by kit_is, by kit_is, by kit_is, by kit_is, by kit_is, by kit_is, by kit_is, by kit_is, by kit_is, by kit_is, by kit_is, by kit_is, by kit_is, by kit_is, by kit_is, by kit_is, by kit_is, trivial⟩)
  (case ext_NoPicture => exact ⟨rfl, by k_is, by k_is, by k_is, by k_is, by k_is, by k_is, by k_is⟩)
  (case kit_NoPicture => exact ⟨by kit_is, by kit_is, by kit_is, by kit_is, by kit_is, by kit_is, by kit_is, by kit_is, by kit_is, by kit_is, by kit_is, by kit_is, by kit_is, by kit_is, by kit_is, by kit_is, by kit_is, by kit_is, by kit_is, by kit_is, by kit_is, by kit_is, by kit_is, by kit_is, by kit_is, by kit_is, trivial⟩)
  (case ext_NoTable => exact ⟨rfl, by k_is, by k_is, by k_is, by k_is, by k_is, by k_is, by k_is⟩)
  (case kit_NoTable => exact ⟨by kit_is, by kit_is, by kit_is, by kit_is, by kit_is, by kit_is, by kit_is, by kit_is, by kit_is, by kit_is, by kit_is, by kit_is, by kit_is, by kit_is, by kit_is, by kit_is, by kit_is, by kit_is, by kit_is, by kit_is, by kit_is, by kit_is, by kit_is, by kit_is, by kit_is, by kit_is, trivial⟩)
  (case ext_NoNumber => exact ⟨rfl, by k_is, by k_is, by k_is, by k_is, by k_is, by k_is, by k_is⟩)
  (case kit_NoNumber => exact ⟨by kit_is, by kit_is, by kit_is, by kit_is, by kit_is, by kit_is, by kit_is, by kit_is, by kit_is, by kit_is, by kit_is, by kit_is, by kit_is, by kit_is, by kit_is, by kit_is, by kit_is, by kit_is, by kit_is, by kit_is, by kit_is, by kit_is, by kit_is, by kit_is, by kit_is, by kit_is, trivial⟩)
  (case ext_NoDealing => exact ⟨rfl, by k_is, by k_is, by k_is, by k_is, by k_is, by k_is, by k_is⟩)
  (case kit_NoDealing => exact ⟨by kit_is, by kit_is, by kit_is, by kit_is, by kit_is, by kit_is, by kit_is, by kit_is, by kit_is, by kit_is, by kit_is, by kit_is, by kit_is, by kit_is, by kit_is, by kit_is, by kit_is, by kit_is, by kit_is, by kit_is, by kit_is, by kit_is, by kit_is, by kit_is, by kit_is, by kit_is, trivial⟩)
  (case ext_NoSketch => exact ⟨rfl, by k_is, by k_is, by k_is, by k_is, by k_is, by k_is, by k_is⟩)
  (case kit_NoSketch => exact ⟨by kit_is, by kit_is, by kit_is, by kit_is, by kit_is, by kit_is, by kit_is, by kit_is, by kit_is, by kit_is, by kit_is, by kit_is, by kit_is, by kit_is, by kit_is, by kit_is, by kit_is, by kit_is, by kit_is, by kit_is, by kit_is, by kit_is, by kit_is, by kit_is, by kit_is, by kit_is, trivial⟩)
  (case ext_NoRoutine => exact ⟨rfl, by k_is, by k_is, by k_is, by k_is, by k_is, by k_is, by k_is⟩)
  (case kit_NoRoutine => exact ⟨by kit_is, by kit_is, by kit_is, by kit_is, by kit_is, by kit_is, by kit_is, by kit_is, by kit_is, by kit_is, by kit_is, by kit_is, by kit_is, by kit_is, by kit_is, by kit_is, by kit_is, by kit_is, by kit_is, by kit_is, by kit_is, by kit_is, by kit_is, by kit_is, by kit_is, by kit_is, trivial⟩)
  (case ext_NoPlace => exact ⟨rfl, by k_is, by k_is, by k_is, by k_is, by k_is, by k_is, by k_is⟩)
  (case kit_NoPlace => exact ⟨by kit_is, by kit_is, by kit_is, by kit_is, by kit_is, by kit_is, by kit_is, by kit_is, by kit_is, by kit_is, by kit_is, by kit_is, by kit_is, by kit_is, by kit_is, by kit_is, by kit_is, by kit_is, by kit_is, by kit_is, by kit_is, by kit_is, by kit_is, by kit_is, by kit_is, by kit_is, trivial⟩)
  (case ext_NoContents => exact ⟨rfl, by k_is, by k_is, by k_is, by k_is, by k_is, by k_is, by k_is⟩)
  (case kit_NoContents => exact ⟨by kit_is, by kit_is, by kit_is, by kit_is, by kit_is, by kit_is, by kit_is, by kit_is, by kit_is, by kit_is, by kit_is, by kit_is, by kit_is, by kit_is, by kit_is, by kit_is, by kit_is, by kit_is, by kit_is, by kit_is, by kit_is, by kit_is, by kit_is, by kit_is, by kit_is, by kit_is, trivial⟩)
  (case ext_NotRunning => exact ⟨rfl, by k_is, by k_is, by k_is, by k_is, by k_is, by k_is, by k_is⟩)
  (case kit_NotRunning => exact ⟨by kit_is, by kit_is, by kit_is, by kit_is, by kit_is, by kit_is, by kit_is, by kit_is, by kit_is, by kit_is, by kit_is, by kit_is, by kit_is, by kit_is, by kit_is, by kit_is, by kit_is, by kit_is, by kit_is, by kit_is, by kit_is, by kit_is, by kit_is, by kit_is, by kit_is, by kit_is, trivial⟩)
  (case ext_NothingDone => exact ⟨rfl, by k_is, by k_is, by k_is, by k_is, by k_is, by k_is, by k_is⟩)
  (case kit_NothingDone => exact ⟨by kit_is, by kit_is, by kit_is, by kit_is, by kit_is, by kit_is, by kit_is, by kit_is, by kit_is, by kit_is, by kit_is, by kit_is, by kit_is, by kit_is, by kit_is, by kit_is, by kit_is, by kit_is, by kit_is, by kit_is, by kit_is, by kit_is, by kit_is, by kit_is, by kit_is, by kit_is, trivial⟩)
  (case ext_NoBreak => exact ⟨rfl, by k_is, by k_is, by k_is, by k_is, by k_is, by k_is, by k_is⟩)
  (case kit_NoBreak => exact ⟨by kit_is, by kit_is, by kit_is, by kit_is, by kit_is, by kit_is, by kit_is, by kit_is, by kit_is, by kit_is, by kit_is, by kit_is, by kit_is, by kit_is, by kit_is, by kit_is, by kit_is, by kit_is, by kit_is, by kit_is, by kit_is, by kit_is, by kit_is, by kit_is, by kit_is, by kit_is, trivial⟩)
  (case ext_NotOneRim => exact ⟨rfl, by k_is, by k_is, by k_is, by k_is, by k_is, by k_is, by k_is⟩)
  (case kit_NotOneRim => exact ⟨by kit_is, by kit_is, by kit_is, by kit_is, by kit_is, by kit_is, by kit_is, by kit_is, by kit_is, by kit_is, by kit_is, by kit_is, by kit_is, by kit_is, by kit_is, by kit_is, by kit_is, by kit_is, by kit_is, by kit_is, by kit_is, by kit_is, by kit_is, by kit_is, by kit_is, by kit_is, trivial⟩)
  (case ext_NoPrice => exact ⟨rfl, by k_is, by k_is, by k_is, by k_is, by k_is, by k_is, by k_is⟩)
  (case kit_NoPrice => exact ⟨by kit_is, by kit_is, by kit_is, by kit_is, by kit_is, by kit_is, by kit_is, by kit_is, by kit_is, by kit_is, by kit_is, by kit_is, by kit_is, by kit_is, by kit_is, by kit_is, by kit_is, by kit_is, by kit_is, by kit_is, by kit_is, by kit_is, by kit_is, by kit_is, by kit_is, by kit_is, trivial⟩)
  (case ext_Full => exact ⟨rfl, by k_is, by k_is, by k_is, by k_is, by k_is, by k_is, by k_is⟩)
  (case kit_Full => exact ⟨by kit_is, by kit_is, by kit_is, by kit_is, by kit_is, by kit_is, by kit_is, by kit_is, by kit_is, by kit_is, by kit_is, by kit_is, by kit_is, by kit_is, by kit_is, by kit_is, by kit_is, by kit_is, by kit_is, by kit_is, by kit_is, by kit_is, by kit_is, by kit_is, by kit_is, by kit_is, trivial⟩)
  (case ext_Apart => exact ⟨rfl, by k_is, by k_is, by k_is, by k_is, by k_is, by k_is, by k_is⟩)
  (case kit_Apart => exact ⟨by kit_is, by kit_is, by kit_is, by kit_is, by kit_is, by kit_is, by kit_is, by kit_is, by kit_is, by kit_is, by kit_is, by kit_is, by kit_is, by kit_is, by kit_is, by kit_is, by kit_is, by kit_is, by kit_is, by kit_is, by kit_is, by kit_is, by kit_is, by kit_is, by kit_is, by kit_is, trivial⟩)
  (case ext_NoLine => exact ⟨rfl, by k_is, by k_is, by k_is, by k_is, by k_is, by k_is, by k_is⟩)
  (case kit_NoLine => exact ⟨by kit_is, by kit_is, by kit_is, by kit_is, by kit_is, by kit_is, by kit_is, by kit_is, by kit_is, by kit_is, by kit_is, by kit_is, by kit_is, by kit_is, by kit_is, by kit_is, by kit_is, by kit_is, by kit_is, by kit_is, by kit_is, by kit_is, by kit_is, by kit_is, by kit_is, by kit_is, trivial⟩)
  (case ext_NoRunner => exact ⟨rfl, by k_is, by k_is, by k_is, by k_is, by k_is, by k_is, by k_is⟩)
  (case kit_NoRunner => exact ⟨by kit_is, by kit_is, by kit_is, by kit_is, by kit_is, by kit_is, by kit_is, by kit_is, by kit_is, by kit_is, by kit_is, by kit_is, by kit_is, by kit_is, by kit_is, by kit_is, by kit_is, by kit_is, by kit_is, by kit_is, by kit_is, by kit_is, by kit_is, by kit_is, by kit_is, by kit_is, trivial⟩)
  (case z_ValueError => k_is)
  (case z_abs => k_is)
  (case z_int => k_is)
  (case z_isinstance => k_is)
  (case z_len => k_is)
  (case z_range => k_is)
  (case z_repr => k_is)
  (case z_set => k_is)
  (case z_sum => k_is)
