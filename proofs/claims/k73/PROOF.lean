import PyProof.Rows.All
import Wide.All
import OpenK.AllK
import Wide.FinOn
import HandS.ForMost
import HandS.Wide
import HandS.Flow
import HandS.IsInst
import HandS.TupAny
import HandS.Style
import HandS.NoneIn
import KE.SortData
import KE.DataMinMax
import KE.DataIsa
import KE.DataEq
import KE.DataAny
import KE.DataCmp
import HandS.Words
import HandS.Ends
import HandS.More
import HandS.Head0
import HandS.Head1
import HandS.Head2
import HandS.HeadEnd
import HandS.HeadHook1
import HandS.HeadHook2
import KE.KStateDown
import HandS.WordsExc
import HandS.Defaults
import HandS.Comp
import HandS.Iter
import HandS.WideMore
import PySem.Challenge.RW_roundladder_k73_whole_shortest_ladders
set_option Elab.async false
set_option linter.all false
set_option maxRecDepth 100000
/-! M1: data of the heap, frozen and owned; the slots' states; what is kept. -/
namespace Fx
open PySem PySem.Spec PyProof.Rows L2

/-! ### sets of addresses -/
abbrev As := Addr → Prop
def none' : As := fun _ => False
def one' (a : Addr) : As := fun b => b = a
def or' (f g : As) : As := fun b => f b ∨ g b
def Dis (f g : As) : Prop := ∀ b, f b → g b → False
theorem or_none (f : As) : or' none' f = f := by funext b; simp [or', none']
theorem or_none' (f : As) : or' f none' = f := by funext b; simp [or', none']
theorem or_assoc' (f g h : As) : or' (or' f g) h = or' f (or' g h) := by funext b; simp [or', or_assoc]
theorem or_comm' (f g : As) : or' f g = or' g f := by funext b; simp [or', or_comm]
theorem Dis.symm {f g : As} (h : Dis f g) : Dis g f := fun b x y => h b y x
theorem dis_none (f : As) : Dis none' f := fun _ h _ => h
theorem dis_none' (f : As) : Dis f none' := fun _ _ h => h
theorem Dis.or_left {f g h : As} (a : Dis f h) (b : Dis g h) : Dis (or' f g) h := fun x p q => p.elim (fun z => a x z q) (fun z => b x z q)
theorem Dis.of_or1 {f g h : As} (a : Dis (or' f g) h) : Dis f h := fun x p q => a x (.inl p) q
theorem Dis.of_or2 {f g h : As} (a : Dis (or' f g) h) : Dis g h := fun x p q => a x (.inr p) q

open Classical in
/-- the heap without the addresses of O -/
noncomputable def hid (H : Hp) (O : As) : Hp := fun b => if O b then none else H b
theorem hid_in {H : Hp} {O : As} {b : Addr} (h : O b) : hid H O b = none := by unfold hid; rw [if_pos h]
theorem hid_out {H : Hp} {O : As} {b : Addr} (h : ¬ O b) : hid H O b = H b := by unfold hid; rw [if_neg h]
theorem hid_some {H : Hp} {O : As} {b : Addr} {o : HO} (h : hid H O b = some o) : ¬ O b ∧ H b = some o := by
  by_cases q : O b
  · rw [hid_in q] at h; cases h
  · rw [hid_out q] at h; exact ⟨q, h⟩

/-- whatever may be read in F may be read in G -/
def Le (F G : Hp) : Prop := ∀ a u, Rd F a u → Rd G a u
theorem Le.refl (F : Hp) : Le F F := fun _ _ h => h
theorem Le.trans {F G H : Hp} (a : Le F G) (b : Le G H) : Le F H := fun x u h => b x u (a x u h)
theorem le_of_ext {F G : Hp} (h : ∀ a o, F a = some o → G a = some o) : Le F G := fun a u r => by
  rcases r with r | ⟨o, r⟩
  · exact .inl (h a u r)
  · exact .inr ⟨o, h a _ r⟩
theorem hid_le {H : Hp} {O : As} : Le (hid H O) H := le_of_ext fun a o h => (hid_some h).2
theorem hid_mono {H : Hp} {O O' : As} (h : ∀ b, O' b → O b) : Le (hid H O) (hid H O') := le_of_ext fun a o e => by
  obtain ⟨h1, h2⟩ := hid_some e
  rw [hid_out fun z => h1 (h a z)]; exact h2
theorem Le.sqL {K : PySem.W.Frag} {F G : Hp} (h : Le F G) {a : Addr} {xs : List V} (q : SqL K F a xs) : SqL K G a xs := q.elim (fun z => .inl (h _ _ z)) .inr
theorem Le.sqT {K : PySem.W.Frag} {F G : Hp} (h : Le F G) {a : Addr} {xs : List V} (q : SqT K F a xs) : SqT K G a xs := q.elim (fun z => .inl (h _ _ z)) .inr

/-! ### data -/
def keyD : Key → PyData
  | .inl i => .int i
  | .inr x => .str x
mutual
/-- v is the datum d in the heap F -/
inductive Dat (K : PySem.W.Frag) (F : Hp) : V → PyData → Prop
  | non : Dat K F .non .none
  | bl (b : Bool) : Dat K F (.bl b) (.bool b)
  | int (i : Int) : Dat K F (.int i) (.int i)
  | str (x : Str) : Dat K F (.str x) (.str x)
  | lst {a : Addr} {xs : List V} {ds : List PyData} : SqL K F a xs → DatL K F xs ds → Dat K F (.ref a) (.list ds)
  | tup {a : Addr} {xs : List V} {ds : List PyData} : SqT K F a xs → DatL K F xs ds → Dat K F (.ref a) (.tuple ds)
  | dk {a : Addr} {kvs : List (Key × V)} {ds : List (PyData × PyData)} : Rd F a (.dK kvs) → DatK K F kvs ds → Dat K F (.ref a) (.dict ds)
  | dt {a : Addr} {kvs : List (List Key × V)} {ds : List (PyData × PyData)} : Rd F a (.dT kvs) → DatT K F kvs ds → Dat K F (.ref a) (.dict ds)
inductive DatL (K : PySem.W.Frag) (F : Hp) : List V → List PyData → Prop
  | nil : DatL K F [] []
  | cons {v : V} {vs : List V} {d : PyData} {ds : List PyData} : Dat K F v d → DatL K F vs ds → DatL K F (v :: vs) (d :: ds)
inductive DatK (K : PySem.W.Frag) (F : Hp) : List (Key × V) → List (PyData × PyData) → Prop
  | nil : DatK K F [] []
  | cons {k : Key} {v : V} {vs : List (Key × V)} {d : PyData} {ds : List (PyData × PyData)} : Dat K F v d → DatK K F vs ds → DatK K F ((k, v) :: vs) ((keyD k, d) :: ds)
inductive DatT (K : PySem.W.Frag) (F : Hp) : List (List Key × V) → List (PyData × PyData) → Prop
  | nil : DatT K F [] []
  | cons {k : List Key} {v : V} {vs : List (List Key × V)} {d : PyData} {ds : List (PyData × PyData)} : Dat K F v d → DatT K F vs ds → DatT K F ((k, v) :: vs) ((.tuple (k.map keyD), d) :: ds)
end
section
variable {K : PySem.W.Frag} {F G : Hp}
mutual
theorem Dat.mono (le : Le F G) : ∀ {v : V} {d : PyData}, Dat K F v d → Dat K G v d
  | _, _, .non => .non
  | _, _, .bl b => .bl b
  | _, _, .int i => .int i
  | _, _, .str x => .str x
  | _, _, .lst h t => .lst (le.sqL h) (DatL.mono le t)
  | _, _, .tup h t => .tup (le.sqT h) (DatL.mono le t)
  | _, _, .dk h t => .dk (le _ _ h) (DatK.mono le t)
  | _, _, .dt h t => .dt (le _ _ h) (DatT.mono le t)
theorem DatL.mono (le : Le F G) : ∀ {v : List V} {d : List PyData}, DatL K F v d → DatL K G v d
  | _, _, .nil => .nil
  | _, _, .cons h t => .cons (Dat.mono le h) (DatL.mono le t)
theorem DatK.mono (le : Le F G) : ∀ {v : List (Key × V)} {d : List (PyData × PyData)}, DatK K F v d → DatK K G v d
  | _, _, .nil => .nil
  | _, _, .cons h t => .cons (Dat.mono le h) (DatK.mono le t)
theorem DatT.mono (le : Le F G) : ∀ {v : List (List Key × V)} {d : List (PyData × PyData)}, DatT K F v d → DatT K G v d
  | _, _, .nil => .nil
  | _, _, .cons h t => .cons (Dat.mono le h) (DatT.mono le t)
end
theorem DatL.length : ∀ {vs : List V} {ds : List PyData}, DatL K F vs ds → vs.length = ds.length
  | _, _, .nil => rfl
  | _, _, .cons _ t => congrArg (· + 1) (DatL.length t)
theorem DatL.get : ∀ {vs : List V} {ds : List PyData}, DatL K F vs ds → ∀ {i : Nat} {d : PyData}, ds[i]? = some d → ∃ v, vs[i]? = some v ∧ Dat K F v d
  | _, _, .nil, _, _, h => by simp at h
  | _, _, .cons h t, 0, _, e => by simp at e; subst e; exact ⟨_, rfl, h⟩
  | _, _, .cons h t, i + 1, _, e => by
    obtain ⟨v, h1, h2⟩ := DatL.get t (i := i) (by simpa using e)
    exact ⟨v, by simpa using h1, h2⟩
theorem DatL.append : ∀ {vs ws : List V} {ds es : List PyData}, DatL K F vs ds → DatL K F ws es → DatL K F (vs ++ ws) (ds ++ es)
  | _, _, _, _, .nil, h => h
  | _, _, _, _, .cons h t, h' => .cons h (DatL.append t h')
theorem DatL.take : ∀ {vs : List V} {ds : List PyData} (n : Nat), DatL K F vs ds → DatL K F (vs.take n) (ds.take n)
  | _, _, 0, _ => .nil
  | _, _, _ + 1, .nil => .nil
  | _, _, n + 1, .cons h t => .cons h (DatL.take n t)
theorem DatL.drop : ∀ {vs : List V} {ds : List PyData} (n : Nat), DatL K F vs ds → DatL K F (vs.drop n) (ds.drop n)
  | _, _, 0, h => h
  | _, _, _ + 1, .nil => .nil
  | _, _, n + 1, .cons _ t => DatL.drop n t
theorem DatL.reverse : ∀ {vs : List V} {ds : List PyData}, DatL K F vs ds → DatL K F vs.reverse ds.reverse
  | _, _, .nil => .nil
  | _, _, .cons h t => by
    rw [List.reverse_cons, List.reverse_cons]
    exact DatL.append (DatL.reverse t) (.cons h .nil)
theorem DatL.ints : ∀ {vs : List V} {ns : List Int}, DatL K F vs (ns.map .int) → vs = ns.map V.int
  | _, [], .nil => rfl
  | _, n :: ns, .cons h t => by
    cases h
    rw [DatL.ints t, List.map_cons]
theorem DatL.of_ints : ∀ {ns : List Int}, DatL K F (ns.map V.int) (ns.map .int)
  | [] => .nil
  | _ :: _ => .cons (.int _) DatL.of_ints
end
end Fx
set_option Elab.async false
set_option linter.all false
set_option maxRecDepth 100000
/-! M2: owned data, the slots' states. -/
namespace Fx
open PySem PySem.Spec PyProof.Rows L2

/-! ### what is owned to a depth -/
def isCont : PyData → Bool
  | .list _ => true
  | .dict _ => true
  | _ => false
abbrev RR := V → PyData → As → Prop
inductive RepL (R : RR) : List V → List PyData → As → Prop
  | nil : RepL R [] [] none'
  | cons {v : V} {vs : List V} {d : PyData} {ds : List PyData} {f g : As} : R v d f → RepL R vs ds g → Dis f g → RepL R (v :: vs) (d :: ds) (or' f g)
inductive RepK (R : RR) : List (Key × V) → List (PyData × PyData) → As → Prop
  | nil : RepK R [] [] none'
  | cons {k : Key} {v : V} {vs : List (Key × V)} {d : PyData} {ds : List (PyData × PyData)} {f g : As} : R v d f → RepK R vs ds g → Dis f g → RepK R ((k, v) :: vs) ((keyD k, d) :: ds) (or' f g)
inductive RepT (R : RR) : List (List Key × V) → List (PyData × PyData) → As → Prop
  | nil : RepT R [] [] none'
  | cons {k : List Key} {v : V} {vs : List (List Key × V)} {d : PyData} {ds : List (PyData × PyData)} {f g : As} : R v d f → RepT R vs ds g → Dis f g → RepT R ((k, v) :: vs) ((.tuple (k.map keyD), d) :: ds) (or' f g)
/-- v is d: its containers are owned down to the depth k (at the addresses fp), what lies deeper is frozen in F -/
def Rep (K : PySem.W.Frag) (F H : Hp) : Nat → RR
  | 0, v, d, fp => fp = none' ∧ Dat K F v d
  | k + 1, v, d, fp => (isCont d = false ∧ fp = none' ∧ Dat K F v d) ∨
      (∃ a vs ds g, v = .ref a ∧ d = .list ds ∧ H a = some (.lst vs) ∧ RepL (Rep K F H k) vs ds g ∧ ¬ g a ∧ fp = or' (one' a) g) ∨
      (∃ a vs ds g, v = .ref a ∧ d = .dict ds ∧ H a = some (.dK vs) ∧ RepK (Rep K F H k) vs ds g ∧ ¬ g a ∧ fp = or' (one' a) g) ∨
      (∃ a vs ds g, v = .ref a ∧ d = .dict ds ∧ H a = some (.dT vs) ∧ RepT (Rep K F H k) vs ds g ∧ ¬ g a ∧ fp = or' (one' a) g)

theorem RepL.imp {R R' : RR} : ∀ {vs : List V} {ds : List PyData} {g : As}, RepL R vs ds g → (∀ v d f, (∀ b, f b → g b) → R v d f → R' v d f) → RepL R' vs ds g
  | _, _, _, .nil, _ => .nil
  | _, _, _, .cons h t dj, k => .cons (k _ _ _ (fun _ z => .inl z) h) (RepL.imp t fun v d f s => k v d f fun b z => .inr (s b z)) dj
theorem RepK.imp {R R' : RR} : ∀ {vs : List (Key × V)} {ds : List (PyData × PyData)} {g : As}, RepK R vs ds g → (∀ v d f, (∀ b, f b → g b) → R v d f → R' v d f) → RepK R' vs ds g
  | _, _, _, .nil, _ => .nil
  | _, _, _, .cons h t dj, k => .cons (k _ _ _ (fun _ z => .inl z) h) (RepK.imp t fun v d f s => k v d f fun b z => .inr (s b z)) dj
theorem RepT.imp {R R' : RR} : ∀ {vs : List (List Key × V)} {ds : List (PyData × PyData)} {g : As}, RepT R vs ds g → (∀ v d f, (∀ b, f b → g b) → R v d f → R' v d f) → RepT R' vs ds g
  | _, _, _, .nil, _ => .nil
  | _, _, _, .cons h t dj, k => .cons (k _ _ _ (fun _ z => .inl z) h) (RepT.imp t fun v d f s => k v d f fun b z => .inr (s b z)) dj

section
variable {K : PySem.W.Frag} {F F' H H' : Hp}
/-- the heap has moved on elsewhere -/
theorem Rep.keep : ∀ (k : Nat) {v : V} {d : PyData} {fp : As}, Le F F' → (∀ b, fp b → H' b = H b) → Rep K F H k v d fp → Rep K F' H' k v d fp
  | 0, _, _, _, le, _, h => ⟨h.1, h.2.mono le⟩
  | k + 1, v, d, fp, le, kp, h => by
    rcases h with ⟨h1, h2, h3⟩ | ⟨a, vs, ds, g, rfl, rfl, h1, h2, h3, rfl⟩ | ⟨a, vs, ds, g, rfl, rfl, h1, h2, h3, rfl⟩ | ⟨a, vs, ds, g, rfl, rfl, h1, h2, h3, rfl⟩
    · exact .inl ⟨h1, h2, h3.mono le⟩
    · exact .inr (.inl ⟨a, vs, ds, g, rfl, rfl, (kp a (.inl rfl)).trans h1, h2.imp fun _ _ f s r => Rep.keep k le (fun b z => kp b (.inr (s b z))) r, h3, rfl⟩)
    · exact .inr (.inr (.inl ⟨a, vs, ds, g, rfl, rfl, (kp a (.inl rfl)).trans h1, h2.imp fun _ _ f s r => Rep.keep k le (fun b z => kp b (.inr (s b z))) r, h3, rfl⟩))
    · exact .inr (.inr (.inr ⟨a, vs, ds, g, rfl, rfl, (kp a (.inl rfl)).trans h1, h2.imp fun _ _ f s r => Rep.keep k le (fun b z => kp b (.inr (s b z))) r, h3, rfl⟩))
theorem RepL.dat {R : RR} {G : Hp} : ∀ {vs : List V} {ds : List PyData} {g : As}, RepL R vs ds g → (∀ v d f, (∀ b, f b → g b) → R v d f → Dat K G v d) → DatL K G vs ds
  | _, _, _, .nil, _ => .nil
  | _, _, _, .cons h t dj, k => .cons (k _ _ _ (fun _ z => .inl z) h) (RepL.dat t fun v d f s => k v d f fun b z => .inr (s b z))
theorem RepK.dat {R : RR} {G : Hp} : ∀ {vs : List (Key × V)} {ds : List (PyData × PyData)} {g : As}, RepK R vs ds g → (∀ v d f, (∀ b, f b → g b) → R v d f → Dat K G v d) → DatK K G vs ds
  | _, _, _, .nil, _ => .nil
  | _, _, _, .cons h t dj, k => .cons (k _ _ _ (fun _ z => .inl z) h) (RepK.dat t fun v d f s => k v d f fun b z => .inr (s b z))
theorem RepT.dat {R : RR} {G : Hp} : ∀ {vs : List (List Key × V)} {ds : List (PyData × PyData)} {g : As}, RepT R vs ds g → (∀ v d f, (∀ b, f b → g b) → R v d f → Dat K G v d) → DatT K G vs ds
  | _, _, _, .nil, _ => .nil
  | _, _, _, .cons h t dj, k => .cons (k _ _ _ (fun _ z => .inl z) h) (RepT.dat t fun v d f s => k v d f fun b z => .inr (s b z))
/-- owned data, read in a heap that shows them -/
theorem Rep.dat {G : Hp} : ∀ (k : Nat) {v : V} {d : PyData} {fp : As}, Le F G → (∀ b, fp b → G b = H b) → Rep K F H k v d fp → Dat K G v d
  | 0, _, _, _, le, _, h => h.2.mono le
  | k + 1, v, d, fp, le, kp, h => by
    rcases h with ⟨h1, h2, h3⟩ | ⟨a, vs, ds, g, rfl, rfl, h1, h2, h3, rfl⟩ | ⟨a, vs, ds, g, rfl, rfl, h1, h2, h3, rfl⟩ | ⟨a, vs, ds, g, rfl, rfl, h1, h2, h3, rfl⟩
    · exact h3.mono le
    · exact .lst (.inl (.inl ((kp a (.inl rfl)).trans h1))) (h2.dat fun _ _ f s r => Rep.dat k le (fun b z => kp b (.inr (s b z))) r)
    · exact .dk (.inl ((kp a (.inl rfl)).trans h1)) (h2.dat fun _ _ f s r => Rep.dat k le (fun b z => kp b (.inr (s b z))) r)
    · exact .dt (.inl ((kp a (.inl rfl)).trans h1)) (h2.dat fun _ _ f s r => Rep.dat k le (fun b z => kp b (.inr (s b z))) r)
theorem RepL.trk {R : RR} {P : As} : ∀ {vs : List V} {ds : List PyData} {g : As}, RepL R vs ds g → (∀ v d f, R v d f → ∀ b, f b → P b) → ∀ b, g b → P b
  | _, _, _, .nil, _, _, z => z.elim
  | _, _, _, .cons h t dj, k, b, z => z.elim (k _ _ _ h b) (RepL.trk t k b)
theorem RepK.trk {R : RR} {P : As} : ∀ {vs : List (Key × V)} {ds : List (PyData × PyData)} {g : As}, RepK R vs ds g → (∀ v d f, R v d f → ∀ b, f b → P b) → ∀ b, g b → P b
  | _, _, _, .nil, _, _, z => z.elim
  | _, _, _, .cons h t dj, k, b, z => z.elim (k _ _ _ h b) (RepK.trk t k b)
theorem RepT.trk {R : RR} {P : As} : ∀ {vs : List (List Key × V)} {ds : List (PyData × PyData)} {g : As}, RepT R vs ds g → (∀ v d f, R v d f → ∀ b, f b → P b) → ∀ b, g b → P b
  | _, _, _, .nil, _, _, z => z.elim
  | _, _, _, .cons h t dj, k, b, z => z.elim (k _ _ _ h b) (RepT.trk t k b)
/-- what is owned is tracked -/
theorem Rep.trk : ∀ (k : Nat) {v : V} {d : PyData} {fp : As}, Rep K F H k v d fp → ∀ b, fp b → H b ≠ none
  | 0, _, _, _, h, b, z => by rw [h.1] at z; exact z.elim
  | k + 1, v, d, fp, h, b, z => by
    rcases h with ⟨h1, h2, h3⟩ | ⟨a, vs, ds, g, rfl, rfl, h1, h2, h3, rfl⟩ | ⟨a, vs, ds, g, rfl, rfl, h1, h2, h3, rfl⟩ | ⟨a, vs, ds, g, rfl, rfl, h1, h2, h3, rfl⟩
    · rw [h2] at z; exact z.elim
    · rcases z with z | z
      · rw [show b = a from z, h1]; exact Option.some_ne_none _
      · exact h2.trk (P := fun b => H b ≠ none) (fun v d f r b z => Rep.trk k r b z) b z
    · rcases z with z | z
      · rw [show b = a from z, h1]; exact Option.some_ne_none _
      · exact h2.trk (P := fun b => H b ≠ none) (fun v d f r b z => Rep.trk k r b z) b z
    · rcases z with z | z
      · rw [show b = a from z, h1]; exact Option.some_ne_none _
      · exact h2.trk (P := fun b => H b ≠ none) (fun v d f r b z => Rep.trk k r b z) b z
/-- plain data are owned to any depth -/
theorem Rep.plain {k : Nat} {v : V} {d : PyData} (h : Dat K F v d) (hc : isCont d = false ∨ k = 0) : Rep K F H k v d none' := by
  cases k with
  | zero => exact ⟨rfl, h⟩
  | succ k =>
    rcases hc with hc | hc
    · exact .inl ⟨hc, rfl, h⟩
    · cases hc
theorem RepL.length {R : RR} : ∀ {vs : List V} {ds : List PyData} {g : As}, RepL R vs ds g → vs.length = ds.length
  | _, _, _, .nil => rfl
  | _, _, _, .cons _ t _ => congrArg (· + 1) (RepL.length t)
end

/-! ### the slots -/
/-- a slot: without a value, or with the datum d owned to the depth k (0: frozen); l: lent by the caller -/
inductive SV where
  | un
  | sv (l : Bool) (k : Nat) (d : PyData)
abbrev EnvD := List SV
/-- everything that is hidden -/
def all' (T : As) (fps : Nat → As) : As := fun b => T b ∨ ∃ i, fps i b
structure SOk (K : PySem.W.Frag) (L : List (Nat × V)) (T : As) (env : EnvD) (σ : L2.St) (H : Hp) (fps : Nat → As) : Prop where
  len : env.length = σ.length
  disT : ∀ i, Dis (fps i) T
  dis : ∀ i j, i ≠ j → Dis (fps i) (fps j)
  trk : ∀ b, all' T fps b → H b ≠ none
  slot : ∀ i l k d, env[i]? = some (.sv l k d) → ∃ v, σ[i]? = some (some v) ∧ Rep K (hid H (all' T fps)) H k v d (fps i) ∧ (l = true → (i, v) ∈ L)
  out : ∀ i, (∀ l k d, env[i]? ≠ some (.sv l k d)) → fps i = none'
  lu : ∀ i v w, (i, v) ∈ L → (i, w) ∈ L → v = w

section
variable {K : PySem.W.Frag} {L : List (Nat × V)} {T : As} {env : EnvD} {σ : L2.St} {H H' : Hp} {fps : Nat → As}
noncomputable abbrev fr (T : As) (H : Hp) (fps : Nat → As) : Hp := hid H (all' T fps)
/-- the heap has moved on where nothing is hidden -/
theorem SOk.keep (I : SOk K L T env σ H fps) (kp : ∀ b, all' T fps b → H' b = H b) (le : Le (fr T H fps) (fr T H' fps)) : SOk K L T env σ H' fps :=
  ⟨I.len, I.disT, I.dis, fun b z => by rw [kp b z]; exact I.trk b z, fun i l k d e => by
    obtain ⟨v, h1, h2, h3⟩ := I.slot i l k d e
    exact ⟨v, h1, h2.keep k le (fun b z => kp b (.inr ⟨i, z⟩)), h3⟩, I.out, I.lu⟩
theorem upd_keep {p : Addr} {o : HO} (hp : H p = none) (trk : ∀ b, all' T fps b → H b ≠ none) : ∀ b, all' T fps b → upd H p o b = H b := fun b z => by
  rw [upd_ne]
  rintro rfl
  exact trk _ z hp
theorem upd_le {p : Addr} {o : HO} {O : As} (hp : H p = none) (trk : ∀ b, O b → H b ≠ none) : Le (hid H O) (hid (upd H p o) O) := le_of_ext fun a u e => by
  obtain ⟨h1, h2⟩ := hid_some e
  rw [hid_out h1, upd_ne]
  · exact h2
  · rintro rfl
    rw [hp] at h2; cases h2
/-- a new frozen object -/
theorem SOk.alloc {p : Addr} {o : HO} (I : SOk K L T env σ H fps) (hp : H p = none) : SOk K L T env σ (upd H p o) fps ∧ Le (fr T H fps) (fr T (upd H p o) fps) ∧ fr T (upd H p o) fps p = some o := by
  have le := upd_le (o := o) hp I.trk
  refine ⟨I.keep (upd_keep hp I.trk) le, le, ?_⟩
  rw [fr, hid_out fun z => I.trk _ z hp, upd_same]
theorem all_or {f : As} (b : Addr) : all' (or' f T) fps b ↔ f b ∨ all' T fps b := by
  unfold all' or'
  constructor
  · rintro ((h | h) | h)
    · exact .inl h
    · exact .inr (.inl h)
    · exact .inr (.inr h)
  · rintro (h | h | h)
    · exact .inl (.inl h)
    · exact .inl (.inr h)
    · exact .inr h
/-- a new object that is kept hidden -/
theorem SOk.own {p : Addr} {o : HO} (I : SOk K L T env σ H fps) (hp : H p = none) : SOk K L (or' (one' p) T) env σ (upd H p o) fps ∧ fr (or' (one' p) T) (upd H p o) fps = fr T H fps := by
  have np : ∀ b, all' T fps b → b ≠ p := fun b z e => I.trk b z (by rw [e]; exact hp)
  have e : fr (or' (one' p) T) (upd H p o) fps = fr T H fps := by
    funext b
    by_cases hb : b = p
    · subst hb
      rw [fr, hid_in ((all_or (f := one' b) b).mpr (.inl rfl)), fr, hid_out (fun z => np b z rfl), hp]
    · by_cases z : all' T fps b
      · rw [fr, hid_in ((all_or b).mpr (.inr z)), fr, hid_in z]
      · rw [fr, hid_out (fun q => ((all_or b).mp q).elim hb z), fr, hid_out z, upd_ne hb]
  refine ⟨⟨I.len, fun i b x y => ?_, I.dis, fun b z => ?_, fun i l k d q => ?_, I.out, I.lu⟩, e⟩
  · rcases y with y | y
    · exact np b (.inr ⟨i, x⟩) y
    · exact I.disT i b x y
  · rcases (all_or b).mp z with z | z
    · rw [show b = p from z, upd_same]; exact Option.some_ne_none _
    · rw [upd_ne (np b z)]; exact I.trk b z
  · obtain ⟨v, h1, h2, h3⟩ := I.slot i l k d q
    refine ⟨v, h1, ?_, h3⟩
    rw [show hid (upd H p o) (all' (or' (one' p) T) fps) = fr T H fps from e]
    exact h2.keep k (Le.refl _) fun b z => upd_ne (np b (.inr ⟨i, z⟩))
/-- what was hidden aside is shown -/
theorem SOk.show {f : As} (I : SOk K L (or' f T) env σ H fps) : SOk K L T env σ H fps ∧ Le (fr (or' f T) H fps) (fr T H fps) := by
  have le : Le (fr (or' f T) H fps) (fr T H fps) := hid_mono fun b z => (all_or b).mpr (.inr z)
  refine ⟨⟨I.len, fun i b x y => I.disT i b x (.inr y), I.dis, fun b z => I.trk b ((all_or b).mpr (.inr z)), fun i l k d q => ?_, I.out, I.lu⟩, le⟩
  obtain ⟨v, h1, h2, h3⟩ := I.slot i l k d q
  exact ⟨v, h1, h2.keep k le (fun _ _ => rfl), h3⟩
def setF (fps : Nat → As) (i : Nat) (f : As) : Nat → As := fun j => if j = i then f else fps j
theorem setF_same {fps : Nat → As} {i : Nat} {f : As} : setF fps i f i = f := by unfold setF; rw [if_pos rfl]
theorem setF_ne {fps : Nat → As} {i j : Nat} {f : As} (h : j ≠ i) : setF fps i f j = fps j := by unfold setF; rw [if_neg h]
theorem all_setF {i : Nat} {f : As} {b : Addr} (h : all' T (setF fps i f) b) : f b ∨ all' T fps b := by
  rcases h with h | ⟨j, h⟩
  · exact .inr (.inl h)
  · by_cases e : j = i
    · subst e; rw [setF_same] at h; exact .inl h
    · rw [setF_ne e] at h; exact .inr (.inr ⟨j, h⟩)
/-- a value is stored in a slot that is not lent -/
theorem SOk.set {f : As} {i k : Nat} {v : V} {d : PyData} (I : SOk K L (or' f T) env σ H fps) (hi : i < env.length) (R : Rep K (fr (or' f T) H fps) H k v d f) (dis : Dis f T) :
    SOk K L T (env.set i (.sv false k d)) (σ.set i (some v)) H (setF fps i f) ∧ Le (fr (or' f T) H fps) (fr T H (setF fps i f)) := by
  have le : Le (fr (or' f T) H fps) (fr T H (setF fps i f)) := hid_mono fun b z => (all_or b).mpr ((all_setF z))
  have hσ : i < σ.length := by rw [← I.len]; exact hi
  refine ⟨⟨by simp [I.len], fun j b x y => ?_, fun a j ne b x y => ?_, fun b z => I.trk b ((all_or b).mpr (all_setF z)), fun j l k' d' q => ?_, fun j q => ?_, I.lu⟩, le⟩
  · by_cases e : j = i
    · subst e; rw [setF_same] at x; exact dis b x y
    · rw [setF_ne e] at x; exact I.disT j b x (.inr y)
  · by_cases e : a = i
    · subst e
      rw [setF_same] at x
      rw [setF_ne (Ne.symm ne)] at y
      exact I.disT j b y (.inl x)
    · rw [setF_ne e] at x
      by_cases e' : j = i
      · subst e'
        rw [setF_same] at y
        exact I.disT a b x (.inl y)
      · rw [setF_ne e'] at y
        exact I.dis a j ne b x y
  · by_cases e : j = i
    · subst e
      rw [List.getElem?_set_self hi] at q
      cases q
      refine ⟨v, List.getElem?_set_self hσ, ?_, fun z => nomatch z⟩
      rw [setF_same]
      exact R.keep k le fun _ _ => rfl
    · rw [List.getElem?_set_ne (Ne.symm e)] at q
      obtain ⟨w, h1, h2, h3⟩ := I.slot j l k' d' q
      refine ⟨w, by rw [List.getElem?_set_ne (Ne.symm e)]; exact h1, ?_, h3⟩
      rw [setF_ne e]
      exact h2.keep k' le fun _ _ => rfl
  · by_cases e : j = i
    · subst e
      exact absurd (List.getElem?_set_self hi) (q _ _ _)
    · rw [setF_ne e]
      refine I.out j fun l k' d' z => q l k' d' ?_
      rw [List.getElem?_set_ne (Ne.symm e)]
      exact z
/-- a slot's datum is frozen -/
theorem SOk.freeze {i k : Nat} {l : Bool} {d : PyData} (I : SOk K L T env σ H fps) (h : env[i]? = some (.sv l k d)) :
    ∃ v, σ[i]? = some (some v) ∧ SOk K L T (env.set i (.sv l 0 d)) σ H (setF fps i none') ∧ Le (fr T H fps) (fr T H (setF fps i none')) ∧ Dat K (fr T H (setF fps i none')) v d := by
  have hi : i < env.length := by
    rw [List.getElem?_eq_some_iff] at h; exact h.1
  have le : Le (fr T H fps) (fr T H (setF fps i none')) := hid_mono fun b z => (all_setF z).elim (fun q => q.elim) fun q => q
  obtain ⟨v, h1, h2, h3⟩ := I.slot i l k d h
  have hd : Dat K (fr T H (setF fps i none')) v d := h2.dat k le fun b z => by
    rw [fr, hid_out]
    rintro (q | ⟨j, q⟩)
    · exact I.disT i b z q
    · by_cases e : j = i
      · subst e; rw [setF_same] at q; exact q
      · rw [setF_ne e] at q; exact I.dis j i e b q z
  refine ⟨v, h1, ⟨by simp [I.len], fun j b x y => ?_, fun a j ne b x y => ?_, fun b z => I.trk b ((all_setF z).elim (fun q => q.elim) fun q => q), fun j l' k' d' q => ?_, fun j q => ?_, I.lu⟩, le, hd⟩
  · by_cases e : j = i
    · subst e; rw [setF_same] at x; exact x
    · rw [setF_ne e] at x; exact I.disT j b x y
  · by_cases e : a = i
    · subst e; rw [setF_same] at x; exact x
    · rw [setF_ne e] at x
      by_cases e' : j = i
      · subst e'; rw [setF_same] at y; exact y
      · rw [setF_ne e'] at y; exact I.dis a j ne b x y
  · by_cases e : j = i
    · subst e
      rw [List.getElem?_set_self hi] at q
      cases q
      refine ⟨v, h1, ?_, h3⟩
      rw [setF_same]
      exact ⟨rfl, hd⟩
    · rw [List.getElem?_set_ne (Ne.symm e)] at q
      obtain ⟨w, g1, g2, g3⟩ := I.slot j l' k' d' q
      refine ⟨w, g1, ?_, g3⟩
      rw [setF_ne e]
      exact g2.keep k' le fun _ _ => rfl
  · by_cases e : j = i
    · subst e; rw [setF_same]
    · rw [setF_ne e]
      refine I.out j fun l' k' d' z => q l' k' d' ?_
      rw [List.getElem?_set_ne (Ne.symm e)]
      exact z
/-- a slot's datum is taken out -/
theorem SOk.move {i k : Nat} {l : Bool} {d : PyData} (I : SOk K L T env σ H fps) (h : env[i]? = some (.sv l k d)) :
    ∃ v, σ[i]? = some (some v) ∧ SOk K L (or' (fps i) T) (env.set i .un) σ H (setF fps i none') ∧ fr (or' (fps i) T) H (setF fps i none') = fr T H fps ∧ Rep K (fr T H fps) H k v d (fps i) := by
  have hi : i < env.length := by
    rw [List.getElem?_eq_some_iff] at h; exact h.1
  obtain ⟨v, h1, h2, h3⟩ := I.slot i l k d h
  have al : ∀ b, all' (or' (fps i) T) (setF fps i none') b ↔ all' T fps b := fun b => by
    rw [all_or]
    constructor
    · rintro (q | q)
      · exact .inr ⟨i, q⟩
      · exact (all_setF q).elim (fun z => z.elim) fun z => z
    · rintro (q | ⟨j, q⟩)
      · exact .inr (.inl q)
      · by_cases e : j = i
        · subst e; exact .inl q
        · exact .inr (.inr ⟨j, by rw [setF_ne e]; exact q⟩)
  have e : fr (or' (fps i) T) H (setF fps i none') = fr T H fps := by
    have : all' (or' (fps i) T) (setF fps i none') = all' T fps := funext fun b => propext (al b)
    rw [fr, this]
  refine ⟨v, h1, ⟨by simp [I.len], fun j b x y => ?_, fun a j ne b x y => ?_, fun b z => I.trk b ((al b).mp z), fun j l' k' d' q => ?_, fun j q => ?_, I.lu⟩, e, h2⟩
  · by_cases e : j = i
    · subst e; rw [setF_same] at x; exact x
    · rw [setF_ne e] at x
      exact y.elim (fun y => I.dis j i e b x y) fun y => I.disT j b x y
  · by_cases e : a = i
    · subst e; rw [setF_same] at x; exact x
    · rw [setF_ne e] at x
      by_cases e' : j = i
      · subst e'; rw [setF_same] at y; exact y
      · rw [setF_ne e'] at y; exact I.dis a j ne b x y
  · by_cases ej : j = i
    · subst ej
      rw [List.getElem?_set_self hi] at q
      cases q
    · rw [List.getElem?_set_ne (Ne.symm ej)] at q
      obtain ⟨w, g1, g2, g3⟩ := I.slot j l' k' d' q
      refine ⟨w, g1, ?_, g3⟩
      rw [setF_ne ej, show hid H (all' (or' (fps i) T) (setF fps i none')) = fr T H fps from e]
      exact g2
  · by_cases ej : j = i
    · subst ej; rw [setF_same]
    · rw [setF_ne ej]
      refine I.out j fun l' k' d' z => q l' k' d' ?_
      rw [List.getElem?_set_ne (Ne.symm ej)]
      exact z
end
end Fx
set_option Elab.async false
set_option linter.all false
set_option maxRecDepth 100000
/-! M3: the small language and what it computes. -/
namespace Fx
open PySem PySem.Spec PyProof.Rows L2

inductive Rs (α : Type) where
  | ok (a : α)
  | ex (x : PyData)
  | bad
def Rs.bind {α β : Type} : Rs α → (α → Rs β) → Rs β
  | .ok a, f => f a
  | .ex x, _ => .ex x
  | .bad, _ => .bad
def Rs.of {α : Type} : Option α → Rs α
  | some a => .ok a
  | none => .bad

inductive Ty where | int | bool | str | tuple | list | dict
inductive B2 where | add | sub | mul | fdiv | mod | pow | shr | shl
inductive C2 where | eq | ne | lt | le | gt | ge | inn | nin
inductive P1 where | neg | int | abs | len

/-- pure: nothing is made, nothing is changed -/
inductive P where
  | k (d : PyData)
  | at (i : Nat)
  | g (n : Nat)
  | ix (a b : P)
  | b2 (o : B2) (a b : P)
  | p1 (o : P1) (a : P)
mutual
inductive Tg where
  | nm (i : Nat)
  | tp (ts : Tgs)
inductive Tgs where
  | nil
  | cons (t : Tg) (ts : Tgs)
end
inductive Bi where | len | abs | int | tuple | list | sorted | sum | min | max | min2 | max2
inductive Mu where | append | pop | popAt | reverse | extend
mutual
inductive E where
  | p (p : P)
  | tup (es : Es)
  | lst (es : Es)
  | dnew
  | b2 (o : B2) (a b : E)
  | neg (a : E)
  | c2 (o : C2) (a b : E)
  | isN (a : E) (neg : Bool)
  | isB (a : E) (b : Bool)
  | ch (o o' : C2) (a b c : E)
  | not (a : E)
  | and (a b : E)
  | or (a b : E)
  | ite (t : Tt) (a b : E)
  | ix (a b : E)
  | sl (a : E) (lo hi : Eo)
  | rev (a : E)
  | isa (t : Ty) (a : E)
  | bi (b : Bi) (es : Es)
  | mu (m : Mu) (i : Nat) (ps : List P) (ke : Nat) (es : Es)
  | call (f : Nat) (pm : Option (List Nat)) (as : Ar)
  | lc (own : List Nat) (tg : Tg) (it : It) (ts : Tts) (e : E)
  | nev
inductive Eo where
  | none
  | some (e : E)
inductive Es where
  | nil
  | cons (e : E) (es : Es)
inductive Ar where
  | nil
  | v (e : E) (as : Ar)
  | l (i : Nat) (as : Ar)
inductive It where
  | e (e : E)
  | range (es : Es)
inductive Tt where
  | c2 (o : C2) (a b : E)
  | ch (o o' : C2) (a b c : E)
  | isN (a : E) (neg : Bool)
  | isB (a : E) (b : Bool)
  | not (t : Tt)
  | and (t u : Tt)
  | or (t u : Tt)
  | v (e : E)
inductive Tts where
  | nil
  | cons (t : Tt) (ts : Tts)
end
mutual
inductive S where
  | as (t : Tg) (k : Nat) (e : E)
  | par (i j : Nat) (ki kj : Nat) (a b : E)
  | put (i : Nat) (ps : List P) (x : P) (k : Nat) (e : E)
  | aug (i : Nat) (o : B2) (e : E)
  | augp (i : Nat) (ps : List P) (x : P) (o : B2) (e : P)
  | ex (e : E)
  | iff (t : Tt) (a b : Ss)
  | for (tg : Tg) (it : It) (b : Ss)
  | whl (t : Tt) (b : Ss)
  | ret (e : E)
  | retN
  | brk
  | cont
  | pas
  | nev
inductive Ss where
  | nil
  | cons (s : S) (ss : Ss)
end

/-! ### values -/
def bitsOk (a b : Int) : Bool := decide (a.natAbs.log2 < 64) || decide (b.natAbs.log2 < 64) || decide (a.natAbs.log2 + b.natAbs.log2 < 134000000)
def b2 : B2 → PyData → PyData → Option PyData
  | .add, .int a, .int b => some (.int (a + b))
  | .add, .str a, .str b => if a.length + b.length ≤ 16777216 then some (.str (a ++ b)) else none
  | .add, .tuple a, .tuple b => if a.length + b.length ≤ 16777216 then some (.tuple (a ++ b)) else none
  | .add, .list a, .list b => if a.length + b.length ≤ 16777216 then some (.list (a ++ b)) else none
  | .sub, .int a, .int b => some (.int (a - b))
  | .mul, .int a, .int b => if bitsOk a b = true then some (.int (a * b)) else none
  | .mul, .list a, .int b => if b < 9223372036854775808 ∧ -9223372036854775808 ≤ b ∧ a.length * b.toNat ≤ 16777216 then some (.list (List.replicate b.toNat a).flatten) else none
  | .fdiv, .int a, .int b => if b ≠ 0 ∧ b.natAbs.log2 < 9000 then some (.int (a.fdiv b)) else none
  | .mod, .int a, .int b => if b ≠ 0 then some (.int (a.fmod b)) else none
  | .pow, .int a, .int b => if 0 ≤ b ∧ b ≤ 1000000 ∧ a.natAbs < 2 ^ 64 then some (.int (a ^ b.toNat)) else none
  | .shl, .int a, .int b => if 0 ≤ b ∧ b ≤ 1000000 ∧ a.natAbs < 2 ^ 64 then some (.int (a * 2 ^ b.toNat)) else none
  | .shr, .int a, .int b => if 0 ≤ b then some (.int (a / 2 ^ b.toNat)) else none
  | _, _, _ => none
def anyEq (x : PyData) (xs : List PyData) : Bool := xs.any fun y => PyData.eqv y x
/-- x == y may be asked -/
def eqOk (d : PyData) : Bool := SeqAt.shaped d && d.plain
/-- x < y may be asked -/
def ltOk (a b : PyData) : Bool := PySem.W.alike a b && a.plain && b.plain && decide (a.depth ≤ 64) && (match a with | .none => false | _ => true)
def inOk (x : PyData) (xs : List PyData) : Bool := x.plain && PyData.plainAll xs && decide (x.depth ≤ 64)
def ii : PyData → PyData → Option (Int × Int)
  | .int i, .int j => some (i, j)
  | _, _ => none
theorem ii_some {a b : PyData} {p : Int × Int} (h : ii a b = some p) : a = .int p.1 ∧ b = .int p.2 := by
  cases a <;> cases b <;> first | (cases h; exact ⟨rfl, rfl⟩) | cases h
def c2 : C2 → PyData → PyData → Option Bool
  | .eq, a, b => match ii a b with
    | some p => some (decide (p.1 = p.2))
    | none => if eqOk a = true ∧ eqOk b = true then some (PyData.eqv a b) else none
  | .ne, a, b => match ii a b with
    | some p => some (!decide (p.1 = p.2))
    | none => if eqOk a = true ∧ eqOk b = true then some (!PyData.eqv a b) else none
  | .lt, a, b => match ii a b with
    | some p => some (decide (p.1 < p.2))
    | none => if ltOk a b = true then some (PySem.W.dataLt a b) else none
  | .le, a, b => match ii a b with
    | some p => some (decide (p.1 ≤ p.2))
    | none => if ltOk a b = true then some (!PySem.W.dataLt b a) else none
  | .gt, a, b => match ii a b with
    | some p => some (decide (p.2 < p.1))
    | none => if ltOk a b = true then some (PySem.W.dataLt b a) else none
  | .ge, a, b => match ii a b with
    | some p => some (decide (p.2 ≤ p.1))
    | none => if ltOk a b = true then some (!PySem.W.dataLt a b) else none
  | .inn, x, y => match y with
    | .list xs => if inOk x xs = true then some (anyEq x xs) else none
    | .tuple xs => if inOk x xs = true then some (anyEq x xs) else none
    | _ => none
  | .nin, x, y => match y with
    | .list xs => if inOk x xs = true then some (!anyEq x xs) else none
    | .tuple xs => if inOk x xs = true then some (!anyEq x xs) else none
    | _ => none
def p1 : P1 → PyData → Option PyData
  | .neg, .int a => some (.int (-a))
  | .int, .int a => some (.int a)
  | .int, .bool b => some (.int (if b then 1 else 0))
  | .abs, .int a => some (.int (if a < 0 then -a else a))
  | .len, .list xs => some (.int xs.length)
  | .len, .tuple xs => some (.int xs.length)
  | .len, .str x => if x.length ≤ 16777216 then some (.int x.length) else none
  | _, _ => none
/-- an item -/
def ixD : PyData → PyData → Option PyData
  | .list xs, .int i => atI xs i
  | .tuple xs, .int i => atI xs i
  | .str x, .int i => if x.length ≤ 16777216 then (atI x.cps.toList i).map fun c => .str ⟨#[c]⟩ else none
  | _, _ => none
def cutD (xs : List PyData) (lo hi : Option Int) : List PyData := (xs.drop (HT.sIx xs.length 0 lo)).take (HT.sIx xs.length xs.length hi - HT.sIx xs.length 0 lo)
def slD : PyData → Option Int → Option Int → Option PyData
  | .list xs, lo, hi => some (.list (cutD xs lo hi))
  | .tuple xs, lo, hi => some (.tuple (cutD xs lo hi))
  | _, _, _ => none
def revD : PyData → Option PyData
  | .list xs => some (.list xs.reverse)
  | _ => none
def allInt : List PyData → Option (List Int)
  | [] => some []
  | .int i :: ds => (allInt ds).map (i :: ·)
  | _ :: _ => none
def isTy : Ty → PyData → Bool
  | .int, .int _ => true
  | .int, .bool _ => true
  | .bool, .bool _ => true
  | .str, .str _ => true
  | .tuple, .tuple _ => true
  | .list, .list _ => true
  | .dict, .dict _ => true
  | _, _ => false
def isaD (t : Ty) (d : PyData) : Option PyData := if d.plain = true then some (.bool (isTy t d)) else none
def isDict : PyData → Bool
  | .dict _ => true
  | _ => false
/-- xs can be sorted -/
def alikeOk (xs : List PyData) : Bool := (xs.all fun x => xs.all fun y => PySem.W.alike x y) && decide (PyData.depthAll xs ≤ 64)
def sortOk (xs : List PyData) : Bool := decide (xs.length ≤ 16777216) && alikeOk xs &&
  (xs.all (fun x => match x with | .tuple (_ :: _) => true | _ => false) || xs.all (fun x => match x with | .tuple _ => false | .none => false | _ => true))
def sortD (xs : List PyData) : List PyData := xs.mergeSort (PySem.W.dataLe false id)
def noNone (xs : List PyData) : Bool := xs.all fun x => match x with | .none => false | _ => true
def g2 (f : PyData → PyData → Option PyData) : List PyData → Option PyData
  | [x, y] => f x y
  | _ => none
def g1 (f : PyData → Option PyData) : List PyData → Option PyData
  | [x] => f x
  | _ => none
def tupD : PyData → Option PyData
  | .list xs => some (.tuple xs)
  | .tuple xs => some (.tuple xs)
  | _ => none
def lstD : PyData → Option PyData
  | .list xs => some (.list xs)
  | .tuple xs => some (.list xs)
  | _ => none
def sumD : PyData → Option PyData
  | .list xs => (allInt xs).map fun ns => .int ns.sum
  | _ => none
def sortedD : PyData → Option PyData
  | .list xs => if sortOk xs = true then some (.list (sortD xs)) else none
  | _ => none
def minDd : PyData → Option PyData
  | .list (x :: xs) => if (alikeOk (x :: xs) && noNone (x :: xs) && !isCont (PySem.W.minD x xs)) = true then some (PySem.W.minD x xs) else none
  | _ => none
def maxDd : PyData → Option PyData
  | .list (x :: xs) => if (alikeOk (x :: xs) && noNone (x :: xs) && !isCont (PySem.W.maxD x xs)) = true then some (PySem.W.maxD x xs) else none
  | _ => none
def max2D : PyData → PyData → Option PyData
  | .int i, .int j => some (.int (if j > i then j else i))
  | _, _ => none
def min2D : PyData → PyData → Option PyData
  | .int i, .int j => some (.int (if j < i then j else i))
  | _, _ => none
def bi : Bi → List PyData → Option PyData
  | .len => g1 (p1 .len)
  | .abs => g1 (p1 .abs)
  | .int => g1 (p1 .int)
  | .tuple => g1 tupD
  | .list => g1 lstD
  | .sorted => g1 sortedD
  | .sum => g1 sumD
  | .min => g1 minDd
  | .max => g1 maxDd
  | .min2 => g2 min2D
  | .max2 => g2 max2D
def truth : PyData → Option Bool
  | .none => some false
  | .bool b => some b
  | .int i => some (i != 0)
  | .str x => if x.length ≤ 16777216 then some (!x.cps.isEmpty) else none
  | .list xs => some (!xs.isEmpty)
  | .tuple xs => some (!xs.isEmpty)
  | .dict _ => none

/-! ### slots and paths -/
def slot (env : EnvD) (i : Nat) : Option (Nat × PyData) := match env[i]? with
  | some (.sv _ k d) => some (k, d)
  | _ => none
def setS (env : EnvD) (i : Nat) (k : Nat) (d : PyData) : Option EnvD := match env[i]? with
  | some (.sv true _ _) => none
  | some _ => some (env.set i (.sv false k d))
  | none => none
mutual
def bindT : Tg → PyData → EnvD → Option EnvD
  | .nm i, d, env => setS env i 0 d
  | .tp ts, .tuple ds, env => bindTs ts ds env
  | .tp ts, .list ds, env => bindTs ts ds env
  | .tp _, _, _ => none
def bindTs : Tgs → List PyData → EnvD → Option EnvD
  | .nil, [], env => some env
  | .cons t ts, d :: ds, env => (bindT t d env).bind fun e => bindTs ts ds e
  | _, _, _ => none
end
/-- the functions that may be called, how deep their results are owned, the constants of the module -/
structure Orc where
  fn : Nat → List SV → Rs (PyData × List SV)
  ret : Nat → Nat
  con : Nat → Option PyData
def scal : PyData → Option PyData
  | .int i => some (.int i)
  | .str s => some (.str s)
  | _ => none
def evP (c : Orc) : P → EnvD → Option (Nat × PyData)
  | .k d, _ => some (0, d)
  | .at i, env => slot env i
  | .g n, _ => (c.con n).map fun d => (0, d)
  | .ix a b, env => (evP c a env).bind fun x => (evP c b env).bind fun y => (ixD x.2 y.2).map fun d => ((if isCont x.2 = true then x.1 - 1 else 0), d)
  | .b2 o a b, env => (evP c a env).bind fun x => (evP c b env).bind fun y => ((b2 o x.2 y.2).bind scal).map fun d => (0, d)
  | .p1 o a, env => (evP c a env).bind fun x => (p1 o x.2).map fun d => (0, d)
/-- a pure one as a value to be owned to depth k: a frozen datum, no container, or a whole slot (which is frozen, or taken) -/
def evPk (c : Orc) (p : P) (k : Nat) (env : EnvD) : Option (PyData × EnvD) := match evP c p env with
  | none => none
  | some (j, d) => if isCont d = false ∨ (k = 0 ∧ j = 0) then some (d, env) else match p with
    | .at i => (match env[i]? with
      | some (.sv l j' _) => if k = 0 then some (d, env.set i (.sv l 0 d)) else if l = false ∧ j' = k then some (d, env.set i .un) else none
      | _ => none)
    | _ => none
/-- read where it stands: its own items are frozen -/
def evPb (c : Orc) (p : P) (env : EnvD) : Option PyData := match evP c p env with
  | none => none
  | some (j, d) => if j ≤ 1 ∨ isCont d = false then some d else none
/-- the path of a slot: the last index first in ps, last in the result -/
def pathR (c : Orc) (env : EnvD) : List P → Option (List PyData)
  | [] => some []
  | p :: ps => (pathR c env ps).bind fun js => (evP c p env).map fun x => js ++ [x.2]
def alterD (f : PyData → Option (PyData × PyData)) : List PyData → PyData → Option (PyData × PyData)
  | [], d => f d
  | .int i :: js, .list xs => (ixN xs.length i).bind fun j => (xs[j]?).bind fun d => (alterD f js d).map fun r => (.list (xs.set j r.1), r.2)
  | _, _ => none
/-- the place at a path -/
def walkD : List PyData → PyData → Option PyData
  | [], d => some d
  | .int i :: js, .list xs => (ixN xs.length i).bind fun j => (xs[j]?).bind fun d => walkD js d
  | _, _ => none
def muD : Mu → List PyData → List PyData → Option (List PyData × PyData)
  | .append, xs, [y] => if xs.length < 16777216 then some (xs ++ [y], .none) else none
  | .pop, xs, [] => (xs[xs.length - 1]?).map fun y => (xs.dropLast, y)
  | .popAt, xs, [.int i] => if -9223372036854775808 ≤ i ∧ i < 9223372036854775808 then (ixN xs.length i).bind fun j => (xs[j]?).map fun y => (xs.eraseIdx j, y) else none
  | .reverse, xs, [] => some (xs.reverse, .none)
  | .extend, _, _ => none
  | _, _, _ => none
def muF (m : Mu) (as : List PyData) : PyData → Option (PyData × PyData)
  | .list xs => (muD m xs as).map fun r => (.list r.1, r.2)
  | _ => none
def putF' (x y : PyData) : PyData → Option (PyData × PyData)
  | .list xs => match x with
    | .int i => (ixN xs.length i).bind fun j => (xs[j]?).map fun _ => (.list (xs.set j y), .none)
    | _ => none
  | _ => none
def ipOk : B2 → PyData → PyData → Bool
  | .add, .int _, .int _ => true
  | .add, .str _, .str _ => true
  | .sub, .int _, .int _ => true
  | .mul, .int _, .int _ => true
  | .fdiv, .int _, .int b => decide (0 < b)
  | .mod, .int _, .int b => decide (0 < b)
  | _, _, _ => false
/-- a op= b -/
def ipD (o : B2) (a b : PyData) : Option PyData := if ipOk o a b = true then b2 o a b else none
def isListS (env : EnvD) (i : Nat) : Bool := match slot env i with
  | some (_, .list _) => true
  | _ => false
/-- the datum d of slot i, owned to the depth k, is altered at a path whose place is owned to the depth n -/
def alterAt (env : EnvD) (i : Nat) (l : Bool) (k : Nat) (d : PyData) (n : Nat) (js : List PyData) (f : PyData → Option (PyData × PyData)) : Option (PyData × EnvD) :=
  if k = js.length + n then (alterD f js d).map fun r => (r.2, env.set i (.sv l k r.1)) else none
/-- a list stands at the path, its items owned to the depth ke -/
def pathOk (js : List PyData) (k0 ke : Nat) (d : PyData) : Bool := decide (k0 = js.length + (ke + 1)) && (match walkD js d with
  | some (.list _) => true
  | _ => false)
def alterS (c : Orc) (env : EnvD) (i n : Nat) (ps : List P) (f : PyData → Option (PyData × PyData)) : Option (PyData × EnvD) :=
  (pathR c env ps).bind fun js => match env[i]? with
    | some (.sv l k d) => alterAt env i l k d n js f
    | _ => none

/-- d[js][j] op= y, item by item -/
def augS (c : Orc) (env : EnvD) (i : Nat) (ps : List P) (o : B2) (j y : PyData) : Option (PyData × EnvD) :=
  (pathR c env ps).bind fun js => match env[i]? with
    | some (.sv l k d) => (walkD js d).bind fun n => (ixD n j).bind fun x => (ipD o x y).bind fun z => alterAt env i l k d 1 js (putF' j z)
    | _ => none

def wipeD (env : EnvD) : List Nat → EnvD
  | [] => env
  | i :: is => (wipeD env is).set i .un
def ownOk (env : EnvD) (own : List Nat) : Bool := own.all fun i => match env[i]? with
  | some .un => true
  | some (.sv false 0 _) => true
  | _ => false
def backD (old env : EnvD) : List Nat → EnvD
  | [] => env
  | i :: is => (backD old env is).set i (old[i]?.getD .un)

inductive Fl where
  | nx (env : EnvD)
  | rt (d : PyData) (env : EnvD)
  | bk (env : EnvD)
  | ct (env : EnvD)
def forL (bind : PyData → EnvD → Option EnvD) (body : EnvD → Rs Fl) : List PyData → EnvD → Rs Fl
  | [], env => .ok (.nx env)
  | x :: xs, env => (Rs.of (bind x env)).bind fun e => (body e).bind fun f => match f with
      | .nx e' => forL bind body xs e'
      | .ct e' => forL bind body xs e'
      | .bk e' => .ok (.nx e')
      | .rt d e' => .ok (.rt d e')
/-- n turns at most -/
def whlN (t : EnvD → Rs (Bool × EnvD)) (body : EnvD → Rs Fl) : Nat → EnvD → Rs Fl
  | 0, _ => .bad
  | n + 1, env => (t env).bind fun r => match r.1 with
    | false => .ok (.nx r.2)
    | true => (body r.2).bind fun f => match f with
      | .nx e' => whlN t body n e'
      | .ct e' => whlN t body n e'
      | .bk e' => .ok (.nx e')
      | .rt d e' => .ok (.rt d e')
def Rs.isBad {α : Type} : Rs α → Bool
  | .bad => true
  | _ => false
open Classical in
noncomputable def whlD (t : EnvD → Rs (Bool × EnvD)) (body : EnvD → Rs Fl) (env : EnvD) : Rs Fl :=
  if h : ∃ n, (whlN t body n env).isBad = false then whlN t body h.choose env else .bad

/-- no exception may leave -/
def Rs.noEx {α : Type} : Rs α → Rs α
  | .ok a => .ok a
  | _ => .bad
/-- the loop of a list comprehension -/
def lcL (bind : PyData → EnvD → Option EnvD) (own : List Nat) (t : EnvD → Rs (Bool × EnvD)) (f : EnvD → Rs (PyData × EnvD)) : List PyData → EnvD → Rs (List PyData × EnvD)
  | [], env => .ok ([], env)
  | x :: xs, env => (Rs.of (bind x env)).bind fun e => (t e).noEx.bind fun r => match r.1 with
      | false => lcL bind own t f xs (wipeD r.2 own)
      | true => (f r.2).noEx.bind fun y => (lcL bind own t f xs (wipeD y.2 own)).bind fun z => .ok (y.1 :: z.1, z.2)
def allP : Es → Bool
  | .nil => true
  | .cons (.p _) es => allP es
  | .cons _ _ => false
/-- operands: early ones as data; late ones, read in the end -/
def finO (c : Orc) (env : EnvD) : List (PyData ⊕ P) → Option (List PyData)
  | [] => some []
  | .inl d :: r => (finO c env r).map (d :: ·)
  | .inr p :: r => (evPb c p env).bind fun d => (finO c env r).map (d :: ·)
def lateE : E → Bool → Bool
  | .p (.at _), _ => true
  | .p _, b => b
  | _, _ => false
def toP : E → P
  | .p p => p
  | _ => .k .none
abbrev Ops := EnvD → Rs (List (PyData ⊕ P) × EnvD)
def opd (c : Orc) (late : Bool) (p : P) (v : EnvD → Rs (PyData × EnvD)) (rest : Ops) : Ops := fun env =>
  if late = true then (if (evP c p env).isSome = true then (rest env).bind fun z => .ok (.inr p :: z.1, z.2) else .bad) else (v env).bind fun r => (rest r.2).bind fun z => .ok (.inl r.1 :: z.1, z.2)
def isP : E → Bool
  | .p _ => true
  | _ => false
/-- two operands -/
def opd2 (c : Orc) (a b : E) (va vb : EnvD → Rs (PyData × EnvD)) : Ops := opd c (lateE a (isP b)) (toP a) va (opd c (lateE b true) (toP b) vb fun env => .ok ([], env))
def opd1 (c : Orc) (a : E) (va : EnvD → Rs (PyData × EnvD)) : Ops := opd c (lateE a true) (toP a) va fun env => .ok ([], env)
def fin (c : Orc) (o : Ops) (g : List PyData → Option PyData) : EnvD → Rs (PyData × EnvD) := fun env => (o env).bind fun z => (Rs.of ((finO c z.2 z.1).bind g)).bind fun d => .ok (d, z.2)
/-- the values of lent slots behind a call -/
def lentBack : List (Option Nat) → List SV → EnvD → EnvD
  | some i :: is, .sv true k d :: r, env => lentBack is r (match env[i]? with
    | some (.sv l _ _) => env.set i (.sv l k d)
    | _ => env)
  | some i :: is, _ :: r, env => lentBack is r (env.set i .un)
  | _ :: is, _ :: r, env => lentBack is r env
  | _, _, env => env
def permD {α : Type} (pm : Option (List Nat)) (xs : List α) : Option (List α) := match pm with
  | none => some xs
  | some js => if js.length = xs.length ∧ js.Nodup then js.mapM fun j => xs[j]? else none
def rangeD : List PyData → Option (List PyData)
  | [.int b] => if -4611686018427387904 ≤ b ∧ b < 4611686018427387904 then some ((List.range b.toNat).map fun (i : Nat) => PyData.int (i : Int)) else none
  | [.int a, .int b] => if -4611686018427387904 ≤ a ∧ a < 4611686018427387904 ∧ -4611686018427387904 ≤ b ∧ b < 4611686018427387904 then some ((List.range (b - a).toNat).map fun (i : Nat) => PyData.int (a + (i : Int))) else none
  | _ => none
def itemsD : PyData → Option (List PyData)
  | .list xs => some xs
  | .tuple xs => some xs
  | _ => none
/-- a result of one's own: k at most 1 where it is a container -/
def own1 (k : Nat) (d : PyData) : Option PyData := if k ≤ 1 ∨ isCont d = false then some d else none
def c2B (o : C2) (x y : PyData) : Option PyData := (c2 o x y).map .bool
def isNone : PyData → Bool
  | .none => true
  | _ => false
def isBool (b : Bool) : PyData → Option PyData
  | .bool x => some (.bool (decide (x = b)))
  | _ => none
def argSV : List (Option Nat) → List PyData → EnvD → Option (List SV)
  | [], _, _ => some []
  | none :: r, d :: ds, env => (argSV r ds env).map (.sv false 0 d :: ·)
  | some i :: r, ds, env => (match env[i]? with
    | some (.sv _ k d) => (argSV r ds env).map (.sv true k d :: ·)
    | _ => none)
  | none :: _, [], _ => none
def lents : Ar → List (Option Nat)
  | .nil => []
  | .v _ as => none :: lents as
  | .l i as => some i :: lents as
def callD (c : Orc) (f k : Nat) (pm : Option (List Nat)) (ls : List (Option Nat)) (ds : List PyData) (env : EnvD) : Rs (PyData × EnvD) :=
  if (ls.filterMap id).Nodup then (Rs.of ((argSV ls ds env).bind (permD pm))).bind fun as => (Rs.of (permD pm ls)).bind fun ls' => (c.fn f as).bind fun r =>
    if isCont r.1 = false ∨ k = 0 ∨ k = c.ret f then .ok (r.1, lentBack ls' r.2 env) else .bad
  else .bad

mutual
/-- e to be owned to the depth k (0: frozen) -/
noncomputable def ev (c : Orc) : E → Nat → EnvD → Rs (PyData × EnvD)
  | .p p, k, env => Rs.of (evPk c p k env)
  | .tup es, _, env => (evs c es 0 env).bind fun r => if r.1.length ≤ 16777216 then .ok (.tuple r.1, r.2) else .bad
  | .lst es, k, env => (evs c es (k - 1) env).bind fun r => if r.1.length ≤ 16777216 then .ok (.list r.1, r.2) else .bad
  | .dnew, _, env => .ok (.dict [], env)
  | .b2 o a b, k, env => fin c (opd2 c a b (ev c a 0) (ev c b 0)) (fun ds => (g2 (b2 o) ds).bind (own1 k)) env
  | .neg a, _, env => fin c (opd1 c a (ev c a 0)) (g1 (p1 .neg)) env
  | .c2 o a b, _, env => fin c (opd2 c a b (ev c a 0) (ev c b 0)) (g2 (c2B o)) env
  | .isN a n, _, env => fin c (opd1 c a (ev c a 0)) (g1 fun d => some (.bool (isNone d ^^ n))) env
  | .isB a b, _, env => fin c (opd1 c a (ev c a 0)) (g1 (isBool b)) env
  | .ch o o' x y z, _, env => (ev c x 0 env).bind fun r1 => (ev c y 0 r1.2).bind fun r2 => (Rs.of (c2 o r1.1 r2.1)).bind fun t => match t with
    | false => .ok (.bool false, r2.2)
    | true => (ev c z 0 r2.2).bind fun r3 => (Rs.of (c2 o' r2.1 r3.1)).bind fun u => .ok (.bool u, r3.2)
  | .not a, _, env => (ev c a 0 env).bind fun r => (Rs.of (truth r.1)).bind fun t => .ok (.bool (!t), r.2)
  | .and a b, k, env => (ev c a 0 env).bind fun r => (Rs.of (truth r.1)).bind fun t => if t = true then ev c b k r.2 else if isCont r.1 = false ∨ k = 0 then .ok r else .bad
  | .or a b, k, env => (ev c a 0 env).bind fun r => (Rs.of (truth r.1)).bind fun t => if t = true then (if isCont r.1 = false ∨ k = 0 then .ok r else .bad) else ev c b k r.2
  | .ite t a b, k, env => (evT c t env).bind fun r => if r.1 = true then ev c a k r.2 else ev c b k r.2
  | .ix a b, k, env => fin c (opd2 c a b (ev c a 0) (ev c b 0)) (fun ds => (g2 ixD ds).bind fun d => if k = 0 ∨ isCont d = false then some d else none) env
  | .sl a lo hi, k, env => (ev c a 0 env).bind fun r => (evO c lo r.2).bind fun l => (evO c hi l.2).bind fun u => (Rs.of ((slD r.1 l.1 u.1).bind (own1 k))).bind fun d => .ok (d, u.2)
  | .rev a, k, env => fin c (opd1 c a (ev c a 0)) (fun ds => (g1 revD ds).bind (own1 k)) env
  | .isa t a, _, env => fin c (opd1 c a (ev c a 0)) (g1 (isaD t)) env
  | .bi b es, k, env => fin c (evA c es) (fun ds => (bi b ds).bind (own1 k)) env
  | .mu m i ps ke es, k, env => (match ps with
    | [] => if isListS env i = true then (evs c es ke env).bind fun r => (Rs.of (alterS c r.2 i (ke + 1) [] (muF m r.1))).bind fun z => if isCont z.1 = false ∨ k = ke then .ok z else .bad else .bad
    | ps => (match pathR c env ps, env[i]? with
      | some js, some (.sv l k0 d) => if pathOk js k0 ke d = true then (evs c es ke (env.set i .un)).bind fun r => (Rs.of (alterAt r.2 i l k0 d (ke + 1) js (muF m r.1))).bind fun z => if isCont z.1 = false ∨ k = ke then .ok z else .bad else .bad
      | _, _ => .bad))
  | .call f pm as, k, env => (evR c as env).bind fun r => callD c f k pm (lents as) r.1 r.2
  | .lc own tg it ts e, k, env => if ownOk env own = false then .bad else (evI c it env).bind fun r =>
      if ownOk r.2 own = false then .bad else
      (lcL (bindT tg) own (evTs c ts) (ev c e (k - 1)) r.1 (wipeD r.2 own)).bind fun z => if z.1.length ≤ 16777216 then .ok (.list z.1, backD r.2 z.2 own) else .bad
  | .nev, _, _ => .bad
noncomputable def evO (c : Orc) : Eo → EnvD → Rs (Option Int × EnvD)
  | .none, env => .ok (none, env)
  | .some e, env => (ev c e 0 env).bind fun r => match r.1 with
    | .int i => .ok (some i, r.2)
    | _ => .bad
noncomputable def evs (c : Orc) : Es → Nat → EnvD → Rs (List PyData × EnvD)
  | .nil, _, env => .ok ([], env)
  | .cons e es, k, env => (ev c e k env).bind fun r => (evs c es k r.2).bind fun z => .ok (r.1 :: z.1, z.2)
noncomputable def evA (c : Orc) : Es → Ops
  | .nil => fun env => .ok ([], env)
  | .cons e es => opd c (lateE e (allP es)) (toP e) (ev c e 0) (evA c es)
noncomputable def evR (c : Orc) : Ar → EnvD → Rs (List PyData × EnvD)
  | .nil, env => .ok ([], env)
  | .v e as, env => (ev c e 0 env).bind fun r => (evR c as r.2).bind fun z => .ok (r.1 :: z.1, z.2)
  | .l i as, env => if (slot env i).isSome = true then evR c as env else .bad
noncomputable def evI (c : Orc) : It → EnvD → Rs (List PyData × EnvD)
  | .e e, env => (ev c e 0 env).bind fun r => (Rs.of (itemsD r.1)).bind fun xs => .ok (xs, r.2)
  | .range es, env => (evs c es 0 env).bind fun r => (Rs.of (rangeD r.1)).bind fun xs => .ok (xs, r.2)
noncomputable def evT (c : Orc) : Tt → EnvD → Rs (Bool × EnvD)
  | .c2 o a b, env => (fin c (opd2 c a b (ev c a 0) (ev c b 0)) (g2 (c2B o)) env).bind fun r => match r.1 with
    | .bool x => .ok (x, r.2)
    | _ => .bad
  | .ch o o' x y z, env => (ev c x 0 env).bind fun r1 => (ev c y 0 r1.2).bind fun r2 => (Rs.of (c2 o r1.1 r2.1)).bind fun t => match t with
    | false => .ok (false, r2.2)
    | true => (ev c z 0 r2.2).bind fun r3 => (Rs.of (c2 o' r2.1 r3.1)).bind fun u => .ok (u, r3.2)
  | .isN a n, env => (fin c (opd1 c a (ev c a 0)) (g1 fun d => some (.bool (isNone d ^^ n))) env).bind fun r => match r.1 with
    | .bool x => .ok (x, r.2)
    | _ => .bad
  | .isB a b, env => (fin c (opd1 c a (ev c a 0)) (g1 (isBool b)) env).bind fun r => match r.1 with
    | .bool x => .ok (x, r.2)
    | _ => .bad
  | .not t, env => (evT c t env).bind fun r => .ok (!r.1, r.2)
  | .and t u, env => (evT c t env).bind fun r => if r.1 = true then evT c u r.2 else .ok (false, r.2)
  | .or t u, env => (evT c t env).bind fun r => if r.1 = true then .ok (true, r.2) else evT c u r.2
  | .v e, env => (fin c (opd1 c e (ev c e 0)) (g1 fun d => (truth d).map .bool) env).bind fun r => match r.1 with
    | .bool x => .ok (x, r.2)
    | _ => .bad
noncomputable def evTs (c : Orc) : Tts → EnvD → Rs (Bool × EnvD)
  | .nil, env => .ok (true, env)
  | .cons t ts, env => (evT c t env).bind fun r => if r.1 = true then evTs c ts r.2 else .ok (false, r.2)
end
mutual
/-- a statement; what is returned is to be owned to the depth rk -/
noncomputable def exS (c : Orc) (rk : Nat) : S → EnvD → Rs Fl
  | .as (.nm i) k e, env => (ev c e k env).bind fun r => (Rs.of (setS r.2 i k r.1)).bind fun e' => .ok (.nx e')
  | .as tg _ e, env => (ev c e 0 env).bind fun r => (Rs.of (bindT tg r.1 r.2)).bind fun e' => .ok (.nx e')
  | .par i j ki kj a b, env => (ev c a ki env).bind fun r => (ev c b kj r.2).bind fun z => (Rs.of ((setS z.2 i ki r.1).bind fun e => setS e j kj z.1)).bind fun e' => .ok (.nx e')
  | .put i ps x k e, env => (ev c e k env).bind fun r => (Rs.of ((evP c x r.2).bind fun x => alterS c r.2 i (k + 1) ps (putF' x.2 r.1))).bind fun z => .ok (.nx z.2)
  | .aug i o e, env => if (slot env i).isSome = true then (ev c e 0 env).bind fun r => (Rs.of ((slot r.2 i).bind fun x => ((ipD o x.2 r.1).bind fun d => setS r.2 i 0 d))).bind fun e' => .ok (.nx e') else .bad
  | .augp i ps x o e, env => (Rs.of ((evP c x env).bind fun j => (evP c e env).bind fun y => augS c env i ps o j.2 y.2)).bind fun z => .ok (.nx z.2)
  | .ex e, env => (ev c e 0 env).bind fun r => .ok (.nx r.2)
  | .iff t a b, env => (evT c t env).bind fun r => if r.1 = true then exs c rk a r.2 else exs c rk b r.2
  | .for tg it b, env => (evI c it env).bind fun r => forL (bindT tg) (exs c rk b) r.1 r.2
  | .whl t b, env => whlD (evT c t) (exs c rk b) env
  | .ret e, env => (ev c e rk env).bind fun r => .ok (.rt r.1 r.2)
  | .retN, env => .ok (.rt .none env)
  | .brk, env => .ok (.bk env)
  | .cont, env => .ok (.ct env)
  | .pas, env => .ok (.nx env)
  | .nev, _ => .bad
noncomputable def exs (c : Orc) (rk : Nat) : Ss → EnvD → Rs Fl
  | .nil, env => .ok (.nx env)
  | .cons s ss, env => (exS c rk s env).bind fun f => match f with
    | .nx e => exs c rk ss e
    | f => .ok f
end
/-- a def: how many parameters and names, which parameters are lent, how deep the result is owned -/
structure Fn where
  np : Nat
  n : Nat
  lo : List Bool
  ret : Nat
  body : Ss
def lentOk : List Bool → List SV → Bool
  | [], [] => true
  | l :: ls, .sv l' k _ :: r => (l == l') && (l || k == 0) && lentOk ls r
  | _, _ => false
def finD (env : EnvD) (np : Nat) : List SV := (env ++ List.replicate np SV.un).take np
noncomputable def callN (fns : Nat → Option Fn) (con : Nat → Option PyData) : Nat → Nat → List SV → Rs (PyData × List SV)
  | 0, _, _ => .bad
  | m + 1, f, as => match fns f with
    | none => .bad
    | some F => if lentOk F.lo as = true then
        (exs ⟨callN fns con m, fun g => ((fns g).map Fn.ret).getD 0, con⟩ F.ret F.body (as ++ List.replicate (F.n - as.length) .un)).bind fun r => match r with
          | .rt d e => .ok (d, finD e F.np)
          | .nx e => .ok (.none, finD e F.np)
          | _ => .bad
      else .bad
end Fx
set_option Elab.async false
set_option linter.all false
set_option maxRecDepth 100000
/-! M4: the operators on data. -/
namespace Fx
open PySem PySem.Spec PyProof.Rows L2

section
variable {X : Cx} {pins : List (Addr × Obj)} {σ : L2.St} {H : Hp} {s : Shared}
mutual
theorem Dat.reads (I : Inv X pins σ H s) : ∀ (d : PyData) (v : V) (u : Value), d.plain = true → Dat X.K H v d → RelV v u → ∃ as, Reads s.heap u d as
  | .none, _, _, _, h, r => by
    cases h; cases r; exact ⟨_, Reads.none⟩
  | .bool b, _, _, _, h, r => by
    cases h; cases r; exact ⟨_, Reads.bool b⟩
  | .int i, _, _, _, h, r => by
    cases h; obtain ⟨t, rfl⟩ := r; exact ⟨_, Reads.int i t⟩
  | .str x, _, _, _, h, r => by
    cases h; obtain ⟨t, rfl⟩ := r; exact ⟨_, Reads.str x t⟩
  | .list ds, _, _, hp, h, r => by
    cases h with
    | lst hs ha =>
      cases r
      obtain ⟨its, rv, ⟨o, n, ho, hc, _, hd⟩, _⟩ := I.list hs
      obtain ⟨as, hr⟩ := Dat.readsAll I ds _ its (by simpa [PyData.plain] using hp) ha rv
      exact ⟨_, Reads.list ho hc hd hr⟩
  | .tuple ds, _, _, hp, h, r => by
    cases h with
    | tup hs ha =>
      cases r
      obtain ⟨its, rv, ⟨o, ho, hc, n, hd⟩, _⟩ := I.tuple hs
      obtain ⟨as, hr⟩ := Dat.readsAll I ds _ its (by simpa [PyData.plain] using hp) ha rv
      exact ⟨_, Reads.tuple ho hc hd hr⟩
  | .dict _, _, _, hp, _, _ => by simp [PyData.plain] at hp
theorem Dat.readsAll (I : Inv X pins σ H s) : ∀ (ds : List PyData) (vs : List V) (us : List Value), PyData.plainAll ds = true → DatL X.K H vs ds → Vals vs us → ∃ as, ReadsAll s.heap us ds as
  | [], _, _, _, h, r => by
    cases h; cases r; exact ⟨_, ReadsAll.nil⟩
  | d :: ds, _, _, hp, h, r => by
    have hp : d.plain = true ∧ PyData.plainAll ds = true := by simpa [PyData.plainAll] using hp
    cases h with
    | cons h1 h2 =>
      cases r with
      | cons r1 r2 =>
        obtain ⟨as, q1⟩ := Dat.reads I d _ _ hp.1 h1 r1
        obtain ⟨bs, q2⟩ := Dat.readsAll I ds _ _ hp.2 h2 r2
        exact ⟨_, ReadsAll.cons q1 q2⟩
end
end

/-! ### operands, results -/
section
variable {K : PySem.W.Frag} {F H : Hp}
/-- its own place may be read in H, its items are frozen in F -/
def Shl (K : PySem.W.Frag) (F H : Hp) (v : V) : PyData → Prop
  | .list ds => ∃ a vs, v = .ref a ∧ SqL K H a vs ∧ DatL K F vs ds
  | .dict ds => ∃ a, v = .ref a ∧ ((∃ kvs, Rd H a (.dK kvs) ∧ DatK K F kvs ds) ∨ ∃ kvs, Rd H a (.dT kvs) ∧ DatT K F kvs ds)
  | d => Dat K F v d
theorem Shl.of (le : Le F H) {v : V} {d : PyData} (h : Dat K F v d) : Shl K F H v d := by
  cases h with
  | lst q t => exact ⟨_, _, rfl, le.sqL q, t⟩
  | dk q t => exact ⟨_, rfl, .inl ⟨_, le _ _ q, t⟩⟩
  | dt q t => exact ⟨_, rfl, .inr ⟨_, le _ _ q, t⟩⟩
  | non => exact .non
  | bl b => exact .bl b
  | int i => exact .int i
  | str x => exact .str x
  | tup q t => exact .tup q t
theorem Shl.dat (le : Le F H) {v : V} {d : PyData} (h : Shl K F H v d) : Dat K H v d := by
  cases d with
  | list ds => obtain ⟨a, vs, rfl, q, t⟩ := h; exact .lst q (t.mono le)
  | dict ds =>
    obtain ⟨a, rfl, ⟨kvs, q, t⟩ | ⟨kvs, q, t⟩⟩ := h
    · exact .dk q (t.mono le)
    · exact .dt q (t.mono le)
  | none => exact Dat.mono le h
  | bool b => exact Dat.mono le h
  | int i => exact Dat.mono le h
  | str x => exact Dat.mono le h
  | tuple ds => exact Dat.mono le h
theorem Shl.int {v : V} {i : Int} (h : Shl K F H v (.int i)) : v = .int i := by cases (show Dat K F v (.int i) from h); rfl
theorem Shl.str {v : V} {i : Str} (h : Shl K F H v (.str i)) : v = .str i := by cases (show Dat K F v (.str i) from h); rfl
theorem Shl.bool {v : V} {i : Bool} (h : Shl K F H v (.bool i)) : v = .bl i := by cases (show Dat K F v (.bool i) from h); rfl
theorem Shl.tup {v : V} {ds : List PyData} (le : Le F H) (h : Shl K F H v (.tuple ds)) : ∃ a vs, v = .ref a ∧ SqT K H a vs ∧ DatL K F vs ds := by
  cases (show Dat K F v (.tuple ds) from h) with
  | tup q t => exact ⟨_, _, rfl, le.sqT q, t⟩
theorem Dat.intV {v : V} {i : Int} (h : Dat K F v (.int i)) : v = .int i := by cases h; rfl
theorem Dat.strV {v : V} {i : Str} (h : Dat K F v (.str i)) : v = .str i := by cases h; rfl
theorem Dat.boolV {v : V} {i : Bool} (h : Dat K F v (.bool i)) : v = .bl i := by cases h; rfl
theorem Dat.noneV {v : V} (h : Dat K F v .none) : v = .non := by cases h; rfl
/-- a new object's content -/
def Frsh (K : PySem.W.Frag) (F : Hp) (o : HO) (d : PyData) : Prop := (∃ vs ds, o = .lst vs ∧ d = .list ds ∧ DatL K F vs ds) ∨ (∃ vs ds, o = .tup vs ∧ d = .tuple ds ∧ DatL K F vs ds) ∨
  (∃ vs ds, o = .dK vs ∧ d = .dict ds ∧ DatK K F vs ds) ∨ (∃ vs ds, o = .dT vs ∧ d = .dict ds ∧ DatT K F vs ds)
/-- a result: nothing was made, or one object -/
def New (K : PySem.W.Frag) (F H : Hp) (z : V) (d : PyData) (H' : Hp) : Prop := (H' = H ∧ Dat K F z d ∧ isCont d = false) ∨ ∃ p o, H p = none ∧ z = .ref p ∧ H' = upd H p o ∧ Frsh K F o d
theorem New.int (i : Int) : New K F H (.int i) (.int i) H := .inl ⟨rfl, .int i, rfl⟩
theorem New.str (i : Str) : New K F H (.str i) (.str i) H := .inl ⟨rfl, .str i, rfl⟩
theorem New.bl (i : Bool) : New K F H (.bl i) (.bool i) H := .inl ⟨rfl, .bl i, rfl⟩
theorem New.lst {p : Addr} {vs : List V} {ds : List PyData} (hp : H p = none) (t : DatL K F vs ds) : New K F H (.ref p) (.list ds) (upd H p (.lst vs)) := .inr ⟨p, _, hp, rfl, rfl, .inl ⟨_, _, rfl, rfl, t⟩⟩
theorem New.tup {p : Addr} {vs : List V} {ds : List PyData} (hp : H p = none) (t : DatL K F vs ds) : New K F H (.ref p) (.tuple ds) (upd H p (.tup vs)) := .inr ⟨p, _, hp, rfl, rfl, .inr (.inl ⟨_, _, rfl, rfl, t⟩)⟩
theorem New.flat {z : V} {d : PyData} {H' : Hp} (h : New K F H z d H') (hf : (scal d).isSome = true) : H' = H ∧ ∀ G, Dat K G z d := by
  rcases h with ⟨h1, h2, _⟩ | ⟨p, o, _, _, _, h4⟩
  · refine ⟨h1, fun G => ?_⟩
    cases d with
    | int i => cases h2; exact .int i
    | str i => cases h2; exact .str i
    | _ => simp [scal] at hf
  · exfalso
    rcases h4 with ⟨_, _, _, rfl, _⟩ | ⟨_, _, _, rfl, _⟩ | ⟨_, _, _, rfl, _⟩ | ⟨_, _, _, rfl, _⟩ <;> simp [scal] at hf
end

/-- what is wanted of an operator's operands and its result -/
def rD2 (K : PySem.W.Frag) (g : PyData → PyData → Option PyData) : R2 := fun x y H Q => ∃ F d e r, Le F H ∧ Shl K F H x d ∧ Shl K F H y e ∧ g d e = some r ∧ ∀ z H', New K F H z r H' → Q z H'
def rD1 (K : PySem.W.Frag) (g : PyData → Option PyData) : V → Hp → VK → Prop := fun x H Q => ∃ F d r, Le F H ∧ Shl K F H x d ∧ g d = some r ∧ ∀ z H', New K F H z r H' → Q z H'
section
variable {X : Cx}
def bop : B2 → Operator
  | .add => .Add | .sub => .Sub | .mul => .Mult | .fdiv => .FloorDiv | .mod => .Mod | .pow => .Pow | .shr => .RShift | .shl => .LShift
theorem mulOk {i j : Int} (h : bitsOk i j = true) : IntMulOk i j := by
  have b : ∀ x : Int, Builtin.Int.intBits x ≤ x.natAbs.log2 + 1 := fun x => by
    unfold Builtin.Int.intBits
    split <;> omega
  have h1 := b i
  have h2 := b j
  unfold bitsOk at h
  simp only [Bool.or_eq_true, decide_eq_true_eq] at h
  rcases h with (h | h) | h
  · exact .of_left (by omega)
  · exact .of_right (by omega)
  · have e : bitsLine = 134217728 := by decide
    unfold IntMulOk
    intro z
    rw [Bool.and_eq_true] at z
    have z2 := z.2
    unfold Builtin.Int.intTooBig at z2
    have z3 := of_decide_eq_true z2
    rw [e] at z3
    omega
theorem rd_lst {pins : List (Addr × Obj)} {σ : L2.St} {H : Hp} {s : Shared} {a : Addr} {xs : List V} (I : Inv X pins σ H s) (h : SqL X.K H a xs) :
    xs.length ≤ sizeLine ∧ ∃ (its : List Value) (n : Nat) (sl : Array (Option Value)), Vals xs its ∧ xs.length = its.length ∧ s.heap.get? a = some { cls := .type "list", dict := none, data := .seq its.toArray n, slots := sl } := by
  obtain ⟨its, r, pl, hz⟩ := I.list h
  obtain ⟨⟨c, d, q, sl⟩, m, e, ec, ed, eq⟩ := pl
  simp only at ec ed eq
  subst ec ed eq
  exact ⟨hz, its, m, sl, r, r.length, e⟩
theorem op_catS : OpR X (binaryOp .Add) (fun x y H Q => ∃ l b xs zs, x = .ref l ∧ y = .ref b ∧ SqL X.K H l xs ∧ SqL X.K H b zs ∧ xs.length + zs.length ≤ sizeLine ∧ ∀ p, H p = none → Q (.ref p) (upd H p (.lst (xs ++ zs)))) := by
  intro pins s σ H x y v u Q I rx ry h
  obtain ⟨l, b, xs, zs, rfl, rfl, hH, hB, hz, q⟩ := h
  cases rx
  cases ry
  obtain ⟨z, its, n, sl, r, hl, e⟩ := rd_lst I hH
  obtain ⟨z2, its2, n2, sl2, r2, hl2, e2⟩ := rd_lst I hB
  refine concat_meets ⟨_, e, rfl⟩ ⟨_, e2, rfl⟩ noFill_list_add seq_list_add F.slot_list_add F.entry_list_add (F.args_list_add_2 _ _) (list_addW l b its.toArray its2.toArray n n2 none none sl sl2 (by rw [List.size_toArray, List.size_toArray]; omega)) ⟨e, e2, ?_⟩
  have ea : its.toArray ++ its2.toArray = (its ++ its2).toArray := by simp
  rw [ea]
  exact ⟨.ref _, _, I.lnew (t' := s.toks) (r.append r2) (by rw [List.length_append]; omega), rfl, q _ I.fresh⟩
theorem op_repS : OpR X (binaryOp .Mult) (fun x y H Q => ∃ l k xs, x = .ref l ∧ y = .int k ∧ SqL X.K H l xs ∧ -(2 ^ 63) ≤ k ∧ k < 2 ^ 63 ∧ xs.length * k.toNat ≤ sizeLine ∧ ∀ p, H p = none → Q (.ref p) (upd H p (.lst (List.replicate k.toNat xs).flatten))) := by
  intro pins s σ H x y v u Q I rx ry h
  obtain ⟨l, k, xs, rfl, rfl, hH, h1, h2, hz, q⟩ := h
  cases rx
  obtain ⟨t, rfl⟩ := ry
  obtain ⟨z, its, n, sl, r, hl, e⟩ := rd_lst I hH
  have hlen : its.toArray.size * k.toNat ≤ sizeLine := by rw [List.size_toArray, ← hl]; exact hz
  have hcap : ¬ its.toArray.size * k.toNat > (2 ^ 63 - 1) / 8 := by
    have : (sizeLine : Nat) ≤ (2 ^ 63 - 1) / 8 := by decide
    omega
  have hfit : ¬ (!Builtin.List.listFitsIndex k) = true := by
    rw [fitsIndex_both h1 h2]
    exact Bool.false_ne_true
  have hlong : ¬ Builtin.List.listTooLong (its.toArray.size * k.toNat) = true := by
    rw [notLongL hlen]
    exact Bool.false_ne_true
  have hnew : List.foldl (fun x1 x2 => x1 ++ x2) #[] (List.replicate (if its.toArray.isEmpty = true then 0 else k.toNat) its.toArray) = (List.replicate k.toNat its).flatten.toArray := by
    have f0 : ∀ m : Nat, List.foldl (fun x1 x2 => x1 ++ x2) #[] (List.replicate m its.toArray) = (List.replicate m its).flatten.toArray := fun m => by
      have := foldl_rep its m []
      rw [List.nil_append] at this
      exact this
    rw [f0]
    cases its with
    | nil => simp
    | cons a r' => rw [if_neg (by simp)]
  refine wpAny_binaryOp_repeat_ref (T := "list") (U := "int") (by decide) ⟨_, e, rfl⟩ (fun s' => typeIs_int s' k t) noFill_list_mul F.fills_int_mul F.slot_int_rmul repeat_list F.slot_int_index.lookup
    (call_meets F.slot_int_rmul (typeIs_int s k t) F.entry_int_rmul (F.args_int_rmul_2 _ _) (lm_int_rmul_list_any k t l its.toArray n none sl)
      ⟨e, rfl, ⟨_, e, rfl⟩, call_meets F.slot_list_mul ⟨_, e, rfl⟩ F.entry_list_mul (F.args_list_mul_2 _ _) (lm_list_mul_any l its.toArray n none sl k t hfit hcap hlong) ⟨e, ?_⟩⟩)
  rw [hnew]
  exact ⟨.ref _, _, I.lnew (t' := s.toks) (r.rep k.toNat) (by rw [PyProof.Rows.lm_len_rep_flat, Nat.mul_comm]; exact hz), rfl, q _ I.fresh⟩
theorem DatL.rep {K : PySem.W.Frag} {F : Hp} {vs : List V} {ds : List PyData} (h : DatL K F vs ds) : ∀ k : Nat, DatL K F (List.replicate k vs).flatten (List.replicate k ds).flatten
  | 0 => .nil
  | k + 1 => by
    rw [List.replicate_succ, List.replicate_succ, List.flatten_cons, List.flatten_cons]
    exact h.append (DatL.rep h k)
theorem DatL.nil_iff {K : PySem.W.Frag} {F : Hp} {vs : List V} {ds : List PyData} (h : DatL K F vs ds) : vs = [] ↔ ds = [] := by
  cases h <;> simp
theorem op_b2 (o : B2) : OpR X (binaryOp (bop o)) (rD2 X.K (b2 o)) := by
  intro pins s σ H x y v u Q I rx ry h
  obtain ⟨F, d, e, r, le, hx, hy, hr, q⟩ := h
  cases o with
  | add =>
    cases d with
    | int a =>
      cases e with
      | int b =>
        cases hx.int; cases hy.int
        cases hr
        exact op_add pins s σ H _ _ v u Q I rx ry ⟨a, b, rfl, rfl, q _ _ (New.int _)⟩
      | _ => simp [b2] at hr
    | str a =>
      cases e with
      | str b =>
        cases hx.str; cases hy.str
        simp only [b2] at hr
        split at hr
        · rename_i hl
          cases hr
          exact op_add_str pins s σ H _ _ v u Q I rx ry ⟨a, b, rfl, rfl, hl, q _ _ (New.str _)⟩
        · cases hr
      | _ => simp [b2] at hr
    | tuple a =>
      cases e with
      | tuple b =>
        obtain ⟨p1, vs, rfl, t1, k1⟩ := hx.tup le
        obtain ⟨p2, ws, rfl, t2, k2⟩ := hy.tup le
        simp only [b2] at hr
        split at hr
        · rename_i hl
          cases hr
          refine op_catA pins s σ H _ _ v u Q I rx ry ⟨_, _, _, _, rfl, rfl, t1, t2, ?_, fun e => ?_, fun _ e => ?_, fun _ _ p hp => q _ _ (New.tup hp (k1.append k2))⟩
          · rw [k1.length, k2.length]; exact hl
          · have e' := k1.nil_iff.mp e
            subst e'
            exact q _ _ (.inl ⟨rfl, hy, rfl⟩)
          · have e' := k2.nil_iff.mp e
            subst e'
            rw [List.append_nil] at q
            exact q _ _ (.inl ⟨rfl, hx, rfl⟩)
        · cases hr
      | _ => simp [b2] at hr
    | list a =>
      cases e with
      | list b =>
        obtain ⟨p1, vs, rfl, t1, k1⟩ := hx
        obtain ⟨p2, ws, rfl, t2, k2⟩ := hy
        simp only [b2] at hr
        split at hr
        · rename_i hl
          cases hr
          refine op_catS pins s σ H _ _ v u Q I rx ry ⟨_, _, _, _, rfl, rfl, t1, t2, ?_, fun p hp => q _ _ (New.lst hp (k1.append k2))⟩
          rw [k1.length, k2.length]; exact hl
        · cases hr
      | _ => simp [b2] at hr
    | _ => simp [b2] at hr
  | sub =>
    cases d with
    | int a =>
      cases e with
      | int b =>
        cases hx.int; cases hy.int
        cases hr
        exact op_sub pins s σ H _ _ v u Q I rx ry ⟨a, b, rfl, rfl, q _ _ (New.int _)⟩
      | _ => simp [b2] at hr
    | _ => simp [b2] at hr
  | mul =>
    cases d with
    | int a =>
      cases e with
      | int b =>
        cases hx.int; cases hy.int
        simp only [b2] at hr
        split at hr
        · rename_i hl
          cases hr
          exact (opI (C := fun a b => bitsOk a b = true) (g := fun a b => a * b) fun _ _ _ _ _ _ _ hc q => mul_int q (mulOk hc)) pins s σ H _ _ v u Q I rx ry ⟨a, b, rfl, rfl, hl, q _ _ (New.int _)⟩
        · cases hr
      | _ => simp [b2] at hr
    | list a =>
      cases e with
      | int b =>
        obtain ⟨p1, vs, rfl, t1, k1⟩ := hx
        cases hy.int
        simp only [b2] at hr
        split at hr
        · rename_i hl
          cases hr
          refine op_repS pins s σ H _ _ v u Q I rx ry ⟨_, _, _, rfl, rfl, t1, ?_, ?_, ?_, fun p hp => q _ _ (New.lst hp (k1.rep _))⟩
          · exact hl.2.1
          · exact hl.1
          · rw [k1.length]; exact hl.2.2
        · cases hr
      | _ => simp [b2] at hr
    | _ => simp [b2] at hr
  | fdiv =>
    cases d with
    | int a =>
      cases e with
      | int b =>
        cases hx.int; cases hy.int
        simp only [b2] at hr
        split at hr
        · rename_i hl
          cases hr
          exact (opI (C := fun _ b => b ≠ 0 ∧ b.natAbs.log2 < 9000) (g := fun a b => a.fdiv b) fun _ _ _ _ _ _ _ hc q => floordiv_int hc.1 q (.inl (PyProof.noPylong_of_log2 hc.2))) pins s σ H _ _ v u Q I rx ry ⟨a, b, rfl, rfl, hl, q _ _ (New.int _)⟩
        · cases hr
      | _ => simp [b2] at hr
    | _ => simp [b2] at hr
  | mod =>
    cases d with
    | int a =>
      cases e with
      | int b =>
        cases hx.int; cases hy.int
        simp only [b2] at hr
        split at hr
        · rename_i hl
          cases hr
          exact op_modN pins s σ H _ _ v u Q I rx ry ⟨a, b, rfl, rfl, hl, q _ _ (New.int _)⟩
        · cases hr
      | _ => simp [b2] at hr
    | _ => simp [b2] at hr
  | pow =>
    cases d with
    | int a =>
      cases e with
      | int b =>
        cases hx.int; cases hy.int
        simp only [b2] at hr
        split at hr
        · rename_i hl
          cases hr
          exact op_pow pins s σ H _ _ v u Q I rx ry ⟨a, b, rfl, rfl, hl, q _ _ (New.int _)⟩
        · cases hr
      | _ => simp [b2] at hr
    | _ => simp [b2] at hr
  | shl =>
    cases d with
    | int a =>
      cases e with
      | int b =>
        cases hx.int; cases hy.int
        simp only [b2] at hr
        split at hr
        · rename_i hl
          cases hr
          exact op_shl pins s σ H _ _ v u Q I rx ry ⟨a, b, rfl, rfl, hl, q _ _ (New.int _)⟩
        · cases hr
      | _ => simp [b2] at hr
    | _ => simp [b2] at hr
  | shr =>
    cases d with
    | int a =>
      cases e with
      | int b =>
        cases hx.int; cases hy.int
        simp only [b2] at hr
        split at hr
        · rename_i hl
          cases hr
          exact op_shr pins s σ H _ _ v u Q I rx ry ⟨a, b, rfl, rfl, hl, q _ _ (New.int _)⟩
        · cases hr
      | _ => simp [b2] at hr
    | _ => simp [b2] at hr
end
end Fx
set_option Elab.async false
set_option linter.all false
set_option maxRecDepth 100000
/-! M5: comparisons, items, builtins on data. -/
namespace Fx
open PySem PySem.Spec PyProof.Rows L2
section
variable {X : Cx}
def cop : C2 → CmpOp
  | .eq => .Eq | .ne => .NotEq | .lt => .Lt | .le => .LtE | .gt => .Gt | .ge => .GtE | .inn => .In | .nin => .NotIn
theorem op_cmpD {op : CmpOp} {g : PyData → PyData → Option Bool} {ok : PyData → PyData → Prop} (hp : ∀ d e, ok d e → d.plain = true ∧ e.plain = true)
    (rule : ∀ (s : Shared) (u v : Value) (d e : PyData) (as bs : List Addr) (k : Bool) (Q : Value → Shared → Prop), Reads s.heap u d as → Reads s.heap v e bs → ok d e → g d e = some k → Q (.bool k) s → wpAny (model X.prog X.w) X.A (compareOp op u v) Q X.xe s)
    {pins : List (Addr × Obj)} {s : Shared} {σ : L2.St} {H : Hp} {x y : V} {v u : Value} {Q : VK} (I : Inv X pins σ H s) (rx : RelV x v) (ry : RelV y u) {F : Hp} {d e : PyData} {k : Bool} (le : Le F H) (hx : Shl X.K F H x d) (hy : Shl X.K F H y e) (ho : ok d e) (hg : g d e = some k)
    (q : ∀ z H', New X.K F H z (.bool k) H' → Q z H') : wpAny (model X.prog X.w) X.A (compareOp op v u) (EP X pins σ Q) X.xe s := by
  obtain ⟨h1, h2⟩ := hp d e ho
  obtain ⟨as, r1⟩ := Dat.reads I d x v h1 (hx.dat le) rx
  obtain ⟨bs, r2⟩ := Dat.reads I e y u h2 (hy.dat le) ry
  exact rule s v u d e as bs k _ r1 r2 ho hg ⟨.bl k, H, I, rfl, q _ _ (New.bl k)⟩
theorem eqOk_plain {d : PyData} (h : eqOk d = true) : SeqAt.shaped d = true ∧ d.plain = true := by
  unfold eqOk at h
  rw [Bool.and_eq_true] at h
  exact h
theorem ltOk_of {a b : PyData} (h : ltOk a b = true) : PySem.W.alike a b = true ∧ a.plain = true ∧ b.plain = true ∧ a.depth ≤ 64 ∧ a ≠ .none := by
  unfold ltOk at h
  simp only [Bool.and_eq_true, decide_eq_true_eq] at h
  obtain ⟨⟨⟨⟨h1, h2⟩, h3⟩, h4⟩, h5⟩ := h
  refine ⟨h1, h2, h3, h4, ?_⟩
  rintro rfl
  cases h5
theorem inOk_of {x : PyData} {xs : List PyData} (h : inOk x xs = true) : x.plain = true ∧ PyData.plainAll xs = true ∧ x.depth ≤ 64 := by
  unfold inOk at h
  simp only [Bool.and_eq_true, decide_eq_true_eq] at h
  exact ⟨h.1.1, h.1.2, h.2⟩
theorem alike_dep {d e : PyData} (h : PySem.W.alike d e = true) (hd : d.depth ≤ 64) {u : Nat} (hu : u + 100 < cLine) : u + min d.depth e.depth < cLine := by omega

theorem op_c2 (hu : X.A.units + 100 < cLine) (o : C2) : OpR X (compareOp (cop o)) (rD2 X.K (c2B o)) := by
  intro pins s σ H x y v u Q I rx ry h
  obtain ⟨F, d, e, r, le, hx, hy, hr, q⟩ := h
  unfold c2B at hr
  cases hk : c2 o d e with
  | none => rw [hk] at hr; cases hr
  | some k =>
  rw [hk] at hr
  cases hr
  have hints0 : ∀ (i j : Int) (f : Int → Int → Bool), d = .int i → e = .int j → k = f i j → (∀ (t u : Tok) (Q : Value → Shared → Prop), Q (.bool (f i j)) s → wpAny (model X.prog X.w) X.A (compareOp (cop o) (.int i t) (.int j u)) Q X.xe s) →
      wpAny (model X.prog X.w) X.A (compareOp (cop o) v u) (EP X pins σ Q) X.xe s := fun i j f e1 e2 e3 rule => by
    subst e1 e2 e3
    cases hx.int
    cases hy.int
    obtain ⟨t, rfl⟩ := rx
    obtain ⟨t', rfl⟩ := ry
    exact rule _ _ _ ⟨.bl _, H, I, rfl, q _ _ (New.bl _)⟩
  have heqs0 : (op : CmpOp) → (op = .Eq ∨ op = .NotEq) → eqOk d = true → eqOk e = true → k = (if op = .Eq then PyData.eqv d e else !PyData.eqv d e) → wpAny (model X.prog X.w) X.A (compareOp op v u) (EP X pins σ Q) X.xe s := fun op ho h1 h2 hk => by
    obtain ⟨a1, a2⟩ := eqOk_plain h1
    obtain ⟨b1, b2⟩ := eqOk_plain h2
    obtain ⟨as, r1⟩ := Dat.reads I d x v a2 (hx.dat le) rx
    obtain ⟨bs, r2⟩ := Dat.reads I e y u b2 (hy.dat le) ry
    rcases ho with rfl | rfl
    · exact SeqAt.compareEq_shaped r1 r2 a1 b1 (by omega) ⟨.bl _, H, I, by rw [hk]; rfl, q _ _ (New.bl k)⟩
    · exact SeqAt.compareNe_shaped r1 r2 a1 b1 (by omega) ⟨.bl _, H, I, by rw [hk]; rfl, q _ _ (New.bl k)⟩
  have hlts0 : ltOk d e = true → ∃ as bs, Reads s.heap v d as ∧ Reads s.heap u e bs ∧ PySem.W.alike d e = true ∧ d ≠ .none ∧ X.A.units + min d.depth e.depth < cLine := fun h1 => by
    obtain ⟨a1, a2, a3, a4, a5⟩ := ltOk_of h1
    obtain ⟨as, r1⟩ := Dat.reads I d x v a2 (hx.dat le) rx
    obtain ⟨bs, r2⟩ := Dat.reads I e y u a3 (hy.dat le) ry
    exact ⟨as, bs, r1, r2, a1, a5, by omega⟩
  have hfin0 : ∀ {k' : Bool}, k = k' → EP X pins σ Q (.bool k') s := fun e => ⟨.bl _, H, I, by rw [e]; rfl, q _ _ (New.bl k)⟩
  cases o with
  | eq =>
    simp only [c2] at hk
    cases hi : ii d e with
    | some p =>
      rw [hi] at hk
      obtain ⟨e1, e2⟩ := ii_some hi
      cases hk
      exact hints0 _ _ (fun i j => decide (i = j)) e1 e2 rfl fun t u Q h => eq_int (by rw [Bool.beq_eq_decide_eq]; exact h)
    | none =>
      rw [hi] at hk
      simp only at hk
      split at hk
      · rename_i hl
        cases hk
        exact heqs0 .Eq (.inl rfl) hl.1 hl.2 rfl
      · cases hk
  | ne =>
    simp only [c2] at hk
    cases hi : ii d e with
    | some p =>
      rw [hi] at hk
      obtain ⟨e1, e2⟩ := ii_some hi
      cases hk
      exact hints0 _ _ (fun i j => !decide (i = j)) e1 e2 rfl fun t u Q h => ne_int (by rw [bne, Bool.beq_eq_decide_eq]; exact h)
    | none =>
      rw [hi] at hk
      simp only at hk
      split at hk
      · rename_i hl
        cases hk
        exact heqs0 .NotEq (.inr rfl) hl.1 hl.2 rfl
      · cases hk
  | lt =>
    simp only [c2] at hk
    cases hi : ii d e with
    | some p =>
      rw [hi] at hk
      obtain ⟨e1, e2⟩ := ii_some hi
      cases hk
      exact hints0 _ _ (fun i j => decide (i < j)) e1 e2 rfl fun t u Q h => lt_int h
    | none =>
      rw [hi] at hk
      simp only at hk
      split at hk
      · rename_i hl
        cases hk
        obtain ⟨as, bs, r1, r2, a1, a2, a3⟩ := hlts0 hl
        exact PySem.W.lt_data r1 r2 a1 a2 a3 (hfin0 rfl)
      · cases hk
  | le =>
    simp only [c2] at hk
    cases hi : ii d e with
    | some p =>
      rw [hi] at hk
      obtain ⟨e1, e2⟩ := ii_some hi
      cases hk
      exact hints0 _ _ (fun i j => decide (i ≤ j)) e1 e2 rfl fun t u Q h => le_int h
    | none =>
      rw [hi] at hk
      simp only at hk
      split at hk
      · rename_i hl
        cases hk
        obtain ⟨as, bs, r1, r2, a1, a2, a3⟩ := hlts0 hl
        exact PySem.W.le_data r1 r2 a1 a2 a3 (hfin0 rfl)
      · cases hk
  | gt =>
    simp only [c2] at hk
    cases hi : ii d e with
    | some p =>
      rw [hi] at hk
      obtain ⟨e1, e2⟩ := ii_some hi
      cases hk
      exact hints0 _ _ (fun i j => decide (j < i)) e1 e2 rfl fun t u Q h => gt_int h
    | none =>
      rw [hi] at hk
      simp only at hk
      split at hk
      · rename_i hl
        cases hk
        obtain ⟨as, bs, r1, r2, a1, a2, a3⟩ := hlts0 hl
        exact PySem.W.gt_data r1 r2 a1 a2 a3 (hfin0 rfl)
      · cases hk
  | ge =>
    simp only [c2] at hk
    cases hi : ii d e with
    | some p =>
      rw [hi] at hk
      obtain ⟨e1, e2⟩ := ii_some hi
      cases hk
      exact hints0 _ _ (fun i j => decide (j ≤ i)) e1 e2 rfl fun t u Q h => ge_int h
    | none =>
      rw [hi] at hk
      simp only at hk
      split at hk
      · rename_i hl
        cases hk
        obtain ⟨as, bs, r1, r2, a1, a2, a3⟩ := hlts0 hl
        exact PySem.W.ge_data r1 r2 a1 a2 a3 (hfin0 rfl)
      · cases hk
  | inn =>
    cases e with
    | list xs =>
      simp only [c2] at hk
      split at hk
      · rename_i hl
        cases hk
        obtain ⟨h1, h2, h3⟩ := inOk_of hl
        obtain ⟨as, r1⟩ := Dat.reads I d x v h1 (hx.dat le) rx
        obtain ⟨bs, r2⟩ := Dat.reads I _ y u (by simpa [PyData.plain] using h2) (hy.dat le) ry
        exact PySem.SeqAt.in_list_data r2 r1 h2 h1 (by omega) (hfin0 rfl)
      · cases hk
    | tuple xs =>
      simp only [c2] at hk
      split at hk
      · rename_i hl
        cases hk
        obtain ⟨h1, h2, h3⟩ := inOk_of hl
        obtain ⟨as, r1⟩ := Dat.reads I d x v h1 (hx.dat le) rx
        obtain ⟨bs, r2⟩ := Dat.reads I _ y u (by simpa [PyData.plain] using h2) (hy.dat le) ry
        exact PySem.SeqAt.in_tuple_data r2 r1 h2 h1 (by omega) (hfin0 rfl)
      · cases hk
    | _ => simp [c2] at hk
  | nin =>
    cases e with
    | list xs =>
      simp only [c2] at hk
      split at hk
      · rename_i hl
        cases hk
        obtain ⟨h1, h2, h3⟩ := inOk_of hl
        obtain ⟨as, r1⟩ := Dat.reads I d x v h1 (hx.dat le) rx
        obtain ⟨bs, r2⟩ := Dat.reads I _ y u (by simpa [PyData.plain] using h2) (hy.dat le) ry
        exact PySem.SeqAt.notIn_list_data r2 r1 h2 h1 (by omega) (hfin0 rfl)
      · cases hk
    | tuple xs =>
      simp only [c2] at hk
      split at hk
      · rename_i hl
        cases hk
        obtain ⟨h1, h2, h3⟩ := inOk_of hl
        obtain ⟨as, r1⟩ := Dat.reads I d x v h1 (hx.dat le) rx
        obtain ⟨bs, r2⟩ := Dat.reads I _ y u (by simpa [PyData.plain] using h2) (hy.dat le) ry
        exact PySem.SeqAt.notIn_tuple_data r2 r1 h2 h1 (by omega) (hfin0 rfl)
      · cases hk
    | _ => simp [c2] at hk
end
end Fx
set_option Elab.async false
set_option linter.all false
set_option maxRecDepth 100000
/-! M6: items, slices, builtins on data. -/
namespace Fx
open PySem PySem.Spec PyProof.Rows L2
section
variable {K : PySem.W.Frag} {F H : Hp}
theorem DatL.atI {vs : List V} {ds : List PyData} (h : DatL K F vs ds) {i : Int} {d : PyData} (e : atI ds i = some d) : ∃ v, L2.atI vs i = some v ∧ Dat K F v d := by
  unfold L2.atI at e ⊢
  rw [h.length]
  cases q : ixN ds.length i with
  | none => rw [q] at e; cases e
  | some j =>
    rw [q] at e
    exact h.get e
/-- the operands' list -/
inductive ShlL (K : PySem.W.Frag) (F H : Hp) : List V → List PyData → Prop
  | nil : ShlL K F H [] []
  | cons {v : V} {vs : List V} {d : PyData} {ds : List PyData} : Shl K F H v d → ShlL K F H vs ds → ShlL K F H (v :: vs) (d :: ds)
/-- an item: nothing is made -/
def rIxD (K : PySem.W.Frag) : R2 := fun x y H Q => ∃ F d e r, Le F H ∧ Shl K F H x d ∧ Shl K F H y e ∧ ixD d e = some r ∧ ∀ z, Dat K F z r → Q z H
def rSlD (K : PySem.W.Frag) : V → Option Int → Option Int → Hp → VK → Prop := fun x lo hi H Q => ∃ F d r, Le F H ∧ Shl K F H x d ∧ slD d lo hi = some r ∧ ∀ z H', New K F H z r H' → Q z H'
def rBD (K : PySem.W.Frag) (g : List PyData → Option PyData) : List V → Hp → VK → Prop := fun xs H Q => ∃ F ds r, Le F H ∧ ShlL K F H xs ds ∧ g ds = some r ∧ ∀ z H', New K F H z r H' → Q z H'
theorem cut_whole (xs : List PyData) (lo hi : Option Int) (h : HT.sIx xs.length 0 lo = 0 ∧ HT.sIx xs.length xs.length hi = xs.length) : cutD xs lo hi = xs := by
  unfold cutD
  rw [h.1, h.2]
  simp
theorem DatL.cut {vs : List V} {ds : List PyData} (h : DatL K F vs ds) (lo hi : Option Int) : DatL K F (cutV vs lo hi) (cutD ds lo hi) := by
  unfold cutV cutD
  rw [h.length]
  exact (h.drop _).take _
theorem DatL.allInt : ∀ {vs : List V} {ds : List PyData} {ns : List Int}, DatL K F vs ds → allInt ds = some ns → ds = ns.map .int ∧ vs = ns.map V.int
  | _, _, _, .nil, e => by cases e; exact ⟨rfl, rfl⟩
  | _, d :: ds, ns, .cons h t, e => by
    cases d with
    | int i =>
      unfold Fx.allInt at e
      cases q : Fx.allInt ds with
      | none => rw [q] at e; cases e
      | some ms =>
        rw [q] at e
        cases e
        obtain ⟨e1, e2⟩ := DatL.allInt t q
        cases h
        rw [e1, e2]
        exact ⟨rfl, rfl⟩
    | _ => cases e
end
section
variable {X : Cx}
theorem ix_D : IxR X (rIxD X.K) := by
  intro value slice pins s σ H x y v u Q I rx ry h hs
  obtain ⟨F, d, e, r, le, hx, hy, hr, q⟩ := h
  cases e with
  | int i =>
    cases hy.int
    cases d with
    | list xs =>
      obtain ⟨a, vs, rfl, t1, k1⟩ := hx
      obtain ⟨w, h1, h2⟩ := k1.atI (show atI xs i = some r from hr)
      exact ix_list value slice pins s σ H _ _ v u Q I rx ry ⟨a, vs, i, w, rfl, rfl, t1, h1, q w h2⟩ hs
    | tuple xs =>
      obtain ⟨a, vs, rfl, t1, k1⟩ := hx.tup le
      obtain ⟨w, h1, h2⟩ := k1.atI (show atI xs i = some r from hr)
      exact ix_tup value slice pins s σ H _ _ v u Q I rx ry ⟨a, vs, i, w, rfl, rfl, t1, h1, q w h2⟩ hs
    | str z =>
      cases hx.str
      simp only [ixD] at hr
      split at hr
      · rename_i hl
        cases hc : atI z.cps.toList i with
        | none => rw [hc] at hr; cases hr
        | some c =>
          rw [hc] at hr
          cases hr
          exact ix_str value slice pins s σ H _ _ v u Q I rx ry ⟨z, i, c, rfl, rfl, hl, hc, q _ (.str _)⟩ hs
      · cases hr
    | _ => simp [ixD] at hr
  | _ => cases d <;> simp [ixD] at hr
theorem sl_D : SlR X (rSlD X.K) := by
  intro pins s σ H x v vl vu lo hi sl Q I rx hs pl pu h
  obtain ⟨F, d, r, le, hx, hr, q⟩ := h
  cases d with
  | list xs =>
    obtain ⟨a, vs, rfl, t1, k1⟩ := hx
    cases hr
    exact sl_list pins s σ H _ v vl vu lo hi sl Q I rx hs pl pu ⟨a, vs, rfl, t1, fun p hp => q _ _ (New.lst hp (k1.cut lo hi))⟩
  | tuple xs =>
    have hx' := hx
    obtain ⟨a, vs, rfl, t1, k1⟩ := hx.tup le
    cases hr
    refine sl_tupA pins s σ H _ v vl vu lo hi sl Q I rx hs pl pu ⟨a, vs, rfl, t1, fun e => ?_, fun _ p hp => q _ _ (New.tup hp (k1.cut lo hi))⟩
    rw [k1.length] at e
    rw [cut_whole xs lo hi e] at q
    exact q _ _ (.inl ⟨rfl, hx', rfl⟩)
  | _ => simp [slD] at hr
theorem call_D1 {f : Value} {g : PyData → Option PyData}
    (h : ∀ (pins : List (Addr × Obj)) (s : Shared) (σ : L2.St) (H F : Hp) (x : V) (u : Value) (d r : PyData) (Q : VK), Inv X pins σ H s → RelV x u → Le F H → Shl X.K F H x d → g d = some r → (∀ z H', New X.K F H z r H' → Q z H') →
      wpAny (model X.prog X.w) X.A (call f [u]) (EP X pins σ Q) X.xe s) : CallR X f (rBD X.K (g1 g)) := by
  intro pins s σ H xs us Q I rv hq
  obtain ⟨F, ds, r, le, hs, hg, q⟩ := hq
  cases hs with
  | nil => cases hg
  | cons h1 h2 =>
    cases h2 with
    | nil =>
      obtain ⟨u, rfl, rx⟩ := vals1 rv
      exact h pins s σ H F _ u _ r Q I rx le h1 hg q
    | cons _ _ => cases hg
theorem one_v {f : Value} {r : List V → Hp → VK → Prop} (hc : CallR X f r) {pins : List (Addr × Obj)} {s : Shared} {σ : L2.St} {H : Hp} {x : V} {u : Value} {Q : VK} (I : Inv X pins σ H s) (rx : RelV x u) (h : r [x] H Q) :
    wpAny (model X.prog X.w) X.A (call f [u]) (EP X pins σ Q) X.xe s := hc pins s σ H [x] [u] Q I (.cons rx .nil) h
theorem call_len_D : CallR X (.builtin "len") (rBD X.K (g1 (p1 .len))) := call_D1 fun pins s σ H F x u d r Q I rx le hx hr q => by
  cases d with
  | list xs =>
    obtain ⟨a, vs, rfl, t1, k1⟩ := hx
    cases hr
    exact one_v call_len_seq I rx ⟨a, vs, rfl, .inl t1, by rw [k1.length]; exact q _ _ (New.int _)⟩
  | tuple xs =>
    obtain ⟨a, vs, rfl, t1, k1⟩ := hx.tup le
    cases hr
    exact one_v call_len_seq I rx ⟨a, vs, rfl, .inr t1, by rw [k1.length]; exact q _ _ (New.int _)⟩
  | str z =>
    cases hx.str
    simp only [p1] at hr
    split at hr
    · rename_i hl
      cases hr
      exact one_v call_len_str I rx ⟨z, rfl, hl, q _ _ (New.int _)⟩
    · cases hr
  | _ => simp [p1] at hr
theorem call_abs_D : CallR X (.builtin "abs") (rBD X.K (g1 (p1 .abs))) := call_D1 fun pins s σ H F x u d r Q I rx le hx hr q => by
  cases d with
  | int i =>
    cases hx.int
    cases hr
    exact one_v call_abs I rx ⟨i, rfl, q _ _ (New.int _)⟩
  | _ => simp [p1] at hr
theorem call_int_D : CallR X (.type "int") (rBD X.K (g1 (p1 .int))) := call_D1 fun pins s σ H F x u d r Q I rx le hx hr q => by
  cases d with
  | int i =>
    cases hx.int
    cases hr
    exact one_v call_int1 I rx (.inl ⟨i, rfl, q _ _ (New.int _)⟩)
  | bool i =>
    cases hx.bool
    cases hr
    exact one_v call_int1 I rx (.inr ⟨i, rfl, q _ _ (New.int _)⟩)
  | _ => simp [p1] at hr
theorem un_neg_D : UnR X (unaryOp .USub) (rD1 X.K (p1 .neg)) := by
  intro pins s σ H x v Q I rx h
  obtain ⟨F, d, r, le, hx, hr, q⟩ := h
  cases d with
  | int i =>
    cases hx.int
    cases hr
    exact un_neg pins s σ H _ v Q I rx ⟨i, rfl, q _ _ (New.int _)⟩
  | _ => simp [p1] at hr
theorem call_tup_D : CallR X (.type "tuple") (rBD X.K (g1 tupD)) := call_D1 fun pins s σ H F x u d r Q I rx le hx hr q => by
  cases d with
  | list xs =>
    obtain ⟨a, vs, rfl, t1, k1⟩ := hx
    cases hr
    exact one_v call_tuple_of I rx ⟨a, vs, rfl, .inl ⟨t1, fun p hp => q _ _ (New.tup hp k1)⟩⟩
  | tuple xs =>
    have hx' := hx
    obtain ⟨a, vs, rfl, t1, k1⟩ := hx.tup le
    cases hr
    exact one_v call_tuple_of I rx ⟨a, vs, rfl, .inr ⟨t1, q _ _ (.inl ⟨rfl, hx', rfl⟩)⟩⟩
  | _ => simp [tupD] at hr
theorem call_lst_D : CallR X (.type "list") (rBD X.K (g1 lstD)) := call_D1 fun pins s σ H F x u d r Q I rx le hx hr q => by
  cases d with
  | list xs =>
    obtain ⟨a, vs, rfl, t1, k1⟩ := hx
    cases hr
    exact one_v call_list_of I rx ⟨a, vs, rfl, .inl t1, fun p hp => q _ _ (New.lst hp k1)⟩
  | tuple xs =>
    obtain ⟨a, vs, rfl, t1, k1⟩ := hx.tup le
    cases hr
    exact one_v call_list_of I rx ⟨a, vs, rfl, .inr t1, fun p hp => q _ _ (New.lst hp k1)⟩
  | _ => simp [lstD] at hr
theorem call_sum_D (hc : X.calm = true) : CallR X (.builtin "sum") (rBD X.K (g1 sumD)) := call_D1 fun pins s σ H F x u d r Q I rx le hx hr q => by
  cases d with
  | list xs =>
    obtain ⟨a, vs, rfl, t1, k1⟩ := hx
    simp only [sumD] at hr
    cases hn : allInt xs with
    | none => rw [hn] at hr; cases hr
    | some ns =>
      rw [hn] at hr
      cases hr
      obtain ⟨e1, e2⟩ := k1.allInt hn
      exact one_v (cr_sum hc) I rx ⟨a, ns, rfl, (by rw [← e2]; exact t1), q _ _ (New.int _)⟩
  | _ => simp [sumD] at hr
theorem alikeOk_of {xs : List PyData} (h : alikeOk xs = true) : (∀ x ∈ xs, ∀ y ∈ xs, PySem.W.alike x y = true) ∧ PyData.depthAll xs ≤ 64 := by
  unfold alikeOk at h
  simp only [Bool.and_eq_true, decide_eq_true_eq, List.all_eq_true] at h
  exact h
mutual
theorem alike_plain : ∀ d : PyData, PySem.W.alike d d = true → d.plain = true
  | .none, _ => by simp [PyData.plain]
  | .bool _, _ => by simp [PyData.plain]
  | .int _, _ => by simp [PyData.plain]
  | .str _, _ => by simp [PyData.plain]
  | .list xs, h => by simp only [PyData.plain]; exact alikeAll_plain xs (by simpa [PySem.W.alike] using h)
  | .tuple xs, h => by simp only [PyData.plain]; exact alikeAll_plain xs (by simpa [PySem.W.alike] using h)
  | .dict _, h => by simp [PySem.W.alike] at h
theorem alikeAll_plain : ∀ ds : List PyData, PySem.W.alikeAll ds ds = true → PyData.plainAll ds = true
  | [], _ => by simp [PyData.plainAll]
  | d :: ds, h => by
    have h : PySem.W.alike d d = true ∧ PySem.W.alikeAll ds ds = true := by simpa [PySem.W.alikeAll] using h
    simp only [PyData.plainAll, Bool.and_eq_true]
    exact ⟨alike_plain d h.1, alikeAll_plain ds h.2⟩
end
theorem plainAll_of : ∀ {ds : List PyData}, (∀ x ∈ ds, PySem.W.alike x x = true) → PyData.plainAll ds = true
  | [], _ => by simp [PyData.plainAll]
  | d :: ds, h => by
    simp only [PyData.plainAll, Bool.and_eq_true]
    exact ⟨alike_plain d (h d List.mem_cons_self), plainAll_of fun x hx => h x (List.mem_cons_of_mem _ hx)⟩
theorem depth_mem : ∀ {ds : List PyData} {n : Nat}, PyData.depthAll ds ≤ n → ∀ d ∈ ds, d.depth ≤ n
  | d :: ds, n, h, e, he => by
    simp only [PyData.depthAll] at h
    rcases List.mem_cons.mp he with rfl | he
    · exact Nat.le_trans (Nat.le_max_left _ _) h
    · exact depth_mem (Nat.le_trans (Nat.le_max_right _ _) h) e he
/-- the items, each with its V -/
theorem each_of {K : PySem.W.Frag} {F : Hp} : ∀ {vs : List V} {us : List Value} {ds : List PyData}, Vals vs us → DatL K F vs ds → PySem.W.EachIs (fun u d => ∃ v, RelV v u ∧ Dat K F v d) us ds
  | _, _, _, .nil, .nil => .nil
  | _, _, _, .cons r t, .cons h k => .cons ⟨_, r, h⟩ (each_of t k)
theorem of_each {K : PySem.W.Frag} {F : Hp} : ∀ {us : List Value} {ds : List PyData}, PySem.W.EachIs (fun u d => ∃ v, RelV v u ∧ Dat K F v d) us ds → ∃ vs, Vals vs us ∧ DatL K F vs ds
  | _, _, .nil => ⟨[], .nil, .nil⟩
  | _, _, .cons ⟨v, r, h⟩ t => by
    obtain ⟨vs, t1, t2⟩ := of_each t
    exact ⟨v :: vs, .cons r t1, .cons h t2⟩
theorem each_reads {h : Heap} : ∀ {us : List Value} {ds : List PyData} {as : List Addr}, ReadsAll h us ds as → PySem.W.EachIs (fun u d => ∃ as, Reads h u d as) us ds
  | _, _, _, .nil => .nil
  | _, _, _, .cons r t => .cons ⟨_, r⟩ (each_reads t)
theorem call_sorted_D (hu : X.A.units + 100 < cLine) : CallR X (.builtin "sorted") (rBD X.K (g1 sortedD)) := call_D1 fun pins s σ H F x u d r Q I rx le hx hr q => by
  cases d with
  | list xs =>
    obtain ⟨a, vs, rfl, t1, k1⟩ := hx
    simp only [sortedD] at hr
    split at hr
    · rename_i hl
      cases hr
      unfold sortOk at hl
      simp only [Bool.and_eq_true, decide_eq_true_eq] at hl
      obtain ⟨⟨h1, h2⟩, h3⟩ := hl
      obtain ⟨a1, a2⟩ := alikeOk_of h2
      cases rx
      obtain ⟨hz, its, n, sl, rv, hlen, e⟩ := rd_lst I t1
      obtain ⟨as, ra⟩ := Dat.readsAll I xs vs its (plainAll_of fun x hx => a1 x hx x hx) (k1.mono le) rv
      refine PySem.W.sorted_data (enc := id) (R := fun u d => ∃ v, RelV v u ∧ Dat X.K F v d) ⟨_, e, rfl, n, rfl⟩ (each_of rv k1) (each_reads ra) ?_ ?_ ?_ ?_ fun out hl2 he => ?_
      · intro d hd d' hd'
        rw [List.map_id] at hd hd'
        exact a1 d hd d' hd'
      · rw [List.map_id]
        simp only [Bool.or_eq_true, List.all_eq_true] at h3
        rcases h3 with h3 | h3
        · refine .inl fun d hd => ?_
          have := h3 d hd
          split at this
          · exact ⟨_, _, rfl⟩
          · cases this
        · refine .inr fun d hd => ?_
          have := h3 d hd
          constructor
          · rintro rfl; cases this
          · rintro ys rfl; cases this
      · exact h1
      · intro b hb
        have := depth_mem a2 b hb
        show X.A.units + 2 + b.depth < cLine
        omega
      · obtain ⟨ws, w1, w2⟩ := of_each he
        obtain ⟨ep, he'⟩ := PyProof.Rows.sortedAll_at s.heap its (List.toArray out)
        have hlen : ws.length ≤ sizeLine := by
          rw [w1.length, hl2]; exact h1
        refine ⟨.ref _, upd H (s.heap.objs.size + 1) (.lst ws), I.laid (t' := s.toks) (fun _ _ => PyProof.Rows.sortedAll_old) (Nat.le_succ _) ⟨hlen, out, ep, w1, he'⟩, rfl, q _ _ (New.lst (I.hok.fresh (Nat.le_succ _)) w2)⟩
    · cases hr
  | _ => simp [sortedD] at hr
theorem min_mem (x : PyData) : ∀ xs : List PyData, PySem.W.minD x xs ∈ x :: xs := by
  intro xs
  unfold PySem.W.minD
  induction xs generalizing x with
  | nil => exact List.mem_cons_self
  | cons y ys ih =>
    rw [List.foldl_cons]
    rcases List.mem_cons.mp (ih (if PySem.W.dataLt y x then y else x)) with e | e
    · rw [e]
      split
      · exact List.mem_cons_of_mem _ List.mem_cons_self
      · exact List.mem_cons_self
    · exact List.mem_cons_of_mem _ (List.mem_cons_of_mem _ e)
theorem max_mem (x : PyData) : ∀ xs : List PyData, PySem.W.maxD x xs ∈ x :: xs := by
  intro xs
  unfold PySem.W.maxD
  induction xs generalizing x with
  | nil => exact List.mem_cons_self
  | cons y ys ih =>
    rw [List.foldl_cons]
    rcases List.mem_cons.mp (ih (if PySem.W.dataLt x y then y else x)) with e | e
    · rw [e]
      split
      · exact List.mem_cons_of_mem _ List.mem_cons_self
      · exact List.mem_cons_self
    · exact List.mem_cons_of_mem _ (List.mem_cons_of_mem _ e)
theorem call_min_D (hc : X.calm = true) (hu : X.A.units + 100 < cLine) : CallR X (.builtin "min") (rBD X.K (g1 minDd)) := call_D1 fun pins s σ H F x u d r Q I rx le hx hr q => by
  cases d with
  | list xs =>
    cases xs with
    | nil => simp [minDd] at hr
    | cons y ys =>
      obtain ⟨a, vs, rfl, t1, k1⟩ := hx
      simp only [minDd] at hr
      split at hr
      · rename_i hl
        cases hr
        rw [Bool.and_eq_true] at hl
        have hc2 := hl.2
        have hl := hl.1
        rw [Bool.and_eq_true] at hl
        obtain ⟨a1, a2⟩ := alikeOk_of hl.1
        cases rx
        obtain ⟨hz, its, n, sl, rv, hlen, e⟩ := rd_lst I t1
        obtain ⟨as, ra⟩ := Dat.readsAll I (y :: ys) vs its (plainAll_of fun x hx => a1 x hx x hx) (k1.mono le) rv
        have hnn : ∀ x ∈ y :: ys, x ≠ .none := fun x hx e => by
          have h2 := hl.2
          unfold noNone at h2
          rw [List.all_eq_true] at h2
          have := h2 x hx
          rw [e] at this
          cases this
        refine PySem.W.min_list_data (I.ok.hd hc) ⟨_, e, rfl, n, rfl⟩ ra ⟨a1, hnn⟩ (by omega) fun i v h' tk bs hv hrd kp => ?_
        have hv' : its[i]? = some v := by simpa using hv
        obtain ⟨w, hw, rw'⟩ : ∃ w, vs[i]? = some w ∧ RelV w v := by
          cases q2 : vs[i]? with
          | none =>
            have := Vals.none_of rv q2
            rw [hv'] at this; cases this
          | some w =>
            obtain ⟨u, h1, h2⟩ := Vals.get rv q2
            rw [hv'] at h1; cases h1
            exact ⟨w, rfl, h2⟩
        obtain ⟨d, hd, hD⟩ : ∃ d, (y :: ys)[i]? = some d ∧ Dat X.K F w d := by
          cases q2 : (y :: ys)[i]? with
          | none =>
            have h1 := List.getElem?_eq_none_iff.mp q2
            rw [← k1.length] at h1
            have h2 := List.getElem?_eq_none_iff.mpr h1
            rw [hw] at h2; cases h2
          | some d =>
            obtain ⟨w2, h1, h2⟩ := k1.get q2
            rw [hw] at h1; cases h1
            exact ⟨d, rfl, h2⟩
        have hmem : d ∈ y :: ys := List.mem_of_getElem? hd
        have I1 : Inv X pins σ H { s with heap := h', toks := tk } := I.kept (t' := tk) kp
        obtain ⟨cs, rd⟩ := Dat.reads I1 d w v (alike_plain d (a1 d hmem d hmem)) (hD.mono le) rw'
        have hin : PySem.W.minD y ys ∈ y :: ys := min_mem y ys
        have ed : d = PySem.W.minD y ys := PySem.W.alike_unique d _ v cs bs (a1 d hmem _ hin) rd hrd
        refine ⟨w, H, I1, rw', q _ _ (.inl ⟨rfl, ed ▸ hD, ?_⟩)⟩
        simpa using hc2
      · cases hr
  | _ => simp [minDd] at hr
theorem call_max_D (hc : X.calm = true) (hu : X.A.units + 100 < cLine) : CallR X (.builtin "max") (rBD X.K (g1 maxDd)) := call_D1 fun pins s σ H F x u d r Q I rx le hx hr q => by
  cases d with
  | list xs =>
    cases xs with
    | nil => simp [maxDd] at hr
    | cons y ys =>
      obtain ⟨a, vs, rfl, t1, k1⟩ := hx
      simp only [maxDd] at hr
      split at hr
      · rename_i hl
        cases hr
        rw [Bool.and_eq_true] at hl
        have hc2 := hl.2
        have hl := hl.1
        rw [Bool.and_eq_true] at hl
        obtain ⟨a1, a2⟩ := alikeOk_of hl.1
        cases rx
        obtain ⟨hz, its, n, sl, rv, hlen, e⟩ := rd_lst I t1
        obtain ⟨as, ra⟩ := Dat.readsAll I (y :: ys) vs its (plainAll_of fun x hx => a1 x hx x hx) (k1.mono le) rv
        have hnn : ∀ x ∈ y :: ys, x ≠ .none := fun x hx e => by
          have h2 := hl.2
          unfold noNone at h2
          rw [List.all_eq_true] at h2
          have := h2 x hx
          rw [e] at this
          cases this
        refine PySem.W.max_list_data (I.ok.hd hc) ⟨_, e, rfl, n, rfl⟩ ra ⟨a1, hnn⟩ (by omega) fun i v h' tk bs hv hrd kp => ?_
        have hv' : its[i]? = some v := by simpa using hv
        obtain ⟨w, hw, rw'⟩ : ∃ w, vs[i]? = some w ∧ RelV w v := by
          cases q2 : vs[i]? with
          | none =>
            have := Vals.none_of rv q2
            rw [hv'] at this; cases this
          | some w =>
            obtain ⟨u, h1, h2⟩ := Vals.get rv q2
            rw [hv'] at h1; cases h1
            exact ⟨w, rfl, h2⟩
        obtain ⟨d, hd, hD⟩ : ∃ d, (y :: ys)[i]? = some d ∧ Dat X.K F w d := by
          cases q2 : (y :: ys)[i]? with
          | none =>
            have h1 := List.getElem?_eq_none_iff.mp q2
            rw [← k1.length] at h1
            have h2 := List.getElem?_eq_none_iff.mpr h1
            rw [hw] at h2; cases h2
          | some d =>
            obtain ⟨w2, h1, h2⟩ := k1.get q2
            rw [hw] at h1; cases h1
            exact ⟨d, rfl, h2⟩
        have hmem : d ∈ y :: ys := List.mem_of_getElem? hd
        have I1 : Inv X pins σ H { s with heap := h', toks := tk } := I.kept (t' := tk) kp
        obtain ⟨cs, rd⟩ := Dat.reads I1 d w v (alike_plain d (a1 d hmem d hmem)) (hD.mono le) rw'
        have hin : PySem.W.maxD y ys ∈ y :: ys := max_mem y ys
        have ed : d = PySem.W.maxD y ys := PySem.W.alike_unique d _ v cs bs (a1 d hmem _ hin) rd hrd
        refine ⟨w, H, I1, rw', q _ _ (.inl ⟨rfl, ed ▸ hD, ?_⟩)⟩
        simpa using hc2
      · cases hr
  | _ => simp [maxDd] at hr
theorem call_D2 {f : Value} {g : PyData → PyData → Option PyData}
    (h : ∀ (pins : List (Addr × Obj)) (s : Shared) (σ : L2.St) (H F : Hp) (x y : V) (us : List Value) (d e r : PyData) (Q : VK), Inv X pins σ H s → Vals [x, y] us → Le F H → Shl X.K F H x d → Shl X.K F H y e → g d e = some r → (∀ z H', New X.K F H z r H' → Q z H') →
      wpAny (model X.prog X.w) X.A (call f us) (EP X pins σ Q) X.xe s) : CallR X f (rBD X.K (g2 g)) := by
  intro pins s σ H xs us Q I rv hq
  obtain ⟨F, ds, r, le, hs, hg, q⟩ := hq
  cases hs with
  | nil => cases hg
  | cons h1 h2 =>
    cases h2 with
    | nil => cases hg
    | cons h3 h4 =>
      cases h4 with
      | nil => exact h pins s σ H F _ _ us _ _ r Q I rv le h1 h3 hg q
      | cons _ _ => cases hg
theorem call_max2_D (hc : X.calm = true) : CallR X (.builtin "max") (rBD X.K (g2 max2D)) := call_D2 fun pins s σ H F x y us d e r Q I rv le hx hy hr q => by
  cases d with
  | int i =>
    cases e with
    | int j =>
      cases hx.int; cases hy.int
      cases hr
      exact call_max2 hc pins s σ H _ us Q I rv ⟨i, j, rfl, q _ _ (New.int _)⟩
    | _ => simp [max2D] at hr
  | _ => simp [max2D] at hr
theorem call_min2_D (hc : X.calm = true) : CallR X (.builtin "min") (rBD X.K (g2 min2D)) := call_D2 fun pins s σ H F x y us d e r Q I rv le hx hy hr q => by
  cases d with
  | int i =>
    cases e with
    | int j =>
      cases hx.int; cases hy.int
      cases hr
      exact call_min2 hc pins s σ H _ us Q I rv ⟨i, j, rfl, q _ _ (New.int _)⟩
    | _ => simp [min2D] at hr
  | _ => simp [min2D] at hr
def bval : Bi → Value
  | .len => .builtin "len"
  | .abs => .builtin "abs"
  | .int => .type "int"
  | .tuple => .type "tuple"
  | .list => .type "list"
  | .sorted => .builtin "sorted"
  | .sum => .builtin "sum"
  | .min => .builtin "min"
  | .max => .builtin "max"
  | .min2 => .builtin "min"
  | .max2 => .builtin "max"
theorem call_bi (hc : X.calm = true) (hu : X.A.units + 100 < cLine) (b : Bi) : CallR X (bval b) (rBD X.K (bi b)) := by
  cases b with
  | len => exact call_len_D
  | abs => exact call_abs_D
  | int => exact call_int_D
  | tuple => exact call_tup_D
  | list => exact call_lst_D
  | sorted => exact call_sorted_D hu
  | sum => exact call_sum_D hc
  | min => exact call_min_D hc hu
  | max => exact call_max_D hc hu
  | min2 => exact call_min2_D hc
  | max2 => exact call_max2_D hc
theorem isTy_data {t : Ty} {d : PyData} : isTy t d = (match t with | .int => d.isInt | .bool => d.isBool | .str => d.isStr | .tuple => d.isTuple | .list => d.isList | .dict => d.isDict) := by
  cases t <;> cases d <;> rfl
def tyN : Ty → String
  | .int => "int" | .bool => "bool" | .str => "str" | .tuple => "tuple" | .list => "list" | .dict => "dict"
theorem call_isa_D (t : Ty) : CallR X (.builtin "isinstance") (fun xs H Q => ∃ x, xs = [x, .ty (tyN t)] ∧ rBD X.K (g1 (isaD t)) [x] H Q) := by
  intro pins s σ H xs us Q I rv h
  obtain ⟨x, rfl, F, ds, r, le, hs, hg, q⟩ := h
  obtain ⟨u1, u2, rfl, r1, r2⟩ := vals2 rv
  cases (show u2 = Value.type (tyN t) from r2)
  cases hs with
  | cons h1 h2 =>
    cases h2
    rename_i d
    simp only [g1, isaD] at hg
    split at hg
    · rename_i hp
      cases hg
      obtain ⟨as, rd⟩ := Dat.reads I d x u1 hp (h1.dat le) r1
      have fin : ∀ (k : Bool), k = isTy t d → ∀ tk, EP X pins σ Q (.bool k) { s with toks := tk } := fun k e tk => ⟨.bl _, H, I.tok tk, by rw [e]; rfl, q _ _ (New.bl _)⟩
      rw [isTy_data] at fin
      cases t with
      | int => exact PySem.W.isinstance_int_data rd fun tk _ => fin _ rfl tk
      | bool => exact PySem.W.isinstance_bool_data rd fun tk _ => fin _ rfl tk
      | str => exact PySem.W.isinstance_str_data rd fun tk _ => fin _ rfl tk
      | tuple => exact PySem.W.isinstance_tuple_data rd fun tk _ => fin _ rfl tk
      | list => exact PySem.W.isinstance_list_data rd fun tk _ => fin _ rfl tk
      | dict => exact PySem.W.isinstance_dict_data rd fun tk _ => fin _ rfl tk
    · cases hg
theorem tru_D : TruR X (fun x H Q => ∃ F d k, Le F H ∧ Shl X.K F H x d ∧ truth d = some k ∧ Q k H) := by
  intro pins s σ H x v Q I rx h
  obtain ⟨F, d, k, le, hx, hk, q⟩ := h
  refine tru_ok pins s σ H x v Q I rx ⟨k, ?_, q⟩
  cases d with
  | none => cases (show Dat X.K F x .none from hx); cases hk; rfl
  | bool b => cases hx.bool; cases hk; rfl
  | int i => cases hx.int; cases hk; rfl
  | str z =>
    cases hx.str
    simp only [truth] at hk
    split at hk
    · rename_i hl
      cases hk
      refine ⟨hl, ?_⟩
      show (!z.cps.isEmpty) = (((z.cps.size : Nat) : Int) != 0)
      rw [Bool.eq_iff_iff]
      simp
    · cases hk
  | list xs =>
    obtain ⟨a, vs, rfl, t1, k1⟩ := hx
    cases hk
    exact .inl ⟨vs, t1, by cases k1 <;> rfl⟩
  | tuple xs =>
    obtain ⟨a, vs, rfl, t1, k1⟩ := hx.tup le
    cases hk
    exact .inr (.inl ⟨vs, t1, by cases k1 <;> rfl⟩)
  | dict xs => cases hk
end
end Fx
set_option Elab.async false
set_option linter.all false
set_option maxRecDepth 100000
/-! M7: what is wanted of an expression's run; pure expressions; operands. -/
namespace Fx
open PySem PySem.Spec PyProof.Rows L2

/-- the ghosts of a body: the functions, the written part, what is lent, what is wanted of an exception -/
structure Gh where
  c : Orc
  K : PySem.W.Frag
  L : List (Nat × V)
  XI : PyData → Value → Option Addr → Hp → Prop
  EX : XK
  CX : CXT
  k : Nat
def Out {α : Type} (r : Rs α) (ok : α → Prop) (ex : PyData → Prop) : Prop := match r with
  | .ok a => ok a
  | .ex x => ex x
  | .bad => False
theorem Out.bind {α β : Type} {r : Rs α} {f : α → Rs β} {ok : β → Prop} {ex : PyData → Prop} (h : Out (r.bind f) ok ex) : Out r (fun a => Out (f a) ok ex) ex := by
  cases r <;> exact h
theorem Out.mono {α : Type} {r : Rs α} {ok ok' : α → Prop} {ex ex' : PyData → Prop} (h : Out r ok ex) (h1 : ∀ a, r = .ok a → ok a → ok' a) (h2 : ∀ x, r = .ex x → ex x → ex' x) : Out r ok' ex' := by
  cases r with
  | ok a => exact h1 a rfl h
  | ex x => exact h2 x rfl h
  | bad => exact h
theorem Out.of {α : Type} {o : Option α} {ok : α → Prop} {ex : PyData → Prop} (h : Out (Rs.of o) ok ex) : ∃ a, o = some a ∧ ok a := by
  cases o with
  | none => exact h.elim
  | some a => exact ⟨a, rfl, h⟩
theorem Out.of_bind {α β : Type} {o : Option α} {f : α → Rs β} {ok : β → Prop} {ex : PyData → Prop} (h : Out ((Rs.of o).bind f) ok ex) : ∃ a, o = some a ∧ Out (f a) ok ex := by
  cases o with
  | none => exact h.elim
  | some a => exact ⟨a, rfl, h⟩
/-- what was put aside stands, what could be read can be read -/
structure Stp (T : As) (H : Hp) (fps : Nat → As) (T' : As) (H' : Hp) (fps' : Nat → As) : Prop where
  aside : ∀ b, T b → H' b = H b
  le : Le (fr T H fps) (fr T' H' fps')
theorem Stp.refl (T : As) (H : Hp) (fps : Nat → As) : Stp T H fps T H fps := ⟨fun _ _ => rfl, Le.refl _⟩
theorem Stp.trans {T T1 T2 : As} {H H1 H2 : Hp} {f0 f1 f2 : Nat → As} (hs : ∀ b, T b → T1 b) (a : Stp T H f0 T1 H1 f1) (b : Stp T1 H1 f1 T2 H2 f2) : Stp T H f0 T2 H2 f2 :=
  ⟨fun x h => (b.aside x (hs x h)).trans (a.aside x h), a.le.trans b.le⟩
theorem Stp.tr {T T2 : As} {H H1 H2 : Hp} {f0 f1 f2 : Nat → As} (a : Stp T H f0 T H1 f1) (b : Stp T H1 f1 T2 H2 f2) : Stp T H f0 T2 H2 f2 := a.trans (fun _ h => h) b
/-- an exception leaves -/
def XWE (XI : PyData → Value → Option Addr → Hp → Prop) (EX : XK) (T : As) (H : Hp) (fps : Nat → As) (x : PyData) : Prop := ∀ cls a H', (∀ b, T b → H' b = H b) → Le (fr T H fps) (hid H' T) → XI x cls a H' → EX cls a H'
abbrev XW (G : Gh) (T : As) (H : Hp) (fps : Nat → As) (x : PyData) : Prop := XWE G.XI G.EX T H fps x
theorem XW.step {G : Gh} {T f : As} {H H1 : Hp} {fps fps1 : Nat → As} {x : PyData} (h : XW G T H fps x) (s : Stp T H fps (or' f T) H1 fps1) : XW G (or' f T) H1 fps1 x := fun cls a H' k le xi =>
  h cls a H' (fun b hb => (k b (.inr hb)).trans (s.aside b hb)) (s.le.trans (le.trans (hid_mono fun b hb => .inr hb))) xi
theorem XW.step0 {G : Gh} {T : As} {H H1 : Hp} {fps fps1 : Nat → As} {x : PyData} (h : XW G T H fps x) (s : Stp T H fps T H1 fps1) : XW G T H1 fps1 x := fun cls a H' k le xi =>
  h cls a H' (fun b hb => (k b hb).trans (s.aside b hb)) (s.le.trans le) xi
/-- behind an expression: its value v is d, owned to the depth k -/
def VOut (G : Gh) (T : As) (H : Hp) (fps : Nat → As) (σ : L2.St) (k : Nat) (r : PyData × EnvD) (v : V) (H' : Hp) : Prop :=
  ∃ fps' f, SOk G.K G.L (or' f T) r.2 σ H' fps' ∧ Rep G.K (fr (or' f T) H' fps') H' k v r.1 f ∧ Dis f T ∧ Stp T H fps (or' f T) H' fps'
def tV (G : Gh) (k : Nat) (f : EnvD → Rs (PyData × EnvD)) : TE := fun σ H Q => ∃ T env fps, SOk G.K G.L T env σ H fps ∧ Out (f env) (fun r => ∀ v H', VOut G T H fps σ k r v H' → Q v H') (XW G T H fps)
def TOut (G : Gh) (T : As) (H : Hp) (fps : Nat → As) (σ : L2.St) (env : EnvD) (H' : Hp) : Prop := ∃ fps', SOk G.K G.L T env σ H' fps' ∧ Stp T H fps T H' fps'
def tT (G : Gh) (f : EnvD → Rs (Bool × EnvD)) : TT := fun σ H Q => ∃ T env fps, SOk G.K G.L T env σ H fps ∧ Out (f env) (fun r => ∀ H', TOut G T H fps σ r.2 H' → Q r.1 H') (XW G T H fps)
/-- a pure expression -/
def tP (G : Gh) (p : P) : TE := fun σ H Q => ∃ T env fps, SOk G.K G.L T env σ H fps ∧ ∃ j d, evP G.c p env = some (j, d) ∧ ∀ v fp, Rep G.K (fr T H fps) H j v d fp → (∀ b, fp b → all' T fps b) → (∀ i, p = .at i → σ[i]? = some (some v)) → Q v H

theorem _root_.L2.PE.weaken {X : Cx} {e : Expr} {t t' : TE} (h : PE X e t) (w : ∀ σ H Q, t' σ H Q → t σ H Q) : PE X e t' := ⟨fun pins s σ H Q I q => h.run pins s σ H Q I (w σ H Q q)⟩
theorem _root_.L2.PT.weaken {X : Cx} {e : Expr} {t t' : TT} (h : PT X e t) (w : ∀ σ H Q, t' σ H Q → t σ H Q) : PT X e t' := ⟨fun pins s σ H Q I q => h.run pins s σ H Q I (w σ H Q q)⟩
theorem _root_.L2.PA.weaken {X : Cx} {e : List Expr} {t t' : TA} (h : PA X e t) (w : ∀ σ H Q, t' σ H Q → t σ H Q) : PA X e t' := ⟨fun pos pins s σ H Q I q => h.run pos pins s σ H Q I (w σ H Q q)⟩
theorem _root_.L2.PS.weaken {X : Cx} {e : Stmt} {t t' : TS} (h : PS X e t) (w : ∀ D σ H, t' D σ H → t D σ H) : PS X e t' := ⟨fun pins s σ H D I q => h.run pins s σ H D I (w D σ H q)⟩
theorem _root_.L2.PSs.weaken {X : Cx} {e : List Stmt} {t t' : TS} (h : PSs X e t) (w : ∀ D σ H, t' D σ H → t D σ H) : PSs X e t' := ⟨fun pins s σ H D I q => h.run pins s σ H D I (w D σ H q)⟩

/-! ### the text's names -/
structure Gam where
  N : List Str
  sc : Scope
  st : Bool
  fns : List (Str × List Str)
  kws : List (Nat × Nat × List Str × List Nat)
  cons : List Str
/-- what lies behind a call: what was lent, the result v owned to the depth k -/
def lentOnly : List SV → List SV := List.map fun x => match x with
  | .sv true k d => .sv true k d
  | _ => .un
def FOut (K : PySem.W.Frag) (L : List (Nat × V)) (T : As) (H : Hp) (fps : Nat → As) (k : Nat) (vs : List V) (r : PyData × List SV) (v : V) (H' : Hp) : Prop :=
  ∃ fps' f, SOk K L (or' f T) (lentOnly r.2) (vs.map some) H' fps' ∧ Rep K (fr (or' f T) H' fps') H' k v r.1 f ∧ Dis f T ∧ Stp T H fps (or' f T) H' fps'
/-- what a def promises -/
def spF (K : PySem.W.Frag) (XI : PyData → Value → Option Addr → Hp → Prop) (c : Orc) (i n : Nat) : Sp := fun vs H Q E => vs.length = n ∧ ∃ L T svs fps, SOk K L T svs (vs.map some) H fps ∧ (∀ p ∈ L, vs[p.1]? = some p.2) ∧
  Out (c.fn i svs) (fun r => ∀ v H', FOut K L T H fps (c.ret i) vs r v H' → Q v H') (XWE XI E T H fps)
/-- how the values of a call lie in the parameters' order -/
def permL {α : Type} (js : List Nat) (xs : List α) : List α := js.filterMap fun j => xs[j]?
def bltNames : List Str := ["len", "abs", "int", "tuple", "list", "sorted", "sum", "min", "max", "isinstance", "range", "bool", "str", "dict", "enumerate", "zip", "all", "any", "reversed", "repr"]
/-- a context in which a text with the names of Γ runs -/
structure Ok (Γ : Gam) (G : Gh) (X : Cx) : Prop where
  hK : X.K = G.K
  hN : X.N = Γ.N
  nd : Γ.N.Nodup
  sc : X.env.scope = Γ.sc
  calm : X.calm = true
  hu : X.A.units + 200 < cLine
  blt : ∀ x, x ∈ bltNames → X.mg x = none
  con : ∀ n x d, Γ.cons[n]? = some x → G.c.con n = some d → ∃ v u, X.mg x = some u ∧ RelV v u ∧ ∀ F, Dat G.K F v d
  room : Room G.k X.A
  pass : Passes G.CX X G.EX
  own : PassesOwn (model X.prog X.w) X.A X.env X.xe
  cel : ∀ x, Γ.st = true → X.fn x = true
  passN : ∀ outer H s e s', G.CX outer H s (fun _ _ _ => False) e s' → False
  fns : ∀ i x ps, Γ.fns[i]? = some (x, ps) → ∃ f fd, X.mg x = some (.ref f) ∧ PySem.W.keepIn X.K (.ref f) = true ∧ FnOk X.prog X.w X.K X.mg X.base G.CX G.k f fd ps (spF G.K G.XI G.c i ps.length) ∧
    Binds X.K fd ps [] ∧ ∀ n ks js, (i, n, ks, js) ∈ Γ.kws → KBn X.K fd ps n ks (fun us ws => permL js (us ++ ws)) (fun vs zs => permL js (vs ++ zs))

def bad1 : Str := "__debug__"
def bad2 : Str := "__classdict__"
def bad3 : Str := "__name__"
def okName (x : Str) : Bool := !(x == bad1) && !(x == bad2) && !(x == bad3)
theorem okName_1 {x : Str} (h : okName x = true) : (x == ("__debug__" : Str)) = false ∧ (x == ("__classdict__" : Str)) = false ∧ x ≠ "__name__" := by
  unfold okName at h
  simp only [Bool.and_eq_true, Bool.not_eq_true'] at h
  exact ⟨h.1.1, h.1.2, by intro e; rw [e] at h; exact absurd h.2 (by decide)⟩
def isVis (Γ : Gam) (x : Str) : Bool := match Γ.sc.names.lookup x with
  | some .local => true
  | some .cell => true
  | some .free => true
  | _ => false
theorem isVis_ok {Γ : Gam} {x : Str} (h : isVis Γ x = true) : Vis Γ.sc x := by
  unfold isVis at h
  split at h
  · exact .inl (by assumption)
  · exact .inr (.inl (by assumption))
  · exact .inr (.inr (by assumption))
  · cases h
def isLoc (Γ : Gam) (x : Str) : Bool := match Γ.sc.names.lookup x with
  | some .local => true
  | some .cell => true
  | _ => false
theorem isLoc_ok {Γ : Gam} {x : Str} (h : isLoc Γ x = true) : Loc Γ.sc x := by
  unfold isLoc at h
  split at h
  · exact .inl (by assumption)
  · exact .inr (by assumption)
  · cases h
def isGl (Γ : Gam) (x : Str) : Bool := decide (Γ.sc.names.lookup x = some .globalImplicit) && okName x
theorem Ok.gl {Γ : Gam} {G : Gh} {X : Cx} (ok : Ok Γ G X) {x : Str} (h : isGl Γ x = true) : Gl X x ∧ okName x = true := by
  unfold isGl at h
  simp only [Bool.and_eq_true, decide_eq_true_eq] at h
  refine ⟨?_, h.2⟩
  show X.env.scope.names.lookup x = _
  rw [ok.sc]; exact h.1
def noSlice : Expr → Bool
  | .Slice .. => false
  | _ => true
theorem plainIx {e : Expr} (h : noSlice e = true) : PlainIx e := by
  intro o i
  cases e <;> first | rfl | cases h
def noStar1 : Expr → Bool
  | .Starred .. => false
  | _ => true
theorem star_cons {e : Expr} {es : List Expr} {env : PySem.Env} (h : noStar1 e = true) : starEach (e :: es) env = (false, eval e env) :: starEach es env := by
  cases e <;> first | rfl | cases h
def noStar (es : List Expr) : Bool := es.all noStar1
theorem star_any {env : PySem.Env} {pos : Pos} : ∀ {es : List Expr}, noStar es = true → (backTo pos (starEach es env)).any (·.1) = false
  | [], _ => rfl
  | e :: es, h => by
    have h : noStar1 e = true ∧ noStar es = true := by simpa [noStar] using h
    rw [star_cons h.1]
    show (false || (backTo pos (starEach es env)).any (·.1)) = false
    rw [star_any h.2]; rfl

/-! ### pure expressions -/
def opOk : B2 → Operator → Bool
  | .add, .Add => true | .sub, .Sub => true | .mul, .Mult => true | .fdiv, .FloorDiv => true | .mod, .Mod => true | .pow, .Pow => true | .shr, .RShift => true | .shl, .LShift => true
  | _, _ => false
theorem opOk_eq {o : B2} {p : Operator} (h : opOk o p = true) : p = bop o := by
  cases o <;> cases p <;> first | rfl | cases h
def cmpOk : C2 → CmpOp → Bool
  | .eq, .Eq => true | .ne, .NotEq => true | .lt, .Lt => true | .le, .LtE => true | .gt, .Gt => true | .ge, .GtE => true | .inn, .In => true | .nin, .NotIn => true
  | _, _ => false
theorem cmpOk_eq {o : C2} {p : CmpOp} (h : cmpOk o p = true) : p = cop o := by
  cases o <;> cases p <;> first | rfl | cases h
def conOk : PyData → Const → Bool
  | .int i, .int j => decide (i = j)
  | .bool a, .bool b => a == b
  | .str a, .str b => decide (a = b)
  | .none, .none => true
  | _, _ => false
def nInt : Str := "int"
def nLen : Str := "len"
def nAbs : Str := "abs"
def chkP (Γ : Gam) : P → Expr → Bool
  | .k d, .Constant c _ _ => conOk d c
  | .at i, .Name x _ => decide (Γ.N[i]? = some x) && isVis Γ x && okName x
  | .g n, .Name x _ => decide (Γ.cons[n]? = some x) && isGl Γ x
  | .ix a b, .Subscript x y _ => chkP Γ a x && chkP Γ b y && noSlice y
  | .b2 o a b, .BinOp x p y _ => opOk o p && chkP Γ a x && chkP Γ b y
  | .p1 .neg a, .UnaryOp .USub x _ => chkP Γ a x
  | .p1 .int a, .Call (.Name f _) [x] [] _ => decide (f = nInt) && isGl Γ f && chkP Γ a x && noStar1 x
  | .p1 .len a, .Call (.Name f _) [x] [] _ => decide (f = nLen) && isGl Γ f && chkP Γ a x && noStar1 x
  | .p1 .abs a, .Call (.Name f _) [x] [] _ => decide (f = nAbs) && isGl Γ f && chkP Γ a x && noStar1 x
  | _, _ => false
section
variable {Γ : Gam} {G : Gh} {X : Cx}
theorem rep_dat {T : As} {env : EnvD} {σ : L2.St} {H : Hp} {fps : Nat → As} {j : Nat} {v : V} {d : PyData} {fp : As} (h : Rep G.K (fr T H fps) H j v d fp) : Dat G.K H v d := h.dat j hid_le fun _ _ => rfl
theorem blt_none (ok : Ok Γ G X) {x : Str} (h : x ∈ bltNames) : X.mg x = none := ok.blt x h
theorem atI_mem {α : Type} {xs : List α} {i : Int} {v : α} (h : atI xs i = some v) : ∃ j : Nat, xs[j]? = some v := by
  unfold atI at h
  cases q : ixN xs.length i with
  | none => rw [q] at h; cases h
  | some j => rw [q] at h; exact ⟨j, h⟩
theorem RepL.get {R : RR} : ∀ {vs : List V} {ds : List PyData} {g : As}, RepL R vs ds g → ∀ {i : Nat} {d : PyData}, ds[i]? = some d → ∃ v f, vs[i]? = some v ∧ R v d f ∧ ∀ b, f b → g b
  | _, _, _, .nil, _, _, h => by simp at h
  | _, _, _, .cons h t dj, 0, _, e => by simp at e; subst e; exact ⟨_, _, rfl, h, fun _ z => .inl z⟩
  | _, _, _, .cons h t dj, i + 1, _, e => by
    obtain ⟨v, f, h1, h2, h3⟩ := RepL.get t (i := i) (by simpa using e)
    exact ⟨v, f, by simpa using h1, h2, fun b z => .inr (h3 b z)⟩
theorem RepL.atI {R : RR} {vs : List V} {ds : List PyData} {g : As} (h : RepL R vs ds g) {i : Int} {d : PyData} (e : atI ds i = some d) : ∃ v f, L2.atI vs i = some v ∧ R v d f ∧ ∀ b, f b → g b := by
  unfold L2.atI at e ⊢
  rw [h.length]
  cases q : ixN ds.length i with
  | none => rw [q] at e; cases e
  | some j =>
    rw [q] at e
    exact h.get e
/-- an item of owned or frozen data -/
theorem ix_P : IxR X (fun x y H Q => ∃ F j d e r fp, Le F H ∧ Rep X.K F H j x d fp ∧ Dat X.K H y e ∧ ixD d e = some r ∧ ∀ z f, Rep X.K F H (if isCont d = true then j - 1 else 0) z r f → (∀ b, f b → fp b) → Q z H) := by
  intro value slice pins s σ H x y v u Q I rx ry h hs
  obtain ⟨F, j, d, e, r, fp, le, hd, he, hr, q⟩ := h
  cases e with
  | int i =>
    cases he.intV
    have plain : Dat X.K F x d → isCont d = false → _ := fun h3 h1 => ix_D value slice pins s σ H x _ v u Q I rx ry ⟨F, d, _, r, le, Shl.of le h3, Shl.of le (Dat.int i), hr, fun z hz => by
      rw [h1] at q
      exact q z none' ⟨rfl, hz⟩ fun _ h => h.elim⟩ hs
    cases j with
    | zero =>
      refine ix_D value slice pins s σ H x _ v u Q I rx ry ⟨F, d, _, r, le, Shl.of le hd.2, Shl.of le (Dat.int i), hr, fun z hz => ?_⟩ hs
      refine q z none' ?_ fun _ h => h.elim
      split <;> exact ⟨rfl, hz⟩
    | succ j =>
      rcases hd with ⟨h1, h2, h3⟩ | ⟨a, vs, ds, g, rfl, rfl, h1, h2, h3, rfl⟩ | ⟨a, vs, ds, g, rfl, rfl, h1, h2, h3, rfl⟩ | ⟨a, vs, ds, g, rfl, rfl, h1, h2, h3, rfl⟩
      · exact plain h3 h1
      · obtain ⟨w, f, w1, w2, w3⟩ := h2.atI (show atI ds i = some r from hr)
        exact ix_list value slice pins s σ H _ _ v u Q I rx ry ⟨a, vs, i, w, rfl, rfl, .inl (.inl h1), w1, q w f w2 fun b z => .inr (w3 b z)⟩ hs
      · cases hr
      · cases hr
  | _ => cases d <;> cases hr
theorem con_V {d : PyData} {c : Const} {F : Hp} (h : conOk d c = true) {i : Nat} {pos : Pos} : ∃ v, Dat X.K F v d ∧ PE X (.Constant c i pos) (tC v) := by
  cases d <;> cases c <;> first
    | (cases h; done)
    | (simp [conOk] at h; done)
    | skip
  · exact ⟨_, .non, pe_non⟩
  · rename_i a b
    have e : a = b := by simpa [conOk] using h
    subst e
    exact ⟨_, .bl a, pe_bl⟩
  · rename_i a b
    have e : a = b := by simpa [conOk] using h
    subst e
    exact ⟨_, .int a, pe_int⟩
  · rename_i a b
    have e : a = b := by simpa [conOk] using h
    subst e
    exact ⟨_, .str a, pe_str⟩
theorem pure_call (ok : Ok Γ G X) {o : P1} {a : P} {f : Str} {p pos : Pos} {x : Expr} {id : Value} (hx : PE X x (tP G a)) (hf : f ∈ bltNames) (hg : isGl Γ f = true) (hs : noStar1 x = true)
    (hb : (∃ n, id = .builtin n ∧ bootBuiltins f = some (.builtin n)) ∨ ∃ n, id = .type n ∧ bootBuiltins f = some (.type n)) (hc : CallR X id (rBD X.K (g1 (p1 o)))) (hsc : ∀ d r, p1 o d = some r → (scal r).isSome = true) :
    PE X (.Call (.Name f p) [x] [] pos) (tP G (.p1 o a)) := by
  obtain ⟨g1', g2'⟩ := ok.gl hg
  obtain ⟨n1, n2, n3⟩ := okName_1 g2'
  have pa : PA X [x] (tCons (tP G a) tNil) := pa_cons hx pa_nil (star_cons hs)
  have w : ∀ σ H Q, tP G (.p1 o a) σ H Q → tCB (rBD X.K (g1 (p1 o))) (tCons (tP G a) tNil) σ H Q := fun σ H Q h => by
    obtain ⟨T, env, fps, I, j, d, e, q⟩ := h
    simp only [evP] at e
    obtain ⟨⟨j0, d0⟩, e1, e2⟩ := Option.bind_eq_some_iff.mp e
    obtain ⟨r, e3, e4⟩ := Option.map_eq_some_iff.mp e2
    cases e4
    refine ⟨T, env, fps, I, j0, d0, e1, fun v fp hv hfp _ => ⟨H, [d0], d, Le.refl _, .cons (Shl.of (Le.refl _) ?_) .nil, e3, fun z H' hz => ?_⟩⟩
    · rw [ok.hK]; exact rep_dat (env := env) (σ := σ) hv
    · obtain ⟨h1, h2⟩ := hz.flat (hsc _ _ e3)
      rw [h1]
      refine q z none' ⟨rfl, ?_⟩ (fun _ h => h.elim) fun _ h => by cases h
      rw [← ok.hK]; exact h2 _
  rcases hb with ⟨n, rfl, hb⟩ | ⟨n, rfl, hb⟩
  · exact (pe_callB hc g1' (ok.blt f hf) hb pa n3 n1 (star_cons hs) rfl).weaken w
  · exact (pe_callTy hc g1' (ok.blt f hf) hb pa n3 n1 (star_cons hs) rfl).weaken w
theorem p1_scal : ∀ {o : P1} {d r : PyData}, p1 o d = some r → (scal r).isSome = true := fun {o d r} h => by
  cases o <;> cases d <;> simp only [p1] at h <;> first
    | (cases h; rfl)
    | (cases h; done)
    | (split at h <;> cases h; rfl)
theorem snd_P (ok : Ok Γ G X) : ∀ (p : P) (e : Expr), chkP Γ p e = true → PE X e (tP G p)
  | .k d, e, h => by
    cases e <;> first | (simp [chkP] at h; done) | skip
    rename_i c i pos
    obtain ⟨v, hv, hp⟩ := con_V (X := X) (F := fun _ => none) (i := i) (pos := pos) (show conOk d c = true from h)
    refine hp.weaken fun σ H Q hq => ?_
    obtain ⟨T, env, fps, I, j, d', e1, q⟩ := hq
    cases e1
    refine q v none' ⟨rfl, ?_⟩ (fun _ h => h.elim) fun _ h => by cases h
    rw [← ok.hK]
    exact hv.mono fun a u r => by rcases r with r | ⟨o, r⟩ <;> cases r
  | .at i, e, h => by
    cases e <;> first | (simp [chkP] at h; done) | skip
    rename_i x pos
    simp only [chkP, Bool.and_eq_true, decide_eq_true_eq] at h
    obtain ⟨⟨h1, h2⟩, h3⟩ := h
    obtain ⟨n1, n2, _⟩ := okName_1 h3
    refine (pe_var (i := i) (by rw [ok.hN]; exact h1) (by rw [ok.sc]; exact isVis_ok h2) n1 n2).weaken fun σ H Q hq => ?_
    obtain ⟨T, env, fps, I, j, d, e1, q⟩ := hq
    simp only [evP, slot] at e1
    split at e1
    · rename_i l k d' hs
      cases e1
      obtain ⟨v, v1, v2, v3⟩ := I.slot _ _ _ _ hs
      exact ⟨v, v1, q v _ v2 (fun b hb => .inr ⟨i, hb⟩) fun i' e => by cases e; exact v1⟩
    · cases e1
  | .g n, e, h => by
    cases e <;> first | (simp [chkP] at h; done) | skip
    rename_i x pos
    simp only [chkP, Bool.and_eq_true, decide_eq_true_eq] at h
    obtain ⟨g1', g2'⟩ := ok.gl h.2
    obtain ⟨n1, n2, _⟩ := okName_1 g2'
    refine ⟨fun pins s σ H Q I hq => ?_⟩
    obtain ⟨T, env, fps, I0, j, d, e1, q⟩ := hq
    simp only [evP] at e1
    obtain ⟨d0, e2, e3⟩ := Option.map_eq_some_iff.mp e1
    cases e3
    obtain ⟨v, u, m1, m2, m3⟩ := ok.con n x _ h.1 e2
    exact (pe_glob g1' m1 m2 n1).run pins s σ H Q I (q v none' ⟨rfl, m3 _⟩ (fun _ h => h.elim) fun _ h => by cases h)
  | .ix a b, e, h => by
    cases e <;> first | (simp [chkP] at h; done) | skip
    rename_i x y pos
    simp only [chkP, Bool.and_eq_true] at h
    obtain ⟨⟨h1, h2⟩, h3⟩ := h
    refine (pe_ix ix_P (snd_P ok a x h1) (snd_P ok b y h2) (plainIx h3)).weaken fun σ H Q hq => ?_
    obtain ⟨T, env, fps, I, j, d, e1, q⟩ := hq
    simp only [evP] at e1
    obtain ⟨⟨j1, d1⟩, a1, e2⟩ := Option.bind_eq_some_iff.mp e1
    obtain ⟨⟨j2, d2⟩, a2, e3⟩ := Option.bind_eq_some_iff.mp e2
    obtain ⟨r, a3, e4⟩ := Option.map_eq_some_iff.mp e3
    cases e4
    refine ⟨T, env, fps, I, j1, d1, a1, fun v fp hv hfp _ => ⟨T, env, fps, I, j2, d2, a2, fun w gp hw _ _ => ⟨fr T H fps, j1, d1, d2, _, fp, hid_le, by rw [ok.hK]; exact hv, by rw [ok.hK]; exact rep_dat (env := env) (σ := σ) hw, a3, fun z f hz hf => ?_⟩⟩⟩
    refine q z f ?_ (fun b hb => hfp b (hf b hb)) fun _ h => by cases h
    rw [← ok.hK]; exact hz
  | .b2 o a b, e, h => by
    cases e <;> first | (simp [chkP] at h; done) | skip
    rename_i x p y pos
    simp only [chkP, Bool.and_eq_true] at h
    obtain ⟨⟨h1, h2⟩, h3⟩ := h
    have e0 := opOk_eq h1
    subst e0
    refine (pe_op (op_b2 o) (snd_P ok a x h2) (snd_P ok b y h3)).weaken fun σ H Q hq => ?_
    obtain ⟨T, env, fps, I, j, d, e1, q⟩ := hq
    simp only [evP] at e1
    obtain ⟨⟨j1, d1⟩, a1, e2⟩ := Option.bind_eq_some_iff.mp e1
    obtain ⟨⟨j2, d2⟩, a2, e3⟩ := Option.bind_eq_some_iff.mp e2
    obtain ⟨r, a3, e4⟩ := Option.map_eq_some_iff.mp e3
    obtain ⟨r0, a4, a5⟩ := Option.bind_eq_some_iff.mp a3
    cases e4
    refine ⟨T, env, fps, I, j1, d1, a1, fun v fp hv hfp _ => ⟨T, env, fps, I, j2, d2, a2, fun w gp hw _ _ => ⟨H, d1, d2, r0, Le.refl _, Shl.of (Le.refl _) (by rw [ok.hK]; exact rep_dat (env := env) (σ := σ) hv), Shl.of (Le.refl _) (by rw [ok.hK]; exact rep_dat (env := env) (σ := σ) hw), a4, fun z H' hz => ?_⟩⟩⟩
    have hs : (scal r0).isSome = true := by rw [a5]; rfl
    have er : r0 = d := by
      cases r0 <;> simp [scal] at a5 <;> exact a5
    obtain ⟨b1, b2⟩ := hz.flat hs
    rw [b1]
    refine q z none' ⟨rfl, ?_⟩ (fun _ h => h.elim) fun _ h => by cases h
    rw [← ok.hK, ← er]; exact b2 _
  | .p1 o a, e, h => by
    cases o with
    | neg =>
      cases e <;> first | (simp [chkP] at h; done) | skip
      rename_i op x pos
      cases op <;> first | (simp [chkP] at h; done) | skip
      refine (pe_un un_neg_D (snd_P ok a x (by simpa [chkP] using h))).weaken fun σ H Q hq => ?_
      obtain ⟨T, env, fps, I, j, d, e, q⟩ := hq
      simp only [evP] at e
      obtain ⟨⟨j0, d0⟩, e1, e2⟩ := Option.bind_eq_some_iff.mp e
      obtain ⟨r, e3, e4⟩ := Option.map_eq_some_iff.mp e2
      cases e4
      refine ⟨T, env, fps, I, j0, d0, e1, fun v fp hv hfp _ => ⟨H, d0, d, Le.refl _, Shl.of (Le.refl _) ?_, e3, fun z H' hz => ?_⟩⟩
      · rw [ok.hK]; exact rep_dat (env := env) (σ := σ) hv
      · obtain ⟨h1, h2⟩ := hz.flat (p1_scal e3)
        rw [h1]
        refine q z none' ⟨rfl, ?_⟩ (fun _ h => h.elim) fun _ h => by cases h
        rw [← ok.hK]; exact h2 _
    | int =>
      cases e <;> first | (simp [chkP] at h; done) | skip
      rename_i f as ks pos
      cases f <;> first | (simp [chkP] at h; done) | skip
      rename_i f p
      match as, ks, h with
      | [x], [], h =>
        simp only [chkP, Bool.and_eq_true, decide_eq_true_eq] at h
        obtain ⟨⟨⟨h1, h2⟩, h3⟩, h4⟩ := h
        subst h1
        exact pure_call ok (snd_P ok a x h3) (by decide) h2 h4 (.inr ⟨_, rfl, by decide +kernel⟩) call_int_D fun _ _ => p1_scal
    | len =>
      cases e <;> first | (simp [chkP] at h; done) | skip
      rename_i f as ks pos
      cases f <;> first | (simp [chkP] at h; done) | skip
      rename_i f p
      match as, ks, h with
      | [x], [], h =>
        simp only [chkP, Bool.and_eq_true, decide_eq_true_eq] at h
        obtain ⟨⟨⟨h1, h2⟩, h3⟩, h4⟩ := h
        subst h1
        exact pure_call ok (snd_P ok a x h3) (by decide) h2 h4 (.inl ⟨_, rfl, by decide +kernel⟩) call_len_D fun _ _ => p1_scal
    | abs =>
      cases e <;> first | (simp [chkP] at h; done) | skip
      rename_i f as ks pos
      cases f <;> first | (simp [chkP] at h; done) | skip
      rename_i f p
      match as, ks, h with
      | [x], [], h =>
        simp only [chkP, Bool.and_eq_true, decide_eq_true_eq] at h
        obtain ⟨⟨⟨h1, h2⟩, h3⟩, h4⟩ := h
        subst h1
        exact pure_call ok (snd_P ok a x h3) (by decide) h2 h4 (.inl ⟨_, rfl, by decide +kernel⟩) call_abs_D fun _ _ => p1_scal
end
end Fx
set_option Elab.async false
set_option linter.all false
set_option maxRecDepth 100000
/-! M8: results, operands. -/
namespace Fx
open PySem PySem.Spec PyProof.Rows L2

section
variable {K : PySem.W.Frag} {F H : Hp}
theorem rep_dat1 {v : V} {d : PyData} {f : As} (h : Rep K F H 0 v d f) : Dat K F v d := h.2
theorem RepL.dat0 : ∀ {vs : List V} {ds : List PyData} {g : As}, RepL (Rep K F H 0) vs ds g → DatL K F vs ds ∧ g = none'
  | _, _, _, .nil => ⟨.nil, rfl⟩
  | _, _, _, .cons h t dj => by
    obtain ⟨h1, h2⟩ := RepL.dat0 t
    obtain ⟨rfl, h3⟩ := h
    subst h2
    exact ⟨.cons h3 h1, or_none _⟩
theorem RepK.dat0 : ∀ {vs : List (Key × V)} {ds : List (PyData × PyData)} {g : As}, RepK (Rep K F H 0) vs ds g → DatK K F vs ds ∧ g = none'
  | _, _, _, .nil => ⟨.nil, rfl⟩
  | _, _, _, .cons h t dj => by
    obtain ⟨h1, h2⟩ := RepK.dat0 t
    obtain ⟨rfl, h3⟩ := h
    subst h2
    exact ⟨.cons h3 h1, or_none _⟩
theorem RepT.dat0 : ∀ {vs : List (List Key × V)} {ds : List (PyData × PyData)} {g : As}, RepT (Rep K F H 0) vs ds g → DatT K F vs ds ∧ g = none'
  | _, _, _, .nil => ⟨.nil, rfl⟩
  | _, _, _, .cons h t dj => by
    obtain ⟨h1, h2⟩ := RepT.dat0 t
    obtain ⟨rfl, h3⟩ := h
    subst h2
    exact ⟨.cons h3 h1, or_none _⟩
theorem RepL.of0 {vs : List V} {ds : List PyData} (h : DatL K F vs ds) : RepL (Rep K F H 0) vs ds none' := by
  induction vs generalizing ds with
  | nil => cases h; exact .nil
  | cons v vs ih =>
    cases h with
    | cons h t =>
      have := RepL.cons (R := Rep K F H 0) (f := none') (g := none') ⟨rfl, h⟩ (ih t) (dis_none _)
      rwa [or_none] at this
theorem RepK.of0 {vs : List (Key × V)} {ds : List (PyData × PyData)} (h : DatK K F vs ds) : RepK (Rep K F H 0) vs ds none' := by
  induction vs generalizing ds with
  | nil => cases h; exact .nil
  | cons v vs ih =>
    cases h with
    | @cons k _ _ _ _ h t =>
      have := RepK.cons (k := k) (R := Rep K F H 0) (f := none') (g := none') ⟨rfl, h⟩ (ih t) (dis_none _)
      rwa [or_none] at this
theorem RepT.of0 {vs : List (List Key × V)} {ds : List (PyData × PyData)} (h : DatT K F vs ds) : RepT (Rep K F H 0) vs ds none' := by
  induction vs generalizing ds with
  | nil => cases h; exact .nil
  | cons v vs ih =>
    cases h with
    | @cons k _ _ _ _ h t =>
      have := RepT.cons (k := k) (R := Rep K F H 0) (f := none') (g := none') ⟨rfl, h⟩ (ih t) (dis_none _)
      rwa [or_none] at this
/-- borrowed: its items are frozen -/
theorem rep_shl (le : Le F H) {j : Nat} {v : V} {d : PyData} {fp : As} (h : Rep K F H j v d fp) (hj : j ≤ 1 ∨ isCont d = false) : Shl K F H v d := by
  cases j with
  | zero => exact Shl.of le h.2
  | succ j =>
    rcases h with ⟨h1, h2, h3⟩ | ⟨a, vs, ds, g, rfl, rfl, h1, h2, h3, rfl⟩ | ⟨a, vs, ds, g, rfl, rfl, h1, h2, h3, rfl⟩ | ⟨a, vs, ds, g, rfl, rfl, h1, h2, h3, rfl⟩
    · exact Shl.of le h3
    · rcases hj with hj | hj
      · obtain rfl : j = 0 := by omega
        exact ⟨a, vs, rfl, .inl (.inl h1), h2.dat0.1⟩
      · cases hj
    · rcases hj with hj | hj
      · obtain rfl : j = 0 := by omega
        exact ⟨a, rfl, .inl ⟨vs, .inl h1, h2.dat0.1⟩⟩
      · cases hj
    · rcases hj with hj | hj
      · obtain rfl : j = 0 := by omega
        exact ⟨a, rfl, .inr ⟨vs, .inl h1, h2.dat0.1⟩⟩
      · cases hj
end
section
variable {G : Gh} {T : As} {H H' : Hp} {fps fps' : Nat → As} {σ : L2.St} {env : EnvD} {k : Nat} {v : V} {d : PyData}
theorem VOut.zero {r : PyData × EnvD} (h : VOut G T H fps σ 0 r v H') : ∃ fps', SOk G.K G.L T r.2 σ H' fps' ∧ Dat G.K (fr T H' fps') v r.1 ∧ Stp T H fps T H' fps' := by
  obtain ⟨fps', f, I, R, dj, st⟩ := h
  obtain ⟨rfl, hd⟩ := R
  rw [or_none] at I hd st
  exact ⟨fps', I, hd, st⟩
theorem VOut.of0 (I : SOk G.K G.L T env σ H' fps') (hd : Dat G.K (fr T H' fps') v d) (hc : isCont d = false ∨ k = 0) (st : Stp T H fps T H' fps') : VOut G T H fps σ k (d, env) v H' :=
  ⟨fps', none', by rw [or_none]; exact I, by rw [or_none]; exact Rep.plain hd hc, dis_none _, by rw [or_none]; exact st⟩
theorem VOut.more {H0 : Hp} {fps0 : Nat → As} {r : PyData × EnvD} (h : VOut G T H fps σ k r v H') (st : Stp T H0 fps0 T H fps) : VOut G T H0 fps0 σ k r v H' := by
  obtain ⟨fps', f, I, R, dj, st'⟩ := h
  exact ⟨fps', f, I, R, dj, st.tr st'⟩
theorem Frsh.dat {F G' : Hp} {o : HO} {p : Addr} (h : Frsh G.K F o d) (le : Le F G') (hp : G' p = some o) : Dat G.K G' (.ref p) d := by
  rcases h with ⟨vs, ds, rfl, rfl, t⟩ | ⟨vs, ds, rfl, rfl, t⟩ | ⟨vs, ds, rfl, rfl, t⟩ | ⟨vs, ds, rfl, rfl, t⟩
  · exact .lst (.inl (.inl hp)) (t.mono le)
  · exact .tup (.inl (.inl hp)) (t.mono le)
  · exact .dk (.inl hp) (t.mono le)
  · exact .dt (.inl hp) (t.mono le)
theorem own1_ok {d' : PyData} (h : own1 k d = some d') : d' = d ∧ (k ≤ 1 ∨ isCont d = false) := by
  unfold own1 at h
  split at h
  · rename_i hc
    cases h; exact ⟨rfl, hc⟩
  · cases h
theorem VOut.new {z : V} (I : SOk G.K G.L T env σ H fps) (h : New G.K (fr T H fps) H z d H') (hk : k ≤ 1 ∨ isCont d = false) : VOut G T H fps σ k (d, env) z H' := by
  rcases h with ⟨rfl, h1, h2⟩ | ⟨p, o, hp, rfl, rfl, hf⟩
  · exact .of0 I h1 (.inl h2) (Stp.refl _ _ _)
  · by_cases hc : isCont d = false ∨ k = 0
    · obtain ⟨I', le, e⟩ := I.alloc (o := o) hp
      exact .of0 I' (hf.dat le e) hc ⟨fun b hb => upd_keep hp I.trk b (.inl hb), le⟩
    · have hk1 : k = 1 := by
        rcases hk with hk | hk
        · rcases Nat.lt_or_ge k 1 with z | z
          · exact absurd (.inr (by omega)) hc
          · omega
        · exact absurd (.inl hk) hc
      subst hk1
      obtain ⟨I', e⟩ := I.own (o := o) hp
      have np : ∀ b, all' T fps b → b ≠ p := fun b z e => I.trk b z (by rw [e]; exact hp)
      refine ⟨fps, one' p, I', ?_, fun b hb hT => np b (.inl hT) hb, ⟨fun b hb => upd_ne (np b (.inl hb)), by rw [e]; exact Le.refl _⟩⟩
      rw [e]
      rcases hf with ⟨vs, ds, rfl, rfl, t⟩ | ⟨vs, ds, rfl, rfl, t⟩ | ⟨vs, ds, rfl, rfl, t⟩ | ⟨vs, ds, rfl, rfl, t⟩
      · exact .inr (.inl ⟨p, vs, ds, none', rfl, rfl, upd_same, RepL.of0 t, fun z => z, (or_none' _).symm⟩)
      · exact absurd (.inl rfl) hc
      · exact .inr (.inr (.inl ⟨p, vs, ds, none', rfl, rfl, upd_same, RepK.of0 t, fun z => z, (or_none' _).symm⟩))
      · exact .inr (.inr (.inr ⟨p, vs, ds, none', rfl, rfl, upd_same, RepT.of0 t, fun z => z, (or_none' _).symm⟩))
end

/-! ### operands -/
def OpV (G : Gh) (T : As) (H : Hp) (fps : Nat → As) (env : EnvD) : PyData ⊕ P → V → Prop
  | .inl d, v => Dat G.K (fr T H fps) v d
  | .inr p, v => ∀ j d, evP G.c p env = some (j, d) → ∃ fp, Rep G.K (fr T H fps) H j v d fp
inductive OpVs (G : Gh) (T : As) (H : Hp) (fps : Nat → As) (env : EnvD) : List (PyData ⊕ P) → List V → Prop
  | nil : OpVs G T H fps env [] []
  | cons {o : PyData ⊕ P} {v : V} {os : List (PyData ⊕ P)} {vs : List V} : OpV G T H fps env o v → OpVs G T H fps env os vs → OpVs G T H fps env (o :: os) (v :: vs)
section
variable {G : Gh} {T : As} {H : Hp} {fps : Nat → As} {env : EnvD}
theorem OpVs.shl : ∀ {os : List (PyData ⊕ P)} {vs : List V} {ds : List PyData}, OpVs G T H fps env os vs → finO G.c env os = some ds → ShlL G.K (fr T H fps) H vs ds
  | _, _, _, .nil, h => by cases h; exact .nil
  | .inl d :: os, _, _, .cons h t, e => by
    simp only [finO] at e
    obtain ⟨ds, e1, e2⟩ := Option.map_eq_some_iff.mp e
    cases e2
    exact .cons (Shl.of hid_le h) (OpVs.shl t e1)
  | .inr p :: os, _, _, .cons h t, e => by
    simp only [finO] at e
    obtain ⟨d, e1, e2⟩ := Option.bind_eq_some_iff.mp e
    obtain ⟨ds, e3, e4⟩ := Option.map_eq_some_iff.mp e2
    cases e4
    unfold evPb at e1
    split at e1
    · cases e1
    · rename_i j d' hp
      split at e1
      · rename_i hj
        cases e1
        obtain ⟨fp, hr⟩ := h j d hp
        exact .cons (rep_shl hid_le hr hj) (OpVs.shl t e3)
      · cases e1
end
/-- the operands' reading -/
def tO (G : Gh) (o : Ops) : TA := fun σ H Q => ∃ T env fps, SOk G.K G.L T env σ H fps ∧ Out (o env) (fun z => ∀ vs H' fps', SOk G.K G.L T z.2 σ H' fps' → OpVs G T H' fps' z.2 z.1 vs → Stp T H fps T H' fps' → Q vs H') (XW G T H fps)
theorem opd_early {c : Orc} {p : P} {v : EnvD → Rs (PyData × EnvD)} {rest : Ops} {env : EnvD} : opd c false p v rest env = (v env).bind fun r => (rest r.2).bind fun z => .ok (.inl r.1 :: z.1, z.2) := rfl
theorem opd_late {c : Orc} {p : P} {v : EnvD → Rs (PyData × EnvD)} {rest : Ops} {env : EnvD} : opd c true p v rest env = if (evP c p env).isSome = true then (rest env).bind fun z => .ok (.inr p :: z.1, z.2) else .bad := rfl
theorem Out.ite_bad {α : Type} {q : Prop} [Decidable q] {r : Rs α} {ok : α → Prop} {ex : PyData → Prop} (h : Out (if q then r else .bad) ok ex) : q ∧ Out r ok ex := by
  by_cases hq : q
  · rw [if_pos hq] at h; exact ⟨hq, h⟩
  · rw [if_neg hq] at h; exact h.elim
theorem Out.ite_bad' {α : Type} {q : Prop} [Decidable q] {r : Rs α} {ok : α → Prop} {ex : PyData → Prop} (h : Out (if q then .bad else r) ok ex) : ¬ q ∧ Out r ok ex := by
  by_cases hq : q
  · rw [if_pos hq] at h; exact h.elim
  · rw [if_neg hq] at h; exact ⟨hq, h⟩
section
variable {G : Gh} {X : Cx}
/-- an early operand, then the rest -/
theorem early_step {a : Expr} {v : EnvD → Rs (PyData × EnvD)} {rest : Ops} {p : P} {σ : L2.St} {H : Hp} {T : As} {env : EnvD} {fps : Nat → As} {ok : List (PyData ⊕ P) × EnvD → Prop}
    (I : SOk G.K G.L T env σ H fps) (h : Out (opd G.c false p v rest env) ok (XW G T H fps)) {Q : VK}
    (q : ∀ r x H1 fps1, v env = .ok r → SOk G.K G.L T r.2 σ H1 fps1 → Dat G.K (fr T H1 fps1) x r.1 → Stp T H fps T H1 fps1 → Out (rest r.2) (fun z => ok (.inl r.1 :: z.1, z.2)) (XW G T H1 fps1) → Q x H1) : tV G 0 v σ H Q := by
  refine ⟨T, env, fps, I, ?_⟩
  rw [opd_early] at h
  refine h.bind.mono (fun r er hr x H' ho => ?_) fun _ _ z => z
  obtain ⟨fps1, I1, d1, st1⟩ := ho.zero
  exact q r x H' fps1 er I1 d1 st1 (hr.bind.mono (fun _ _ z => z) fun _ _ z => z.step0 st1)
/-- one operand -/
theorem one_opd {a : E} {ax : Expr} {va : EnvD → Rs (PyData × EnvD)} (hv : PE X ax (tV G 0 va)) (hp : ∀ p, a = .p p → PE X ax (tP G p)) :
    ∃ ta, PE X ax ta ∧ ∀ σ H (R : VK), (∃ T env fps, SOk G.K G.L T env σ H fps ∧ Out (opd1 G.c a va env) (fun z => ∀ x H' fps', SOk G.K G.L T z.2 σ H' fps' → OpVs G T H' fps' z.2 z.1 [x] → Stp T H fps T H' fps' → R x H') (XW G T H fps)) → ta σ H R := by
  by_cases hl : ∃ p, a = .p p
  · obtain ⟨p, rfl⟩ := hl
    refine ⟨tP G p, hp p rfl, fun σ H R ⟨T, env, fps, I, h⟩ => ?_⟩
    have hl : lateE (.p p) true = true := by cases p <;> rfl
    unfold opd1 at h
    rw [hl, opd_late] at h
    obtain ⟨h1, h2⟩ := h.ite_bad
    have h2 := h2.bind
    obtain ⟨⟨j, d⟩, e⟩ := Option.isSome_iff_exists.mp h1
    refine ⟨T, env, fps, I, j, d, e, fun v fp hr _ _ => h2 v H fps I (.cons (fun j' d' e' => ?_) .nil) (Stp.refl _ _ _)⟩
    cases (show some (j, d) = some (j', d') from e.symm.trans e')
    exact ⟨fp, hr⟩
  · have hl : lateE a true = false := by
      cases a <;> first | rfl | (exact absurd ⟨_, rfl⟩ hl)
    refine ⟨tV G 0 va, hv, fun σ H R ⟨T, env, fps, I, h⟩ => ?_⟩
    unfold opd1 at h
    rw [hl] at h
    exact early_step (a := ax) I h fun r x H1 fps1 _ I1 d1 st1 hr => hr x H1 fps1 I1 (.cons d1 .nil) st1
/-- two operands -/
theorem two_opd {a b : E} {ax bx : Expr} {va vb : EnvD → Rs (PyData × EnvD)} (hva : PE X ax (tV G 0 va)) (hpa : ∀ p, a = .p p → PE X ax (tP G p)) (hvb : PE X bx (tV G 0 vb)) (hpb : ∀ p, b = .p p → PE X bx (tP G p)) :
    ∃ ta tb, PE X ax ta ∧ PE X bx tb ∧ ∀ σ H (R : V → V → Hp → Prop), (∃ T env fps, SOk G.K G.L T env σ H fps ∧ Out (opd2 G.c a b va vb env) (fun z => ∀ x y H' fps', SOk G.K G.L T z.2 σ H' fps' → OpVs G T H' fps' z.2 z.1 [x, y] → Stp T H fps T H' fps' → R x y H') (XW G T H fps)) →
      ta σ H fun x H1 => tb σ H1 fun y H2 => R x y H2 := by
  by_cases hB : ∃ p, b = .p p
  · obtain ⟨pb, rfl⟩ := hB
    have hlb : lateE (.p pb) true = true := by cases pb <;> rfl
    -- the second is pure: read at once
    have second : ∀ {σ : L2.St} {H1 : Hp} {T : As} {env1 : EnvD} {fps1 : Nat → As} {o1 : PyData ⊕ P} {x : V} {ok : List (PyData ⊕ P) × EnvD → Prop} {ex : PyData → Prop} {R : V → Hp → Prop}, SOk G.K G.L T env1 σ H1 fps1 → OpV G T H1 fps1 env1 o1 x →
        Out (opd G.c true pb vb (fun env => .ok ([], env)) env1) ok ex → (∀ y, ok ([.inr pb], env1) → OpVs G T H1 fps1 env1 [o1, .inr pb] [x, y] → R y H1) → tP G pb σ H1 R := fun {σ H1 T env1 fps1 o1 x ok ex R} I1 o h q => by
      rw [opd_late] at h
      obtain ⟨h1, h2⟩ := h.ite_bad
      obtain ⟨⟨j, d⟩, e⟩ := Option.isSome_iff_exists.mp h1
      refine ⟨T, env1, fps1, I1, j, d, e, fun y fp hr _ _ => q y h2.bind (.cons o (.cons (fun j' d' e' => ?_) .nil))⟩
      cases (show some (j, d) = some (j', d') from e.symm.trans e')
      exact ⟨fp, hr⟩
    by_cases hA : ∃ p, a = .p p
    · obtain ⟨pa, rfl⟩ := hA
      have hla : lateE (.p pa) (isP (.p pb)) = true := by cases pa <;> rfl
      refine ⟨tP G pa, tP G pb, hpa pa rfl, hpb pb rfl, fun σ H R ⟨T, env, fps, I, h⟩ => ?_⟩
      unfold opd2 at h
      rw [hla, hlb, opd_late] at h
      obtain ⟨h1, h2⟩ := h.ite_bad
      obtain ⟨⟨j, d⟩, e⟩ := Option.isSome_iff_exists.mp h1
      refine ⟨T, env, fps, I, j, d, e, fun x fp hr _ _ => ?_⟩
      refine second (o1 := .inr pa) (x := x) I (fun j' d' e' => ?_) h2.bind fun y hy ho => hy x y H fps I ho (Stp.refl _ _ _)
      cases (show some (j, d) = some (j', d') from e.symm.trans e')
      exact ⟨fp, hr⟩
    · have hla : lateE a (isP (.p pb)) = false := by
        cases a <;> first | rfl | (exact absurd ⟨_, rfl⟩ hA)
      refine ⟨tV G 0 va, tP G pb, hva, hpb pb rfl, fun σ H R ⟨T, env, fps, I, h⟩ => ?_⟩
      unfold opd2 at h
      rw [hla, hlb] at h
      refine early_step (a := ax) I h fun r x H1 fps1 _ I1 d1 st1 hr => ?_
      exact second (o1 := .inl r.1) (x := x) I1 d1 hr fun y hy ho => hy x y H1 fps1 I1 ho st1
  · have hlb : lateE b true = false := by
      cases b <;> first | rfl | (exact absurd ⟨_, rfl⟩ hB)
    have hib : isP b = false := by
      cases b <;> first | rfl | (exact absurd ⟨_, rfl⟩ hB)
    by_cases hA : ∃ i, a = .p (.at i)
    · obtain ⟨i, rfl⟩ := hA
      have hla : lateE (.p (.at i)) (isP b) = true := rfl
      refine ⟨tP G (.at i), tV G 0 vb, hpa _ rfl, hvb, fun σ H R ⟨T, env, fps, I, h⟩ => ?_⟩
      unfold opd2 at h
      rw [hla, hlb, opd_late] at h
      obtain ⟨h1, h2⟩ := h.ite_bad
      obtain ⟨⟨j, d⟩, e⟩ := Option.isSome_iff_exists.mp h1
      refine ⟨T, env, fps, I, j, d, e, fun x fp hr _ hx => ?_⟩
      have hσ := hx i rfl
      refine early_step (a := bx) I h2.bind fun r y H1 fps1 _ I1 d1 st1 hq => hq x y H1 fps1 I1 (.cons (fun j' d' e' => ?_) (.cons d1 .nil)) st1
      simp only [toP, evP, slot] at e'
      split at e'
      · rename_i l k' d'' hs
        cases e'
        obtain ⟨w, w1, w2, _⟩ := I1.slot i l _ _ hs
        rw [hσ] at w1
        cases w1
        exact ⟨_, w2⟩
      · cases e'
    · have hla : lateE a (isP b) = false := by
        rw [hib]
        cases a <;> first | rfl | skip
        rename_i p
        cases p <;> first | rfl | (exact absurd ⟨_, rfl⟩ hA)
      refine ⟨tV G 0 va, tV G 0 vb, hva, hvb, fun σ H R ⟨T, env, fps, I, h⟩ => ?_⟩
      unfold opd2 at h
      rw [hla, hlb] at h
      refine early_step (a := ax) I h fun r x H1 fps1 _ I1 d1 st1 hr => ?_
      refine early_step (a := bx) I1 hr fun r2 y H2 fps2 _ I2 d2 st2 hr2 => ?_
      exact hr2 x y H2 fps2 I2 (.cons (d1.mono st2.le) (.cons d2 .nil)) (st1.tr st2)
end
end Fx
set_option Elab.async false
set_option linter.all false
set_option maxRecDepth 100000
/-! M9: lists of operands, of values. -/
namespace Fx
open PySem PySem.Spec PyProof.Rows L2
/-- an expression of the text and what it computes: as a value to any depth, as a pure one -/
structure PEk (G : Gh) (X : Cx) (c : Orc) (e : E) (a : Expr) : Prop where
  v : ∀ k, PE X a (tV G k (ev c e k))
  p : ∀ p, e = .p p → PE X a (tP G p)
inductive PEs (G : Gh) (X : Cx) (c : Orc) : Es → List Expr → Prop
  | nil : PEs G X c .nil []
  | cons {e : E} {es : Es} {a : Expr} {as : List Expr} : PEk G X c e a → noStar1 a = true → PEs G X c es as → PEs G X c (.cons e es) (a :: as)
def psE : Es → List P
  | .nil => []
  | .cons e es => toP e :: psE es
section
variable {G : Gh} {X : Cx}
theorem evA_pure : ∀ {es : Es} {env : EnvD} {ok : List (PyData ⊕ P) × EnvD → Prop} {ex : PyData → Prop}, allP es = true → Out (evA G.c es env) ok ex → (∀ p ∈ psE es, (evP G.c p env).isSome = true) ∧ ok ((psE es).map .inr, env)
  | .nil, env, ok, ex, _, h => ⟨fun _ h => (by simp [psE] at h), by simp only [evA] at h; exact h⟩
  | .cons e es, env, ok, ex, ha, h => by
    cases e <;> first | (simp [allP] at ha; done) | skip
    rename_i p
    have ha : allP es = true := ha
    have hl : lateE (.p p) (allP es) = true := by rw [ha]; cases p <;> rfl
    simp only [evA] at h
    rw [hl, opd_late] at h
    obtain ⟨h1, h2⟩ := h.ite_bad
    obtain ⟨h3, h4⟩ := evA_pure ha h2.bind
    refine ⟨fun q hq => ?_, h4⟩
    simp only [psE, List.mem_cons] at hq
    rcases hq with rfl | hq
    · exact h1
    · exact h3 q hq
def tPl (G : Gh) (ps : List P) : TA := fun σ H Q => ∃ T env fps, SOk G.K G.L T env σ H fps ∧ (∀ p ∈ ps, (evP G.c p env).isSome = true) ∧ ∀ vs, OpVs G T H fps env (ps.map .inr) vs → Q vs H
theorem pa_pure {c : Orc} : ∀ {es : Es} {as : List Expr}, PEs G X c es as → allP es = true → PA X as (tPl G (psE es))
  | _, _, .nil, _ => pa_nil.weaken fun σ H Q ⟨T, env, fps, I, h, q⟩ => q [] .nil
  | .cons e es, a :: as, .cons h hs t, ha => by
    cases e <;> first | (simp [allP] at ha; done) | skip
    rename_i p
    have ha : allP es = true := ha
    refine (pa_cons (h.p p rfl) (pa_pure t ha) (star_cons hs)).weaken fun σ H Q ⟨T, env, fps, I, hp, q⟩ => ?_
    obtain ⟨⟨j, d⟩, e⟩ := Option.isSome_iff_exists.mp (hp p (by simp [psE, toP]))
    refine ⟨T, env, fps, I, j, d, e, fun v fp hr _ _ => ⟨T, env, fps, I, fun p' h' => hp p' (by simp [psE, h']), fun vs hv => q (v :: vs) (.cons (fun j' d' e' => ?_) hv)⟩⟩
    cases (show some (j, d) = some (j', d') from e.symm.trans e')
    exact ⟨fp, hr⟩
/-- operands -/
theorem pa_opds : ∀ {es : Es} {as : List Expr}, PEs G X G.c es as → PA X as (tO G (evA G.c es))
  | _, _, .nil => pa_nil.weaken fun σ H Q ⟨T, env, fps, I, h⟩ => by
    simp only [evA] at h
    exact h [] H fps I .nil (Stp.refl _ _ _)
  | .cons e es, a :: as, .cons h hs t => by
    by_cases ha : allP (.cons e es) = true
    · refine (pa_pure (.cons h hs t) ha).weaken fun σ H Q ⟨T, env, fps, I, hq⟩ => ?_
      obtain ⟨h1, h2⟩ := evA_pure ha hq
      exact ⟨T, env, fps, I, h1, fun vs hv => h2 vs H fps I hv (Stp.refl _ _ _)⟩
    · by_cases hl : ∃ i, e = .p (.at i)
      · obtain ⟨i, rfl⟩ := hl
        refine (pa_cons (h.p _ rfl) (pa_opds t) (star_cons hs)).weaken fun σ H Q ⟨T, env, fps, I, hq⟩ => ?_
        simp only [evA] at hq
        rw [show lateE (.p (.at i)) (allP es) = true from rfl, opd_late] at hq
        obtain ⟨h1, h2⟩ := hq.ite_bad
        obtain ⟨⟨j, d⟩, e⟩ := Option.isSome_iff_exists.mp h1
        refine ⟨T, env, fps, I, j, d, e, fun x fp hr _ hx => ⟨T, env, fps, I, ?_⟩⟩
        have hσ := hx i rfl
        refine h2.bind.mono (fun z _ hz vs H' fps' I' ho st => ?_) fun _ _ z => z
        refine hz (x :: vs) H' fps' I' (.cons (fun j' d' e' => ?_) ho) st
        simp only [toP, evP, slot] at e'
        split at e'
        · rename_i l k' d'' hs'
          cases e'
          obtain ⟨w, w1, w2, _⟩ := I'.slot i l _ _ hs'
          rw [hσ] at w1
          cases w1
          exact ⟨_, w2⟩
        · cases e'
      · have hla : lateE e (allP es) = false := by
          cases e <;> first | rfl | skip
          rename_i p
          have : allP es = false := by
            cases q : allP es with
            | false => rfl
            | true => exact absurd (show allP (.cons (.p p) es) = true from q) ha
          rw [this]
          cases p <;> first | rfl | (exact absurd ⟨_, rfl⟩ hl)
        refine (pa_cons (h.v 0) (pa_opds t) (star_cons hs)).weaken fun σ H Q ⟨T, env, fps, I, hq⟩ => ?_
        simp only [evA] at hq
        rw [hla] at hq
        refine early_step (a := a) I hq fun r x H1 fps1 _ I1 d1 st1 hr => ⟨T, r.2, fps1, I1, ?_⟩
        refine hr.mono (fun z _ hz vs H' fps' I' ho st => ?_) fun _ _ z => z
        exact hz (x :: vs) H' fps' I' (.cons (d1.mono st.le) ho) (st1.tr st)
/-- behind a list of values -/
def LOut (G : Gh) (T : As) (H : Hp) (fps : Nat → As) (σ : L2.St) (k : Nat) (r : List PyData × EnvD) (vs : List V) (H' : Hp) : Prop :=
  ∃ fps' g, SOk G.K G.L (or' g T) r.2 σ H' fps' ∧ RepL (Rep G.K (fr (or' g T) H' fps') H' k) vs r.1 g ∧ Dis g T ∧ Stp T H fps (or' g T) H' fps'
def tL (G : Gh) (k : Nat) (f : EnvD → Rs (List PyData × EnvD)) : TA := fun σ H Q => ∃ T env fps, SOk G.K G.L T env σ H fps ∧ Out (f env) (fun r => ∀ vs H', LOut G T H fps σ k r vs H' → Q vs H') (XW G T H fps)
theorem pa_vals : ∀ {es : Es} {as : List Expr}, PEs G X G.c es as → ∀ k, PA X as (tL G k (evs G.c es k))
  | _, _, .nil, k => pa_nil.weaken fun σ H Q ⟨T, env, fps, I, h⟩ => by
    simp only [evs] at h
    exact h [] H ⟨fps, none', by rw [or_none]; exact I, .nil, dis_none _, by rw [or_none]; exact Stp.refl _ _ _⟩
  | .cons e es, a :: as, .cons h hs t, k => by
    refine (pa_cons (h.v k) (pa_vals t k) (star_cons hs)).weaken fun σ H Q ⟨T, env, fps, I, hq⟩ => ?_
    simp only [evs] at hq
    refine ⟨T, env, fps, I, hq.bind.mono (fun r _ hr v H1 ho => ?_) fun _ _ z => z⟩
    obtain ⟨fps1, f, I1, R1, dj1, st1⟩ := ho
    refine ⟨or' f T, r.2, fps1, I1, hr.bind.mono (fun z _ hz vs H2 ho2 => ?_) fun _ _ z => z.step st1⟩
    obtain ⟨fps2, g, I2, R2, dj2, st2⟩ := ho2
    have e2 : or' g (or' f T) = or' (or' f g) T := by
      rw [← or_assoc', or_comm' g f]
    have hz := hz (v :: vs) H2
    refine hz ⟨fps2, or' f g, by rw [← e2]; exact I2, ?_, ?_, ?_⟩
    · rw [← e2]
      exact .cons (R1.keep k st2.le fun b hb => st2.aside b (.inl hb)) R2 fun b x y => dj2 b y (.inl x)
    · intro b x y
      rcases x with x | x
      · exact dj1 b x y
      · exact dj2 b x (.inr y)
    · rw [← e2]
      exact ⟨fun b hb => (st2.aside b (.inr hb)).trans (st1.aside b hb), st1.le.trans st2.le⟩
/-- the arguments of a call: values, slots that are lent -/
inductive ArV (K : PySem.W.Frag) (F : Hp) (σ : L2.St) : Ar → List PyData → List V → Prop
  | nil : ArV K F σ .nil [] []
  | v {e : E} {as : Ar} {d : PyData} {ds : List PyData} {v : V} {vs : List V} : Dat K F v d → ArV K F σ as ds vs → ArV K F σ (.v e as) (d :: ds) (v :: vs)
  | l {i : Nat} {as : Ar} {ds : List PyData} {v : V} {vs : List V} : σ[i]? = some (some v) → ArV K F σ as ds vs → ArV K F σ (.l i as) ds (v :: vs)
theorem ArV.mono {K : PySem.W.Frag} {F F' : Hp} {σ : L2.St} (le : Le F F') : ∀ {ar : Ar} {ds : List PyData} {vs : List V}, ArV K F σ ar ds vs → ArV K F' σ ar ds vs
  | _, _, _, .nil => .nil
  | _, _, _, .v h t => .v (h.mono le) (t.mono le)
  | _, _, _, .l h t => .l h (t.mono le)
inductive PAr (G : Gh) (X : Cx) (c : Orc) : Ar → List Expr → Prop
  | nil : PAr G X c .nil []
  | v {e : E} {es : Ar} {a : Expr} {as : List Expr} : PEk G X c e a → noStar1 a = true → PAr G X c es as → PAr G X c (.v e es) (a :: as)
  | l {i : Nat} {es : Ar} {a : Expr} {as : List Expr} : PE X a (tP G (.at i)) → noStar1 a = true → PAr G X c es as → PAr G X c (.l i es) (a :: as)
def tR (G : Gh) (ar : Ar) : TA := fun σ H Q => ∃ T env fps, SOk G.K G.L T env σ H fps ∧ Out (evR G.c ar env) (fun r => ∀ vs H' fps', SOk G.K G.L T r.2 σ H' fps' → ArV G.K (fr T H' fps') σ ar r.1 vs → Stp T H fps T H' fps' → Q vs H') (XW G T H fps)
theorem pa_args : ∀ {ar : Ar} {as : List Expr}, PAr G X G.c ar as → PA X as (tR G ar)
  | _, _, .nil => pa_nil.weaken fun σ H Q ⟨T, env, fps, I, h⟩ => by
    simp only [evR] at h
    exact h [] H fps I .nil (Stp.refl _ _ _)
  | .v e es, a :: as, .v h hs t => by
    refine (pa_cons (h.v 0) (pa_args t) (star_cons hs)).weaken fun σ H Q ⟨T, env, fps, I, hq⟩ => ?_
    simp only [evR] at hq
    refine ⟨T, env, fps, I, hq.bind.mono (fun r _ hr v H1 ho => ?_) fun _ _ z => z⟩
    obtain ⟨fps1, I1, d1, st1⟩ := ho.zero
    refine ⟨T, r.2, fps1, I1, hr.bind.mono (fun z _ hz vs H2 fps2 I2 a2 st2 => ?_) fun _ _ z => z.step0 st1⟩
    exact hz (v :: vs) H2 fps2 I2 (.v (d1.mono st2.le) a2) (st1.tr st2)
  | .l i es, a :: as, .l h hs t => by
    refine (pa_cons h (pa_args t) (star_cons hs)).weaken fun σ H Q ⟨T, env, fps, I, hq⟩ => ?_
    simp only [evR] at hq
    obtain ⟨h1, h2⟩ := hq.ite_bad
    obtain ⟨⟨j, d⟩, e⟩ := Option.isSome_iff_exists.mp h1
    refine ⟨T, env, fps, I, j, d, e, fun v fp _ _ hx => ⟨T, env, fps, I, h2.mono (fun z _ hz vs H2 fps2 I2 a2 st2 => ?_) fun _ _ z => z⟩⟩
    exact hz (v :: vs) H2 fps2 I2 (.l (hx i rfl) a2) st2
end
end Fx
set_option Elab.async false
set_option linter.all false
set_option maxRecDepth 100000
/-! M10: expressions, one rule each. -/
namespace Fx
open PySem PySem.Spec PyProof.Rows L2
section
variable {Γ : Gam} {G : Gh} {X : Cx}
theorem rep_noncont {K : PySem.W.Frag} {F H : Hp} {j : Nat} {v : V} {d : PyData} {fp : As} (h : Rep K F H j v d fp) (hc : isCont d = false) : Dat K F v d := by
  cases j with
  | zero => exact h.2
  | succ j =>
    rcases h with ⟨h1, h2, h3⟩ | ⟨a, vs, ds, g, rfl, rfl, h1, h2, h3, rfl⟩ | ⟨a, vs, ds, g, rfl, rfl, h1, h2, h3, rfl⟩ | ⟨a, vs, ds, g, rfl, rfl, h1, h2, h3, rfl⟩
    · exact h3
    · cases hc
    · cases hc
    · cases hc
theorem k_p {p : P} {a : Expr} (h : PE X a (tP G p)) : PEk G X G.c (.p p) a := by
  refine ⟨fun k => h.weaken fun σ H Q hq => ?_, fun p' e => by cases e; exact h⟩
  obtain ⟨T, env, fps, I, hq⟩ := hq
  simp only [ev] at hq
  obtain ⟨⟨d, env'⟩, e, q⟩ := hq.of
  unfold evPk at e
  split at e
  · cases e
  · rename_i j d' hp
    refine ⟨T, env, fps, I, j, d', hp, fun v fp hr _ hx => ?_⟩
    split at e
    · rename_i hc
      cases e
      refine q v H (.of0 I ?_ ?_ (Stp.refl _ _ _))
      · rcases hc with hc | ⟨_, hc⟩
        · exact rep_noncont hr hc
        · subst hc; exact hr.2
      · exact hc.imp (fun z => z) fun z => z.1
    · rename_i hn
      cases p with
      | «at» i =>
        simp only at e
        have hp' := hp
        simp only [evP, slot] at hp'
        split at e
        · rename_i l j' d0 hs
          rw [hs] at hp'
          cases hp'
          split at e
          · rename_i hk
            subst hk
            cases e
            obtain ⟨w, w1, I', le, hd⟩ := I.freeze hs
            have : v = w := by
              have := hx i rfl
              rw [w1] at this
              cases this; rfl
            subst this
            exact q v H (.of0 I' hd (.inr rfl) ⟨fun _ _ => rfl, le⟩)
          · split at e
            · rename_i hk hl
              cases e
              obtain ⟨rfl, rfl⟩ := hl
              obtain ⟨w, w1, I', e2, hd⟩ := I.move hs
              have : v = w := by
                have := hx i rfl
                rw [w1] at this
                cases this; rfl
              subst this
              refine q v H ⟨_, _, I', ?_, I.disT i, ⟨fun _ _ => rfl, ?_⟩⟩
              · rw [e2]; exact hd
              · rw [e2]; exact Le.refl _
            · cases e
        · cases e
      | _ => cases e
theorem fin_ok {T : As} {H : Hp} {fps : Nat → As} {c : Orc} {o : Ops} {gg : List PyData → Option PyData} {env : EnvD} {ok : PyData × EnvD → Prop} {ex : PyData → Prop} (h : Out (fin c o gg env) ok ex) :
    Out (o env) (fun z => ∃ ds r, finO c z.2 z.1 = some ds ∧ gg ds = some r ∧ ok (r, z.2)) ex := by
  unfold fin at h
  refine h.bind.mono (fun z _ hz => ?_) fun _ _ z => z
  obtain ⟨r, e, q⟩ := hz.of_bind
  obtain ⟨ds, e1, e2⟩ := Option.bind_eq_some_iff.mp e
  exact ⟨ds, r, e1, e2, q⟩
/-- a result: new, or an old one -/
def Res (G : Gh) (F H : Hp) (k : Nat) (z : V) (r : PyData) (H' : Hp) : Prop := (New G.K F H z r H' ∧ (k ≤ 1 ∨ isCont r = false)) ∨ (H' = H ∧ Dat G.K F z r ∧ (isCont r = false ∨ k = 0))
theorem Res.out {T : As} {H0 H H' : Hp} {fps0 fps : Nat → As} {σ : L2.St} {env : EnvD} {k : Nat} {z : V} {r : PyData} (h : Res G (fr T H fps) H k z r H') (I : SOk G.K G.L T env σ H fps) (st : Stp T H0 fps0 T H fps) : VOut G T H0 fps0 σ k (r, env) z H' := by
  rcases h with ⟨h1, h2⟩ | ⟨rfl, h1, h2⟩
  · exact (VOut.new I h1 h2).more st
  · exact (VOut.of0 I h1 h2 (Stp.refl _ _ _)).more st
theorem shlL2 {K : PySem.W.Frag} {F H : Hp} {x y : V} {ds : List PyData} (h : ShlL K F H [x, y] ds) : ∃ d e, ds = [d, e] ∧ Shl K F H x d ∧ Shl K F H y e := by
  cases h with
  | cons h1 h2 =>
    cases h2 with
    | cons h3 h4 =>
      cases h4
      exact ⟨_, _, rfl, h1, h3⟩
theorem shlL1 {K : PySem.W.Frag} {F H : Hp} {x : V} {ds : List PyData} (h : ShlL K F H [x] ds) : ∃ d, ds = [d] ∧ Shl K F H x d := by
  cases h with
  | cons h1 h2 =>
    cases h2
    exact ⟨_, rfl, h1⟩
/-- two operands and what is made of them -/
theorem fin2 {a b : E} {ax bx : Expr} (ha : PEk G X G.c a ax) (hb : PEk G X G.c b bx) (gg : List PyData → Option PyData) :
    ∃ ta tb, PE X ax ta ∧ PE X bx tb ∧ ∀ k σ H Q (R : V → V → Hp → Prop), (∀ x y H2 F d e r, Le F H2 → Shl G.K F H2 x d → Shl G.K F H2 y e → gg [d, e] = some r → (∀ z H', Res G F H2 k z r H' → Q z H') → R x y H2) →
      tV G k (fin G.c (opd2 G.c a b (ev G.c a 0) (ev G.c b 0)) gg) σ H Q → ta σ H fun x H1 => tb σ H1 fun y H2 => R x y H2 := by
  obtain ⟨ta, tb, h1, h2, w⟩ := two_opd (ha.v 0) ha.p (hb.v 0) hb.p
  refine ⟨ta, tb, h1, h2, fun k σ H Q R hR ⟨T, env, fps, I, hq⟩ => w σ H _ ⟨T, env, fps, I, (fin_ok (T := T) (H := H) (fps := fps) hq).mono (fun z _ hz x y H' fps' I' ho st => ?_) fun _ _ z => z⟩⟩
  obtain ⟨ds, r, e1, e2, q⟩ := hz
  obtain ⟨d, e, rfl, s1, s2⟩ := shlL2 (ho.shl e1)
  exact hR x y H' _ d e r hid_le s1 s2 e2 fun z' H'' hr => q z' H'' (hr.out I' st)
theorem fin1 {a : E} {ax : Expr} (ha : PEk G X G.c a ax) (gg : List PyData → Option PyData) :
    ∃ ta, PE X ax ta ∧ ∀ k σ H Q (R : VK), (∀ x H1 F d r, Le F H1 → Shl G.K F H1 x d → gg [d] = some r → (∀ z H', Res G F H1 k z r H' → Q z H') → R x H1) →
      tV G k (fin G.c (opd1 G.c a (ev G.c a 0)) gg) σ H Q → ta σ H R := by
  obtain ⟨ta, h1, w⟩ := one_opd (ha.v 0) ha.p
  refine ⟨ta, h1, fun k σ H Q R hR ⟨T, env, fps, I, hq⟩ => w σ H _ ⟨T, env, fps, I, (fin_ok (T := T) (H := H) (fps := fps) hq).mono (fun z _ hz x H' fps' I' ho st => ?_) fun _ _ z => z⟩⟩
  obtain ⟨ds, r, e1, e2, q⟩ := hz
  obtain ⟨d, rfl, s1⟩ := shlL1 (ho.shl e1)
  exact hR x H' _ d r hid_le s1 e2 fun z' H'' hr => q z' H'' (hr.out I' st)
theorem finA {es : Es} (gg : List PyData → Option PyData) (k : Nat) {σ : L2.St} {H : Hp} {Q : VK} {R : List V → Hp → Prop}
    (hR : ∀ vs H1 F ds r, Le F H1 → ShlL G.K F H1 vs ds → gg ds = some r → (∀ z H', Res G F H1 k z r H' → Q z H') → R vs H1) (hq : tV G k (fin G.c (evA G.c es) gg) σ H Q) : tO G (evA G.c es) σ H R := by
  obtain ⟨T, env, fps, I, hq⟩ := hq
  refine ⟨T, env, fps, I, (fin_ok (T := T) (H := H) (fps := fps) hq).mono (fun z _ hz vs H' fps' I' ho st => ?_) fun _ _ z => z⟩
  obtain ⟨ds, r, e1, e2, q⟩ := hz
  exact hR vs H' _ ds r hid_le (ho.shl e1) e2 fun z' H'' hr => q z' H'' (hr.out I' st)
theorem ne_p {c : Orc} {e : E} {a : Expr} (h : ∀ k, PE X a (tV G k (ev c e k))) (hp : isP e = false) : PEk G X c e a := ⟨h, fun p e' => by subst e'; cases hp⟩
/-- a tree that computes the same -/
theorem tV_eq {k : Nat} {f g : EnvD → Rs (PyData × EnvD)} (h : ∀ env, f env = g env) : tV G k f = tV G k g := by rw [funext h]

theorem k_b2 {o : B2} {a b : E} {ax bx : Expr} {pos : Pos} (ok : Ok Γ G X) (ha : PEk G X G.c a ax) (hb : PEk G X G.c b bx) : PEk G X G.c (.b2 o a b) (.BinOp ax (bop o) bx pos) := by
  refine ne_p (fun k => ?_) rfl
  rw [tV_eq (g := fin G.c (opd2 G.c a b (ev G.c a 0) (ev G.c b 0)) (fun ds => (g2 (b2 o) ds).bind (own1 k))) fun env => by simp only [ev]]
  obtain ⟨ta, tb, h1, h2, w⟩ := fin2 ha hb fun ds => (g2 (b2 o) ds).bind (own1 k)
  refine (pe_op (op_b2 o) h1 h2).weaken fun σ H Q hq => w k σ H Q _ (fun x y H2 F d e r le s1 s2 hr q => ?_) hq
  obtain ⟨r', e1, e2⟩ := Option.bind_eq_some_iff.mp hr
  obtain ⟨rfl, hk⟩ := own1_ok e2
  exact ⟨F, d, e, r, le, by rw [ok.hK]; exact s1, by rw [ok.hK]; exact s2, e1, fun z H' hz => q z H' (.inl ⟨by rw [← ok.hK]; exact hz, hk⟩)⟩
def noSet : Expr → Bool
  | .Set .. => false
  | _ => true
theorem behind_ok {op : CmpOp} {e : Expr} (h : noSet e = true) : behindInMarks op e = false := by
  cases e <;> first | rfl | cases h
theorem c2B_bool {o : C2} {d e r : PyData} (h : c2B o d e = some r) : ∃ t, r = .bool t ∧ c2 o d e = some t := by
  unfold c2B at h
  obtain ⟨t, h1, h2⟩ := Option.map_eq_some_iff.mp h
  exact ⟨t, h2.symm, h1⟩
theorem hu100 (ok : Ok Γ G X) : X.A.units + 100 < cLine := by have := ok.hu; omega
theorem k_c2 {o : C2} {a b : E} {ax bx : Expr} {pos : Pos} (ok : Ok Γ G X) (ha : PEk G X G.c a ax) (hb : PEk G X G.c b bx) (hs : noSet bx = true) : PEk G X G.c (.c2 o a b) (.Compare ax [cop o] [bx] pos) := by
  refine ne_p (fun k => ?_) rfl
  rw [tV_eq (g := fin G.c (opd2 G.c a b (ev G.c a 0) (ev G.c b 0)) (g2 (c2B o))) fun env => by simp only [ev]]
  obtain ⟨ta, tb, h1, h2, w⟩ := fin2 ha hb (g2 (c2B o))
  refine (pe_cmpR (op_c2 (hu100 ok) o) h1 h2 (behind_ok hs)).weaken fun σ H Q hq => w k σ H Q _ (fun x y H2 F d e r le s1 s2 hr q => ?_) hq
  obtain ⟨t, rfl, e1⟩ := c2B_bool hr
  exact ⟨F, d, e, _, le, by rw [ok.hK]; exact s1, by rw [ok.hK]; exact s2, hr, fun z H' hz => q z H' (.inl ⟨by rw [← ok.hK]; exact hz, .inr rfl⟩)⟩
theorem t_c2 {o : C2} {a b : E} {ax bx : Expr} {pos : Pos} (ok : Ok Γ G X) (ha : PEk G X G.c a ax) (hb : PEk G X G.c b bx) (hs : noSet bx = true) : PT X (.Compare ax [cop o] [bx] pos) (tT G (evT G.c (.c2 o a b))) := by
  obtain ⟨ta, tb, h1, h2, w⟩ := fin2 ha hb (g2 (c2B o))
  refine (pt_cmpR (op_c2 (hu100 ok) o) h1 h2 (behind_ok hs)).weaken fun σ H Q ⟨T, env, fps, I, hq⟩ => ?_
  simp only [evT] at hq
  refine w 0 σ H (fun x H' => ∃ k, x = .bl k ∧ Q k H') _ (fun x y H2 F d e r le s1 s2 hr q => ?_) ⟨T, env, fps, I, hq.bind.mono (fun z _ hz v H' ho => ?_) fun _ _ z => z⟩
  · obtain ⟨t, rfl, e1⟩ := c2B_bool hr
    exact ⟨F, d, e, _, le, by rw [ok.hK]; exact s1, by rw [ok.hK]; exact s2, hr, fun z H' hz => q z H' (.inl ⟨by rw [← ok.hK]; exact hz, .inr rfl⟩)⟩
  · obtain ⟨fps', I', d', st⟩ := ho.zero
    obtain ⟨r, env'⟩ := z
    cases r with
    | bool t =>
      cases d'.boolV
      exact ⟨t, rfl, hz H' ⟨fps', I', st⟩⟩
    | _ => exact hz.elim
theorem k_ix {a b : E} {ax bx : Expr} {pos : Pos} (ok : Ok Γ G X) (ha : PEk G X G.c a ax) (hb : PEk G X G.c b bx) (hs : noSlice bx = true) : PEk G X G.c (.ix a b) (.Subscript ax bx pos) := by
  refine ne_p (fun k => ?_) rfl
  rw [tV_eq (g := fin G.c (opd2 G.c a b (ev G.c a 0) (ev G.c b 0)) (fun ds => (g2 ixD ds).bind fun d => if k = 0 ∨ isCont d = false then some d else none)) fun env => by simp only [ev]]
  obtain ⟨ta, tb, h1, h2, w⟩ := fin2 ha hb (fun ds => (g2 ixD ds).bind fun d => if k = 0 ∨ isCont d = false then some d else none)
  refine (pe_ix ix_D h1 h2 (plainIx hs)).weaken fun σ H Q hq => w k σ H Q _ (fun x y H2 F d e r le s1 s2 hr q => ?_) hq
  obtain ⟨r', e1, e2⟩ := Option.bind_eq_some_iff.mp hr
  split at e2
  · rename_i hk
    cases e2
    exact ⟨F, d, e, r, le, by rw [ok.hK]; exact s1, by rw [ok.hK]; exact s2, e1, fun z hz => q z H2 (.inr ⟨rfl, by rw [← ok.hK]; exact hz, hk.symm⟩)⟩
  · cases e2
theorem k_neg {a : E} {ax : Expr} {pos : Pos} (ok : Ok Γ G X) (ha : PEk G X G.c a ax) : PEk G X G.c (.neg a) (.UnaryOp .USub ax pos) := by
  refine ne_p (fun k => ?_) rfl
  rw [tV_eq (g := fin G.c (opd1 G.c a (ev G.c a 0)) (g1 (p1 .neg))) fun env => by simp only [ev]]
  obtain ⟨ta, h1, w⟩ := fin1 ha (g1 (p1 .neg))
  refine (pe_un un_neg_D h1).weaken fun σ H Q hq => w k σ H Q _ (fun x H1 F d r le s1 hr q => ?_) hq
  have hs : isCont r = false := by
    have := p1_scal (show p1 .neg d = some r from hr)
    cases r <;> first | rfl | (simp [scal] at this)
  exact ⟨F, d, r, le, by rw [ok.hK]; exact s1, hr, fun z H' hz => q z H' (.inl ⟨by rw [← ok.hK]; exact hz, .inr hs⟩)⟩
theorem noneV_iff {K : PySem.W.Frag} {F H : Hp} {x : V} {d : PyData} (h : Shl K F H x d) : decide (x = .non) = isNone d := by
  cases d with
  | none => cases (show Dat K F x .none from h); rfl
  | bool b => cases h.bool; rfl
  | int b => cases h.int; rfl
  | str b => cases h.str; rfl
  | list ds => obtain ⟨a, vs, rfl, _⟩ := h; rfl
  | tuple ds => cases (show Dat K F x (.tuple ds) from h); rfl
  | dict ds => obtain ⟨a, rfl, _⟩ := h; rfl
theorem k_isN {a : E} {ax : Expr} {n : Bool} {i : Nat} {pos pos' : Pos} (ok : Ok Γ G X) (ha : PEk G X G.c a ax) : PEk G X G.c (.isN a n) (.Compare ax [if n then .IsNot else .Is] [.Constant .none i pos'] pos) := by
  refine ne_p (fun k => ?_) rfl
  rw [tV_eq (g := fin G.c (opd1 G.c a (ev G.c a 0)) (g1 fun d => some (.bool (isNone d ^^ n)))) fun env => by simp only [ev]]
  obtain ⟨ta, h1, w⟩ := fin1 ha (g1 fun d => some (.bool (isNone d ^^ n)))
  cases n with
  | true =>
    refine (pe_cmp (pc_notN h1)).weaken fun σ H Q hq => w k σ H Q _ (fun x H1 F d r le s1 hr q => ?_) hq
    cases hr
    rw [noneV_iff s1]
    have e : (isNone d ^^ true) = !isNone d := by cases isNone d <;> rfl
    rw [← e]
    exact q _ _ (.inl ⟨New.bl _, .inr rfl⟩)
  | false =>
    refine (pe_cmp (pc_isN h1)).weaken fun σ H Q hq => w k σ H Q _ (fun x H1 F d r le s1 hr q => ?_) hq
    cases hr
    rw [noneV_iff s1]
    have e : (isNone d ^^ false) = isNone d := by cases isNone d <;> rfl
    rw [← e]
    exact q _ _ (.inl ⟨New.bl _, .inr rfl⟩)
theorem t_isN {a : E} {ax : Expr} {n : Bool} {i : Nat} {pos pos' : Pos} (ok : Ok Γ G X) (ha : PEk G X G.c a ax) : PT X (.Compare ax [if n then .IsNot else .Is] [.Constant .none i pos'] pos) (tT G (evT G.c (.isN a n))) := by
  obtain ⟨ta, h1, w⟩ := fin1 ha (g1 fun d => some (.bool (isNone d ^^ n)))
  have fin : ∀ {σ : L2.St} {H : Hp} {Q : Bool → Hp → Prop}, tT G (evT G.c (.isN a n)) σ H Q → tV G 0 (fin G.c (opd1 G.c a (ev G.c a 0)) (g1 fun d => some (.bool (isNone d ^^ n)))) σ H fun x H' => ∃ k, x = .bl k ∧ Q k H' := fun {σ H Q} ⟨T, env, fps, I, hq⟩ => by
    simp only [evT] at hq
    refine ⟨T, env, fps, I, hq.bind.mono (fun z _ hz v H' ho => ?_) fun _ _ z => z⟩
    obtain ⟨fps', I', d', st⟩ := ho.zero
    obtain ⟨r, env'⟩ := z
    cases r with
    | bool t =>
      cases d'.boolV
      exact ⟨t, rfl, hz H' ⟨fps', I', st⟩⟩
    | _ => exact hz.elim
  cases n with
  | true =>
    refine (pt_cmp (pc_notN h1)).weaken fun σ H Q hq => w 0 σ H _ _ (fun x H1 F d r le s1 hr q => ?_) (fin hq)
    cases hr
    obtain ⟨t, e1, e2⟩ := q (.bl (isNone d ^^ true)) H1 (.inl ⟨New.bl _, .inr rfl⟩)
    cases e1
    rw [noneV_iff s1]
    have e : (isNone d ^^ true) = !isNone d := by cases isNone d <;> rfl
    rw [← e]
    exact ⟨_, rfl, e2⟩
  | false =>
    refine (pt_cmp (pc_isN h1)).weaken fun σ H Q hq => w 0 σ H _ _ (fun x H1 F d r le s1 hr q => ?_) (fin hq)
    cases hr
    obtain ⟨t, e1, e2⟩ := q (.bl (isNone d ^^ false)) H1 (.inl ⟨New.bl _, .inr rfl⟩)
    cases e1
    rw [noneV_iff s1]
    have e : (isNone d ^^ false) = isNone d := by cases isNone d <;> rfl
    rw [← e]
    exact ⟨_, rfl, e2⟩
theorem t_isB {a : E} {ax : Expr} {b : Bool} {i : Nat} {pos pos' : Pos} (ok : Ok Γ G X) (ha : PEk G X G.c a ax) : PT X (.Compare ax [.Is] [.Constant (.bool b) i pos'] pos) (tT G (evT G.c (.isB a b))) := by
  obtain ⟨ta, h1, w⟩ := fin1 ha (g1 (isBool b))
  refine (pt_cmpR op_isBl h1 pe_bl rfl).weaken fun σ H Q ⟨T, env, fps, I, hq⟩ => ?_
  simp only [evT] at hq
  refine w 0 σ H (fun x H' => ∃ k, x = .bl k ∧ Q k H') _ (fun x H1 F d r le s1 hr q => ?_) ⟨T, env, fps, I, hq.bind.mono (fun z _ hz v H' ho => ?_) fun _ _ z => z⟩
  · cases d with
    | bool t =>
      cases hr
      cases s1.bool
      exact ⟨t, b, rfl, rfl, q _ _ (.inl ⟨New.bl _, .inr rfl⟩)⟩
    | _ => cases hr
  · obtain ⟨fps', I', d', st⟩ := ho.zero
    obtain ⟨r, env'⟩ := z
    cases r with
    | bool t =>
      cases d'.boolV
      exact ⟨t, rfl, hz H' ⟨fps', I', st⟩⟩
    | _ => exact hz.elim
theorem k_isB {a : E} {ax : Expr} {b : Bool} {i : Nat} {pos pos' : Pos} (ok : Ok Γ G X) (ha : PEk G X G.c a ax) : PEk G X G.c (.isB a b) (.Compare ax [.Is] [.Constant (.bool b) i pos'] pos) := by
  refine ne_p (fun k => ?_) rfl
  rw [tV_eq (g := fin G.c (opd1 G.c a (ev G.c a 0)) (g1 (isBool b))) fun env => by simp only [ev]]
  obtain ⟨ta, h1, w⟩ := fin1 ha (g1 (isBool b))
  refine (pe_cmpR op_isBl h1 pe_bl rfl).weaken fun σ H Q hq => w k σ H Q _ (fun x H1 F d r le s1 hr q => ?_) hq
  cases d with
  | bool t =>
    cases hr
    cases s1.bool
    exact ⟨t, b, rfl, rfl, q _ _ (.inl ⟨New.bl _, .inr rfl⟩)⟩
  | _ => cases hr
end
end Fx
set_option Elab.async false
set_option linter.all false
set_option maxRecDepth 100000
/-! M11: displays, tests, builtins. -/
namespace Fx
open PySem PySem.Spec PyProof.Rows L2
section
variable {Γ : Gam} {G : Gh} {X : Cx}
theorem or_swap3 (a b c : As) : or' a (or' b c) = or' (or' a b) c := (or_assoc' a b c).symm
/-- a new list or dict that owns its items -/
theorem VOut.wrap {T : As} {H H1 : Hp} {fps fps1 : Nat → As} {σ : L2.St} {k : Nat} {g : As} {env : EnvD} {p : Addr} {o : HO} {d : PyData} (I : SOk G.K G.L (or' g T) env σ H1 fps1) (dj : Dis g T) (st : Stp T H fps (or' g T) H1 fps1) (hp : H1 p = none)
    (R : ∀ H2, H2 p = some o → (∀ b, g b → H2 b = H1 b) → ¬ g p → Rep G.K (fr (or' g T) H1 fps1) H2 k (.ref p) d (or' (one' p) g)) : VOut G T H fps σ k (d, env) (.ref p) (upd H1 p o) := by
  obtain ⟨I', e⟩ := I.own (o := o) hp
  have np : ∀ b, all' (or' g T) fps1 b → b ≠ p := fun b z e => I.trk b z (by rw [e]; exact hp)
  rw [or_swap3] at I' e
  refine ⟨fps1, or' (one' p) g, I', ?_, ?_, ⟨fun b hb => ?_, ?_⟩⟩
  · rw [e]
    exact R _ upd_same (fun b hb => upd_ne (np b (.inl (.inl hb)))) fun hg => np p (.inl (.inl hg)) rfl
  · rintro b (hb | hb) hT
    · exact np b (.inl (.inr hT)) hb
    · exact dj b hb hT
  · rw [upd_ne (np b (.inl (.inr hb)))]
    exact st.aside b hb
  · rw [e]; exact st.le
theorem k_lst {es : Es} {as : List Expr} {pos : Pos} (h : PEs G X G.c es as) : PEk G X G.c (.lst es) (.List as pos) := by
  refine ne_p (fun k => ?_) rfl
  refine (pe_lst (pa_vals h (k - 1))).weaken fun σ H Q ⟨T, env, fps, I, hq⟩ => ⟨T, env, fps, I, ?_⟩
  simp only [ev] at hq
  refine hq.bind.mono (fun r _ hr vs H1 ho => ?_) fun _ _ z => z
  obtain ⟨hl, hr⟩ := hr.ite_bad
  obtain ⟨fps1, g, I1, R1, dj, st⟩ := ho
  refine ⟨by rw [R1.length]; exact hl, fun p hp => hr _ _ ?_⟩
  cases k with
  | zero =>
    obtain ⟨h1, rfl⟩ := R1.dat0
    rw [or_none] at I1 h1 st
    exact (VOut.new I1 (New.lst hp h1) (.inl (Nat.zero_le _))).more st
  | succ k =>
    refine VOut.wrap I1 dj st hp fun H2 e1 e2 e3 => .inr (.inl ⟨p, vs, r.1, g, rfl, rfl, e1, R1.imp fun v d f s rr => rr.keep _ (Le.refl _) fun b hb => e2 b (s b hb), e3, rfl⟩)
theorem k_tup {es : Es} {as : List Expr} {i : Nat} {pos : Pos} (h : PEs G X G.c es as) : PEk G X G.c (.tup es) (.Tuple as i pos) := by
  refine ne_p (fun k => ?_) rfl
  refine (pe_tup (pa_vals h 0)).weaken fun σ H Q ⟨T, env, fps, I, hq⟩ => ⟨T, env, fps, I, ?_⟩
  simp only [ev] at hq
  refine hq.bind.mono (fun r _ hr vs H1 ho => ?_) fun _ _ z => z
  obtain ⟨hl, hr⟩ := hr.ite_bad
  obtain ⟨fps1, g, I1, R1, dj, st⟩ := ho
  refine ⟨by rw [R1.length]; exact hl, fun p hp => hr _ _ ?_⟩
  obtain ⟨h1, rfl⟩ := R1.dat0
  rw [or_none] at I1 h1 st
  exact (VOut.new I1 (New.tup hp h1) (.inr rfl)).more st
theorem k_dnew {pos : Pos} : PEk G X G.c .dnew (.Dict [] [] pos) := by
  refine ne_p (fun k => ?_) rfl
  refine pe_dnewK.weaken fun σ H Q ⟨T, env, fps, I, hq⟩ p hp => ?_
  simp only [ev] at hq
  have hq : ∀ v H', VOut G T H fps σ k (.dict [], env) v H' → Q v H' := hq
  refine hq _ _ ?_
  cases k with
  | zero => exact VOut.new I (.inr ⟨p, _, hp, rfl, rfl, .inr (.inr (.inl ⟨[], [], rfl, rfl, .nil⟩))⟩) (.inl (Nat.zero_le _))
  | succ k =>
    have e0 : or' none' T = T := or_none T
    refine VOut.wrap (g := none') (fps1 := fps) (by rw [e0]; exact I) (dis_none _) (by rw [e0]; exact Stp.refl _ _ _) hp fun H2 e1 e2 e3 => .inr (.inr (.inl ⟨p, [], [], none', rfl, rfl, e1, .nil, e3, rfl⟩))
theorem k_ch {o o' : C2} {x y z : E} {ax ay az : Expr} {pos : Pos} (ok : Ok Γ G X) (hx : PEk G X G.c x ax) (hy : PEk G X G.c y ay) (hz : PEk G X G.c z az) (hs : noSet az = true) : PEk G X G.c (.ch o o' x y z) (.Compare ax [cop o, cop o'] [ay, az] pos) := by
  refine ne_p (fun k => ?_) rfl
  refine (pe_chain (op_c2 (hu100 ok) o) (op_c2 (hu100 ok) o') (hx.v 0) (hy.v 0) (hz.v 0) (by show behindInMarks _ _ = false; exact behind_ok hs)).weaken fun σ H Q ⟨T, env, fps, I, hq⟩ => ⟨T, env, fps, I, ?_⟩
  simp only [ev] at hq
  refine hq.bind.mono (fun r1 _ h1 v1 H1 o1 => ?_) fun _ _ z => z
  obtain ⟨fps1, I1, d1, st1⟩ := o1.zero
  refine ⟨T, r1.2, fps1, I1, h1.bind.mono (fun r2 _ h2 v2 H2 o2 => ?_) fun _ _ z => z.step0 st1⟩
  obtain ⟨fps2, I2, d2, st2⟩ := o2.zero
  obtain ⟨t, e1, h3⟩ := h2.of_bind
  have s1 : Shl X.K (fr T H2 fps2) H2 v1 r1.1 := by rw [ok.hK]; exact Shl.of hid_le (d1.mono st2.le)
  have s2 : Shl X.K (fr T H2 fps2) H2 v2 r2.1 := by rw [ok.hK]; exact Shl.of hid_le d2
  refine ⟨fr T H2 fps2, r1.1, r2.1, .bool t, hid_le, s1, s2, by unfold c2B; rw [e1]; rfl, fun w H' hw => ?_⟩
  have hb : H' = H2 ∧ w = .bl t := by
    rcases hw with ⟨a1, a2, _⟩ | ⟨p, oo, _, _, _, hf⟩
    · exact ⟨a1, a2.boolV⟩
    · exfalso
      rcases hf with ⟨_, _, _, e, _⟩ | ⟨_, _, _, e, _⟩ | ⟨_, _, _, e, _⟩ | ⟨_, _, _, e, _⟩ <;> cases e
  obtain ⟨rfl, rfl⟩ := hb
  refine ⟨t, rfl, ?_⟩
  cases t with
  | false =>
    rw [if_neg (by decide)]
    exact (show ∀ v H'', VOut G T H fps σ k (.bool false, r2.2) v H'' → Q v H'' from h3) _ _ ((VOut.of0 I2 (.bl false) (.inl rfl) (Stp.refl _ _ _)).more (st1.tr st2))
  | true =>
    rw [if_pos rfl]
    refine ⟨T, r2.2, fps2, I2, h3.bind.mono (fun r3 _ h4 v3 H3 o3 => ?_) fun _ _ z => (z.step0 st1).step0 st2⟩
    obtain ⟨fps3, I3, d3, st3⟩ := o3.zero
    obtain ⟨u, e2, h5⟩ := h4.of_bind
    refine ⟨fr T H3 fps3, r2.1, r3.1, .bool u, hid_le, by rw [ok.hK]; exact Shl.of hid_le (d2.mono st3.le), by rw [ok.hK]; exact Shl.of hid_le d3, by unfold c2B; rw [e2]; rfl, fun w H' hw => ?_⟩
    exact (show ∀ v H'', VOut G T H fps σ k (.bool u, r3.2) v H'' → Q v H'' from h5) _ _ ((VOut.new I3 (by rw [← ok.hK]; exact hw) (.inr rfl)).more ((st1.tr st2).tr st3))
theorem t_ch {o o' : C2} {x y z : E} {ax ay az : Expr} {pos : Pos} (ok : Ok Γ G X) (hx : PEk G X G.c x ax) (hy : PEk G X G.c y ay) (hz : PEk G X G.c z az) (hs : noSet az = true) : PT X (.Compare ax [cop o, cop o'] [ay, az] pos) (tT G (evT G.c (.ch o o' x y z))) := by
  refine (pt_chain (op_c2 (hu100 ok) o) (op_c2 (hu100 ok) o') (hx.v 0) (hy.v 0) (hz.v 0) (by show behindInMarks _ _ = false; exact behind_ok hs)).weaken fun σ H Q ⟨T, env, fps, I, hq⟩ => ⟨T, env, fps, I, ?_⟩
  simp only [evT] at hq
  refine hq.bind.mono (fun r1 _ h1 v1 H1 o1 => ?_) fun _ _ z => z
  obtain ⟨fps1, I1, d1, st1⟩ := o1.zero
  refine ⟨T, r1.2, fps1, I1, h1.bind.mono (fun r2 _ h2 v2 H2 o2 => ?_) fun _ _ z => z.step0 st1⟩
  obtain ⟨fps2, I2, d2, st2⟩ := o2.zero
  obtain ⟨t, e1, h3⟩ := h2.of_bind
  have s1 : Shl X.K (fr T H2 fps2) H2 v1 r1.1 := by rw [ok.hK]; exact Shl.of hid_le (d1.mono st2.le)
  have s2 : Shl X.K (fr T H2 fps2) H2 v2 r2.1 := by rw [ok.hK]; exact Shl.of hid_le d2
  refine ⟨fr T H2 fps2, r1.1, r2.1, .bool t, hid_le, s1, s2, by unfold c2B; rw [e1]; rfl, fun w H' hw => ?_⟩
  have hb : ∀ {F : Hp} {t : Bool} {w : V} {H' H2 : Hp}, New X.K F H2 w (.bool t) H' → H' = H2 ∧ w = .bl t := fun {F t w H' H2} hw => by
    rcases hw with ⟨a1, a2, _⟩ | ⟨p, oo, _, _, _, hf⟩
    · exact ⟨a1, a2.boolV⟩
    · exfalso
      rcases hf with ⟨_, _, _, e, _⟩ | ⟨_, _, _, e, _⟩ | ⟨_, _, _, e, _⟩ | ⟨_, _, _, e, _⟩ <;> cases e
  obtain ⟨rfl, rfl⟩ := hb hw
  refine ⟨t, rfl, ?_⟩
  cases t with
  | false =>
    rw [if_neg (by decide)]
    exact ⟨false, rfl, (show ∀ H'', TOut G T H fps σ r2.2 H'' → Q false H'' from h3) _ ⟨fps2, I2, st1.tr st2⟩⟩
  | true =>
    rw [if_pos rfl]
    refine ⟨T, r2.2, fps2, I2, h3.bind.mono (fun r3 _ h4 v3 H3 o3 => ?_) fun _ _ z => (z.step0 st1).step0 st2⟩
    obtain ⟨fps3, I3, d3, st3⟩ := o3.zero
    obtain ⟨u, e2, h5⟩ := h4.of_bind
    refine ⟨fr T H3 fps3, r2.1, r3.1, .bool u, hid_le, by rw [ok.hK]; exact Shl.of hid_le (d2.mono st3.le), by rw [ok.hK]; exact Shl.of hid_le d3, by unfold c2B; rw [e2]; rfl, fun w H' hw => ?_⟩
    obtain ⟨rfl, rfl⟩ := hb hw
    exact ⟨u, rfl, (show ∀ H'', TOut G T H fps σ r3.2 H'' → Q u H'' from h5) _ ⟨fps3, I3, (st1.tr st2).tr st3⟩⟩
/-! ### truth -/
theorem tru_run (ok : Ok Γ G X) {pins : List (Addr × Obj)} {s : Shared} {σ : L2.St} {H : Hp} {x : V} {u : Value} {T : As} {fps : Nat → As} {d : PyData} {t : Bool} {Q : Bool → Hp → Prop} (I : Inv X pins σ H s) (rx : RelV x u) (hd : Dat G.K (fr T H fps) x d) (ht : truth d = some t)
    (q : Q t H) : wpAny (model X.prog X.w) X.A (truthy u) (TP X pins σ Q) X.xe s :=
  tru_D pins s σ H x u Q I rx ⟨fr T H fps, d, t, hid_le, by rw [ok.hK]; exact Shl.of hid_le hd, ht, q⟩
theorem k_not {a : E} {ax : Expr} {pos : Pos} (ok : Ok Γ G X) (ha : PEk G X G.c a ax) : PEk G X G.c (.not a) (.UnaryOp .Not ax pos) := by
  refine ne_p (fun k => ?_) rfl
  refine ⟨fun pins s σ H Q I ⟨T, env, fps, J, hq⟩ => ?_⟩
  simp only [ev] at hq
  refine UnaryOp_ (thn ((ha.v 0).run pins s σ H (fun v H1 => ∃ (r : PyData × EnvD) (fps1 : Nat → As), SOk G.K G.L T r.2 σ H1 fps1 ∧ Dat G.K (fr T H1 fps1) v r.1 ∧ Stp T H fps T H1 fps1 ∧ ∃ t, truth r.1 = some t ∧ ∀ v' H', VOut G T H fps σ k (.bool (!t), r.2) v' H' → Q v' H') I ⟨T, env, fps, J, hq.bind.mono (fun r _ hr v H1 ho => ?_) fun _ _ z => z⟩) fun v s1 ⟨x, H1, I1, r1, q1⟩ => ?_)
  · obtain ⟨fps1, I1, d1, st1⟩ := ho.zero
    obtain ⟨t, e, hr⟩ := hr.of_bind
    exact ⟨r, fps1, I1, d1, st1, t, e, hr⟩
  · obtain ⟨r, fps1, J1, d1, st1, t, e, q⟩ := q1
    refine not_of (thn (tru_run (Q := fun t' H' => t' = t ∧ H' = H1) ok I1 r1 d1 e ⟨rfl, rfl⟩) fun b s2 ⟨H', I2, e1, e2⟩ => ?_)
    subst e1 e2
    exact ⟨.bl (!b), H', I2, rfl, q _ _ ((VOut.of0 J1 (.bl _) (.inl rfl) (Stp.refl _ _ _)).more st1)⟩
theorem k_and {a b : E} {ax bx : Expr} {rest : List Expr} {pos : Pos} (ok : Ok Γ G X) (ha : PEk G X G.c a ax) (hb : PEk G X G.c b (.BoolOp .And (bx :: rest) pos)) : PEk G X G.c (.and a b) (.BoolOp .And (ax :: bx :: rest) pos) := by
  refine ne_p (fun k => ?_) rfl
  refine ⟨fun pins s σ H Q I ⟨T, env, fps, J, hq⟩ => ?_⟩
  simp only [ev] at hq
  refine BoolOp_and (thn ((ha.v 0).run pins s σ H (fun v H1 => ∃ (r : PyData × EnvD) (fps1 : Nat → As), SOk G.K G.L T r.2 σ H1 fps1 ∧ Dat G.K (fr T H1 fps1) v r.1 ∧ Stp T H fps T H1 fps1 ∧ ∃ t, truth r.1 = some t ∧ Out (if t = true then ev G.c b k r.2 else if isCont r.1 = false ∨ k = 0 then .ok r else .bad) (fun r' => ∀ v' H', VOut G T H fps σ k r' v' H' → Q v' H') (XW G T H fps)) I ⟨T, env, fps, J, hq.bind.mono (fun r _ hr v H1 ho => ?_) fun _ _ z => z⟩) fun v s1 ⟨x, H1, I1, r1, q1⟩ => ?_)
  · obtain ⟨fps1, I1, d1, st1⟩ := ho.zero
    obtain ⟨t, e, hr⟩ := hr.of_bind
    exact ⟨r, fps1, I1, d1, st1, t, e, hr⟩
  · obtain ⟨r, fps1, J1, d1, st1, t, e, q⟩ := q1
    refine thn (tru_run (Q := fun t' H' => t' = t ∧ H' = H1) ok I1 r1 d1 e ⟨rfl, rfl⟩) fun b' s2 ⟨H', I2, e1, e2⟩ => ?_
    subst e1 e2
    cases b' with
    | true =>
      rw [if_pos rfl] at q
      exact (hb.v k).run pins s2 σ H' Q I2 ⟨T, r.2, fps1, J1, q.mono (fun r' _ h v' H'' o => h v' H'' (o.more st1)) fun _ _ z => z.step0 st1⟩
    | false =>
      rw [if_neg (by decide)] at q
      obtain ⟨hc, q⟩ := q.ite_bad
      exact ⟨x, H', I2, r1, (show ∀ v' H'', VOut G T H fps σ k r v' H'' → Q v' H'' from q) x H' ((VOut.of0 J1 d1 hc (Stp.refl _ _ _)).more st1)⟩
theorem k_or {a b : E} {ax bx : Expr} {rest : List Expr} {pos : Pos} (ok : Ok Γ G X) (ha : PEk G X G.c a ax) (hb : PEk G X G.c b (.BoolOp .Or (bx :: rest) pos)) : PEk G X G.c (.or a b) (.BoolOp .Or (ax :: bx :: rest) pos) := by
  refine ne_p (fun k => ?_) rfl
  refine ⟨fun pins s σ H Q I ⟨T, env, fps, J, hq⟩ => ?_⟩
  simp only [ev] at hq
  refine BoolOp_or (thn ((ha.v 0).run pins s σ H (fun v H1 => ∃ (r : PyData × EnvD) (fps1 : Nat → As), SOk G.K G.L T r.2 σ H1 fps1 ∧ Dat G.K (fr T H1 fps1) v r.1 ∧ Stp T H fps T H1 fps1 ∧ ∃ t, truth r.1 = some t ∧ Out (if t = true then (if isCont r.1 = false ∨ k = 0 then .ok r else .bad) else ev G.c b k r.2) (fun r' => ∀ v' H', VOut G T H fps σ k r' v' H' → Q v' H') (XW G T H fps)) I ⟨T, env, fps, J, hq.bind.mono (fun r _ hr v H1 ho => ?_) fun _ _ z => z⟩) fun v s1 ⟨x, H1, I1, r1, q1⟩ => ?_)
  · obtain ⟨fps1, I1, d1, st1⟩ := ho.zero
    obtain ⟨t, e, hr⟩ := hr.of_bind
    exact ⟨r, fps1, I1, d1, st1, t, e, hr⟩
  · obtain ⟨r, fps1, J1, d1, st1, t, e, q⟩ := q1
    refine thn (tru_run (Q := fun t' H' => t' = t ∧ H' = H1) ok I1 r1 d1 e ⟨rfl, rfl⟩) fun b' s2 ⟨H', I2, e1, e2⟩ => ?_
    subst e1 e2
    cases b' with
    | false =>
      rw [if_neg (by decide)] at q
      exact (hb.v k).run pins s2 σ H' Q I2 ⟨T, r.2, fps1, J1, q.mono (fun r' _ h v' H'' o => h v' H'' (o.more st1)) fun _ _ z => z.step0 st1⟩
    | true =>
      rw [if_pos rfl] at q
      obtain ⟨hc, q⟩ := q.ite_bad
      exact ⟨x, H', I2, r1, (show ∀ v' H'', VOut G T H fps σ k r v' H'' → Q v' H'' from q) x H' ((VOut.of0 J1 d1 hc (Stp.refl _ _ _)).more st1)⟩
theorem k_one {e : E} {ax : Expr} {op : BoolOp} {pos : Pos} (h : PEk G X G.c e ax) : PEk G X G.c e (.BoolOp op [ax] pos) := ⟨fun k => pe_one (h.v k), fun p e => pe_one (h.p p e)⟩
theorem k_ite {t : Tt} {a b : E} {tx ax bx : Expr} {pos : Pos} (ht : PT X tx (tT G (evT G.c t))) (ha : PEk G X G.c a ax) (hb : PEk G X G.c b bx) : PEk G X G.c (.ite t a b) (.IfExp tx ax bx pos) := by
  refine ne_p (fun k => ?_) rfl
  refine (pe_ifExp ht (ha.v k) (hb.v k)).weaken fun σ H Q ⟨T, env, fps, I, hq⟩ => ⟨T, env, fps, I, ?_⟩
  simp only [ev] at hq
  refine hq.bind.mono (fun r _ hr H1 ho => ?_) fun _ _ z => z
  obtain ⟨fps1, I1, st1⟩ := ho
  obtain ⟨t, env1⟩ := r
  cases t with
  | true =>
    rw [if_pos rfl] at hr ⊢
    exact ⟨T, env1, fps1, I1, hr.mono (fun r' _ h v' H'' o => h v' H'' (o.more st1)) fun _ _ z => z.step0 st1⟩
  | false =>
    rw [if_neg (by simp)] at hr ⊢
    exact ⟨T, env1, fps1, I1, hr.mono (fun r' _ h v' H'' o => h v' H'' (o.more st1)) fun _ _ z => z.step0 st1⟩
theorem t_not {t : Tt} {ax : Expr} {pos : Pos} (h : PT X ax (tT G (evT G.c t))) : PT X (.UnaryOp .Not ax pos) (tT G (evT G.c (.not t))) := by
  refine (pt_not h).weaken fun σ H Q ⟨T, env, fps, I, hq⟩ => ⟨T, env, fps, I, ?_⟩
  simp only [evT] at hq
  exact hq.bind.mono (fun r _ hr H1 ho => (show ∀ H', TOut G T H fps σ r.2 H' → Q (!r.1) H' from hr) H1 ho) fun _ _ z => z
theorem t_and {t u : Tt} {ax bx : Expr} {rest : List Expr} {pos : Pos} (ha : PT X ax (tT G (evT G.c t))) (hb : PW X (.BoolOp .And (bx :: rest) pos) (tT G (evT G.c u))) : PW X (.BoolOp .And (ax :: bx :: rest) pos) (tT G (evT G.c (.and t u))) := by
  refine ⟨fun wh pins s σ H Q I ⟨T, env, fps, J, hq⟩ => (pw_and ha hb).run wh pins s σ H Q I ?_⟩
  simp only [evT] at hq
  refine ⟨T, env, fps, J, hq.bind.mono (fun r _ hr H1 ho => ?_) fun _ _ z => z⟩
  obtain ⟨fps1, I1, st1⟩ := id ho
  obtain ⟨t, env1⟩ := r
  cases t with
  | true =>
    rw [if_pos rfl] at hr ⊢
    exact ⟨T, env1, fps1, I1, hr.mono (fun r' _ h H'' o => by obtain ⟨f2, J2, s2⟩ := o; exact h H'' ⟨f2, J2, st1.tr s2⟩) fun _ _ z => z.step0 st1⟩
  | false =>
    rw [if_neg (by simp)] at hr ⊢
    exact (show ∀ H', TOut G T H fps σ env1 H' → Q false H' from hr) H1 ho
theorem t_or {t u : Tt} {ax bx : Expr} {rest : List Expr} {pos : Pos} (ha : PT X ax (tT G (evT G.c t))) (hb : PW X (.BoolOp .Or (bx :: rest) pos) (tT G (evT G.c u))) : PW X (.BoolOp .Or (ax :: bx :: rest) pos) (tT G (evT G.c (.or t u))) := by
  refine ⟨fun wh pins s σ H Q I ⟨T, env, fps, J, hq⟩ => (pw_or ha hb).run wh pins s σ H Q I ?_⟩
  simp only [evT] at hq
  refine ⟨T, env, fps, J, hq.bind.mono (fun r _ hr H1 ho => ?_) fun _ _ z => z⟩
  obtain ⟨fps1, I1, st1⟩ := id ho
  obtain ⟨t, env1⟩ := r
  cases t with
  | true =>
    rw [if_pos rfl] at hr ⊢
    exact (show ∀ H', TOut G T H fps σ env1 H' → Q true H' from hr) H1 ho
  | false =>
    rw [if_neg (by simp)] at hr ⊢
    exact ⟨T, env1, fps1, I1, hr.mono (fun r' _ h H'' o => by obtain ⟨f2, J2, s2⟩ := o; exact h H'' ⟨f2, J2, st1.tr s2⟩) fun _ _ z => z.step0 st1⟩
def plainTest : Expr → Bool
  | .UnaryOp .Not _ _ => false
  | .BoolOp .. => false
  | .IfExp .. => false
  | .Compare .. => false
  | _ => true
theorem plainTest_ok {e : Expr} {env : PySem.Env} (h : plainTest e = true) (whole : Sem Value) : isTrue e env whole = (do let v ← whole; standAt e.pos; holding [v] (truthy v)) := by
  cases e <;> first | rfl | (cases h; done) | skip
  rename_i op x p
  cases op <;> first | rfl | cases h
theorem t_v {e : E} {ax : Expr} (ok : Ok Γ G X) (h : PEk G X G.c e ax) (hp : plainTest ax = true) : PT X ax (tT G (evT G.c (.v e))) := by
  obtain ⟨ta, h1, w⟩ := fin1 h (g1 fun d => (truth d).map .bool)
  refine ⟨fun pins s σ H Q I ⟨T, env, fps, J, hq⟩ => ?_⟩
  simp only [evT] at hq
  refine isTrue_plain (thn (h1.run pins s σ H (fun x H1 => ∃ F d t, Le F H1 ∧ Shl G.K F H1 x d ∧ truth d = some t ∧ Q t H1) I ?_) fun v s1 ⟨x, H1, I1, r1, F, d, t, le, sh, e, q⟩ => ?_) (plainTest_ok hp _)
  · refine w 0 σ H (fun x H' => ∃ t, x = .bl t ∧ Q t H') _ (fun x H1 F d r le s1 hr q => ?_) ⟨T, env, fps, J, hq.bind.mono (fun z _ hz v H' ho => ?_) fun _ _ z => z⟩
    · obtain ⟨t, e1, e2⟩ := Option.map_eq_some_iff.mp hr
      subst e2
      obtain ⟨t', e3, q'⟩ := q (.bl t) H1 (.inl ⟨New.bl t, .inr rfl⟩)
      cases e3
      exact ⟨F, d, t, le, s1, e1, q'⟩
    · obtain ⟨fps', I', d', st⟩ := ho.zero
      obtain ⟨r, env'⟩ := z
      cases r with
      | bool t =>
        cases d'.boolV
        exact ⟨t, rfl, hz H' ⟨fps', I', st⟩⟩
      | _ => exact hz.elim
  · exact tru_D pins s1 σ H1 x v Q I1 r1 ⟨F, d, t, le, by rw [ok.hK]; exact sh, e, q⟩
end
end Fx
set_option Elab.async false
set_option linter.all false
set_option maxRecDepth 100000
/-! M12: slices, builtins by name, what is walked. -/
namespace Fx
open PySem PySem.Spec PyProof.Rows L2
section
variable {Γ : Gam} {G : Gh} {X : Cx}
def tPO (G : Gh) (f : EnvD → Rs (Option Int × EnvD)) : TO := fun σ H Q => ∃ T env fps, SOk G.K G.L T env σ H fps ∧ Out (f env) (fun r => ∀ H', TOut G T H fps σ r.2 H' → Q r.1 H') (XW G T H fps)
theorem _root_.L2.PO.weaken {e : Option Expr} {t t' : TO} (h : PO X e t) (w : ∀ σ H Q, t' σ H Q → t σ H Q) : PO X e t' := ⟨fun pins s σ H Q I q => h.run pins s σ H Q I (w σ H Q q)⟩
theorem o_none : PO X none (tPO G (evO G.c .none)) := po_none.weaken fun σ H Q ⟨T, env, fps, I, h⟩ => by
  simp only [evO] at h
  exact (show ∀ H', TOut G T H fps σ env H' → Q none H' from h) H ⟨fps, I, Stp.refl _ _ _⟩
theorem o_some {e : E} {a : Expr} (h : PEk G X G.c e a) : PO X (some a) (tPO G (evO G.c (.some e))) := (po_some (h.v 0)).weaken fun σ H Q ⟨T, env, fps, I, hq⟩ => by
  simp only [evO] at hq
  refine ⟨T, env, fps, I, hq.bind.mono (fun r _ hr v H1 ho => ?_) fun _ _ z => z⟩
  obtain ⟨fps1, I1, d1, st1⟩ := ho.zero
  obtain ⟨d, env1⟩ := r
  cases d with
  | int i =>
    cases d1.intV
    exact ⟨i, rfl, (show ∀ H', TOut G T H fps σ env1 H' → Q (some i) H' from hr) H1 ⟨fps1, I1, st1⟩⟩
  | _ => exact hr.elim
theorem TOut.more {T : As} {H0 H H' : Hp} {fps0 fps : Nat → As} {σ : L2.St} {env : EnvD} (h : TOut G T H fps σ env H') (st : Stp T H0 fps0 T H fps) : TOut G T H0 fps0 σ env H' := by
  obtain ⟨f, I, s⟩ := h
  exact ⟨f, I, st.tr s⟩
theorem k_sl {a : E} {lo hi : Eo} {ax : Expr} {lx hx : Option Expr} {pos p2 : Pos} (ok : Ok Γ G X) (ha : PEk G X G.c a ax) (hl : PO X lx (tPO G (evO G.c lo))) (hh : PO X hx (tPO G (evO G.c hi))) : PEk G X G.c (.sl a lo hi) (.Subscript ax (.Slice lx hx none p2) pos) := by
  refine ne_p (fun k => ?_) rfl
  refine (pe_slice sl_D (ha.v 0) hl hh).weaken fun σ H Q ⟨T, env, fps, I, hq⟩ => ⟨T, env, fps, I, ?_⟩
  simp only [ev] at hq
  refine hq.bind.mono (fun r1 _ h1 v1 H1 o1 => ?_) fun _ _ z => z
  obtain ⟨fps1, I1, d1, st1⟩ := o1.zero
  refine ⟨T, r1.2, fps1, I1, h1.bind.mono (fun r2 _ h2 H2 o2 => ?_) fun _ _ z => z.step0 st1⟩
  obtain ⟨fps2, I2, st2⟩ := o2
  refine ⟨T, r2.2, fps2, I2, h2.bind.mono (fun r3 _ h3 H3 o3 => ?_) fun _ _ z => (z.step0 st1).step0 st2⟩
  obtain ⟨fps3, I3, st3⟩ := o3
  obtain ⟨d, e, q⟩ := h3.of_bind
  obtain ⟨d', e1, e2⟩ := Option.bind_eq_some_iff.mp e
  obtain ⟨rfl, hk⟩ := own1_ok e2
  refine ⟨fr T H3 fps3, r1.1, d, hid_le, by rw [ok.hK]; exact Shl.of hid_le (d1.mono (st2.le.trans st3.le)), e1, fun z H' hz => ?_⟩
  exact (show ∀ v H', VOut G T H fps σ k (d, r3.2) v H' → Q v H' from q) z H' ((VOut.new I3 (by rw [← ok.hK]; exact hz) hk).more ((st1.tr st2).tr st3))
theorem k_rev {a : E} {ax : Expr} {i : Nat} {q1 q2 q3 pos : Pos} (ok : Ok Γ G X) (ha : PEk G X G.c a ax) : PEk G X G.c (.rev a) (.Subscript ax (.Slice none none (some (.UnaryOp .USub (.Constant (.int 1) i q1) q2)) q3) pos) := by
  refine ne_p (fun k => ?_) rfl
  rw [tV_eq (g := fin G.c (opd1 G.c a (ev G.c a 0)) (fun ds => (g1 revD ds).bind (own1 k))) fun env => by simp only [ev]]
  obtain ⟨ta, h1, w⟩ := fin1 ha (fun ds => (g1 revD ds).bind (own1 k))
  refine (pe_revL h1).weaken fun σ H Q hq => w k σ H Q _ (fun x H1 F d r le s1 hr q => ?_) hq
  obtain ⟨r', e1, e2⟩ := Option.bind_eq_some_iff.mp hr
  obtain ⟨rfl, hk⟩ := own1_ok e2
  cases d with
  | list ds =>
    obtain ⟨a, vs, rfl, t, k1⟩ := s1
    cases e1
    exact ⟨a, vs, rfl, by rw [ok.hK]; exact t, fun p hp => q _ _ (.inl ⟨New.lst hp k1.reverse, hk⟩)⟩
  | _ => cases e1
def nIsi : Str := "isinstance"
def tyS : Ty → Str
  | .int => "int" | .bool => "bool" | .str => "str" | .tuple => "tuple" | .list => "list" | .dict => "dict"
theorem boot_ty (t : Ty) : bootBuiltins (tyS t) = some (.type (tyN t)) := by cases t <;> decide +kernel
theorem tyS_blt (t : Ty) : tyS t ∈ bltNames := by cases t <;> decide
theorem boot_isi : bootBuiltins nIsi = some (.builtin "isinstance") := by decide +kernel
theorem k_isa {t : Ty} {a : E} {ax : Expr} {p1 p2 pos : Pos} (ok : Ok Γ G X) (ha : PEk G X G.c a ax) (hs : noStar1 ax = true) (h1 : isGl Γ nIsi = true) (h2 : isGl Γ (tyS t) = true) : PEk G X G.c (.isa t a) (.Call (.Name nIsi p1) [ax, .Name (tyS t) p2] [] pos) := by
  refine ne_p (fun k => ?_) rfl
  rw [tV_eq (g := fin G.c (opd1 G.c a (ev G.c a 0)) (g1 (isaD t))) fun env => by simp only [ev]]
  obtain ⟨ta, h3, w⟩ := fin1 ha (g1 (isaD t))
  obtain ⟨g1', g2'⟩ := ok.gl h1
  obtain ⟨n1, n2, n3⟩ := okName_1 g2'
  obtain ⟨g3', g4'⟩ := ok.gl h2
  obtain ⟨m1, m2, m3⟩ := okName_1 g4'
  have pt : PE X (.Name (tyS t) p2) (tC (.ty (tyN t))) := pe_bltn g3' (ok.blt _ (tyS_blt t)) (boot_ty t) rfl m3 m1
  have pa : PA X [ax, .Name (tyS t) p2] (tCons ta (tCons (tC (.ty (tyN t))) tNil)) := pa_cons h3 (pa_cons pt pa_nil) (star_cons hs)
  refine (pe_callB (call_isa_D t) g1' (ok.blt _ (by decide)) boot_isi pa n3 n1 (star_cons hs) (star_any (by rfl))).weaken fun σ H Q hq => w k σ H Q _ (fun x H1 F d r le s1 hr q => ?_) hq
  have hc : isCont r = false := by
    simp only [g1, isaD] at hr
    split at hr <;> cases hr
    rfl
  exact ⟨x, rfl, F, [d], r, le, .cons (by rw [ok.hK]; exact s1) .nil, hr, fun z H' hz => q z H' (.inl ⟨by rw [← ok.hK]; exact hz, .inr hc⟩)⟩
def bname : Bi → Str
  | .len => "len" | .abs => "abs" | .int => "int" | .tuple => "tuple" | .list => "list" | .sorted => "sorted" | .sum => "sum" | .min => "min" | .max => "max" | .min2 => "min" | .max2 => "max"
theorem bname_blt (b : Bi) : bname b ∈ bltNames := by cases b <;> decide
theorem boot_bi (b : Bi) : bootBuiltins (bname b) = some (bval b) := by cases b <;> decide +kernel
theorem bval_is (b : Bi) : (∃ n, bval b = .builtin n) ∨ ∃ n, bval b = .type n := by
  cases b <;> first | exact .inl ⟨_, rfl⟩ | exact .inr ⟨_, rfl⟩
theorem pe_callAny {f : Str} {v : Value} {r : List V → Hp → VK → Prop} {x : Expr} {xs : List Expr} {t : TA} {p pos : Pos} (ok : Ok Γ G X) (hv : (∃ n, v = .builtin n) ∨ ∃ n, v = .type n) (hb : bootBuiltins f = some v) (hc : CallR X v r) (hf : f ∈ bltNames) (hg : isGl Γ f = true)
    (ha : PA X (x :: xs) t) (hs : noStar (x :: xs) = true) : PE X (.Call (.Name f p) (x :: xs) [] pos) (tCB r t) := by
  obtain ⟨g1', g2'⟩ := ok.gl hg
  obtain ⟨n1, n2, n3⟩ := okName_1 g2'
  have hs2 : noStar1 x = true ∧ noStar xs = true := by simpa [noStar] using hs
  rcases hv with ⟨n, rfl⟩ | ⟨n, rfl⟩
  · exact pe_callB hc g1' (ok.blt f hf) hb ha n3 n1 (star_cons hs2.1) (star_any hs2.2)
  · exact pe_callTy hc g1' (ok.blt f hf) hb ha n3 n1 (star_cons hs2.1) (star_any hs2.2)
theorem k_bi {b : Bi} {es : Es} {x : Expr} {xs : List Expr} {p pos : Pos} (ok : Ok Γ G X) (h : PEs G X G.c es (x :: xs)) (hs : noStar (x :: xs) = true) (hg : isGl Γ (bname b) = true) : PEk G X G.c (.bi b es) (.Call (.Name (bname b) p) (x :: xs) [] pos) := by
  refine ne_p (fun k => ?_) rfl
  rw [tV_eq (g := fin G.c (evA G.c es) (fun ds => (bi b ds).bind (own1 k))) fun env => by simp only [ev]]
  refine (pe_callAny ok (bval_is b) (boot_bi b) (call_bi ok.calm (hu100 ok) b) (bname_blt b) hg (pa_opds h) hs).weaken fun σ H Q hq => finA _ k (fun vs H1 F ds r le s1 hr q => ?_) hq
  obtain ⟨r', e1, e2⟩ := Option.bind_eq_some_iff.mp hr
  obtain ⟨rfl, hk⟩ := own1_ok e2
  exact ⟨F, ds, r, le, by rw [ok.hK]; exact s1, e1, fun z H' hz => q z H' (.inl ⟨by rw [← ok.hK]; exact hz, hk⟩)⟩
end
end Fx
set_option Elab.async false
set_option linter.all false
set_option maxRecDepth 100000
/-! M13: owned data altered at a path. -/
namespace Fx
open PySem PySem.Spec PyProof.Rows L2

theorem RepL.focus {R : RR} : ∀ {vs : List V} {ds : List PyData} {g : As}, RepL R vs ds g → ∀ {n : Nat} {d1 : PyData}, ds[n]? = some d1 →
    ∃ v1 f1 h, vs[n]? = some v1 ∧ R v1 d1 f1 ∧ Dis f1 h ∧ (∀ b, g b ↔ f1 b ∨ h b) ∧ ∀ (R' : RR) d1' f1', (∀ v d f, (∀ b, f b → h b) → R v d f → R' v d f) → R' v1 d1' f1' → Dis f1' h → ∃ g', RepL R' vs (ds.set n d1') g' ∧ ∀ b, g' b ↔ f1' b ∨ h b
  | _, _, _, .nil, _, _, h => by simp at h
  | _, _, _, .cons (v := v) (vs := vs) (d := d) (ds := ds) (f := f) (g := g) r t dj, 0, d1, e => by
    simp at e
    subst e
    refine ⟨v, f, g, rfl, r, dj, fun b => Iff.rfl, fun R' d1' f1' k r' dj' => ⟨or' f1' g, ?_, fun b => Iff.rfl⟩⟩
    rw [List.set_cons_zero]
    exact .cons r' (t.imp fun v d f s => k v d f s) dj'
  | _, _, _, .cons (v := v) (vs := vs) (d := d) (ds := ds) (f := f) (g := g) r t dj, n + 1, d1, e => by
    obtain ⟨v1, f1, h, e1, r1, dj1, hg, w⟩ := RepL.focus t (n := n) (by simpa using e)
    refine ⟨v1, f1, or' f h, by simpa using e1, r1, ?_, fun b => ?_, fun R' d1' f1' k r' dj' => ?_⟩
    · rintro b x (y | y)
      · exact dj b y ((hg b).mpr (.inl x))
      · exact dj1 b x y
    · show f b ∨ g b ↔ f1 b ∨ f b ∨ h b
      rw [hg b]
      constructor
      · rintro (x | x | x)
        · exact .inr (.inl x)
        · exact .inl x
        · exact .inr (.inr x)
      · rintro (x | x | x)
        · exact .inr (.inl x)
        · exact .inl x
        · exact .inr (.inr x)
    · obtain ⟨g', w1, w2⟩ := w R' d1' f1' (fun v d f s => k v d f fun b z => .inr (s b z)) r' fun b x y => dj' b x (.inr y)
      refine ⟨or' f g', ?_, fun b => ?_⟩
      · rw [List.set_cons_succ]
        refine .cons (k v d f (fun b z => .inl z) r) w1 fun b x y => ?_
        rcases (w2 b).mp y with y | y
        · exact dj' b y (.inl x)
        · exact dj b x ((hg b).mpr (.inr y))
      · show f b ∨ g' b ↔ f1' b ∨ f b ∨ h b
        rw [w2 b]
        constructor
        · rintro (x | x | x)
          · exact .inr (.inl x)
          · exact .inl x
          · exact .inr (.inr x)
        · rintro (x | x | x)
          · exact .inr (.inl x)
          · exact .inl x
          · exact .inr (.inr x)
/-- the value at a path -/
def PathV (H : Hp) : V → List PyData → V → Prop
  | v, [], w => w = v
  | v, j :: js, w => ∃ a vs i x, v = .ref a ∧ H a = some (.lst vs) ∧ j = .int i ∧ atI vs i = some x ∧ PathV H x js w
theorem PathV.snoc {H : Hp} : ∀ {js : List PyData} {v w : V} {a : Addr} {vs : List V} {i : Int} {x : V}, PathV H v js w → w = .ref a → H a = some (.lst vs) → atI vs i = some x → PathV H v (js ++ [.int i]) x
  | [], _, _, a, vs, i, x, h, e, h1, h2 => by
    cases h
    exact ⟨a, vs, i, x, e, h1, rfl, h2, rfl⟩
  | j :: js, _, _, a, vs, i, x, h, e, h1, h2 => by
    obtain ⟨a', vs', i', x', e1, e2, e3, e4, e5⟩ := h
    exact ⟨a', vs', i', x', e1, e2, e3, e4, PathV.snoc e5 e h1 h2⟩
theorem PathV.keep {H H' : Hp} {P : As} : ∀ {js : List PyData} {v w : V}, PathV H v js w → (∀ a vs, H a = some (.lst vs) → P a → H' a = H a) → (∀ a, P a) → PathV H' v js w
  | [], _, _, h, _, _ => h
  | j :: js, _, _, h, k, p => by
    obtain ⟨a, vs, i, x, e1, e2, e3, e4, e5⟩ := h
    exact ⟨a, vs, i, x, e1, (k a vs e2 (p a)).trans e2, e3, e4, PathV.keep e5 k p⟩
theorem walkD_snoc : ∀ {js : List PyData} {d n r : PyData} {i : Int}, walkD js d = some n → ixD n (.int i) = some r → isCont n = true → walkD (js ++ [.int i]) d = some r
  | [], d, n, r, i, h, h1, hc => by
    cases h
    cases d with
    | list xs =>
      simp only [List.nil_append, walkD]
      have h1 : atI xs i = some r := h1
      unfold atI at h1
      cases q : ixN xs.length i with
      | none => rw [q] at h1; cases h1
      | some j =>
        rw [q] at h1
        have h1 : xs[j]? = some r := h1
        show (xs[j]?).bind _ = _
        rw [h1]; rfl
    | dict _ => cases h1
    | _ => cases hc
  | .int k :: js, .list xs, n, r, i, h, h1, hc => by
    simp only [List.cons_append, walkD] at h ⊢
    obtain ⟨j, e1, e2⟩ := Option.bind_eq_some_iff.mp h
    obtain ⟨d, e3, e4⟩ := Option.bind_eq_some_iff.mp e2
    rw [e1]
    show (xs[j]?).bind _ = _
    rw [e3]
    exact walkD_snoc e4 h1 hc
  | .int k :: js, .none, n, r, i, h, h1, hc => by cases h
  | .int k :: js, .bool _, n, r, i, h, h1, hc => by cases h
  | .int k :: js, .int _, n, r, i, h, h1, hc => by cases h
  | .int k :: js, .str _, n, r, i, h, h1, hc => by cases h
  | .int k :: js, .tuple _, n, r, i, h, h1, hc => by cases h
  | .int k :: js, .dict _, n, r, i, h, h1, hc => by cases h
  | .none :: js, _, n, r, i, h, h1, hc => by simp [walkD] at h
  | .bool _ :: js, _, n, r, i, h, h1, hc => by simp [walkD] at h
  | .str _ :: js, _, n, r, i, h, h1, hc => by simp [walkD] at h
  | .list _ :: js, _, n, r, i, h, h1, hc => by simp [walkD] at h
  | .tuple _ :: js, _, n, r, i, h, h1, hc => by simp [walkD] at h
  | .dict _ :: js, _, n, r, i, h, h1, hc => by simp [walkD] at h
/-- a prefix of a path can be walked, and one step more from there -/
theorem walkD_append : ∀ {js : List PyData} {j d r : PyData}, walkD (js ++ [j]) d = some r → ∃ n xs i m, walkD js d = some n ∧ n = .list xs ∧ j = .int i ∧ ixN xs.length i = some m ∧ xs[m]? = some r
  | [], j, d, r, h => by
    cases j <;> cases d <;> simp only [List.nil_append, walkD] at h <;> first | cases h | skip
    rename_i i xs
    obtain ⟨m, e1, e2⟩ := Option.bind_eq_some_iff.mp h
    obtain ⟨d, e3, e4⟩ := Option.bind_eq_some_iff.mp e2
    cases e4
    exact ⟨_, xs, i, m, rfl, rfl, rfl, e1, e3⟩
  | j0 :: js, j, d, r, h => by
    cases j0 <;> cases d <;> simp only [List.cons_append, walkD] at h ⊢ <;> first | cases h | skip
    rename_i i xs
    obtain ⟨m, e1, e2⟩ := Option.bind_eq_some_iff.mp h
    obtain ⟨d, e3, e4⟩ := Option.bind_eq_some_iff.mp e2
    obtain ⟨n, xs', i', m', a1, a2, a3, a4, a5⟩ := walkD_append e4
    refine ⟨n, xs', i', m', ?_, a2, a3, a4, a5⟩
    rw [e1]
    show (xs[m]?).bind _ = _
    rw [e3]
    exact a1
theorem alterD_walk {f : PyData → Option (PyData × PyData)} : ∀ {js : List PyData} {d : PyData} {r : PyData × PyData}, alterD f js d = some r → ∃ n z, walkD js d = some n ∧ f n = some z ∧ z.2 = r.2
  | [], d, r, h => ⟨d, r, rfl, h, rfl⟩
  | j :: js, d, r, h => by
    cases j <;> cases d <;> simp only [alterD, walkD] at h ⊢ <;> first | cases h | skip
    rename_i i xs
    obtain ⟨m, e1, e2⟩ := Option.bind_eq_some_iff.mp h
    obtain ⟨d, e3, e4⟩ := Option.bind_eq_some_iff.mp e2
    obtain ⟨r', e5, e6⟩ := Option.map_eq_some_iff.mp e4
    obtain ⟨n, z, a1, a2, a3⟩ := alterD_walk e5
    refine ⟨n, z, ?_, a2, by rw [a3, ← e6]⟩
    rw [e1]
    show (xs[m]?).bind _ = _
    rw [e3]
    exact a1
section
variable {K : PySem.W.Frag} {F H : Hp}
/-- down the path of owned data -/
theorem Rep.walk : ∀ {js : List PyData} {k : Nat} {v w : V} {d n : PyData} {fp : As}, Rep K F H (js.length + k) v d fp → walkD js d = some n → PathV H v js w → ∃ g, Rep K F H k w n g ∧ ∀ b, g b → fp b
  | [], k, v, w, d, n, fp, h, hw, hp => by
    cases hw
    cases hp
    rw [show ([] : List PyData).length + k = k by simp] at h
    exact ⟨fp, h, fun _ z => z⟩
  | j :: js, k, v, w, d, n, fp, h, hw, hp => by
    obtain ⟨a, vs, i, x, rfl, e2, rfl, e4, e5⟩ := hp
    rw [show (PyData.int i :: js).length + k = (js.length + k) + 1 by simp; omega] at h
    cases d <;> simp only [walkD] at hw <;> first | cases hw | skip
    rename_i xs
    obtain ⟨m, e1, e6⟩ := Option.bind_eq_some_iff.mp hw
    obtain ⟨d, e3, e7⟩ := Option.bind_eq_some_iff.mp e6
    rcases h with ⟨h1, h2, h3⟩ | ⟨a', vs', ds, g, ea, ed, h1, h2, h3, rfl⟩ | ⟨a', vs', ds, g, ea, ed, h1, h2, h3, rfl⟩ | ⟨a', vs', ds, g, ea, ed, h1, h2, h3, rfl⟩
    · cases h1
    · cases ea; cases ed
      rw [e2] at h1; cases h1
      obtain ⟨v1, f1, a1, a2, a3⟩ := h2.get e3
      have : x = v1 := by
        unfold atI at e4
        rw [h2.length, e1] at e4
        rw [show vs[m]? = some x from e4] at a1
        cases a1; rfl
      subst this
      obtain ⟨g', b1, b2⟩ := Rep.walk a2 e7 e5
      exact ⟨g', b1, fun b z => .inr (a3 b (b2 b z))⟩
    · cases ed
    · cases ed
/-- the path can be walked -/
theorem Rep.path : ∀ {js : List PyData} {k : Nat} {v : V} {d n : PyData} {fp : As}, Rep K F H (js.length + k) v d fp → walkD js d = some n → ∃ w, PathV H v js w
  | [], k, v, d, n, fp, h, hw => ⟨v, rfl⟩
  | j :: js, k, v, d, n, fp, h, hw => by
    rw [show (j :: js).length + k = (js.length + k) + 1 by simp; omega] at h
    cases j <;> cases d <;> simp only [walkD] at hw <;> first | cases hw | skip
    rename_i i xs
    obtain ⟨m, e1, e6⟩ := Option.bind_eq_some_iff.mp hw
    obtain ⟨d, e3, e7⟩ := Option.bind_eq_some_iff.mp e6
    rcases h with ⟨h1, h2, h3⟩ | ⟨a', vs', ds, g, ea, ed, h1, h2, h3, rfl⟩ | ⟨a', vs', ds, g, ea, ed, h1, h2, h3, rfl⟩ | ⟨a', vs', ds, g, ea, ed, h1, h2, h3, rfl⟩
    · cases h1
    · cases ed
      obtain ⟨v1, f1, a1, a2, a3⟩ := h2.get e3
      obtain ⟨w, hw'⟩ := Rep.path a2 e7
      refine ⟨w, a', vs', i, v1, ea, h1, rfl, ?_, hw'⟩
      unfold atI
      rw [h2.length, e1]
      exact a1
    · cases ed
    · cases ed
/-- altered at the path: the place's list is at a -/
theorem Rep.alter {f : PyData → Option (PyData × PyData)} : ∀ {js : List PyData} {m : Nat} {v : V} {a : Addr} {d : PyData} {r : PyData × PyData} {fp : As}, Rep K F H (js.length + (m + 1)) v d fp → alterD f js d = some r → PathV H v js (.ref a) → (∀ n z, f n = some z → ∃ xs ys, n = .list xs ∧ z.1 = .list ys) →
    ∃ vs xs ys g, H a = some (.lst vs) ∧ walkD js d = some (.list xs) ∧ f (.list xs) = some (.list ys, r.2) ∧ RepL (Rep K F H m) vs xs g ∧ fp a ∧ ¬ g a ∧ (∀ b, g b → fp b) ∧
      ∀ (F' H' : Hp) (ws : List V) (g' : As), Le F F' → H' a = some (.lst ws) → (∀ b, fp b → b ≠ a → ¬ g b → H' b = H b) → RepL (Rep K F' H' m) ws ys g' → ¬ g' a → (∀ b, g' b → fp b → g b) →
        ∃ fp', Rep K F' H' (js.length + (m + 1)) v r.1 fp' ∧ ∀ b, fp' b ↔ g' b ∨ (fp b ∧ ¬ g b)
  | [], m, v, a, d, r, fp, h, ha, hp, hf => by
    cases hp
    rw [show ([] : List PyData).length + (m + 1) = m + 1 by simp] at h ⊢
    have ha : f d = some r := ha
    obtain ⟨xs, ys, rfl, e2⟩ := hf d r ha
    rcases h with ⟨h1, h2, h3⟩ | ⟨a', vs', ds, g, ea, ed, h1, h2, h3, rfl⟩ | ⟨a', vs', ds, g, ea, ed, h1, h2, h3, rfl⟩ | ⟨a', vs', ds, g, ea, ed, h1, h2, h3, rfl⟩
    · cases h1
    · cases ea; cases ed
      refine ⟨vs', xs, ys, g, h1, rfl, by rw [ha, ← e2], h2, .inl rfl, h3, fun b z => .inr z, fun F' H' ws g' le k1 k2 R ng hg => ⟨or' (one' a) g', ?_, fun b => ?_⟩⟩
      · rw [e2]
        exact .inr (.inl ⟨a, ws, ys, g', rfl, rfl, k1, R, ng, rfl⟩)
      · constructor
        · rintro (z | z)
          · have z : b = a := z
            subst z
            exact .inr ⟨.inl rfl, h3⟩
          · exact .inl z
        · rintro (z | ⟨z | z, nz⟩)
          · exact .inr z
          · exact .inl z
          · exact absurd z nz
    · cases ed
    · cases ed
  | j :: js, m, v, a, d, r, fp, h, ha, hp, hf => by
    rw [show (j :: js).length + (m + 1) = (js.length + (m + 1)) + 1 by simp; omega] at h ⊢
    obtain ⟨a0, vs0, i, x, rfl, p2, rfl, p4, p5⟩ := hp
    cases d <;> simp only [alterD] at ha <;> first | cases ha | skip
    rename_i xs0
    obtain ⟨n, e1, e2⟩ := Option.bind_eq_some_iff.mp ha
    obtain ⟨d1, e3, e4⟩ := Option.bind_eq_some_iff.mp e2
    obtain ⟨r1, e5, e6⟩ := Option.map_eq_some_iff.mp e4
    rcases h with ⟨h1, h2, h3⟩ | ⟨a', vs', ds, g0, ea, ed, h1, h2, h3, rfl⟩ | ⟨a', vs', ds, g, ea, ed, h1, h2, h3, rfl⟩ | ⟨a', vs', ds, g, ea, ed, h1, h2, h3, rfl⟩
    · cases h1
    · cases ea; cases ed
      rw [p2] at h1; cases h1
      obtain ⟨v1, f1, hh, q1, q2, q3, q4, q5⟩ := h2.focus e3
      have : x = v1 := by
        unfold atI at p4
        rw [h2.length, e1] at p4
        rw [show vs0[n]? = some x from p4] at q1
        cases q1; rfl
      subst this
      obtain ⟨vs, xs, ys, g, w1, w2, w3, w4, w5, w6, w7, w8⟩ := Rep.alter q2 e5 p5 hf
      have na : a ≠ a0 := fun e => h3 (by rw [← e]; exact (q4 a).mpr (.inl w5))
      refine ⟨vs, xs, ys, g, w1, ?_, by rw [w3, ← e6], w4, .inr ((q4 a).mpr (.inl w5)), w6, fun b z => .inr ((q4 b).mpr (.inl (w7 b z))), fun F' H' ws g' le k1 k2 R ng hg => ?_⟩
      · simp only [walkD]
        rw [e1]
        show (xs0[n]?).bind _ = _
        rw [e3]; exact w2
      · obtain ⟨fp1, u1, u2⟩ := w8 F' H' ws g' le k1 (fun b hb nb ng => k2 b (.inr ((q4 b).mpr (.inl hb))) nb ng) R ng fun b hb hf1 => hg b hb (.inr ((q4 b).mpr (.inl hf1)))
        have hh_ne : ∀ b, hh b → b ≠ a ∧ ¬ g b := fun b hb => ⟨fun e => q3 a w5 (e ▸ hb), fun hgb => q3 b (w7 b hgb) hb⟩
        obtain ⟨g0', y1, y2⟩ := q5 (Rep K F' H' (js.length + (m + 1))) r1.1 fp1 (fun v d f s rr => rr.keep _ le fun b hb => k2 b (.inr ((q4 b).mpr (.inr (s b hb)))) (hh_ne b (s b hb)).1 (hh_ne b (s b hb)).2) u1 fun b hb hhb => by
          rcases (u2 b).mp hb with z | ⟨z, _⟩
          · exact (hh_ne b hhb).2 (hg b z (.inr ((q4 b).mpr (.inr hhb))))
          · exact q3 b z hhb
        have ng0 : ¬ g0' a0 := fun z => by
          rcases (y2 a0).mp z with z | z
          · rcases (u2 a0).mp z with z | ⟨z, _⟩
            · have := hg a0 z (.inl rfl)
              exact h3 ((q4 a0).mpr (.inl (w7 a0 this)))
            · exact h3 ((q4 a0).mpr (.inl z))
          · exact h3 ((q4 a0).mpr (.inr z))
        refine ⟨or' (one' a0) g0', ?_, fun b => ?_⟩
        · rw [← e6]
          refine .inr (.inl ⟨a0, vs0, _, g0', rfl, rfl, ?_, y1, ng0, rfl⟩)
          rw [k2 a0 (.inl rfl) (Ne.symm na) fun z => h3 ((q4 a0).mpr (.inl (w7 a0 z)))]
          exact p2
        · show b = a0 ∨ g0' b ↔ g' b ∨ (b = a0 ∨ g0 b) ∧ ¬ g b
          rw [y2 b, u2 b, q4 b]
          constructor
          · rintro (z | (z | ⟨z1, z2⟩) | z)
            · subst z
              exact .inr ⟨.inl rfl, fun z => h3 ((q4 b).mpr (.inl (w7 b z)))⟩
            · exact .inl z
            · exact .inr ⟨.inr (.inl z1), z2⟩
            · exact .inr ⟨.inr (.inr z), (hh_ne b z).2⟩
          · rintro (z | ⟨z | z | z, nz⟩)
            · exact .inr (.inl (.inl z))
            · exact .inl z
            · exact .inr (.inl (.inr ⟨z, nz⟩))
            · exact .inr (.inr z)
    · cases ed
    · cases ed
end
end Fx
set_option Elab.async false
set_option linter.all false
set_option maxRecDepth 100000
/-! M14: a slot put back, a slot altered; paths read. -/
namespace Fx
open PySem PySem.Spec PyProof.Rows L2
section
variable {K : PySem.W.Frag} {L : List (Nat × V)} {T : As} {env : EnvD} {σ : L2.St} {H H' : Hp} {fps : Nat → As}
/-- a slot's datum in its slot again -/
theorem SOk.put {f : As} {i k : Nat} {l : Bool} {v : V} {d : PyData} (I : SOk K L (or' f T) env σ H fps) (hv : σ[i]? = some (some v)) (R : Rep K (fr (or' f T) H fps) H k v d f) (dis : Dis f T) (hl : l = true → (i, v) ∈ L) :
    SOk K L T (env.set i (.sv l k d)) σ H (setF fps i f) ∧ Le (fr (or' f T) H fps) (fr T H (setF fps i f)) := by
  have hσ : i < σ.length := by
    rw [List.getElem?_eq_some_iff] at hv; exact hv.1
  have hi : i < env.length := by rw [I.len]; exact hσ
  obtain ⟨J, le⟩ := I.set hi R dis
  have es : σ.set i (some v) = σ := by
    apply List.ext_getElem?
    intro j
    by_cases e : j = i
    · subst e; rw [List.getElem?_set_self hσ, hv]
    · rw [List.getElem?_set_ne (Ne.symm e)]
  rw [es] at J
  refine ⟨⟨by simp [I.len], J.disT, J.dis, J.trk, fun j l' k' d' q => ?_, fun j q => ?_, I.lu⟩, le⟩
  · by_cases e : j = i
    · subst e
      rw [List.getElem?_set_self hi] at q
      cases q
      obtain ⟨w, h1, h2, h3⟩ := J.slot j false k d (List.getElem?_set_self hi)
      rw [hv] at h1
      cases h1
      exact ⟨v, hv, h2, hl⟩
    · rw [List.getElem?_set_ne (Ne.symm e)] at q
      exact J.slot j l' k' d' (by rw [List.getElem?_set_ne (Ne.symm e)]; exact q)
  · by_cases e : j = i
    · subst e
      exact absurd (List.getElem?_set_self hi) (q _ _ _)
    · refine J.out j fun l' k' d' z => ?_
      rw [List.getElem?_set_ne (Ne.symm e)] at z
      refine q l' k' d' ?_
      rw [List.getElem?_set_ne (Ne.symm e)]
      exact z
/-- the object at a of a slot's datum is altered; f' is left aside -/
theorem SOk.alter {g f' fp' : As} {i k : Nat} {l : Bool} {v : V} {d r : PyData} {a : Addr} {o : HO} (I : SOk K L (or' g T) env σ H fps) (h : env[i]? = some (.sv l k d)) (hv : σ[i]? = some (some v)) (ha : fps i a) (dg : Dis g T)
    (sub : ∀ b, fp' b ∨ f' b → fps i b ∨ g b) (dj : Dis fp' f')
    (R : Rep K (fr (or' g T) H fps) (upd H a o) k v r fp') :
    SOk K L (or' f' T) (env.set i (.sv l k r)) σ (upd H a o) (setF fps i fp') ∧ Le (fr (or' g T) H fps) (fr (or' f' T) (upd H a o) (setF fps i fp')) ∧ Dis f' T ∧ ∀ b, T b → upd H a o b = H b := by
  have hi : i < env.length := by
    rw [List.getElem?_eq_some_iff] at h; exact h.1
  have old : ∀ b, all' (or' f' T) (setF fps i fp') b → all' (or' g T) fps b := fun b z => by
    rcases z with (z | z) | ⟨j, z⟩
    · rcases sub b (.inr z) with z | z
      · exact .inr ⟨i, z⟩
      · exact .inl (.inl z)
    · exact .inl (.inr z)
    · by_cases e : j = i
      · subst e
        rw [setF_same] at z
        rcases sub b (.inl z) with z | z
        · exact .inr ⟨j, z⟩
        · exact .inl (.inl z)
      · rw [setF_ne e] at z; exact .inr ⟨j, z⟩
  have aT : ∀ b, or' g T b → b ≠ a := fun b z e => I.disT i a ha (e ▸ z)
  have le : Le (fr (or' g T) H fps) (fr (or' f' T) (upd H a o) (setF fps i fp')) := le_of_ext fun b u e => by
    obtain ⟨h1, h2⟩ := hid_some e
    have hb : b ≠ a := fun e => h1 (.inr ⟨i, e ▸ ha⟩)
    exact (hid_out fun z => h1 (old b z)).trans ((upd_ne hb).trans h2)
  have dT : Dis f' T := fun b x y => by
    rcases sub b (.inr x) with z | z
    · exact I.disT i b z (.inr y)
    · exact dg b z y
  obtain ⟨w, w1, w2, w3⟩ := I.slot i l k d h
  refine ⟨⟨by simp [I.len], fun j b x y => ?_, fun m j ne b x y => ?_, fun b z => ?_, fun j l' k' d' q => ?_, fun j q => ?_, I.lu⟩, le, dT, fun b z => upd_ne (aT b (.inr z))⟩
  · by_cases e : j = i
    · subst e
      rw [setF_same] at x
      rcases y with y | y
      · exact dj b x y
      · rcases sub b (.inl x) with z | z
        · exact I.disT j b z (.inr y)
        · exact dg b z y
    · rw [setF_ne e] at x
      rcases y with y | y
      · rcases sub b (.inr y) with z | z
        · exact I.dis j i e b x z
        · exact I.disT j b x (.inl z)
      · exact I.disT j b x (.inr y)
  · have one : ∀ j, j ≠ i → fp' b → ¬ fps j b := fun j ne x y => by
      rcases sub b (.inl x) with z | z
      · exact I.dis j i ne b y z
      · exact I.disT j b y (.inl z)
    by_cases e : m = i
    · subst e
      rw [setF_same] at x
      rw [setF_ne (Ne.symm ne)] at y
      exact one j (Ne.symm ne) x y
    · rw [setF_ne e] at x
      by_cases e' : j = i
      · subst e'
        rw [setF_same] at y
        exact one m e y x
      · rw [setF_ne e'] at y
        exact I.dis m j ne b x y
  · by_cases hb : b = a
    · subst hb; rw [upd_same]; exact Option.some_ne_none _
    · rw [upd_ne hb]; exact I.trk b (old b z)
  · by_cases e : j = i
    · subst e
      rw [List.getElem?_set_self hi] at q
      cases q
      refine ⟨v, hv, ?_, ?_⟩
      · rw [setF_same]
        exact R.keep k le fun _ _ => rfl
      · rw [hv] at w1
        cases w1
        exact w3
    · rw [List.getElem?_set_ne (Ne.symm e)] at q
      obtain ⟨u, h1, h2, h3⟩ := I.slot j l' k' d' q
      refine ⟨u, h1, ?_, h3⟩
      rw [setF_ne e]
      exact h2.keep k' le fun b z => upd_ne fun eb => I.dis j i e a (eb ▸ z) ha
  · by_cases e : j = i
    · subst e
      exact absurd (List.getElem?_set_self hi) (q _ _ _)
    · rw [setF_ne e]
      refine I.out j fun l' k' d' z => q l' k' d' ?_
      rw [List.getElem?_set_ne (Ne.symm e)]
      exact z
/-- the path stands where what is owned stands -/
theorem Rep.path_keep {F : Hp} : ∀ {js : List PyData} {k : Nat} {v w : V} {d n : PyData} {fp : As}, Rep K F H (js.length + k) v d fp → walkD js d = some n → PathV H v js w → (∀ b, fp b → H' b = H b) → PathV H' v js w
  | [], k, v, w, d, n, fp, h, hw, hp, kp => hp
  | j :: js, k, v, w, d, n, fp, h, hw, hp, kp => by
    obtain ⟨a, vs, i, x, rfl, e2, rfl, e4, e5⟩ := hp
    rw [show (PyData.int i :: js).length + k = (js.length + k) + 1 by simp; omega] at h
    cases d <;> simp only [walkD] at hw <;> first | cases hw | skip
    rename_i xs
    obtain ⟨m, e1, e6⟩ := Option.bind_eq_some_iff.mp hw
    obtain ⟨d, e3, e7⟩ := Option.bind_eq_some_iff.mp e6
    rcases h with ⟨h1, h2, h3⟩ | ⟨a', vs', ds, g, ea, ed, h1, h2, h3, rfl⟩ | ⟨a', vs', ds, g, ea, ed, h1, h2, h3, rfl⟩ | ⟨a', vs', ds, g, ea, ed, h1, h2, h3, rfl⟩
    · cases h1
    · cases ea; cases ed
      rw [e2] at h1; cases h1
      obtain ⟨v1, f1, a1, a2, a3⟩ := h2.get e3
      have : x = v1 := by
        unfold L2.atI at e4
        rw [h2.length, e1] at e4
        rw [show vs[m]? = some x from e4] at a1
        cases a1; rfl
      subst this
      exact ⟨a, vs, i, x, rfl, (kp a (.inl rfl)).trans e2, rfl, e4, Rep.path_keep a2 e7 e5 fun b z => kp b (.inr (a3 b z))⟩
    · cases ed
    · cases ed
end
/-- the text of a path: the last index stands outside -/
def chkPath (Γ : Gam) (i : Nat) : List P → Expr → Bool
  | [], .Name x _ => decide (Γ.N[i]? = some x) && isVis Γ x && okName x
  | p :: ps, .Subscript o e _ => chkPath Γ i ps o && chkP Γ p e && noSlice e
  | _, _ => false
def tPath (G : Gh) (i : Nat) (ps : List P) : TE := fun σ H Q => ∃ T env fps, SOk G.K G.L T env σ H fps ∧ ∃ js l k d n, pathR G.c env ps = some js ∧ env[i]? = some (.sv l k d) ∧ js.length ≤ k ∧ walkD js d = some n ∧ ∀ v w, σ[i]? = some (some v) → PathV H v js w → Q w H
section
variable {Γ : Gam} {G : Gh} {X : Cx}
theorem snd_path (ok : Ok Γ G X) {i : Nat} : ∀ {ps : List P} {e : Expr}, chkPath Γ i ps e = true → PE X e (tPath G i ps)
  | [], e, h => by
    cases e <;> first | (simp [chkPath] at h; done) | skip
    rename_i x pos
    refine (snd_P ok (.at i) (.Name x pos) h).weaken fun σ H Q ⟨T, env, fps, I, js, l, k, d, n, e1, e2, e3, e4, q⟩ => ?_
    cases e1
    exact ⟨T, env, fps, I, k, d, by simp only [evP, slot]; rw [e2], fun v fp hr hfp hx => q v v (hx i rfl) rfl⟩
  | p :: ps, e, h => by
    cases e <;> first | (simp [chkPath] at h; done) | skip
    rename_i o e pos
    simp only [chkPath, Bool.and_eq_true] at h
    obtain ⟨⟨h1, h2⟩, h3⟩ := h
    refine (pe_ix (ix_list (X := X)) (snd_path ok h1) (snd_P ok p e h2) (plainIx h3)).weaken fun σ H Q ⟨T, env, fps, I, js, l, k, d, n, e1, e2, e3, e4, q⟩ => ?_
    simp only [pathR] at e1
    obtain ⟨js0, a1, a2⟩ := Option.bind_eq_some_iff.mp e1
    obtain ⟨⟨j0, x⟩, b1, b2⟩ := Option.map_eq_some_iff.mp a2
    subst b2
    obtain ⟨m, xs, i0, m0, c1, c2, c3, c4, c5⟩ := walkD_append e4
    cases c3
    subst c2
    obtain ⟨v, v1, v2, v3⟩ := I.slot i l k d e2
    have hlen : js0.length + 1 ≤ k := by simpa using e3
    obtain ⟨k', rfl⟩ : ∃ k', k = js0.length + (k' + 1) := ⟨k - js0.length - 1, by omega⟩
    refine ⟨T, env, fps, I, js0, l, _, d, _, a1, e2, by omega, c1, fun v' w hv hp => ?_⟩
    rw [v1] at hv
    cases hv
    obtain ⟨g, r1, r2⟩ := Rep.walk v2 c1 hp
    rcases r1 with ⟨z1, z2, z3⟩ | ⟨a, vs, ds, g', ea, ed, z1, z2, z3, rfl⟩ | ⟨a, vs, ds, g', ea, ed, z1, z2, z3, rfl⟩ | ⟨a, vs, ds, g', ea, ed, z1, z2, z3, rfl⟩
    · cases z1
    · cases ed
      refine ⟨T, env, fps, I, j0, _, b1, fun y fp hr _ _ => ?_⟩
      obtain ⟨u, f, y1, y2, y3⟩ := z2.get c5
      have hy : y = .int i0 := (rep_noncont hr rfl).intV
      subst hy
      subst ea
      refine ⟨a, vs, i0, u, rfl, rfl, .inl (.inl z1), ?_, ?_⟩
      · unfold L2.atI
        rw [z2.length, c4]
        exact y1
      · refine q v u v1 (hp.snoc rfl z1 ?_)
        unfold L2.atI
        rw [z2.length, c4]
        exact y1
    · cases ed
    · cases ed
end
end Fx
set_option Elab.async false
set_option linter.all false
set_option maxRecDepth 100000
/-! M15: a list's own methods, stores. -/
namespace Fx
open PySem PySem.Spec PyProof.Rows L2
theorem RepL.append {R : RR} : ∀ {vs us : List V} {ds es : List PyData} {f g : As}, RepL R vs ds f → RepL R us es g → Dis f g → ∃ h, RepL R (vs ++ us) (ds ++ es) h ∧ ∀ b, h b ↔ f b ∨ g b
  | _, _, _, _, _, g, .nil, h, _ => ⟨g, h, fun b => ⟨.inr, fun z => z.elim (fun z => z.elim) id⟩⟩
  | _, _, _, _, _, g, .cons (f := f0) (g := g0) r t dj, h, dj' => by
    obtain ⟨h', t', e⟩ := RepL.append t h fun b x y => dj' b (.inr x) y
    refine ⟨or' f0 h', .cons r t' fun b x y => ?_, fun b => ?_⟩
    · rcases (e b).mp y with y | y
      · exact dj b x y
      · exact dj' b (.inl x) y
    · show f0 b ∨ h' b ↔ (f0 b ∨ g0 b) ∨ g b
      rw [e b, or_assoc]
theorem RepL.erase {R : RR} : ∀ {vs : List V} {ds : List PyData} {g : As}, RepL R vs ds g → ∀ {n : Nat} {d : PyData}, ds[n]? = some d →
    ∃ v f h, vs[n]? = some v ∧ R v d f ∧ RepL R (vs.eraseIdx n) (ds.eraseIdx n) h ∧ Dis f h ∧ ∀ b, g b ↔ f b ∨ h b
  | _, _, _, .nil, _, _, h => by simp at h
  | _, _, _, .cons (f := f) (g := g) r t dj, 0, _, e => by
    simp at e
    subst e
    exact ⟨_, f, g, rfl, r, t, dj, fun b => Iff.rfl⟩
  | _, _, _, .cons (f := f) (g := g) r t dj, n + 1, d, e => by
    obtain ⟨v, f1, h, e1, r1, t1, dj1, w⟩ := RepL.erase t (n := n) (by simpa using e)
    refine ⟨v, f1, or' f h, by simpa using e1, r1, .cons r t1 fun b x y => dj b x ((w b).mpr (.inr y)), fun b x y => ?_, fun b => ?_⟩
    · rcases y with y | y
      · exact dj b y ((w b).mpr (.inl x))
      · exact dj1 b x y
    · show f b ∨ g b ↔ f1 b ∨ f b ∨ h b
      rw [w b]
      constructor
      · rintro (x | x | x)
        · exact .inr (.inl x)
        · exact .inl x
        · exact .inr (.inr x)
      · rintro (x | x | x)
        · exact .inr (.inl x)
        · exact .inl x
        · exact .inr (.inr x)
theorem RepL.rev {R : RR} : ∀ {vs : List V} {ds : List PyData} {g : As}, RepL R vs ds g → ∃ h, RepL R vs.reverse ds.reverse h ∧ ∀ b, h b ↔ g b
  | _, _, _, .nil => ⟨none', .nil, fun b => Iff.rfl⟩
  | _, _, _, .cons (v := v) (d := d) (f := f) (g := g) r t dj => by
    obtain ⟨h, t', e⟩ := RepL.rev t
    have one : RepL R [v] [d] f := by
      have := RepL.cons r .nil (dis_none' f)
      rwa [or_none'] at this
    obtain ⟨h', t2, e2⟩ := RepL.append t' one fun b x y => dj b y ((e b).mp x)
    rw [List.reverse_cons, List.reverse_cons]
    refine ⟨h', t2, fun b => ?_⟩
    rw [e2 b, e b]
    exact or_comm
theorem dropLast_erase {α : Type} (xs : List α) : xs.dropLast = xs.eraseIdx (xs.length - 1) := by
  rcases List.eq_nil_or_concat xs with rfl | ⟨ys, y, rfl⟩
  · rfl
  · simp [List.eraseIdx_append_of_length_le]
def muId : Mu → String
  | .append => "list.append" | .pop => "list.pop" | .popAt => "list.pop" | .reverse => "list.reverse" | .extend => "list.extend"
def muN : Mu → Str
  | .append => "append" | .pop => "pop" | .popAt => "pop" | .reverse => "reverse" | .extend => "extend"
def rMu : Mu → V → List V → Hp → VK → Prop
  | .append => rAppend | .pop => rPop | .popAt => rPopAt | .reverse => rReverse | .extend => rExtend
theorem mt_mu {X : Cx} (m : Mu) : MtR X (muId m) (rMu m) := by
  cases m
  · exact mt_append
  · exact mt_pop
  · exact mt_popAt
  · exact mt_reverse
  · exact mt_extend
theorem mu_slot (m : Mu) : Slot "list" (muN m) (muId m) := by
  cases m
  · exact F.slot_list_append
  · exact F.slot_list_pop
  · exact F.slot_list_pop
  · exact F.slot_list_reverse
  · exact F.slot_list_extend
theorem mu_type (m : Mu) : typeOf (.builtin (muId m)) = pure (.type "method_descriptor") := by
  cases m
  · exact F.type_list_append
  · exact F.type_list_pop
  · exact F.type_list_pop
  · exact F.type_list_reverse
  · exact F.type_list_extend
/-- what a method does to the values -/
theorem mu_core {K : PySem.W.Frag} {F H : Hp} {ke k : Nat} {m : Mu} {vs us : List V} {xs as ys : List PyData} {z : PyData} {gx g : As} (hx : RepL (Rep K F H ke) vs xs gx) (ha : RepL (Rep K F H ke) us as g) (dj : Dis gx g) (h : muD m xs as = some (ys, z)) (hk : isCont z = false ∨ k = ke) :
    ∃ ws w g' f', RepL (Rep K F H ke) ws ys g' ∧ Rep K F H k w z f' ∧ Dis g' f' ∧ (∀ b, g' b ∨ f' b → gx b ∨ g b) ∧ ∀ a H2 (Q : VK), H2 a = some (.lst vs) → Q w (upd H2 a (.lst ws)) → rMu m (.ref a) us H2 Q := by
  have own : ∀ {w : V} {f : As}, Rep K F H ke w z f → ∃ f', Rep K F H k w z f' ∧ ∀ b, f' b → f b := fun {w f} r => by
    rcases hk with hk | rfl
    · exact ⟨none', Rep.plain (rep_noncont r hk) (.inl hk), fun _ z => z.elim⟩
    · exact ⟨f, r, fun _ z => z⟩
  cases m with
  | append =>
    match as, h, ha with
    | [y], h, ha =>
      simp only [muD] at h
      split at h
      · rename_i hl
        cases h
        obtain ⟨h', t, e⟩ := RepL.append hx ha dj
        match us, ha with
        | [u], ha =>
          refine ⟨_, .non, h', none', t, Rep.plain .non (.inl rfl), dis_none' _, fun b z => z.elim (fun z => (e b).mp z) fun z => z.elim, fun a H2 Q h1 q => ⟨a, vs, u, rfl, rfl, h1, ?_, q⟩⟩
          rw [hx.length]; exact hl
        | [], ha => cases ha
        | _ :: _ :: _, ha => cases ha with | cons _ t _ => cases t
      · cases h
  | pop =>
    match as, h, ha with
    | [], h, ha =>
      simp only [muD] at h
      obtain ⟨y, e1, e2⟩ := Option.map_eq_some_iff.mp h
      cases e2
      obtain ⟨v, f, h', w1, w2, w3, w4, w5⟩ := hx.erase e1
      obtain ⟨f', o1, o2⟩ := own w2
      cases ha
      refine ⟨vs.dropLast, v, h', f', ?_, o1, fun b x y => w4 b (o2 b y) x, fun b z => .inl ((w5 b).mpr (z.elim .inr fun z => .inl (o2 b z))), fun a H2 Q h1 q => ⟨a, vs, v, rfl, rfl, h1, ?_, q⟩⟩
      · rw [dropLast_erase, dropLast_erase, hx.length]; exact w3
      · rw [hx.length]; exact w1
  | popAt =>
    match as, h, ha with
    | [.int i], h, ha =>
      simp only [muD] at h
      split at h
      · rename_i hi
        obtain ⟨j, e1, e2⟩ := Option.bind_eq_some_iff.mp h
        obtain ⟨y, e3, e4⟩ := Option.map_eq_some_iff.mp e2
        cases e4
        obtain ⟨v, f, h', w1, w2, w3, w4, w5⟩ := hx.erase e3
        obtain ⟨f', o1, o2⟩ := own w2
        match us, ha with
        | [u], .cons r .nil _ =>
          have hu := (rep_noncont r rfl).intV
          subst hu
          refine ⟨_, v, h', f', w3, o1, fun b x y => w4 b (o2 b y) x, fun b z => .inl ((w5 b).mpr (z.elim .inr fun z => .inl (o2 b z))), fun a H2 Q h1 q => ⟨a, vs, i, j, v, rfl, rfl, h1, by omega, by omega, ?_, w1, q⟩⟩
          rw [hx.length]
          exact (ixN_seq e1).1
      · cases h
  | reverse =>
    match as, h, ha with
    | [], h, ha =>
      cases h
      obtain ⟨h', t, e⟩ := hx.rev
      cases ha
      exact ⟨_, .non, h', none', t, Rep.plain .non (.inl rfl), dis_none' _, fun b z => .inl (z.elim (fun z => (e b).mp z) fun z => z.elim), fun a H2 Q h1 q => ⟨a, vs, rfl, rfl, h1, q⟩⟩
  | extend => simp [muD] at h
section
variable {Γ : Gam} {G : Gh} {X : Cx}
theorem muF_lst {m : Mu} {as : List PyData} : ∀ n z, muF m as n = some z → ∃ xs ys, n = .list xs ∧ z.1 = .list ys := fun n z h => by
  cases n with
  | list xs =>
    obtain ⟨r, e1, e2⟩ := Option.map_eq_some_iff.mp (show (muD m xs as).map _ = some z from h)
    cases e2
    exact ⟨xs, r.1, rfl, rfl⟩
  | _ => cases h
/-- the method's call at the path's place -/
theorem mu_fin {m : Mu} {i ke k k0 : Nat} {l : Bool} {d : PyData} {js as : List PyData} {z : PyData × EnvD} {T g : As} {env1 : EnvD} {σ : L2.St} {H0 H : Hp} {fps0 fps : Nat → As} {us : List V} {v : V} {a : Addr} {Q : VK}
    (I : SOk G.K G.L (or' g T) env1 σ H fps) (st : Stp T H0 fps0 (or' g T) H fps) (dj : Dis g T) (hs : env1[i]? = some (.sv l k0 d)) (hv : σ[i]? = some (some v)) (hp : PathV H v js (.ref a))
    (hr : alterAt env1 i l k0 d (ke + 1) js (muF m as) = some z) (hus : RepL (Rep G.K (fr (or' g T) H fps) H ke) us as g) (hk : isCont z.1 = false ∨ k = ke) (q : ∀ w H', VOut G T H0 fps0 σ k z w H' → Q w H') : rMu m (.ref a) us H Q := by
  unfold alterAt at hr
  split at hr
  · rename_i e0
    subst e0
    obtain ⟨r, r1, r2⟩ := Option.map_eq_some_iff.mp hr
    cases r2
    obtain ⟨w, w1, w2, w3⟩ := I.slot i l _ d hs
    rw [hv] at w1
    cases w1
    obtain ⟨vs, xs, ys, gx, a1, a2, a3, a4, a5, a6, a7, a8⟩ := Rep.alter w2 r1 hp muF_lst
    have hm : muD m xs as = some (ys, r.2) := by
      obtain ⟨r', e1, e2⟩ := Option.map_eq_some_iff.mp (show (muD m xs as).map _ = some (PyData.list ys, r.2) from a3)
      rw [e1]
      have := e2
      simp only [Prod.mk.injEq, PyData.list.injEq] at this
      obtain ⟨t1, t2⟩ := this
      rw [← t1, ← t2]
    have gi : ∀ b, fps i b → ¬ g b := fun b x y => I.disT i b x (.inl y)
    obtain ⟨ws, u, g', f', c1, c2, c3, c4, c5⟩ := mu_core (k := k) a4 hus (fun b x y => gi b (a7 b x) y) hm hk
    have na : ∀ b, g' b ∨ f' b → b ≠ a := fun b z e => by
      subst e
      rcases c4 b z with z | z
      · exact a6 z
      · exact gi b a5 z
    refine c5 a H Q a1 (q _ _ ?_)
    obtain ⟨fp', b1, b2⟩ := a8 (fr (or' g T) H fps) (upd H a (.lst ws)) ws g' (Le.refl _) upd_same (fun b _ nb _ => upd_ne nb) (c1.imp fun v d f s rr => rr.keep _ (Le.refl _) fun b hb => upd_ne (na b (.inl (s b hb)))) (fun z => na a (.inl z) rfl) fun b x y => by
      rcases c4 b (.inl x) with z | z
      · exact z
      · exact absurd z (gi b y)
    obtain ⟨J, le, dT, kp⟩ := I.alter hs hv a5 dj (f' := f') (fp' := fp') (fun b z => by
      rcases z with z | z
      · rcases (b2 b).mp z with z | z
        · exact (c4 b (.inl z)).imp (a7 b) id
        · exact .inl z.1
      · exact (c4 b (.inr z)).imp (a7 b) id) (fun b x y => by
      rcases (b2 b).mp x with z | z
      · exact c3 b z y
      · rcases c4 b (.inr y) with u | u
        · exact z.2 u
        · exact gi b z.1 u) b1
    refine ⟨_, f', J, c2.keep _ le fun b hb => upd_ne (na b (.inr hb)), dT, ⟨fun b hb => (kp b hb).trans (st.aside b hb), st.le.trans le⟩⟩
  · cases hr
theorem list_ty {K : PySem.W.Frag} {F H : Hp} {k : Nat} {v : V} {xs : List PyData} {fp : As} (h : Rep K F H k v (.list xs) fp) (le : Le F H) : ∃ a vs, v = .ref a ∧ SqL K H a vs := by
  cases h.dat k le (fun _ _ => rfl) with
  | lst r t => exact ⟨_, _, rfl, r⟩
theorem ty_list {a : Addr} {vs : List V} {H : Hp} {K : PySem.W.Frag} (h : SqL K H a vs) : tyV K "list" (.ref a) H := .inl ⟨rfl, vs, h⟩
/-- the arguments of a method at a slot's path: the slot is hidden where the path goes down -/
theorem mu_run {m : Mu} {i ke k : Nat} {ps : List P} {es : Es} {σ : L2.St} {H : Hp} {Q : VK} (ok : Ok Γ G X) (hq : tV G k (ev G.c (.mu m i ps ke es) k) σ H Q) :
    tPath G i ps σ H fun w H1 => tyV X.K "list" w H1 ∧ tL G ke (evs G.c es ke) σ H1 fun us H2 => rMu m w us H2 Q := by
  obtain ⟨T, env, fps, I, hq⟩ := hq
  cases ps with
  | nil =>
    simp only [ev] at hq
    obtain ⟨hl, hq⟩ := hq.ite_bad
    unfold isListS slot at hl
    cases hs : env[i]? with
    | none => rw [hs] at hl; cases hl
    | some sv =>
      cases sv with
      | un => rw [hs] at hl; cases hl
      | sv l k0 d =>
        cases d <;> rw [hs] at hl <;> first | cases hl | skip
        rename_i xs
        obtain ⟨v, v1, v2, v3⟩ := I.slot i l k0 _ hs
        obtain ⟨a, vs, ev, hty⟩ := list_ty v2 hid_le
        subst ev
        refine ⟨T, env, fps, I, [], l, k0, _, _, rfl, hs, Nat.zero_le _, rfl, fun v' w hv hp => ?_⟩
        rw [v1] at hv
        cases hv
        cases hp
        refine ⟨by rw [ok.hK]; exact ty_list hty, T, env, fps, I, hq.bind.mono (fun r _ hr us H1 ho => ?_) fun _ _ z => z⟩
        obtain ⟨z, e, hr⟩ := hr.of_bind
        obtain ⟨hk, hr⟩ := hr.ite_bad
        obtain ⟨fps1, g, I1, R1, dj, st⟩ := ho
        unfold alterS at e
        simp only [pathR, Option.bind_some] at e
        split at e
        · rename_i l1 k1 d1 hs1
          exact mu_fin (js := []) I1 st dj hs1 v1 rfl e R1 hk hr
        · cases e
  | cons p ps =>
    simp only [ev] at hq
    split at hq
    · rename_i js l k0 d hjs hs
      obtain ⟨hpo, hq⟩ := hq.ite_bad
      have hq := hq.bind
      unfold pathOk at hpo
      simp only [Bool.and_eq_true, decide_eq_true_eq] at hpo
      obtain ⟨ek, hw⟩ := hpo
      subst ek
      split at hw
      · rename_i xs n1
        obtain ⟨v, v1, J, eT, v2⟩ := I.move hs
        refine ⟨T, env, fps, I, js, l, _, d, _, hjs, hs, by omega, n1, fun v' w hv hp => ?_⟩
        rw [v1] at hv
        cases hv
        obtain ⟨gw, r1, r2⟩ := Rep.walk v2 n1 hp
        obtain ⟨a, vs, ea, hty⟩ := list_ty r1 hid_le
        subst ea
        refine ⟨by rw [ok.hK]; exact ty_list hty, or' (fps i) T, env.set i .un, setF fps i none', J, hq.mono (fun r _ hr us H1 ho => ?_) fun x _ z => ?_⟩
        · obtain ⟨z, e, hr⟩ := hr.of_bind
          obtain ⟨hk, hr⟩ := hr.ite_bad
          obtain ⟨fps1, g, I1, R1, dj, st⟩ := ho
          have e3 : or' g (or' (fps i) T) = or' (fps i) (or' g T) := by rw [← or_assoc', or_comm' g, or_assoc']
          rw [e3] at I1 R1 st
          have dg : Dis (fps i) (or' g T) := fun b x y => y.elim (fun y => dj b y (.inl x)) fun y => I.disT i b x y
          have kp : ∀ b, fps i b → H1 b = H b := fun b hb => st.aside b (.inl hb)
          have leF : Le (fr T H fps) (fr (or' (fps i) (or' g T)) H1 fps1) := by
            rw [← eT]; exact st.le
          have R2 := v2.keep _ leF kp
          obtain ⟨I2, le2⟩ := I1.put v1 R2 dg fun hl => by
            obtain ⟨w', u1, u2, u3⟩ := I.slot i l _ d hs
            rw [v1] at u1
            cases u1
            exact u3 hl
          have hi : i < r.2.length := by
            have := I1.len
            have h2 : i < σ.length := by
              rw [List.getElem?_eq_some_iff] at v1; exact v1.1
            omega
          refine mu_fin (env1 := r.2.set i (.sv l _ d)) (js := js) I2 ⟨fun b hb => st.aside b (.inr hb), leF.trans le2⟩ (fun b x y => dj b x (Or.inr y)) (List.getElem?_set_self hi) v1 (Rep.path_keep v2 n1 hp kp) (m := m) (ke := ke) (k := k) (as := r.1) (z := z) ?_ (R1.imp fun v d f s rr => rr.keep _ le2 fun _ _ => rfl) hk hr
          unfold alterAt at e ⊢
          rw [if_pos rfl] at e ⊢
          obtain ⟨r', y1, y2⟩ := Option.map_eq_some_iff.mp e
          rw [y1, ← y2]
          show some (r'.2, (r.2.set i _).set i _) = _
          rw [List.set_set]
        · intro cls a' H' kp le xi
          exact z cls a' H' (fun b hb => kp b (.inr hb)) (by rw [← eT]; exact le.trans (hid_mono fun b hb => .inr hb)) xi
      · cases hw
    · exact hq.elim
end
end Fx
set_option Elab.async false
set_option linter.all false
set_option maxRecDepth 100000
/-! M16: methods' calls, stores. -/
namespace Fx
open PySem PySem.Spec PyProof.Rows L2
section
variable {Γ : Gam} {G : Gh} {X : Cx}
theorem path_base {Γ : Gam} {i : Nat} {ps : List P} {o : Expr} {nm : Str} {env : PySem.Env} (h : chkPath Γ i ps o = true) (whole : Sem Value) : attributeBase o nm env whole = whole := by
  cases o <;> first | rfl | (cases ps <;> simp [chkPath] at h)
theorem pos_eq {a b : Nat} (h : a = b) : (a == b) = true := by subst h; exact beq_self_eq_true a
theorem k_mu0 {m : Mu} {i : Nat} {ps : List P} {ke : Nat} {o : Expr} {nm : Str} {apos cpos : Pos} (ok : Ok Γ G X) (hp : chkPath Γ i ps o = true) (hn : nm = muN m) (hl : apos.endLine = cpos.line) : PEk G X G.c (.mu m i ps ke .nil) (.Call (.Attribute o nm apos) [] [] cpos) := by
  subst hn
  refine ne_p (fun k => ?_) rfl
  refine (pe_bm0 F.plainAttrs_list (mu_slot m) (mu_type m) (mt_mu m) (snd_path ok hp) (path_base hp _) (pos_eq hl)).weaken fun σ H Q hq => ?_
  have h := mu_run ok hq
  obtain ⟨T, env, fps, I, js, l, k0, d, n, e1, e2, e3, e4, q⟩ := h
  refine ⟨T, env, fps, I, js, l, k0, d, n, e1, e2, e3, e4, fun v w hv hpv => ?_⟩
  obtain ⟨q1, T', env', fps', I', q2⟩ := q v w hv hpv
  refine ⟨q1, ?_⟩
  simp only [evs] at q2
  exact (show ∀ us H2, LOut G T' H fps' σ ke ([], env') us H2 → rMu m w us H2 Q from q2) [] H ⟨fps', none', by rw [or_none]; exact I', .nil, dis_none _, by rw [or_none]; exact Stp.refl _ _ _⟩
theorem few_ok {x : Expr} {cpos : Pos} {env : PySem.Env} (h : noStar1 x = true) : ((backTo cpos (starEach [x] env)).all (fun x => !x.1) && (backToKw cpos (keywordEach [] env)).all (fun x => x.1.isSome)
      && decide ([x].length + ([] : List Keyword).length + (if ([] : List Keyword).isEmpty then 0 else 1) < 30)) = true := by
  rw [star_cons h]
  rfl
theorem k_mu1 {m : Mu} {i : Nat} {ps : List P} {ke : Nat} {e : E} {o x : Expr} {nm : Str} {apos cpos : Pos} (ok : Ok Γ G X) (hp : chkPath Γ i ps o = true) (hn : nm = muN m) (hl : apos.endLine = cpos.line) (hx : PEk G X G.c e x) (hs : noStar1 x = true) : PEk G X G.c (.mu m i ps ke (.cons e .nil)) (.Call (.Attribute o nm apos) [x] [] cpos) := by
  subst hn
  refine ne_p (fun k => ?_) rfl
  refine (pe_bm F.plainAttrs_list (mu_slot m) (mu_type m) (mt_mu m) (snd_path ok hp) (pa_vals (.cons hx hs .nil) ke) (path_base hp _) (few_ok hs) (pos_eq hl) (star_cons hs) rfl).weaken fun σ H Q hq => mu_run ok hq

/-! ### o[i] = e -/
def tSt (G : Gh) (T : As) (H : Hp) (fps : Nat → As) (σ : L2.St) (env : EnvD) (H' : Hp) : Prop := TOut G T H fps σ env H'
theorem put_core {K : PySem.W.Frag} {F H : Hp} {k : Nat} {vs : List V} {xs ys : List PyData} {x y z : PyData} {u : V} {gx g : As} (hx : RepL (Rep K F H k) vs xs gx) (hu : Rep K F H k u y g) (dj : Dis gx g) (h : putF' x y (.list xs) = some (.list ys, z)) :
    ∃ i j g', x = .int i ∧ ixN vs.length i = some j ∧ RepL (Rep K F H k) (vs.set j u) ys g' ∧ ∀ b, g' b → gx b ∨ g b := by
  unfold putF' at h
  simp only at h
  split at h
  · rename_i i
    obtain ⟨j, e1, e2⟩ := Option.bind_eq_some_iff.mp h
    obtain ⟨w, e3, e4⟩ := Option.map_eq_some_iff.mp e2
    simp only [Prod.mk.injEq, PyData.list.injEq] at e4
    obtain ⟨rfl, _⟩ := e4
    have go : ∀ {vs : List V} {xs : List PyData} {gx : As} {j : Nat}, RepL (Rep K F H k) vs xs gx → Dis gx g → (∃ w, xs[j]? = some w) → ∃ g', RepL (Rep K F H k) (vs.set j u) (xs.set j y) g' ∧ ∀ b, g' b → gx b ∨ g b := by
      intro vs xs gx j hx
      induction hx generalizing j with
      | nil => rintro _ ⟨w, h⟩; simp at h
      | @cons v vs d ds f g0 r t dj0 ih =>
        rintro dj ⟨w, h⟩
        cases j with
        | zero =>
          refine ⟨or' g g0, .cons hu t fun b p q => dj b (.inr q) p, fun b z => z.elim .inr fun z => .inl (.inr z)⟩
        | succ j =>
          obtain ⟨g', t', e⟩ := ih (fun b p q => dj b (.inr p) q) ⟨w, by simpa using h⟩
          refine ⟨or' f g', .cons r t' fun b p q => ?_, fun b z => ?_⟩
          · rcases e b q with q | q
            · exact dj0 b p q
            · exact dj b (.inl p) q
          · rcases z with z | z
            · exact .inl (.inl z)
            · exact (e b z).imp .inr id
    obtain ⟨g', t, e⟩ := go hx dj ⟨w, e3⟩
    exact ⟨i, j, g', rfl, by rw [hx.length]; exact e1, t, e⟩
  · cases h
theorem putF_lst {x y : PyData} : ∀ n z, putF' x y n = some z → ∃ xs ys, n = .list xs ∧ z.1 = .list ys := fun n z h => by
  cases n with
  | list xs =>
    simp only [putF'] at h
    split at h
    · obtain ⟨j, e1, e2⟩ := Option.bind_eq_some_iff.mp h
      obtain ⟨w, e3, e4⟩ := Option.map_eq_some_iff.mp e2
      exact ⟨xs, _, rfl, by rw [← e4]⟩
    · cases h
  | _ => cases h
theorem put_fin {i k k0 : Nat} {l : Bool} {d x y : PyData} {js : List PyData} {z : PyData × EnvD} {T g : As} {env1 : EnvD} {σ : L2.St} {H0 H : Hp} {fps0 fps : Nat → As} {u v : V} {a : Addr} {Q : Hp → Prop}
    (I : SOk G.K G.L (or' g T) env1 σ H fps) (st : Stp T H0 fps0 (or' g T) H fps) (dj : Dis g T) (hs : env1[i]? = some (.sv l k0 d)) (hv : σ[i]? = some (some v)) (hp : PathV H v js (.ref a))
    (hr : alterAt env1 i l k0 d (k + 1) js (putF' x y) = some z) (hu : Rep G.K (fr (or' g T) H fps) H k u y g) (q : ∀ H', TOut G T H0 fps0 σ z.2 H' → Q H') : ∃ n, x = .int n ∧ rSetL (.ref a) (.int n) u H Q := by
  unfold alterAt at hr
  split at hr
  · rename_i e0
    subst e0
    obtain ⟨r, r1, r2⟩ := Option.map_eq_some_iff.mp hr
    cases r2
    obtain ⟨w, w1, w2, w3⟩ := I.slot i l _ d hs
    rw [hv] at w1
    cases w1
    obtain ⟨vs, xs, ys, gx, a1, a2, a3, a4, a5, a6, a7, a8⟩ := Rep.alter w2 r1 hp putF_lst

    have hm : putF' x y (.list xs) = some (.list ys, r.2) := a3
    have gi : ∀ b, fps i b → ¬ g b := fun b x y => I.disT i b x (.inl y)
    obtain ⟨ni, nj, g', b1, b2, b3, b4⟩ := put_core a4 hu (fun b x y => gi b (a7 b x) y) hm
    have na : ∀ b, g' b → b ≠ a := fun b z e => by
      subst e
      rcases b4 b z with z | z
      · exact a6 z
      · exact gi b a5 z
    refine ⟨ni, b1, a, vs, ni, nj, rfl, rfl, a1, b2, q _ ?_⟩
    obtain ⟨fp', c1, c2⟩ := a8 (fr (or' g T) H fps) (upd H a (.lst (vs.set nj u))) _ g' (Le.refl _) upd_same (fun b _ nb _ => upd_ne nb) (b3.imp fun v d f s rr => rr.keep _ (Le.refl _) fun b hb => upd_ne (na b (s b hb))) (fun z => na a z rfl) fun b x y => by
      rcases b4 b x with z | z
      · exact z
      · exact absurd z (gi b y)
    obtain ⟨J, le, dT, kp⟩ := I.alter hs hv a5 dj (f' := none') (fp' := fp') (fun b z => by
      rcases z with z | z
      · rcases (c2 b).mp z with z | z
        · exact (b4 b z).imp (a7 b) id
        · exact .inl z.1
      · exact z.elim) (fun b x y => y.elim) c1
    rw [or_none] at J le
    exact ⟨_, J, ⟨fun b hb => (kp b hb).trans (st.aside b hb), st.le.trans le⟩⟩
  · cases hr
end
end Fx
set_option Elab.async false
set_option linter.all false
set_option maxRecDepth 100000
/-! M17: targets, what is walked, statements, loops. -/
namespace Fx
open PySem PySem.Spec PyProof.Rows L2
/-! ### targets -/
/-- what may be stored -/
def isSto (Γ : Gam) (x : Str) : Bool := match Γ.sc.names.lookup x with
  | some .local => true
  | some .cell => Γ.st
  | _ => false
mutual
def chkTg (Γ : Gam) : Tg → Expr → Bool
  | .nm i, .Name x _ => decide (Γ.N[i]? = some x) && isSto Γ x
  | .tp ts, .Tuple es _ _ => chkTgs Γ ts es
  | _, _ => false
def chkTgs (Γ : Gam) : Tgs → List Expr → Bool
  | .nil, [] => true
  | .cons t ts, e :: es => chkTg Γ t e && chkTgs Γ ts es
  | _, _ => false
end
mutual
def Tg.slots : Tg → List Nat
  | .nm i => [i]
  | .tp ts => ts.slots
def Tgs.slots : Tgs → List Nat
  | .nil => []
  | .cons t ts => t.slots ++ ts.slots
end
/-- elsewhere the slots' values stand -/
def Same (is : List Nat) (σ σ' : L2.St) : Prop := σ'.length = σ.length ∧ ∀ j, j ∉ is → σ'[j]? = σ[j]?
theorem Same.refl (is : List Nat) (σ : L2.St) : Same is σ σ := ⟨rfl, fun _ _ => rfl⟩
theorem Same.trans {is js : List Nat} {a b c : L2.St} (h : Same is a b) (k : Same js b c) : Same (is ++ js) a c := ⟨k.1.trans h.1, fun j n => by
  simp only [List.mem_append, not_or] at n
  exact (k.2 j n.2).trans (h.2 j n.1)⟩
def tG (G : Gh) (tg : Tg) : TG := fun v σ H Q => ∃ T env fps d env', SOk G.K G.L T env σ H fps ∧ Dat G.K (fr T H fps) v d ∧ bindT tg d env = some env' ∧ ∀ σ' fps', SOk G.K G.L T env' σ' H fps' → Le (fr T H fps) (fr T H fps') → Same tg.slots σ σ' → Q σ' H
def tGs (G : Gh) (ts : Tgs) : TGs := fun vs σ H Q => ∃ T env fps ds env', SOk G.K G.L T env σ H fps ∧ DatL G.K (fr T H fps) vs ds ∧ bindTs ts ds env = some env' ∧ ∀ σ' fps', SOk G.K G.L T env' σ' H fps' → Le (fr T H fps) (fr T H fps') → Same ts.slots σ σ' → Q σ' H
section
variable {Γ : Gam} {G : Gh} {X : Cx}
theorem _root_.L2.PG.weaken {X : Cx} {e : Expr} {t t' : TG} (h : PG X e t) (w : ∀ v σ H Q, t' v σ H Q → t v σ H Q) : PG X e t' := ⟨fun pins s σ H v u Q I r q => h.run pins s σ H v u Q I r (w v σ H Q q)⟩
theorem _root_.L2.PGs.weaken {X : Cx} {e : List Expr} {t t' : TGs} (h : PGs X e t) (w : ∀ v σ H Q, t' v σ H Q → t v σ H Q) : PGs X e t' := ⟨fun pins s σ H v u Q I r q => h.run pins s σ H v u Q I r (w v σ H Q q)⟩
theorem setS_ok {env env' : EnvD} {i k : Nat} {d : PyData} (h : setS env i k d = some env') : i < env.length ∧ env' = env.set i (.sv false k d) := by
  unfold setS at h
  split at h
  · cases h
  · rename_i x hx hn
    cases h
    exact ⟨by rw [List.getElem?_eq_some_iff] at hn; exact hn.1, rfl⟩
  · cases h
theorem sto_ok (ok : Ok Γ G X) {x : Str} (h : isSto Γ x = true) : Loc X.env.scope x ∧ (X.fn x = true ∨ X.env.scope.names.lookup x = some .local) := by
  unfold isSto at h
  rw [ok.sc]
  split at h
  · rename_i e
    exact ⟨.inl e, .inr e⟩
  · rename_i e
    exact ⟨.inr e, .inl (ok.cel x h)⟩
  · cases h
theorem asg_cons {e : Expr} {es : List Expr} {env : PySem.Env} (h : noStar1 e = true) : assignEach (e :: es) env = (false, assign e env) :: assignEach es env := by
  cases e <;> first | rfl | cases h
theorem asg_len {es : List Expr} {env : PySem.Env} (h : noStar es = true) : (assignEach es env).length = es.length ∧ (assignEach es env).findIdx? (·.1) = none := by
  induction es with
  | nil => exact ⟨rfl, rfl⟩
  | cons e es ih =>
    have h : noStar1 e = true ∧ noStar es = true := by simpa [noStar] using h
    obtain ⟨h1, h2⟩ := ih h.2
    rw [asg_cons h.1]
    refine ⟨by simp [h1], ?_⟩
    rw [List.findIdx?_cons, h2]
    rfl
theorem Same.set {i : Nat} {σ : L2.St} {v : Option V} : Same [i] σ (σ.set i v) := ⟨by simp, fun j n => by
  rw [List.getElem?_set_ne]
  intro e
  exact n (by simp [e])⟩
theorem chkTg_star {t : Tg} {e : Expr} (h : chkTg Γ t e = true) : noStar1 e = true := by
  cases e <;> first | rfl | (cases t <;> simp [chkTg] at h)
mutual
theorem snd_G (ok : Ok Γ G X) : ∀ (t : Tg) (e : Expr), chkTg Γ t e = true → PG X e (tG G t)
  | .nm i, e, h => by
    cases e <;> first | (simp [chkTg] at h; done) | skip
    rename_i x pos
    simp only [chkTg, Bool.and_eq_true, decide_eq_true_eq] at h
    obtain ⟨h1, h2⟩ := sto_ok ok h.2
    refine (pg_name (i := i) (by rw [ok.hN]; exact ok.nd) (by rw [ok.hN]; exact h.1) h1 h2).weaken fun v σ H Q ⟨T, env, fps, d, env', I, hd, hb, q⟩ => ?_
    simp only [bindT] at hb
    obtain ⟨hi, rfl⟩ := setS_ok hb
    have e0 : or' none' T = T := or_none T
    obtain ⟨J, le⟩ := SOk.set (f := none') (v := v) (k := 0) (d := d) (by rw [e0]; exact I) hi (by rw [e0]; exact ⟨rfl, hd⟩) (dis_none _)
    rw [e0] at le
    exact q _ _ J le Same.set
  | .tp ts, e, h => by
    cases e <;> first | (simp [chkTg] at h; done) | skip
    rename_i es k pos
    have h : chkTgs Γ ts es = true := by simpa [chkTg] using h
    obtain ⟨p1, p2⟩ := snd_Gs ok ts es h
    obtain ⟨a1, a2⟩ := asg_len (env := X.env) p2
    have both : PG X (.Tuple es k pos) (fun v σ H Q => gTup X.K es.length (tGs G ts) v σ H Q ∨ gUnl X.K es.length (tGs G ts) v σ H Q) := ⟨fun pins s σ H v u Q I r q => q.elim (fun q => (pg_tup ok.calm p1 a1 a2).run pins s σ H v u Q I r q) fun q => (pg_unl ok.calm p1 a1 a2).run pins s σ H v u Q I r q⟩
    refine both.weaken fun v σ H Q ⟨T, env, fps, d, env', I, hd, hb, q⟩ => ?_
    have fin : ∀ {ds : List PyData} {xs : List V}, bindTs ts ds env = some env' → DatL G.K (fr T H fps) xs ds → xs.length = es.length ∧ tGs G ts xs σ H Q := fun {ds xs} hb t => by
      refine ⟨?_, T, env, fps, ds, env', I, t, hb, q⟩
      have hl : ∀ {ts : Tgs} {es : List Expr} {ds : List PyData} {env env' : EnvD}, chkTgs Γ ts es = true → bindTs ts ds env = some env' → ds.length = es.length := by
        intro ts es
        induction es generalizing ts with
        | nil =>
          intro ds env env' h1 h2
          cases ts with
          | nil => cases ds with
            | nil => rfl
            | cons _ _ => simp [bindTs] at h2
          | cons _ _ => simp [chkTgs] at h1
        | cons e es ih =>
          intro ds env env' h1 h2
          cases ts with
          | nil => simp [chkTgs] at h1
          | cons t ts =>
            cases ds with
            | nil => simp [bindTs] at h2
            | cons d ds =>
              simp only [bindTs] at h2
              obtain ⟨e1, h3, h4⟩ := Option.bind_eq_some_iff.mp h2
              simp only [chkTgs, Bool.and_eq_true] at h1
              simp [ih h1.2 h4]
      rw [t.length]
      exact hl h hb
    cases d <;> simp only [bindT] at hb <;> first | cases hb | skip
    · cases hd with
      | lst hs t =>
        obtain ⟨f1, f2⟩ := fin hb t
        exact .inr ⟨_, _, rfl, by rw [ok.hK]; exact hid_le.sqL hs, f1, f2⟩
    · cases hd with
      | tup hs t =>
        obtain ⟨f1, f2⟩ := fin hb t
        exact .inl ⟨_, _, rfl, by rw [ok.hK]; exact hid_le.sqT hs, f1, f2⟩
theorem snd_Gs (ok : Ok Γ G X) : ∀ (ts : Tgs) (es : List Expr), chkTgs Γ ts es = true → PGs X es (tGs G ts) ∧ noStar es = true
  | .nil, [], _ => ⟨pgs_nil.weaken fun vs σ H Q ⟨T, env, fps, ds, env', I, hd, hb, q⟩ => by
      cases ds with
      | nil =>
        cases hd
        cases hb
        exact ⟨rfl, q σ fps I (Le.refl _) (Same.refl _ _)⟩
      | cons _ _ => simp [bindTs] at hb, rfl⟩
  | .nil, _ :: _, h => by simp [chkTgs] at h
  | .cons _ _, [], h => by simp [chkTgs] at h
  | .cons t ts, e :: es, h => by
    have h : chkTg Γ t e = true ∧ chkTgs Γ ts es = true := by simpa [chkTgs] using h
    have hs := chkTg_star h.1
    obtain ⟨p1, p2⟩ := snd_Gs ok ts es h.2
    refine ⟨(pgs_cons (snd_G ok t e h.1) p1 (by rw [asg_cons hs]; rfl)).weaken fun vs σ H Q ⟨T, env, fps, ds, env', I, hd, hb, q⟩ => ?_, by
      simp only [noStar, List.all_cons, Bool.and_eq_true]; exact ⟨hs, p2⟩⟩
    cases ds with
    | nil => simp [bindTs] at hb
    | cons d ds =>
      cases hd with
      | cons h1 h2 =>
        simp only [bindTs] at hb
        obtain ⟨e1, b1, b2⟩ := Option.bind_eq_some_iff.mp hb
        refine ⟨_, _, rfl, T, env, fps, d, e1, I, h1, b1, fun σ1 fps1 I1 le1 s1 => ⟨T, e1, fps1, ds, env', I1, h2.mono le1, b2, fun σ2 fps2 I2 le2 s2 => q σ2 fps2 I2 (le1.trans le2) (s1.trans s2)⟩⟩
end
/-! ### what is walked -/
def ItOk (K : PySem.W.Frag) (F : Hp) (J : L2.It) (ds : List PyData) : Prop := ∃ vs, DatL K F vs ds ∧ ∀ H, Le F H → (∀ i, vs.length ≤ i → J.stop i H) ∧ (∀ i, i < vs.length → J.go i H ∧ ∀ x H', J.yld i H x H' → H' = H ∧ vs[i]? = some x)
def tI (G : Gh) (f : EnvD → Rs (List PyData × EnvD)) : TI := fun σ H R => ∃ T env fps, SOk G.K G.L T env σ H fps ∧ Out (f env) (fun r => ∀ J H1 fps1, SOk G.K G.L T r.2 σ H1 fps1 → Stp T H fps T H1 fps1 → ItOk G.K (fr T H1 fps1) J r.1 → R J H1) (XW G T H fps)
theorem itl_ok {K : PySem.W.Frag} {F : Hp} {a : Addr} {vs : List V} {ds : List PyData} (h : SqL K F a vs) (t : DatL K F vs ds) : ItOk K F (Itl K a) ds := by
  refine ⟨vs, t, fun H le => ⟨fun i hi => ⟨vs, le.sqL h, hi⟩, fun i hi => ⟨⟨vs, vs[i], le.sqL h, by simp [hi]⟩, fun x H' y => ⟨y.1, y.2 vs (le.sqL h)⟩⟩⟩⟩
theorem itt_ok {K : PySem.W.Frag} {F : Hp} {a : Addr} {vs : List V} {ds : List PyData} (h : SqT K F a vs) (t : DatL K F vs ds) : ItOk K F (Itt K a) ds := by
  refine ⟨vs, t, fun H le => ⟨fun i hi => ⟨vs, le.sqT h, hi⟩, fun i hi => ⟨⟨vs, vs[i], le.sqT h, by simp [hi]⟩, fun x H' y => ⟨y.1, y.2 vs (le.sqT h)⟩⟩⟩⟩
theorem itr_ok {K : PySem.W.Frag} {F : Hp} (lo : Int) (n : Nat) : ItOk K F (Itr lo n) ((List.range n).map fun (i : Nat) => PyData.int (lo + (i : Int))) := by
  refine ⟨(List.range n).map fun (i : Nat) => V.int (lo + (i : Int)), ?_, fun H le => ⟨fun i hi => by show n ≤ i; simpa using hi, fun i hi => ?_⟩⟩
  · have : ∀ is : List Nat, DatL K F (is.map fun (i : Nat) => V.int (lo + (i : Int))) (is.map fun (i : Nat) => PyData.int (lo + (i : Int))) := fun is => by
      induction is with
      | nil => exact .nil
      | cons i is ih => exact .cons (.int _) ih
    exact this _
  · have hi : i < n := by simpa using hi
    refine ⟨hi, fun x H' y => ⟨y.1, ?_⟩⟩
    rw [y.2]
    simp [hi]
theorem i_e {tg ax : Expr} {e : E} (ok : Ok Γ G X) (h : PEk G X G.c e ax) : PI X tg ax (tI G (evI G.c (.e e))) := by
  refine ⟨fun pins s σ H R J ⟨T, env, fps, I, hq⟩ => ?_⟩
  simp only [evI] at hq
  have main : ∀ {r : PyData × EnvD}, Out ((Rs.of (itemsD r.1)).bind fun xs => .ok (xs, r.2)) (fun r => ∀ J H1 fps1, SOk G.K G.L T r.2 σ H1 fps1 → Stp T H fps T H1 fps1 → ItOk G.K (fr T H1 fps1) J r.1 → R J H1) (XW G T H fps) →
      ∃ xs, (r.1 = .list xs ∨ r.1 = .tuple xs) ∧ ∀ J H1 fps1, SOk G.K G.L T r.2 σ H1 fps1 → Stp T H fps T H1 fps1 → ItOk G.K (fr T H1 fps1) J xs → R J H1 := fun {r} hr => by
    obtain ⟨xs, e1, hr⟩ := hr.of_bind
    obtain ⟨d, env1⟩ := r
    cases d <;> simp only [itemsD] at e1 <;> first | cases e1 | skip
    · exact ⟨_, .inl rfl, hr⟩
    · exact ⟨_, .inr rfl, hr⟩
  have hq := hq.bind
  by_cases hl : ∃ xs env1, ev G.c e 0 env = .ok (.list xs, env1)
  · obtain ⟨xs, env1, he⟩ := hl
    refine (pi_list (h.v 0)).run pins s σ H R J ⟨T, env, fps, I, ?_⟩
    rw [he] at hq ⊢
    obtain ⟨ys, e1, hr⟩ := main (r := (.list xs, env1)) hq
    have e1 : ys = xs := by
      rcases e1 with e1 | e1
      · cases e1; rfl
      · cases e1
    subst e1
    intro v H1 ho
    obtain ⟨fps1, I1, d1, st1⟩ := ho.zero
    cases d1 with
    | lst hd t => exact ⟨_, rfl, ⟨_, by rw [ok.hK]; exact hid_le.sqL hd⟩, by rw [ok.hK]; exact hr _ _ fps1 I1 st1 (itl_ok hd t)⟩
  · refine (pi_tup (h.v 0)).run pins s σ H R J ⟨T, env, fps, I, hq.mono (fun r hev hr v H1 ho => ?_) fun _ _ z => z⟩
    obtain ⟨d, env1⟩ := r
    obtain ⟨ys, e1, hr⟩ := main (r := (d, env1)) hr
    have e1 : d = .list ys ∨ d = .tuple ys := e1
    rcases e1 with e1 | e1
    · subst e1
      exact absurd ⟨_, _, hev⟩ hl
    · subst e1
      obtain ⟨fps1, I1, d1, st1⟩ := ho.zero
      cases d1 with
      | tup hd t => exact ⟨_, rfl, ⟨_, by rw [ok.hK]; exact hid_le.sqT hd⟩, by rw [ok.hK]; exact hr _ _ fps1 I1 st1 (itt_ok hd t)⟩
def Es.len : Es → Nat
  | .nil => 0
  | .cons _ es => es.len + 1
theorem evs_len {c : Orc} : ∀ {es : Es} {k : Nat} {env : EnvD} {r : List PyData × EnvD}, evs c es k env = .ok r → r.1.length = es.len
  | .nil, k, env, r, h => by
    simp only [evs] at h
    cases h; rfl
  | .cons e es, k, env, r, h => by
    simp only [evs] at h
    cases h1 : ev c e k env with
    | ok a =>
      rw [h1] at h
      have h : (evs c es k a.2).bind (fun z => .ok (a.1 :: z.1, z.2)) = .ok r := h
      cases h2 : evs c es k a.2 with
      | ok b =>
        rw [h2] at h
        cases h
        show b.1.length + 1 = _
        rw [evs_len h2]; rfl
      | ex x => rw [h2] at h; cases h
      | bad => rw [h2] at h; cases h
    | ex x => rw [h1] at h; cases h
    | bad => rw [h1] at h; cases h
theorem rangeD_1 {d : PyData} {xs : List PyData} (h : rangeD [d] = some xs) : ∃ j : Int, d = .int j ∧ -(2 ^ 62) ≤ j ∧ j < 2 ^ 62 ∧ xs = (List.range j.toNat).map fun (i : Nat) => PyData.int (i : Int) := by
  cases d <;> simp only [rangeD] at h <;> first | cases h | skip
  rename_i j
  split at h
  · rename_i hb
    cases h
    exact ⟨j, rfl, by omega, by omega, rfl⟩
  · cases h
theorem rangeD_2 {d e : PyData} {xs : List PyData} (h : rangeD [d, e] = some xs) : ∃ i j : Int, d = .int i ∧ e = .int j ∧ (-(2 ^ 62) ≤ i ∧ i < 2 ^ 62 ∧ -(2 ^ 62) ≤ j ∧ j < 2 ^ 62) ∧ xs = (List.range (j - i).toNat).map fun (n : Nat) => PyData.int (i + (n : Int)) := by
  cases d <;> cases e <;> simp only [rangeD] at h <;> first | cases h | skip
  rename_i i j
  split at h
  · rename_i hb
    cases h
    exact ⟨i, j, rfl, rfl, ⟨by omega, by omega, by omega, by omega⟩, rfl⟩
  · cases h
def nRange : Str := "range"
theorem i_rng1 {tg ax : Expr} {e : E} {p pos : Pos} (ok : Ok Γ G X) (h : PEk G X G.c e ax) (hs : noStar1 ax = true) (hg : isGl Γ nRange = true) : PI X tg (.Call (.Name nRange p) [ax] [] pos) (tI G (evI G.c (.range (.cons e .nil)))) := by
  obtain ⟨g1', g2'⟩ := ok.gl hg
  have pr := pi_range1 (tg := tg) (p := p) (pos := pos) (show Gl X "range" from g1') (ok.blt _ (by decide)) (pa_vals (G := G) (.cons h hs .nil) 0) (star_cons hs)
  refine ⟨fun pins s σ H R J ⟨T, env, fps, I, hq⟩ => pr.run pins s σ H R J ⟨T, env, fps, I, ?_⟩⟩
  simp only [evI] at hq
  refine hq.bind.mono (fun r hlen hr vs H1 ho => ?_) fun _ _ z => z
  have hlen := evs_len hlen
  obtain ⟨xs, e1, hr⟩ := hr.of_bind
  obtain ⟨fps1, g, I1, R1, dj, st⟩ := ho
  obtain ⟨h1, rfl⟩ := R1.dat0
  rw [or_none] at I1 h1 st
  obtain ⟨ds, env1⟩ := r
  cases h1 with
  | nil => cases hlen
  | cons d t =>
    cases t with
    | cons _ _ => simp [Es.len] at hlen
    | nil =>
      obtain ⟨j, ej, b1, b2, ex⟩ := rangeD_1 e1
      rw [ej] at d
      cases d.intV
      subst ex
      refine ⟨j, rfl, b1, b2, hr _ H1 fps1 I1 st ?_⟩
      have := itr_ok (K := G.K) (F := fr T H1 fps1) 0 j.toNat
      simpa using this
theorem i_rng2 {tg ax bx : Expr} {e e' : E} {p pos : Pos} (ok : Ok Γ G X) (h : PEk G X G.c e ax) (hs : noStar1 ax = true) (h' : PEk G X G.c e' bx) (hs' : noStar1 bx = true) (hg : isGl Γ nRange = true) : PI X tg (.Call (.Name nRange p) [ax, bx] [] pos) (tI G (evI G.c (.range (.cons e (.cons e' .nil))))) := by
  obtain ⟨g1', g2'⟩ := ok.gl hg
  have pr := pi_range2 (tg := tg) (p := p) (pos := pos) (show Gl X "range" from g1') (ok.blt _ (by decide)) (pa_vals (G := G) (.cons h hs (.cons h' hs' .nil)) 0) (by rw [star_cons hs, star_cons hs']; rfl) (star_cons hs')
  refine ⟨fun pins s σ H R J ⟨T, env, fps, I, hq⟩ => pr.run pins s σ H R J ⟨T, env, fps, I, ?_⟩⟩
  simp only [evI] at hq
  refine hq.bind.mono (fun r hlen hr vs H1 ho => ?_) fun _ _ z => z
  have hlen := evs_len hlen
  obtain ⟨xs, e1, hr⟩ := hr.of_bind
  obtain ⟨fps1, g, I1, R1, dj, st⟩ := ho
  obtain ⟨h1, rfl⟩ := R1.dat0
  rw [or_none] at I1 h1 st
  obtain ⟨ds, env1⟩ := r
  cases h1 with
  | nil => cases hlen
  | cons d t =>
    cases t with
    | nil => simp [Es.len] at hlen
    | cons d' t =>
      cases t with
      | cons _ _ => simp [Es.len] at hlen
      | nil =>
        obtain ⟨i, j, ei, ej, b1, ex⟩ := rangeD_2 e1
        rw [ei] at d
        rw [ej] at d'
        cases d.intV
        cases d'.intV
        subst ex
        exact ⟨i, j, rfl, b1, hr _ H1 fps1 I1 st (itr_ok _ _)⟩
end
end Fx
set_option Elab.async false
set_option linter.all false
set_option maxRecDepth 100000
/-! M18: statements. -/
namespace Fx
open PySem PySem.Spec PyProof.Rows L2
def NOut (G : Gh) (T : As) (H : Hp) (fps : Nat → As) (e : EnvD) (σ' : L2.St) (H' : Hp) : Prop := ∃ fps', SOk G.K G.L T e σ' H' fps' ∧ Stp T H fps T H' fps'
def ROut (G : Gh) (rk : Nat) (T : As) (H : Hp) (fps : Nat → As) (d : PyData) (e : EnvD) (v : V) (H' : Hp) : Prop := ∃ σ' fps' f, SOk G.K G.L (or' f T) e σ' H' fps' ∧ Rep G.K (fr (or' f T) H' fps') H' rk v d f ∧ Dis f T ∧ Stp T H fps (or' f T) H' fps'
def FlW (G : Gh) (rk : Nat) (T : As) (H : Hp) (fps : Nat → As) (D : Ends) : Fl → Prop
  | .nx e => ∀ σ' H', NOut G T H fps e σ' H' → D.nx σ' H'
  | .ct e => ∀ σ' H', NOut G T H fps e σ' H' → D.ct σ' H'
  | .bk e => ∀ σ' H', NOut G T H fps e σ' H' → D.bk σ' H'
  | .rt d e => ∀ v H', ROut G rk T H fps d e v H' → D.rt v H'
def tS (G : Gh) (rk : Nat) (f : EnvD → Rs Fl) : TS := fun D σ H => ∃ T env fps, SOk G.K G.L T env σ H fps ∧ Out (f env) (FlW G rk T H fps D) (XW G T H fps)
theorem NOut.more {G : Gh} {T : As} {H H1 H' : Hp} {fps fps1 : Nat → As} {e : EnvD} {σ' : L2.St} (h : NOut G T H1 fps1 e σ' H') (st : Stp T H fps T H1 fps1) : NOut G T H fps e σ' H' := by
  obtain ⟨f, I, s⟩ := h
  exact ⟨f, I, st.tr s⟩
theorem ROut.more {G : Gh} {rk : Nat} {T : As} {H H1 H' : Hp} {fps fps1 : Nat → As} {d : PyData} {e : EnvD} {v : V} (h : ROut G rk T H1 fps1 d e v H') (st : Stp T H fps T H1 fps1) : ROut G rk T H fps d e v H' := by
  obtain ⟨σ', f, g, I, R, dj, s⟩ := h
  exact ⟨σ', f, g, I, R, dj, st.tr s⟩
theorem FlW.more {G : Gh} {rk : Nat} {T : As} {H H1 : Hp} {fps fps1 : Nat → As} {D : Ends} : ∀ {f : Fl}, FlW G rk T H fps D f → Stp T H fps T H1 fps1 → FlW G rk T H1 fps1 D f
  | .nx _, h, st => fun σ' H' n => h σ' H' (n.more st)
  | .ct _, h, st => fun σ' H' n => h σ' H' (n.more st)
  | .bk _, h, st => fun σ' H' n => h σ' H' (n.more st)
  | .rt _ _, h, st => fun v H' n => h v H' (n.more st)
section
variable {Γ : Gam} {G : Gh} {X : Cx} {rk : Nat}
/-! ### suites -/
theorem ss_nil : PSs X [] (tS G rk (exs G.c rk .nil)) := pss_nil.weaken fun D σ H ⟨T, env, fps, I, h⟩ => by
  simp only [exs] at h
  exact (show ∀ σ' H', NOut G T H fps env σ' H' → D.nx σ' H' from h) σ H ⟨fps, I, Stp.refl _ _ _⟩
theorem ss_cons {s : S} {ss : Ss} {st : Stmt} {sts : List Stmt} (h1 : PS X st (tS G rk (exS G.c rk s))) (h2 : PSs X sts (tS G rk (exs G.c rk ss))) : PSs X (st :: sts) (tS G rk (exs G.c rk (.cons s ss))) := (pss_cons h1 h2).weaken fun D σ H ⟨T, env, fps, I, h⟩ => by
  simp only [exs] at h
  refine ⟨T, env, fps, I, h.bind.mono (fun f _ hf => ?_) fun _ _ z => z⟩
  cases f with
  | nx e =>
    intro σ' H' n
    obtain ⟨fps', I', st'⟩ := n
    exact ⟨T, e, fps', I', hf.mono (fun f _ w => w.more st') fun _ _ z => z.step0 st'⟩
  | _ => exact hf
/-! ### small ones -/
theorem s_pas {pos : Pos} : PS X (.Pass pos) (tS G rk (exS G.c rk .pas)) := ps_pass.weaken fun D σ H ⟨T, env, fps, I, h⟩ => by
  simp only [exS] at h
  exact (show ∀ σ' H', NOut G T H fps env σ' H' → D.nx σ' H' from h) σ H ⟨fps, I, Stp.refl _ _ _⟩
theorem s_doc {x : Str} {j : Nat} {pos pos' : Pos} : PS X (.Expr (.Constant (.str x) j pos) pos') (tS G rk (exS G.c rk .pas)) := ps_doc.weaken fun D σ H ⟨T, env, fps, I, h⟩ => by
  simp only [exS] at h
  exact (show ∀ σ' H', NOut G T H fps env σ' H' → D.nx σ' H' from h) σ H ⟨fps, I, Stp.refl _ _ _⟩
theorem s_brk {pos : Pos} : PS X (.Break pos) (tS G rk (exS G.c rk .brk)) := ps_break.weaken fun D σ H ⟨T, env, fps, I, h⟩ => by
  simp only [exS] at h
  exact (show ∀ σ' H', NOut G T H fps env σ' H' → D.bk σ' H' from h) σ H ⟨fps, I, Stp.refl _ _ _⟩
theorem s_cont {pos : Pos} : PS X (.Continue pos) (tS G rk (exS G.c rk .cont)) := ps_continue.weaken fun D σ H ⟨T, env, fps, I, h⟩ => by
  simp only [exS] at h
  exact (show ∀ σ' H', NOut G T H fps env σ' H' → D.ct σ' H' from h) σ H ⟨fps, I, Stp.refl _ _ _⟩
theorem s_nev {st : Stmt} : PS X st (tS G rk (exS G.c rk .nev)) := ps_never.weaken fun D σ H ⟨T, env, fps, I, h⟩ => by
  simp only [exS] at h
  exact h
theorem s_retN {pos : Pos} : PS X (.Return none pos) (tS G rk (exS G.c rk .retN)) := ps_retN.weaken fun D σ H ⟨T, env, fps, I, h⟩ => by
  simp only [exS] at h
  refine (show ∀ v H', ROut G rk T H fps .none env v H' → D.rt v H' from h) .non H ⟨σ, fps, none', by rw [or_none]; exact I, Rep.plain .non (.inl rfl), dis_none _, by rw [or_none]; exact Stp.refl _ _ _⟩
theorem s_ret {e : E} {ax : Expr} {pos : Pos} (h : PEk G X G.c e ax) : PS X (.Return (some ax) pos) (tS G rk (exS G.c rk (.ret e))) := (ps_ret (h.v rk)).weaken fun D σ H ⟨T, env, fps, I, hq⟩ => by
  simp only [exS] at hq
  refine ⟨T, env, fps, I, hq.bind.mono (fun r _ hr v H1 ho => ?_) fun _ _ z => z⟩
  obtain ⟨fps', f, J, R, dj, st⟩ := ho
  exact (show ∀ v H', ROut G rk T H fps r.1 r.2 v H' → D.rt v H' from hr) v H1 ⟨σ, fps', f, J, R, dj, st⟩
def noComp : Expr → Bool
  | .ListComp .. => false
  | .SetComp .. => false
  | .DictComp .. => false
  | _ => true
theorem sw_no {e : Expr} {t : Option Expr} {n : Nat} {env : PySem.Env} (h : noComp e = true) : swapsWith e t n env = pure false := by
  cases e <;> first | rfl | cases h
theorem VOut.drop {T : As} {H H' : Hp} {fps : Nat → As} {σ : L2.St} {k : Nat} {r : PyData × EnvD} {v : V} (h : VOut G T H fps σ k r v H') : NOut G T H fps r.2 σ H' := by
  obtain ⟨fps', f, I, R, dj, st⟩ := h
  obtain ⟨I', le⟩ := I.show
  exact ⟨fps', I', ⟨st.aside, st.le.trans le⟩⟩
theorem s_ex {e : E} {ax : Expr} {pos : Pos} (h : PEk G X G.c e ax) (hn : noComp ax = true) : PS X (.Expr ax pos) (tS G rk (exS G.c rk (.ex e))) := (ps_expr (h.v 0) (sw_no hn)).weaken fun D σ H ⟨T, env, fps, I, hq⟩ => by
  simp only [exS] at hq
  refine ⟨T, env, fps, I, hq.bind.mono (fun r _ hr v H1 ho => ?_) fun _ _ z => z⟩
  exact (show ∀ σ' H', NOut G T H fps r.2 σ' H' → D.nx σ' H' from hr) σ H1 ho.drop
theorem s_if {t : Tt} {a b : Ss} {tx : Expr} {as bs : List Stmt} {pos : Pos} (ht : PT X tx (tT G (evT G.c t))) (ha : PSs X as (tS G rk (exs G.c rk a))) (hb : PSs X bs (tS G rk (exs G.c rk b))) : PS X (.If tx as bs pos) (tS G rk (exS G.c rk (.iff t a b))) := (ps_if ht ha hb).weaken fun D σ H ⟨T, env, fps, I, hq⟩ => by
  simp only [exS] at hq
  refine ⟨T, env, fps, I, hq.bind.mono (fun r _ hr H1 ho => ?_) fun _ _ z => z⟩
  obtain ⟨fps1, I1, st1⟩ := ho
  obtain ⟨t, env1⟩ := r
  cases t with
  | true =>
    rw [if_pos rfl] at hr ⊢
    exact ⟨T, env1, fps1, I1, hr.mono (fun f _ w => w.more st1) fun _ _ z => z.step0 st1⟩
  | false =>
    rw [if_neg (by simp)] at hr ⊢
    exact ⟨T, env1, fps1, I1, hr.mono (fun f _ w => w.more st1) fun _ _ z => z.step0 st1⟩
/-! ### name = e -/
theorem nm_out {i k : Nat} {e : E} {D : Ends} {σ : L2.St} {H : Hp} (hq : tS G rk (exS G.c rk (.as (.nm i) k e)) D σ H) : tV G k (ev G.c e k) σ H fun v H1 => D.nx (σ.set i (some v)) H1 := by
  obtain ⟨T, env, fps, I, hq⟩ := hq
  simp only [exS] at hq
  refine ⟨T, env, fps, I, hq.bind.mono (fun r _ hr v H1 ho => ?_) fun _ _ z => z⟩
  obtain ⟨e', h1, h2⟩ := hr.of_bind
  obtain ⟨hi, rfl⟩ := setS_ok h1
  obtain ⟨fps', f, J, R, dj, st⟩ := ho
  obtain ⟨J', le⟩ := J.set hi R dj
  exact (show ∀ σ' H', NOut G T H fps _ σ' H' → D.nx σ' H' from h2) _ _ ⟨_, J', ⟨st.aside, st.le.trans le⟩⟩
theorem s_nm {i k : Nat} {e : E} {x : Str} {ax : Expr} {p pos : Pos} (ok : Ok Γ G X) (hi : Γ.N[i]? = some x) (hx : isSto Γ x = true) (h : PEk G X G.c e ax) (hn : noComp ax = true) : PS X (.Assign [.Name x p] ax pos) (tS G rk (exS G.c rk (.as (.nm i) k e))) := by
  obtain ⟨h1, h2⟩ := sto_ok ok hx
  exact (ps_set (i := i) (by rw [ok.hN]; exact ok.nd) (by rw [ok.hN]; exact hi) h1 (h.v k) (sw_no hn) h2).weaken fun D σ H hq => nm_out hq
/-- a, b, .. = e: not a display, or one of constants -/
def allFold (es : List Expr) : Bool := es.all (foldedForSure 8)
def tupOk (ts : List Expr) : Expr → Bool
  | .Tuple vs _ _ => !(ts.length == 2 || ts.length == 3) || allFold vs
  | _ => true
theorem sw_tup {ts : List Expr} {k : Nat} {p : Pos} {e : Expr} {env : PySem.Env} (h : tupOk ts e = true) : swappedStores [.Tuple ts k p] e env = pure none := by
  cases e <;> first | rfl | skip
  rename_i vs _ _
  unfold swappedStores
  simp only [pure_bind]
  by_cases c1 : (!(ts.length == 2 || ts.length == 3) || vs.length != ts.length || env.blockKind != .function) = true
  · rw [if_pos c1]
  · rw [if_neg c1]
    have h : (!(ts.length == 2 || ts.length == 3) || allFold vs) = true := h
    have h2 : vs.all (foldedForSure 8) = true := by
      rcases Bool.or_eq_true _ _ |>.mp h with z | z
      · rw [z] at c1; exact absurd rfl c1
      · exact z
    split
    · rfl
    · rename_i c
      split
      · rfl
      · first | rfl | (rw [if_pos h2])
theorem tup_out {ts : Tgs} {k : Nat} {e : E} {D : Ends} {σ : L2.St} {H : Hp} (hq : tS G rk (exS G.c rk (.as (.tp ts) k e)) D σ H) : tV G 0 (ev G.c e 0) σ H fun v H1 => tG G (.tp ts) v σ H1 D.nx := by
  obtain ⟨T, env, fps, I, hq⟩ := hq
  simp only [exS] at hq
  refine ⟨T, env, fps, I, hq.bind.mono (fun r _ hr v H1 ho => ?_) fun _ _ z => z⟩
  obtain ⟨e', h1, h2⟩ := hr.of_bind
  obtain ⟨fps', J, d, st⟩ := ho.zero
  exact ⟨T, r.2, fps', r.1, e', J, d, h1, fun σ' fps2 J2 le2 _ => (show ∀ σ' H', NOut G T H fps e' σ' H' → D.nx σ' H' from h2) σ' H1 ⟨fps2, J2, ⟨st.aside, st.le.trans le2⟩⟩⟩
theorem s_tp {ts : Tgs} {k : Nat} {e : E} {es : List Expr} {ax : Expr} {n : Nat} {p pos : Pos} (ok : Ok Γ G X) (ht : chkTgs Γ ts es = true) (h : PEk G X G.c e ax) (hw : tupOk es ax = true) : PS X (.Assign [.Tuple es n p] ax pos) (tS G rk (exS G.c rk (.as (.tp ts) k e))) := by
  have hg := snd_G ok (.tp ts) (.Tuple es n p) (by simpa [chkTg] using ht)
  refine (ps_asg (h.v 0) hg ?_ (sw_tup hw) rfl).weaken fun D σ H hq => tup_out hq
  cases ax <;> rfl
/-! ### a, b = x, y -/
def isLocal (Γ : Gam) (x : Str) : Bool := decide (Γ.sc.names.lookup x = some .local)
theorem kind_loc (ok : Ok Γ G X) {x : Str} (h : isLocal Γ x = true) : X.env.kindOf x = some .local ∧ X.env.scope.names.lookup x = some .local := by
  have : Γ.sc.names.lookup x = some .local := by simpa [isLocal] using h
  exact ⟨by show X.env.scope.names.lookup x = _; rw [ok.sc]; exact this, by rw [ok.sc]; exact this⟩
def isFun (Γ : Gam) : Bool := match Γ.sc.kind with
  | .function => true
  | _ => false
theorem blk_fun (ok : Ok Γ G X) (h : isFun Γ = true) : X.env.blockKind = .function ∧ X.env.scope.kind = .function := by
  have hk : X.env.scope.kind = .function := by
    rw [ok.sc]
    unfold isFun at h
    split at h
    · assumption
    · cases h
  exact ⟨by unfold Env.blockKind; rw [hk]; rfl, hk⟩
def parOk (Γ : Gam) (x y : Str) (px py : Pos) (vs : List Expr) : Bool := isFun Γ && isLocal Γ x && isLocal Γ y && (py.line == px.line) && !(x == y) && noStar vs && !(vs.all (foldedForSure 8)) && !(vs.all (constantsAlone 8))
theorem star_eq : ∀ {vs : List Expr}, noStar vs = true → (vs.any fun | .Starred .. => true | _ => false) = false
  | [], _ => rfl
  | v :: vs, h => by
    have h : noStar1 v = true ∧ noStar vs = true := by simpa [noStar] using h
    rw [List.any_cons, star_eq h.2, Bool.or_false]
    cases v <;> first | rfl | (have := h.1; cases this)
theorem sw_par (ok : Ok Γ G X) {x y : Str} {px py p q : Pos} {k k2 : Nat} {a b : Expr} (h : parOk Γ x y px py [a, b] = true) : swappedStores [.Tuple [.Name x px, .Name y py] k p] (.Tuple [a, b] k2 q) X.env = pure (some [x, y]) := by
  unfold parOk at h
  simp only [Bool.and_eq_true, Bool.not_eq_true'] at h
  obtain ⟨⟨⟨⟨⟨⟨⟨h1, h2⟩, h3⟩, h4⟩, h5⟩, h6⟩, h7⟩, h8⟩ := h
  obtain ⟨b1, _⟩ := blk_fun ok h1
  obtain ⟨k1, _⟩ := kind_loc ok h2
  obtain ⟨k3, _⟩ := kind_loc ok h3
  have hs := star_eq h6
  have hxy : (y == x) = false := by
    have : ¬ x = y := by simpa using h5
    simpa using fun e : y = x => this e.symm
  have h4' : py.line = px.line := by simpa using h4
  unfold swappedStores
  simp only [pure_bind]
  rw [b1]
  rw [if_neg (by simp), if_neg (by exact fun z => Bool.noConfusion (hs.symm.trans z))]
  simp only [List.filterMap_cons, List.filterMap_nil, k1, k3, Expr.pos, h4', List.head?_cons, Option.map_some, Option.getD_some, beq_self_eq_true, Bool.and_self, if_true]
  rw [if_neg (by simp [List.eraseDups_cons, hxy]), h7, h8]
  rfl
theorem s_par {i j ki kj : Nat} {a b : E} {x y : Str} {ax bx : Expr} {px py p q pos : Pos} {k k2 : Nat} (ok : Ok Γ G X) (hi : Γ.N[i]? = some x) (hj : Γ.N[j]? = some y) (hij : i ≠ j) (ha : PEk G X G.c a ax) (hb : PEk G X G.c b bx) (hw : parOk Γ x y px py [ax, bx] = true) :
    PS X (.Assign [.Tuple [.Name x px, .Name y py] k p] (.Tuple [ax, bx] k2 q) pos) (tS G rk (exS G.c rk (.par i j ki kj a b))) := by
  have hw' := hw
  unfold parOk at hw'
  simp only [Bool.and_eq_true, Bool.not_eq_true'] at hw'
  obtain ⟨⟨⟨⟨⟨⟨⟨h1, h2⟩, h3⟩, h4⟩, h5⟩, h6⟩, h7⟩, h8⟩ := hw'
  have hs : noStar1 ax = true ∧ noStar1 bx = true := by simpa [noStar] using h6
  refine (ps_par ok.calm (by rw [ok.hN]; exact ok.nd) (by rw [ok.hN]; exact hi) (by rw [ok.hN]; exact hj) hij (kind_loc ok h2).2 (kind_loc ok h3).2 (pa_cons (ha.v ki) (pa_cons (hb.v kj) pa_nil (star_cons hs.2)) (star_cons hs.1)) (sw_par ok hw) rfl).weaken fun D σ H ⟨T, env, fps, I, hq⟩ => ?_
  simp only [exS] at hq
  refine ⟨T, env, fps, I, hq.bind.mono (fun r _ hr v H1 ho => ?_) fun _ _ z => z⟩
  obtain ⟨fps1, f, I1, R1, dj1, st1⟩ := ho
  refine ⟨or' f T, r.2, fps1, I1, hr.bind.mono (fun z _ hz w H2 ho2 => ?_) fun _ _ z => z.step st1⟩
  obtain ⟨fps2, g, I2, R2, dj2, st2⟩ := ho2
  obtain ⟨e', h1, h2⟩ := hz.of_bind
  obtain ⟨e1, h3, h4⟩ := Option.bind_eq_some_iff.mp h1
  obtain ⟨hi', rfl⟩ := setS_ok h3
  obtain ⟨hj', rfl⟩ := setS_ok h4
  refine ⟨v, w, rfl, ?_⟩
  have e3 : or' g (or' f T) = or' f (or' g T) := by rw [← or_assoc', or_comm' g f, or_assoc']
  rw [e3] at I2 R2 st2
  obtain ⟨J1, le1⟩ := I2.set (k := ki) (v := v) (d := r.1) hi' (R1.keep _ st2.le fun b hb => st2.aside b (.inl hb)) fun b x y => y.elim (fun y => dj2 b y (.inl x)) fun y => dj1 b x y
  obtain ⟨J2, le2⟩ := J1.set (i := j) (k := kj) (v := w) (d := z.1) hj' (R2.keep _ le1 fun _ _ => rfl) fun b x y => dj2 b x (.inr y)
  exact (show ∀ σ' H', NOut G T H fps _ σ' H' → D.nx σ' H' from h2) _ _ ⟨_, J2, ⟨fun b hb => (st2.aside b (.inr hb)).trans (st1.aside b hb), st1.le.trans (st2.le.trans (le1.trans le2))⟩⟩
end
end Fx
set_option Elab.async false
set_option linter.all false
set_option maxRecDepth 100000
/-! M19: stores at places, loops. -/
namespace Fx
open PySem PySem.Spec PyProof.Rows L2
section
variable {Γ : Gam} {G : Gh} {X : Cx} {rk : Nat}
theorem sub_asg {o i : Expr} {pos : Pos} {env : PySem.Env} (h : noSlice i = true) (v : Value) : assign (.Subscript o i pos) env v = (do
      let ov ← holding [v] (eval o env)
      let iv ← holding [v, ov] (eval i env)
      standAt pos
      holding [v, ov, iv] (setItem ov iv v)
      release [v, ov, iv] []) := by
  cases i <;> first | rfl | cases h
theorem sub_aug {i : Expr} (h : noSlice i = true) (ov iv new : Value) : augStore i ov iv new = (do holding [new, ov, iv] (setItem ov iv new); release [new, ov, iv] []; pure .next) := by
  cases i <;> first | rfl | cases h
/-- o[x] = e, o a path of a slot -/
theorem s_put {i k : Nat} {ps : List P} {x : P} {e : E} {o xx ax : Expr} {p pos : Pos} (ok : Ok Γ G X) (hp : chkPath Γ i ps o = true) (hx : chkP Γ x xx = true) (hsl : noSlice xx = true) (h : PEk G X G.c e ax) : PS X (.Assign [.Subscript o xx p] ax pos) (tS G rk (exS G.c rk (.put i ps x k e))) := by
  refine (ps_asg (h.v k) (pg_sub (snd_path ok hp) (snd_P ok x xx hx) set_list (sub_asg hsl)) (by cases ax <;> rfl) (by cases ax <;> rfl) rfl).weaken fun D σ H ⟨T, env, fps, I, hq⟩ => ?_
  simp only [exS] at hq
  refine ⟨T, env, fps, I, hq.bind.mono (fun r _ hr v H1 ho => ?_) fun _ _ z => z⟩
  obtain ⟨z, h1, h2⟩ := hr.of_bind
  obtain ⟨⟨j0, y⟩, e1, e2⟩ := Option.bind_eq_some_iff.mp h1
  unfold alterS at e2
  obtain ⟨js, e3, e4⟩ := Option.bind_eq_some_iff.mp e2
  obtain ⟨fps1, g, I1, R1, dj, st⟩ := ho
  split at e4
  · rename_i l k0 d hs
    obtain ⟨v0, v1, v2, v3⟩ := I1.slot i l k0 d hs
    have e4' := e4
    unfold alterAt at e4'
    split at e4'
    · rename_i ek
      obtain ⟨r', r1, r2⟩ := Option.map_eq_some_iff.mp e4'
      obtain ⟨n, zz, n1, n2, n3⟩ := alterD_walk r1
      refine ⟨_, r.2, fps1, I1, js, l, k0, d, n, e3, hs, by omega, n1, fun v' w hv hpv => ?_⟩
      rw [v1] at hv
      cases hv
      refine ⟨_, r.2, fps1, I1, j0, y, e1, fun u fp hr' _ _ => ?_⟩
      obtain ⟨xs, ys, en, _⟩ := putF_lst n zz n2
      subst en
      subst ek
      obtain ⟨gw, q1, q2⟩ := Rep.walk v2 n1 hpv
      obtain ⟨a, vs, ea, _⟩ := list_ty q1 hid_le
      subst ea
      obtain ⟨m, em, q⟩ := put_fin I1 st dj hs v1 hpv e4 R1 (Q := fun H' => D.nx σ H') fun H' ho => (show ∀ σ' H', NOut G T H fps z.2 σ' H' → D.nx σ' H' from h2) σ H' ho
      have em : y = .int m := em
      subst em
      have : u = .int m := (rep_noncont hr' rfl).intV
      subst this
      exact q
    · cases e4'
  · cases e4
theorem ipD_nc {o : B2} {a b c : PyData} (h : ipD o a b = some c) : isCont a = false ∧ isCont b = false := by
  unfold ipD at h
  split at h
  · rename_i ho
    revert ho
    cases a <;> cases o <;> cases b <;> simp [ipOk, isCont]
  · cases h
theorem rIp_ok {K : PySem.W.Frag} {F H : Hp} {x : V} {d : PyData} (h : Dat K F x d) : Shl K F F x d := Shl.of (Le.refl _) h
/-- x op= y, of ints or texts -/
def rIp (K : PySem.W.Frag) (o : B2) : TIp := fun x y H Q => ∃ F d e r, Dat K F x d ∧ Dat K F y e ∧ ipD o d e = some r ∧ ∀ z, (∀ F', Dat K F' z r) → isCont r = false → Q z H
theorem ip_b2 (o : B2) : PIp X (bop o) (rIp X.K o) := by
  intro pins s σ H x y v u Q I rx ry h
  obtain ⟨F, d, e, r, hx, hy, hr, q⟩ := h
  unfold ipD at hr
  split at hr
  · rename_i ho
    cases o <;> cases d <;> cases e <;> simp only [ipOk] at ho <;> first | cases ho | skip
    · cases hx.intV
      cases hy.intV
      simp only [b2] at hr
      cases hr
      exact iop_add pins s σ H _ _ v u Q I rx ry ⟨_, _, rfl, rfl, q _ (fun _ => .int _) rfl⟩
    · cases hx.strV
      cases hy.strV
      simp only [b2] at hr
      split at hr
      · rename_i hl
        cases hr
        exact iop_add_str pins s σ H _ _ v u Q I rx ry ⟨_, _, rfl, rfl, hl, q _ (fun _ => .str _) rfl⟩
      · cases hr
    · cases hx.intV
      cases hy.intV
      simp only [b2] at hr
      cases hr
      exact iop_sub pins s σ H _ _ v u Q I rx ry ⟨_, _, rfl, rfl, q _ (fun _ => .int _) rfl⟩
    · cases hx.intV
      cases hy.intV
      simp only [b2] at hr
      split at hr
      · rename_i hb
        cases hr
        obtain ⟨t, rfl⟩ := rx
        obtain ⟨t', rfl⟩ := ry
        exact imul_int ⟨.int _, H, I.tok _, ⟨_, rfl⟩, q _ (fun _ => .int _) rfl⟩ (mulOk hb)
      · cases hr
    · rename_i i j
      cases hx.intV
      cases hy.intV
      simp only [b2] at hr
      have hpos := of_decide_eq_true ho
      split at hr
      · rename_i hb
        cases hr
        refine iop_fdivW pins s σ H _ _ v u Q I rx ry ⟨i, j, rfl, rfl, ⟨hpos, hb.2⟩, ?_⟩
        show Q (.int (i / j)) H
        rw [← Int.fdiv_eq_ediv_of_nonneg (b := j) i (by omega)]
        exact q _ (fun _ => .int _) rfl
      · cases hr
    · rename_i i j
      cases hx.intV
      cases hy.intV
      simp only [b2] at hr
      have hpos := of_decide_eq_true ho
      split at hr
      · rename_i hb
        cases hr
        refine iop_mod pins s σ H _ _ v u Q I rx ry ⟨i, j, rfl, rfl, hpos, ?_⟩
        show Q (.int (i % j)) H
        rw [← Int.fmod_eq_emod_of_nonneg (b := j) i (by omega)]
        exact q _ (fun _ => .int _) rfl
      · cases hr
  · cases hr
theorem get_lst : PGet X (rIxL X.K) := by
  intro pins s σ H o i ov iv Q I ro ri h
  obtain ⟨p, xs, k, z, rfl, rfl, hq, he, q⟩ := h
  cases ro
  obtain ⟨t, rfl⟩ := ri
  obtain ⟨its, r, pl, hz⟩ := I.list hq
  obtain ⟨j, a1, a2, a3, a4, a5⟩ := atI_get he
  obtain ⟨w, ew, rw'⟩ := r.get a2
  have len := r.length
  have l63 := line63
  by_cases pos0 : 0 ≤ k
  · have ej : k.toNat = j := by
      rw [seqIndex_of pos0 a5] at a1
      exact Option.some.inj a1
    exact PySem.wpAny_getItem_list pl.isList pos0 (by omega) (by rw [ej]; simpa using ew) ⟨z, H, I, rw', q⟩
  · have ej : (k + (its.toArray.size : Int)).toNat = j := by
      rw [seqIndex_neg (by omega) a4] at a1
      rw [List.size_toArray, ← len]
      exact Option.some.inj a1
    exact wpAny_getItem_list_neg pl.isList (by omega) (by rw [List.size_toArray]; omega) (by omega) (by rw [ej]; simpa using ew) ⟨z, H, I, rw', q⟩
/-- o[x] op= e -/
theorem s_augp {i : Nat} {ps : List P} {x e : P} {o : B2} {ox xx ex : Expr} {p pos : Pos} (ok : Ok Γ G X) (hp : chkPath Γ i ps ox = true) (hx : chkP Γ x xx = true) (hsl : noSlice xx = true) (he : chkP Γ e ex = true) : PS X (.AugAssign (.Subscript ox xx p) (bop o) ex pos) (tS G rk (exS G.c rk (.augp i ps x o e))) := by
  refine (ps_augS (snd_path ok hp) (snd_P ok x xx hx) get_lst (snd_P ok e ex he) (ip_b2 o) set_list (sub_aug hsl)).weaken fun D σ H ⟨T, env, fps, I, hq⟩ => ?_
  simp only [exS] at hq
  obtain ⟨z, h1, h2⟩ := hq.of_bind
  obtain ⟨⟨j0, j⟩, e1, e2⟩ := Option.bind_eq_some_iff.mp h1
  obtain ⟨⟨y0, y⟩, e3, e4⟩ := Option.bind_eq_some_iff.mp e2
  unfold augS at e4
  obtain ⟨js, e5, e6⟩ := Option.bind_eq_some_iff.mp e4
  split at e6
  · rename_i l k0 d hs
    obtain ⟨n, n1, e7⟩ := Option.bind_eq_some_iff.mp e6
    obtain ⟨a0, n2, e8⟩ := Option.bind_eq_some_iff.mp e7
    obtain ⟨w0, n3, e9⟩ := Option.bind_eq_some_iff.mp e8
    obtain ⟨v0, v1, v2, v3⟩ := I.slot i l k0 d hs
    have e9' := e9
    unfold alterAt at e9'
    split at e9'
    · rename_i ek
      subst ek
      obtain ⟨r', r1, r2⟩ := Option.map_eq_some_iff.mp e9'
      obtain ⟨n', zz, m1, m2, m3⟩ := alterD_walk r1
      rw [n1] at m1
      cases m1
      obtain ⟨xs, ys, en, _⟩ := putF_lst _ _ m2
      subst en
      refine ⟨T, env, fps, I, js, l, _, d, _, e5, hs, by omega, n1, fun v' w hv hpv => ?_⟩
      rw [v1] at hv
      cases hv
      refine ⟨T, env, fps, I, j0, j, e1, fun u fp hu _ _ => ?_⟩
      obtain ⟨gw, q1, q2⟩ := Rep.walk v2 n1 hpv
      cases j <;> first | (simp [putF'] at m2; done) | skip
      rename_i jj
      have : u = .int jj := (rep_noncont hu rfl).intV
      subst this
      rcases q1 with ⟨z1, z2, z3⟩ | ⟨a, vs, ds, g', ea, ed, z1, z2, z3, rfl⟩ | ⟨a, vs, ds, g', ea, ed, z1, z2, z3, rfl⟩ | ⟨a, vs, ds, g', ea, ed, z1, z2, z3, rfl⟩
      · cases z1
      · cases ed
        subst ea
        obtain ⟨w1, f, b1, b2, b3⟩ := z2.atI (show L2.atI xs jj = some a0 from n2)
        refine ⟨a, vs, jj, w1, rfl, rfl, .inl (.inl z1), b1, T, env, fps, I, y0, y, e3, fun yy fp' hy _ _ => ?_⟩
        have hnc := ipD_nc n3
        refine ⟨fr T H fps, a0, y, w0, by rw [ok.hK]; exact b2.2, by rw [ok.hK]; exact rep_noncont hy hnc.2, n3, fun zv hz hnz => ?_⟩
        have e0 : or' none' T = T := or_none T
        obtain ⟨m, em, q⟩ := put_fin (g := none') (k := 0) (u := zv) (H0 := H) (fps0 := fps) (by rw [e0]; exact I) (by rw [e0]; exact Stp.refl _ _ _) (dis_none _) hs v1 hpv e9 (by rw [e0]; exact ⟨rfl, by rw [← ok.hK]; exact hz _⟩) (Q := fun H' => D.nx σ H') fun H' ho => (show ∀ σ' H', NOut G T H fps z.2 σ' H' → D.nx σ' H' from h2) σ H' ho
        cases em
        exact q
      · cases ed
      · cases ed
    · cases e9'
  · cases e6
/-- x op= e -/
theorem s_aug {i : Nat} {o : B2} {e : E} {x : Str} {ax : Expr} {p pos : Pos} (ok : Ok Γ G X) (hi : Γ.N[i]? = some x) (hx : isSto Γ x = true) (h : PEk G X G.c e ax) : PS X (.AugAssign (.Name x p) (bop o) ax pos) (tS G rk (exS G.c rk (.aug i o e))) := by
  obtain ⟨h1, h2⟩ := sto_ok ok hx
  refine (ps_aug (i := i) (by rw [ok.hN]; exact ok.nd) (by rw [ok.hN]; exact hi) h1 (h.v 0) (ip_b2 o) h2).weaken fun D σ H ⟨T, env, fps, I, hq⟩ => ?_
  simp only [exS] at hq
  obtain ⟨hs, hq⟩ := hq.ite_bad
  obtain ⟨⟨k0, d0⟩, e0⟩ := Option.isSome_iff_exists.mp hs
  unfold slot at e0
  split at e0
  · rename_i l k d hs0
    cases e0
    obtain ⟨v, v1, v2, v3⟩ := I.slot i l _ _ hs0
    refine ⟨v, v1, T, env, fps, I, hq.bind.mono (fun r _ hr y H1 ho => ?_) fun _ _ z => z⟩
    obtain ⟨env', e1, h3⟩ := hr.of_bind
    obtain ⟨⟨k1, d1⟩, e2, e3⟩ := Option.bind_eq_some_iff.mp e1
    obtain ⟨z, e4, e5⟩ := Option.bind_eq_some_iff.mp e3
    obtain ⟨hi', rfl⟩ := setS_ok e5
    obtain ⟨fps1, I1, dy, st⟩ := ho.zero
    unfold slot at e2
    split at e2
    · rename_i l' k' d' hs1
      cases e2
      obtain ⟨v', w1, w2, w3⟩ := I1.slot i l' _ _ hs1
      rw [v1] at w1
      cases w1
      have hnc := (ipD_nc e4).1
      refine ⟨fr T H1 fps1, d1, r.1, z, by rw [ok.hK]; exact rep_noncont w2 hnc, by rw [ok.hK]; exact dy, e4, fun zv hz hnz => ?_⟩
      have e0 : or' none' T = T := or_none T
      obtain ⟨J, le⟩ := SOk.set (f := none') (v := zv) (k := 0) (d := z) (by rw [e0]; exact I1) hi' (by rw [e0]; exact ⟨rfl, by rw [← ok.hK]; exact hz _⟩) (dis_none _)
      rw [e0] at le
      exact (show ∀ σ' H', NOut G T H fps _ σ' H' → D.nx σ' H' from h3) _ _ ⟨_, J, ⟨st.aside, st.le.trans le⟩⟩
    · cases e2
  · cases e0
/-! ### for, while -/
def okIter : Expr → Bool
  | .Set .. => false
  | _ => true
theorem iter_ok {e : Expr} {env : PySem.Env} (h : okIter e = true) (x : Value) : foldedSetIterable e env x = pure x := by
  cases e <;> first | rfl | cases h
theorem drop_get {α : Type} {xs : List α} {i : Nat} {x : α} (h : xs[i]? = some x) : xs.drop i = x :: xs.drop (i + 1) := by
  have hi : i < xs.length := by
    rw [List.getElem?_eq_some_iff] at h; exact h.1
  rw [List.drop_eq_getElem_cons hi]
  congr 1
  rw [List.getElem?_eq_getElem hi] at h
  exact Option.some.inj h
theorem s_for {tg : Tg} {it : It} {b : Ss} {tx ix : Expr} {bs : List Stmt} {pos : Pos} (ok : Ok Γ G X) (ht : chkTg Γ tg tx = true) (hi : PI X tx ix (tI G (evI G.c it))) (hb : PSs X bs (tS G rk (exs G.c rk b))) (hs : okIter ix = true) : PS X (.For tx ix bs [] pos) (tS G rk (exS G.c rk (.for tg it b))) := by
  refine (ps_for ok.own ok.calm hi (snd_G ok tg tx ht) hb (iter_ok hs)).weaken fun D σ H ⟨T, env, fps, I, hq⟩ => ?_
  simp only [exS] at hq
  refine ⟨T, env, fps, I, hq.bind.mono (fun r _ hr J H1 fps1 I1 st1 hJ => ?_) fun _ _ z => z⟩
  obtain ⟨vs, hd, hJ⟩ := hJ
  have hlen := hd.length
  let W : Nat → Nat → L2.St → Hp → Prop := fun i m σ' H' => m = vs.length - i ∧ i ≤ vs.length ∧ ∃ env' fps', SOk G.K G.L T env' σ' H' fps' ∧ Stp T H1 fps1 T H' fps' ∧ Out (forL (bindT tg) (exs G.c rk b) (r.1.drop i) env') (FlW G rk T H fps D) (XW G T H fps)
  refine ⟨W, ⟨_, rfl, Nat.zero_le _, r.2, fps1, I1, Stp.refl _ _ _, hr⟩, ?_⟩
  rintro i m σ' H' ⟨rfl, hi, env', fps', I', st', hr'⟩
  have le' : Le (fr T H1 fps1) H' := st'.le.trans hid_le
  by_cases hlt : i < vs.length
  · obtain ⟨j1, j2⟩ := (hJ H' le').2 i hlt
    refine .inr ⟨j1, fun σ2 H2 => W (i + 1) (vs.length - (i + 1)) σ2 H2, fun σ2 H2 w => ⟨_, by omega, w⟩, fun x H2 y => ?_⟩
    obtain ⟨rfl, hx⟩ := j2 x H2 y
    obtain ⟨d, hdi⟩ : ∃ d, r.1[i]? = some d := by
      have : i < r.1.length := by omega
      exact ⟨_, List.getElem?_eq_getElem this⟩
    obtain ⟨x', hx', hdx⟩ := hd.get hdi
    rw [hx] at hx'
    cases hx'
    rw [drop_get hdi] at hr'
    simp only [forL] at hr'
    obtain ⟨e, he, hr2⟩ := hr'.of_bind
    refine ⟨T, env', fps', d, e, I', hdx.mono st'.le, he, fun σ2 fps2 I2 le2 _ => ⟨T, e, fps2, I2, hr2.bind.mono (fun f _ hf => ?_) fun _ _ z => z.step0 ((st1.tr st').tr ⟨fun _ _ => rfl, le2⟩)⟩⟩
    have st2 : Stp T H1 fps1 T H2 fps2 := st'.tr ⟨fun _ _ => rfl, le2⟩
    cases f with
    | nx e' => exact fun σ3 H3 ⟨fps3, I3, st3⟩ => ⟨rfl, hlt, e', fps3, I3, st2.tr st3, hf⟩
    | ct e' => exact fun σ3 H3 ⟨fps3, I3, st3⟩ => ⟨rfl, hlt, e', fps3, I3, st2.tr st3, hf⟩
    | bk e' => exact fun σ3 H3 n => (show ∀ σ' H', NOut G T H fps e' σ' H' → D.nx σ' H' from hf) σ3 H3 (n.more (st1.tr st2))
    | rt d' e' => exact fun v H3 n => (show ∀ v H', ROut G rk T H fps d' e' v H' → D.rt v H' from hf) v H3 (n.more (st1.tr st2))
  · have e : i = vs.length := by omega
    subst e
    refine .inl ⟨(hJ H' le').1 _ (Nat.le_refl _), ?_⟩
    rw [hlen, List.drop_length] at hr'
    simp only [forL] at hr'
    exact (show ∀ σ'' H'', NOut G T H fps env' σ'' H'' → D.nx σ'' H'' from hr') σ' H' ⟨fps', I', st1.tr st'⟩
theorem s_whl {t : Tt} {b : Ss} {tx : Expr} {bs : List Stmt} {pos : Pos} (ok : Ok Γ G X) (ht : PT X tx (tT G (evT G.c t))) (hb : PSs X bs (tS G rk (exs G.c rk b))) : PS X (.While tx bs [] pos) (tS G rk (exS G.c rk (.whl t b))) := by
  refine (ps_while ok.own ht hb).weaken fun D σ H ⟨T, env, fps, I, hq⟩ => ?_
  simp only [exS] at hq
  obtain ⟨n0, hq⟩ : ∃ n, Out (whlN (evT G.c t) (exs G.c rk b) n env) (FlW G rk T H fps D) (XW G T H fps) := by
    unfold whlD at hq
    split at hq
    · exact ⟨_, hq⟩
    · exact hq.elim
  let W : Nat → L2.St → Hp → Prop := fun m σ' H' => ∃ env' fps', SOk G.K G.L T env' σ' H' fps' ∧ Stp T H fps T H' fps' ∧ Out (whlN (evT G.c t) (exs G.c rk b) m env') (FlW G rk T H fps D) (XW G T H fps)
  refine ⟨W, ⟨n0, env, fps, I, Stp.refl _ _ _, hq⟩, ?_⟩
  rintro m σ' H' ⟨env', fps', I', st', hr'⟩
  cases m with
  | zero => exact hr'.elim
  | succ m =>
    simp only [whlN] at hr'
    refine ⟨T, env', fps', I', hr'.bind.mono (fun r _ hr H2 ho => ?_) fun _ _ z => z.step0 st'⟩
    obtain ⟨fps2, I2, st2⟩ := ho
    obtain ⟨tb, env2⟩ := r
    have st3 := st'.tr st2
    cases tb with
    | false =>
      rw [if_neg (by simp)]
      exact (show ∀ σ'' H'', NOut G T H fps env2 σ'' H'' → D.nx σ'' H'' from hr) σ' H2 ⟨fps2, I2, st3⟩
    | true =>
      rw [if_pos rfl]
      refine ⟨fun σ3 H3 => W m σ3 H3, fun σ3 H3 w => ⟨m, Nat.lt_succ_self _, w⟩, T, env2, fps2, I2, (show Out ((exs G.c rk b env2).bind _) _ _ from hr).bind.mono (fun f _ hf => ?_) fun _ _ z => z.step0 st3⟩
      cases f with
      | nx e' => exact fun σ3 H3 ⟨fps3, I3, st4⟩ => ⟨e', fps3, I3, st3.tr st4, hf⟩
      | ct e' => exact fun σ3 H3 ⟨fps3, I3, st4⟩ => ⟨e', fps3, I3, st3.tr st4, hf⟩
      | bk e' => exact fun σ3 H3 n => (show ∀ σ' H', NOut G T H fps e' σ' H' → D.nx σ' H' from hf) σ3 H3 (n.more st3)
      | rt d' e' => exact fun v H3 n => (show ∀ v H', ROut G rk T H fps d' e' v H' → D.rt v H' from hf) v H3 (n.more st3)
end
end Fx
set_option Elab.async false
set_option linter.all false
set_option maxRecDepth 100000
/-! M20: list comprehensions. -/
namespace Fx
open PySem PySem.Spec PyProof.Rows L2
section
variable {K : PySem.W.Frag} {L : List (Nat × V)} {T : As} {env : EnvD} {σ : L2.St} {H : Hp} {fps : Nat → As}
/-- a slot is forgotten -/
theorem SOk.drop (I : SOk K L T env σ H fps) (i : Nat) (x : Option V) : SOk K L T (env.set i .un) (σ.set i x) H (setF fps i none') ∧ Le (fr T H fps) (fr T H (setF fps i none')) := by
  have le : Le (fr T H fps) (fr T H (setF fps i none')) := hid_mono fun b z => (all_setF z).elim (fun q => q.elim) fun q => q
  refine ⟨⟨by simp [I.len], fun j b x y => ?_, fun a j ne b x y => ?_, fun b z => I.trk b ((all_setF z).elim (fun q => q.elim) fun q => q), fun j l' k' d' q => ?_, fun j q => ?_, I.lu⟩, le⟩
  · by_cases e : j = i
    · subst e; rw [setF_same] at x; exact x
    · rw [setF_ne e] at x; exact I.disT j b x y
  · by_cases e : a = i
    · subst e; rw [setF_same] at x; exact x
    · rw [setF_ne e] at x
      by_cases e' : j = i
      · subst e'; rw [setF_same] at y; exact y
      · rw [setF_ne e'] at y; exact I.dis a j ne b x y
  · by_cases e : j = i
    · subst e
      by_cases hi : j < env.length
      · rw [List.getElem?_set_self hi] at q; cases q
      · rw [List.getElem?_eq_none (by simpa using hi)] at q; cases q
    · rw [List.getElem?_set_ne (Ne.symm e)] at q
      obtain ⟨w, g1, g2, g3⟩ := I.slot j l' k' d' q
      refine ⟨w, by rw [List.getElem?_set_ne (Ne.symm e)]; exact g1, ?_, g3⟩
      rw [setF_ne e]
      exact g2.keep k' le fun _ _ => rfl
  · by_cases e : j = i
    · subst e; rw [setF_same]
    · rw [setF_ne e]
      refine I.out j fun l' k' d' z => q l' k' d' ?_
      rw [List.getElem?_set_ne (Ne.symm e)]
      exact z
theorem SOk.wipe (I : SOk K L T env σ H fps) : ∀ own : List Nat, ∃ fps', SOk K L T (wipeD env own) (L2.wipe σ own) H fps' ∧ Le (fr T H fps) (fr T H fps')
  | [] => ⟨fps, I, Le.refl _⟩
  | i :: is => by
    obtain ⟨f1, J, le⟩ := I.wipe is
    obtain ⟨J2, le2⟩ := J.drop i none
    exact ⟨_, J2, le.trans le2⟩
def backV (σ0 σ : L2.St) : List Nat → L2.St
  | [] => σ
  | i :: is => (backV σ0 σ is).set i (σ0[i]?.getD none)
theorem backV_len (σ0 σ : L2.St) : ∀ is : List Nat, (backV σ0 σ is).length = σ.length
  | [] => rfl
  | i :: is => by unfold backV; rw [List.length_set, backV_len σ0 σ is]
theorem backV_get {σ0 σ : L2.St} (hl : σ.length = σ0.length) : ∀ {is : List Nat} {j : Nat}, j ∈ is → (backV σ0 σ is)[j]? = σ0[j]?
  | i :: is, j, h => by
    unfold backV
    by_cases e : j = i
    · subst e
      by_cases hj : j < σ0.length
      · rw [List.getElem?_set_self (by rw [backV_len, hl]; exact hj), List.getElem?_eq_getElem hj]; rfl
      · rw [List.getElem?_eq_none (by simpa [backV_len, hl] using hj), List.getElem?_eq_none (by simpa using hj)]
    · rw [List.getElem?_set_ne (Ne.symm e)]
      rcases List.mem_cons.mp h with h | h
      · exact absurd h e
      · exact backV_get hl h
theorem backV_out {σ0 σ : L2.St} : ∀ {is : List Nat} {j : Nat}, j ∉ is → (backV σ0 σ is)[j]? = σ[j]?
  | [], _, _ => rfl
  | i :: is, j, h => by
    unfold backV
    simp only [List.mem_cons, not_or] at h
    rw [List.getElem?_set_ne (Ne.symm h.1)]
    exact backV_out h.2
theorem wipe_out {σ : L2.St} : ∀ {is : List Nat} {j : Nat}, j ∉ is → (L2.wipe σ is)[j]? = σ[j]?
  | [], _, _ => rfl
  | i :: is, j, h => by
    unfold L2.wipe
    simp only [List.mem_cons, not_or] at h
    rw [List.getElem?_set_ne (Ne.symm h.1)]
    exact wipe_out h.2
theorem wipe_in {σ : L2.St} : ∀ {is : List Nat} {j : Nat}, j ∈ is → j < σ.length → (L2.wipe σ is)[j]? = some none
  | i :: is, j, h, hj => by
    unfold L2.wipe
    by_cases e : j = i
    · subst e
      rw [List.getElem?_set_self (by rw [wipe_length]; exact hj)]
    · rw [List.getElem?_set_ne (Ne.symm e)]
      rcases List.mem_cons.mp h with h | h
      · exact absurd h e
      · exact wipe_in h hj
theorem back_wipe (σ : L2.St) (is : List Nat) : backV σ (L2.wipe σ is) is = σ := by
  apply List.ext_getElem?
  intro j
  by_cases h : j ∈ is
  · exact backV_get (wipe_length σ is) h
  · rw [backV_out h, wipe_out h]
theorem wipe_same {σ σ' : L2.St} {is js : List Nat} (h : Same js (L2.wipe σ is) σ') (sub : ∀ j ∈ js, j ∈ is) : L2.wipe σ' is = L2.wipe σ is := by
  have hl : σ'.length = σ.length := h.1.trans (wipe_length σ is)
  apply List.ext_getElem?
  intro j
  by_cases hj : j ∈ is
  · by_cases hb : j < σ.length
    · rw [wipe_in hj (by omega), wipe_in hj hb]
    · rw [List.getElem?_eq_none (by rw [wipe_length]; omega), List.getElem?_eq_none (by rw [wipe_length]; omega)]
  · rw [wipe_out hj, wipe_out hj, h.2 j fun z => hj (sub j z), wipe_out hj]
/-- the slots of a block as they were -/
theorem SOk.back {T0 : As} {env0 : EnvD} {σ0 : L2.St} {H0 : Hp} {fps0 : Nat → As} (I0 : SOk K L T0 env0 σ0 H0 fps0) (I : SOk K L T env σ H fps) (le : Le (fr T0 H0 fps0) (fr T H fps)) (hl : σ.length = σ0.length) : ∀ own : List Nat, ownOk env0 own = true →
    ∃ fps', SOk K L T (backD env0 env own) (backV σ0 σ own) H fps' ∧ Le (fr T H fps) (fr T H fps')
  | [], _ => ⟨fps, I, Le.refl _⟩
  | i :: is, ho => by
    simp only [ownOk, List.all_cons, Bool.and_eq_true] at ho
    obtain ⟨f1, J, le1⟩ := SOk.back I0 I le hl is (by unfold ownOk; exact ho.2)
    unfold backD backV
    cases hs : env0[i]? with
    | none => rw [hs] at ho; cases ho.1
    | some sv =>
      cases sv with
      | un =>
        obtain ⟨J2, le2⟩ := J.drop i (σ0[i]?.getD none)
        exact ⟨_, J2, le1.trans le2⟩
      | sv l k d =>
        rw [hs] at ho
        have hlk : l = false ∧ k = 0 := by
          cases l
          · cases k with
            | zero => exact ⟨rfl, rfl⟩
            | succ k => exact absurd ho.1 (by simp)
          · exact absurd ho.1 (by simp)
        obtain ⟨rfl, rfl⟩ := hlk
        obtain ⟨v, h1, h2, _⟩ := I0.slot i false 0 d hs
        have e0 : or' none' T = T := or_none T
        have hi : i < (backD env0 env is).length := by
          have a1 := J.len
          rw [backV_len] at a1
          have : i < σ0.length := by
            rw [List.getElem?_eq_some_iff] at h1; exact h1.1
          omega
        obtain ⟨J2, le2⟩ := SOk.set (f := none') (i := i) (k := 0) (v := v) (d := d) (by rw [e0]; exact J) hi (by rw [e0]; exact ⟨rfl, h2.2.mono (le.trans le1)⟩) (dis_none _)
        rw [e0] at le2
        refine ⟨_, ?_, le1.trans le2⟩
        rw [h1]
        exact J2
/-- what is hidden aside may change -/
theorem SOk.aside {a : Addr} {o : HO} (I : SOk K L T env σ H fps) (ha : T a) : SOk K L T env σ (upd H a o) fps ∧ fr T (upd H a o) fps = fr T H fps := by
  have e : fr T (upd H a o) fps = fr T H fps := by
    funext b
    by_cases hb : all' T fps b
    · exact (hid_in hb).trans (hid_in hb).symm
    · refine (hid_out hb).trans (Eq.trans (upd_ne ?_) (hid_out hb).symm)
      rintro rfl
      exact hb (.inl ha)
  refine ⟨⟨I.len, I.disT, I.dis, fun b z => ?_, fun i l k d q => ?_, I.out, I.lu⟩, e⟩
  · by_cases hb : b = a
    · subst hb; rw [upd_same]; exact Option.some_ne_none _
    · rw [upd_ne hb]; exact I.trk b z
  · obtain ⟨v, h1, h2, h3⟩ := I.slot i l k d q
    refine ⟨v, h1, ?_, h3⟩
    rw [show hid (upd H a o) (all' T fps) = hid H (all' T fps) from e]
    exact h2.keep k (Le.refl _) fun b hb => upd_ne fun e => I.disT i b hb (e ▸ ha)
end
theorem Out.noEx {α β : Type} {r : Rs α} {f : α → Rs β} {ok : β → Prop} {ex ex' : PyData → Prop} (h : Out (r.noEx.bind f) ok ex) : Out r (fun a => Out (f a) ok ex) ex' := by
  cases r with
  | ok a => exact h
  | ex x => exact h.elim
  | bad => exact h
theorem lcL_ex {bind : PyData → EnvD → Option EnvD} {own : List Nat} {t : EnvD → Rs (Bool × EnvD)} {f : EnvD → Rs (PyData × EnvD)} : ∀ {xs : List PyData} {env : EnvD} {x : PyData}, lcL bind own t f xs env ≠ .ex x
  | [], _, _ => fun h => by cases h
  | y :: ys, env, x => fun h => by
    simp only [lcL] at h
    cases h1 : bind y env with
    | none => rw [h1] at h; cases h
    | some e =>
      rw [h1] at h
      have h : ((t e).noEx.bind _ : Rs _) = .ex x := h
      cases h2 : t e with
      | ok r =>
        rw [h2] at h
        obtain ⟨b, e2⟩ := r
        cases b with
        | false => exact lcL_ex h
        | true =>
          have h : ((f e2).noEx.bind _ : Rs _) = .ex x := h
          cases h3 : f e2 with
          | ok y =>
            rw [h3] at h
            have h : ((lcL bind own t f ys (wipeD y.2 own)).bind _ : Rs _) = .ex x := h
            cases h4 : lcL bind own t f ys (wipeD y.2 own) with
            | ok z => rw [h4] at h; cases h
            | ex w => exact lcL_ex h4
            | bad => rw [h4] at h; cases h
          | ex w => rw [h3] at h; cases h
          | bad => rw [h3] at h; cases h
      | ex w => rw [h2] at h; cases h
      | bad => rw [h2] at h; cases h
def Gh.blk (G : Gh) : Gh := { G with EX := fun _ _ _ => False }
section
variable {G : Gh}
theorem lc_run {own : List Nat} {tg : Tg} {it : It} {ts : Tts} {e : E} {k : Nat} {σ : L2.St} {H : Hp} {Q : VK} (sub : ∀ j ∈ tg.slots, j ∈ own) (hq : tV G k (ev G.c (.lc own tg it ts e) k) σ H Q) :
    tLc (tI G (evI G.c it)) (tG G.blk tg) (tT G.blk (evTs G.c ts)) (tV G.blk (k - 1) (ev G.c e (k - 1))) own σ H Q := by
  obtain ⟨T, env, fps, I, hq⟩ := hq
  simp only [ev] at hq
  obtain ⟨ho0, hq⟩ := hq.ite_bad'
  refine ⟨T, env, fps, I, hq.bind.mono (fun r _ hr J H1 fps1 I1 st1 hJ D hD => ?_) fun _ _ z => z⟩
  obtain ⟨ho, hr⟩ := hr.ite_bad'
  have ho : ownOk r.2 own = true := by simpa using ho
  obtain ⟨vs, hd, hJ⟩ := hJ
  have hlen := hd.length
  -- the loop from here
  let P : List PyData → List PyData × EnvD → Prop := fun ds z => (ds ++ z.1).length ≤ 16777216 ∧ ∀ v H', VOut G T H fps σ k (.list (ds ++ z.1), backD r.2 z.2 own) v H' → Q v H'
  have hr0 : Out (lcL (bindT tg) own (evTs G.c ts) (ev G.c e (k - 1)) r.1 (wipeD r.2 own)) (P []) (fun _ => False) := hr.bind.mono (fun z _ hz => by
    obtain ⟨h1, h2⟩ := hz.ite_bad
    exact ⟨h1, h2⟩) fun x hx _ => lcL_ex hx
  let W : Nat → Nat → Hp → Prop := fun i m H' => m = vs.length - i ∧ i ≤ vs.length ∧ ∃ env' fps' acc ds g, SOk G.K G.L (or' (or' (one' D) g) T) env' (L2.wipe σ own) H' fps' ∧ H' D = some (.lst acc) ∧ RepL (Rep G.K (fr (or' (or' (one' D) g) T) H' fps') H' (k - 1)) acc ds g ∧ ¬ g D ∧ Dis (or' (one' D) g) T ∧
    Stp T H1 fps1 (or' (or' (one' D) g) T) H' fps' ∧ Out (lcL (bindT tg) own (evTs G.c ts) (ev G.c e (k - 1)) (r.1.drop i) env') (P ds) (fun _ => False)
  refine ⟨W, ⟨_, rfl, Nat.zero_le _, ?_⟩, ?_⟩
  · obtain ⟨f1, J1, le1⟩ := I1.wipe own
    obtain ⟨J2, e2⟩ := J1.own (o := .lst []) hD
    have np : ∀ b, all' T f1 b → b ≠ D := fun b z e => J1.trk b z (by rw [e]; exact hD)
    refine ⟨wipeD r.2 own, f1, [], [], none', ?_, upd_same, .nil, fun z => z, ?_, ?_, hr0⟩
    · rw [or_none']; exact J2
    · rw [or_none']
      exact fun b x y => np b (.inl y) x
    · rw [or_none']
      exact ⟨fun b hb => upd_ne (np b (.inl hb)), by rw [e2]; exact le1⟩
  · rintro i m H' ⟨rfl, hi, env', fps', acc, ds, g, I', hacc, R', ngD, dj, st', hr'⟩
    have le' : Le (fr T H1 fps1) H' := st'.le.trans hid_le
    have hTD : (or' (or' (one' D) g) T) D := .inl (.inl rfl)
    by_cases hlt : i < vs.length
    · obtain ⟨j1, j2⟩ := (hJ H' le').2 i hlt
      refine .inr ⟨j1, fun H2 => W (i + 1) (vs.length - (i + 1)) H2, fun H2 w => ⟨_, by omega, w⟩, fun x H2 y => ?_⟩
      obtain ⟨rfl, hx⟩ := j2 x H2 y
      obtain ⟨d, hdi⟩ : ∃ d, r.1[i]? = some d := by
        have : i < r.1.length := by omega
        exact ⟨_, List.getElem?_eq_getElem this⟩
      obtain ⟨x', hx', hdx⟩ := hd.get hdi
      rw [hx] at hx'
      cases hx'
      rw [drop_get hdi] at hr'
      simp only [lcL] at hr'
      obtain ⟨e', he, hr2⟩ := hr'.of_bind
      refine ⟨_, env', fps', d, e', I', hdx.mono st'.le, he, fun σ2 fps2 I2 le2 sm => ⟨wipe_same sm sub, _, e', fps2, I2, hr2.noEx.mono (fun b _ hb H3 ho3 => ?_) fun _ _ z => z⟩⟩
      obtain ⟨fps3, I3, st3⟩ := ho3
      have hw : L2.wipe σ2 own = L2.wipe σ own := wipe_same sm sub
      have st2 : Stp T H1 fps1 (or' (or' (one' D) g) T) H3 fps3 := ⟨fun b hb => (st3.aside b (.inr hb)).trans (st'.aside b hb), st'.le.trans (le2.trans st3.le)⟩
      have hacc3 : H3 D = some (.lst acc) := (st3.aside D hTD).trans hacc
      have R3 := R'.imp fun v d f s rr => rr.keep _ (le2.trans st3.le) fun b hb => st3.aside b (.inl (.inr (s b hb)))
      obtain ⟨tb, env3⟩ := b
      cases tb with
      | false =>
        rw [if_neg (by simp)]
        obtain ⟨f4, I4, le4⟩ := I3.wipe own
        rw [hw] at I4
        exact ⟨rfl, hlt, wipeD env3 own, f4, acc, ds, g, I4, hacc3, R3.imp fun v d f s rr => rr.keep _ le4 fun _ _ => rfl, ngD, dj, ⟨st2.aside, st2.le.trans le4⟩, hb⟩
      | true =>
        rw [if_pos rfl]
        refine ⟨_, env3, fps3, I3, (show Out ((ev G.c e (k - 1) env3).noEx.bind _) _ _ from hb).noEx.mono (fun y _ hy yv H4 ho4 => ?_) fun _ _ z => z⟩
        obtain ⟨fps4, f, I4, R4, dj4, st4⟩ := ho4
        have hacc4 : H4 D = some (.lst acc) := (st4.aside D hTD).trans hacc3
        have hy := hy.bind
        have hl : ds.length < 16777216 := by
          cases hz : lcL (bindT tg) own (evTs G.c ts) (ev G.c e (k - 1)) (r.1.drop (i + 1)) (wipeD y.2 own) with
          | ok z =>
            rw [hz] at hy
            have := (show P ds (y.1 :: z.1, z.2) from hy).1
            simp at this
            omega
          | ex w => exact absurd hz lcL_ex
          | bad => rw [hz] at hy; exact hy.elim
        refine ⟨acc, hacc4, by rw [R'.length]; exact hl, ?_⟩
        have ed : or' f (or' (or' (one' D) g) T) = or' (or' (one' D) (or' g f)) T := by
          rw [or_assoc', or_assoc', or_assoc', ← or_assoc' f, or_comm' f (one' D), or_assoc', ← or_assoc' f, or_comm' f g, or_assoc']
        have nfD : ¬ f D := fun z => dj4 D z hTD
        have R4' := R3.imp fun v d f s rr => rr.keep _ st4.le fun b hb => st4.aside b (.inl (.inr (s b hb)))
        rw [ed] at I4 R4 st4 R4'
        obtain ⟨I5, e5⟩ := I4.aside (a := D) (o := .lst (acc ++ [yv])) (.inl (.inl rfl))
        obtain ⟨f6, I6, le6⟩ := I5.wipe own
        rw [hw] at I6
        obtain ⟨gn, Rn, en⟩ := RepL.append R4' (RepL.cons R4 .nil (dis_none' f)) fun b x y => by
          rw [or_none'] at y
          exact dj4 b y (.inl (.inr x))
        have egn : gn = or' g f := by
          funext b
          have := en b
          rw [or_none'] at this
          exact propext this
        subst egn
        refine ⟨rfl, hlt, wipeD y.2 own, f6, acc ++ [yv], ds ++ [y.1], or' g f, I6, upd_same, ?_, ?_, ?_, ⟨fun b hb => ?_, ?_⟩, hy.mono (fun z _ hz => ?_) fun x hx _ => lcL_ex hx⟩
        · refine Rn.imp fun v d f' s rr => rr.keep _ ?_ fun b hb => upd_ne fun e => ?_
          · rw [← e5]; exact le6
          · subst e
            rcases s _ hb with z | z
            · exact ngD z
            · exact nfD z
        · rintro (z | z)
          · exact ngD z
          · exact nfD z
        · rintro b (x | x | x) y
          · exact dj b (.inl x) y
          · exact dj b (.inr x) y
          · exact dj4 b x (.inr y)
        · refine Eq.trans (upd_ne fun e => dj D (.inl rfl) (e ▸ hb)) ?_
          exact (st4.aside b (.inr hb)).trans (st2.aside b hb)
        · refine st2.le.trans (st4.le.trans ?_)
          rw [← e5]; exact le6
        · show (ds ++ [y.1] ++ z.1).length ≤ _ ∧ _
          have h5 := (show P ds (y.1 :: z.1, z.2) from hz)
          rw [show ds ++ [y.1] ++ z.1 = ds ++ y.1 :: z.1 by simp]
          exact h5
    · have e : i = vs.length := by omega
      subst e
      refine .inl ⟨(hJ H' le').1 _ (Nat.le_refl _), ?_⟩
      rw [hlen, List.drop_length] at hr'
      simp only [lcL] at hr'
      have hP : P ds ([], env') := hr'
      obtain ⟨_, hq2⟩ := hP
      refine hq2 _ _ ?_
      obtain ⟨f6, I6, le6⟩ := SOk.back I1 I' st'.le (wipe_length σ own) own ho
      rw [back_wipe] at I6
      rw [List.append_nil]
      have R6 := R'.imp fun v d f s rr => rr.keep _ le6 fun _ _ => rfl
      have st6 : Stp T H fps (or' (or' (one' D) g) T) H' f6 := ⟨fun b hb => (st'.aside b hb).trans (st1.aside b hb), st1.le.trans (st'.le.trans le6)⟩
      cases k with
      | zero =>
        obtain ⟨h1, rfl⟩ := R6.dat0
        obtain ⟨I7, le7⟩ := I6.show
        refine .of0 I7 (.lst (.inl (.inl ?_)) (h1.mono le7)) (.inr rfl) ⟨st6.aside, st6.le.trans le7⟩
        refine (hid_out ?_).trans hacc
        rintro (z | ⟨j, z⟩)
        · exact dj D (.inl rfl) z
        · exact I6.disT j D z hTD
      | succ k =>
        exact ⟨f6, or' (one' D) g, I6, .inr (.inl ⟨D, acc, ds, g, rfl, rfl, hacc, R6, ngD, rfl⟩), dj, st6⟩
end
end Fx
set_option Elab.async false
set_option linter.all false
set_option maxRecDepth 100000
/-! M21: calls. -/
namespace Fx
open PySem PySem.Spec PyProof.Rows L2
/-- an argument: a datum, or a slot that is lent -/
inductive Arg1 (K : PySem.W.Frag) (F : Hp) (env : EnvD) (σ : L2.St) : Option Nat → SV → V → Prop
  | v {d : PyData} {v : V} : Dat K F v d → Arg1 K F env σ none (.sv false 0 d) v
  | l {i : Nat} {l : Bool} {k : Nat} {d : PyData} {v : V} : env[i]? = some (.sv l k d) → σ[i]? = some (some v) → Arg1 K F env σ (some i) (.sv true k d) v
structure ArgsOk (K : PySem.W.Frag) (F : Hp) (env : EnvD) (σ : L2.St) (ls : List (Option Nat)) (svs : List SV) (vs : List V) : Prop where
  l1 : svs.length = ls.length
  l2 : vs.length = ls.length
  at_ : ∀ (j : Nat) (o : Option Nat), ls[j]? = some o → ∃ sv v, svs[j]? = some sv ∧ vs[j]? = some v ∧ Arg1 K F env σ o sv v
theorem ArgsOk.cons {K : PySem.W.Frag} {F : Hp} {env : EnvD} {σ : L2.St} {ls : List (Option Nat)} {svs : List SV} {vs : List V} {o : Option Nat} {sv : SV} {v : V} (a : Arg1 K F env σ o sv v) (h : ArgsOk K F env σ ls svs vs) : ArgsOk K F env σ (o :: ls) (sv :: svs) (v :: vs) :=
  ⟨by simp [h.l1], by simp [h.l2], fun j o' e => by
    cases j with
    | zero => simp at e; subst e; exact ⟨sv, v, rfl, rfl, a⟩
    | succ j => simpa using h.at_ j o' (by simpa using e)⟩
theorem args_of {K : PySem.W.Frag} {F : Hp} {env : EnvD} {σ : L2.St} : ∀ {ar : Ar} {ds : List PyData} {vs : List V} {svs : List SV}, ArV K F σ ar ds vs → argSV (lents ar) ds env = some svs → ArgsOk K F env σ (lents ar) svs vs
  | _, _, _, _, .nil, h => by cases h; exact ⟨rfl, rfl, fun j o e => by simp [lents] at e⟩
  | _, _, _, _, .v hd t, h => by
    simp only [lents, argSV] at h
    obtain ⟨r, e1, e2⟩ := Option.map_eq_some_iff.mp h
    cases e2
    exact ArgsOk.cons (.v hd) (args_of t e1)
  | _, _, _, _, .l hσ t, h => by
    simp only [lents, argSV] at h
    split at h
    · rename_i l k d hs
      obtain ⟨r, e1, e2⟩ := Option.map_eq_some_iff.mp h
      cases e2
      exact ArgsOk.cons (.l hs hσ) (args_of t e1)
    · cases h
theorem mapM_get {α : Type} {xs : List α} : ∀ {js : List Nat} {ys : List α}, js.mapM (fun j => xs[j]?) = some ys → ys.length = js.length ∧ (∀ (m : Nat) (j : Nat), js[m]? = some j → ys[m]? = xs[j]? ∧ j < xs.length) ∧ permL js xs = ys
  | [], ys, h => by cases h; exact ⟨rfl, fun m j e => by simp at e, rfl⟩
  | j :: js, ys, h => by
    rw [List.mapM_cons] at h
    obtain ⟨y, e1, h⟩ := Option.bind_eq_some_iff.mp h
    obtain ⟨r, e2, h⟩ := Option.bind_eq_some_iff.mp h
    cases h
    obtain ⟨a1, a2, a3⟩ := mapM_get e2
    refine ⟨by simp [a1], fun m i e => ?_, ?_⟩
    · cases m with
      | zero =>
        simp at e
        subst e
        exact ⟨by simpa using e1.symm, by rw [List.getElem?_eq_some_iff] at e1; exact e1.1⟩
      | succ m => simpa using a2 m i (by simpa using e)
    · unfold permL
      rw [List.filterMap_cons, e1]
      show y :: permL js xs = y :: r
      rw [a3]
theorem permL_len {α : Type} {xs : List α} : ∀ {js : List Nat}, (∀ j ∈ js, j < xs.length) → (permL js xs).length = js.length ∧ ∀ (m : Nat) (j : Nat), js[m]? = some j → (permL js xs)[m]? = xs[j]?
  | [], _ => ⟨rfl, fun m j e => by simp at e⟩
  | j :: js, h => by
    obtain ⟨a1, a2⟩ := permL_len (xs := xs) (js := js) fun i hi => h i (List.mem_cons_of_mem _ hi)
    have hj := h j (List.mem_cons_self ..)
    have e : permL (j :: js) xs = xs[j] :: permL js xs := by
      unfold permL
      rw [List.filterMap_cons, List.getElem?_eq_getElem hj]
    rw [e]
    refine ⟨by simp [a1], fun m i hm => ?_⟩
    cases m with
    | zero => simp at hm; subst hm; simp [List.getElem?_eq_getElem hj]
    | succ m => simpa using a2 m i (by simpa using hm)
theorem lent_uniq {i : Nat} : ∀ {ls : List (Option Nat)} {a b : Nat}, (ls.filterMap id).Nodup → ls[a]? = some (some i) → ls[b]? = some (some i) → a = b
  | [], a, b, _, h, _ => by simp at h
  | o :: ls, a, b, nd, h1, h2 => by
    have mem : ∀ {c : Nat}, ls[c]? = some (some i) → i ∈ ls.filterMap id := fun hc => List.mem_filterMap.mpr ⟨some i, List.mem_of_getElem? hc, rfl⟩
    cases a with
    | zero =>
      simp at h1
      subst h1
      cases b with
      | zero => rfl
      | succ b => exact absurd (mem (by simpa using h2)) (List.nodup_cons.mp nd).1
    | succ a =>
      cases b with
      | zero =>
        simp at h2
        subst h2
        exact absurd (mem (by simpa using h1)) (List.nodup_cons.mp nd).1
      | succ b =>
        have nd' : (ls.filterMap id).Nodup := by
          cases o with
          | none => exact nd
          | some _ => exact (List.nodup_cons.mp nd).2
        exact congrArg (· + 1) (lent_uniq (a := a) (b := b) nd' (by simpa using h1) (by simpa using h2))
def permV {α : Type} (pm : Option (List Nat)) (xs : List α) : List α := match pm with
  | none => xs
  | some js => permL js xs
theorem ArgsOk.perm {K : PySem.W.Frag} {F : Hp} {env : EnvD} {σ : L2.St} {ls ls' : List (Option Nat)} {svs svs' : List SV} {vs : List V} {pm : Option (List Nat)} (h : ArgsOk K F env σ ls svs vs) (h1 : permD pm svs = some svs') (h2 : permD pm ls = some ls') :
    ArgsOk K F env σ ls' svs' (permV pm vs) ∧ ((ls.filterMap id).Nodup → (ls'.filterMap id).Nodup) ∧ ls'.length = ls.length := by
  cases pm with
  | none => cases h1; cases h2; exact ⟨h, id, rfl⟩
  | some js =>
    unfold permD at h1 h2
    simp only at h1 h2
    split at h1
    · rename_i hj
      split at h2
      · rename_i hj2
        obtain ⟨a1, a2, a3⟩ := mapM_get h1
        obtain ⟨b1, b2, b3⟩ := mapM_get h2
        have lt : ∀ j ∈ js, j < ls.length := fun j hm => by
          obtain ⟨m, em⟩ := List.getElem?_of_mem hm
          exact (b2 m j em).2
        obtain ⟨c1, c2⟩ := permL_len (xs := vs) (js := js) fun j hm => by rw [h.l2]; exact lt j hm
        refine ⟨⟨by rw [a1, b1], by show (permL js vs).length = _; rw [c1, b1], fun m o e => ?_⟩, fun nd => ?_, by rw [b1]; exact hj2.1⟩
        · have hm : m < js.length := by
            rw [List.getElem?_eq_some_iff] at e
            have := e.1
            omega
          have ej : js[m]? = some js[m] := List.getElem?_eq_getElem hm
          rw [(b2 m _ ej).1] at e
          obtain ⟨sv, v, e1, e2, e3⟩ := h.at_ _ o e
          exact ⟨sv, v, by rw [(a2 m _ ej).1]; exact e1, by show (permL js vs)[m]? = _; rw [c2 m _ ej]; exact e2, e3⟩
        · -- distinct places, distinct slots
          have go : ∀ {js : List Nat} {ls' : List (Option Nat)}, js.Nodup → js.mapM (fun j => ls[j]?) = some ls' → (ls'.filterMap id).Nodup := by
            intro js
            induction js with
            | nil => intro ls' _ h; cases h; exact List.nodup_nil
            | cons j js ih =>
              intro ls' hn h
              rw [List.mapM_cons] at h
              obtain ⟨y, e1, h⟩ := Option.bind_eq_some_iff.mp h
              obtain ⟨r, e2, h⟩ := Option.bind_eq_some_iff.mp h
              cases h
              obtain ⟨n1, n2⟩ := List.nodup_cons.mp hn
              have ih' := ih n2 e2
              cases y with
              | none => exact ih'
              | some i =>
                refine List.nodup_cons.mpr ⟨fun hi => n1 ?_, ih'⟩
                obtain ⟨o, ho, eo⟩ := List.mem_filterMap.mp hi
                have eo : o = some i := eo
                subst eo
                obtain ⟨m, hm⟩ := List.getElem?_of_mem ho
                obtain ⟨q1, q2, q3⟩ := mapM_get e2
                have hmlt : m < js.length := by
                  rw [List.getElem?_eq_some_iff] at hm
                  have := hm.1
                  omega
                have ej : js[m]? = some js[m] := List.getElem?_eq_getElem hmlt
                rw [(q2 m _ ej).1] at hm
                rw [lent_uniq nd e1 hm]
                exact List.mem_of_getElem? ej
          exact go hj.2 h2
      · cases h2
    · cases h1
/-- the caller's slots behind a call -/
def BackOk (ls : List (Option Nat)) (r : List SV) (env env' : EnvD) : Prop := env'.length = env.length ∧ (∀ i : Nat, (∀ j : Nat, ls[j]? ≠ some (some i)) → env'[i]? = env[i]?) ∧
  ∀ (i j : Nat) (l : Bool) (k : Nat) (d : PyData), ls[j]? = some (some i) → env[i]? = some (.sv l k d) →
    (∀ (k' : Nat) (d' : PyData), r[j]? = some (.sv true k' d') → env'[i]? = some (.sv l k' d')) ∧ ((∀ (k' : Nat) (d' : PyData), r[j]? ≠ some (.sv true k' d')) → env'[i]? = some .un)
theorem lentBack_at : ∀ {ls : List (Option Nat)} {r : List SV} {env : EnvD}, (ls.filterMap id).Nodup → r.length = ls.length → BackOk ls r env (lentBack ls r env)
  | [], r, env, _, hl => by
    cases r with
    | nil => exact ⟨rfl, fun _ _ => rfl, fun i j l k d h => by simp at h⟩
    | cons _ _ => cases hl
  | o :: ls, [], env, _, hl => by cases hl
  | none :: ls, sv :: r, env, nd, hl => by
    have e : lentBack (none :: ls) (sv :: r) env = lentBack ls r env := by cases sv <;> rfl
    rw [e]
    have hl' : r.length = ls.length := by simpa using hl
    obtain ⟨h1, h2, h3⟩ := lentBack_at (ls := ls) (env := env) (r := r) nd hl'
    refine ⟨h1, fun i hi => h2 i fun j hj => hi (j + 1) (by simpa using hj), fun i j l k d hj he => ?_⟩
    cases j with
    | zero => simp at hj
    | succ j => simpa using h3 i j l k d (by simpa using hj) he
  | some i0 :: ls, sv :: r, env, nd, hl => by
    obtain ⟨n1, n2⟩ := List.nodup_cons.mp nd
    have notin : ∀ j : Nat, ls[j]? ≠ some (some i0) := fun j hj => n1 (List.mem_filterMap.mpr ⟨some i0, List.mem_of_getElem? hj, rfl⟩)
    have hl' : r.length = ls.length := by simpa using hl
    -- the tail, over what the head leaves
    have tail : ∀ env1 : EnvD, env1.length = env.length → (∀ i : Nat, i ≠ i0 → env1[i]? = env[i]?) → lentBack (some i0 :: ls) (sv :: r) env = lentBack ls r env1 →
        (∀ (l : Bool) (k : Nat) (d : PyData), env[i0]? = some (.sv l k d) → (∀ (k' : Nat) (d' : PyData), sv = .sv true k' d' → env1[i0]? = some (.sv l k' d')) ∧ ((∀ (k' : Nat) (d' : PyData), sv ≠ .sv true k' d') → env1[i0]? = some .un)) → BackOk (some i0 :: ls) (sv :: r) env (lentBack (some i0 :: ls) (sv :: r) env) := fun env1 len1 same e hd => by
      rw [e]
      obtain ⟨h1, h2, h3⟩ := lentBack_at (env := env1) (r := r) n2 hl'
      refine ⟨h1.trans len1, fun i hi => ?_, fun i j l k d hj he => ?_⟩
      · rw [h2 i fun j hj => hi (j + 1) (by simpa using hj)]
        exact same i fun e => hi 0 (by simp [e])
      · cases j with
        | zero =>
          simp at hj
          subst hj
          rw [h2 i0 notin]
          obtain ⟨q1, q2⟩ := hd l k d he
          exact ⟨fun k' d' z => q1 k' d' (by simpa using z), fun z => q2 fun k' d' e => z k' d' (by simp [e])⟩
        | succ j =>
          have ne : i ≠ i0 := fun e => notin j (by subst e; simpa using hj)
          simpa using h3 i j l k d (by simpa using hj) (by rw [same i ne]; exact he)
    have lt : ∀ {l : Bool} {k : Nat} {d : PyData}, env[i0]? = some (SV.sv l k d) → i0 < env.length := fun h => by
      rw [List.getElem?_eq_some_iff] at h; exact h.1
    cases sv with
    | un =>
      refine tail (env.set i0 .un) (by simp) (fun i ne => List.getElem?_set_ne (Ne.symm ne)) rfl fun l k d h => ⟨fun _ _ e => (by cases e), fun _ => List.getElem?_set_self (lt h)⟩
    | sv b k d =>
      cases b with
      | false => refine tail (env.set i0 .un) (by simp) (fun i ne => List.getElem?_set_ne (Ne.symm ne)) rfl fun l k d h => ⟨fun _ _ e => (by cases e), fun _ => List.getElem?_set_self (lt h)⟩
      | true =>
        cases hs : env[i0]? with
        | none =>
          refine tail env rfl (fun _ _ => rfl) (by simp only [lentBack]; rw [hs]) fun l k' d' h => ?_
          rw [hs] at h
          cases h
        | some s0 =>
          cases s0 with
          | un =>
            refine tail env rfl (fun _ _ => rfl) (by simp only [lentBack]; rw [hs]) fun l k' d' h => ?_
            rw [hs] at h
            cases h
          | sv l k0 d0 =>
            refine tail (env.set i0 (.sv l k d)) (by simp) (fun i ne => List.getElem?_set_ne (Ne.symm ne)) (by simp only [lentBack]; rw [hs]) fun l' k' d' h => ?_
            rw [hs] at h
            cases h
            exact ⟨fun k2 d2 e => by cases e; exact List.getElem?_set_self (lt hs), fun z => absurd rfl (z k d)⟩
end Fx
set_option Elab.async false
set_option linter.all false
set_option maxRecDepth 100000
/-! M22: a call's state, before and behind. -/
namespace Fx
open PySem PySem.Spec PyProof.Rows L2
section
variable {K : PySem.W.Frag} {L : List (Nat × V)} {T : As} {env : EnvD} {σ : L2.St} {H : Hp} {fps : Nat → As} {ls : List (Option Nat)} {svs : List SV} {vs : List V}
def isLent (ls : List (Option Nat)) (i : Nat) : Prop := ∃ j : Nat, ls[j]? = some (some i)
/-- what the callee sees put aside -/
def cT (ls : List (Option Nat)) (T : As) (fps : Nat → As) : As := fun b => T b ∨ ∃ i, ¬ isLent ls i ∧ fps i b
def cF (ls : List (Option Nat)) (fps : Nat → As) : Nat → As := fun j b => ∃ i, ls[j]? = some (some i) ∧ fps i b
def cL (ls : List (Option Nat)) (vs : List V) : List (Nat × V) := (List.range ls.length).filterMap fun j => match ls[j]?, vs[j]? with
  | some (some _), some v => some (j, v)
  | _, _ => none
theorem lentOnly_get {r : List SV} {j k : Nat} {l : Bool} {d : PyData} (h : (lentOnly r)[j]? = some (.sv l k d)) : l = true ∧ r[j]? = some (.sv true k d) := by
  unfold lentOnly at h
  rw [List.getElem?_map] at h
  cases hr : r[j]? with
  | none => rw [hr] at h; cases h
  | some sv =>
    rw [hr] at h
    cases sv with
    | un => cases h
    | sv b k' d' =>
      cases b with
      | true => cases h; exact ⟨rfl, rfl⟩
      | false => cases h
theorem cL_mem {j : Nat} {v : V} : (j, v) ∈ cL ls vs ↔ (∃ i, ls[j]? = some (some i)) ∧ vs[j]? = some v := by
  unfold cL
  rw [List.mem_filterMap]
  constructor
  · rintro ⟨m, hm, h⟩
    split at h
    · rename_i i w h1 h2
      cases h
      exact ⟨⟨i, h1⟩, h2⟩
    · cases h
  · rintro ⟨⟨i, h1⟩, h2⟩
    refine ⟨j, List.mem_range.mpr ?_, by rw [h1, h2]⟩
    rw [List.getElem?_eq_some_iff] at h1
    exact h1.1
theorem all_c (b : Addr) : all' (cT ls T fps) (cF ls fps) b ↔ all' T fps b := by
  constructor
  · rintro ((h | ⟨i, _, h⟩) | ⟨j, i, _, h⟩)
    · exact .inl h
    · exact .inr ⟨i, h⟩
    · exact .inr ⟨i, h⟩
  · rintro (h | ⟨i, h⟩)
    · exact .inl (.inl h)
    · by_cases hl : isLent ls i
      · obtain ⟨j, hj⟩ := hl
        exact .inr ⟨j, i, hj, h⟩
      · exact .inl (.inr ⟨i, hl, h⟩)
theorem fr_c : fr (cT ls T fps) H (cF ls fps) = fr T H fps := by
  have : all' (cT ls T fps) (cF ls fps) = all' T fps := funext fun b => propext (all_c b)
  unfold fr
  rw [this]
/-- the callee's state -/
theorem SOk.enter (I : SOk K L T env σ H fps) (A : ArgsOk K (fr T H fps) env σ ls svs vs) (nd : (ls.filterMap id).Nodup) : SOk K (cL ls vs) (cT ls T fps) svs (vs.map some) H (cF ls fps) := by
  refine ⟨by rw [List.length_map, A.l1, A.l2], fun j b x y => ?_, fun j j' ne b x y => ?_, fun b z => I.trk b ((all_c b).mp z), fun j l k d e => ?_, fun j q => ?_, fun j v w h1 h2 => ?_⟩
  · obtain ⟨i, hj, hb⟩ := x
    rcases y with y | ⟨i', hn, y⟩
    · exact I.disT i b hb y
    · exact I.dis i i' (fun e => hn (by subst e; exact ⟨j, hj⟩)) b hb y
  · obtain ⟨i, hj, hb⟩ := x
    obtain ⟨i', hj', hb'⟩ := y
    refine I.dis i i' (fun e => ne ?_) b hb hb'
    subst e
    exact lent_uniq nd hj hj'
  · have hj : j < ls.length := by
      rw [List.getElem?_eq_some_iff] at e
      have := e.1
      rw [A.l1] at this
      exact this
    obtain ⟨sv, v, e1, e2, e3⟩ := A.at_ j _ (List.getElem?_eq_getElem hj)
    rw [e] at e1
    cases e1
    refine ⟨v, by rw [List.getElem?_map, e2]; rfl, ?_⟩
    rw [show hid H (all' (cT ls T fps) (cF ls fps)) = fr T H fps from fr_c]
    have hls : ls[j]? = some ls[j] := List.getElem?_eq_getElem hj
    generalize ls[j] = o at e3 hls
    cases e3 with
    | v hd =>
      have ef : cF ls fps j = none' := by
        funext b
        refine propext ⟨fun ⟨i, hi, _⟩ => ?_, fun z => z.elim⟩
        rw [hls] at hi
        cases hi
      rw [ef]
      exact ⟨⟨rfl, hd⟩, fun z => by cases z⟩
    | @l i l0 k d v he hσ =>
      obtain ⟨w, w1, w2, w3⟩ := I.slot i l0 k d he
      rw [hσ] at w1
      cases w1
      have ef : cF ls fps j = fps i := by
        funext b
        refine propext ⟨fun ⟨i', hi, hb⟩ => ?_, fun z => ⟨i, hls, z⟩⟩
        rw [hls] at hi
        cases hi
        exact hb
      rw [ef]
      exact ⟨w2, fun _ => cL_mem.mpr ⟨⟨i, hls⟩, e2⟩⟩
  · funext b
    refine propext ⟨fun ⟨i, hi, hb⟩ => ?_, fun z => z.elim⟩
    obtain ⟨sv, v, e1, e2, e3⟩ := A.at_ j _ hi
    cases e3 with
    | l he hσ => exact absurd e1 (q _ _ _)
  · have a := (cL_mem.mp h1).2
    have b := (cL_mem.mp h2).2
    rw [a] at b
    cases b; rfl
/-- the caller's footprints behind the call -/
def bF (ls : List (Option Nat)) (fps fps' : Nat → As) : Nat → As := fun i b => (∃ j : Nat, ls[j]? = some (some i) ∧ fps' j b) ∨ (¬ isLent ls i ∧ fps i b)
/-- the caller's state behind the call -/
theorem SOk.leave {H' : Hp} {f : As} {r : List SV} {fps' : Nat → As} (I : SOk K L T env σ H fps) (A : ArgsOk K (fr T H fps) env σ ls svs vs) (nd : (ls.filterMap id).Nodup)
    (J : SOk K (cL ls vs) (or' f (cT ls T fps)) (lentOnly r) (vs.map some) H' fps') (df : Dis f (cT ls T fps)) (st : Stp (cT ls T fps) H (cF ls fps) (or' f (cT ls T fps)) H' fps') :
    SOk K L (or' f T) (lentBack ls r env) σ H' (bF ls fps fps') ∧ fr (or' f T) H' (bF ls fps fps') = fr (or' f (cT ls T fps)) H' fps' ∧ Dis f T ∧ Stp T H fps (or' f T) H' (bF ls fps fps') := by
  have hlen : r.length = ls.length := by
    have := J.len
    simp only [lentOnly, List.length_map] at this
    rw [this, A.l2]
  obtain ⟨b1, b2, b3⟩ := lentBack_at (env := env) nd hlen
  -- a slot of the callee that owns something is a lent one
  have lentOf : ∀ j b, fps' j b → ∃ i, ls[j]? = some (some i) := fun j b hb => by
    refine Classical.byContradiction fun hn => ?_
    have : fps' j = none' := J.out j fun l k d e => ?_
    · rw [this] at hb; exact hb
    · obtain ⟨v, e1, e2, e3⟩ := J.slot j l k d e
      have hl := (lentOnly_get e).1
      obtain ⟨⟨i, hi⟩, _⟩ := cL_mem.mp (e3 hl)
      exact hn ⟨i, hi⟩
  have allE : ∀ b, all' (or' f T) (bF ls fps fps') b ↔ all' (or' f (cT ls T fps)) fps' b := fun b => by
    constructor
    · rintro ((h | h) | ⟨i, (⟨j, hj, h⟩ | ⟨hn, h⟩)⟩)
      · exact .inl (.inl h)
      · exact .inl (.inr (.inl h))
      · exact .inr ⟨j, h⟩
      · exact .inl (.inr (.inr ⟨i, hn, h⟩))
    · rintro ((h | (h | ⟨i, hn, h⟩)) | ⟨j, h⟩)
      · exact .inl (.inl h)
      · exact .inl (.inr h)
      · exact .inr ⟨i, .inr ⟨hn, h⟩⟩
      · obtain ⟨i, hi⟩ := lentOf j b h
        exact .inr ⟨i, .inl ⟨j, hi, h⟩⟩
  have frE : fr (or' f T) H' (bF ls fps fps') = fr (or' f (cT ls T fps)) H' fps' := by
    have : all' (or' f T) (bF ls fps fps') = all' (or' f (cT ls T fps)) fps' := funext fun b => propext (allE b)
    unfold fr
    rw [this]
  have leF : Le (fr T H fps) (fr (or' f T) H' (bF ls fps fps')) := by
    rw [frE, ← fr_c (ls := ls)]
    exact st.le
  have notC : ∀ {i : Nat} {b : Addr}, ¬ isLent ls i → fps i b → cT ls T fps b := fun hn h => .inr ⟨_, hn, h⟩
  refine ⟨⟨b1.trans I.len, fun i b x y => ?_, fun i i' ne b x y => ?_, fun b z => J.trk b ((allE b).mp z), fun i l k d e => ?_, fun i q => ?_, I.lu⟩, frE, fun b x y => df b x (.inl y), ⟨fun b hb => st.aside b (.inl hb), leF⟩⟩
  · rcases x with ⟨j, hj, x⟩ | ⟨hn, x⟩
    · rcases y with y | y
      · exact J.disT j b x (.inl y)
      · exact J.disT j b x (.inr (.inl y))
    · rcases y with y | y
      · exact df b y (notC hn x)
      · exact I.disT i b x y
  · rcases x with ⟨j, hj, x⟩ | ⟨hn, x⟩
    · rcases y with ⟨j', hj', y⟩ | ⟨hn', y⟩
      · refine J.dis j j' (fun e => ne ?_) b x y
        subst e
        rw [hj] at hj'
        cases hj'; rfl
      · exact J.disT j b x (.inr (notC hn' y))
    · rcases y with ⟨j', hj', y⟩ | ⟨hn', y⟩
      · exact J.disT j' b y (.inr (notC hn x))
      · exact I.dis i i' ne b x y
  · by_cases hl : isLent ls i
    · obtain ⟨j, hj⟩ := hl
      obtain ⟨sv, v, e1, e2, e3⟩ := A.at_ j _ hj
      cases e3 with
      | @l _ l0 k0 d0 _ he hσ =>
        obtain ⟨c1, c2⟩ := b3 i j l0 k0 d0 hj he
        by_cases hr : ∃ k' d', r[j]? = some (.sv true k' d')
        · obtain ⟨k', d', hr⟩ := hr
          rw [c1 k' d' hr] at e
          cases e
          obtain ⟨w, w1, w2, w3⟩ := J.slot j true k d (by unfold lentOnly; rw [List.getElem?_map, hr]; rfl)
          rw [List.getElem?_map, e2] at w1
          cases w1
          refine ⟨v, hσ, ?_, fun hl' => ?_⟩
          · have ef : bF ls fps fps' i = fps' j := by
              funext b
              refine propext ⟨fun z => ?_, fun z => .inl ⟨j, hj, z⟩⟩
              rcases z with ⟨j', hj', z⟩ | ⟨hn, _⟩
              · rw [lent_uniq nd hj hj']; exact z
              · exact absurd ⟨j, hj⟩ hn
            rw [ef, show hid H' (all' (or' f T) (bF ls fps fps')) = _ from frE]
            exact w2
          · obtain ⟨u, u1, u2, u3⟩ := I.slot i l k0 d0 he
            rw [hσ] at u1
            cases u1
            exact u3 hl'
        · rw [c2 fun k' d' z => hr ⟨k', d', z⟩] at e
          cases e
    · rw [b2 i fun j hj => hl ⟨j, hj⟩] at e
      obtain ⟨v, v1, v2, v3⟩ := I.slot i l k d e
      refine ⟨v, v1, ?_, v3⟩
      have ef : bF ls fps fps' i = fps i := by
        funext b
        refine propext ⟨fun z => ?_, fun z => .inr ⟨hl, z⟩⟩
        rcases z with ⟨j', hj', z⟩ | ⟨_, z⟩
        · exact absurd ⟨j', hj'⟩ hl
        · exact z
      rw [ef]
      exact v2.keep k leF fun b hb => st.aside b (notC hl hb)
  · funext b
    refine propext ⟨fun z => ?_, fun z => z.elim⟩
    rcases z with ⟨j, hj, z⟩ | ⟨hn, z⟩
    · obtain ⟨sv, v, e1, e2, e3⟩ := A.at_ j _ hj
      cases e3 with
      | @l _ l0 k0 d0 _ he hσ =>
        obtain ⟨c1, c2⟩ := b3 i j l0 k0 d0 hj he
        by_cases hr : ∃ k' d', r[j]? = some (.sv true k' d')
        · obtain ⟨k', d', hr⟩ := hr
          exact absurd (c1 k' d' hr) (q _ _ _)
        · have : fps' j = none' := J.out j fun l k d e => hr ⟨k, d, (lentOnly_get e).2⟩
          rw [this] at z
          exact z
    · have := I.out i fun l k d e => q l k d (by rw [b2 i fun j hj => hn ⟨j, hj⟩]; exact e)
      rw [this] at z
      exact z
end
section
variable {G : Gh}
/-- the call, from what its arguments gave -/
theorem call_run {fi n k : Nat} {pm : Option (List Nat)} {ar : Ar} {ds : List PyData} {env : EnvD} {T : As} {H0 H : Hp} {fps0 fps : Nat → As} {σ : L2.St} {vs : List V} {Q : VK} (I : SOk G.K G.L T env σ H fps) (st : Stp T H0 fps0 T H fps) (A : ArV G.K (fr T H fps) σ ar ds vs) (hn : (lents ar).length = n)
    (hq : Out (callD G.c fi k pm (lents ar) ds env) (fun r => ∀ v H', VOut G T H0 fps0 σ k r v H' → Q v H') (XW G T H0 fps0)) : spF G.K G.XI G.c fi n (permV pm vs) H Q G.EX := by
  unfold callD at hq
  obtain ⟨nd, hq⟩ := hq.ite_bad
  obtain ⟨svs', e1, hq⟩ := hq.of_bind
  obtain ⟨ls', e2, hq⟩ := hq.of_bind
  obtain ⟨svs, e3, e4⟩ := Option.bind_eq_some_iff.mp e1
  obtain ⟨A', nd', hl⟩ := (args_of A e3).perm e4 e2
  have nd' := nd' nd
  refine ⟨by rw [A'.l2, hl, hn], cL ls' (permV pm vs), cT ls' T fps, svs', cF ls' fps, I.enter A' nd', fun p hp => (cL_mem.mp hp).2, hq.bind.mono (fun r _ hr v H' ho => ?_) fun x _ hx cls a H' kp le xi => ?_⟩
  · obtain ⟨hk, hr⟩ := hr.ite_bad
    obtain ⟨fps', f, J, R, df, st'⟩ := ho
    obtain ⟨J2, frE, df2, st2⟩ := I.leave A' nd' J df st'
    refine (show ∀ v H', VOut G T H0 fps0 σ k (r.1, lentBack ls' r.2 env) v H' → Q v H' from hr) v H' ?_
    rw [← frE] at R
    by_cases hc : isCont r.1 = false ∨ k = 0
    · obtain ⟨J3, le3⟩ := J2.show
      have hd : Dat G.K (fr T H' (bF ls' fps fps')) v r.1 := by
        refine R.dat _ le3 fun b hb => ?_
        refine hid_out ?_
        rintro (z | ⟨i, z⟩)
        · exact df2 b hb z
        · exact J2.disT i b z (.inl hb)
      exact .of0 J3 hd hc (st.tr ⟨st2.aside, st2.le.trans le3⟩)
    · have hk : k = G.c.ret fi := by
        rcases hk with z | z | z
        · exact absurd (.inl z) hc
        · exact absurd (.inr z) hc
        · exact z
      subst hk
      exact ⟨_, f, J2, R, df2, st.tr st2⟩
  · refine hx cls a H' (fun b hb => (kp b (.inl hb)).trans (st.aside b hb)) ?_ xi
    rw [fr_c] at le
    exact st.le.trans (le.trans (hid_mono fun b hb => .inl hb))
end
end Fx
set_option Elab.async false
set_option linter.all false
set_option maxRecDepth 100000
/-! M23: calls and comprehensions as rules. -/
namespace Fx
open PySem PySem.Spec PyProof.Rows L2
def Ar.app : Ar → Ar → Ar
  | .nil, b => b
  | .v e as, b => .v e (as.app b)
  | .l i as, b => .l i (as.app b)
theorem Rs.bind_ok {α β : Type} {r : Rs α} {f : α → Rs β} {b : β} (h : r.bind f = .ok b) : ∃ a, r = .ok a ∧ f a = .ok b := by
  cases r with
  | ok a => exact ⟨a, rfl, h⟩
  | ex x => cases h
  | bad => cases h
theorem Rs.bind_assoc {α β γ : Type} (r : Rs α) (f : α → Rs β) (g : β → Rs γ) : (r.bind f).bind g = r.bind fun a => (f a).bind g := by cases r <;> rfl
theorem evR_app {c : Orc} : ∀ {a b : Ar} {env : EnvD}, evR c (a.app b) env = (evR c a env).bind fun r => (evR c b r.2).bind fun z => .ok (r.1 ++ z.1, z.2)
  | .nil, b, env => by
    simp only [Ar.app, evR]
    show evR c b env = (evR c b env).bind _
    cases evR c b env <;> rfl
  | .v e as, b, env => by
    simp only [Ar.app, evR]
    cases ev c e 0 env with
    | ok r =>
      show (evR c (as.app b) r.2).bind _ = ((evR c as r.2).bind _).bind _
      rw [evR_app, Rs.bind_assoc, Rs.bind_assoc]
      cases evR c as r.2 with
      | ok z =>
        show ((evR c b z.2).bind _).bind _ = (evR c b z.2).bind _
        cases evR c b z.2 <;> rfl
      | ex x => rfl
      | bad => rfl
    | ex x => rfl
    | bad => rfl
  | .l i as, b, env => by
    simp only [Ar.app, evR]
    split
    · exact evR_app
    · rfl
theorem lents_app : ∀ {a b : Ar}, lents (a.app b) = lents a ++ lents b
  | .nil, _ => rfl
  | .v _ as, b => by simp only [Ar.app, lents]; rw [lents_app]; rfl
  | .l _ as, b => by simp only [Ar.app, lents]; rw [lents_app]; rfl
theorem ArV.app {K : PySem.W.Frag} {F : Hp} {σ : L2.St} : ∀ {a b : Ar} {ds es : List PyData} {vs ws : List V}, ArV K F σ a ds vs → ArV K F σ b es ws → ArV K F σ (a.app b) (ds ++ es) (vs ++ ws)
  | _, _, _, _, _, _, .nil, h => h
  | _, _, _, _, _, _, .v hd t, h => .v hd (t.app h)
  | _, _, _, _, _, _, .l hd t, h => .l hd (t.app h)
theorem ArV.len {K : PySem.W.Frag} {F : Hp} {σ : L2.St} : ∀ {a : Ar} {ds : List PyData} {vs : List V}, ArV K F σ a ds vs → vs.length = (lents a).length
  | _, _, _, .nil => rfl
  | _, _, _, .v _ t => congrArg (· + 1) t.len
  | _, _, _, .l _ t => congrArg (· + 1) t.len
/-- the values of keywords -/
inductive PKr (G : Gh) (X : Cx) (c : Orc) : Ar → List Keyword → List Str → Prop
  | nil : PKr G X c .nil [] []
  | v {e : E} {es : Ar} {a : Expr} {as : List Keyword} {nm : Str} {p : Pos} {ks : List Str} : PEk G X c e a → PKr G X c es as ks → PKr G X c (.v e es) (⟨some nm, a, p⟩ :: as) (nm :: ks)
  | l {i : Nat} {es : Ar} {a : Expr} {as : List Keyword} {nm : Str} {p : Pos} {ks : List Str} : PE X a (tP G (.at i)) → PKr G X c es as ks → PKr G X c (.l i es) (⟨some nm, a, p⟩ :: as) (nm :: ks)
section
variable {Γ : Gam} {G : Gh} {X : Cx}
theorem _root_.L2.PK.weaken {X : Cx} {e : List Keyword} {t t' : TA} (h : PK X e t) (w : ∀ σ H Q, t' σ H Q → t σ H Q) : PK X e t' := ⟨fun pos pins s σ H Q I q => h.run pos pins s σ H Q I (w σ H Q q)⟩
theorem pk_args : ∀ {ar : Ar} {kws : List Keyword} {ks : List Str}, PKr G X G.c ar kws ks → PK X kws (tR G ar) ∧ (∀ pos, (backToKw pos (keywordEach kws X.env)).all (·.1.isSome) = true ∧ (backToKw pos (keywordEach kws X.env)).filterMap (·.1) = ks ∧ (backToKw pos (keywordEach kws X.env)).any (·.1.isNone) = false) ∧ (lents ar).length = ks.length
  | _, _, _, .nil => ⟨pk_nil.weaken fun σ H Q ⟨T, env, fps, I, h⟩ => by
      simp only [evR] at h
      exact h [] H fps I .nil (Stp.refl _ _ _), fun pos => ⟨rfl, rfl, rfl⟩, rfl⟩
  | _, _, _, .v h t => by
    obtain ⟨p1, p2, p3⟩ := pk_args t
    refine ⟨(pk_cons (h.v 0) p1).weaken fun σ H Q ⟨T, env, fps, I, hq⟩ => ?_, fun pos => ?_, congrArg (· + 1) p3⟩
    · simp only [evR] at hq
      refine ⟨T, env, fps, I, hq.bind.mono (fun r _ hr v H1 ho => ?_) fun _ _ z => z⟩
      obtain ⟨fps1, I1, d1, st1⟩ := ho.zero
      refine ⟨T, r.2, fps1, I1, hr.bind.mono (fun z _ hz vs H2 fps2 I2 a2 st2 => ?_) fun _ _ z => z.step0 st1⟩
      exact hz (v :: vs) H2 fps2 I2 (.v (d1.mono st2.le) a2) (st1.tr st2)
    · obtain ⟨q1, q2, q3⟩ := p2 pos
      exact ⟨q1, congrArg (List.cons _) q2, q3⟩
  | _, _, _, .l h t => by
    obtain ⟨p1, p2, p3⟩ := pk_args t
    refine ⟨(pk_cons h p1).weaken fun σ H Q ⟨T, env, fps, I, hq⟩ => ?_, fun pos => ?_, congrArg (· + 1) p3⟩
    · simp only [evR] at hq
      obtain ⟨h1, h2⟩ := hq.ite_bad
      obtain ⟨⟨j, d⟩, e⟩ := Option.isSome_iff_exists.mp h1
      refine ⟨T, env, fps, I, j, d, e, fun v fp _ _ hx => ⟨T, env, fps, I, h2.mono (fun z _ hz vs H2 fps2 I2 a2 st2 => ?_) fun _ _ z => z⟩⟩
      exact hz (v :: vs) H2 fps2 I2 (.l (hx _ rfl) a2) st2
    · obtain ⟨q1, q2, q3⟩ := p2 pos
      exact ⟨q1, congrArg (List.cons _) q2, q3⟩
theorem par_star : ∀ {ar : Ar} {as : List Expr}, PAr G X G.c ar as → noStar as = true
  | _, _, .nil => rfl
  | _, _, .v _ hs t => by simp only [noStar, List.all_cons, Bool.and_eq_true]; exact ⟨hs, par_star t⟩
  | _, _, .l _ hs t => by simp only [noStar, List.all_cons, Bool.and_eq_true]; exact ⟨hs, par_star t⟩
theorem k_call {f : Nat} {ar : Ar} {x : Str} {ps : List Str} {as : List Expr} {p pos : Pos} (ok : Ok Γ G X) (hf : Γ.fns[f]? = some (x, ps)) (hg : isGl Γ x = true) (h : PAr G X G.c ar as) (hn : (lents ar).length = ps.length) : PEk G X G.c (.call f none ar) (.Call (.Name x p) as [] pos) := by
  refine ne_p (fun k => ?_) rfl
  obtain ⟨fa, fd, m1, m2, m3, m4, m5⟩ := ok.fns f x ps hf
  obtain ⟨g1', g2'⟩ := ok.gl hg
  obtain ⟨n1, n2, n3⟩ := okName_1 g2'
  have fin : ∀ σ H Q, tV G k (ev G.c (.call f none ar) k) σ H Q → tCall (spF G.K G.XI G.c f ps.length) [] G.EX (tR G ar) σ H Q := fun σ H Q ⟨T, env, fps, I, hq⟩ => by
    simp only [ev] at hq
    refine ⟨T, env, fps, I, hq.bind.mono (fun r _ hr vs H1 fps1 I1 A1 st1 => ?_) fun _ _ z => z⟩
    show spF G.K G.XI G.c f ps.length (vs ++ []) H1 Q G.EX
    rw [List.append_nil]
    exact call_run (pm := none) I1 st1 A1 hn hr
  cases as with
  | nil =>
    cases h
    exact (pe_call0 m3 ok.room g1' m1 m2 m4 .nil ok.pass n1).weaken fun σ H Q hq => by
      have := fin σ H Q hq
      obtain ⟨T, env, fps, I, hq⟩ := this
      simp only [evR] at hq
      exact hq [] H fps I .nil (Stp.refl _ _ _)
  | cons a as =>
    have hs : noStar1 a = true ∧ noStar as = true := by simpa [noStar] using par_star h
    exact (pe_call m3 ok.room g1' m1 m2 m4 .nil ok.pass (pa_args h) n1 (star_cons hs.1) (star_any hs.2)).weaken fin
theorem k_callK {f : Nat} {ar ak : Ar} {js : List Nat} {x : Str} {ps ks : List Str} {a : Expr} {as : List Expr} {kws : List Keyword} {p pos : Pos} (ok : Ok Γ G X) (hf : Γ.fns[f]? = some (x, ps)) (hg : isGl Γ x = true) (h : PAr G X G.c ar (a :: as)) (h' : PKr G X G.c ak kws ks)
    (hk : (f, (lents ar).length, ks, js) ∈ Γ.kws) (hn : (lents ar).length + (lents ak).length = ps.length) : PEk G X G.c (.call f (some js) (ar.app ak)) (.Call (.Name x p) (a :: as) kws pos) := by
  refine ne_p (fun k => ?_) rfl
  obtain ⟨fa, fd, m1, m2, m3, m4, m5⟩ := ok.fns f x ps hf
  obtain ⟨g1', g2'⟩ := ok.gl hg
  obtain ⟨n1, n2, n3⟩ := okName_1 g2'
  have hs : noStar1 a = true ∧ noStar as = true := by simpa [noStar] using par_star h
  obtain ⟨q1, q2, q3⟩ := pk_args h'
  obtain ⟨r1, r2, r3⟩ := q2 pos
  refine (pe_callN m3 ok.room g1' m1 m2 (m5 _ ks js hk) ok.pass (pa_args h) q1 r1 r2 n1 (star_cons hs.1) (by rw [r3, star_cons hs.1]; show (false || (backTo pos (starEach as X.env)).any (·.1) || false) = false; rw [star_any hs.2]; rfl)).weaken fun σ H Q ⟨T, env, fps, I, hq⟩ => ?_
  simp only [ev] at hq
  rw [evR_app, Rs.bind_assoc] at hq
  refine ⟨T, env, fps, I, hq.bind.mono (fun r _ hr vs H1 fps1 I1 A1 st1 => ⟨T, r.2, fps1, I1, ?_⟩) fun _ _ z => z⟩
  rw [Rs.bind_assoc] at hr
  refine hr.bind.mono (fun z _ hz ws H2 fps2 I2 A2 st2 => ⟨A1.len, by rw [A2.len, q3], ?_⟩) fun _ _ z => z.step0 st1
  exact call_run (pm := some js) I2 (st1.tr st2) ((A1.mono st2.le).app A2) (by rw [lents_app, List.length_append]; exact hn) hz
theorem k_callK0 {f : Nat} {ak : Ar} {js : List Nat} {x : Str} {ps ks : List Str} {kws : List Keyword} {p pos : Pos} (ok : Ok Γ G X) (hf : Γ.fns[f]? = some (x, ps)) (hg : isGl Γ x = true) (h' : PKr G X G.c ak kws ks)
    (hk : (f, 0, ks, js) ∈ Γ.kws) (hn : (lents ak).length = ps.length) : PEk G X G.c (.call f (some js) ak) (.Call (.Name x p) [] kws pos) := by
  refine ne_p (fun k => ?_) rfl
  obtain ⟨fa, fd, m1, m2, m3, m4, m5⟩ := ok.fns f x ps hf
  obtain ⟨g1', g2'⟩ := ok.gl hg
  obtain ⟨n1, n2, n3⟩ := okName_1 g2'
  obtain ⟨q1, q2, q3⟩ := pk_args h'
  obtain ⟨r1, r2, r3⟩ := q2 pos
  refine ⟨fun pins s σ H Q I ⟨T, env, fps, J, hq⟩ => ?_⟩
  simp only [ev] at hq
  refine wpAny_Call_Name_kw (ld_glob I g1' m1 ?_ n1)
  refine PySem.W.callWith_KW0 (h₀ := X.base) I.ok.mod.kin m2 r1 ?_ (by rw [r3]; rfl)
  refine thn (q1.run pos pins s σ H (fun ws H2 => ws.length = ks.length ∧ spF G.K G.XI G.c f ps.length (permL js ([] ++ ws)) H2 Q G.EX) I ⟨T, env, fps, J, hq.bind.mono (fun z _ hz ws H2 fps2 I2 A2 st2 => ?_) fun _ _ z => z⟩) fun us s2 ⟨zs, H2, I2, rz, l2, hs⟩ => ⟨I2.kIn, ?_⟩
  · refine ⟨by rw [A2.len, q3], ?_⟩
    exact call_run (pm := some js) I2 st2 A2 hn hz
  · rw [r2]
    exact run_fnN (us := []) (vs := []) m3 ok.room (m5 0 ks js hk) ok.pass I2 .nil rz rfl l2 hs
/-! ### comprehensions -/
def Gam.blk (Γ : Gam) (scope : Scope) : Gam := { Γ with sc := relS scope Γ.sc, st := false }
theorem Ok.blk (ok : Ok Γ G X) (scope : Scope) (s : Shared) (H : Hp) (C : Addr) (cl : List (Str × Addr)) (fp : List Addr) : Ok (Γ.blk scope) G.blk (X.blk s H scope (compEnvC scope cl C X.env) fp) where
  hK := ok.hK
  hN := ok.hN
  nd := ok.nd
  sc := by show relS scope X.env.scope = relS scope Γ.sc; rw [ok.sc]
  calm := ok.calm
  hu := ok.hu
  blt := ok.blt
  con := ok.con
  room := ok.room
  pass := fun pins σ H s e s' _ h => (ok.passN _ _ _ _ _ h).elim
  own := PassesOwn.never
  cel := fun x h => by cases h
  passN := ok.passN
  fns := ok.fns
def swB (Γ : Gam) (y : Str) (py pos : Pos) (scope : Scope) : Bool := isFun Γ && isLocal Γ y && (py.line == pos.line) && !(scope.names.any fun (n, k) => n == y && (k == .local || k == .cell))
theorem k_lc {own : List Nat} {tg : Tg} {it : It} {ts : Tts} {e : E} {tx ix ex : Expr} {ifs : List Expr} {scope : Scope} {ownP : List (Str × Nat)} {pos : Pos} (ok : Ok Γ G X) (sub : ∀ j ∈ tg.slots, j ∈ own) (hp : ownP.map (·.2) = own) (hb : blkC Γ.N Γ.sc scope ownP = true) (hi : PI X tx ix (tI G (evI G.c it)))
    (ht : ∀ X', Ok (Γ.blk scope) G.blk X' → PG X' tx (tG G.blk tg)) (hc : ∀ X', Ok (Γ.blk scope) G.blk X' → PTs X' ifs (tT G.blk (evTs G.c ts))) (he : ∀ X', Ok (Γ.blk scope) G.blk X' → PEk G.blk X' G.c e ex) (hs : okIter ix = true) : PEk G X G.c (.lc own tg it ts e) (.ListComp ex [⟨tx, ix, ifs, 0⟩] scope pos) := by
  refine ne_p (fun k => ?_) rfl
  subst hp
  have bo : BlkOk X.N X.env.scope scope ownP := blkOk_by (by rw [ok.hN, ok.sc]; exact hb)
  refine (pe_lc ok.calm (by rw [ok.hN]; exact ok.nd) hi bo (fun s H C cl fp => ht _ (ok.blk scope s H C cl fp)) (fun s H C cl fp => hc _ (ok.blk scope s H C cl fp)) (fun s H C cl fp => (he _ (ok.blk scope s H C cl fp)).v (k - 1)) (iter_ok hs)).weaken fun σ H Q hq => lc_run sub hq
theorem sw_val (ok : Ok Γ G X) {ex : Expr} {gs : List Comprehension} {scope : Scope} {pos py : Pos} {y : Str} {l : Nat} (hf : isFun Γ = true) : swapsWith (.ListComp ex gs scope pos) (some (.Name y py)) l X.env = pure (swB Γ y py pos scope) := by
  obtain ⟨b1, b2⟩ := blk_fun ok hf
  unfold swapsWith swB isLocal
  simp only [b1, hf, Expr.pos]
  show (pure _ : Sem Bool) = pure _
  congr 1
  have e : (X.env.kindOf y == some .local) = decide (Γ.sc.names.lookup y = some .local) := by
    rw [← ok.sc]
    show (X.env.scope.names.lookup y == some .local) = _
    by_cases h : X.env.scope.names.lookup y = some .local
    · rw [h]; simp
    · simp only [h, decide_false]
      simpa using h
  rw [e]
  rfl
theorem s_nmlc {i k : Nat} {own : List Nat} {tg : Tg} {it : It} {ts : Tts} {e : E} {tx ix ex : Expr} {ifs : List Expr} {scope : Scope} {ownP : List (Str × Nat)} {y : Str} {py pos spos : Pos} {rk : Nat} (ok : Ok Γ G X) (hf : isFun Γ = true) (hy : Γ.N[i]? = some y) (hx : isSto Γ y = true)
    (sub : ∀ j ∈ tg.slots, j ∈ own) (hp : ownP.map (·.2) = own) (hb : blkC Γ.N Γ.sc scope ownP = true) (hi : PI X tx ix (tI G (evI G.c it)))
    (ht : ∀ X', Ok (Γ.blk scope) G.blk X' → PG X' tx (tG G.blk tg)) (hc : ∀ X', Ok (Γ.blk scope) G.blk X' → PTs X' ifs (tT G.blk (evTs G.c ts))) (he : ∀ X', Ok (Γ.blk scope) G.blk X' → PEk G.blk X' G.c e ex) (hs : okIter ix = true) :
    PS X (.Assign [.Name y py] (.ListComp ex [⟨tx, ix, ifs, 0⟩] scope pos) spos) (tS G rk (exS G.c rk (.as (.nm i) k (.lc own tg it ts e)))) := by
  have hsw := sw_val (ex := ex) (gs := [⟨tx, ix, ifs, 0⟩]) (scope := scope) (pos := pos) (py := py) (y := y) (l := spos.line) ok hf
  cases hB : swB Γ y py pos scope with
  | false =>
    obtain ⟨h1, h2⟩ := sto_ok ok hx
    rw [hB] at hsw
    exact (ps_set (i := i) (by rw [ok.hN]; exact ok.nd) (by rw [ok.hN]; exact hy) h1 ((k_lc (pos := pos) ok sub hp hb hi ht hc he hs).v k) hsw h2).weaken fun D σ H hq => nm_out hq
  | true =>
    rw [hB] at hsw
    have hyl : isLocal Γ y = true := by
      unfold swB at hB
      simp only [Bool.and_eq_true] at hB
      exact hB.1.1.2
    subst hp
    have bo : BlkOk X.N X.env.scope scope ownP := blkOk_by (by rw [ok.hN, ok.sc]; exact hb)
    refine (ps_setLc (i := i) ok.calm (by rw [ok.hN]; exact ok.nd) (by rw [ok.hN]; exact hy) (kind_loc ok hyl).2 hsw hi bo (fun s H C cl fp => ht _ (ok.blk scope s H C cl fp)) (fun s H C cl fp => hc _ (ok.blk scope s H C cl fp)) (fun s H C cl fp => (he _ (ok.blk scope s H C cl fp)).v (k - 1)) (iter_ok hs)).weaken fun D σ H hq => lc_run sub (nm_out hq)
end
end Fx
set_option Elab.async false
set_option linter.all false
set_option maxRecDepth 100000
/-! M24: the text held against the tree, expressions. -/
namespace Fx
open PySem PySem.Spec PyProof.Rows L2
def isOp (n : Bool) : CmpOp → Bool
  | .Is => !n
  | .IsNot => n
  | _ => false
theorem isOp_eq {n : Bool} {op : CmpOp} (h : isOp n op = true) : op = if n then .IsNot else .Is := by
  cases op <;> cases n <;> first | rfl | cases h
def ownP (Γ : Gam) (own : List Nat) : List (Str × Nat) := own.map fun i => (Γ.N.getD i "", i)
theorem ownP_snd {Γ : Gam} {own : List Nat} : (ownP Γ own).map (·.2) = own := by
  unfold ownP
  rw [List.map_map]
  exact List.map_id' own
def allIn (is own : List Nat) : Bool := is.all fun i => own.contains i
theorem allIn_ok {is own : List Nat} (h : allIn is own = true) : ∀ j ∈ is, j ∈ own := fun j hj => by
  have := List.all_eq_true.mp h j hj
  simpa using this
def fnIs (Γ : Gam) (f : Nat) (x : Str) (n : Nat) : Bool := match Γ.fns[f]? with
  | some (y, ps) => decide (y = x) && decide (n = ps.length)
  | none => false
theorem fnIs_ok {Γ : Gam} {f : Nat} {x : Str} {n : Nat} (h : fnIs Γ f x n = true) : ∃ ps, Γ.fns[f]? = some (x, ps) ∧ n = ps.length := by
  unfold fnIs at h
  split at h
  · rename_i y ps e
    simp only [Bool.and_eq_true, decide_eq_true_eq] at h
    obtain ⟨rfl, h2⟩ := h
    exact ⟨ps, e, h2⟩
  · cases h
def kwNames (kws : List Keyword) : List Str := kws.filterMap (·.arg)
mutual
def chkE : E → Gam → Expr → Bool
  | .p p, Γ, a => chkP Γ p a
  | .tup es, Γ, a => match a with
    | .Tuple as _ _ => chkEs es Γ as
    | _ => false
  | .lst es, Γ, a => match a with
    | .List as _ => chkEs es Γ as
    | _ => false
  | .dnew, _, a => match a with
    | .Dict [] [] _ => true
    | _ => false
  | .b2 o x y, Γ, a => match a with
    | .BinOp ax op bx _ => opOk o op && chkE x Γ ax && chkE y Γ bx
    | _ => false
  | .neg x, Γ, a => match a with
    | .UnaryOp .USub ax _ => chkE x Γ ax
    | _ => false
  | .c2 o x y, Γ, a => match a with
    | .Compare ax [op] [bx] _ => cmpOk o op && chkE x Γ ax && chkE y Γ bx && noSet bx
    | _ => false
  | .isN x n, Γ, a => match a with
    | .Compare ax [op] [.Constant .none _ _] _ => isOp n op && chkE x Γ ax
    | _ => false
  | .isB x b, Γ, a => match a with
    | .Compare ax [.Is] [.Constant (.bool b') _ _] _ => (b == b') && chkE x Γ ax
    | _ => false
  | .ch o o' x y z, Γ, a => match a with
    | .Compare ax [op, op'] [bx, cx] _ => cmpOk o op && cmpOk o' op' && chkE x Γ ax && chkE y Γ bx && chkE z Γ cx && noSet cx
    | _ => false
  | .not x, Γ, a => match a with
    | .UnaryOp .Not ax _ => chkE x Γ ax
    | _ => false
  | .and x y, Γ, a => match a with
    | .BoolOp .And (ax :: bx :: r) pos => chkE x Γ ax && (match r with
      | [] => chkE y Γ bx
      | _ :: _ => chkE y Γ (.BoolOp .And (bx :: r) pos))
    | _ => false
  | .or x y, Γ, a => match a with
    | .BoolOp .Or (ax :: bx :: r) pos => chkE x Γ ax && (match r with
      | [] => chkE y Γ bx
      | _ :: _ => chkE y Γ (.BoolOp .Or (bx :: r) pos))
    | _ => false
  | .ite t x y, Γ, a => match a with
    | .IfExp tx ax bx _ => chkT t Γ tx && chkE x Γ ax && chkE y Γ bx
    | _ => false
  | .ix x y, Γ, a => match a with
    | .Subscript ax bx _ => chkE x Γ ax && chkE y Γ bx && noSlice bx
    | _ => false
  | .sl x lo hi, Γ, a => match a with
    | .Subscript ax (.Slice l h none _) _ => chkE x Γ ax && chkO lo Γ l && chkO hi Γ h
    | _ => false
  | .rev x, Γ, a => match a with
    | .Subscript ax (.Slice none none (some (.UnaryOp .USub (.Constant (.int 1) _ _) _)) _) _ => chkE x Γ ax
    | _ => false
  | .isa t x, Γ, a => match a with
    | .Call (.Name f _) [ax, .Name g _] [] _ => decide (f = nIsi) && decide (g = tyS t) && isGl Γ nIsi && isGl Γ (tyS t) && chkE x Γ ax && noStar1 ax
    | _ => false
  | .bi b es, Γ, a => match a with
    | .Call (.Name f _) (ax :: as) [] _ => decide (f = bname b) && chkEs es Γ (ax :: as) && noStar (ax :: as) && isGl Γ (bname b)
    | _ => false
  | .mu m i ps _ es, Γ, a => match a with
    | .Call (.Attribute o nm apos) as [] cpos => chkPath Γ i ps o && decide (nm = muN m) && decide (apos.endLine = cpos.line) && chkEs es Γ as && decide (as.length ≤ 1)
    | _ => false
  | .call f pm ar, Γ, a => match a with
    | .Call (.Name x _) as kws _ => isGl Γ x && fnIs Γ f x (as.length + kws.length) && chkAr ar Γ as kws && (match pm with
      | none => kws.isEmpty
      | some js => decide ((f, as.length, kwNames kws, js) ∈ Γ.kws))
    | _ => false
  | .lc own tg it ts e, Γ, a => match a with
    | .ListComp ex [⟨tx, ix, ifs, 0⟩] scope _ => allIn tg.slots own && blkC Γ.N Γ.sc scope (ownP Γ own) && chkI it Γ ix && chkTg (Γ.blk scope) tg tx && chkTs ts (Γ.blk scope) ifs && chkE e (Γ.blk scope) ex && okIter ix
    | _ => false
  | .nev, _, _ => true
def chkO : Eo → Gam → Option Expr → Bool
  | .none, _, a => match a with
    | none => true
    | some _ => false
  | .some e, Γ, a => match a with
    | none => false
    | some a => chkE e Γ a
def chkEs : Es → Gam → List Expr → Bool
  | .nil, _, as => match as with
    | [] => true
    | _ :: _ => false
  | .cons e es, Γ, as => match as with
    | [] => false
    | a :: as => chkE e Γ a && noStar1 a && chkEs es Γ as
def chkAr : Ar → Gam → List Expr → List Keyword → Bool
  | .nil, _, as, kws => as.isEmpty && kws.isEmpty
  | .v e r, Γ, as, kws => match as with
    | a :: as => chkE e Γ a && noStar1 a && chkAr r Γ as kws
    | [] => match kws with
      | ⟨some _, a, _⟩ :: kws => chkE e Γ a && chkAr r Γ [] kws
      | _ => false
  | .l i r, Γ, as, kws => match as with
    | a :: as => chkP Γ (.at i) a && noStar1 a && chkAr r Γ as kws
    | [] => match kws with
      | ⟨some _, a, _⟩ :: kws => chkP Γ (.at i) a && chkAr r Γ [] kws
      | _ => false
def chkI : It → Gam → Expr → Bool
  | .e e, Γ, a => chkE e Γ a
  | .range es, Γ, a => match a with
    | .Call (.Name f _) as [] _ => decide (f = nRange) && isGl Γ nRange && chkEs es Γ as && decide (1 ≤ as.length) && decide (as.length ≤ 2)
    | _ => false
def chkT : Tt → Gam → Expr → Bool
  | .c2 o x y, Γ, a => match a with
    | .Compare ax [op] [bx] _ => cmpOk o op && chkE x Γ ax && chkE y Γ bx && noSet bx
    | _ => false
  | .ch o o' x y z, Γ, a => match a with
    | .Compare ax [op, op'] [bx, cx] _ => cmpOk o op && cmpOk o' op' && chkE x Γ ax && chkE y Γ bx && chkE z Γ cx && noSet cx
    | _ => false
  | .isN x n, Γ, a => match a with
    | .Compare ax [op] [.Constant .none _ _] _ => isOp n op && chkE x Γ ax
    | _ => false
  | .isB x b, Γ, a => match a with
    | .Compare ax [.Is] [.Constant (.bool b') _ _] _ => (b == b') && chkE x Γ ax
    | _ => false
  | .not t, Γ, a => match a with
    | .UnaryOp .Not ax _ => chkT t Γ ax
    | _ => false
  | .and t u, Γ, a => match a with
    | .BoolOp .And (ax :: bx :: r) pos => chkT t Γ ax && (match r with
      | [] => chkT u Γ bx
      | _ :: _ => chkT u Γ (.BoolOp .And (bx :: r) pos))
    | _ => false
  | .or t u, Γ, a => match a with
    | .BoolOp .Or (ax :: bx :: r) pos => chkT t Γ ax && (match r with
      | [] => chkT u Γ bx
      | _ :: _ => chkT u Γ (.BoolOp .Or (bx :: r) pos))
    | _ => false
  | .v e, Γ, a => chkE e Γ a && plainTest a
def chkTs : Tts → Gam → List Expr → Bool
  | .nil, _, as => match as with
    | [] => true
    | _ :: _ => false
  | .cons t ts, Γ, as => match as with
    | [a] => chkT t Γ a && (match ts with
      | .nil => true
      | .cons _ _ => false)
    | _ => false
end
def isBool1 : Expr → Bool
  | .BoolOp .. => true
  | _ => false
theorem and2 {a b : Bool} (h : (a && b) = true) : a = true ∧ b = true := by simpa using h
section
variable {G : Gh} {X : Cx}
theorem k_nev {a : Expr} : PEk G X G.c .nev a := ne_p (fun k => ⟨fun pins s σ H Q I ⟨T, env, fps, J, hq⟩ => by simp only [ev] at hq; exact hq.elim⟩) rfl
theorem ts_nil : PTs X [] (tT G (evTs G.c .nil)) := by
  have h : PTs X [] tYes := pts_nil
  exact ⟨fun pins s σ H Q I ⟨T, env, fps, J, hq⟩ => h.run pins s σ H Q I (by
    simp only [evTs] at hq
    exact (show ∀ H', TOut G T H fps σ env H' → Q true H' from hq) H ⟨fps, J, Stp.refl _ _ _⟩)⟩
theorem ts_one {t : Tt} {a : Expr} (h : PT X a (tT G (evT G.c t))) : PTs X [a] (tT G (evTs G.c (.cons t .nil))) := by
  refine ⟨fun pins s σ H Q I ⟨T, env, fps, J, hq⟩ => (pts_one h).run pins s σ H Q I ⟨T, env, fps, J, ?_⟩⟩
  simp only [evTs] at hq
  refine hq.bind.mono (fun r _ hr H1 ho => ?_) fun _ _ z => z
  obtain ⟨b, env1⟩ := r
  cases b with
  | true =>
    rw [if_pos rfl] at hr
    exact (show ∀ H', TOut G T H fps σ env1 H' → Q true H' from hr) H1 ho
  | false =>
    rw [if_neg (by simp)] at hr
    exact (show ∀ H', TOut G T H fps σ env1 H' → Q false H' from hr) H1 ho
end
/-- the positional ones, the ones by keyword -/
def SndAr (G : Gh) (X : Cx) (ar : Ar) (as : List Expr) (kws : List Keyword) : Prop := ∃ a1 a2, ar = a1.app a2 ∧ PAr G X G.c a1 as ∧ PKr G X G.c a2 kws (kwNames kws) ∧ (lents a1).length = as.length ∧ (lents a2).length = kws.length
theorem app_nil : ∀ a : Ar, a.app .nil = a
  | .nil => rfl
  | .v e as => congrArg (Ar.v e) (app_nil as)
  | .l i as => congrArg (Ar.l i) (app_nil as)
mutual
theorem snd_E : ∀ (e : E) {Γ : Gam} {G : Gh} {X : Cx} (ok : Ok Γ G X) (a : Expr), chkE e Γ a = true → PEk G X G.c e a
  | .p p, Γ, G, X, ok, a, h => k_p (snd_P ok p a (by unfold chkE at h; exact h))
  | .tup es, Γ, G, X, ok, a, h => by
    unfold chkE at h
    split at h
    · exact k_tup (snd_Es es ok _ h)
    · cases h
  | .lst es, Γ, G, X, ok, a, h => by
    unfold chkE at h
    split at h
    · exact k_lst (snd_Es es ok _ h)
    · cases h
  | .dnew, Γ, G, X, ok, a, h => by
    unfold chkE at h
    split at h
    · exact k_dnew
    · cases h
  | .b2 o x y, Γ, G, X, ok, a, h => by
    unfold chkE at h
    split at h
    · obtain ⟨h, h3⟩ := and2 h
      obtain ⟨h1, h2⟩ := and2 h
      rw [opOk_eq h1]
      exact k_b2 ok (snd_E x ok _ h2) (snd_E y ok _ h3)
    · cases h
  | .neg x, Γ, G, X, ok, a, h => by
    unfold chkE at h
    split at h
    · exact k_neg ok (snd_E x ok _ h)
    · cases h
  | .c2 o x y, Γ, G, X, ok, a, h => by
    unfold chkE at h
    split at h
    · obtain ⟨h, h4⟩ := and2 h
      obtain ⟨h, h3⟩ := and2 h
      obtain ⟨h1, h2⟩ := and2 h
      rw [cmpOk_eq h1]
      exact k_c2 ok (snd_E x ok _ h2) (snd_E y ok _ h3) h4
    · cases h
  | .isN x n, Γ, G, X, ok, a, h => by
    unfold chkE at h
    split at h
    · obtain ⟨h1, h2⟩ := and2 h
      rw [isOp_eq h1]
      exact k_isN ok (snd_E x ok _ h2)
    · cases h
  | .isB x b, Γ, G, X, ok, a, h => by
    unfold chkE at h
    split at h
    · obtain ⟨h1, h2⟩ := and2 h
      have e := beq_iff_eq.mp h1
      subst e
      exact k_isB ok (snd_E x ok _ h2)
    · cases h
  | .ch o o' x y z, Γ, G, X, ok, a, h => by
    unfold chkE at h
    split at h
    · obtain ⟨h, h6⟩ := and2 h
      obtain ⟨h, h5⟩ := and2 h
      obtain ⟨h, h4⟩ := and2 h
      obtain ⟨h, h3⟩ := and2 h
      obtain ⟨h1, h2⟩ := and2 h
      rw [cmpOk_eq h1, cmpOk_eq h2]
      exact k_ch ok (snd_E x ok _ h3) (snd_E y ok _ h4) (snd_E z ok _ h5) h6
    · cases h
  | .not x, Γ, G, X, ok, a, h => by
    unfold chkE at h
    split at h
    · exact k_not ok (snd_E x ok _ h)
    · cases h
  | .and x y, Γ, G, X, ok, a, h => by
    unfold chkE at h
    split at h
    · obtain ⟨h1, h2⟩ := and2 h
      split at h2
      · exact k_and ok (snd_E x ok _ h1) (k_one (snd_E y ok _ h2))
      · exact k_and ok (snd_E x ok _ h1) (snd_E y ok _ h2)
    · cases h
  | .or x y, Γ, G, X, ok, a, h => by
    unfold chkE at h
    split at h
    · obtain ⟨h1, h2⟩ := and2 h
      split at h2
      · exact k_or ok (snd_E x ok _ h1) (k_one (snd_E y ok _ h2))
      · exact k_or ok (snd_E x ok _ h1) (snd_E y ok _ h2)
    · cases h
  | .ite t x y, Γ, G, X, ok, a, h => by
    unfold chkE at h
    split at h
    · obtain ⟨h, h3⟩ := and2 h
      obtain ⟨h1, h2⟩ := and2 h
      exact k_ite (snd_T t ok _ h1).1 (snd_E x ok _ h2) (snd_E y ok _ h3)
    · cases h
  | .ix x y, Γ, G, X, ok, a, h => by
    unfold chkE at h
    split at h
    · obtain ⟨h, h3⟩ := and2 h
      obtain ⟨h1, h2⟩ := and2 h
      exact k_ix ok (snd_E x ok _ h1) (snd_E y ok _ h2) h3
    · cases h
  | .sl x lo hi, Γ, G, X, ok, a, h => by
    unfold chkE at h
    split at h
    · obtain ⟨h, h3⟩ := and2 h
      obtain ⟨h1, h2⟩ := and2 h
      exact k_sl ok (snd_E x ok _ h1) (snd_O lo ok _ h2) (snd_O hi ok _ h3)
    · cases h
  | .rev x, Γ, G, X, ok, a, h => by
    unfold chkE at h
    split at h
    · exact k_rev ok (snd_E x ok _ h)
    · cases h
  | .isa t x, Γ, G, X, ok, a, h => by
    unfold chkE at h
    split at h
    · obtain ⟨h, h6⟩ := and2 h
      obtain ⟨h, h5⟩ := and2 h
      obtain ⟨h, h4⟩ := and2 h
      obtain ⟨h, h3⟩ := and2 h
      obtain ⟨h1, h2⟩ := and2 h
      rw [of_decide_eq_true h1, of_decide_eq_true h2]
      exact k_isa ok (snd_E x ok _ h5) h6 h3 h4
    · cases h
  | .bi b es, Γ, G, X, ok, a, h => by
    unfold chkE at h
    split at h
    · obtain ⟨h, h4⟩ := and2 h
      obtain ⟨h, h3⟩ := and2 h
      obtain ⟨h1, h2⟩ := and2 h
      rw [of_decide_eq_true h1]
      exact k_bi ok (snd_Es es ok _ h2) h3 h4
    · cases h
  | .mu m i ps ke es, Γ, G, X, ok, a, h => by
    unfold chkE at h
    split at h
    · obtain ⟨h, h5⟩ := and2 h
      obtain ⟨h, h4⟩ := and2 h
      obtain ⟨h, h3⟩ := and2 h
      obtain ⟨h1, h2⟩ := and2 h
      have p := snd_Es es ok _ h4
      cases p with
      | nil => exact k_mu0 ok h1 (of_decide_eq_true h2) (of_decide_eq_true h3)
      | cons q hs t =>
        cases t with
        | nil => exact k_mu1 ok h1 (of_decide_eq_true h2) (of_decide_eq_true h3) q hs
        | cons _ _ _ => simp at h5
    · cases h
  | .call f pm ar, Γ, G, X, ok, a, h => by
    unfold chkE at h
    split at h
    · rename_i x p as kws cpos
      obtain ⟨h, h4⟩ := and2 h
      obtain ⟨h, h3⟩ := and2 h
      obtain ⟨h1, h2⟩ := and2 h
      obtain ⟨ps, e1, e2⟩ := fnIs_ok h2
      obtain ⟨a1, a2, ea, p1, p2, l1, l2⟩ := snd_Ar ar ok _ _ h3
      subst ea
      split at h4
      · cases kws with
        | nil =>
          cases p2
          have e0 := app_nil a1
          rw [e0]
          exact k_call ok e1 h1 p1 (by rw [l1]; simpa using e2)
        | cons _ _ => simp at h4
      · have h6 := h4
        cases as with
        | nil =>
          cases p1
          exact k_callK0 ok e1 h1 p2 (of_decide_eq_true h6) (by show (lents a2).length = _; rw [l2]; simpa using e2)
        | cons x xs => exact k_callK ok e1 h1 p1 p2 (by rw [l1]; exact of_decide_eq_true h6) (by rw [l1, l2]; exact e2)
    · cases h
  | .lc own tg it ts e, Γ, G, X, ok, a, h => by
    unfold chkE at h
    split at h
    · obtain ⟨h, h7⟩ := and2 h
      obtain ⟨h, h6⟩ := and2 h
      obtain ⟨h, h5⟩ := and2 h
      obtain ⟨h, h4⟩ := and2 h
      obtain ⟨h, h3⟩ := and2 h
      obtain ⟨h1, h2⟩ := and2 h
      exact k_lc ok (allIn_ok h1) ownP_snd h2 (snd_I it ok _ _ h3) (fun X' ok' => snd_G ok' tg _ h4) (fun X' ok' => snd_Ts ts ok' _ h5) (fun X' ok' => snd_E e ok' _ h6) h7
    · cases h
  | .nev, Γ, G, X, ok, a, h => k_nev
theorem snd_O : ∀ (e : Eo) {Γ : Gam} {G : Gh} {X : Cx} (ok : Ok Γ G X) (a : Option Expr), chkO e Γ a = true → PO X a (tPO G (evO G.c e))
  | .none, Γ, G, X, ok, a, h => by
    unfold chkO at h
    split at h
    · exact o_none
    · cases h
  | .some e, Γ, G, X, ok, a, h => by
    unfold chkO at h
    split at h
    · cases h
    · exact o_some (snd_E e ok _ h)
theorem snd_Es : ∀ (es : Es) {Γ : Gam} {G : Gh} {X : Cx} (ok : Ok Γ G X) (as : List Expr), chkEs es Γ as = true → PEs G X G.c es as
  | .nil, Γ, G, X, ok, as, h => by
    unfold chkEs at h
    split at h
    · exact .nil
    · cases h
  | .cons e es, Γ, G, X, ok, as, h => by
    unfold chkEs at h
    split at h
    · cases h
    · obtain ⟨h, h3⟩ := and2 h
      obtain ⟨h1, h2⟩ := and2 h
      exact .cons (snd_E e ok _ h1) h2 (snd_Es es ok _ h3)
theorem snd_Ar : ∀ (ar : Ar) {Γ : Gam} {G : Gh} {X : Cx} (ok : Ok Γ G X) (as : List Expr) (kws : List Keyword), chkAr ar Γ as kws = true → SndAr G X ar as kws
  | .nil, Γ, G, X, ok, as, kws, h => by
    unfold chkAr at h
    obtain ⟨h1, h2⟩ := and2 h
    cases as with
    | nil =>
      cases kws with
      | nil => exact ⟨.nil, .nil, rfl, .nil, .nil, rfl, rfl⟩
      | cons _ _ => cases h2
    | cons _ _ => cases h1
  | .v e r, Γ, G, X, ok, as, kws, h => by
    unfold chkAr at h
    split at h
    · obtain ⟨h, h3⟩ := and2 h
      obtain ⟨h1, h2⟩ := and2 h
      obtain ⟨a1, a2, e0, p1, p2, l1, l2⟩ := snd_Ar r ok _ _ h3
      exact ⟨.v e a1, a2, by rw [e0]; rfl, .v (snd_E e ok _ h1) h2 p1, p2, congrArg (· + 1) l1, l2⟩
    · split at h
      · obtain ⟨h1, h2⟩ := and2 h
        obtain ⟨a1, a2, e0, p1, p2, l1, l2⟩ := snd_Ar r ok _ _ h2
        cases p1
        exact ⟨.nil, .v e a2, by rw [e0]; rfl, .nil, .v (snd_E e ok _ h1) p2, rfl, congrArg (· + 1) l2⟩
      · cases h
  | .l i r, Γ, G, X, ok, as, kws, h => by
    unfold chkAr at h
    split at h
    · obtain ⟨h, h3⟩ := and2 h
      obtain ⟨h1, h2⟩ := and2 h
      obtain ⟨a1, a2, e0, p1, p2, l1, l2⟩ := snd_Ar r ok _ _ h3
      exact ⟨.l i a1, a2, by rw [e0]; rfl, .l (snd_P ok _ _ h1) h2 p1, p2, congrArg (· + 1) l1, l2⟩
    · split at h
      · obtain ⟨h1, h2⟩ := and2 h
        obtain ⟨a1, a2, e0, p1, p2, l1, l2⟩ := snd_Ar r ok _ _ h2
        cases p1
        exact ⟨.nil, .l i a2, by rw [e0]; rfl, .nil, .l (snd_P ok _ _ h1) p2, rfl, congrArg (· + 1) l2⟩
      · cases h
theorem snd_I : ∀ (it : It) {Γ : Gam} {G : Gh} {X : Cx} (ok : Ok Γ G X) (tg a : Expr), chkI it Γ a = true → PI X tg a (tI G (evI G.c it))
  | .e e, Γ, G, X, ok, tg, a, h => i_e ok (snd_E e ok a (by unfold chkI at h; exact h))
  | .range es, Γ, G, X, ok, tg, a, h => by
    unfold chkI at h
    split at h
    · obtain ⟨h, h5⟩ := and2 h
      obtain ⟨h, h4⟩ := and2 h
      obtain ⟨h, h3⟩ := and2 h
      obtain ⟨h1, h2⟩ := and2 h
      rw [of_decide_eq_true h1]
      have p := snd_Es es ok _ h3
      cases p with
      | nil => simp at h4
      | cons q hs t =>
        cases t with
        | nil => exact i_rng1 ok q hs h2
        | cons q' hs' t =>
          cases t with
          | nil => exact i_rng2 ok q hs q' hs' h2
          | cons _ _ _ => simp at h5
    · cases h
theorem snd_T : ∀ (t : Tt) {Γ : Gam} {G : Gh} {X : Cx} (ok : Ok Γ G X) (a : Expr), chkT t Γ a = true → PT X a (tT G (evT G.c t)) ∧ (isBool1 a = true → PW X a (tT G (evT G.c t)))
  | .c2 o x y, Γ, G, X, ok, a, h => by
    unfold chkT at h
    split at h
    · obtain ⟨h, h4⟩ := and2 h
      obtain ⟨h, h3⟩ := and2 h
      obtain ⟨h1, h2⟩ := and2 h
      rw [cmpOk_eq h1]
      exact ⟨t_c2 ok (snd_E x ok _ h2) (snd_E y ok _ h3) h4, fun z => by cases z⟩
    · cases h
  | .ch o o' x y z, Γ, G, X, ok, a, h => by
    unfold chkT at h
    split at h
    · obtain ⟨h, h6⟩ := and2 h
      obtain ⟨h, h5⟩ := and2 h
      obtain ⟨h, h4⟩ := and2 h
      obtain ⟨h, h3⟩ := and2 h
      obtain ⟨h1, h2⟩ := and2 h
      rw [cmpOk_eq h1, cmpOk_eq h2]
      exact ⟨t_ch ok (snd_E x ok _ h3) (snd_E y ok _ h4) (snd_E z ok _ h5) h6, fun z => by cases z⟩
    · cases h
  | .isN x n, Γ, G, X, ok, a, h => by
    unfold chkT at h
    split at h
    · obtain ⟨h1, h2⟩ := and2 h
      rw [isOp_eq h1]
      exact ⟨t_isN ok (snd_E x ok _ h2), fun z => by cases z⟩
    · cases h
  | .isB x b, Γ, G, X, ok, a, h => by
    unfold chkT at h
    split at h
    · obtain ⟨h1, h2⟩ := and2 h
      have e := beq_iff_eq.mp h1
      subst e
      exact ⟨t_isB ok (snd_E x ok _ h2), fun z => by cases z⟩
    · cases h
  | .not t, Γ, G, X, ok, a, h => by
    unfold chkT at h
    split at h
    · exact ⟨t_not (snd_T t ok _ h).1, fun z => by cases z⟩
    · cases h
  | .and t u, Γ, G, X, ok, a, h => by
    unfold chkT at h
    split at h
    · rename_i ax bx r pos
      obtain ⟨h1, h2⟩ := and2 h
      split at h2
      · have w := t_and (pos := pos) (snd_T t ok _ h1).1 (pw_and1 (snd_T u ok _ h2).1)
        exact ⟨w.pt, fun _ => w⟩
      · have w := t_and (snd_T t ok _ h1).1 ((snd_T u ok _ h2).2 rfl)
        exact ⟨w.pt, fun _ => w⟩
    · cases h
  | .or t u, Γ, G, X, ok, a, h => by
    unfold chkT at h
    split at h
    · rename_i ax bx r pos
      obtain ⟨h1, h2⟩ := and2 h
      split at h2
      · have w := t_or (pos := pos) (snd_T t ok _ h1).1 (pw_or1 (snd_T u ok _ h2).1)
        exact ⟨w.pt, fun _ => w⟩
      · have w := t_or (snd_T t ok _ h1).1 ((snd_T u ok _ h2).2 rfl)
        exact ⟨w.pt, fun _ => w⟩
    · cases h
  | .v e, Γ, G, X, ok, a, h => by
    unfold chkT at h
    obtain ⟨h1, h2⟩ := and2 h
    exact ⟨t_v ok (snd_E e ok _ h1) h2, fun z => by cases a <;> first | (simp [plainTest] at h2; done) | cases z⟩
theorem snd_Ts : ∀ (ts : Tts) {Γ : Gam} {G : Gh} {X : Cx} (ok : Ok Γ G X) (as : List Expr), chkTs ts Γ as = true → PTs X as (tT G (evTs G.c ts))
  | .nil, Γ, G, X, ok, as, h => by
    unfold chkTs at h
    split at h
    · exact ts_nil
    · cases h
  | .cons t ts, Γ, G, X, ok, as, h => by
    unfold chkTs at h
    split at h
    · obtain ⟨h1, h2⟩ := and2 h
      split at h2
      · exact ts_one (snd_T t ok _ h1).1
      · cases h2
    · cases h
end
end Fx
set_option Elab.async false
set_option linter.all false
set_option maxRecDepth 100000
/-! M25: the text held against the tree, statements. -/
namespace Fx
open PySem PySem.Spec PyProof.Rows L2
def isLcE : E → Bool
  | .lc .. => true
  | _ => false
mutual
def chkS : S → Gam → Stmt → Bool
  | .as t k e, Γ, s => match s with
    | .Assign [tx] ex _ => (match t with
      | .nm i => (match tx with
        | .Name x _ => decide (Γ.N[i]? = some x) && isSto Γ x && chkE e Γ ex && (if isLcE e = true then isFun Γ else noComp ex)
        | _ => false)
      | .tp ts => (match tx with
        | .Tuple es _ _ => chkTgs Γ ts es && chkE e Γ ex && tupOk es ex
        | _ => false))
    | _ => false
  | .par i j ki kj a b, Γ, s => match s with
    | .Assign [.Tuple [.Name x px, .Name y py] _ _] (.Tuple [ax, bx] _ _) _ => decide (Γ.N[i]? = some x) && decide (Γ.N[j]? = some y) && decide (i ≠ j) && chkE a Γ ax && chkE b Γ bx && parOk Γ x y px py [ax, bx]
    | _ => false
  | .put i ps x k e, Γ, s => match s with
    | .Assign [.Subscript o xx _] ex _ => chkPath Γ i ps o && chkP Γ x xx && noSlice xx && chkE e Γ ex
    | _ => false
  | .aug i o e, Γ, s => match s with
    | .AugAssign (.Name x _) op ex _ => decide (Γ.N[i]? = some x) && isSto Γ x && opOk o op && chkE e Γ ex
    | _ => false
  | .augp i ps x o e, Γ, s => match s with
    | .AugAssign (.Subscript ox xx _) op ex _ => chkPath Γ i ps ox && chkP Γ x xx && noSlice xx && opOk o op && chkP Γ e ex
    | _ => false
  | .ex e, Γ, s => match s with
    | .Expr ex _ => chkE e Γ ex && noComp ex
    | _ => false
  | .iff t a b, Γ, s => match s with
    | .If tx as bs _ => chkT t Γ tx && chkSs a Γ as && chkSs b Γ bs
    | _ => false
  | .for tg it b, Γ, s => match s with
    | .For tx ix bs [] _ => chkTg Γ tg tx && chkI it Γ ix && chkSs b Γ bs && okIter ix
    | _ => false
  | .whl t b, Γ, s => match s with
    | .While tx bs [] _ => chkT t Γ tx && chkSs b Γ bs
    | _ => false
  | .ret e, Γ, s => match s with
    | .Return (some ex) _ => chkE e Γ ex
    | _ => false
  | .retN, _, s => match s with
    | .Return none _ => true
    | _ => false
  | .brk, _, s => match s with
    | .Break _ => true
    | _ => false
  | .cont, _, s => match s with
    | .Continue _ => true
    | _ => false
  | .pas, _, s => match s with
    | .Pass _ => true
    | .Expr (.Constant (.str _) _ _) _ => true
    | _ => false
  | .nev, _, _ => true
def chkSs : Ss → Gam → List Stmt → Bool
  | .nil, _, ss => match ss with
    | [] => true
    | _ :: _ => false
  | .cons s r, Γ, ss => match ss with
    | [] => false
    | x :: xs => chkS s Γ x && chkSs r Γ xs
end
mutual
theorem snd_S : ∀ (s : S) {Γ : Gam} {G : Gh} {X : Cx} {rk : Nat} (ok : Ok Γ G X) (st : Stmt), chkS s Γ st = true → PS X st (tS G rk (exS G.c rk s))
  | .as (.nm i) k e, Γ, G, X, rk, ok, st, h => by
    unfold chkS at h
    split at h
    · simp only at h
      split at h
      · obtain ⟨h, h4⟩ := and2 h
        obtain ⟨h, h3⟩ := and2 h
        obtain ⟨h1, h2⟩ := and2 h
        have hi := of_decide_eq_true h1
        split at h4
        · cases e <;> first | (rename_i hl; cases hl; done) | skip
          rename_i own tg it ts e hh hl
          unfold chkE at h3
          split at h3
          · obtain ⟨h, h7⟩ := and2 h3
            obtain ⟨h, h6⟩ := and2 h
            obtain ⟨h, h5⟩ := and2 h
            obtain ⟨h, h8⟩ := and2 h
            obtain ⟨h, h3⟩ := and2 h
            obtain ⟨g1, g2⟩ := and2 h
            exact s_nmlc ok h4 hi h2 (allIn_ok g1) ownP_snd g2 (snd_I it ok _ _ h3) (fun X' ok' => snd_G ok' tg _ h8) (fun X' ok' => snd_Ts ts ok' _ h5) (fun X' ok' => snd_E e ok' _ h6) h7
          · cases h3
        · exact s_nm ok hi h2 (snd_E e ok _ h3) h4
      · cases h
    · cases h
  | .as (.tp ts) k e, Γ, G, X, rk, ok, st, h => by
    unfold chkS at h
    split at h
    · simp only at h
      split at h
      · obtain ⟨h, h3⟩ := and2 h
        obtain ⟨h1, h2⟩ := and2 h
        exact s_tp ok h1 (snd_E e ok _ h2) h3
      · cases h
    · cases h
  | .par i j ki kj a b, Γ, G, X, rk, ok, st, h => by
    unfold chkS at h
    split at h
    · obtain ⟨h, h6⟩ := and2 h
      obtain ⟨h, h5⟩ := and2 h
      obtain ⟨h, h4⟩ := and2 h
      obtain ⟨h, h3⟩ := and2 h
      obtain ⟨h1, h2⟩ := and2 h
      exact s_par ok (of_decide_eq_true h1) (of_decide_eq_true h2) (of_decide_eq_true h3) (snd_E a ok _ h4) (snd_E b ok _ h5) h6
    · cases h
  | .put i ps x k e, Γ, G, X, rk, ok, st, h => by
    unfold chkS at h
    split at h
    · obtain ⟨h, h4⟩ := and2 h
      obtain ⟨h, h3⟩ := and2 h
      obtain ⟨h1, h2⟩ := and2 h
      exact s_put ok h1 h2 h3 (snd_E e ok _ h4)
    · cases h
  | .aug i o e, Γ, G, X, rk, ok, st, h => by
    unfold chkS at h
    split at h
    · obtain ⟨h, h4⟩ := and2 h
      obtain ⟨h, h3⟩ := and2 h
      obtain ⟨h1, h2⟩ := and2 h
      rw [opOk_eq h3]
      exact s_aug ok (of_decide_eq_true h1) h2 (snd_E e ok _ h4)
    · cases h
  | .augp i ps x o e, Γ, G, X, rk, ok, st, h => by
    unfold chkS at h
    split at h
    · obtain ⟨h, h5⟩ := and2 h
      obtain ⟨h, h4⟩ := and2 h
      obtain ⟨h, h3⟩ := and2 h
      obtain ⟨h1, h2⟩ := and2 h
      rw [opOk_eq h4]
      exact s_augp ok h1 h2 h3 h5
    · cases h
  | .ex e, Γ, G, X, rk, ok, st, h => by
    unfold chkS at h
    split at h
    · obtain ⟨h1, h2⟩ := and2 h
      exact s_ex (snd_E e ok _ h1) h2
    · cases h
  | .iff t a b, Γ, G, X, rk, ok, st, h => by
    unfold chkS at h
    split at h
    · obtain ⟨h, h3⟩ := and2 h
      obtain ⟨h1, h2⟩ := and2 h
      exact s_if (snd_T t ok _ h1).1 (snd_Ss a ok _ h2) (snd_Ss b ok _ h3)
    · cases h
  | .for tg it b, Γ, G, X, rk, ok, st, h => by
    unfold chkS at h
    split at h
    · obtain ⟨h, h4⟩ := and2 h
      obtain ⟨h, h3⟩ := and2 h
      obtain ⟨h1, h2⟩ := and2 h
      exact s_for ok h1 (snd_I it ok _ _ h2) (snd_Ss b ok _ h3) h4
    · cases h
  | .whl t b, Γ, G, X, rk, ok, st, h => by
    unfold chkS at h
    split at h
    · obtain ⟨h1, h2⟩ := and2 h
      exact s_whl ok (snd_T t ok _ h1).1 (snd_Ss b ok _ h2)
    · cases h
  | .ret e, Γ, G, X, rk, ok, st, h => by
    unfold chkS at h
    split at h
    · exact s_ret (snd_E e ok _ h)
    · cases h
  | .retN, Γ, G, X, rk, ok, st, h => by
    unfold chkS at h
    split at h
    · exact s_retN
    · cases h
  | .brk, Γ, G, X, rk, ok, st, h => by
    unfold chkS at h
    split at h
    · exact s_brk
    · cases h
  | .cont, Γ, G, X, rk, ok, st, h => by
    unfold chkS at h
    split at h
    · exact s_cont
    · cases h
  | .pas, Γ, G, X, rk, ok, st, h => by
    unfold chkS at h
    split at h
    · exact s_pas
    · exact s_doc
    · cases h
  | .nev, Γ, G, X, rk, ok, st, h => s_nev
theorem snd_Ss : ∀ (ss : Ss) {Γ : Gam} {G : Gh} {X : Cx} {rk : Nat} (ok : Ok Γ G X) (sts : List Stmt), chkSs ss Γ sts = true → PSs X sts (tS G rk (exs G.c rk ss))
  | .nil, Γ, G, X, rk, ok, sts, h => by
    unfold chkSs at h
    split at h
    · exact ss_nil
    · cases h
  | .cons s r, Γ, G, X, rk, ok, sts, h => by
    unfold chkSs at h
    split at h
    · cases h
    · obtain ⟨h1, h2⟩ := and2 h
      exact ss_cons (snd_S s ok _ h1) (snd_Ss r ok _ h2)
end
end Fx
set_option Elab.async false
set_option linter.all false
set_option maxRecDepth 100000
/-! M26: defs. -/
namespace Fx
open PySem PySem.Spec PyProof.Rows L2
structure Def where
  x : Str
  st : Stmt
  N : List Str
  ps : List Str
  F : Fn
def Def.gam (D : Def) (fns : List (Str × List Str)) (kws : List (Nat × Nat × List Str × List Nat)) (cons : List Str) : Gam := ⟨D.N, defScope D.st, true, fns, kws, cons⟩
def noFree (sc : Scope) : Bool := sc.names.all fun y => match y.2 with
  | .free => false
  | _ => true
def parsOk (P : List Str) (sc : Scope) : Bool := P.all fun x => match sc.names.lookup x with
  | some .local => true
  | some .cell => true
  | _ => false
def scopeOk (N P : List Str) (sc : Scope) : Bool := (match sc.kind with | .function => true | _ => false) && !sc.isCoroutine && !sc.isGenerator && decide N.Nodup && decide (N.take P.length = P) && parsOk P sc && noFree sc
theorem scope_ok {N P : List Str} {sc : Scope} (h : scopeOk N P sc = true) : FnScope N P sc := by
  unfold scopeOk at h
  obtain ⟨h, h7⟩ := and2 h
  obtain ⟨h, h6⟩ := and2 h
  obtain ⟨h, h5⟩ := and2 h
  obtain ⟨h, h4⟩ := and2 h
  obtain ⟨h, h3⟩ := and2 h
  obtain ⟨h1, h2⟩ := and2 h
  refine ⟨?_, by simpa using h2, by simpa using h3, of_decide_eq_true h4, of_decide_eq_true h5, fun x hx => ?_, fun y hy e => ?_⟩
  · split at h1
    · assumption
    · cases h1
  · have := List.all_eq_true.mp h6 x hx
    split at this
    · exact .inl (by assumption)
    · exact .inr (by assumption)
    · cases this
  · have := List.all_eq_true.mp h7 y hy
    rw [e] at this
    cases this
def Def.ok (D : Def) (fns : List (Str × List Str)) (kws : List (Nat × Nat × List Str × List Nat)) (cons : List Str) : Bool := decide (D.F.n = D.N.length) && decide (D.F.np = D.ps.length) && scopeOk D.N D.ps (defScope D.st) && chkSs D.F.body (D.gam fns kws cons) (defBody D.st)
abbrev FnD (K : PySem.W.Frag) (D : Def) (f : Addr) (fd : FuncData) : Prop := FunD K D.x D.x (defArgs D.st) (defBody D.st) (defScope D.st) [] [] f fd
/-- how its arguments bind -/
def BindP (D : Def) : Prop := ∀ (kV doc pm : Value) (an : Option Addr) (cdv ct : Value) (us : List Value), us.length = D.ps.length → bindArgs (PySem.W.fnOf D.x D.x (defArgs D.st) (defBody D.st) (defScope D.st) .none kV doc pm an cdv ct) ⟨us, []⟩ = pure (D.ps.zip us)
def KwP (D : Def) (n : Nat) (ks : List Str) (js : List Nat) : Prop := ∀ (kV doc pm : Value) (an : Option Addr) (cdv ct : Value) (us ws : List Value), us.length = n → ws.length = ks.length → bindArgs (PySem.W.fnOf D.x D.x (defArgs D.st) (defBody D.st) (defScope D.st) .none kV doc pm an cdv ct) ⟨us, ks.zip ws⟩ = pure (D.ps.zip (permL js (us ++ ws)))
theorem vals_at {vs : List V} {us : List Value} (h : Vals vs us) (j : Nat) : (vs[j]? = none ∧ us[j]? = none) ∨ ∃ v u, vs[j]? = some v ∧ us[j]? = some u ∧ RelV v u := by
  cases e : vs[j]? with
  | none =>
    refine .inl ⟨rfl, ?_⟩
    rw [List.getElem?_eq_none_iff] at e ⊢
    rw [← h.length]; exact e
  | some v =>
    obtain ⟨u, h1, h2⟩ := h.get e
    exact .inr ⟨v, u, rfl, h1, h2⟩
theorem vals_perm {vs : List V} {us : List Value} (h : Vals vs us) : ∀ js : List Nat, Vals (permL js vs) (permL js us)
  | [] => .nil
  | j :: js => by
    unfold permL
    rcases vals_at h j with ⟨h1, h2⟩ | ⟨v, u, h1, h2, h3⟩
    · rw [List.filterMap_cons, List.filterMap_cons, h1, h2]
      exact vals_perm h js
    · rw [List.filterMap_cons, List.filterMap_cons, h1, h2]
      exact .cons h3 (vals_perm h js)
section
variable {K : PySem.W.Frag} {L : List (Nat × V)} {T : As} {env : EnvD} {σ : L2.St} {H : Hp} {fps : Nat → As}
/-- more slots, all empty -/
theorem SOk.ext (I : SOk K L T env σ H fps) (n : Nat) : SOk K L T (env ++ List.replicate n .un) (σ ++ List.replicate n none) H fps := by
  have key : ∀ (i : Nat) (l : Bool) (k : Nat) (d : PyData), (env ++ List.replicate n SV.un)[i]? = some (.sv l k d) → env[i]? = some (.sv l k d) := fun i l k d e => by
    by_cases hi : i < env.length
    · rw [List.getElem?_append_left hi] at e; exact e
    · rw [List.getElem?_append_right (by omega), List.getElem?_replicate] at e
      split at e <;> cases e
  refine ⟨by simp [I.len], I.disT, I.dis, I.trk, fun i l k d e => ?_, fun i q => I.out i fun l k d e => q l k d ?_, I.lu⟩
  · obtain ⟨v, h1, h2, h3⟩ := I.slot i l k d (key i l k d e)
    have hi : i < σ.length := by
      rw [List.getElem?_eq_some_iff] at h1; exact h1.1
    exact ⟨v, by rw [List.getElem?_append_left hi]; exact h1, h2, h3⟩
  · have hi : i < env.length := by
      rw [List.getElem?_eq_some_iff] at e; exact e.1
    rw [List.getElem?_append_left hi]; exact e
/-- the state at a return: what was lent -/
theorem SOk.exit {vs : List V} (I : SOk K L T env σ H fps) (hL : ∀ p ∈ L, vs[p.1]? = some p.2) : ∃ fps', SOk K L T (lentOnly (finD env vs.length)) (vs.map some) H fps' ∧ Le (fr T H fps) (fr T H fps') := by
  have key : ∀ {i k : Nat} {l : Bool} {d : PyData}, (lentOnly (finD env vs.length))[i]? = some (.sv l k d) → l = true ∧ env[i]? = some (.sv true k d) := fun {i k l d} e => by
    obtain ⟨h1, h2⟩ := lentOnly_get e
    refine ⟨h1, ?_⟩
    unfold finD at h2
    rw [List.getElem?_take] at h2
    split at h2
    · by_cases hi : i < env.length
      · rw [List.getElem?_append_left hi] at h2; exact h2
      · rw [List.getElem?_append_right (by omega), List.getElem?_replicate] at h2
        split at h2 <;> cases h2
    · cases h2
  let fps' : Nat → As := fun i b => (∃ k d, (lentOnly (finD env vs.length))[i]? = some (SV.sv true k d)) ∧ fps i b
  have sub : ∀ i b, fps' i b → fps i b := fun i b h => h.2
  have le : Le (fr T H fps) (fr T H fps') := hid_mono fun b z => z.imp id fun ⟨i, z⟩ => ⟨i, sub i b z⟩
  refine ⟨fps', ⟨?_, fun i b x y => I.disT i b (sub i b x) y, fun i j ne b x y => I.dis i j ne b (sub i b x) (sub j b y), fun b z => I.trk b (z.imp id fun ⟨i, z⟩ => ⟨i, sub i b z⟩), fun i l k d e => ?_, fun i q => ?_, I.lu⟩, le⟩
  · unfold lentOnly finD
    simp only [List.length_map, List.length_take, List.length_append, List.length_replicate]
    omega
  · obtain ⟨rfl, h2⟩ := key e
    obtain ⟨v, v1, v2, v3⟩ := I.slot i true k d h2
    have hv := hL _ (v3 rfl)
    refine ⟨v, by rw [List.getElem?_map, hv]; rfl, ?_, v3⟩
    have ef : fps' i = fps i := by
      funext b
      exact propext ⟨fun z => z.2, fun z => ⟨⟨k, d, e⟩, z⟩⟩
    rw [ef]
    exact v2.keep k le fun _ _ => rfl
  · funext b
    refine propext ⟨fun z => ?_, fun z => z.elim⟩
    obtain ⟨⟨k, d, e⟩, _⟩ := z
    exact (q _ _ _ e).elim
end
def XI0 : PyData → Value → Option Addr → Hp → Prop := fun _ _ _ _ => False
/-- the program: its defs, its constants -/
structure Prg where
  defs : List Def
  kws : List (Nat × Nat × List Str × List Nat)
  cons : List Str
  con : Nat → Option PyData
def Prg.fns (p : Prg) (i : Nat) : Option Fn := (p.defs[i]?).map Def.F
def Prg.sig (p : Prg) : List (Str × List Str) := p.defs.map fun D => (D.x, D.ps)
noncomputable def Prg.orc (p : Prg) (m : Nat) : Orc := ⟨callN p.fns p.con m, fun g => ((p.fns g).map Fn.ret).getD 0, p.con⟩
/-- what is known of the program behind its top -/
structure Prg.At (p : Prg) (K : PySem.W.Frag) (mg : Str → Option Value) : Prop where
  fn : ∀ D ∈ p.defs, ∃ f fd, mg D.x = some (.ref f) ∧ FnD K D f fd
  blt : ∀ x, x ∈ bltNames → mg x = none
  con : ∀ n x d, p.cons[n]? = some x → p.con n = some d → ∃ v u, mg x = some u ∧ RelV v u ∧ ∀ F, Dat K F v d
structure Prg.Ok (p : Prg) : Prop where
  chk : ∀ D ∈ p.defs, D.ok p.sig p.kws p.cons = true
  bind : ∀ D ∈ p.defs, BindP D
  kw : ∀ i n ks js D, (i, n, ks, js) ∈ p.kws → p.defs[i]? = some D → KwP D n ks js
theorem fn_ok {p : Prg} (o : p.Ok) {P : Program} {w : World} {K : PySem.W.Frag} {mg : Str → Option Value} {base : Heap} (a : p.At K mg) : ∀ (m i : Nat) (D : Def) (f : Addr) (fd : FuncData), p.defs[i]? = some D → mg D.x = some (.ref f) → FnD K D f fd →
    FnOk P w K mg base CX0 m f fd D.ps (spF K XI0 (p.orc m) i D.ps.length)
  | 0, i, D, f, fd, _, _, _ => ⟨fun vs H Q E h => h.1, fun A outer s H args us vs Q E _ _ _ _ h => by
      obtain ⟨_, L, T, svs, fps, _, _, h⟩ := h
      exact h.elim⟩
  | m + 1, i, D, f, fd, hD, hm, F => by
    have hmem := List.mem_of_getElem? hD
    have hc := o.chk D hmem
    unfold Def.ok at hc
    obtain ⟨hc, c4⟩ := and2 hc
    obtain ⟨hc, c3⟩ := and2 hc
    obtain ⟨c1, c2⟩ := and2 hc
    have c1 := of_decide_eq_true c1
    have c2 := of_decide_eq_true c2
    have S := scope_ok c3
    refine F.ok S (fun vs H Q E h => h.1) (fun cdv A outer s H vs Q E hr h => ?_)
    obtain ⟨hlen, L, T, svs, fps, I, hL, hq⟩ := h
    let G : Gh := ⟨p.orc m, K, L, XI0, fun _ _ _ => False, CX0, m⟩
    have ok : Fx.Ok (D.gam p.sig p.kws p.cons) G (cxOf CX0 P w K mg base D.N D.x (defScope D.st) f cdv A outer s H E).nox := {
      hK := rfl
      hN := rfl
      nd := S.nd
      sc := rfl
      calm := rfl
      hu := by have := hr.un; exact Nat.lt_of_le_of_lt (Nat.add_le_add_right (Nat.le_add_right _ _) 200) this
      blt := a.blt
      con := a.con
      room := hr
      pass := fun _ _ _ _ _ _ _ h => h.elim
      own := PassesOwn.never
      cel := fun _ _ => rfl
      passN := fun _ _ _ _ _ h => h
      fns := fun j x ps hj => by
        have hj : (p.defs.map fun D => (D.x, D.ps))[j]? = some (x, ps) := hj
        rw [List.getElem?_map] at hj
        obtain ⟨D', hD', e⟩ := Option.map_eq_some_iff.mp hj
        cases e
        have hmem' := List.mem_of_getElem? hD'
        obtain ⟨f', fd', m1, F'⟩ := a.fn D' hmem'
        refine ⟨f', fd', m1, F'.kp, fn_ok o a m j D' f' fd' hD' m1 F', F'.bindsN (o.bind D' hmem'), fun n ks js hk => ⟨fun s us ws _ l1 l2 => ?_, fun r1 r2 => vals_perm (r1.append r2) js⟩⟩
        obtain ⟨oc, od, dV, kV, doc, pm, an, cdv', ct, osl, rfl, _, _, hDf, _⟩ := F'.ex
        rcases hDf with ⟨_, rfl⟩ | ⟨e, _⟩
        · exact .of_eq (o.kw j n ks js D' hk hD' kV doc pm an cdv' ct us ws l1 l2)
        · exact absurd rfl e }
    refine ⟨tS G D.F.ret (exs G.c D.F.ret D.F.body), PSs.nox (snd_Ss D.F.body ok _ c4), T, svs ++ List.replicate (D.F.n - svs.length) .un, fps, ?_, ?_⟩
    · have e : L2.start D.N vs = vs.map some ++ List.replicate (D.F.n - svs.length) none := by
        unfold L2.start
        have := I.len
        rw [List.length_map] at this
        rw [c1, this]
      rw [e]
      exact I.ext _
    · have hq : Out (callN p.fns p.con (m + 1) i svs) (fun r => ∀ v H', FOut K L T H fps ((p.orc (m + 1)).ret i) vs r v H' → Q v H') (XWE XI0 E T H fps) := hq
      have hf : p.fns i = some D.F := by unfold Prg.fns; rw [hD]; rfl
      have hret : (p.orc (m + 1)).ret i = D.F.ret := by show ((p.fns i).map Fn.ret).getD 0 = _; rw [hf]; rfl
      rw [hret] at hq
      simp only [callN, hf] at hq
      obtain ⟨_, hq⟩ := hq.ite_bad
      have np : D.F.np = vs.length := by rw [c2, hlen]
      refine hq.bind.mono (fun fl _ hfl => ?_) fun x _ hx cls a H' _ _ xi => xi.elim
      cases fl with
      | rt d e =>
        intro v H' hro
        obtain ⟨σ', fps', g, J, R, dj, st⟩ := hro
        obtain ⟨f2, J2, le2⟩ := J.exit (vs := vs) hL
        refine (show ∀ v H', FOut K L T H fps D.F.ret vs (d, finD e D.F.np) v H' → Q v H' from hfl) v H' ⟨f2, g, ?_, R.keep _ le2 fun _ _ => rfl, dj, ⟨st.aside, st.le.trans le2⟩⟩
        rw [np]; exact J2
      | nx e =>
        intro σ' H' hno
        obtain ⟨fps', J, st⟩ := hno
        obtain ⟨f2, J2, le2⟩ := J.exit (vs := vs) hL
        refine (show ∀ v H', FOut K L T H fps D.F.ret vs (PyData.none, finD e D.F.np) v H' → Q v H' from hfl) .non H' ⟨f2, none', ?_, ?_, dis_none _, ?_⟩
        · rw [or_none, np]; exact J2
        · exact Rep.plain .non (.inl rfl)
        · rw [or_none]; exact ⟨st.aside, st.le.trans le2⟩
      | bk e => exact hfl.elim
      | ct e => exact hfl.elim
/-- the law's def -/
def spL (K : PySem.W.Frag) (n : Nat) : Sp := fun vs H Q _ => ∃ (a : Addr) (ns : List Int), vs = [.ref a] ∧ ns.length ≤ n ∧ SqL K H a (ns.map V.int) ∧ ∀ H', Q (.bl true) H'
theorem law_ok {p : Prg} (o : p.Ok) {P : Program} {w : World} {K : PySem.W.Frag} {mg : Str → Option Value} {base : Heap} (a : p.At K mg) {m i n : Nat} {D : Def} {f : Addr} {fd : FuncData} (hD : p.defs[i]? = some D) (hm : mg D.x = some (.ref f)) (F : FnD K D f fd) (hp : D.ps.length = 1)
    (h : ∀ ns : List Int, ns.length ≤ n → ∃ r, callN p.fns p.con m i [.sv false 0 (.list (ns.map .int))] = .ok (.bool true, r)) : FnOk P w K mg base CX0 m f fd D.ps (spL K n) := by
  refine (fn_ok o a m i D f fd hD hm F).imp fun vs H Q E hq => ?_
  obtain ⟨ad, ns, rfl, hn, hs, hq⟩ := hq
  obtain ⟨r, hr⟩ := h ns hn
  refine ⟨hp.symm, [], none', [.sv false 0 (.list (ns.map .int))], fun _ => none', ⟨rfl, fun _ => dis_none _, fun _ _ _ => dis_none _, fun b z => z.elim (fun z => z.elim) fun ⟨_, z⟩ => z.elim, fun j l k d e => ?_, fun _ _ => rfl, fun i v w h => (by cases h)⟩, fun p hp => (by cases hp), ?_⟩
  · cases j with
    | succ j => simp at e
    | zero =>
      simp at e
      obtain ⟨rfl, rfl, rfl⟩ := e
      refine ⟨.ref ad, rfl, ⟨rfl, .lst ?_ DatL.of_ints⟩, fun z => by cases z⟩
      have e : hid H (all' none' fun _ => none') = H := by
        funext b
        exact hid_out fun z => z.elim (fun z => z.elim) fun ⟨_, z⟩ => z.elim
      rw [e]; exact hs
  · show Out (callN p.fns p.con m i _) _ _
    rw [hr]
    intro v H' ho
    obtain ⟨fps', g, J, R, _, _⟩ := ho
    have := (rep_noncont R rfl).boolV
    rw [this]
    exact hq H'
end Fx
set_option Elab.async false
set_option linter.all false
set_option maxRecDepth 100000
/-! M27: what the head tells. -/
namespace Fx
open PySem PySem.Spec PyProof.Rows L2
mutual
/-- the value u is the datum d, as far as K tells -/
def datB (K : PySem.W.Frag) : PyData → Value → Bool
  | .none, u => match u with
    | .none => true
    | _ => false
  | .bool b, u => match u with
    | .bool c => b == c
    | _ => false
  | .int i, u => match u with
    | .int j _ => decide (i = j)
    | _ => false
  | .str x, u => match u with
    | .str y _ => decide (x = y)
    | _ => false
  | .tuple ds, u => match u with
    | .ref a => (match K.lookup a with
      | some ⟨.type c, _, .seq its _, _⟩ => decide (c = "tuple") && decide (its.size ≤ sizeLine) && datBs K ds its.toList
      | _ => false)
    | _ => false
  | .list ds, u => match u with
    | .ref a => (match K.lookup a with
      | some ⟨.type c, none, .seq its _, _⟩ => decide (c = "list") && decide (its.size ≤ sizeLine) && datBs K ds its.toList
      | _ => false)
    | _ => false
  | .dict _, _ => false
def datBs (K : PySem.W.Frag) : List PyData → List Value → Bool
  | [], us => match us with
    | [] => true
    | _ :: _ => false
  | d :: ds, us => match us with
    | [] => false
    | u :: us => datB K d u && datBs K ds us
end
mutual
theorem dat_of {K : PySem.W.Frag} : ∀ (d : PyData) (u : Value), datB K d u = true → ∃ v, RelV v u ∧ ∀ F, Dat K F v d
  | .none, u, h => by
    unfold datB at h
    split at h
    · exact ⟨.non, rfl, fun _ => .non⟩
    · cases h
  | .bool b, u, h => by
    unfold datB at h
    split at h
    · have e := beq_iff_eq.mp h
      subst e
      exact ⟨.bl b, rfl, fun _ => .bl b⟩
    · cases h
  | .int i, u, h => by
    unfold datB at h
    split at h
    · have e := of_decide_eq_true h
      subst e
      exact ⟨.int i, ⟨_, rfl⟩, fun _ => .int i⟩
    · cases h
  | .str x, u, h => by
    unfold datB at h
    split at h
    · have e := of_decide_eq_true h
      subst e
      exact ⟨.str x, ⟨_, rfl⟩, fun _ => .str x⟩
    · cases h
  | .tuple ds, u, h => by
    unfold datB at h
    split at h
    · rename_i a
      split at h
      · rename_i c od its n sl q
        obtain ⟨h, h3⟩ := and2 h
        obtain ⟨h1, h2⟩ := and2 h
        obtain ⟨vs, r, hd⟩ := dats_of ds _ h3
        exact ⟨.ref a, rfl, fun F => .tup (.inr ⟨_, its, n, q, congrArg Value.type (of_decide_eq_true h1), rfl, of_decide_eq_true h2, r⟩) (hd F)⟩
      · cases h
    · cases h
  | .list ds, u, h => by
    unfold datB at h
    split at h
    · rename_i a
      split at h
      · rename_i c its n sl q
        obtain ⟨h, h3⟩ := and2 h
        obtain ⟨h1, h2⟩ := and2 h
        obtain ⟨vs, r, hd⟩ := dats_of ds _ h3
        exact ⟨.ref a, rfl, fun F => .lst (.inr ⟨_, its, n, q, congrArg Value.type (of_decide_eq_true h1), rfl, rfl, of_decide_eq_true h2, r⟩) (hd F)⟩
      · cases h
    · cases h
  | .dict _, u, h => by
    unfold datB at h
    cases h
theorem dats_of {K : PySem.W.Frag} : ∀ (ds : List PyData) (us : List Value), datBs K ds us = true → ∃ vs, Vals vs us ∧ ∀ F, DatL K F vs ds
  | [], us, h => by
    unfold datBs at h
    split at h
    · exact ⟨[], .nil, fun _ => .nil⟩
    · cases h
  | d :: ds, us, h => by
    unfold datBs at h
    split at h
    · cases h
    · obtain ⟨h1, h2⟩ := and2 h
      obtain ⟨v, r1, d1⟩ := dat_of d _ h1
      obtain ⟨vs, r2, d2⟩ := dats_of ds _ h2
      exact ⟨v :: vs, .cons r1 r2, fun F => .cons (d1 F) (d2 F)⟩
end
/-- the module's name x is the datum d -/
def conOkB (K : PySem.W.Frag) (q : Str × PyData) : Bool := match PySem.W.nsIn K mainGlobals q.1 with
  | some (some u) => datB K q.2 u
  | _ => false
abbrev AlX : Type := Bool × List He.FnW
def obsX (da : List (Str × PyData)) (fa : List He.Fa) (fn : List He.DefD) (K : PySem.W.Frag) : AlX := ((He.obsD fa fn K).1 && da.all (conOkB K), (He.obsD fa fn K).2)
def SaysX (da : List (Str × PyData)) (fa : List He.Fa) (fn : List He.DefD) (K : PySem.W.Frag) : Prop := obsX da fa fn K = He.valD fn
def obsXG (n : Nat) (da : List (Str × PyData)) (fa : List He.Fa) (fn : List He.DefD) (g : Addr → Option Obj) : AlX := obsX da fa fn (He.frG g (He.asD g n))
def hookX (n : Nat) (da : List (Str × PyData)) (fa : List He.Fa) (fn : List He.DefD) : PySem.W.Hook where
  α := AlX
  obs := fun s => obsXG n da fa fn s.heap.get?
  val := fun _ => He.valD fn
  says := fun _ h => ∃ K : PySem.W.Frag, K.In h ∧ SaysX da fa fn K
  of := fun _ _ e => ⟨_, He.frG_in, e⟩
  keeps := fun _ _ _ ⟨K, hK, c⟩ k => ⟨K, PySem.W.Frag.In.keeps hK k, c⟩
theorem obsX_eq {n : Nat} {da : List (Str × PyData)} {fa : List He.Fa} {fn : List He.DefD} {g : Addr → Option Obj} {s : Shared} (h : ∀ a, g a = s.heap.get? a) : obsXG n da fa fn g = (hookX n da fa fn).obs s := by
  have e : g = s.heap.get? := funext h
  subst e
  rfl
theorem SaysX.d {da : List (Str × PyData)} {fa : List He.Fa} {fn : List He.DefD} {K : PySem.W.Frag} (c : SaysX da fa fn K) : He.SaysD fa fn K ∧ da.all (conOkB K) = true := by
  have c0 : obsX da fa fn K = He.valD fn := c
  have c1 : (obsX da fa fn K).1 = (He.valD fn).1 := by rw [c0]
  have c2 : (obsX da fa fn K).2 = (He.valD fn).2 := by rw [c0]
  obtain ⟨h1, h2⟩ := and2 (show ((He.obsD fa fn K).1 && da.all (conOkB K)) = true from c1)
  have c2 : (He.obsD fa fn K).2 = (He.valD fn).2 := c2
  refine ⟨?_, h2⟩
  show He.obsD fa fn K = He.valD fn
  have e : He.obsD fa fn K = ((He.obsD fa fn K).1, (He.obsD fa fn K).2) := rfl
  rw [e, h1, c2]
  rfl
def Def.d (D : Def) : He.DefD := ⟨(D.x, none), D.x, D.x, defArgs D.st, defBody D.st, defScope D.st, [], []⟩
def Prg.fa (p : Prg) : List He.Fa := p.defs.map (fun D => He.Fa.glo D.x) ++ bltNames.map He.Fa.free
def Prg.fn (p : Prg) : List He.DefD := p.defs.map Def.d
/-- the constants: by names -/
def Prg.da (p : Prg) : List (Str × PyData) := (List.range p.cons.length).filterMap fun n => match p.cons[n]?, p.con n with
  | some x, some d => some (x, d)
  | _, _ => none
theorem Prg.at_ {p : Prg} {K : PySem.W.Frag} {h : Heap} {mg : Str → Option Value} (X : K.In h) (G : h.Ns mainGlobals mg) (c : SaysX p.da p.fa p.fn K) : p.At K mg := by
  obtain ⟨c1, c2⟩ := c.d
  refine ⟨fun D hD => ?_, fun x hx => ?_, fun n x d hx hd => ?_⟩
  · obtain ⟨i, hi⟩ := List.getElem?_of_mem hD
    obtain ⟨fd, F⟩ := c1.def_ i (d := D.d) (by show (p.defs.map Def.d)[i]? = _; rw [List.getElem?_map, hi]; rfl)
    have hl : i < p.defs.length := by
      rw [List.getElem?_eq_some_iff] at hi; exact hi.1
    have f := c1.fact i (f := .glo D.x) (by
      show (p.defs.map (fun D => He.Fa.glo D.x) ++ _)[i]? = _
      rw [List.getElem?_append_left (by simpa using hl), List.getElem?_map, hi]; rfl)
    exact ⟨He.ga K D.x, fd, He.glo_ok X G f, F⟩
  · obtain ⟨i, hi⟩ := List.getElem?_of_mem hx
    have f := c1.fact (p.defs.length + i) (f := .free x) (by
      show (p.defs.map (fun D => He.Fa.glo D.x) ++ bltNames.map He.Fa.free)[p.defs.length + i]? = _
      rw [List.getElem?_append_right (by simp), List.length_map, Nat.add_sub_cancel_left, List.getElem?_map, hi]; rfl)
    exact He.free_ok X G f
  · have hn : n < p.cons.length := by
      rw [List.getElem?_eq_some_iff] at hx; exact hx.1
    have hm : (x, d) ∈ p.da := List.mem_filterMap.mpr ⟨n, List.mem_range.mpr hn, by rw [hx, hd]⟩
    have hb := List.all_eq_true.mp c2 _ hm
    unfold conOkB at hb
    split at hb
    · rename_i u e
      obtain ⟨v, r, hv⟩ := dat_of d u hb
      exact ⟨v, u, PySem.W.mg_of X G e, r, hv⟩
    · cases hb
end Fx
set_option Elab.async false
set_option linter.all false
set_option maxRecDepth 100000
/-! M28: the law's def, from the head's facts. -/
namespace Fx
open PySem PySem.Spec PyProof.Rows L2
theorem law_facts {p : Prg} (o : p.Ok) {i m : Nat} {D : Def} (hD : p.defs[i]? = some D) (hps : D.ps = ([("script" : Str)] : List Str)) (hl : ∀ ns : List Int, ns.length ≤ 63 → ∃ r, callN p.fns p.con m i [.sv false 0 (.list (ns.map .int))] = .ok (.bool true, r))
    {P : Program} {w : World} {K : PySem.W.Frag} {h : Heap} {mg : Str → Option Value} {f : Addr} (X : K.In h) (G : h.Ns mainGlobals mg) (hfa : mg D.x = some (.ref f)) (c : SaysX p.da p.fa p.fn K) :
    ∃ fd : FuncData, (∀ (s : Shared) (v : Value), BindsTo s fd ⟨[v], []⟩ [("script", v)]) ∧ ∀ base : Heap, K.In base → base.Ns mainGlobals mg → FnOk P w K mg base CX0 m f fd ["script"] (spL K 63) := by
  have a := Prg.at_ X G c
  have hm := List.mem_of_getElem? hD
  obtain ⟨f', fd, e, F⟩ := a.fn D hm
  have ef : f' = f := by
    rw [hfa] at e
    cases e; rfl
  subst ef
  refine ⟨fd, fun s v => ?_, fun base _ _ => ?_⟩
  · have b := FunD.bindsA (ps := D.ps) F (o.bind D hm) s [v] (by rw [hps]; rfl)
    rw [hps] at b
    exact b
  · have q := law_ok (P := P) (w := w) (base := base) (n := 63) o a hD hfa F (by rw [hps]; rfl) hl
    rw [hps] at q
    exact q
end Fx
set_option Elab.async false
set_option linter.all false
set_option maxRecDepth 100000
/-! N1: reckoning with the tree: calls. -/
namespace Fx
open PySem PySem.Spec PyProof.Rows L2
theorem r_ok {α β : Type} (a : α) (f : α → Rs β) : (Rs.ok a).bind f = f a := rfl
theorem r_bad {α β : Type} (f : α → Rs β) : (Rs.bad : Rs α).bind f = .bad := rfl
theorem r_of {α : Type} (a : α) : Rs.of (some a) = .ok a := rfl
theorem r_no {α : Type} : Rs.of (none : Option α) = .bad := rfl
theorem callN_eq {p : Prg} {m i : Nat} {D : Def} {as : List SV} (hD : p.defs[i]? = some D) (hl : lentOk D.F.lo as = true) : callN p.fns p.con (m + 1) i as = (exs (p.orc m) D.F.ret D.F.body (as ++ List.replicate (D.F.n - as.length) .un)).bind fun r => match r with
          | .rt d e => .ok (d, finD e D.F.np)
          | .nx e => .ok (.none, finD e D.F.np)
          | _ => .bad := by
  have hf : p.fns i = some D.F := by unfold Prg.fns; rw [hD]; rfl
  simp only [callN, hf]
  rw [if_pos hl]
  rfl
def svs (ds : List PyData) : List SV := ds.map (.sv false 0 ·)
/-- what a def gives at values -/
def callV (c : Orc) (f : Nat) (ds : List PyData) : Rs PyData := (c.fn f (svs ds)).bind fun r => .ok r.1
def Fl.val : Fl → Rs PyData
  | .rt d _ => .ok d
  | .nx _ => .ok .none
  | _ => .bad
theorem lentOk_svs : ∀ ds : List PyData, lentOk (ds.map fun _ => false) (svs ds) = true
  | [] => rfl
  | _ :: ds => by
    show ((false == false) && (false || decide (0 = 0)) && _) = true
    have := lentOk_svs ds
    unfold svs at this
    simpa using this
theorem callV_eq {p : Prg} {m i : Nat} {D : Def} {ds : List PyData} (hD : p.defs[i]? = some D) (hl : lentOk D.F.lo (svs ds) = true) : callV (p.orc (m + 1)) i ds = (exs (p.orc m) D.F.ret D.F.body (svs ds ++ List.replicate (D.F.n - ds.length) .un)).bind Fl.val := by
  unfold callV
  show (callN p.fns p.con (m + 1) i (svs ds)).bind _ = _
  rw [callN_eq hD hl]
  have e : (svs ds).length = ds.length := by simp [svs]
  rw [e]
  cases exs (p.orc m) D.F.ret D.F.body (svs ds ++ List.replicate (D.F.n - ds.length) .un) with
  | ok f => cases f <;> rfl
  | ex x => rfl
  | bad => rfl
def allV : Ar → Bool
  | .nil => true
  | .v _ as => allV as
  | .l _ _ => false
theorem lents_allV : ∀ {ar : Ar}, allV ar = true → (lents ar).filterMap id = [] ∧ (∀ r env, lentBack (lents ar) r env = env)
  | .nil, _ => ⟨rfl, fun r env => by cases r <;> rfl⟩
  | .v e as, h => by
    obtain ⟨h1, h2⟩ := lents_allV (ar := as) h
    refine ⟨h1, fun r env => ?_⟩
    cases r with
    | nil => rfl
    | cons sv r =>
      have : lentBack (none :: lents as) (sv :: r) env = lentBack (lents as) r env := by cases sv <;> rfl
      exact this.trans (h2 r env)
  | .l i as, h => by cases h
theorem argSV_allV {c : Orc} : ∀ {ar : Ar} {env : EnvD} {r : List PyData × EnvD}, allV ar = true → evR c ar env = .ok r → ∀ e, argSV (lents ar) r.1 e = some (svs r.1)
  | .nil, env, r, _, h, e => by
    simp only [evR] at h
    cases h; rfl
  | .v a as, env, r, ha, h, e => by
    simp only [evR] at h
    obtain ⟨x, h1, h2⟩ := Rs.bind_ok h
    obtain ⟨z, h3, h4⟩ := Rs.bind_ok h2
    cases h4
    have := argSV_allV (ar := as) ha h3 e
    show (argSV (lents as) z.1 e).map _ = _
    rw [this]; rfl
  | .l i as, _, _, h, _, _ => by cases h
theorem ev_call0 {c : Orc} {f : Nat} {ar : Ar} {env : EnvD} (h : allV ar = true) : ev c (.call f none ar) 0 env = (evR c ar env).bind fun r => (callV c f r.1).bind fun d => .ok (d, r.2) := by
  simp only [ev]
  cases hr : evR c ar env with
  | ok r =>
    show callD c f 0 none (lents ar) r.1 r.2 = (callV c f r.1).bind _
    obtain ⟨h1, h2⟩ := lents_allV h
    unfold callD callV
    rw [if_pos (by rw [h1]; exact List.nodup_nil), argSV_allV h hr]
    show (c.fn f (svs r.1)).bind _ = ((c.fn f (svs r.1)).bind _).bind _
    cases c.fn f (svs r.1) with
    | ok q =>
      show (if isCont q.1 = false ∨ 0 = 0 ∨ 0 = c.ret f then Rs.ok (q.1, lentBack (lents ar) q.2 r.2) else .bad) = .ok (q.1, r.2)
      rw [if_pos (.inr (.inl rfl)), h2]
    | ex x => rfl
    | bad => rfl
  | ex x => rfl
  | bad => rfl
section
variable (c : Orc)
theorem ev_p (p : P) (k : Nat) (env : EnvD) : ev c (.p p) k env = Rs.of (evPk c p k env) := by simp only [ev]
theorem ev_tup (es : Es) (k : Nat) (env : EnvD) : ev c (.tup es) k env = (evs c es 0 env).bind fun r => if r.1.length ≤ 16777216 then .ok (.tuple r.1, r.2) else .bad := by simp only [ev]
theorem ev_lst (es : Es) (k : Nat) (env : EnvD) : ev c (.lst es) k env = (evs c es (k - 1) env).bind fun r => if r.1.length ≤ 16777216 then .ok (.list r.1, r.2) else .bad := by simp only [ev]
theorem ev_b2 (o : B2) (a b : E) (k : Nat) (env : EnvD) : ev c (.b2 o a b) k env = fin c (opd2 c a b (ev c a 0) (ev c b 0)) (fun ds => (g2 (b2 o) ds).bind (own1 k)) env := by simp only [ev]
theorem ev_neg (a : E) (k : Nat) (env : EnvD) : ev c (.neg a) k env = fin c (opd1 c a (ev c a 0)) (g1 (p1 .neg)) env := by simp only [ev]
theorem ev_c2 (o : C2) (a b : E) (k : Nat) (env : EnvD) : ev c (.c2 o a b) k env = fin c (opd2 c a b (ev c a 0) (ev c b 0)) (g2 (c2B o)) env := by simp only [ev]
theorem ev_isN (a : E) (n : Bool) (k : Nat) (env : EnvD) : ev c (.isN a n) k env = fin c (opd1 c a (ev c a 0)) (g1 fun d => some (.bool (isNone d ^^ n))) env := by simp only [ev]
theorem ev_not (a : E) (k : Nat) (env : EnvD) : ev c (.not a) k env = (ev c a 0 env).bind fun r => (Rs.of (truth r.1)).bind fun t => .ok (.bool (!t), r.2) := by simp only [ev]
theorem ev_and (a b : E) (k : Nat) (env : EnvD) : ev c (.and a b) k env = (ev c a 0 env).bind fun r => (Rs.of (truth r.1)).bind fun t => if t = true then ev c b k r.2 else if isCont r.1 = false ∨ k = 0 then .ok r else .bad := by simp only [ev]
theorem ev_or (a b : E) (k : Nat) (env : EnvD) : ev c (.or a b) k env = (ev c a 0 env).bind fun r => (Rs.of (truth r.1)).bind fun t => if t = true then (if isCont r.1 = false ∨ k = 0 then .ok r else .bad) else ev c b k r.2 := by simp only [ev]
theorem ev_ite (t : Tt) (a b : E) (k : Nat) (env : EnvD) : ev c (.ite t a b) k env = (evT c t env).bind fun r => if r.1 = true then ev c a k r.2 else ev c b k r.2 := by simp only [ev]
theorem ev_ix (a b : E) (k : Nat) (env : EnvD) : ev c (.ix a b) k env = fin c (opd2 c a b (ev c a 0) (ev c b 0)) (fun ds => (g2 ixD ds).bind fun d => if k = 0 ∨ isCont d = false then some d else none) env := by simp only [ev]
theorem ev_sl (a : E) (lo hi : Eo) (k : Nat) (env : EnvD) : ev c (.sl a lo hi) k env = (ev c a 0 env).bind fun r => (evO c lo r.2).bind fun l => (evO c hi l.2).bind fun u => (Rs.of ((slD r.1 l.1 u.1).bind (own1 k))).bind fun d => .ok (d, u.2) := by simp only [ev]
theorem ev_isa (t : Ty) (a : E) (k : Nat) (env : EnvD) : ev c (.isa t a) k env = fin c (opd1 c a (ev c a 0)) (g1 (isaD t)) env := by simp only [ev]
theorem ev_bi (b : Bi) (es : Es) (k : Nat) (env : EnvD) : ev c (.bi b es) k env = fin c (evA c es) (fun ds => (bi b ds).bind (own1 k)) env := by simp only [ev]
theorem ev_call_0 (f : Nat) (env : EnvD) : ev c (.call f none .nil) 0 env = (evR c .nil env).bind fun r => (callV c f r.1).bind fun d => .ok (d, r.2) := ev_call0 rfl
theorem ev_call_1 (f : Nat) (a0 : E) (env : EnvD) : ev c (.call f none (.v a0 .nil)) 0 env = (evR c (.v a0 .nil) env).bind fun r => (callV c f r.1).bind fun d => .ok (d, r.2) := ev_call0 rfl
theorem ev_call_2 (f : Nat) (a0 a1 : E) (env : EnvD) : ev c (.call f none (.v a0 (.v a1 .nil))) 0 env = (evR c (.v a0 (.v a1 .nil)) env).bind fun r => (callV c f r.1).bind fun d => .ok (d, r.2) := ev_call0 rfl
theorem ev_call_3 (f : Nat) (a0 a1 a2 : E) (env : EnvD) : ev c (.call f none (.v a0 (.v a1 (.v a2 .nil)))) 0 env = (evR c (.v a0 (.v a1 (.v a2 .nil))) env).bind fun r => (callV c f r.1).bind fun d => .ok (d, r.2) := ev_call0 rfl
theorem ev_call_4 (f : Nat) (a0 a1 a2 a3 : E) (env : EnvD) : ev c (.call f none (.v a0 (.v a1 (.v a2 (.v a3 .nil))))) 0 env = (evR c (.v a0 (.v a1 (.v a2 (.v a3 .nil)))) env).bind fun r => (callV c f r.1).bind fun d => .ok (d, r.2) := ev_call0 rfl
theorem ev_call_5 (f : Nat) (a0 a1 a2 a3 a4 : E) (env : EnvD) : ev c (.call f none (.v a0 (.v a1 (.v a2 (.v a3 (.v a4 .nil)))))) 0 env = (evR c (.v a0 (.v a1 (.v a2 (.v a3 (.v a4 .nil))))) env).bind fun r => (callV c f r.1).bind fun d => .ok (d, r.2) := ev_call0 rfl
theorem ev_call_6 (f : Nat) (a0 a1 a2 a3 a4 a5 : E) (env : EnvD) : ev c (.call f none (.v a0 (.v a1 (.v a2 (.v a3 (.v a4 (.v a5 .nil))))))) 0 env = (evR c (.v a0 (.v a1 (.v a2 (.v a3 (.v a4 (.v a5 .nil)))))) env).bind fun r => (callV c f r.1).bind fun d => .ok (d, r.2) := ev_call0 rfl
end
end Fx
set_option Elab.async false
set_option linter.all false
set_option maxRecDepth 100000
/-! N2: while loops by their turns; Euclid. -/
namespace Fx
open PySem PySem.Spec PyProof.Rows L2
theorem whlN_mono {t : EnvD → Rs (Bool × EnvD)} {b : EnvD → Rs Fl} : ∀ {n m : Nat} {env : EnvD}, n ≤ m → (whlN t b n env).isBad = false → whlN t b m env = whlN t b n env
  | 0, _, _, _, h => by cases h
  | n + 1, 0, _, h, _ => by omega
  | n + 1, m + 1, env, hl, h => by
    simp only [whlN] at h ⊢
    cases ht : t env with
    | ok r =>
      rw [ht] at h
      obtain ⟨c, e⟩ := r
      cases c with
      | false => rfl
      | true =>
        have h : ((b e).bind _ : Rs Fl).isBad = false := h
        show (b e).bind _ = (b e).bind _
        cases hb : b e with
        | ok f =>
          rw [hb] at h
          cases f with
          | nx e' => exact whlN_mono (n := n) (m := m) (by omega) h
          | ct e' => exact whlN_mono (n := n) (m := m) (by omega) h
          | bk e' => rfl
          | rt d e' => rfl
        | ex x => rfl
        | bad => rfl
    | ex x => rfl
    | bad => rfl
theorem whlD_of {t : EnvD → Rs (Bool × EnvD)} {b : EnvD → Rs Fl} {n : Nat} {env : EnvD} {r : Rs Fl} (h : whlN t b n env = r) (hr : r.isBad = false) : whlD t b env = r := by
  have hex : ∃ n, (whlN t b n env).isBad = false := ⟨n, by rw [h]; exact hr⟩
  unfold whlD
  rw [dif_pos hex]
  have hc := hex.choose_spec
  rcases Nat.le_total n hex.choose with hl | hl
  · rw [whlN_mono hl (by rw [h]; exact hr), h]
  · rw [← whlN_mono hl hc, h]
/-! ### Euclid -/
/-- a fraction as the text has it -/
def frac (q : Rat) : PyData := .tuple [.int q.num, .int (q.den : Int)]
/-- how many digits, at most -/
def Sz (k : Nat) (q : Rat) : Prop := q.num.natAbs < 2 ^ k ∧ q.den < 2 ^ k
theorem Sz.le {k l : Nat} {q : Rat} (h : Sz k q) (hl : k ≤ l) : Sz l q := ⟨Nat.lt_of_lt_of_le h.1 (Nat.pow_le_pow_right (by decide) hl), Nat.lt_of_lt_of_le h.2 (Nat.pow_le_pow_right (by decide) hl)⟩
theorem log2_lt {n k : Nat} (hk : 0 < k) (h : n < 2 ^ k) : n.log2 < k := by
  by_cases hn : n = 0
  · subst hn; simpa using hk
  · exact (Nat.log2_lt hn).mpr h
theorem bitsOk_of {a b : Int} {k l : Nat} (h1 : a.natAbs < 2 ^ k) (h2 : b.natAbs < 2 ^ l) (h : k + l ≤ 1000000) : bitsOk a b = true := by
  unfold bitsOk
  have : a.natAbs.log2 ≤ k := by
    by_cases hk : 0 < k
    · exact Nat.le_of_lt (log2_lt hk h1)
    · have : k = 0 := by omega
      subst this
      have : a.natAbs = 0 := by simpa using h1
      rw [this]; decide
  have : b.natAbs.log2 ≤ l := by
    by_cases hk : 0 < l
    · exact Nat.le_of_lt (log2_lt hk h2)
    · have : l = 0 := by omega
      subst this
      have : b.natAbs = 0 := by simpa using h2
      rw [this]; decide
  simp only [Bool.or_eq_true, decide_eq_true_eq]
  right
  omega
/-- Euclid's turns -/
theorem gcd_turn (x y : Nat) (hy : y ≠ 0) : ((x : Int).fmod (y : Int)) = ((x % y : Nat) : Int) := by
  rw [Int.fmod_eq_emod_of_nonneg _ (by omega)]
  rfl
theorem gcd_step (x y : Nat) : Nat.gcd x y = Nat.gcd y (x % y) := by
  rw [Nat.gcd_comm x y, Nat.gcd_rec]
  exact Nat.gcd_comm _ _

abbrev sv0 (d : PyData) : SV := .sv false 0 d
def bGcd : Ss := .cons (.par 0 1 0 0 (.p (.at 1)) (.b2 .mod (.p (.at 0)) (.p (.at 1)))) .nil
theorem turn_gcd (c : Orc) (rk x y : Nat) (hy : y ≠ 0) : exs c rk bGcd [sv0 (.int x), sv0 (.int y)] = .ok (.nx [sv0 (.int y), sv0 (.int (x % y : Nat))]) := by
  have e := gcd_turn x y hy
  have hy' : (y : Int) ≠ 0 := by omega
  simp [bGcd, exs, exS, ev, evPk, evP, slot, opd2, opd, fin, lateE, isP, toP, finO, evPb, g2, Fx.b2, own1, isCont, r_of, r_no, r_ok, r_bad, setS, e, hy, sv0]
theorem test_v1 (c : Orc) (x y : Int) : evT c (.v (.p (.at 1))) [sv0 (.int x), sv0 (.int y)] = .ok (y != 0, [sv0 (.int x), sv0 (.int y)]) := by
  simp [evT, opd1, opd, fin, lateE, toP, finO, evPb, evP, slot, g1, truth, isCont, r_of, r_no, r_ok, r_bad, sv0]
theorem whl_gcd (c : Orc) (rk : Nat) : ∀ (y x : Nat), ∃ n, whlN (evT c (.v (.p (.at 1)))) (exs c rk bGcd) n [sv0 (.int x), sv0 (.int y)] = .ok (.nx [sv0 (.int (Nat.gcd x y : Nat)), sv0 (.int 0)]) := by
  intro y
  induction y using Nat.strongRecOn with
  | _ y ih =>
    intro x
    by_cases hy : y = 0
    · subst hy
      refine ⟨1, ?_⟩
      simp only [whlN, test_v1, r_ok]
      simp
    · obtain ⟨n, hn⟩ := ih (x % y) (Nat.mod_lt _ (by omega)) y
      refine ⟨n + 1, ?_⟩
      have hb : ((y : Int) != 0) = true := by simp [hy]
      simp only [whlN, test_v1, hb, turn_gcd c rk x y hy, r_ok]
      rw [hn, gcd_step x y]
theorem whlD_gcd (c : Orc) (rk x y : Nat) : whlD (evT c (.v (.p (.at 1)))) (exs c rk bGcd) [sv0 (.int x), sv0 (.int y)] = .ok (.nx [sv0 (.int (Nat.gcd x y : Nat)), sv0 (.int 0)]) := by
  obtain ⟨n, hn⟩ := whl_gcd c rk y x
  exact whlD_of hn rfl
/-- Euclid by a for loop with a break -/
def bGcdF : Ss := .cons (.iff (.c2 .eq (.p (.at 1)) (.p (.k (.int 0)))) (.cons .brk .nil) .nil) (.cons (.par 0 1 0 0 (.p (.at 1)) (.b2 .mod (.p (.p1 .int (.at 0))) (.p (.at 1)))) .nil)
theorem turnF_0 (c : Orc) (rk : Nat) (x : Int) (t : SV) : exs c rk bGcdF [sv0 (.int x), sv0 (.int 0), t] = .ok (.bk [sv0 (.int x), sv0 (.int 0), t]) := by
  simp [bGcdF, exs, exS, ev, evT, evPk, evP, slot, opd2, opd, fin, lateE, isP, toP, finO, evPb, g2, c2B, Fx.c2, ii, own1, isCont, r_of, r_no, r_ok, r_bad, setS, sv0]
theorem turnF_1 (c : Orc) (rk x y : Nat) (t : SV) (hy : y ≠ 0) : exs c rk bGcdF [sv0 (.int x), sv0 (.int y), t] = .ok (.nx [sv0 (.int y), sv0 (.int (x % y : Nat)), t]) := by
  have e := gcd_turn x y hy
  have hy' : (y : Int) ≠ 0 := by omega
  simp [bGcdF, exs, exS, ev, evT, evPk, evP, slot, opd2, opd, fin, lateE, isP, toP, finO, evPb, g2, c2B, Fx.c2, ii, Fx.b2, Fx.p1, scal, own1, isCont, r_of, r_no, r_ok, r_bad, setS, e, hy, sv0]
/-- the turns that are left do -/
theorem for_gcd (c : Orc) (rk : Nat) : ∀ (k : Nat) (xs : List PyData) (x y : Nat) (t : SV), (∃ b d, t = .un ∨ t = .sv false b d) → y < 2 ^ k → 2 * k + 1 < xs.length → ∃ t', forL (bindT (.nm 2)) (exs c rk bGcdF) xs [sv0 (.int x), sv0 (.int y), t] = .ok (.nx [sv0 (.int (Nat.gcd x y : Nat)), sv0 (.int 0), t']) := by
  have bind2 : ∀ (z : PyData) (a b t : SV), (∃ b d, t = .un ∨ t = .sv false b d) → bindT (.nm 2) z [a, b, t] = some [a, b, sv0 z] := by
    rintro z a b t ⟨bb, d, rfl | rfl⟩ <;> simp [bindT, setS]
  have done : ∀ (xs : List PyData) (x : Nat) (t : SV), (∃ b d, t = .un ∨ t = .sv false b d) → ∃ t', forL (bindT (.nm 2)) (exs c rk bGcdF) xs [sv0 (.int x), sv0 (.int (0 : Nat)), t] = .ok (.nx [sv0 (.int x), sv0 (.int 0), t']) := by
    intro xs x t ht
    cases xs with
    | nil => exact ⟨t, rfl⟩
    | cons z xs =>
      refine ⟨sv0 z, ?_⟩
      simp only [forL, bind2 z _ _ t ht, r_of, r_ok]
      rw [show ((0 : Nat) : Int) = 0 from rfl, turnF_0]
      rfl
  intro k
  induction k with
  | zero =>
    intro xs x y t ht hy hl
    have : y = 0 := by simpa using hy
    subst this
    rw [Nat.gcd_zero_right]
    exact done xs x t ht
  | succ k ih =>
    intro xs x y t ht hy hl
    by_cases h0 : y = 0
    · subst h0
      rw [Nat.gcd_zero_right]
      exact done xs x t ht
    · match xs, hl with
      | z1 :: z2 :: xs, hl =>
        have step : ∀ (z : PyData) (r : List PyData) (x y : Nat) (t : SV), (∃ b d, t = .un ∨ t = .sv false b d) → y ≠ 0 → forL (bindT (.nm 2)) (exs c rk bGcdF) (z :: r) [sv0 (.int x), sv0 (.int y), t] = forL (bindT (.nm 2)) (exs c rk bGcdF) r [sv0 (.int y), sv0 (.int (x % y : Nat)), sv0 z] := by
          intro z r x y t ht hy
          simp only [forL, bind2 z _ _ t ht, r_of, r_ok]
          rw [turnF_1 c rk x y _ hy]
          rfl
        rw [step z1 _ x y t ht h0, gcd_step x y]
        by_cases h1 : x % y = 0
        · rw [h1, Nat.gcd_zero_right]
          exact done _ y _ ⟨0, z1, .inr rfl⟩
        · rw [step z2 _ y (x % y) _ ⟨0, z1, .inr rfl⟩ h1, gcd_step y (x % y)]
          refine ih xs (x % y) (y % (x % y)) _ ⟨0, z2, .inr rfl⟩ ?_ (by simp at hl; omega)
          -- two turns halve
          have hm : x % y < y := Nat.mod_lt _ (by omega)
          have : y % (x % y) < x % y := Nat.mod_lt _ (by omega)
          have hs : y % (x % y) + (x % y) ≤ y := by
            have := Nat.mod_add_div y (x % y)
            have h2 : 1 ≤ y / (x % y) := (Nat.one_le_div_iff (by omega)).mpr (by omega)
            have h3 := Nat.mul_le_mul_left (x % y) h2
            omega
          have hp : 2 ^ (k + 1) = 2 * 2 ^ k := by rw [Nat.pow_succ]; omega
          omega
end Fx
set_option Elab.async false
set_option linter.all false
set_option maxRecDepth 100000
/-! N3: fractions in lowest terms. -/
namespace Fx
open PySem PySem.Spec PyProof.Rows L2
theorem abs_if (a : Int) : (if a < 0 then -a else a) = (a.natAbs : Int) := by
  split <;> omega
/-- the divisor -/
def bDivisor : Ss := .cons (.par 0 1 0 0 (.p (.p1 .abs (.at 0))) (.p (.p1 .abs (.at 1)))) (.cons (.whl (.v (.p (.at 1))) bGcd) (.cons (.ret (.p (.at 0))) .nil))
theorem divisor_run (c : Orc) (a b : Int) : (exs c 0 bDivisor [sv0 (.int a), sv0 (.int b)]).bind Fl.val = .ok (.int (Int.gcd a b : Nat)) := by
  have e1 : exS c 0 (.par 0 1 0 0 (.p (.p1 .abs (.at 0))) (.p (.p1 .abs (.at 1)))) [sv0 (.int a), sv0 (.int b)] = .ok (.nx [sv0 (.int (a.natAbs : Int)), sv0 (.int (b.natAbs : Int))]) := by
    simp [exS, ev, evPk, evP, slot, Fx.p1, isCont, r_of, r_no, r_ok, r_bad, setS, sv0, abs_if]
  have e2 : exS c 0 (.whl (.v (.p (.at 1))) bGcd) [sv0 (.int (a.natAbs : Int)), sv0 (.int (b.natAbs : Int))] = .ok (.nx [sv0 (.int (Nat.gcd a.natAbs b.natAbs : Nat)), sv0 (.int 0)]) := by
    simp only [exS]
    exact whlD_gcd c 0 a.natAbs b.natAbs
  have e3 : exS c 0 (.ret (.p (.at 0))) [sv0 (.int (Nat.gcd a.natAbs b.natAbs : Nat)), sv0 (.int 0)] = .ok (.rt (.int (Nat.gcd a.natAbs b.natAbs : Nat)) [sv0 (.int (Nat.gcd a.natAbs b.natAbs : Nat)), sv0 (.int 0)]) := by
    simp [exS, ev, evPk, evP, slot, isCont, r_of, r_no, r_ok, r_bad, sv0]
  simp only [bDivisor, exs, e1, e2, e3, r_ok]
  rfl
theorem fdiv_gcd {a b : Int} (hb : b ≠ 0) {s : Int} (hs : (0 < b ∧ s = (Int.gcd a b : Nat)) ∨ (b < 0 ∧ s = -((Int.gcd a b : Nat) : Int))) : a.fdiv s = (Rat.divInt a b).num ∧ b.fdiv s = ((Rat.divInt a b).den : Int) ∧ s ≠ 0 := by
  have hg0 : Int.gcd a b ≠ 0 := by
    intro e
    exact hb (Int.gcd_eq_zero_iff.mp e).2
  have hgp : (0 : Int) < (Int.gcd a b : Nat) := by omega
  obtain ⟨k, hk⟩ := Int.gcd_dvd_left a b
  obtain ⟨l, hl⟩ := Int.gcd_dvd_right a b
  rw [Rat.num_divInt, Rat.den_divInt, if_neg hb, Int.gcd_comm b a]
  generalize hG : ((Int.gcd a b : Nat) : Int) = g at *
  have hgN : (Int.gcd a b) = g.toNat := by omega
  rcases hs with ⟨h1, rfl⟩ | ⟨h1, rfl⟩
  · refine ⟨?_, ?_, by omega⟩
    · rw [Int.sign_eq_one_of_pos h1, Int.one_mul, Int.fdiv_eq_ediv_of_nonneg _ (by omega)]
    · rw [Int.fdiv_eq_ediv_of_nonneg _ (by omega), Int.natCast_ediv, hG]
      congr 1
      omega
  · refine ⟨?_, ?_, by omega⟩
    · rw [Int.sign_eq_neg_one_of_neg h1]
      rw [show (-1 : Int) * a = g * (-k) by rw [hk, Int.mul_neg, Int.neg_mul, Int.one_mul], Int.mul_ediv_cancel_left _ (by omega), show a = (-g) * (-k) by rw [hk, Int.neg_mul_neg], Int.mul_fdiv_cancel_left _ (by omega)]
    · rw [Int.natCast_ediv, hG, show ((b.natAbs : Nat) : Int) = -b by omega]
      rw [show -b = g * (-l) by rw [hl, Int.mul_neg], Int.mul_ediv_cancel_left _ (by omega)]
      have e : b.fdiv (-g) = ((-g) * (-l)).fdiv (-g) := by rw [Int.neg_mul_neg, ← hl]
      rw [e, Int.mul_fdiv_cancel_left _ (by omega)]
theorem gcd_log {a b : Int} {k : Nat} (hk : 0 < k) (hb : b ≠ 0) (h : b.natAbs < 2 ^ k) : (Int.gcd a b).log2 < k := by
  refine log2_lt hk (Nat.lt_of_le_of_lt ?_ h)
  exact Nat.le_of_dvd (by omega) (Nat.gcd_dvd_right _ _)
/-- above, below -> lowest terms; j: the divisor's place -/
def bLowest (j : Nat) : Ss := .cons (.as (.nm 2) 0 (.call j none (.v (.p (.at 0)) (.v (.p (.at 1)) .nil)))) (.cons (.iff (.c2 .lt (.p (.at 1)) (.p (.k (.int 0)))) (.cons (.as (.nm 2) 0 (.p (.p1 .neg (.at 2)))) .nil) .nil)
  (.cons (.ret (.tup (.cons (.b2 .fdiv (.p (.at 0)) (.p (.at 2))) (.cons (.b2 .fdiv (.p (.at 1)) (.p (.at 2))) .nil)))) .nil))
theorem lowest_run (c : Orc) (j : Nat) (hj : ∀ a b : Int, callV c j [.int a, .int b] = .ok (.int (Int.gcd a b : Nat))) (a b : Int) (hb : b ≠ 0) (hs : b.natAbs < 2 ^ 8000) : (exs c 0 (bLowest j) [sv0 (.int a), sv0 (.int b), .un]).bind Fl.val = .ok (frac (Rat.divInt a b)) := by
  have hlog := gcd_log (a := a) (k := 8000) (by decide) hb hs
  by_cases h : b < 0
  · obtain ⟨f1, f2, f3⟩ := fdiv_gcd (a := a) hb (s := -((Int.gcd a b : Nat) : Int)) (.inr ⟨h, rfl⟩)
    have hl : (Int.gcd a b).log2 < 9000 := by omega
    have hz : ¬ (Int.gcd a b = 0) := by omega
    simp [bLowest, exs, exS, ev_call_2, evR, hj, ev_p, ev_tup, ev_b2, evs, evT, evPk, evP, slot, opd2, opd, fin, lateE, isP, toP, finO, evPb, g2, c2B, Fx.c2, ii, Fx.b2, Fx.p1, own1, isCont, r_of, r_no, r_ok, r_bad, setS, sv0, bindT, h, f1, f2, hz, hl, Fl.val, frac]
  · obtain ⟨f1, f2, f3⟩ := fdiv_gcd (a := a) hb (s := ((Int.gcd a b : Nat) : Int)) (.inl ⟨by omega, rfl⟩)
    have hl : (Int.gcd a b).log2 < 9000 := by omega
    have hz : ¬ (Int.gcd a b = 0) := by omega
    simp [bLowest, exs, exS, ev_call_2, evR, hj, ev_p, ev_tup, ev_b2, evs, evT, evPk, evP, slot, opd2, opd, fin, lateE, isP, toP, finO, evPb, g2, c2B, Fx.c2, ii, Fx.b2, Fx.p1, own1, isCont, r_of, r_no, r_ok, r_bad, setS, sv0, bindT, h, f1, f2, hz, hl, Fl.val, frac]
end Fx
set_option Elab.async false
set_option linter.all false
set_option maxRecDepth 100000
/-! N4: the law's own fractions; sums, products. -/
namespace Fx
open PySem PySem.Spec PyProof.Rows L2
/-- Euclid by a for loop -/
def bGcdL : Ss := .cons (.par 0 1 0 0 (.p (.p1 .abs (.at 0))) (.p (.p1 .abs (.at 1)))) (.cons (.for (.nm 2) (.range (.cons (.p (.k (.int 2000))) .nil)) bGcdF) (.cons (.ret (.p (.at 0))) .nil))
theorem gcdL_run (c : Orc) (a b : Int) (hb : b.natAbs < 2 ^ 900) : (exs c 0 bGcdL [sv0 (.int a), sv0 (.int b), .un]).bind Fl.val = .ok (.int (Int.gcd a b : Nat)) := by
  have e1 : exS c 0 (.par 0 1 0 0 (.p (.p1 .abs (.at 0))) (.p (.p1 .abs (.at 1)))) [sv0 (.int a), sv0 (.int b), .un] = .ok (.nx [sv0 (.int (a.natAbs : Int)), sv0 (.int (b.natAbs : Int)), .un]) := by
    simp [exS, ev_p, evPk, evP, slot, Fx.p1, isCont, r_of, r_no, r_ok, r_bad, setS, sv0, abs_if]
  have e0 : ∀ env, evI c (.range (.cons (.p (.k (.int 2000))) .nil)) env = .ok ((List.range 2000).map fun (i : Nat) => PyData.int (i : Int), env) := fun env => by
    simp only [evI, evs, ev_p, evPk, evP, isCont, r_of, r_ok, rangeD]
    rfl
  obtain ⟨t', e2⟩ := for_gcd c 0 900 ((List.range 2000).map fun (i : Nat) => PyData.int (i : Int)) a.natAbs b.natAbs .un ⟨0, .none, .inl rfl⟩ hb (by rw [List.length_map, List.length_range]; decide)
  have e3 : exS c 0 (.ret (.p (.at 0))) [sv0 (.int (Nat.gcd a.natAbs b.natAbs : Nat)), sv0 (.int 0), t'] = .ok (.rt (.int (Nat.gcd a.natAbs b.natAbs : Nat)) [sv0 (.int (Nat.gcd a.natAbs b.natAbs : Nat)), sv0 (.int 0), t']) := by
    simp [exS, ev_p, evPk, evP, slot, isCont, r_of, r_no, r_ok, r_bad, sv0]
  simp only [bGcdL, exs, e1, r_ok]
  simp only [exS, e0, r_ok] at *
  rw [e2]
  simp only [r_ok, e3]
  rfl
/-- lowest terms, the law's way -/
def bFr (j : Nat) : Ss := .cons (.as (.nm 2) 0 (.ite (.c2 .gt (.p (.at 1)) (.p (.k (.int 0)))) (.call j none (.v (.p (.at 0)) (.v (.p (.at 1)) .nil))) (.b2 .sub (.p (.k (.int 0))) (.call j none (.v (.p (.at 0)) (.v (.p (.at 1)) .nil))))))
  (.cons (.ret (.tup (.cons (.b2 .fdiv (.p (.at 0)) (.p (.at 2))) (.cons (.b2 .fdiv (.p (.at 1)) (.p (.at 2))) .nil)))) .nil)
theorem fr_run (c : Orc) (j : Nat) (a b : Int) (hj : callV c j [.int a, .int b] = .ok (.int (Int.gcd a b : Nat))) (hb : b ≠ 0) (hs : b.natAbs < 2 ^ 8000) : (exs c 0 (bFr j) [sv0 (.int a), sv0 (.int b), .un]).bind Fl.val = .ok (frac (Rat.divInt a b)) := by
  have hlog := gcd_log (a := a) (k := 8000) (by decide) hb hs
  have hl : (Int.gcd a b).log2 < 9000 := by omega
  by_cases h : 0 < b
  · obtain ⟨f1, f2, f3⟩ := fdiv_gcd (a := a) hb (s := ((Int.gcd a b : Nat) : Int)) (.inl ⟨h, rfl⟩)
    have hz : ¬ (Int.gcd a b = 0) := by omega
    simp [bFr, exs, exS, ev_call_2, evR, hj, ev_p, ev_tup, ev_b2, ev_ite, evs, evT, evPk, evP, slot, opd2, opd, fin, lateE, isP, toP, finO, evPb, g2, c2B, Fx.c2, ii, Fx.b2, Fx.p1, own1, isCont, r_of, r_no, r_ok, r_bad, setS, sv0, bindT, h, f1, f2, hz, hl, Fl.val, frac]
  · obtain ⟨f1, f2, f3⟩ := fdiv_gcd (a := a) hb (s := -((Int.gcd a b : Nat) : Int)) (.inr ⟨by omega, rfl⟩)
    have hz : ¬ (Int.gcd a b = 0) := by omega
    simp [bFr, exs, exS, ev_call_2, evR, hj, ev_p, ev_tup, ev_b2, ev_ite, evs, evT, evPk, evP, slot, opd2, opd, fin, lateE, isP, toP, finO, evPb, g2, c2B, Fx.c2, ii, Fx.b2, Fx.p1, own1, isCont, r_of, r_no, r_ok, r_bad, setS, sv0, bindT, h, f1, f2, hz, hl, Fl.val, frac]
/-! ### sums, products -/
abbrev pN (i : Nat) : E := .p (.ix (.at i) (.k (.int 0)))
abbrev pD (i : Nat) : E := .p (.ix (.at i) (.k (.int 1)))
def bPlus (j : Nat) : Ss := .cons (.ret (.call j none (.v (.b2 .add (.b2 .mul (pN 0) (pD 1)) (.b2 .mul (pN 1) (pD 0))) (.v (.b2 .mul (pD 0) (pD 1)) .nil)))) .nil
def bMinus (j : Nat) : Ss := .cons (.ret (.call j none (.v (.b2 .sub (.b2 .mul (pN 0) (pD 1)) (.b2 .mul (pN 1) (pD 0))) (.v (.b2 .mul (pD 0) (pD 1)) .nil)))) .nil
def bTimes (j : Nat) : Ss := .cons (.ret (.call j none (.v (.b2 .mul (pN 0) (pN 1)) (.v (.b2 .mul (pD 0) (pD 1)) .nil)))) .nil
def bOver (j : Nat) : Ss := .cons (.ret (.call j none (.v (.b2 .mul (pN 0) (pD 1)) (.v (.b2 .mul (pD 0) (pN 1)) .nil)))) .nil
theorem at0 {α : Type} (x y : α) : L2.atI [x, y] 0 = some x := by simp [L2.atI, L2.ixN]
theorem at1 {α : Type} (x y : α) : L2.atI [x, y] 1 = some y := by simp [L2.atI, L2.ixN]
section
variable (c : Orc) (j : Nat) (p q : Rat) (hp : Sz 400 p) (hq : Sz 400 q)
include hp hq
theorem ok_nd : bitsOk p.num (q.den : Int) = true := bitsOk_of hp.1 (by simpa using hq.2) (by decide)
theorem ok_dn : bitsOk (p.den : Int) q.num = true := bitsOk_of (by simpa using hp.2) hq.1 (by decide)
theorem ok_nn : bitsOk p.num q.num = true := bitsOk_of hp.1 hq.1 (by decide)
theorem ok_dd : bitsOk (p.den : Int) (q.den : Int) = true := bitsOk_of (by simpa using hp.2) (by simpa using hq.2) (by decide)
theorem plus_run : (exs c 0 (bPlus j) [sv0 (frac p), sv0 (frac q)]).bind Fl.val = (callV c j [.int (p.num * q.den + q.num * p.den), .int (p.den * q.den)]) := by
  have h1 := ok_nd p q hp hq
  have h2 := ok_nd q p hq hp
  have h3 := ok_dd p q hp hq
  simp [bPlus, pN, pD, exs, exS, ev_call_2, evR, ev_p, ev_b2, evPk, evP, slot, opd2, opd, fin, lateE, isP, toP, finO, evPb, g2, ixD, at0, at1, Fx.b2, own1, isCont, r_of, r_no, r_ok, r_bad, sv0, frac, h1, h2, h3]
  cases callV c j [.int (p.num * q.den + q.num * p.den), .int (p.den * q.den)] <;> rfl
theorem minus_run : (exs c 0 (bMinus j) [sv0 (frac p), sv0 (frac q)]).bind Fl.val = (callV c j [.int (p.num * q.den - q.num * p.den), .int (p.den * q.den)]) := by
  have h1 := ok_nd p q hp hq
  have h2 := ok_nd q p hq hp
  have h3 := ok_dd p q hp hq
  simp [bMinus, pN, pD, exs, exS, ev_call_2, evR, ev_p, ev_b2, evPk, evP, slot, opd2, opd, fin, lateE, isP, toP, finO, evPb, g2, ixD, at0, at1, Fx.b2, own1, isCont, r_of, r_no, r_ok, r_bad, sv0, frac, h1, h2, h3]
  cases callV c j [.int (p.num * q.den - q.num * p.den), .int (p.den * q.den)] <;> rfl
theorem times_run : (exs c 0 (bTimes j) [sv0 (frac p), sv0 (frac q)]).bind Fl.val = (callV c j [.int (p.num * q.num), .int (p.den * q.den)]) := by
  have h1 := ok_nn p q hp hq
  have h3 := ok_dd p q hp hq
  simp [bTimes, pN, pD, exs, exS, ev_call_2, evR, ev_p, ev_b2, evPk, evP, slot, opd2, opd, fin, lateE, isP, toP, finO, evPb, g2, ixD, at0, at1, Fx.b2, own1, isCont, r_of, r_no, r_ok, r_bad, sv0, frac, h1, h3]
  cases callV c j [.int (p.num * q.num), .int (p.den * q.den)] <;> rfl
theorem over_run : (exs c 0 (bOver j) [sv0 (frac p), sv0 (frac q)]).bind Fl.val = (callV c j [.int (p.num * q.den), .int (p.den * q.num)]) := by
  have h1 := ok_nd p q hp hq
  have h3 := ok_dn p q hp hq
  simp [bOver, pN, pD, exs, exS, ev_call_2, evR, ev_p, ev_b2, evPk, evP, slot, opd2, opd, fin, lateE, isP, toP, finO, evPb, g2, ixD, at0, at1, Fx.b2, own1, isCont, r_of, r_no, r_ok, r_bad, sv0, frac, h1, h3]
  cases callV c j [.int (p.num * q.den), .int (p.den * q.num)] <;> rfl
end
end Fx
set_option Elab.async false
set_option linter.all false
set_option maxRecDepth 100000
/-! N5: the four operations as they are. -/
namespace Fx
open PySem PySem.Spec PyProof.Rows L2
/-- the def j brings to lowest terms -/
def FrAt (c : Orc) (j : Nat) : Prop := ∀ a b : Int, b ≠ 0 → b.natAbs < 2 ^ 900 → callV c j [.int a, .int b] = .ok (frac (Rat.divInt a b))
theorem Sz.den_pos {k : Nat} {q : Rat} (_ : Sz k q) : (q.den : Int) ≠ 0 := by have := q.den_nz; omega
theorem mul_lt {a b k l : Nat} (h1 : a < 2 ^ k) (h2 : b < 2 ^ l) : a * b < 2 ^ (k + l) := by
  rw [Nat.pow_add]
  exact Nat.mul_lt_mul'' h1 h2
theorem plus_eq (p q : Rat) : Rat.divInt (p.num * q.den + q.num * p.den) (p.den * q.den) = p + q := by
  rw [Rat.add_def', ← Rat.divInt_ofNat]; rfl
theorem minus_eq (p q : Rat) : Rat.divInt (p.num * q.den - q.num * p.den) (p.den * q.den) = p - q := by
  rw [Rat.sub_def', ← Rat.divInt_ofNat]; rfl
theorem times_eq (p q : Rat) : Rat.divInt (p.num * q.num) (p.den * q.den) = p * q := by
  rw [Rat.mul_def', ← Rat.divInt_ofNat]; rfl
theorem over_eq (p q : Rat) : Rat.divInt (p.num * q.den) (p.den * q.num) = p / q := by
  rw [Rat.div_def, Rat.inv_def]
  conv => rhs; rw [← Rat.num_divInt_den p]
  rw [Rat.divInt_mul_divInt]
section
variable {c : Orc} {j : Nat} {p q : Rat} (hj : FrAt c j) (hp : Sz 400 p) (hq : Sz 400 q)
include hj hp hq
theorem den_ok : ((p.den : Int) * q.den) ≠ 0 ∧ ((p.den : Int) * q.den).natAbs < 2 ^ 900 := by
  refine ⟨Int.mul_ne_zero hp.den_pos hq.den_pos, ?_⟩
  rw [Int.natAbs_mul]
  exact Nat.lt_of_lt_of_le (mul_lt (by simpa using hp.2) (by simpa using hq.2)) (Nat.pow_le_pow_right (by decide) (by decide))
theorem plus_ok : (exs c 0 (bPlus j) [sv0 (frac p), sv0 (frac q)]).bind Fl.val = .ok (frac (p + q)) := by
  obtain ⟨h1, h2⟩ := den_ok hj hp hq
  rw [plus_run c j p q hp hq, hj _ _ h1 h2, plus_eq]
theorem minus_ok : (exs c 0 (bMinus j) [sv0 (frac p), sv0 (frac q)]).bind Fl.val = .ok (frac (p - q)) := by
  obtain ⟨h1, h2⟩ := den_ok hj hp hq
  rw [minus_run c j p q hp hq, hj _ _ h1 h2, minus_eq]
theorem times_ok : (exs c 0 (bTimes j) [sv0 (frac p), sv0 (frac q)]).bind Fl.val = .ok (frac (p * q)) := by
  obtain ⟨h1, h2⟩ := den_ok hj hp hq
  rw [times_run c j p q hp hq, hj _ _ h1 h2, times_eq]
theorem over_ok (hz : q ≠ 0) : (exs c 0 (bOver j) [sv0 (frac p), sv0 (frac q)]).bind Fl.val = .ok (frac (p / q)) := by
  have hn : q.num ≠ 0 := fun e => hz (Rat.num_eq_zero.mp e)
  have h1 : (p.den : Int) * q.num ≠ 0 := Int.mul_ne_zero hp.den_pos hn
  have h2 : ((p.den : Int) * q.num).natAbs < 2 ^ 900 := by
    rw [Int.natAbs_mul]
    exact Nat.lt_of_lt_of_le (mul_lt (by simpa using hp.2) hq.1) (Nat.pow_le_pow_right (by decide) (by decide))
  rw [over_run c j p q hp hq, hj _ _ h1 h2, over_eq]
end
/-! ### sizes -/
theorem divInt_sz {a b : Int} {k : Nat} (hb : b ≠ 0) (h1 : a.natAbs < 2 ^ k) (h2 : b.natAbs < 2 ^ k) : Sz k (Rat.divInt a b) := by
  constructor
  · rw [Rat.num_divInt]
    refine Nat.lt_of_le_of_lt ?_ h1
    rw [Int.natAbs_ediv_of_dvd]
    · refine Nat.le_trans (Nat.div_le_self _ _) ?_
      rw [Int.natAbs_mul]
      have : b.sign.natAbs = 1 := by
        rcases Int.lt_trichotomy b 0 with h | h | h
        · rw [Int.sign_eq_neg_one_of_neg h]; rfl
        · exact absurd h hb
        · rw [Int.sign_eq_one_of_pos h]; rfl
      rw [this]; omega
    · exact Int.dvd_mul_of_dvd_right (Int.gcd_dvd_right _ _)
  · rw [Rat.den_divInt, if_neg hb]
    exact Nat.lt_of_le_of_lt (Nat.div_le_self _ _) h2
theorem add_sz {p q : Rat} {k l : Nat} (hp : Sz k p) (hq : Sz l q) : Sz (k + l + 1) (p + q) := by
  rw [← plus_eq]
  have a1 := mul_lt hp.1 hq.2
  have a2 := mul_lt hq.1 hp.2
  have a3 := mul_lt hp.2 hq.2
  have e : 2 ^ (k + l + 1) = 2 * 2 ^ (k + l) := by rw [Nat.pow_succ]; omega
  rw [Nat.add_comm l k] at a2
  refine divInt_sz (Int.mul_ne_zero hp.den_pos hq.den_pos) ?_ ?_
  · refine Nat.lt_of_le_of_lt (Int.natAbs_add_le _ _) ?_
    rw [Int.natAbs_mul, Int.natAbs_mul, Int.natAbs_natCast, Int.natAbs_natCast]
    omega
  · rw [Int.natAbs_mul, Int.natAbs_natCast, Int.natAbs_natCast]
    omega
theorem mul_sz {p q : Rat} {k l : Nat} (hp : Sz k p) (hq : Sz l q) : Sz (k + l) (p * q) := by
  rw [← times_eq]
  refine divInt_sz (Int.mul_ne_zero hp.den_pos hq.den_pos) ?_ ?_
  · rw [Int.natAbs_mul]; exact mul_lt hp.1 hq.1
  · rw [Int.natAbs_mul, Int.natAbs_natCast, Int.natAbs_natCast]; exact mul_lt hp.2 hq.2
end Fx
set_option Elab.async false
set_option linter.all false
set_option maxRecDepth 100000
/-! N6: fractions compared. -/
namespace Fx
open PySem PySem.Spec PyProof.Rows L2
theorem frac_ok (q : Rat) : eqOk (frac q) = true := by
  simp [eqOk, frac, SeqAt.shaped, PyData.canLay0, PyData.canLayAll0, PyData.plain, PyData.plainAll, PyData.depth, PyData.depthAll]
theorem frac_eqv (p q : Rat) : PyData.eqv (frac p) (frac q) = decide (p = q) := by
  have e : (p = q) ↔ (p.num = q.num ∧ (p.den : Int) = (q.den : Int)) := by
    constructor
    · rintro rfl; exact ⟨rfl, rfl⟩
    · rintro ⟨h1, h2⟩; exact Rat.ext h1 (by omega)
  have e2 : PyData.eqv (frac p) (frac q) = ((p.num == q.num) && (((p.den : Int) == (q.den : Int)) && true)) := by simp [frac, PyData.eqv, PyData.eqvAll]
  rw [e2, Bool.and_true]
  by_cases h : p = q
  · subst h; simp
  · rw [decide_eq_false h]
    have h' : ¬ (p.num = q.num ∧ (p.den : Int) = (q.den : Int)) := fun z => h (e.mpr z)
    cases h1 : (p.num == q.num) with
    | false => rfl
    | true =>
      cases h2 : ((p.den : Int) == (q.den : Int)) with
      | false => rfl
      | true => exact absurd ⟨beq_iff_eq.mp h1, beq_iff_eq.mp h2⟩ h'
theorem c2_eq (p q : Rat) : Fx.c2 .eq (frac p) (frac q) = some (decide (p = q)) := by
  have h : Fx.c2 .eq (frac p) (frac q) = if eqOk (frac p) = true ∧ eqOk (frac q) = true then some (PyData.eqv (frac p) (frac q)) else none := rfl
  rw [h, if_pos ⟨frac_ok p, frac_ok q⟩, frac_eqv]
theorem c2_ne (p q : Rat) : Fx.c2 .ne (frac p) (frac q) = some (!decide (p = q)) := by
  have h : Fx.c2 .ne (frac p) (frac q) = if eqOk (frac p) = true ∧ eqOk (frac q) = true then some (!PyData.eqv (frac p) (frac q)) else none := rfl
  rw [h, if_pos ⟨frac_ok p, frac_ok q⟩, frac_eqv]
theorem frac0 : frac 0 = .tuple [.int 0, .int 1] := rfl
theorem frac1 : frac 1 = .tuple [.int 1, .int 1] := rfl
theorem frac_cont (q : Rat) : isCont (frac q) = false := rfl
end Fx
set_option Elab.async false
set_option linter.all false
set_option maxRecDepth 100000
/-! N7: comprehensions that map and choose. -/
namespace Fx
open PySem PySem.Spec PyProof.Rows L2
theorem lcL_map {bind : PyData → EnvD → Option EnvD} {own : List Nat} {t : EnvD → Rs (Bool × EnvD)} {f : EnvD → Rs (PyData × EnvD)} {env : EnvD} {p : PyData → Bool} {g : PyData → PyData} : ∀ {xs : List PyData},
    (∀ x ∈ xs, ∃ e1 e2, bind x env = some e1 ∧ t e1 = .ok (p x, e2) ∧ (p x = false → wipeD e2 own = env) ∧ (p x = true → ∃ e3, f e2 = .ok (g x, e3) ∧ wipeD e3 own = env)) → lcL bind own t f xs env = .ok ((xs.filter p).map g, env)
  | [], _ => rfl
  | x :: xs, h => by
    have ih := lcL_map (xs := xs) (bind := bind) (own := own) (t := t) (f := f) (env := env) (p := p) (g := g) fun y hy => h y (List.mem_cons_of_mem _ hy)
    obtain ⟨e1, e2, h1, h2, h3, h4⟩ := h x (List.mem_cons_self ..)
    simp only [lcL, h1, r_of, r_ok, h2, Rs.noEx]
    cases hp : p x with
    | false =>
      rw [List.filter_cons_of_neg (by simp [hp])]
      show lcL bind own t f xs (wipeD e2 own) = _
      rw [h3 hp, ih]
    | true =>
      obtain ⟨e3, h5, h6⟩ := h4 hp
      rw [List.filter_cons_of_pos (by simp [hp])]
      show (f e2).noEx.bind _ = _
      rw [h5]
      show (lcL bind own t f xs (wipeD e3 own)).bind _ = _
      rw [h6, ih]
      rfl
/-- a comprehension, its parts known -/
theorem ev_lc {c : Orc} {own : List Nat} {tg : Tg} {it : It} {ts : Tts} {e : E} {k : Nat} {env : EnvD} {xs : List PyData} {p : PyData → Bool} {g : PyData → PyData} (h0 : ownOk env own = true) (hi : evI c it env = .ok (xs, env)) (hl : xs.length ≤ 16777216)
    (h : ∀ x ∈ xs, ∃ e1 e2, bindT tg x (wipeD env own) = some e1 ∧ evTs c ts e1 = .ok (p x, e2) ∧ (p x = false → wipeD e2 own = wipeD env own) ∧ (p x = true → ∃ e3, ev c e (k - 1) e2 = .ok (g x, e3) ∧ wipeD e3 own = wipeD env own)) (hb : backD env (wipeD env own) own = env) :
    ev c (.lc own tg it ts e) k env = .ok (.list ((xs.filter p).map g), env) := by
  simp only [ev]
  rw [if_neg (by rw [h0]; simp), hi, r_ok]
  dsimp only
  rw [if_neg (by rw [h0]; simp), lcL_map h, r_ok]
  dsimp only
  rw [if_pos (by
    rw [List.length_map]
    exact Nat.le_trans (List.length_filter_le _ _) hl), hb]
theorem ev_lcA {c : Orc} {own : List Nat} {tg : Tg} {it : It} {e : E} {k : Nat} {env : EnvD} {xs : List PyData} {g : PyData → PyData} (h0 : ownOk env own = true) (hi : evI c it env = .ok (xs, env)) (hl : xs.length ≤ 16777216)
    (h : ∀ x ∈ xs, ∃ e1 e3, bindT tg x (wipeD env own) = some e1 ∧ ev c e (k - 1) e1 = .ok (g x, e3) ∧ wipeD e3 own = wipeD env own) (hb : backD env (wipeD env own) own = env) :
    ev c (.lc own tg it .nil e) k env = .ok (.list (xs.map g), env) := by
  have := ev_lc (c := c) (own := own) (tg := tg) (it := it) (ts := .nil) (e := e) (k := k) (env := env) (xs := xs) (p := fun _ => true) (g := g) h0 hi hl (fun x hx => by
    obtain ⟨e1, e3, h1, h2, h3⟩ := h x hx
    exact ⟨e1, e1, h1, by simp only [evTs], fun z => (by cases z), fun _ => ⟨e3, h2, h3⟩⟩) hb
  rw [this, List.filter_eq_self.mpr (fun _ _ => rfl)]
end Fx
set_option Elab.async false
set_option linter.all false
set_option maxRecDepth 100000
/-! N8: more rows of the reckoning. -/
namespace Fx
open PySem PySem.Spec PyProof.Rows L2
section
variable (c : Orc)
theorem ev_mu0 (m : Mu) (i ke : Nat) (es : Es) (k : Nat) (env : EnvD) : ev c (.mu m i [] ke es) k env = if isListS env i = true then (evs c es ke env).bind fun r => (Rs.of (alterS c r.2 i (ke + 1) [] (muF m r.1))).bind fun z => if isCont z.1 = false ∨ k = ke then .ok z else .bad else .bad := by simp only [ev]
theorem for_range1 {rk : Nat} {tg : Tg} {b : Ss} {p : P} {env : EnvD} {n : Int} {xs : List PyData} (h1 : evPk c p 0 env = some (.int n, env)) (h2 : rangeD [.int n] = some xs) : exS c rk (.for tg (.range (.cons (.p p) .nil)) b) env = forL (bindT tg) (exs c rk b) xs env := by
  simp only [exS, evI, evs, ev_p, h1, r_of, r_ok, h2]
theorem for_range2 {rk : Nat} {tg : Tg} {b : Ss} {p q : P} {env : EnvD} {n n' : Int} {xs : List PyData} (h1 : evPk c p 0 env = some (.int n, env)) (h1' : evPk c q 0 env = some (.int n', env)) (h2 : rangeD [.int n, .int n'] = some xs) : exS c rk (.for tg (.range (.cons (.p p) (.cons (.p q) .nil))) b) env = forL (bindT tg) (exs c rk b) xs env := by
  simp only [exS, evI, evs, ev_p, h1, h1', r_of, r_ok, h2]
end
theorem len_range (n : Nat) (hl : n ≤ 100000000) : rangeD [.int (n : Int)] = some ((List.range n).map fun (k : Nat) => PyData.int (k : Int)) := by
  simp only [rangeD]
  rw [if_pos ⟨by omega, by omega⟩, Int.toNat_natCast]
end Fx
set_option Elab.async false
set_option linter.all false
set_option maxRecDepth 100000
/-! N9: calls that lend. -/
namespace Fx
open PySem PySem.Spec PyProof.Rows L2
/-- the first argument is lent, the second a value -/
theorem ev_callL1 {c : Orc} {f i : Nat} {a : E} {env : EnvD} {l : Bool} {k : Nat} {d v r d' : PyData} {k' : Nat} {x : SV} (h0 : env[i]? = some (.sv l k d)) (ha : ev c a 0 env = .ok (v, env))
    (hf : c.fn f [.sv true k d, .sv false 0 v] = .ok (r, [.sv true k' d', x])) : ev c (.call f none (.l i (.v a .nil))) 0 env = .ok (r, env.set i (.sv l k' d')) := by
  have hs : slot env i = some (k, d) := by simp [slot, h0]
  simp only [ev, evR, hs, Option.isSome_some, if_true, ha, r_ok]
  unfold callD
  rw [if_pos (by simp [lents])]
  simp only [lents, argSV, h0, Option.map_some, Option.bind_some, permD, r_of, r_ok, hf]
  rw [if_pos (.inr (.inl trivial))]
  simp only [lentBack, h0]
theorem ev_muP (c : Orc) (m : Mu) (i ke : Nat) (p : P) (ps : List P) (es : Es) (k : Nat) (env : EnvD) : ev c (.mu m i (p :: ps) ke es) k env = (match pathR c env (p :: ps), env[i]? with
      | some js, some (.sv l k0 d) => if pathOk js k0 ke d = true then (evs c es ke (env.set i .un)).bind fun r => (Rs.of (alterAt r.2 i l k0 d (ke + 1) js (muF m r.1))).bind fun z => if isCont z.1 = false ∨ k = ke then .ok z else .bad else .bad
      | _, _ => .bad) := by
  simp only [ev]
  all_goals rfl
theorem fn_eq {p : Prg} {m i : Nat} {D : Def} {as : List SV} (hD : p.defs[i]? = some D) (hl : lentOk D.F.lo as = true) : (p.orc (m + 1)).fn i as = (exs (p.orc m) D.F.ret D.F.body (as ++ List.replicate (D.F.n - as.length) .un)).bind fun r => match r with
          | .rt d e => .ok (d, finD e D.F.np)
          | .nx e => .ok (.none, finD e D.F.np)
          | _ => .bad := callN_eq hD hl
theorem exs_nx {c : Orc} {rk : Nat} {s : S} {ss : Ss} {e e' : EnvD} (h : exS c rk s e = .ok (.nx e')) : exs c rk (.cons s ss) e = exs c rk ss e' := by
  simp only [exs, h, r_ok]
theorem exs_rt {c : Orc} {rk : Nat} {s : S} {ss : Ss} {e e' : EnvD} {d : PyData} (h : exS c rk s e = .ok (.rt d e')) : exs c rk (.cons s ss) e = .ok (.rt d e') := by
  simp only [exs, h, r_ok]
def FreeS (s : SV) : Prop := s = .un ∨ ∃ k d, s = .sv false k d
theorem setS_free {env : EnvD} {i : Nat} {s : SV} {k : Nat} {d : PyData} (h : env[i]? = some s) (hf : FreeS s) : setS env i k d = some (env.set i (.sv false k d)) := by
  rcases hf with rfl | ⟨k', d', rfl⟩ <;> simp [setS, h]
theorem as_ok {c : Orc} {rk i k : Nat} {e : E} {env env' : EnvD} {d : PyData} {s : SV} (he : ev c e k env = .ok (d, env')) (h : env'[i]? = some s) (hf : FreeS s) : exS c rk (.as (.nm i) k e) env = .ok (.nx (env'.set i (.sv false k d))) := by
  simp only [exS, he, r_ok, setS_free h hf, r_of]
theorem bindT2 {i j : Nat} {x y : PyData} {env : EnvD} {s s' : SV} (h : env[i]? = some s) (hf : FreeS s) (h' : (env.set i (.sv false 0 x))[j]? = some s') (hf' : FreeS s') : bindT (.tp (.cons (.nm i) (.cons (.nm j) .nil))) (.tuple [x, y]) env = some ((env.set i (.sv false 0 x)).set j (.sv false 0 y)) := by
  simp [bindT, bindTs, setS_free h hf, setS_free h' hf']
/-- a call with one argument by its name -/
theorem ev_callKw1 (c : Orc) (f : Nat) (a : E) (env : EnvD) : ev c (.call f (some [0]) (.v a .nil)) 0 env = ev c (.call f none (.v a .nil)) 0 env := by
  simp only [ev, evR]
  cases ev c a 0 env with
  | ok r => simp [r_ok, callD, lents, argSV, permD, r_of]
  | ex x => rfl
  | bad => rfl
theorem lcL_mapM {α : Type} {bind : PyData → EnvD → Option EnvD} {own : List Nat} {t : EnvD → Rs (Bool × EnvD)} {f : EnvD → Rs (PyData × EnvD)} {env : EnvD} {p : α → Bool} {φ γ : α → PyData} : ∀ {xs : List α},
    (∀ x ∈ xs, ∃ e1 e2, bind (φ x) env = some e1 ∧ t e1 = .ok (p x, e2) ∧ (p x = false → wipeD e2 own = env) ∧ (p x = true → ∃ e3, f e2 = .ok (γ x, e3) ∧ wipeD e3 own = env)) → lcL bind own t f (xs.map φ) env = .ok ((xs.filter p).map γ, env)
  | [], _ => rfl
  | x :: xs, h => by
    have ih := lcL_mapM (xs := xs) (bind := bind) (own := own) (t := t) (f := f) (env := env) (p := p) (φ := φ) (γ := γ) fun y hy => h y (List.mem_cons_of_mem _ hy)
    obtain ⟨e1, e2, h1, h2, h3, h4⟩ := h x (List.mem_cons_self ..)
    simp only [List.map_cons, lcL, h1, r_of, r_ok, h2, Rs.noEx]
    cases hp : p x with
    | false =>
      rw [List.filter_cons_of_neg (by simp [hp])]
      show lcL bind own t f (xs.map φ) (wipeD e2 own) = _
      rw [h3 hp, ih]
    | true =>
      obtain ⟨e3, h5, h6⟩ := h4 hp
      rw [List.filter_cons_of_pos (by simp [hp])]
      show (f e2).noEx.bind _ = _
      rw [h5]
      show (lcL bind own t f (xs.map φ) (wipeD e3 own)).bind _ = _
      rw [h6, ih]
      rfl
/-- a comprehension that chooses and maps, over things known by a list of one's own -/
theorem ev_lcM {α : Type} {c : Orc} {own : List Nat} {tg : Tg} {it : It} {ts : Tts} {e : E} {k : Nat} {env : EnvD} (xs : List α) (p : α → Bool) (φ γ : α → PyData) (h0 : ownOk env own = true) (hi : evI c it env = .ok (xs.map φ, env)) (hl : xs.length ≤ 16777216)
    (h : ∀ x ∈ xs, ∃ e1 e2, bindT tg (φ x) (wipeD env own) = some e1 ∧ evTs c ts e1 = .ok (p x, e2) ∧ (p x = false → wipeD e2 own = wipeD env own) ∧ (p x = true → ∃ e3, ev c e (k - 1) e2 = .ok (γ x, e3) ∧ wipeD e3 own = wipeD env own)) (hb : backD env (wipeD env own) own = env) :
    ev c (.lc own tg it ts e) k env = .ok (.list ((xs.filter p).map γ), env) := by
  simp only [ev]
  rw [if_neg (by rw [h0]; simp), hi, r_ok]
  dsimp only
  rw [if_neg (by rw [h0]; simp), lcL_mapM h, r_ok]
  dsimp only
  rw [if_pos (by
    rw [List.length_map]
    exact Nat.le_trans (List.length_filter_le _ _) hl), hb]
theorem ev_lcMA {α : Type} {c : Orc} {own : List Nat} {tg : Tg} {it : It} {e : E} {k : Nat} {env : EnvD} (xs : List α) (φ γ : α → PyData) (h0 : ownOk env own = true) (hi : evI c it env = .ok (xs.map φ, env)) (hl : xs.length ≤ 16777216)
    (h : ∀ x ∈ xs, ∃ e1 e3, bindT tg (φ x) (wipeD env own) = some e1 ∧ ev c e (k - 1) e1 = .ok (γ x, e3) ∧ wipeD e3 own = wipeD env own) (hb : backD env (wipeD env own) own = env) :
    ev c (.lc own tg it .nil e) k env = .ok (.list (xs.map γ), env) := by
  have := ev_lcM (c := c) (own := own) (tg := tg) (it := it) (ts := .nil) (e := e) (k := k) (env := env) xs (fun _ => true) φ γ h0 hi hl (fun x hx => by
    obtain ⟨e1, e3, h1, h2, h3⟩ := h x hx
    exact ⟨e1, e1, h1, by simp only [evTs], fun z => (by cases z), fun _ => ⟨e3, h2, h3⟩⟩) hb
  rw [this, List.filter_eq_self.mpr (fun _ _ => rfl)]
end Fx
set_option Elab.async false
set_option linter.all false
set_option maxRecDepth 100000
set_option maxHeartbeats 0
namespace K73
open PySem PySem.Spec PyProof.Rows L2 Fx
def top (i : Nat) : Stmt := PySem.Challenge.pw_roundladder_k73_whole_shortest_ladders.main.body.getD i (.Pass ⟨0, 0, 0, 0⟩)
def b0 : Ss :=
 (.cons (.par 0 1 0 0 (.p (.p1 .abs (.at 0))) (.p (.p1 .abs (.at 1)))) (.cons (.whl (.v (.p (.at 1)))
 (.cons (.par 0 1 0 0 (.p (.at 1)) (.b2 .mod (.p (.at 0)) (.p (.at 1)))) .nil)) (.cons (.ret (.p (.at 0))) .nil)))
def d0 : Def := ⟨"divisor", top 1, ["one", "other"], ["one", "other"], ⟨2, 2, [false, false], 0, b0⟩⟩
def b1 : Ss :=
 (.cons (.as (.nm 2) 0 (.call 0 none (.v (.p (.at 0)) (.v (.p (.at 1)) .nil)))) (.cons (.iff (.c2 .lt (.p (.at 1)) (.p (.k (.int 0))))
 (.cons (.as (.nm 2) 0 (.p (.p1 .neg (.at 2)))) .nil)
 .nil) (.cons (.ret (.tup (.cons (.b2 .fdiv (.p (.at 0)) (.p (.at 2))) (.cons (.b2 .fdiv (.p (.at 1)) (.p (.at 2))) .nil)))) .nil)))
def d1 : Def := ⟨"lowest", top 5, ["above", "below", "by"], ["above", "below"], ⟨2, 3, [false, false], 0, b1⟩⟩
def b2 : Ss :=
 (.cons (.ret (.call 1 none (.v (.b2 .sub (.b2 .mul (.p (.ix (.at 0) (.k (.int 0)))) (.p (.ix (.at 1) (.k (.int 1))))) (.b2 .mul (.p (.ix (.at 1) (.k (.int 0)))) (.p (.ix (.at 0) (.k (.int 1)))))) (.v (.b2 .mul (.p (.ix (.at 0) (.k (.int 1)))) (.p (.ix (.at 1) (.k (.int 1))))) .nil)))) .nil)
def d2 : Def := ⟨"minus", top 6, ["one", "other"], ["one", "other"], ⟨2, 2, [false, false], 0, b2⟩⟩
def b3 : Ss :=
 (.cons (.ret (.call 1 none (.v (.b2 .mul (.p (.ix (.at 0) (.k (.int 0)))) (.p (.ix (.at 1) (.k (.int 1))))) (.v (.b2 .mul (.p (.ix (.at 0) (.k (.int 1)))) (.p (.ix (.at 1) (.k (.int 0))))) .nil)))) .nil)
def d3 : Def := ⟨"quotient", top 7, ["one", "other"], ["one", "other"], ⟨2, 2, [false, false], 0, b3⟩⟩
def b4 : Ss :=
 (.cons (.ret (.ite (.v (.p (.at 0))) (.p (.ix (.ix (.at 0) (.k (.int 0))) (.k (.int 1)))) (.p (.g 0)))) .nil)
def d4 : Def := ⟨"tap_of", top 9, ["s"], ["s"], ⟨1, 1, [false], 0, b4⟩⟩
def b5 : Ss :=
 (.cons (.ret (.tup (.cons (.p (.k (.str "add"))) (.cons (.p (.at 0)) (.cons (.b2 .sub (.p (.k (.int 1))) (.p (.at 0))) (.cons (.tup (.cons (.tup (.cons (.p (.k (.int 0))) (.cons (.p (.at 1)) .nil))) .nil)) (.cons (.p (.k (.str "near"))) .nil))))))) .nil)
def d5 : Def := ⟨"add_step", top 10, ["i", "tap"], ["i", "tap"], ⟨2, 2, [false, false], 0, b5⟩⟩
def b6 : Ss :=
 (.cons (.iff (.c2 .eq (.p (.at 1)) (.p (.g 0)))
 (.cons (.ret (.lst .nil)) .nil)
 .nil) (.cons (.as (.nm 4) 0 (.call 3 none (.v (.call 2 none (.v (.p (.at 2)) (.v (.p (.g 1)) .nil))) (.v (.p (.at 1)) .nil)))) (.cons (.as (.nm 5) 0 (.call 3 none (.v (.call 2 none (.v (.p (.at 0)) (.v (.p (.g 1)) .nil))) (.v (.p (.at 1)) .nil)))) (.cons (.ret (.lst (.cons (.tup (.cons (.p (.k (.int 2))) (.cons (.tup (.cons (.call 5 none (.v (.p (.at 3)) (.v (.p (.at 4)) .nil))) (.cons (.call 5 none (.v (.b2 .sub (.p (.k (.int 1))) (.p (.at 3))) (.v (.p (.at 1)) .nil))) (.cons (.call 5 none (.v (.p (.at 3)) (.v (.p (.at 5)) .nil))) .nil)))) .nil))) .nil))) .nil))))
def d6 : Def := ⟨"three_steps", top 11, ["a", "corner", "d", "i", "first", "last"], ["a", "corner", "d", "i"], ⟨4, 6, [false, false, false, false], 0, b6⟩⟩
def b7 : Ss :=
 (.cons (.as (.tp (.cons (.tp (.cons (.nm 1) (.cons (.nm 2) .nil))) (.cons (.tp (.cons (.nm 3) (.cons (.nm 4) .nil))) .nil))) 0 (.lc [5] (.nm 5) (.e (.p (.at 0))) .nil (.lc [6] (.nm 6) (.e (.p (.at 5))) .nil (.call 4 none (.v (.p (.at 6)) .nil))))) (.cons (.iff (.and (.c2 .eq (.p (.at 2)) (.p (.g 0))) (.c2 .eq (.p (.at 3)) (.p (.g 0))))
 (.cons (.ret (.ite (.c2 .eq (.p (.at 1)) (.p (.g 1))) (.tup (.cons (.p (.k (.int 0))) (.cons (.tup (.cons (.tup (.cons (.p (.k (.int 2))) (.cons (.tup .nil) .nil))) .nil)) .nil))) (.tup (.cons (.p (.k (.int 4))) (.cons (.tup .nil) .nil))))) .nil)
 .nil) (.cons (.iff (.and (.c2 .eq (.p (.at 1)) (.p (.g 1))) (.c2 .eq (.p (.at 4)) (.p (.g 1))))
 (.cons (.ret (.tup (.cons (.p (.k (.int 1))) (.cons (.tup (.cons (.tup (.cons (.p (.k (.int 2))) (.cons (.tup (.cons (.ite (.c2 .eq (.p (.at 3)) (.p (.g 0))) (.call 5 none (.v (.p (.k (.int 0))) (.v (.p (.at 2)) .nil))) (.call 5 none (.v (.p (.k (.int 1))) (.v (.p (.at 3)) .nil)))) .nil)) .nil))) .nil)) .nil)))) .nil)
 .nil) (.cons (.iff (.c2 .eq (.p (.at 4)) (.p (.g 1)))
 (.cons (.ret (.tup (.cons (.p (.k (.int 2))) (.cons (.tup (.cons (.tup (.cons (.p (.k (.int 2))) (.cons (.tup (.cons (.call 5 none (.v (.p (.k (.int 1))) (.v (.p (.at 3)) .nil))) (.cons (.call 5 none (.v (.p (.k (.int 0))) (.v (.p (.at 2)) .nil))) .nil))) .nil))) .nil)) .nil)))) .nil)
 .nil) (.cons (.iff (.c2 .eq (.p (.at 1)) (.p (.g 1)))
 (.cons (.ret (.tup (.cons (.p (.k (.int 2))) (.cons (.tup (.cons (.tup (.cons (.p (.k (.int 2))) (.cons (.tup (.cons (.call 5 none (.v (.p (.k (.int 0))) (.v (.p (.at 2)) .nil))) (.cons (.call 5 none (.v (.p (.k (.int 1))) (.v (.p (.at 3)) .nil))) .nil))) .nil))) .nil)) .nil)))) .nil)
 .nil) (.cons (.ret (.tup (.cons (.p (.k (.int 3))) (.cons (.bi .tuple (.cons (.bi .sorted (.cons (.b2 .add (.call 6 none (.v (.p (.at 1)) (.v (.p (.at 3)) (.v (.p (.at 4)) (.v (.p (.k (.int 0))) .nil))))) (.call 6 none (.v (.p (.at 4)) (.v (.p (.at 2)) (.v (.p (.at 1)) (.v (.p (.k (.int 1))) .nil)))))) .nil)) .nil)) .nil)))) .nil))))))
def d7 : Def := ⟨"shortest", top 12, ["table", "a", "b", "c", "d", "line", "s"], ["table"], ⟨1, 7, [false], 0, b7⟩⟩
def b8 : Ss :=
 (.cons (.as (.nm 1) 0 (.b2 .add (.lc [3] (.nm 3) (.e (.p (.at 0))) .nil (.p (.p1 .abs (.p1 .int (.at 3))))) (.lst (.cons (.p (.k (.int 7))) .nil)))) (.cons (.as (.nm 2) 1 (.lst .nil)) (.cons (.iff (.c2 .eq (.b2 .mod (.p (.p1 .int (.ix (.at 1) (.k (.int 0))))) (.p (.k (.int 2)))) (.p (.k (.int 0))))
 (.cons (.as (.nm 2) 1 (.lc [3] (.nm 3) (.e (.p (.at 1))) (.cons (.c2 .ge (.p (.at 3)) (.b2 .pow (.p (.k (.int 10))) (.p (.k (.int 18))))) .nil) (.b2 .fdiv (.p (.at 3)) (.p (.k (.int 2)))))) (.cons (.ex (.mu .reverse 2 [] 0 .nil)) .nil))
 .nil) (.cons (.ret (.lst (.cons (.p (.k (.int 0))) (.cons (.p (.k (.int 0))) (.cons (.p (.at 2)) (.cons (.lc [3] (.nm 3) (.e (.p (.at 1))) .nil (.b2 .mod (.p (.p1 .int (.at 3))) (.p (.k (.int 2147483647))))) .nil)))))) .nil))))
def d8 : Def := ⟨"_law_bag", top 14, ["script", "cells", "great", "cell"], ["script"], ⟨1, 4, [false], 2, b8⟩⟩
def b9 : Ss :=
 (.cons (.put 0 [] (.k (.int 1)) 1 (.b2 .add (.p (.ix (.at 0) (.k (.int 1)))) (.p (.k (.int 1))))) (.cons (.iff (.and (.c2 .eq (.p (.ix (.at 0) (.k (.int 0)))) (.p (.k (.int 0)))) (.c2 .gt (.p (.p1 .len (.ix (.at 0) (.k (.int 2))))) (.p (.k (.int 0)))))
 (.cons (.put 0 [] (.k (.int 0)) 1 (.mu .pop 0 [(.k (.int 2))] 0 .nil)) .nil)
 .nil) (.cons (.iff (.c2 .gt (.p (.ix (.at 0) (.k (.int 0)))) (.p (.k (.int 0))))
 (.cons (.as (.nm 4) 0 (.b2 .mod (.p (.p1 .int (.ix (.at 0) (.k (.int 0))))) (.p (.at 1)))) (.cons (.put 0 [] (.k (.int 0)) 1 (.b2 .fdiv (.p (.ix (.at 0) (.k (.int 0)))) (.p (.at 1)))) (.cons (.ret (.p (.at 4))) .nil)))
 .nil) (.cons (.as (.nm 2) 0 (.p (.ix (.ix (.at 0) (.k (.int 3))) (.b2 .mod (.p1 .int (.ix (.at 0) (.k (.int 1)))) (.p1 .len (.ix (.at 0) (.k (.int 3)))))))) (.cons (.as (.nm 3) 0 (.b2 .mod (.p (.p1 .int (.b2 .add (.b2 .add (.b2 .mul (.at 2) (.k (.int 48271))) (.b2 .mul (.ix (.at 0) (.k (.int 1))) (.k (.int 69621)))) (.k (.int 1))))) (.p (.k (.int 2147483647))))) (.cons (.ret (.b2 .mod (.b2 .fdiv (.b2 .mod (.p (.p1 .int (.b2 .add (.b2 .add (.b2 .mul (.at 3) (.at 3)) (.b2 .mul (.at 3) (.k (.int 16807)))) (.b2 .mul (.ix (.at 0) (.k (.int 1))) (.k (.int 40014)))))) (.p (.k (.int 2147483629)))) (.p (.k (.int 32)))) (.p (.at 1)))) .nil))))))
def d9 : Def := ⟨"_law_draw", top 15, ["bag", "many", "cell", "mixed", "digit"], ["bag", "many"], ⟨2, 5, [true, false], 0, b9⟩⟩
def b10 : Ss :=
 (.cons (.ret (.ix (.p (.at 1)) (.call 9 none (.l 0 (.v (.p (.p1 .len (.at 1))) .nil))))) .nil)
def d10 : Def := ⟨"_law_pick", top 16, ["bag", "some"], ["bag", "some"], ⟨2, 2, [true, false], 0, b10⟩⟩
def b11 : Ss :=
 (.cons (.iff (.isN (.p (.at 1)) false)
 (.cons (.ret (.isN (.p (.at 0)) false)) .nil)
 .nil) (.cons (.iff (.or (.v (.isa .bool (.p (.at 1)))) (.v (.isa .bool (.p (.at 0)))))
 (.cons (.ret (.and (.isa .bool (.p (.at 1))) (.and (.isa .bool (.p (.at 0))) (.c2 .eq (.p (.at 0)) (.p (.at 1)))))) .nil)
 .nil) (.cons (.iff (.v (.isa .int (.p (.at 1))))
 (.cons (.ret (.and (.isa .int (.p (.at 0))) (.c2 .eq (.p (.at 0)) (.p (.at 1))))) .nil)
 .nil) (.cons (.iff (.v (.isa .str (.p (.at 1))))
 (.cons (.ret (.and (.isa .str (.p (.at 0))) (.c2 .eq (.p (.at 0)) (.p (.at 1))))) .nil)
 .nil) (.cons (.iff (.or (.not (.v (.isa .tuple (.p (.at 1))))) (.or (.not (.v (.isa .tuple (.p (.at 0))))) (.c2 .ne (.p (.p1 .len (.at 0))) (.p (.p1 .len (.at 1))))))
 (.cons (.ret (.p (.k (.bool false)))) .nil)
 .nil) (.cons (.for (.nm 2) (.range (.cons (.p (.p1 .len (.at 1))) .nil))
 (.cons (.iff (.not (.v (.call 11 none (.v (.p (.ix (.at 0) (.at 2))) (.v (.p (.ix (.at 1) (.at 2))) .nil)))))
  (.cons (.ret (.p (.k (.bool false)))) .nil)
  .nil) .nil)) (.cons (.ret (.p (.k (.bool true)))) .nil)))))))
def d11 : Def := ⟨"_law_same", top 17, ["found", "due", "k"], ["found", "due"], ⟨2, 3, [false, false], 0, b11⟩⟩
def b12 : Ss :=
 (.cons (.par 0 1 0 0 (.p (.p1 .abs (.at 0))) (.p (.p1 .abs (.at 1)))) (.cons (.for (.nm 2) (.range (.cons (.p (.k (.int 2000))) .nil))
 (.cons (.iff (.c2 .eq (.p (.at 1)) (.p (.k (.int 0))))
  (.cons .brk .nil)
  .nil) (.cons (.par 0 1 0 0 (.p (.at 1)) (.b2 .mod (.p (.p1 .int (.at 0))) (.p (.at 1)))) .nil))) (.cons (.ret (.p (.at 0))) .nil)))
def d12 : Def := ⟨"_law_gcd", top 18, ["a", "b", "time"], ["a", "b"], ⟨2, 3, [false, false], 0, b12⟩⟩
def b13 : Ss :=
 (.cons (.as (.nm 2) 0 (.ite (.c2 .gt (.p (.at 1)) (.p (.k (.int 0)))) (.call 12 none (.v (.p (.at 0)) (.v (.p (.at 1)) .nil))) (.b2 .sub (.p (.k (.int 0))) (.call 12 none (.v (.p (.at 0)) (.v (.p (.at 1)) .nil)))))) (.cons (.ret (.tup (.cons (.b2 .fdiv (.p (.at 0)) (.p (.at 2))) (.cons (.b2 .fdiv (.p (.at 1)) (.p (.at 2))) .nil)))) .nil))
def d13 : Def := ⟨"_law_fr", top 19, ["a", "b", "by"], ["a", "b"], ⟨2, 3, [false, false], 0, b13⟩⟩
def b14 : Ss :=
 (.cons (.ret (.call 13 none (.v (.b2 .add (.b2 .mul (.p (.ix (.at 0) (.k (.int 0)))) (.p (.ix (.at 1) (.k (.int 1))))) (.b2 .mul (.p (.ix (.at 1) (.k (.int 0)))) (.p (.ix (.at 0) (.k (.int 1)))))) (.v (.b2 .mul (.p (.ix (.at 0) (.k (.int 1)))) (.p (.ix (.at 1) (.k (.int 1))))) .nil)))) .nil)
def d14 : Def := ⟨"_law_plus", top 20, ["a", "b"], ["a", "b"], ⟨2, 2, [false, false], 0, b14⟩⟩
def b15 : Ss :=
 (.cons (.ret (.call 13 none (.v (.b2 .mul (.p (.ix (.at 0) (.k (.int 0)))) (.p (.ix (.at 1) (.k (.int 0))))) (.v (.b2 .mul (.p (.ix (.at 0) (.k (.int 1)))) (.p (.ix (.at 1) (.k (.int 1))))) .nil)))) .nil)
def d15 : Def := ⟨"_law_times", top 21, ["a", "b"], ["a", "b"], ⟨2, 2, [false, false], 0, b15⟩⟩
def b16 : Ss :=
 (.cons (.ret (.call 13 none (.v (.b2 .mul (.p (.ix (.at 0) (.k (.int 0)))) (.p (.ix (.at 1) (.k (.int 1))))) (.v (.b2 .mul (.p (.ix (.at 0) (.k (.int 1)))) (.p (.ix (.at 1) (.k (.int 0))))) .nil)))) .nil)
def d16 : Def := ⟨"_law_over", top 22, ["a", "b"], ["a", "b"], ⟨2, 2, [false, false], 0, b16⟩⟩
def b17 : Ss :=
 (.cons (.ret (.call 13 none (.v (.b2 .sub (.b2 .mul (.p (.ix (.at 0) (.k (.int 0)))) (.p (.ix (.at 1) (.k (.int 1))))) (.b2 .mul (.p (.ix (.at 1) (.k (.int 0)))) (.p (.ix (.at 0) (.k (.int 1)))))) (.v (.b2 .mul (.p (.ix (.at 0) (.k (.int 1)))) (.p (.ix (.at 1) (.k (.int 1))))) .nil)))) .nil)
def d17 : Def := ⟨"_law_minus", top 23, ["a", "b"], ["a", "b"], ⟨2, 2, [false, false], 0, b17⟩⟩
def b18 : Ss :=
 (.cons (.ret (.tup (.cons (.p (.k (.int 2))) (.cons (.bi .tuple (.cons (.lc [1, 2] (.tp (.cons (.nm 1) (.cons (.nm 2) .nil))) (.e (.p (.at 0))) .nil (.tup (.cons (.p (.k (.str "add"))) (.cons (.p (.at 1)) (.cons (.b2 .sub (.p (.k (.int 1))) (.p (.at 1))) (.cons (.tup (.cons (.tup (.cons (.p (.k (.int 0))) (.cons (.p (.at 2)) .nil))) .nil)) (.cons (.p (.k (.str "near"))) .nil))))))) .nil)) .nil)))) .nil)
def d18 : Def := ⟨"_law_chain_of", top 24, ["ways", "i", "s"], ["ways"], ⟨1, 3, [false], 0, b18⟩⟩
def b19 : Ss :=
 (.cons (.as (.tp (.cons (.nm 1) (.cons (.nm 2) (.cons (.nm 3) (.cons (.nm 4) .nil))))) 0 (.tup (.cons (.tup (.cons (.p (.k (.int 1))) (.cons (.p (.k (.int 1))) .nil))) (.cons (.tup (.cons (.p (.k (.int 0))) (.cons (.p (.k (.int 1))) .nil))) (.cons (.tup (.cons (.p (.k (.int 0))) (.cons (.p (.k (.int 1))) .nil))) (.cons (.tup (.cons (.p (.k (.int 1))) (.cons (.p (.k (.int 1))) .nil))) .nil)))))) (.cons (.for (.tp (.cons (.nm 5) (.cons (.nm 6) .nil))) (.e (.p (.at 0)))
 (.cons (.iff (.c2 .eq (.p (.at 5)) (.p (.k (.int 0))))
  (.cons (.par 1 2 0 0 (.call 14 none (.v (.p (.at 1)) (.v (.call 15 none (.v (.p (.at 6)) (.v (.p (.at 3)) .nil))) .nil))) (.call 14 none (.v (.p (.at 2)) (.v (.call 15 none (.v (.p (.at 6)) (.v (.p (.at 4)) .nil))) .nil)))) .nil)
  (.cons (.par 3 4 0 0 (.call 14 none (.v (.p (.at 3)) (.v (.call 15 none (.v (.p (.at 6)) (.v (.p (.at 1)) .nil))) .nil))) (.call 14 none (.v (.p (.at 4)) (.v (.call 15 none (.v (.p (.at 6)) (.v (.p (.at 2)) .nil))) .nil)))) .nil)) .nil)) (.cons (.ret (.tup (.cons (.p (.at 1)) (.cons (.p (.at 2)) (.cons (.p (.at 3)) (.cons (.p (.at 4)) .nil)))))) .nil)))
def d19 : Def := ⟨"_law_block_of", top 25, ["ways", "a", "b", "c", "d", "i", "s"], ["ways"], ⟨1, 7, [false], 0, b19⟩⟩
def b20 : Ss :=
 (.cons (.as (.tp (.cons (.nm 2) (.cons (.nm 3) (.cons (.nm 4) (.cons (.nm 5) .nil))))) 0 (.p (.at 0))) (.cons (.as (.tp (.cons (.nm 6) (.cons (.nm 7) .nil))) 0 (.tup (.cons (.tup (.cons (.p (.k (.int 1))) (.cons (.p (.k (.int 1))) .nil))) (.cons (.tup (.cons (.p (.k (.int 0))) (.cons (.p (.k (.int 1))) .nil))) .nil)))) (.cons (.iff (.and (.c2 .eq (.p (.at 3)) (.p (.at 7))) (.c2 .eq (.p (.at 4)) (.p (.at 7))))
 (.cons (.ret (.ite (.c2 .eq (.p (.at 2)) (.p (.at 6))) (.tup (.cons (.p (.k (.int 0))) (.cons (.lst (.cons (.lst .nil) .nil)) .nil))) (.tup (.cons (.p (.k (.int 4))) (.cons (.lst .nil) .nil))))) .nil)
 .nil) (.cons (.iff (.and (.c2 .eq (.p (.at 2)) (.p (.at 6))) (.c2 .eq (.p (.at 4)) (.p (.at 7))))
 (.cons (.ret (.tup (.cons (.p (.k (.int 1))) (.cons (.lst (.cons (.lst (.cons (.tup (.cons (.p (.k (.int 0))) (.cons (.p (.at 3)) .nil))) .nil)) .nil)) .nil)))) .nil)
 .nil) (.cons (.iff (.and (.c2 .eq (.p (.at 2)) (.p (.at 6))) (.c2 .eq (.p (.at 3)) (.p (.at 7))))
 (.cons (.ret (.tup (.cons (.p (.k (.int 1))) (.cons (.lst (.cons (.lst (.cons (.tup (.cons (.p (.k (.int 1))) (.cons (.p (.at 4)) .nil))) .nil)) .nil)) .nil)))) .nil)
 .nil) (.cons (.iff (.c2 .eq (.p (.at 2)) (.p (.at 6)))
 (.cons (.ret (.tup (.cons (.p (.k (.int 2))) (.cons (.lst (.cons (.lst (.cons (.tup (.cons (.p (.k (.int 0))) (.cons (.p (.at 3)) .nil))) (.cons (.tup (.cons (.p (.k (.int 1))) (.cons (.p (.at 4)) .nil))) .nil))) .nil)) .nil)))) .nil)
 .nil) (.cons (.iff (.c2 .eq (.p (.at 5)) (.p (.at 6)))
 (.cons (.ret (.tup (.cons (.p (.k (.int 2))) (.cons (.lst (.cons (.lst (.cons (.tup (.cons (.p (.k (.int 1))) (.cons (.p (.at 4)) .nil))) (.cons (.tup (.cons (.p (.k (.int 0))) (.cons (.p (.at 3)) .nil))) .nil))) .nil)) .nil)))) .nil)
 .nil) (.cons (.as (.nm 1) 1 (.lst .nil)) (.cons (.iff (.c2 .ne (.p (.at 4)) (.p (.at 7)))
 (.cons (.ex (.mu .append 1 [] 0 (.cons (.lst (.cons (.tup (.cons (.p (.k (.int 0))) (.cons (.call 16 none (.v (.call 17 none (.v (.p (.at 5)) (.v (.p (.at 6)) .nil))) (.v (.p (.at 4)) .nil))) .nil))) (.cons (.tup (.cons (.p (.k (.int 1))) (.cons (.p (.at 4)) .nil))) (.cons (.tup (.cons (.p (.k (.int 0))) (.cons (.call 16 none (.v (.call 17 none (.v (.p (.at 2)) (.v (.p (.at 6)) .nil))) (.v (.p (.at 4)) .nil))) .nil))) .nil)))) .nil))) .nil)
 .nil) (.cons (.iff (.c2 .ne (.p (.at 3)) (.p (.at 7)))
 (.cons (.ex (.mu .append 1 [] 0 (.cons (.lst (.cons (.tup (.cons (.p (.k (.int 1))) (.cons (.call 16 none (.v (.call 17 none (.v (.p (.at 2)) (.v (.p (.at 6)) .nil))) (.v (.p (.at 3)) .nil))) .nil))) (.cons (.tup (.cons (.p (.k (.int 0))) (.cons (.p (.at 3)) .nil))) (.cons (.tup (.cons (.p (.k (.int 1))) (.cons (.call 16 none (.v (.call 17 none (.v (.p (.at 5)) (.v (.p (.at 6)) .nil))) (.v (.p (.at 3)) .nil))) .nil))) .nil)))) .nil))) .nil)
 .nil) (.cons (.ret (.tup (.cons (.p (.k (.int 3))) (.cons (.p (.at 1)) .nil)))) .nil)))))))))))
def d20 : Def := ⟨"_law_ways", top 26, ["block", "found", "a", "b", "c", "d", "one", "none"], ["block"], ⟨1, 8, [false], 0, b20⟩⟩
def b21 : Ss :=
 (.cons (.as (.nm 1) 0 (.lc [2] (.nm 2) (.e (.p (.at 0))) .nil (.ite (.c2 .ne (.p (.ix (.at 2) (.k (.int 0)))) (.p (.k (.int 0)))) (.tup (.cons (.tup (.cons (.p (.k (.int 0))) (.cons (.p (.at 2)) .nil))) .nil)) (.tup .nil)))) (.cons (.ret (.tup (.cons (.tup (.cons (.p (.ix (.at 1) (.k (.int 0)))) (.cons (.p (.ix (.at 1) (.k (.int 1)))) .nil))) (.cons (.tup (.cons (.p (.ix (.at 1) (.k (.int 2)))) (.cons (.p (.ix (.at 1) (.k (.int 3)))) .nil))) .nil)))) .nil))
def d21 : Def := ⟨"_law_table", top 27, ["block", "sums", "one"], ["block"], ⟨1, 3, [false], 0, b21⟩⟩
def b22 : Ss :=
 (.cons (.as (.nm 2) 0 (.lst (.cons (.tup (.cons (.p (.k (.int 1))) (.cons (.p (.k (.int 2))) .nil))) (.cons (.tup (.cons (.p (.p1 .neg (.k (.int 1)))) (.cons (.p (.k (.int 2))) .nil))) (.cons (.tup (.cons (.p (.k (.int 1))) (.cons (.p (.k (.int 1))) .nil))) (.cons (.tup (.cons (.p (.p1 .neg (.k (.int 1)))) (.cons (.p (.k (.int 1))) .nil))) (.cons (.tup (.cons (.p (.k (.int 2))) (.cons (.p (.k (.int 1))) .nil))) (.cons (.tup (.cons (.p (.p1 .neg (.k (.int 2)))) (.cons (.p (.k (.int 1))) .nil))) (.cons (.tup (.cons (.p (.k (.int 1))) (.cons (.p (.k (.int 3))) .nil))) (.cons (.tup (.cons (.p (.p1 .neg (.k (.int 2)))) (.cons (.p (.k (.int 3))) .nil))) (.cons (.tup (.cons (.p (.k (.int 3))) (.cons (.p (.k (.int 4))) .nil))) (.cons (.tup (.cons (.p (.p1 .neg (.k (.int 1)))) (.cons (.p (.k (.int 4))) .nil))) (.cons (.tup (.cons (.p (.k (.int 3))) (.cons (.p (.k (.int 2))) .nil))) .nil))))))))))))) (.cons (.par 4 5 0 0 (.call 9 none (.l 0 (.v (.p (.k (.int 5))) .nil))) (.call 9 none (.l 0 (.v (.p (.k (.int 6))) .nil)))) (.cons (.par 6 7 0 1 (.call 9 none (.l 0 (.v (.p (.k (.int 2))) .nil))) (.lst .nil)) (.cons (.for (.nm 3) (.range (.cons (.p (.at 4)) .nil))
 (.cons (.ex (.mu .append 7 [] 0 (.cons (.tup (.cons (.b2 .mod (.p (.p1 .int (.b2 .add (.at 6) (.at 3)))) (.p (.k (.int 2)))) (.cons (.call 10 none (.l 0 (.v (.p (.at 2)) .nil))) .nil))) .nil))) .nil)) (.cons (.iff (.c2 .eq (.p (.at 5)) (.p (.k (.int 0))))
 (.cons (.as (.nm 8) 0 (.call 10 none (.l 0 (.v (.lst (.cons (.tup (.cons (.p (.k (.int 2))) (.cons (.p (.k (.int 1))) .nil))) (.cons (.tup (.cons (.p (.k (.int 1))) (.cons (.p (.k (.int 2))) .nil))) (.cons (.tup (.cons (.p (.p1 .neg (.k (.int 1)))) (.cons (.p (.k (.int 1))) .nil))) (.cons (.tup (.cons (.p (.k (.int 3))) (.cons (.p (.k (.int 2))) .nil))) (.cons (.tup (.cons (.p (.p1 .neg (.k (.int 2)))) (.cons (.p (.k (.int 3))) .nil))) (.cons (.tup (.cons (.p (.k (.int 1))) (.cons (.p (.k (.int 1))) .nil))) .nil))))))) .nil)))) (.cons (.ret (.tup (.cons (.p (.at 8)) (.cons (.tup (.cons (.p (.k (.int 0))) (.cons (.p (.k (.int 1))) .nil))) (.cons (.tup (.cons (.p (.k (.int 0))) (.cons (.p (.k (.int 1))) .nil))) (.cons (.call 16 none (.v (.tup (.cons (.p (.k (.int 1))) (.cons (.p (.k (.int 1))) .nil))) (.v (.p (.at 8)) .nil))) .nil)))))) .nil))
 .nil) (.cons (.iff (.c2 .eq (.p (.at 5)) (.p (.k (.int 1))))
 (.cons (.as (.nm 8) 0 (.call 10 none (.l 0 (.v (.lst (.cons (.tup (.cons (.p (.k (.int 2))) (.cons (.p (.k (.int 1))) .nil))) (.cons (.tup (.cons (.p (.k (.int 1))) (.cons (.p (.k (.int 2))) .nil))) (.cons (.tup (.cons (.p (.p1 .neg (.k (.int 1)))) (.cons (.p (.k (.int 1))) .nil))) (.cons (.tup (.cons (.p (.k (.int 3))) (.cons (.p (.k (.int 2))) .nil))) .nil))))) .nil)))) (.cons (.ret (.ite (.c2 .eq (.p (.at 6)) (.p (.k (.int 0)))) (.tup (.cons (.p (.at 8)) (.cons (.call 10 none (.l 0 (.v (.p (.at 2)) .nil))) (.cons (.tup (.cons (.p (.k (.int 0))) (.cons (.p (.k (.int 1))) .nil))) (.cons (.call 16 none (.v (.tup (.cons (.p (.k (.int 1))) (.cons (.p (.k (.int 1))) .nil))) (.v (.p (.at 8)) .nil))) .nil))))) (.tup (.cons (.p (.at 8)) (.cons (.tup (.cons (.p (.k (.int 0))) (.cons (.p (.k (.int 1))) .nil))) (.cons (.call 10 none (.l 0 (.v (.p (.at 2)) .nil))) (.cons (.call 16 none (.v (.tup (.cons (.p (.k (.int 1))) (.cons (.p (.k (.int 1))) .nil))) (.v (.p (.at 8)) .nil))) .nil))))))) .nil))
 .nil) (.cons (.for (.nm 3) (.range (.cons (.p (.at 4)) .nil))
 (.cons (.as (.nm 9) 0 (.call 19 none (.v (.p (.at 7)) .nil))) (.cons (.iff (.c2 .gt (.bi .max (.cons (.b2 .add (.lc [10] (.nm 10) (.e (.p (.at 9))) .nil (.p (.p1 .abs (.ix (.at 10) (.k (.int 0)))))) (.lc [10] (.nm 10) (.e (.p (.at 9))) .nil (.p (.ix (.at 10) (.k (.int 1)))))) .nil)) (.p (.at 1)))
  (.cons (.as (.nm 7) 1 (.sl (.p (.at 7)) .none (.some (.p (.p1 .neg (.k (.int 1))))))) .nil)
  .nil) .nil))) (.cons (.ret (.call 19 none (.v (.p (.at 7)) .nil))) .nil))))))))
def d22 : Def := ⟨"_law_drawn_block", top 28, ["bag", "most", "parts", "k", "many", "sort", "i", "ways", "a", "made", "one"], ["bag", "most"], ⟨2, 11, [true, false], 0, b22⟩⟩
def b23 : Ss :=
 (.cons (.as (.nm 1) 2 (.call 8 none (.v (.p (.at 0)) .nil))) (.cons (.for (.nm 2) (.range (.cons (.p (.k (.int 6))) .nil))
 (.cons (.as (.nm 3) 0 (.call 22 none (.l 1 (.v (.p (.k (.int 999))) .nil)))) (.cons (.as (.tp (.cons (.nm 7) (.cons (.nm 8) .nil))) 0 (.call 20 none (.v (.p (.at 3)) .nil))) (.cons (.for (.nm 4) (.e (.p (.at 8)))
  (.cons (.iff (.or (.c2 .ne (.call 19 none (.v (.p (.at 4)) .nil)) (.p (.at 3))) (.or (.c2 .ne (.p (.p1 .len (.at 4))) (.p (.at 7))) (.c2 .gt (.bi .len (.cons (.lc [9, 10] (.tp (.cons (.nm 9) (.cons (.nm 10) .nil))) (.e (.p (.at 4))) (.cons (.c2 .eq (.p (.ix (.at 10) (.k (.int 0)))) (.p (.k (.int 0)))) .nil) (.p (.at 10))) .nil)) (.p (.k (.int 0))))))
   (.cons (.ret (.p (.k (.bool false)))) .nil)
   .nil) .nil)) (.cons (.as (.nm 5) 0 (.call 21 none (.v (.p (.at 3)) .nil))) (.cons (.as (.nm 6) 0 (.ite (.c2 .gt (.p (.at 2)) (.p (.k (.int 0)))) (.call 7 none (.v (.p (.at 5)) .nil)) (.call 7 (some [0]) (.v (.p (.at 5)) .nil)))) (.cons (.iff (.not (.v (.call 11 none (.v (.p (.at 6)) (.v (.tup (.cons (.p (.at 7)) (.cons (.bi .tuple (.cons (.bi .sorted (.cons (.lc [4] (.nm 4) (.e (.p (.at 8))) .nil (.call 18 none (.v (.p (.at 4)) .nil))) .nil)) .nil)) .nil))) .nil)))))
  (.cons (.ret (.p (.k (.bool false)))) .nil)
  .nil) .nil))))))) (.cons (.ret (.p (.k (.bool true)))) .nil)))
def d23 : Def := ⟨"law", top 29, ["script", "bag", "time", "block", "way", "table", "told", "many", "ways", "i", "s"], ["script"], ⟨1, 11, [false], 0, b23⟩⟩
def defs : List Def := [d0, d1, d2, d3, d4, d5, d6, d7, d8, d9, d10, d11, d12, d13, d14, d15, d16, d17, d18, d19, d20, d21, d22, d23]
def kws : List (Nat × Nat × List Str × List Nat) := [(7, 0, ["table"], [0])]
def cons : List Str := ["NOTHING", "ONE"]
def con (n : Nat) : Option PyData := ([(.tuple [(.int 0), (.int 1)]), (.tuple [(.int 1), (.int 1)])] : List PyData)[n]?
def prg : Prg := ⟨defs, kws, cons, con⟩
theorem chk_all : (defs.all fun D => D.ok prg.sig prg.kws prg.cons) = true := by decide +kernel
theorem bd0 : BindP d0 := fun _ _ _ _ _ _ us hl => match us, hl with | [_, _], _ => rfl
theorem bd1 : BindP d1 := fun _ _ _ _ _ _ us hl => match us, hl with | [_, _], _ => rfl
theorem bd2 : BindP d2 := fun _ _ _ _ _ _ us hl => match us, hl with | [_, _], _ => rfl
theorem bd3 : BindP d3 := fun _ _ _ _ _ _ us hl => match us, hl with | [_, _], _ => rfl
theorem bd4 : BindP d4 := fun _ _ _ _ _ _ us hl => match us, hl with | [_], _ => rfl
theorem bd5 : BindP d5 := fun _ _ _ _ _ _ us hl => match us, hl with | [_, _], _ => rfl
theorem bd6 : BindP d6 := fun _ _ _ _ _ _ us hl => match us, hl with | [_, _, _, _], _ => rfl
theorem bd7 : BindP d7 := fun _ _ _ _ _ _ us hl => match us, hl with | [_], _ => rfl
theorem bd8 : BindP d8 := fun _ _ _ _ _ _ us hl => match us, hl with | [_], _ => rfl
theorem bd9 : BindP d9 := fun _ _ _ _ _ _ us hl => match us, hl with | [_, _], _ => rfl
theorem bd10 : BindP d10 := fun _ _ _ _ _ _ us hl => match us, hl with | [_, _], _ => rfl
theorem bd11 : BindP d11 := fun _ _ _ _ _ _ us hl => match us, hl with | [_, _], _ => rfl
theorem bd12 : BindP d12 := fun _ _ _ _ _ _ us hl => match us, hl with | [_, _], _ => rfl
theorem bd13 : BindP d13 := fun _ _ _ _ _ _ us hl => match us, hl with | [_, _], _ => rfl
theorem bd14 : BindP d14 := fun _ _ _ _ _ _ us hl => match us, hl with | [_, _], _ => rfl
theorem bd15 : BindP d15 := fun _ _ _ _ _ _ us hl => match us, hl with | [_, _], _ => rfl
theorem bd16 : BindP d16 := fun _ _ _ _ _ _ us hl => match us, hl with | [_, _], _ => rfl
theorem bd17 : BindP d17 := fun _ _ _ _ _ _ us hl => match us, hl with | [_, _], _ => rfl
theorem bd18 : BindP d18 := fun _ _ _ _ _ _ us hl => match us, hl with | [_], _ => rfl
theorem bd19 : BindP d19 := fun _ _ _ _ _ _ us hl => match us, hl with | [_], _ => rfl
theorem bd20 : BindP d20 := fun _ _ _ _ _ _ us hl => match us, hl with | [_], _ => rfl
theorem bd21 : BindP d21 := fun _ _ _ _ _ _ us hl => match us, hl with | [_], _ => rfl
theorem bd22 : BindP d22 := fun _ _ _ _ _ _ us hl => match us, hl with | [_, _], _ => rfl
theorem bd23 : BindP d23 := fun _ _ _ _ _ _ us hl => match us, hl with | [_], _ => rfl
theorem kw0 : KwP d7 0 ["table"] [0] := fun _ _ _ _ _ _ us ws h1 h2 => match us, ws, h1, h2 with | [], [_], _, _ => rfl
theorem prg_ok : prg.Ok where
  chk := fun D hD => List.all_eq_true.mp chk_all D hD
  bind := by
    intro D hD
    have hD : D ∈ defs := hD
    simp only [defs, List.mem_cons, List.not_mem_nil, or_false] at hD
    rcases hD with rfl | rfl | rfl | rfl | rfl | rfl | rfl | rfl | rfl | rfl | rfl | rfl | rfl | rfl | rfl | rfl | rfl | rfl | rfl | rfl | rfl | rfl | rfl | rfl
    · exact bd0
    · exact bd1
    · exact bd2
    · exact bd3
    · exact bd4
    · exact bd5
    · exact bd6
    · exact bd7
    · exact bd8
    · exact bd9
    · exact bd10
    · exact bd11
    · exact bd12
    · exact bd13
    · exact bd14
    · exact bd15
    · exact bd16
    · exact bd17
    · exact bd18
    · exact bd19
    · exact bd20
    · exact bd21
    · exact bd22
    · exact bd23
  kw := by
    intro i n ks js D hk hD
    have hk : (i, n, ks, js) ∈ kws := hk
    simp only [kws, List.mem_cons, List.not_mem_nil, or_false, Prod.mk.injEq] at hk
    rcases hk with ⟨rfl, rfl, rfl, rfl⟩
    · have e : d7 = D := Option.some.inj hD
      subst e
      exact kw0
end K73
set_option Elab.async false
set_option linter.all false
set_option maxRecDepth 100000
namespace K73
open PySem PySem.Spec PyProof.Rows L2 Fx
theorem divisor_ok (m : Nat) (a b : Int) : callV (prg.orc (m + 1)) 0 [.int a, .int b] = .ok (.int (Int.gcd a b : Nat)) := by
  rw [callV_eq (D := d0) rfl rfl]
  exact divisor_run _ a b
theorem lowest_ok (m : Nat) : FrAt (prg.orc (m + 2)) 1 := fun a b hb hs => by
  rw [callV_eq (D := d1) rfl rfl]
  exact lowest_run _ 0 (divisor_ok m) a b hb (Nat.lt_of_lt_of_le hs (Nat.pow_le_pow_right (by decide) (by decide)))
theorem gcd_ok (m : Nat) (a b : Int) (hb : b.natAbs < 2 ^ 900) : callV (prg.orc (m + 1)) 12 [.int a, .int b] = .ok (.int (Int.gcd a b : Nat)) := by
  rw [callV_eq (D := d12) rfl rfl]
  exact gcdL_run _ a b hb
theorem fr_ok (m : Nat) : FrAt (prg.orc (m + 2)) 13 := fun a b hb hs => by
  rw [callV_eq (D := d13) rfl rfl]
  exact fr_run _ 12 a b (gcd_ok m a b hs) hb (Nat.lt_of_lt_of_le hs (Nat.pow_le_pow_right (by decide) (by decide)))
section
variable (m : Nat) {p q : Rat} (hp : Sz 400 p) (hq : Sz 400 q)
include hp hq
theorem l_plus : callV (prg.orc (m + 3)) 14 [frac p, frac q] = .ok (frac (p + q)) := by
  rw [callV_eq (D := d14) rfl rfl]
  exact plus_ok (fr_ok m) hp hq
theorem l_times : callV (prg.orc (m + 3)) 15 [frac p, frac q] = .ok (frac (p * q)) := by
  rw [callV_eq (D := d15) rfl rfl]
  exact times_ok (fr_ok m) hp hq
theorem l_over (hz : q ≠ 0) : callV (prg.orc (m + 3)) 16 [frac p, frac q] = .ok (frac (p / q)) := by
  rw [callV_eq (D := d16) rfl rfl]
  exact over_ok (fr_ok m) hp hq hz
theorem l_minus : callV (prg.orc (m + 3)) 17 [frac p, frac q] = .ok (frac (p - q)) := by
  rw [callV_eq (D := d17) rfl rfl]
  exact minus_ok (fr_ok m) hp hq
theorem p_minus : callV (prg.orc (m + 3)) 2 [frac p, frac q] = .ok (frac (p - q)) := by
  rw [callV_eq (D := d2) rfl rfl]
  exact minus_ok (lowest_ok m) hp hq
theorem p_quot (hz : q ≠ 0) : callV (prg.orc (m + 3)) 3 [frac p, frac q] = .ok (frac (p / q)) := by
  rw [callV_eq (D := d3) rfl rfl]
  exact over_ok (lowest_ok m) hp hq hz
end
/-- a step of a chain -/
def stp (i : Int) (s : Rat) : PyData := .tuple [.str "add", .int i, .int (1 - i), .tuple [.tuple [.int 0, frac s]], .str "near"]
theorem add_step (m : Nat) (i : Int) (s : Rat) : callV (prg.orc (m + 1)) 5 [.int i, frac s] = .ok (stp i s) := by
  rw [callV_eq (D := d5) rfl rfl]
  simp [d5, b5, svs, exs, exS, ev_p, ev_tup, ev_b2, evs, evPk, evP, slot, opd2, opd, fin, lateE, isP, toP, finO, evPb, g2, Fx.b2, own1, isCont, r_of, r_no, r_ok, r_bad, Fl.val, stp]
end K73
set_option Elab.async false
set_option linter.all false
set_option maxRecDepth 100000
namespace K73
open PySem PySem.Spec PyProof.Rows L2 Fx
structure B4 where
  a : Rat
  b : Rat
  c : Rat
  d : Rat
def fB (t : B4) : PyData := .tuple [frac t.a, frac t.b, frac t.c, frac t.d]
def stepB (t : B4) (w : Int × Rat) : B4 := if w.1 = 0 then ⟨t.a + w.2 * t.c, t.b + w.2 * t.d, t.c, t.d⟩ else ⟨t.a, t.b, t.c + w.2 * t.a, t.d + w.2 * t.b⟩
def wayI (w : Int × Rat) : PyData := .tuple [.int w.1, frac w.2]
def wayD (ws : List (Int × Rat)) : PyData := .list (ws.map wayI)
def SzB (k : Nat) (t : B4) : Prop := Sz k t.a ∧ Sz k t.b ∧ Sz k t.c ∧ Sz k t.d
def bTurn : Ss := (.cons (.iff (.c2 .eq (.p (.at 5)) (.p (.k (.int 0))))
  (.cons (.par 1 2 0 0 (.call 14 none (.v (.p (.at 1)) (.v (.call 15 none (.v (.p (.at 6)) (.v (.p (.at 3)) .nil))) .nil))) (.call 14 none (.v (.p (.at 2)) (.v (.call 15 none (.v (.p (.at 6)) (.v (.p (.at 4)) .nil))) .nil)))) .nil)
  (.cons (.par 3 4 0 0 (.call 14 none (.v (.p (.at 3)) (.v (.call 15 none (.v (.p (.at 6)) (.v (.p (.at 1)) .nil))) .nil))) (.call 14 none (.v (.p (.at 4)) (.v (.call 15 none (.v (.p (.at 6)) (.v (.p (.at 2)) .nil))) .nil)))) .nil)) .nil)
theorem turn_ok (m : Nat) (t : B4) (i : Int) (s : Rat) (w : SV) (ht : SzB 190 t) (hs : Sz 200 s) : exs (prg.orc (m + 3)) 0 bTurn [w, sv0 (frac t.a), sv0 (frac t.b), sv0 (frac t.c), sv0 (frac t.d), sv0 (.int i), sv0 (frac s)] =
    .ok (.nx [w, sv0 (frac (stepB t (i, s)).a), sv0 (frac (stepB t (i, s)).b), sv0 (frac (stepB t (i, s)).c), sv0 (frac (stepB t (i, s)).d), sv0 (.int i), sv0 (frac s)]) := by
  obtain ⟨ha, hb, hc, hd⟩ := ht
  have s4 : Sz 400 s := hs.le (by decide)
  have T : ∀ {x : Rat}, Sz 190 x → callV (prg.orc (m + 3)) 15 [frac s, frac x] = .ok (frac (s * x)) := fun hx => l_times m s4 (hx.le (by decide))
  have P : ∀ {x y : Rat}, Sz 190 x → Sz 190 y → callV (prg.orc (m + 3)) 14 [frac x, frac (s * y)] = .ok (frac (x + s * y)) := fun hx hy => l_plus m (hx.le (by decide)) ((mul_sz hs hy).le (by decide))
  by_cases h : i = 0
  · have e : stepB t (i, s) = ⟨t.a + s * t.c, t.b + s * t.d, t.c, t.d⟩ := by unfold stepB; rw [if_pos h]
    rw [e]
    simp [bTurn, exs, exS, evT, ev_call_2, evR, ev_p, evPk, evP, slot, opd2, opd, fin, lateE, isP, toP, finO, evPb, g2, c2B, Fx.c2, ii, isCont, frac_cont, r_of, r_no, r_ok, r_bad, setS, sv0, h, T hc, T hd, P ha hc, P hb hd]
  · have e : stepB t (i, s) = ⟨t.a, t.b, t.c + s * t.a, t.d + s * t.b⟩ := by unfold stepB; rw [if_neg h]
    rw [e]
    simp [bTurn, exs, exS, evT, ev_call_2, evR, ev_p, evPk, evP, slot, opd2, opd, fin, lateE, isP, toP, finO, evPb, g2, c2B, Fx.c2, ii, isCont, frac_cont, r_of, r_no, r_ok, r_bad, setS, sv0, h, T ha, T hb, P hc ha, P hd hb]
def Good : B4 → List (Int × Rat) → Prop
  | _, [] => True
  | t, w :: ws => SzB 190 t ∧ Sz 200 w.2 ∧ Good (stepB t w) ws
def envB (w : SV) (t : B4) (x y : SV) : EnvD := [w, sv0 (frac t.a), sv0 (frac t.b), sv0 (frac t.c), sv0 (frac t.d), x, y]
def Free (s : SV) : Prop := s = .un ∨ ∃ k d, s = .sv false k d
theorem loop_ok (m : Nat) (w : SV) : ∀ (ws : List (Int × Rat)) (t : B4) (x y : SV), Free x → Free y → Good t ws → ∃ x' y', forL (bindT (.tp (.cons (.nm 5) (.cons (.nm 6) .nil)))) (exs (prg.orc (m + 3)) 0 bTurn) (ws.map wayI) (envB w t x y) = .ok (.nx (envB w (ws.foldl stepB t) x' y'))
  | [], t, x, y, _, _, _ => ⟨x, y, rfl⟩
  | wy :: ws, t, x, y, hx, hy, hg => by
    obtain ⟨h1, h2, h3⟩ := hg
    obtain ⟨x', y', ih⟩ := loop_ok m w ws (stepB t wy) (sv0 (.int wy.1)) (sv0 (frac wy.2)) (.inr ⟨_, _, rfl⟩) (.inr ⟨_, _, rfl⟩) h3
    refine ⟨x', y', ?_⟩
    have hb : bindT (.tp (.cons (.nm 5) (.cons (.nm 6) .nil))) (wayI wy) (envB w t x y) = some (envB w t (sv0 (.int wy.1)) (sv0 (frac wy.2))) := by
      rcases hx with rfl | ⟨k, d, rfl⟩ <;> rcases hy with rfl | ⟨k', d', rfl⟩ <;> simp [bindT, bindTs, wayI, envB, setS, sv0]
    rw [List.map_cons, List.foldl_cons]
    simp only [forL, hb, r_of, r_ok]
    have ht := turn_ok m t wy.1 wy.2 w h1 h2
    rw [show envB w t (sv0 (.int wy.1)) (sv0 (frac wy.2)) = [w, sv0 (frac t.a), sv0 (frac t.b), sv0 (frac t.c), sv0 (frac t.d), sv0 (.int wy.1), sv0 (frac wy.2)] from rfl, ht]
    exact ih
def one4 : B4 := ⟨1, 0, 0, 1⟩
theorem block_ok (m : Nat) (ws : List (Int × Rat)) (hg : Good one4 ws) : callV (prg.orc (m + 4)) 19 [wayD ws] = .ok (fB (ws.foldl stepB one4)) := by
  rw [callV_eq (D := d19) rfl rfl]
  obtain ⟨x', y', hl⟩ := loop_ok m (sv0 (wayD ws)) ws one4 .un .un (.inl rfl) (.inl rfl) hg
  have e1 : exS (prg.orc (m + 3)) 0 (.as (.tp (.cons (.nm 1) (.cons (.nm 2) (.cons (.nm 3) (.cons (.nm 4) .nil))))) 0 (.tup (.cons (.tup (.cons (.p (.k (.int 1))) (.cons (.p (.k (.int 1))) .nil))) (.cons (.tup (.cons (.p (.k (.int 0))) (.cons (.p (.k (.int 1))) .nil))) (.cons (.tup (.cons (.p (.k (.int 0))) (.cons (.p (.k (.int 1))) .nil))) (.cons (.tup (.cons (.p (.k (.int 1))) (.cons (.p (.k (.int 1))) .nil))) .nil)))))) [sv0 (wayD ws), .un, .un, .un, .un, .un, .un] = .ok (.nx (envB (sv0 (wayD ws)) one4 .un .un)) := by
    simp [exS, ev_tup, evs, ev_p, evPk, evP, isCont, r_of, r_no, r_ok, r_bad, bindT, bindTs, setS, sv0, envB, one4, frac0, frac1]
  have e2 : exS (prg.orc (m + 3)) 0 (.for (.tp (.cons (.nm 5) (.cons (.nm 6) .nil))) (.e (.p (.at 0))) bTurn) (envB (sv0 (wayD ws)) one4 .un .un) = .ok (.nx (envB (sv0 (wayD ws)) (ws.foldl stepB one4) x' y')) := by
    simp only [exS, evI, ev_p, evPk, evP, slot, envB, sv0, List.getElem?_cons_zero, r_of, r_ok, wayD, isCont, itemsD, and_self, or_true, if_true]
    exact hl
  have e3 : exS (prg.orc (m + 3)) 0 (.ret (.tup (.cons (.p (.at 1)) (.cons (.p (.at 2)) (.cons (.p (.at 3)) (.cons (.p (.at 4)) .nil)))))) (envB (sv0 (wayD ws)) (ws.foldl stepB one4) x' y') = .ok (.rt (fB (ws.foldl stepB one4)) (envB (sv0 (wayD ws)) (ws.foldl stepB one4) x' y')) := by
    simp [exS, ev_tup, evs, ev_p, evPk, evP, slot, isCont, frac_cont, r_of, r_no, r_ok, r_bad, sv0, envB, fB]
  show (exs (prg.orc (m + 3)) 0 b19 [sv0 (wayD ws), .un, .un, .un, .un, .un, .un]).bind Fl.val = _
  unfold b19
  simp only [exs, e1, r_ok]
  rw [show (Ss.cons _ (Ss.nil)) = bTurn from rfl, e2]
  simp only [r_ok, e3]
  rfl
end K73
set_option Elab.async false
set_option linter.all false
set_option maxRecDepth 100000
namespace K73
open PySem PySem.Spec PyProof.Rows L2 Fx
/-- a sum of one pair, or none -/
def sumD (q : Rat) : PyData := if q = 0 then .tuple [] else .tuple [.tuple [.int 0, frac q]]
theorem num0 (q : Rat) : (q.num = 0) ↔ q = 0 := Rat.num_eq_zero
theorem tap_ok (m : Nat) (q : Rat) : callV (prg.orc (m + 1)) 4 [sumD q] = .ok (frac q) := by
  rw [callV_eq (D := d4) rfl rfl]
  by_cases h : q = 0
  · subst h
    have hc : (prg.orc m).con 0 = some (frac 0) := rfl
    simp [d4, b4, svs, sumD, exs, exS, evT, ev_ite, ev_p, evPk, evP, slot, opd1, opd, fin, lateE, toP, finO, evPb, g1, truth, isCont, frac_cont, hc, r_of, r_no, r_ok, r_bad, Fl.val]
  · simp [d4, b4, svs, sumD, h, exs, exS, evT, ev_ite, ev_p, evPk, evP, slot, opd1, opd, fin, lateE, toP, finO, evPb, g1, truth, isCont, frac_cont, ixD, L2.atI, L2.ixN, r_of, r_no, r_ok, r_bad, Fl.val]
/-- a chain of two rows -/
def chainD (ws : List (Int × Rat)) : PyData := .tuple [.int 2, .tuple (ws.map fun w => stp w.1 w.2)]
theorem chain_ok (m : Nat) (ws : List (Int × Rat)) (hl : ws.length ≤ 100) : callV (prg.orc (m + 1)) 18 [wayD ws] = .ok (chainD ws) := by
  rw [callV_eq (D := d18) rfl rfl]
  have e1 : ev (prg.orc m) (.lc [1, 2] (.tp (.cons (.nm 1) (.cons (.nm 2) .nil))) (.e (.p (.at 0))) .nil (.tup (.cons (.p (.k (.str "add"))) (.cons (.p (.at 1)) (.cons (.b2 .sub (.p (.k (.int 1))) (.p (.at 1))) (.cons (.tup (.cons (.tup (.cons (.p (.k (.int 0))) (.cons (.p (.at 2)) .nil))) .nil)) (.cons (.p (.k (.str "near"))) .nil))))))) 0 [sv0 (wayD ws), .un, .un] =
      .ok (.list ((ws.map wayI).map fun d => match d with | .tuple [.int i, s] => .tuple [.str "add", .int i, .int (1 - i), .tuple [.tuple [.int 0, s]], .str "near"] | _ => .none), [sv0 (wayD ws), .un, .un]) := by
    refine ev_lcA (by rfl) ?_ (by rw [List.length_map]; omega) ?_ (by rfl)
    · simp [evI, ev_p, evPk, evP, slot, sv0, isCont, wayD, itemsD, r_of, r_ok]
    · intro x hx
      obtain ⟨w, hw, rfl⟩ := List.mem_map.mp hx
      refine ⟨[sv0 (wayD ws), sv0 (.int w.1), sv0 (frac w.2)], [sv0 (wayD ws), sv0 (.int w.1), sv0 (frac w.2)], ?_, ?_, rfl⟩
      · simp [wipeD, bindT, bindTs, wayI, setS, sv0]
      · simp [wayI, ev_tup, ev_b2, evs, ev_p, evPk, evP, slot, sv0, isCont, frac_cont, opd2, opd, fin, lateE, isP, toP, finO, evPb, g2, Fx.b2, own1, r_of, r_no, r_ok, r_bad]
  have e2 : ((ws.map wayI).map fun d => match d with | .tuple [.int i, s] => PyData.tuple [.str "add", .int i, .int (1 - i), .tuple [.tuple [.int 0, s]], .str "near"] | _ => .none) = ws.map fun w => stp w.1 w.2 := by
    rw [List.map_map]
    rfl
  rw [e2] at e1
  have hl2 : (ws.map fun w => stp w.1 w.2).length ≤ 16777216 := by rw [List.length_map]; omega
  have e0 : svs [wayD ws] ++ List.replicate (d18.F.n - [wayD ws].length) SV.un = [sv0 (wayD ws), .un, .un] := rfl
  rw [e0]
  simp [d18, b18, exs, exS, ev_tup, evs, ev_p, ev_bi, evPk, evP, isCont, evA, lateE, allP, toP, opd, fin, r_of, r_ok, e1, finO, Fx.bi, g1, tupD, own1, Fl.val, chainD]
end K73
set_option Elab.async false
set_option linter.all false
set_option maxRecDepth 100000
namespace K73
open PySem PySem.Spec PyProof.Rows L2 Fx
/-- the table of a block -/
def tabD (t : B4) : PyData := .tuple [.tuple [sumD t.a, sumD t.b], .tuple [sumD t.c, sumD t.d]]
theorem table_ok (m : Nat) (t : B4) : callV (prg.orc (m + 1)) 21 [fB t] = .ok (tabD t) := by
  rw [callV_eq (D := d21) rfl rfl]
  have e1 : ev (prg.orc m) (.lc [2] (.nm 2) (.e (.p (.at 0))) .nil (.ite (.c2 .ne (.p (.ix (.at 2) (.k (.int 0)))) (.p (.k (.int 0)))) (.tup (.cons (.tup (.cons (.p (.k (.int 0))) (.cons (.p (.at 2)) .nil))) .nil)) (.tup .nil))) 0 [sv0 (fB t), .un, .un] =
      .ok (.list ([frac t.a, frac t.b, frac t.c, frac t.d].map fun d => match d with | .tuple (.int n :: r) => if n = 0 then .tuple [] else .tuple [.tuple [.int 0, .tuple (.int n :: r)]] | _ => .none), [sv0 (fB t), .un, .un]) := by
    refine ev_lcA (by rfl) ?_ (by simp) ?_ (by rfl)
    · simp [evI, ev_p, evPk, evP, slot, sv0, isCont, fB, itemsD, r_of, r_ok]
    · intro x hx
      have : ∃ q, x = frac q := by
        simp only [List.mem_cons, List.not_mem_nil, or_false] at hx
        rcases hx with rfl | rfl | rfl | rfl <;> exact ⟨_, rfl⟩
      obtain ⟨q, rfl⟩ := this
      refine ⟨[sv0 (fB t), .un, sv0 (frac q)], [sv0 (fB t), .un, sv0 (frac q)], ?_, ?_, rfl⟩
      · simp [wipeD, bindT, setS, sv0]
      · by_cases h : q.num = 0
        · simp [frac, h, ev_ite, evT, ev_tup, evs, ev_p, evPk, evP, slot, sv0, isCont, opd2, opd, fin, lateE, isP, toP, finO, evPb, g2, c2B, Fx.c2, ii, ixD, at0, r_of, r_no, r_ok, r_bad]
        · simp [frac, h, ev_ite, evT, ev_tup, evs, ev_p, evPk, evP, slot, sv0, isCont, opd2, opd, fin, lateE, isP, toP, finO, evPb, g2, c2B, Fx.c2, ii, ixD, at0, r_of, r_no, r_ok, r_bad]
  have e2 : ([frac t.a, frac t.b, frac t.c, frac t.d].map fun d => match d with | .tuple (.int n :: r) => if n = 0 then PyData.tuple [] else .tuple [.tuple [.int 0, .tuple (.int n :: r)]] | _ => .none) = [sumD t.a, sumD t.b, sumD t.c, sumD t.d] := by
    have : ∀ q, (match frac q with | .tuple (.int n :: r) => if n = 0 then PyData.tuple [] else .tuple [.tuple [.int 0, .tuple (.int n :: r)]] | _ => .none) = sumD q := fun q => by
      unfold sumD
      show (if q.num = 0 then PyData.tuple [] else _) = _
      by_cases h : q = 0
      · rw [if_pos ((num0 q).mpr h), if_pos h]
      · rw [if_neg (fun z => h ((num0 q).mp z)), if_neg h]; rfl
    simp only [List.map_cons, List.map_nil, this]
  rw [e2] at e1
  have e0 : svs [fB t] ++ List.replicate (d21.F.n - [fB t].length) SV.un = [sv0 (fB t), .un, .un] := rfl
  have hs : ∀ q, isCont (sumD q) = false := fun q => by unfold sumD; split <;> rfl
  rw [e0]
  simp [d21, b21, exs, exS, ev_tup, evs, ev_p, evPk, evP, slot, isCont, setS, sv0, e1, ixD, L2.atI, L2.ixN, hs, r_of, r_ok, Fl.val, tabD]
theorem sub_sz {p q : Rat} {k l : Nat} (hp : Sz k p) (hq : Sz l q) : Sz (k + l + 1) (p - q) := by
  rw [← minus_eq]
  have a1 := mul_lt hp.1 hq.2
  have a2 := mul_lt hq.1 hp.2
  have a3 := mul_lt hp.2 hq.2
  have e : 2 ^ (k + l + 1) = 2 * 2 ^ (k + l) := by rw [Nat.pow_succ]; omega
  rw [Nat.add_comm l k] at a2
  refine divInt_sz (Int.mul_ne_zero hp.den_pos hq.den_pos) ?_ ?_
  · have : ((p.num * q.den - q.num * p.den)).natAbs ≤ (p.num * q.den).natAbs + (q.num * p.den).natAbs := by omega
    refine Nat.lt_of_le_of_lt this ?_
    rw [Int.natAbs_mul, Int.natAbs_mul, Int.natAbs_natCast, Int.natAbs_natCast]
    omega
  · rw [Int.natAbs_mul, Int.natAbs_natCast, Int.natAbs_natCast]
    omega
theorem div_sz {p q : Rat} {k l : Nat} (hz : q ≠ 0) (hp : Sz k p) (hq : Sz l q) : Sz (k + l) (p / q) := by
  rw [← over_eq]
  have hn : q.num ≠ 0 := fun e => hz (Rat.num_eq_zero.mp e)
  refine divInt_sz (Int.mul_ne_zero hp.den_pos hn) ?_ ?_
  · rw [Int.natAbs_mul, Int.natAbs_natCast]; exact mul_lt hp.1 hq.2
  · rw [Int.natAbs_mul, Int.natAbs_natCast]; exact mul_lt hp.2 hq.1
/-- the chain of three steps -/
theorem three_ok (m : Nat) (a c d : Rat) (i : Int) (ha : Sz 190 a) (hc : Sz 190 c) (hd : Sz 190 d) : callV (prg.orc (m + 4)) 6 [frac a, frac c, frac d, .int i] = .ok (.list (if c = 0 then [] else [chainD [(i, (d - 1) / c), (1 - i, c), (i, (a - 1) / c)]])) := by
  rw [callV_eq (D := d6) rfl rfl]
  have z0 : (prg.orc (m + 3)).con 0 = some (frac 0) := rfl
  have z1 : (prg.orc (m + 3)).con 1 = some (frac 1) := rfl
  have h1 : Sz 400 1 := ⟨by decide, by decide⟩
  by_cases h : c = 0
  · subst h
    simp [d6, b6, svs, exs, exS, evT, ev_lst, evs, ev_p, evPk, evP, slot, opd2, opd, fin, lateE, isP, toP, finO, evPb, g2, c2B, c2_eq, isCont, frac_cont, z0, r_of, r_no, r_ok, r_bad, Fl.val]
  · have h1' : Sz 1 1 := ⟨by decide, by decide⟩
    have m1 : callV (prg.orc (m + 3)) 2 [frac d, frac 1] = .ok (frac (d - 1)) := p_minus m (hd.le (by decide)) h1
    have m2 : callV (prg.orc (m + 3)) 2 [frac a, frac 1] = .ok (frac (a - 1)) := p_minus m (ha.le (by decide)) h1
    have q1 : callV (prg.orc (m + 3)) 3 [frac (d - 1), frac c] = .ok (frac ((d - 1) / c)) := p_quot m ((sub_sz hd h1').le (by decide)) (hc.le (by decide)) h
    have q2 : callV (prg.orc (m + 3)) 3 [frac (a - 1), frac c] = .ok (frac ((a - 1) / c)) := p_quot m ((sub_sz ha h1').le (by decide)) (hc.le (by decide)) h
    have s1 : ∀ (j : Int) (x : Rat), callV (prg.orc (m + 3)) 5 [.int j, frac x] = .ok (stp j x) := fun j x => add_step (m + 2) j x
    have hst : ∀ j x, isCont (stp j x) = false := fun _ _ => rfl
    simp [d6, b6, svs, exs, exS, evT, ev_lst, ev_tup, ev_b2, evs, ev_p, ev_call_2, evR, evPk, evP, slot, setS, opd2, opd, fin, lateE, isP, toP, finO, evPb, g2, Fx.b2, own1, c2B, c2_eq, isCont, frac_cont, z0, z1, m1, m2, q1, q2, s1, h, r_of, r_no, r_ok, r_bad, Fl.val, chainD]
end K73
set_option Elab.async false
set_option linter.all false
set_option maxRecDepth 100000
namespace K73
open PySem PySem.Spec PyProof.Rows L2 Fx
def hT (d : PyData) : PyData := match d with
  | .tuple [.tuple [_, f]] => f
  | _ => frac 0
theorem hT_sum (q : Rat) : hT (sumD q) = frac q := by
  unfold sumD
  by_cases h : q = 0
  · rw [if_pos h, h]; rfl
  · rw [if_neg h]; rfl
def gT (d : PyData) : PyData := match d with
  | .tuple ds => .list (ds.map hT)
  | _ => .none
theorem taps_ok (m : Nat) (t : B4) : ev (prg.orc (m + 1)) (.lc [5] (.nm 5) (.e (.p (.at 0))) .nil (.lc [6] (.nm 6) (.e (.p (.at 5))) .nil (.call 4 none (.v (.p (.at 6)) .nil)))) 0 [sv0 (tabD t), .un, .un, .un, .un, .un, .un] =
    .ok (.list [.list [frac t.a, frac t.b], .list [frac t.c, frac t.d]], [sv0 (tabD t), .un, .un, .un, .un, .un, .un]) := by
  have hs : ∀ q, isCont (sumD q) = false := fun q => by unfold sumD; split <;> rfl
  have inner : ∀ q r : Rat, ev (prg.orc (m + 1)) (.lc [6] (.nm 6) (.e (.p (.at 5))) .nil (.call 4 none (.v (.p (.at 6)) .nil))) 0 [sv0 (tabD t), .un, .un, .un, .un, sv0 (.tuple [sumD q, sumD r]), .un] =
      .ok (.list ([sumD q, sumD r].map hT), [sv0 (tabD t), .un, .un, .un, .un, sv0 (.tuple [sumD q, sumD r]), .un]) := fun q r => by
    refine ev_lcA (by rfl) ?_ (by simp) ?_ (by rfl)
    · simp [evI, ev_p, evPk, evP, slot, sv0, isCont, itemsD, r_of, r_ok]
    · intro x hx
      have : ∃ z, x = sumD z := by
        simp only [List.mem_cons, List.not_mem_nil, or_false] at hx
        rcases hx with rfl | rfl <;> exact ⟨_, rfl⟩
      obtain ⟨z, rfl⟩ := this
      refine ⟨[sv0 (tabD t), .un, .un, .un, .un, sv0 (.tuple [sumD q, sumD r]), sv0 (sumD z)], [sv0 (tabD t), .un, .un, .un, .un, sv0 (.tuple [sumD q, sumD r]), sv0 (sumD z)], ?_, ?_, rfl⟩
      · simp [wipeD, bindT, setS, sv0]
      · simp [ev_call_1, evR, ev_p, evPk, evP, slot, sv0, hs, tap_ok, hT_sum, r_of, r_ok]
  have outer : ev (prg.orc (m + 1)) (.lc [5] (.nm 5) (.e (.p (.at 0))) .nil (.lc [6] (.nm 6) (.e (.p (.at 5))) .nil (.call 4 none (.v (.p (.at 6)) .nil)))) 0 [sv0 (tabD t), .un, .un, .un, .un, .un, .un] =
      .ok (.list ([.tuple [sumD t.a, sumD t.b], .tuple [sumD t.c, sumD t.d]].map gT), [sv0 (tabD t), .un, .un, .un, .un, .un, .un]) := by
    refine ev_lcA (by rfl) ?_ (by simp) ?_ (by rfl)
    · simp [evI, ev_p, evPk, evP, slot, sv0, isCont, tabD, itemsD, r_of, r_ok]
    · intro x hx
      have : ∃ q r, x = .tuple [sumD q, sumD r] := by
        simp only [List.mem_cons, List.not_mem_nil, or_false] at hx
        rcases hx with rfl | rfl <;> exact ⟨_, _, rfl⟩
      obtain ⟨q, r, rfl⟩ := this
      refine ⟨[sv0 (tabD t), .un, .un, .un, .un, sv0 (.tuple [sumD q, sumD r]), .un], [sv0 (tabD t), .un, .un, .un, .un, sv0 (.tuple [sumD q, sumD r]), .un], ?_, inner q r, rfl⟩
      simp [wipeD, bindT, setS, sv0]
  rw [outer]
  simp [gT, hT_sum]
end K73
set_option Elab.async false
set_option linter.all false
set_option maxRecDepth 100000
namespace K73
open PySem PySem.Spec PyProof.Rows L2 Fx
/-- three steps alike -/
def ch3 (i j k : Int) (p q r : Rat) : PyData := chainD [(i, p), (j, q), (k, r)]
theorem alike3 (i j k i' j' k' : Int) (p q r p' q' r' : Rat) : PySem.W.alike (ch3 i j k p q r) (ch3 i' j' k' p' q' r') = true := by
  rfl
theorem depth3 (i j k : Int) (p q r : Rat) : (ch3 i j k p q r).depth ≤ 20 := by
  simp [ch3, chainD, PyData.depthAll, PyData.depth, stp, frac]
theorem tup3 (i j k : Int) (p q r : Rat) : ∃ x xs, ch3 i j k p q r = .tuple (x :: xs) := ⟨_, _, rfl⟩
theorem sort1 (i j k : Int) (p q r : Rat) : sortOk [ch3 i j k p q r] = true := by
  have h1 := depth3 i j k p q r
  have h2 := alike3 i j k i j k p q r p q r
  obtain ⟨x, xs, e⟩ := tup3 i j k p q r
  generalize ch3 i j k p q r = d at *
  subst e
  simp [sortOk, alikeOk, h2, PyData.depthAll]
  omega
theorem sort2 (i j k i' j' k' : Int) (p q r p' q' r' : Rat) : sortOk [ch3 i j k p q r, ch3 i' j' k' p' q' r'] = true := by
  have h1 := depth3 i j k p q r
  have h1' := depth3 i' j' k' p' q' r'
  have h2 := alike3 i j k i j k p q r p q r
  have h3 := alike3 i j k i' j' k' p q r p' q' r'
  have h4 := alike3 i' j' k' i j k p' q' r' p q r
  have h5 := alike3 i' j' k' i' j' k' p' q' r' p' q' r'
  obtain ⟨x, xs, e⟩ := tup3 i j k p q r
  obtain ⟨y, ys, e'⟩ := tup3 i' j' k' p' q' r'
  generalize ch3 i j k p q r = d at *
  generalize ch3 i' j' k' p' q' r' = d' at *
  subst e e'
  simp [sortOk, alikeOk, h2, h3, h4, h5, PyData.depthAll]
  omega
end K73
set_option Elab.async false
set_option linter.all false
set_option maxRecDepth 100000
namespace K73
open PySem PySem.Spec PyProof.Rows L2 Fx
def w3 (t : B4) : List (List (Int × Rat)) := (if t.c = 0 then [] else [[(0, (t.d - 1) / t.c), (1, t.c), (0, (t.a - 1) / t.c)]]) ++ (if t.b = 0 then [] else [[(1, (t.a - 1) / t.b), (0, t.b), (1, (t.d - 1) / t.b)]])
open Classical in
noncomputable def waysOf (t : B4) : Int × List (List (Int × Rat)) :=
  if t.b = 0 ∧ t.c = 0 then (if t.a = 1 then (0, [[]]) else (4, []))
  else if t.a = 1 ∧ t.c = 0 then (1, [[(0, t.b)]])
  else if t.a = 1 ∧ t.b = 0 then (1, [[(1, t.c)]])
  else if t.a = 1 then (2, [[(0, t.b), (1, t.c)]])
  else if t.d = 1 then (2, [[(1, t.c), (0, t.b)]])
  else (3, w3 t)
noncomputable def dueD (t : B4) : PyData := .tuple [.int (waysOf t).1, .tuple (sortD ((waysOf t).2.map chainD))]
def tgT : Tg := .tp (.cons (.tp (.cons (.nm 1) (.cons (.nm 2) .nil))) (.cons (.tp (.cons (.nm 3) (.cons (.nm 4) .nil))) .nil))
/-- the slots behind the first row -/
def envS (t : B4) : EnvD := [sv0 (tabD t), sv0 (frac t.a), sv0 (frac t.b), sv0 (frac t.c), sv0 (frac t.d), .un, .un]
theorem first_ok (m : Nat) (t : B4) : exS (prg.orc (m + 1)) 0 (.as tgT 0 (.lc [5] (.nm 5) (.e (.p (.at 0))) .nil (.lc [6] (.nm 6) (.e (.p (.at 5))) .nil (.call 4 none (.v (.p (.at 6)) .nil))))) [sv0 (tabD t), .un, .un, .un, .un, .un, .un] = .ok (.nx (envS t)) := by
  unfold tgT
  simp only [exS, taps_ok, r_ok]
  simp [bindT, bindTs, setS, sv0, envS, r_of, r_ok]
end K73
set_option Elab.async false
set_option linter.all false
set_option maxRecDepth 100000
set_option maxHeartbeats 4000000
namespace K73
open PySem PySem.Spec PyProof.Rows L2 Fx
theorem sortD0 : sortD [] = [] := by simp [sortD]
theorem sortD1 (x : PyData) : sortD [x] = [x] := by simp [sortD]
theorem shortest_ok (m : Nat) (t : B4) (hdet : t.a * t.d - t.b * t.c = 1) (hs : SzB 190 t) : callV (prg.orc (m + 5)) 7 [tabD t] = .ok (dueD t) := by
  obtain ⟨ha, hb, hc, hd⟩ := hs
  rw [callV_eq (D := d7) rfl rfl]
  have e0 : svs [tabD t] ++ List.replicate (d7.F.n - [tabD t].length) SV.un = [sv0 (tabD t), .un, .un, .un, .un, .un, .un] := rfl
  rw [e0]
  have f1 := first_ok (m + 3) t
  unfold tgT at f1
  have z0 : (prg.orc (m + 4)).con 0 = some (frac 0) := rfl
  have z1 : (prg.orc (m + 4)).con 1 = some (frac 1) := rfl
  have s1 : ∀ (j : Int) (x : Rat), callV (prg.orc (m + 4)) 5 [.int j, frac x] = .ok (stp j x) := fun j x => add_step (m + 3) j x
  have t1 := three_ok m t.a t.c t.d 0 ha hc hd
  have t2 := three_ok m t.d t.b t.a 1 hd hb ha
  have hst : ∀ j x, isCont (stp j x) = false := fun _ _ => rfl
  show (exs (prg.orc (m + 4)) 0 b7 _).bind Fl.val = _
  unfold b7
  rw [show exs (prg.orc (m + 4)) 0 (.cons _ _) _ = _ from by simp only [exs]; rw [f1]]
  simp only [r_ok]
  by_cases h1 : t.b = 0 ∧ t.c = 0
  · by_cases h2 : t.a = 1
    · have hw : waysOf t = (0, [[]]) := by unfold waysOf; rw [if_pos h1, if_pos h2]
      simp [exs, exS, evT, envS, ev_ite, ev_lst, ev_tup, ev_b2, ev_bi, evs, evA, allP, ev_p, ev_call_2, ev_call_4, evR, evPk, evP, slot, setS, opd2, opd, fin, lateE, isP, toP, finO, evPb, g1, g2, Fx.b2, own1, c2B, c2_eq, isCont, frac_cont, hst, z0, z1, s1, sv0, r_of, r_no, r_ok, r_bad, Fl.val, h1.1, h1.2, h2, dueD, hw, chainD, sortD1]
    · have hw : waysOf t = (4, []) := by unfold waysOf; rw [if_pos h1, if_neg h2]
      simp [exs, exS, evT, envS, ev_ite, ev_lst, ev_tup, ev_b2, ev_bi, evs, evA, allP, ev_p, ev_call_2, ev_call_4, evR, evPk, evP, slot, setS, opd2, opd, fin, lateE, isP, toP, finO, evPb, g1, g2, Fx.b2, own1, c2B, c2_eq, isCont, frac_cont, hst, z0, z1, s1, sv0, r_of, r_no, r_ok, r_bad, Fl.val, h1.1, h1.2, h2, dueD, hw, chainD, sortD0]
  · by_cases h2 : t.a = 1
    · have hd' : t.d - t.b * t.c = 1 := by rw [h2, Rat.one_mul] at hdet; exact hdet
      by_cases h3 : t.d = 1
      · by_cases h4 : t.c = 0
        · have h5 : t.b ≠ 0 := fun e => h1 ⟨e, h4⟩
          have hw : waysOf t = (1, [[(0, t.b)]]) := by unfold waysOf; rw [if_neg h1, if_pos ⟨h2, h4⟩]
          simp [exs, exS, evT, envS, ev_ite, ev_lst, ev_tup, ev_b2, ev_bi, evs, evA, allP, ev_p, ev_call_2, ev_call_4, evR, evPk, evP, slot, setS, opd2, opd, fin, lateE, isP, toP, finO, evPb, g1, g2, Fx.b2, own1, c2B, c2_eq, isCont, frac_cont, hst, z0, z1, s1, sv0, r_of, r_no, r_ok, r_bad, Fl.val, h2, h3, h4, h5, dueD, hw, chainD, sortD1]
        · have h5 : t.b = 0 := by
            have : t.b * t.c = 0 := by grind
            rcases Rat.mul_eq_zero.mp this with e | e
            · exact e
            · exact absurd e h4
          have hw : waysOf t = (1, [[(1, t.c)]]) := by unfold waysOf; rw [if_neg h1, if_neg (fun z => h4 z.2), if_pos ⟨h2, h5⟩]
          simp [exs, exS, evT, envS, ev_ite, ev_lst, ev_tup, ev_b2, ev_bi, evs, evA, allP, ev_p, ev_call_2, ev_call_4, evR, evPk, evP, slot, setS, opd2, opd, fin, lateE, isP, toP, finO, evPb, g1, g2, Fx.b2, own1, c2B, c2_eq, isCont, frac_cont, hst, z0, z1, s1, sv0, r_of, r_no, r_ok, r_bad, Fl.val, h2, h3, h4, h5, dueD, hw, chainD, sortD1]
      · have h4 : t.c ≠ 0 := fun e => h3 (by rw [e] at hd'; grind)
        have h5 : t.b ≠ 0 := fun e => h3 (by rw [e] at hd'; grind)
        have hw : waysOf t = (2, [[(0, t.b), (1, t.c)]]) := by unfold waysOf; rw [if_neg h1, if_neg (fun z => h4 z.2), if_neg (fun z => h5 z.2), if_pos h2]
        simp [exs, exS, evT, envS, ev_ite, ev_lst, ev_tup, ev_b2, ev_bi, evs, evA, allP, ev_p, ev_call_2, ev_call_4, evR, evPk, evP, slot, setS, opd2, opd, fin, lateE, isP, toP, finO, evPb, g1, g2, Fx.b2, own1, c2B, c2_eq, isCont, frac_cont, hst, z0, z1, s1, sv0, r_of, r_no, r_ok, r_bad, Fl.val, h2, h3, h4, h5, dueD, hw, chainD, sortD1]
    · by_cases h3 : t.d = 1
      · have hw : waysOf t = (2, [[(1, t.c), (0, t.b)]]) := by unfold waysOf; rw [if_neg h1, if_neg (fun z => h2 z.1), if_neg (fun z => h2 z.1), if_neg h2, if_pos h3]
        have h6 : ¬ (t.b = 0 ∧ t.c = 0) := h1
        by_cases h7 : t.b = 0
        · have h8 : t.c ≠ 0 := fun e => h1 ⟨h7, e⟩
          simp [exs, exS, evT, envS, ev_ite, ev_lst, ev_tup, ev_b2, ev_bi, evs, evA, allP, ev_p, ev_call_2, ev_call_4, evR, evPk, evP, slot, setS, opd2, opd, fin, lateE, isP, toP, finO, evPb, g1, g2, Fx.b2, own1, c2B, c2_eq, isCont, frac_cont, hst, z0, z1, s1, sv0, r_of, r_no, r_ok, r_bad, Fl.val, h2, h3, h7, h8, dueD, hw, chainD, sortD1]
        · simp [exs, exS, evT, envS, ev_ite, ev_lst, ev_tup, ev_b2, ev_bi, evs, evA, allP, ev_p, ev_call_2, ev_call_4, evR, evPk, evP, slot, setS, opd2, opd, fin, lateE, isP, toP, finO, evPb, g1, g2, Fx.b2, own1, c2B, c2_eq, isCont, frac_cont, hst, z0, z1, s1, sv0, r_of, r_no, r_ok, r_bad, Fl.val, h2, h3, h7, dueD, hw, chainD, sortD1]
      · have hw : waysOf t = (3, w3 t) := by unfold waysOf; rw [if_neg h1, if_neg (fun z => h2 z.1), if_neg (fun z => h2 z.1), if_neg h2, if_neg h3]
        have t2' : callV (prg.orc (m + 4)) 6 [frac t.d, frac t.b, frac t.a, .int 1] = .ok (.list (if t.b = 0 then [] else [chainD [(1, (t.a - 1) / t.b), (0, t.b), (1, (t.d - 1) / t.b)]])) := t2
        have t1' : callV (prg.orc (m + 4)) 6 [frac t.a, frac t.c, frac t.d, .int 0] = .ok (.list (if t.c = 0 then [] else [chainD [(0, (t.d - 1) / t.c), (1, t.c), (0, (t.a - 1) / t.c)]])) := t1
        have hlen : ∀ xs : List PyData, sortOk xs = true → (sortD xs).length ≤ 16777216 := fun xs h => by
          unfold sortD; rw [List.length_mergeSort]
          unfold sortOk at h; simp at h; omega
        by_cases h7 : t.b = 0
        · have h8 : t.c ≠ 0 := fun e => h1 ⟨h7, e⟩
          rw [if_pos h7, h7] at t2'
          have k1 := sort1 0 1 0 ((t.d - 1) / t.c) t.c ((t.a - 1) / t.c)
          unfold ch3 at k1
          simp [exs, exS, evT, envS, ev_ite, ev_lst, ev_tup, ev_b2, ev_bi, evs, evA, allP, ev_p, ev_call_2, ev_call_4, evR, evPk, evP, slot, setS, opd2, opd, fin, lateE, isP, toP, finO, evPb, g1, g2, Fx.b2, own1, c2B, c2_eq, isCont, frac_cont, hst, z0, z1, s1, sv0, r_of, r_no, r_ok, r_bad, Fl.val, t1', t2', h2, h3, h7, h8, Fx.bi, sortedD, tupD, k1, dueD, hw, w3]
        · by_cases h8 : t.c = 0
          · rw [if_pos h8, h8] at t1'
            have k1 := sort1 1 0 1 ((t.a - 1) / t.b) t.b ((t.d - 1) / t.b)
            unfold ch3 at k1
            simp [exs, exS, evT, envS, ev_ite, ev_lst, ev_tup, ev_b2, ev_bi, evs, evA, allP, ev_p, ev_call_2, ev_call_4, evR, evPk, evP, slot, setS, opd2, opd, fin, lateE, isP, toP, finO, evPb, g1, g2, Fx.b2, own1, c2B, c2_eq, isCont, frac_cont, hst, z0, z1, s1, sv0, r_of, r_no, r_ok, r_bad, Fl.val, t1', t2', h2, h3, h7, h8, Fx.bi, sortedD, tupD, k1, dueD, hw, w3]
          · have k1 := sort2 0 1 0 1 0 1 ((t.d - 1) / t.c) t.c ((t.a - 1) / t.c) ((t.a - 1) / t.b) t.b ((t.d - 1) / t.b)
            unfold ch3 at k1
            simp [exs, exS, evT, envS, ev_ite, ev_lst, ev_tup, ev_b2, ev_bi, evs, evA, allP, ev_p, ev_call_2, ev_call_4, evR, evPk, evP, slot, setS, opd2, opd, fin, lateE, isP, toP, finO, evPb, g1, g2, Fx.b2, own1, c2B, c2_eq, isCont, frac_cont, hst, z0, z1, s1, sv0, r_of, r_no, r_ok, r_bad, Fl.val, t1', t2', h2, h3, h7, h8, Fx.bi, sortedD, tupD, k1, dueD, hw, w3]
end K73
set_option Elab.async false
set_option linter.all false
set_option maxRecDepth 100000
set_option maxHeartbeats 4000000
namespace K73
open PySem PySem.Spec PyProof.Rows L2 Fx
noncomputable def waysD (t : B4) : PyData := .tuple [.int (waysOf t).1, .list ((waysOf t).2.map wayD)]
theorem ways_ok (m : Nat) (t : B4) (hdet : t.a * t.d - t.b * t.c = 1) (hs : SzB 190 t) : callV (prg.orc (m + 4)) 20 [fB t] = .ok (waysD t) := by
  obtain ⟨ha, hb, hc, hd⟩ := hs
  rw [callV_eq (D := d20) rfl rfl]
  have e0 : svs [fB t] ++ List.replicate (d20.F.n - [fB t].length) SV.un = [sv0 (fB t), .un, .un, .un, .un, .un, .un, .un] := rfl
  rw [e0]
  have h1 : Sz 400 1 := ⟨by decide, by decide⟩
  have h1' : Sz 1 1 := ⟨by decide, by decide⟩
  have m1 : callV (prg.orc (m + 3)) 17 [frac t.d, frac 1] = .ok (frac (t.d - 1)) := l_minus m (hd.le (by decide)) h1
  have m2 : callV (prg.orc (m + 3)) 17 [frac t.a, frac 1] = .ok (frac (t.a - 1)) := l_minus m (ha.le (by decide)) h1
  have q : ∀ {x y : Rat}, Sz 190 x → Sz 190 y → y ≠ 0 → callV (prg.orc (m + 3)) 16 [frac (x - 1), frac y] = .ok (frac ((x - 1) / y)) := fun hx hy hz => l_over m ((sub_sz hx h1').le (by decide)) (hy.le (by decide)) hz
  have eN : frac 1 = .tuple [.int 1, .int 1] := rfl
  have e1 : exS (prg.orc (m + 3)) 0 (.as (.tp (.cons (.nm 2) (.cons (.nm 3) (.cons (.nm 4) (.cons (.nm 5) .nil))))) 0 (.p (.at 0))) [sv0 (fB t), .un, .un, .un, .un, .un, .un, .un] = .ok (.nx [sv0 (fB t), .un, sv0 (frac t.a), sv0 (frac t.b), sv0 (frac t.c), sv0 (frac t.d), .un, .un]) := by
    simp [exS, ev_p, evPk, evP, slot, sv0, isCont, fB, bindT, bindTs, setS, r_of, r_ok]
  have e2 : exS (prg.orc (m + 3)) 0 (.as (.tp (.cons (.nm 6) (.cons (.nm 7) .nil))) 0 (.tup (.cons (.tup (.cons (.p (.k (.int 1))) (.cons (.p (.k (.int 1))) .nil))) (.cons (.tup (.cons (.p (.k (.int 0))) (.cons (.p (.k (.int 1))) .nil))) .nil)))) [sv0 (fB t), .un, sv0 (frac t.a), sv0 (frac t.b), sv0 (frac t.c), sv0 (frac t.d), .un, .un] = .ok (.nx [sv0 (fB t), .un, sv0 (frac t.a), sv0 (frac t.b), sv0 (frac t.c), sv0 (frac t.d), sv0 (frac 1), sv0 (frac 0)]) := by
    simp [exS, ev_tup, evs, ev_p, evPk, evP, isCont, sv0, bindT, bindTs, setS, r_of, r_ok, frac0, frac1]
  show (exs (prg.orc (m + 3)) 0 b20 _).bind Fl.val = _
  unfold b20
  simp only [exs, e1, e2, r_ok]
  by_cases b0 : t.b = 0 ∧ t.c = 0
  · by_cases h2 : t.a = 1
    · have hw : waysOf t = (0, [[]]) := by unfold waysOf; rw [if_pos b0, if_pos h2]
      simp [exs, exS, evT, ev_ite, ev_lst, ev_tup, ev_b2, evs, ev_p, ev_call_2, evR, evPk, evP, slot, setS, opd2, opd, fin, lateE, isP, toP, finO, evPb, g1, g2, own1, c2B, c2_eq, c2_ne, isCont, frac_cont, sv0, r_of, r_no, r_ok, r_bad, Fl.val, b0.1, b0.2, h2, waysD, hw, wayD]
    · have hw : waysOf t = (4, []) := by unfold waysOf; rw [if_pos b0, if_neg h2]
      simp [exs, exS, evT, ev_ite, ev_lst, ev_tup, ev_b2, evs, ev_p, ev_call_2, evR, evPk, evP, slot, setS, opd2, opd, fin, lateE, isP, toP, finO, evPb, g1, g2, own1, c2B, c2_eq, c2_ne, isCont, frac_cont, sv0, r_of, r_no, r_ok, r_bad, Fl.val, b0.1, b0.2, h2, waysD, hw, wayD]
  · by_cases h2 : t.a = 1
    · by_cases h4 : t.c = 0
      · have hw : waysOf t = (1, [[(0, t.b)]]) := by unfold waysOf; rw [if_neg b0, if_pos ⟨h2, h4⟩]
        have h5 : t.b ≠ 0 := fun e => b0 ⟨e, h4⟩
        simp [exs, exS, evT, ev_ite, ev_lst, ev_tup, ev_b2, evs, ev_p, ev_call_2, evR, evPk, evP, slot, setS, opd2, opd, fin, lateE, isP, toP, finO, evPb, g1, g2, own1, c2B, c2_eq, c2_ne, isCont, frac_cont, sv0, r_of, r_no, r_ok, r_bad, Fl.val, h2, h4, h5, waysD, hw, wayD, wayI]
      · by_cases h5 : t.b = 0
        · have hw : waysOf t = (1, [[(1, t.c)]]) := by unfold waysOf; rw [if_neg b0, if_neg (fun z => h4 z.2), if_pos ⟨h2, h5⟩]
          simp [exs, exS, evT, ev_ite, ev_lst, ev_tup, ev_b2, evs, ev_p, ev_call_2, evR, evPk, evP, slot, setS, opd2, opd, fin, lateE, isP, toP, finO, evPb, g1, g2, own1, c2B, c2_eq, c2_ne, isCont, frac_cont, sv0, r_of, r_no, r_ok, r_bad, Fl.val, h2, h4, h5, waysD, hw, wayD, wayI]
        · have hw : waysOf t = (2, [[(0, t.b), (1, t.c)]]) := by unfold waysOf; rw [if_neg b0, if_neg (fun z => h4 z.2), if_neg (fun z => h5 z.2), if_pos h2]
          simp [exs, exS, evT, ev_ite, ev_lst, ev_tup, ev_b2, evs, ev_p, ev_call_2, evR, evPk, evP, slot, setS, opd2, opd, fin, lateE, isP, toP, finO, evPb, g1, g2, own1, c2B, c2_eq, c2_ne, isCont, frac_cont, sv0, r_of, r_no, r_ok, r_bad, Fl.val, h2, h4, h5, waysD, hw, wayD, wayI]
    · by_cases h3 : t.d = 1
      · have hw : waysOf t = (2, [[(1, t.c), (0, t.b)]]) := by unfold waysOf; rw [if_neg b0, if_neg (fun z => h2 z.1), if_neg (fun z => h2 z.1), if_neg h2, if_pos h3]
        by_cases h7 : t.b = 0
        · have h8 : t.c ≠ 0 := fun e => b0 ⟨h7, e⟩
          simp [exs, exS, evT, ev_ite, ev_lst, ev_tup, ev_b2, evs, ev_p, ev_call_2, evR, evPk, evP, slot, setS, opd2, opd, fin, lateE, isP, toP, finO, evPb, g1, g2, own1, c2B, c2_eq, c2_ne, isCont, frac_cont, sv0, r_of, r_no, r_ok, r_bad, Fl.val, h2, h3, h7, h8, waysD, hw, wayD, wayI]
        · simp [exs, exS, evT, ev_ite, ev_lst, ev_tup, ev_b2, evs, ev_p, ev_call_2, evR, evPk, evP, slot, setS, opd2, opd, fin, lateE, isP, toP, finO, evPb, g1, g2, own1, c2B, c2_eq, c2_ne, isCont, frac_cont, sv0, r_of, r_no, r_ok, r_bad, Fl.val, h2, h3, h7, waysD, hw, wayD, wayI]
      · have hw : waysOf t = (3, w3 t) := by unfold waysOf; rw [if_neg b0, if_neg (fun z => h2 z.1), if_neg (fun z => h2 z.1), if_neg h2, if_neg h3]
        by_cases h7 : t.b = 0
        · have h8 : t.c ≠ 0 := fun e => b0 ⟨h7, e⟩
          have q1 := q ha hc h8
          have q2 := q hd hc h8
          simp [exs, exS, evT, ev_ite, ev_lst, ev_tup, ev_b2, ev_mu0, evs, ev_p, ev_call_2, evR, evPk, evP, slot, setS, opd2, opd, fin, lateE, isP, toP, finO, evPb, g1, g2, own1, c2B, c2_eq, c2_ne, isCont, frac_cont, isListS, alterS, alterAt, alterD, pathR, muF, muD, sv0, r_of, r_no, r_ok, r_bad, Fl.val, m1, m2, q1, q2, h2, h3, h7, h8, waysD, hw, w3, wayD, wayI]
        · by_cases h8 : t.c = 0
          · have q1 := q ha hb h7
            have q2 := q hd hb h7
            simp [exs, exS, evT, ev_ite, ev_lst, ev_tup, ev_b2, ev_mu0, evs, ev_p, ev_call_2, evR, evPk, evP, slot, setS, opd2, opd, fin, lateE, isP, toP, finO, evPb, g1, g2, own1, c2B, c2_eq, c2_ne, isCont, frac_cont, isListS, alterS, alterAt, alterD, pathR, muF, muD, sv0, r_of, r_no, r_ok, r_bad, Fl.val, m1, m2, q1, q2, h2, h3, h7, h8, waysD, hw, w3, wayD, wayI]
          · have q1 := q ha hc h8
            have q2 := q hd hc h8
            have q3 := q ha hb h7
            have q4 := q hd hb h7
            simp [exs, exS, evT, ev_ite, ev_lst, ev_tup, ev_b2, ev_mu0, evs, ev_p, ev_call_2, evR, evPk, evP, slot, setS, opd2, opd, fin, lateE, isP, toP, finO, evPb, g1, g2, own1, c2B, c2_eq, c2_ne, isCont, frac_cont, isListS, alterS, alterAt, alterD, pathR, muF, muD, sv0, r_of, r_no, r_ok, r_bad, Fl.val, m1, m2, q1, q2, q3, q4, h2, h3, h7, h8, waysD, hw, w3, wayD, wayI]
end K73
set_option Elab.async false
set_option linter.all false
set_option maxRecDepth 100000
set_option maxHeartbeats 4000000
namespace K73
open PySem PySem.Spec PyProof.Rows L2 Fx
/-- data of numbers, texts and tuples, n deep -/
inductive SD : Nat → PyData → Prop where
  | int (n : Nat) (i : Int) : SD (n + 1) (.int i)
  | str (n : Nat) (s : Str) (h : eqOk (.str s) = true) : SD (n + 1) (.str s)
  | tup (n : Nat) (ds : List PyData) (h : ∀ x ∈ ds, SD n x) (hl : ds.length ≤ 1000) : SD (n + 1) (.tuple ds)
theorem plainAll_of : ∀ {ds : List PyData}, (∀ x ∈ ds, x.plain = true) → PyData.plainAll ds = true
  | [], _ => by simp [PyData.plainAll]
  | x :: xs, h => by
    simp only [PyData.plainAll, Bool.and_eq_true]
    exact ⟨h x (List.mem_cons_self ..), plainAll_of fun y hy => h y (List.mem_cons_of_mem _ hy)⟩
theorem SD.plain : ∀ {n : Nat} {d : PyData}, SD n d → d.plain = true
  | _, _, .int n i => by simp [PyData.plain]
  | _, _, .str n s h => by simp [PyData.plain]
  | _, _, .tup n ds h hl => by
    simp only [PyData.plain]
    exact plainAll_of fun x hx => (h x hx).plain
theorem SD.cont : ∀ {n : Nat} {d : PyData}, SD n d → isCont d = false
  | _, _, .int n i => rfl
  | _, _, .str n s h => rfl
  | _, _, .tup n ds h hl => rfl
theorem atI_nat {α : Type} (xs : List α) (k : Nat) (h : k < xs.length) : atI xs (k : Int) = some xs[k] := by
  have e : ixN xs.length (k : Int) = some k := by
    unfold ixN
    rw [if_pos (by omega), if_pos (by omega)]; rfl
  unfold atI
  rw [e]
  show xs[k]? = _
  rw [List.getElem?_eq_getElem h]
def bSame : Ss := (.cons (.iff (.not (.v (.call 11 none (.v (.p (.ix (.at 0) (.at 2))) (.v (.p (.ix (.at 1) (.at 2))) .nil)))))
  (.cons (.ret (.p (.k (.bool false)))) .nil)
  .nil) .nil)
theorem sameL_ok (c : Orc) (ds : List PyData) (hc : ∀ x ∈ ds, isCont x = false) (h : ∀ x ∈ ds, callV c 11 [x, x] = .ok (.bool true)) : ∀ (ks : List Nat) (z : SV), (∀ k ∈ ks, k < ds.length) → Free z → ∃ z', forL (bindT (.nm 2)) (exs c 0 bSame) (ks.map fun (k : Nat) => PyData.int (k : Int)) [sv0 (.tuple ds), sv0 (.tuple ds), z] = .ok (.nx [sv0 (.tuple ds), sv0 (.tuple ds), z'])
  | [], z, _, _ => ⟨z, rfl⟩
  | k :: ks, z, hk, hz => by
    obtain ⟨z', ih⟩ := sameL_ok c ds hc h ks (sv0 (.int k)) (fun j hj => hk j (List.mem_cons_of_mem _ hj)) (.inr ⟨_, _, rfl⟩)
    refine ⟨z', ?_⟩
    have hb : bindT (.nm 2) (.int (k : Int)) [sv0 (.tuple ds), sv0 (.tuple ds), z] = some [sv0 (.tuple ds), sv0 (.tuple ds), sv0 (.int k)] := by
      rcases hz with rfl | ⟨k', d', rfl⟩ <;> simp [bindT, setS, sv0]
    have hkl := hk k (List.mem_cons_self ..)
    have hx : ixD (.tuple ds) (.int (k : Int)) = some ds[k] := atI_nat ds k hkl
    have h1 := h _ (List.getElem_mem hkl)
    have h2 := hc _ (List.getElem_mem hkl)
    have ht : exs c 0 bSame [sv0 (.tuple ds), sv0 (.tuple ds), sv0 (.int k)] = .ok (.nx [sv0 (.tuple ds), sv0 (.tuple ds), sv0 (.int k)]) := by
      simp [bSame, exs, exS, evT, ev_call_2, evR, ev_p, evPk, evP, slot, opd1, opd, fin, lateE, isP, toP, finO, evPb, g1, isCont, truth, r_of, r_no, r_ok, r_bad, sv0, hx, h1, h2]
    simp only [List.map_cons, forL, hb, r_of, r_ok, ht]
    exact ih
theorem str_eqv (s : Str) : PyData.eqv (.str s) (.str s) = true := by
  simp [PyData.eqv]
theorem same_int (k : Nat) (i : Int) : callV (prg.orc (k + 1)) 11 [.int i, .int i] = .ok (.bool true) := by
  rw [callV_eq (D := d11) rfl rfl]
  show (exs (prg.orc k) 0 b11 [sv0 (.int i), sv0 (.int i), .un]).bind Fl.val = _
  unfold b11
  simp [exs, exS, evT, ev_isa, ev_c2, ev_and, ev_or, ev_not, ev_p, evPk, evP, slot, opd1, opd2, opd, fin, lateE, isP, toP, finO, evPb, g1, g2, isaD, isTy, PyData.plain, c2B, Fx.c2, ii, isCont, isNone, truth, r_of, r_no, r_ok, r_bad, sv0, Fl.val]
theorem same_str (k : Nat) (s : Str) (h : eqOk (.str s) = true) : callV (prg.orc (k + 1)) 11 [.str s, .str s] = .ok (.bool true) := by
  rw [callV_eq (D := d11) rfl rfl]
  have hp : (PyData.str s).plain = true := by unfold eqOk at h; exact (Bool.and_eq_true_iff.mp h).2
  have he : Fx.c2 .eq (.str s) (.str s) = some true := by
    simp [Fx.c2, ii, h, str_eqv]
  show (exs (prg.orc k) 0 b11 [sv0 (.str s), sv0 (.str s), .un]).bind Fl.val = _
  unfold b11
  simp [exs, exS, evT, ev_isa, ev_c2, ev_and, ev_or, ev_not, ev_p, evPk, evP, slot, opd1, opd2, opd, fin, lateE, isP, toP, finO, evPb, g1, g2, isaD, isTy, hp, c2B, he, isCont, isNone, truth, r_of, r_no, r_ok, r_bad, sv0, Fl.val]
def bF11 : S := .for (.nm 2) (.range (.cons (.p (.p1 .len (.at 1))) .nil)) bSame
theorem same_for (k : Nat) (ds : List PyData) (hc : ∀ x ∈ ds, isCont x = false) (hl : ds.length ≤ 1000) (h : ∀ x ∈ ds, callV (prg.orc k) 11 [x, x] = .ok (.bool true)) : ∃ z', exS (prg.orc k) 0 bF11 [sv0 (.tuple ds), sv0 (.tuple ds), .un] = .ok (.nx [sv0 (.tuple ds), sv0 (.tuple ds), z']) := by
  obtain ⟨z', hL⟩ := sameL_ok (prg.orc k) ds hc h (List.range ds.length) .un (fun k hk => List.mem_range.mp hk) (.inl rfl)
  refine ⟨z', ?_⟩
  rw [← hL]
  exact for_range1 _ (by simp [evPk, evP, slot, Fx.p1, isCont, sv0]) (len_range ds.length (by omega))
def bH11 (S0 : S) : Ss := (.cons (.iff (.isN (.p (.at 1)) false)
 (.cons (.ret (.isN (.p (.at 0)) false)) .nil)
 .nil) (.cons (.iff (.or (.v (.isa .bool (.p (.at 1)))) (.v (.isa .bool (.p (.at 0)))))
 (.cons (.ret (.and (.isa .bool (.p (.at 1))) (.and (.isa .bool (.p (.at 0))) (.c2 .eq (.p (.at 0)) (.p (.at 1)))))) .nil)
 .nil) (.cons (.iff (.v (.isa .int (.p (.at 1))))
 (.cons (.ret (.and (.isa .int (.p (.at 0))) (.c2 .eq (.p (.at 0)) (.p (.at 1))))) .nil)
 .nil) (.cons (.iff (.v (.isa .str (.p (.at 1))))
 (.cons (.ret (.and (.isa .str (.p (.at 0))) (.c2 .eq (.p (.at 0)) (.p (.at 1))))) .nil)
 .nil) (.cons (.iff (.or (.not (.v (.isa .tuple (.p (.at 1))))) (.or (.not (.v (.isa .tuple (.p (.at 0))))) (.c2 .ne (.p (.p1 .len (.at 0))) (.p (.p1 .len (.at 1))))))
 (.cons (.ret (.p (.k (.bool false)))) .nil)
 .nil) (.cons S0 (.cons (.ret (.p (.k (.bool true)))) .nil)))))))
theorem b11_eq : b11 = bH11 bF11 := rfl
theorem same_head (c : Orc) (S0 : S) (ds : List PyData) (hp : PyData.plainAll ds = true) (z' : SV) (eF : exS c 0 S0 [sv0 (.tuple ds), sv0 (.tuple ds), .un] = .ok (.nx [sv0 (.tuple ds), sv0 (.tuple ds), z'])) : (exs c 0 (bH11 S0) [sv0 (.tuple ds), sv0 (.tuple ds), .un]).bind Fl.val = .ok (.bool true) := by
  have he : Fx.c2 .ne (.int (ds.length : Int)) (.int ds.length) = some false := by simp [Fx.c2, ii]
  simp only [sv0] at eF
  unfold bH11
  simp [exs, exS, evT, ev_isa, ev_c2, ev_and, ev_or, ev_not, ev_p, evPk, evP, slot, opd1, opd2, opd, fin, lateE, isP, toP, finO, evPb, g1, g2, isaD, isTy, PyData.plain, hp, c2B, he, Fx.p1, isCont, isNone, truth, r_of, r_no, r_ok, r_bad, sv0, Fl.val, eF]
theorem same_tup (k : Nat) (ds : List PyData) (hp : PyData.plainAll ds = true) (hc : ∀ x ∈ ds, isCont x = false) (hl : ds.length ≤ 1000) (h : ∀ x ∈ ds, callV (prg.orc k) 11 [x, x] = .ok (.bool true)) : callV (prg.orc (k + 1)) 11 [.tuple ds, .tuple ds] = .ok (.bool true) := by
  obtain ⟨z', eF⟩ := same_for k ds hc hl h
  rw [callV_eq (D := d11) rfl rfl]
  exact same_head (prg.orc k) bF11 ds hp z' eF
theorem same_ok (m : Nat) : ∀ {n : Nat} {d : PyData}, SD n d → callV (prg.orc (m + n)) 11 [d, d] = .ok (.bool true) := by
  intro n
  induction n with
  | zero => intro d h; cases h
  | succ n IH =>
    intro d h
    cases h with
    | int _ i => exact same_int (m + n) i
    | str _ s h => exact same_str (m + n) s h
    | tup _ ds h hl => exact same_tup (m + n) ds (plainAll_of fun x hx => (h x hx).plain) (fun x hx => (h x hx).cont) hl fun x hx => IH (h x hx)
end K73
set_option Elab.async false
set_option linter.all false
set_option maxRecDepth 100000
set_option maxHeartbeats 4000000
namespace K73
open PySem PySem.Spec PyProof.Rows L2 Fx
theorem sd_nil {n : Nat} : ∀ x ∈ ([] : List PyData), SD n x := fun x h => by cases h
theorem sd_cons {n : Nat} {d : PyData} {ds : List PyData} (h : SD n d) (hs : ∀ x ∈ ds, SD n x) : ∀ x ∈ d :: ds, SD n x := fun x hx => by
  rcases List.mem_cons.mp hx with rfl | hx
  · exact h
  · exact hs x hx
theorem sd_frac (n : Nat) (q : Rat) : SD (n + 2) (frac q) := .tup _ _ (sd_cons (.int ..) (sd_cons (.int ..) sd_nil)) (by simp)
theorem sd_stp (j : Int) (q : Rat) : SD 5 (stp j q) :=
  .tup _ _ (sd_cons (.str _ _ (by decide +kernel)) (sd_cons (.int ..) (sd_cons (.int ..) (sd_cons (.tup _ _ (sd_cons (.tup _ _ (sd_cons (.int ..) (sd_cons (sd_frac 0 q) sd_nil)) (by simp)) sd_nil) (by simp)) (sd_cons (.str _ _ (by decide +kernel)) sd_nil))))) (by simp)
theorem sd_chain (ws : List (Int × Rat)) (hl : ws.length ≤ 1000) : SD 7 (chainD ws) :=
  .tup _ _ (sd_cons (.int ..) (sd_cons (.tup _ _ (fun x hx => by
    obtain ⟨w, hw, rfl⟩ := List.mem_map.mp hx
    exact sd_stp _ _) (by rw [List.length_map]; exact hl)) sd_nil)) (by simp)
theorem ways_len (t : B4) : (waysOf t).2.length ≤ 2 ∧ ∀ w ∈ (waysOf t).2, w.length ≤ 3 := by
  unfold waysOf
  split
  · split
    · exact ⟨by decide, by simp⟩
    · exact ⟨by decide, by simp⟩
  · split
    · exact ⟨by simp, by simp⟩
    · split
      · exact ⟨by simp, by simp⟩
      · split
        · exact ⟨by simp, by simp⟩
        · split
          · exact ⟨by simp, by simp⟩
          · unfold w3
            constructor
            · rw [List.length_append]
              have h1 : (if t.c = 0 then ([] : List (List (Int × Rat))) else [[(0, (t.d - 1) / t.c), (1, t.c), (0, (t.a - 1) / t.c)]]).length ≤ 1 := by split <;> simp
              have h2 : (if t.b = 0 then ([] : List (List (Int × Rat))) else [[(1, (t.a - 1) / t.b), (0, t.b), (1, (t.d - 1) / t.b)]]).length ≤ 1 := by split <;> simp
              omega
            · intro w hw
              rcases List.mem_append.mp hw with h | h
              · split at h
                · cases h
                · simp at h; subst h; simp
              · split at h
                · cases h
                · simp at h; subst h; simp
theorem sd_due (t : B4) : SD 9 (dueD t) :=
  .tup _ _ (sd_cons (.int ..) (sd_cons (.tup _ _ (fun x hx => by
    have hx := List.mem_mergeSort.mp hx
    obtain ⟨w, hw, rfl⟩ := List.mem_map.mp hx
    exact sd_chain w (Nat.le_trans ((ways_len t).2 w hw) (by decide))) (by
      unfold sortD
      rw [List.length_mergeSort, List.length_map]
      exact Nat.le_trans (ways_len t).1 (by decide))) sd_nil)) (by simp)
theorem due_same (m : Nat) (t : B4) : callV (prg.orc (m + 9)) 11 [dueD t, dueD t] = .ok (.bool true) := same_ok m (sd_due t)
end K73
set_option Elab.async false
set_option linter.all false
set_option maxRecDepth 100000
set_option maxHeartbeats 4000000
namespace K73
open PySem PySem.Spec PyProof.Rows L2 Fx
structure Bag where
  cur : Int
  cnt : Int
  great : List Int
  cells : List Int
def bagD (b : Bag) : PyData := .list [.int b.cur, .int b.cnt, .list (b.great.map .int), .list (b.cells.map .int)]
def bagS (b : Bag) : SV := .sv true 2 (bagD b)
theorem many_ne {n : Nat} (h : 0 < n) : (n : Int) ≠ 0 := by omega
theorem dig_range (x : Int) {n : Nat} (h : 0 < n) : ∃ r : Nat, r < n ∧ x.fmod n = (r : Int) := by
  have h1 := Int.fmod_nonneg_of_pos x (show (0 : Int) < n by omega)
  have h2 := Int.fmod_lt_of_pos x (show (0 : Int) < n by omega)
  exact ⟨(x.fmod n).toNat, by omega, by omega⟩
/-- the fields as the def sees them -/
theorem bag_ix (b : Bag) : ixD (bagD b) (.int 0) = some (.int b.cur) ∧ ixD (bagD b) (.int 1) = some (.int b.cnt) ∧ ixD (bagD b) (.int 2) = some (.list (b.great.map .int)) ∧ ixD (bagD b) (.int 3) = some (.list (b.cells.map .int)) := by
  simp [ixD, bagD, L2.atI, L2.ixN]
theorem bag_put (b : Bag) (x : Int) : alterD (putF' (.int 0) (.int x)) [] (bagD b) = some (bagD { b with cur := x }, .none) ∧ alterD (putF' (.int 1) (.int x)) [] (bagD b) = some (bagD { b with cnt := x }, .none) := by
  simp [alterD, putF', bagD, L2.ixN]
theorem draw1 (c : Orc) (b : Bag) (n : Nat) : exS c 0 (.put 0 [] (.k (.int 1)) 1 (.b2 .add (.p (.ix (.at 0) (.k (.int 1)))) (.p (.k (.int 1))))) [bagS b, sv0 (.int n), .un, .un, .un] = .ok (.nx [bagS { b with cnt := b.cnt + 1 }, sv0 (.int n), .un, .un, .un]) := by
  obtain ⟨h0, h1, h2, h3⟩ := bag_ix b
  have h4 := (bag_put b (b.cnt + 1)).2
  have hc : isCont (bagD b) = true := rfl
  simp [exS, ev_b2, ev_p, evPk, evP, slot, bagS, sv0, h1, hc, opd2, opd, fin, lateE, isP, toP, finO, evPb, g2, Fx.b2, own1, isCont, alterS, alterAt, pathR, h4, r_of, r_ok]
theorem bag_pop (b : Bag) (xs : List Int) (x : Int) (hg : b.great = xs ++ [x]) : pathOk [.int 2] 2 0 (bagD b) = true ∧ alterD (muF .pop []) [.int 2] (bagD b) = some (bagD { b with great := xs }, .int x) := by
  constructor
  · simp [pathOk, walkD, bagD, L2.ixN]
  · simp [alterD, muF, muD, bagD, L2.ixN, hg]
def sPop : S := (.iff (.and (.c2 .eq (.p (.ix (.at 0) (.k (.int 0)))) (.p (.k (.int 0)))) (.c2 .gt (.p (.p1 .len (.ix (.at 0) (.k (.int 2))))) (.p (.k (.int 0)))))
 (.cons (.put 0 [] (.k (.int 0)) 1 (.mu .pop 0 [(.k (.int 2))] 0 .nil)) .nil)
 .nil)
theorem draw2 (c : Orc) (b : Bag) (n : Nat) : ∃ b', b'.cells = b.cells ∧ exS c 0 sPop [bagS b, sv0 (.int n), .un, .un, .un] = .ok (.nx [bagS b', sv0 (.int n), .un, .un, .un]) := by
  obtain ⟨h0, h1, h2, h3⟩ := bag_ix b
  have hc : isCont (bagD b) = true := rfl
  by_cases e : b.cur = 0
  · rcases List.eq_nil_or_concat b.great with hg | ⟨xs, x, hg⟩
    · refine ⟨b, rfl, ?_⟩
      rw [hg] at h2
      simp [sPop, exS, exs, evT, ev_p, evPk, evP, slot, bagS, sv0, h0, h2, e, hc, opd2, opd, fin, lateE, isP, toP, finO, evPb, g2, c2B, Fx.c2, ii, Fx.p1, own1, isCont, r_of, r_ok]
    · rw [List.concat_eq_append] at hg
      refine ⟨{ b with cur := x, great := xs }, rfl, ?_⟩
      obtain ⟨q1, q2⟩ := bag_pop b xs x hg
      have q3 : ∀ y : Int, alterD (putF' (.int 0) (.int x)) [] (bagD ⟨y, b.cnt, xs, b.cells⟩) = some (bagD ⟨x, b.cnt, xs, b.cells⟩, .none) := fun y => (bag_put ⟨y, b.cnt, xs, b.cells⟩ x).1
      rw [hg] at h2
      have hp : (0 : Int) < (xs.length : Int) + 1 := by omega
      simp at h2
      simp [sPop, exS, exs, evT, ev_p, ev_muP, evs, evPk, evP, slot, bagS, sv0, h0, h2, e, hc, hp, opd2, opd, fin, lateE, isP, toP, finO, evPb, g2, c2B, Fx.c2, ii, Fx.p1, own1, isCont, pathR, q1, alterS, alterAt, q2, q3, r_of, r_ok]
  · refine ⟨b, rfl, ?_⟩
    simp [sPop, exS, exs, evT, ev_p, evPk, evP, slot, bagS, sv0, h0, h2, e, hc, opd2, opd, fin, lateE, isP, toP, finO, evPb, g2, c2B, Fx.c2, ii, Fx.p1, own1, isCont, r_of, r_ok]
/-- the third piece: a digit, or a mixed cell -/
def sDig : S := (.iff (.c2 .gt (.p (.ix (.at 0) (.k (.int 0)))) (.p (.k (.int 0))))
 (.cons (.as (.nm 4) 0 (.b2 .mod (.p (.p1 .int (.ix (.at 0) (.k (.int 0))))) (.p (.at 1)))) (.cons (.put 0 [] (.k (.int 0)) 1 (.b2 .fdiv (.p (.ix (.at 0) (.k (.int 0)))) (.p (.at 1)))) (.cons (.ret (.p (.at 4))) .nil)))
 .nil)
theorem draw3 (c : Orc) (b : Bag) (n : Nat) (hn : 0 < n) (hn2 : n < 1000) (h : 0 < b.cur) : ∃ r : Nat, r < n ∧ ∃ b', b'.cells = b.cells ∧ exS c 0 sDig [bagS b, sv0 (.int n), .un, .un, .un] = .ok (.rt (.int r) [bagS b', sv0 (.int n), .un, .un, sv0 (.int r)]) := by
  obtain ⟨h0, h1, h2, h3⟩ := bag_ix b
  have hc : isCont (bagD b) = true := rfl
  obtain ⟨r, hr, er⟩ := dig_range b.cur hn
  have hne := many_ne hn
  have q := (bag_put b (b.cur.fdiv n)).1
  have hl : (n : Int).natAbs.log2 < 9000 := by
    rw [Int.natAbs_natCast]
    have : n.log2 ≤ n := Nat.log2_le_self n
    omega
  have hl' : n.log2 < 9000 := by
    have : n.log2 ≤ n := Nat.log2_le_self n
    omega
  have hn0 : n ≠ 0 := by omega
  refine ⟨r, hr, { b with cur := b.cur.fdiv n }, rfl, ?_⟩
  simp [sDig, exS, exs, evT, ev_p, ev_b2, evs, evPk, evP, slot, bagS, sv0, h0, h, er, hne, hn0, hc, opd2, opd, fin, lateE, isP, toP, finO, evPb, g2, c2B, Fx.c2, Fx.b2, ii, Fx.p1, own1, isCont, setS, hl, hl', alterS, alterAt, pathR, q, r_of, r_ok]
theorem draw3n (c : Orc) (b : Bag) (n : Nat) (h : ¬ 0 < b.cur) : exS c 0 sDig [bagS b, sv0 (.int n), .un, .un, .un] = .ok (.nx [bagS b, sv0 (.int n), .un, .un, .un]) := by
  obtain ⟨h0, h1, h2, h3⟩ := bag_ix b
  have hc : isCont (bagD b) = true := rfl
  simp [sDig, exS, exs, evT, ev_p, ev_b2, evs, evPk, evP, slot, bagS, sv0, h0, h, hc, opd2, opd, fin, lateE, isP, toP, finO, evPb, g2, c2B, Fx.c2, Fx.b2, ii, Fx.p1, own1, isCont, setS, r_of, r_ok]
def ssMix : Ss := (.cons (.as (.nm 2) 0 (.p (.ix (.ix (.at 0) (.k (.int 3))) (.b2 .mod (.p1 .int (.ix (.at 0) (.k (.int 1)))) (.p1 .len (.ix (.at 0) (.k (.int 3)))))))) (.cons (.as (.nm 3) 0 (.b2 .mod (.p (.p1 .int (.b2 .add (.b2 .add (.b2 .mul (.at 2) (.k (.int 48271))) (.b2 .mul (.ix (.at 0) (.k (.int 1))) (.k (.int 69621)))) (.k (.int 1))))) (.p (.k (.int 2147483647))))) (.cons (.ret (.b2 .mod (.b2 .fdiv (.b2 .mod (.p (.p1 .int (.b2 .add (.b2 .add (.b2 .mul (.at 3) (.at 3)) (.b2 .mul (.at 3) (.k (.int 16807)))) (.b2 .mul (.ix (.at 0) (.k (.int 1))) (.k (.int 40014)))))) (.p (.k (.int 2147483629)))) (.p (.k (.int 32)))) (.p (.at 1)))) .nil)))
theorem bits_r (a b : Int) (h : b.natAbs.log2 < 64) : bitsOk a b = true := by
  unfold bitsOk; simp [h]
theorem draw4 (c : Orc) (b : Bag) (n : Nat) (hn : 0 < n) (hcl : b.cells ≠ []) : ∃ r : Nat, r < n ∧ ∃ x y, exs c 0 ssMix [bagS b, sv0 (.int n), .un, .un, .un] = .ok (.rt (.int r) [bagS b, sv0 (.int n), x, y, .un]) := by
  obtain ⟨h0, h1, h2, h3⟩ := bag_ix b
  have hc : isCont (bagD b) = true := rfl
  have hL : 0 < b.cells.length := List.length_pos_iff.mpr hcl
  obtain ⟨j, hj, ej⟩ := dig_range b.cnt hL
  have hx : ixD (.list (b.cells.map .int)) (.int j) = some (.int b.cells[j]) := by
    have := atI_nat (b.cells.map PyData.int) j (by rw [List.length_map]; exact hj)
    rw [List.getElem_map] at this
    exact this
  obtain ⟨mx, hm, em⟩ := dig_range (b.cells[j] * 48271 + b.cnt * 69621 + 1) (n := 2147483647) (by decide)
  obtain ⟨r, hr, er⟩ := dig_range ((((mx : Int) * mx + mx * 16807 + b.cnt * 40014).fmod 2147483629).fdiv 32) hn
  have em' : (b.cells[j] * 48271 + b.cnt * 69621 + 1).fmod 2147483647 = (mx : Int) := em
  have k1 : ∀ a : Int, bitsOk a 48271 = true := fun a => bits_r a _ (by decide)
  have k2 : ∀ a : Int, bitsOk a 69621 = true := fun a => bits_r a _ (by decide)
  have k3 : ∀ a : Int, bitsOk a 16807 = true := fun a => bits_r a _ (by decide)
  have k4 : ∀ a : Int, bitsOk a 40014 = true := fun a => bits_r a _ (by decide)
  have k5 : bitsOk (mx : Int) mx = true := bitsOk_of (k := 32) (l := 32) (by rw [Int.natAbs_natCast]; omega) (by rw [Int.natAbs_natCast]; omega) (by decide)
  have hne := many_ne hn
  have hn0 : n ≠ 0 := by omega
  have hL0 : b.cells.length ≠ 0 := by omega
  have l32 : Nat.log2 32 < 9000 := by decide
  refine ⟨r, hr, sv0 (.int b.cells[j]), sv0 (.int mx), ?_⟩
  simp [ssMix, exS, exs, evT, ev_p, ev_b2, evs, evPk, evP, slot, bagS, sv0, h0, h1, h3, ej, hx, hc, opd2, opd, fin, lateE, isP, toP, finO, evPb, g2, c2B, Fx.c2, Fx.b2, Fx.scal, ii, Fx.p1, own1, isCont, setS, k1, k2, k3, k4, k5, em', er, hn0, hcl, l32, r_of, r_ok]
theorem draw_ok (m : Nat) (b : Bag) (n : Nat) (hn : 0 < n) (hn2 : n < 1000) (hcl : b.cells ≠ []) : ∃ r : Nat, r < n ∧ ∃ b', b'.cells ≠ [] ∧ (prg.orc (m + 1)).fn 9 [bagS b, sv0 (.int n)] = .ok (.int r, [bagS b', sv0 (.int n)]) := by
  have e1 := draw1 (prg.orc m) b n
  obtain ⟨b2, c2, e2⟩ := draw2 (prg.orc m) { b with cnt := b.cnt + 1 } n
  have hb : b9 = .cons (.put 0 [] (.k (.int 1)) 1 (.b2 .add (.p (.ix (.at 0) (.k (.int 1)))) (.p (.k (.int 1))))) (.cons sPop (.cons sDig ssMix)) := rfl
  rw [fn_eq (D := d9) rfl rfl]
  have e0 : [bagS b, sv0 (.int n)] ++ List.replicate (d9.F.n - [bagS b, sv0 (.int n)].length) SV.un = [bagS b, sv0 (.int n), .un, .un, .un] := rfl
  rw [e0]
  have hd : d9.F.body = b9 := rfl
  rw [hd, hb, show d9.F.ret = 0 from rfl]
  by_cases h : 0 < b2.cur
  · obtain ⟨r, hr, b3, c3, e3⟩ := draw3 (prg.orc m) b2 n hn hn2 h
    refine ⟨r, hr, b3, by rw [c3, c2]; exact hcl, ?_⟩
    simp only [exs, e1, e2, e3, r_ok]
    rfl
  · obtain ⟨r, hr, x, y, e4⟩ := draw4 (prg.orc m) b2 n hn (by rw [c2]; exact hcl)
    refine ⟨r, hr, b2, by rw [c2]; exact hcl, ?_⟩
    simp only [exs, e1, e2, draw3n (prg.orc m) b2 n h, e4, r_ok]
    rfl
end K73
set_option Elab.async false
set_option linter.all false
set_option maxRecDepth 100000
set_option maxHeartbeats 4000000
namespace K73
open PySem PySem.Spec PyProof.Rows L2 Fx
theorem pick_ok (m : Nat) (b : Bag) (xs : List PyData) (hn : xs ≠ []) (hn2 : xs.length < 1000) (hcl : b.cells ≠ []) : ∃ x ∈ xs, ∃ b', b'.cells ≠ [] ∧ (prg.orc (m + 2)).fn 10 [bagS b, sv0 (.list xs)] = .ok (x, [bagS b', sv0 (.list xs)]) := by
  obtain ⟨r, hr, b', hb', e⟩ := draw_ok m b xs.length (List.length_pos_iff.mpr hn) hn2 hcl
  refine ⟨xs[r], List.getElem_mem hr, b', hb', ?_⟩
  rw [fn_eq (D := d10) rfl rfl]
  have e0 : [bagS b, sv0 (.list xs)] ++ List.replicate (d10.F.n - [bagS b, sv0 (.list xs)].length) SV.un = [bagS b, sv0 (.list xs)] := rfl
  rw [e0]
  have ha : ev (prg.orc (m + 1)) (.p (.p1 .len (.at 1))) 0 [bagS b, sv0 (.list xs)] = .ok (.int xs.length, [bagS b, sv0 (.list xs)]) := by
    simp [ev_p, evPk, evP, slot, sv0, Fx.p1, isCont, r_of]
  have ec : ev (prg.orc (m + 1)) (.call 9 none (.l 0 (.v (.p (.p1 .len (.at 1))) .nil))) 0 [bagS b, sv0 (.list xs)] = .ok (.int r, [bagS b', sv0 (.list xs)]) := by
    rw [ev_callL1 (i := 0) (l := true) (k := 2) (d := bagD b) rfl ha e]
    rfl
  have hx : ixD (.list xs) (.int (r : Int)) = some xs[r] := atI_nat xs r hr
  have hd : d10.F.body = b10 := rfl
  rw [hd, show d10.F.ret = 0 from rfl]
  simp [b10, exs, exS, ev_ix, ev_p, ec, evP, slot, sv0, opd2, opd, fin, lateE, isP, toP, finO, evPb, g2, hx, r_of, r_ok]
  rfl
def partsQ : List Rat := [mkRat 1 2, mkRat (-1) 2, 1, -1, 2, -2, mkRat 1 3, mkRat (-2) 3, mkRat 3 4, mkRat (-1) 4, mkRat 3 2]
def partsD : PyData := .list (partsQ.map frac)
theorem parts_eq : partsD = .list [.tuple [.int 1, .int 2], .tuple [.int (-1), .int 2], .tuple [.int 1, .int 1], .tuple [.int (-1), .int 1], .tuple [.int 2, .int 1], .tuple [.int (-2), .int 1], .tuple [.int 1, .int 3], .tuple [.int (-2), .int 3], .tuple [.int 3, .int 4], .tuple [.int (-1), .int 4], .tuple [.int 3, .int 2]] := by
  rfl
instance (k : Nat) (q : Rat) : Decidable (Sz k q) := by unfold Sz; infer_instance
theorem draw_ev (m : Nat) (b : Bag) (n : Nat) (hn : 0 < n) (hn2 : n < 1000) (hcl : b.cells ≠ []) (env : EnvD) (h0 : env[0]? = some (bagS b)) : ∃ r : Nat, r < n ∧ ∃ b', b'.cells ≠ [] ∧ ev (prg.orc (m + 1)) (.call 9 none (.l 0 (.v (.p (.k (.int n))) .nil))) 0 env = .ok (.int r, env.set 0 (bagS b')) := by
  obtain ⟨r, hr, b', hb', e⟩ := draw_ok m b n hn hn2 hcl
  refine ⟨r, hr, b', hb', ?_⟩
  exact ev_callL1 (i := 0) (l := true) (k := 2) (d := bagD b) h0 (by simp [ev_p, evPk, evP, isCont, r_of]) e
theorem pick_ev (m : Nat) (b : Bag) (qs : List Rat) (hn : qs ≠ []) (hn2 : qs.length < 1000) (hcl : b.cells ≠ []) (env : EnvD) (a : E) (h0 : env[0]? = some (bagS b)) (ha : ev (prg.orc (m + 2)) a 0 env = .ok (.list (qs.map frac), env)) : ∃ q ∈ qs, ∃ b', b'.cells ≠ [] ∧ ev (prg.orc (m + 2)) (.call 10 none (.l 0 (.v a .nil))) 0 env = .ok (frac q, env.set 0 (bagS b')) := by
  obtain ⟨x, hx, b', hb', e⟩ := pick_ok m b (qs.map frac) (by simpa using hn) (by rw [List.length_map]; exact hn2) hcl
  obtain ⟨q, hq, rfl⟩ := List.mem_map.mp hx
  refine ⟨q, hq, b', hb', ?_⟩
  exact ev_callL1 (i := 0) (l := true) (k := 2) (d := bagD b) h0 ha e
def envW (b : Bag) (many sort i : Nat) (ws : List (Int × Rat)) (k a made one : SV) : EnvD := [bagS b, sv0 (.int 999), sv0 partsD, k, sv0 (.int many), sv0 (.int sort), sv0 (.int i), .sv false 1 (wayD ws), a, made, one]
def sParts : S := (.as (.nm 2) 0 (.lst (.cons (.tup (.cons (.p (.k (.int 1))) (.cons (.p (.k (.int 2))) .nil))) (.cons (.tup (.cons (.p (.p1 .neg (.k (.int 1)))) (.cons (.p (.k (.int 2))) .nil))) (.cons (.tup (.cons (.p (.k (.int 1))) (.cons (.p (.k (.int 1))) .nil))) (.cons (.tup (.cons (.p (.p1 .neg (.k (.int 1)))) (.cons (.p (.k (.int 1))) .nil))) (.cons (.tup (.cons (.p (.k (.int 2))) (.cons (.p (.k (.int 1))) .nil))) (.cons (.tup (.cons (.p (.p1 .neg (.k (.int 2)))) (.cons (.p (.k (.int 1))) .nil))) (.cons (.tup (.cons (.p (.k (.int 1))) (.cons (.p (.k (.int 3))) .nil))) (.cons (.tup (.cons (.p (.p1 .neg (.k (.int 2)))) (.cons (.p (.k (.int 3))) .nil))) (.cons (.tup (.cons (.p (.k (.int 3))) (.cons (.p (.k (.int 4))) .nil))) (.cons (.tup (.cons (.p (.p1 .neg (.k (.int 1)))) (.cons (.p (.k (.int 4))) .nil))) (.cons (.tup (.cons (.p (.k (.int 3))) (.cons (.p (.k (.int 2))) .nil))) .nil)))))))))))))
theorem parts_ok (c : Orc) (b : Bag) : exS c 0 sParts [bagS b, sv0 (.int 999), .un, .un, .un, .un, .un, .un, .un, .un, .un] = .ok (.nx [bagS b, sv0 (.int 999), sv0 partsD, .un, .un, .un, .un, .un, .un, .un, .un]) := by
  rw [parts_eq]
  simp [sParts, exS, ev_lst, ev_tup, evs, ev_p, evPk, evP, Fx.p1, isCont, bagS, sv0, setS, r_of, r_ok]
def sDraw2 : S := (.par 4 5 0 0 (.call 9 none (.l 0 (.v (.p (.k (.int 5))) .nil))) (.call 9 none (.l 0 (.v (.p (.k (.int 6))) .nil))))
def sDraw3 : S := (.par 6 7 0 1 (.call 9 none (.l 0 (.v (.p (.k (.int 2))) .nil))) (.lst .nil))
theorem head_ok (m : Nat) (b : Bag) (hcl : b.cells ≠ []) (ss : Ss) : ∃ many sort i : Nat, many < 5 ∧ sort < 6 ∧ i < 2 ∧ ∃ b', b'.cells ≠ [] ∧ exs (prg.orc (m + 1)) 0 (.cons sParts (.cons sDraw2 (.cons sDraw3 ss))) [bagS b, sv0 (.int 999), .un, .un, .un, .un, .un, .un, .un, .un, .un] = exs (prg.orc (m + 1)) 0 ss (envW b' many sort i [] .un .un .un .un) := by
  obtain ⟨many, h1, b1, c1, e1⟩ := draw_ev m b 5 (by decide) (by decide) hcl [bagS b, sv0 (.int 999), sv0 partsD, .un, .un, .un, .un, .un, .un, .un, .un] rfl
  obtain ⟨sort, h2, b2, c2, e2⟩ := draw_ev m b1 6 (by decide) (by decide) c1 [bagS b1, sv0 (.int 999), sv0 partsD, .un, .un, .un, .un, .un, .un, .un, .un] rfl
  obtain ⟨i, h3, b3, c3, e3⟩ := draw_ev m b2 2 (by decide) (by decide) c2 [bagS b2, sv0 (.int 999), sv0 partsD, .un, sv0 (.int many), sv0 (.int sort), .un, .un, .un, .un, .un] rfl
  refine ⟨many, sort, i, h1, h2, h3, b3, c3, ?_⟩
  have f1 : exS (prg.orc (m + 1)) 0 sDraw2 [bagS b, sv0 (.int 999), sv0 partsD, .un, .un, .un, .un, .un, .un, .un, .un] = .ok (.nx [bagS b2, sv0 (.int 999), sv0 partsD, .un, sv0 (.int many), sv0 (.int sort), .un, .un, .un, .un, .un]) := by
    simp only [sDraw2, exS]
    rw [show (PyData.int 5) = .int ((5 : Nat) : Int) from rfl, show (PyData.int 6) = .int ((6 : Nat) : Int) from rfl, e1]
    simp only [r_ok, List.set_cons_zero, e2]
    simp [setS, bagS, sv0, r_of, r_ok]
  have f2 : exS (prg.orc (m + 1)) 0 sDraw3 [bagS b2, sv0 (.int 999), sv0 partsD, .un, sv0 (.int many), sv0 (.int sort), .un, .un, .un, .un, .un] = .ok (.nx (envW b3 many sort i [] .un .un .un .un)) := by
    simp only [sDraw3, exS]
    rw [show (PyData.int 2) = .int ((2 : Nat) : Int) from rfl, e3]
    simp [ev_lst, evs, setS, bagS, sv0, r_of, r_ok, envW, wayD]
  simp only [exs, parts_ok, r_ok, f1, f2]
def sApp : Ss := (.cons (.ex (.mu .append 7 [] 0 (.cons (.tup (.cons (.b2 .mod (.p (.p1 .int (.b2 .add (.at 6) (.at 3)))) (.p (.k (.int 2)))) (.cons (.call 10 none (.l 0 (.v (.p (.at 2)) .nil))) .nil))) .nil))) .nil)
theorem app_ok (m : Nat) (b : Bag) (hcl : b.cells ≠ []) (many sort i k : Nat) (ws : List (Int × Rat)) (hl : ws.length ≤ 100) : ∃ j : Int, ∃ q ∈ partsQ, ∃ b', b'.cells ≠ [] ∧ exs (prg.orc (m + 2)) 0 sApp (envW b many sort i ws (sv0 (.int k)) .un .un .un) = .ok (.nx (envW b' many sort i (ws ++ [(j, q)]) (sv0 (.int k)) .un .un .un)) := by
  obtain ⟨q, hq, b', hb', e⟩ := pick_ev m b partsQ (by decide) (by decide) hcl (envW b many sort i ws (sv0 (.int k)) .un .un .un) (.p (.at 2)) rfl (by simp [ev_p, evPk, evP, envW, slot, sv0, partsD, isCont, r_of])
  refine ⟨((i : Int) + k).fmod 2, q, hq, b', hb', ?_⟩
  have hl2 : ws.length < 16777216 := by omega
  simp only [envW, sv0, bagS, wayD, List.set_cons_zero] at e
  simp [sApp, exs, exS, ev_mu0, isListS, slot, envW, sv0, bagS, wayD, evs, ev_tup, ev_b2, ev_p, evP, evPk, opd2, opd, fin, lateE, isP, toP, finO, evPb, g2, Fx.b2, Fx.p1, Fx.scal, own1, isCont, e, alterS, alterAt, alterD, pathR, muF, muD, hl2, r_of, r_ok, wayI]
def WOk (ws : List (Int × Rat)) : Prop := ∀ w ∈ ws, w.2 ∈ partsQ
theorem app_loop (m : Nat) (many sort i : Nat) : ∀ (ks : List Nat) (b : Bag) (ws : List (Int × Rat)) (z : SV), b.cells ≠ [] → WOk ws → ws.length + ks.length ≤ 4 → Free z → ∃ b' ws' z', b'.cells ≠ [] ∧ WOk ws' ∧ ws'.length ≤ 4 ∧ Free z' ∧ forL (bindT (.nm 3)) (exs (prg.orc (m + 2)) 0 sApp) (ks.map fun (k : Nat) => PyData.int (k : Int)) (envW b many sort i ws z .un .un .un) = .ok (.nx (envW b' many sort i ws' z' .un .un .un))
  | [], b, ws, z, h1, h2, h3, h4 => ⟨b, ws, z, h1, h2, by simpa using h3, h4, rfl⟩
  | k :: ks, b, ws, z, h1, h2, h3, h4 => by
    obtain ⟨j, q, hq, b1, c1, e1⟩ := app_ok m b h1 many sort i k ws (by omega)
    obtain ⟨b', ws', z', g1, g2, g3, g4, g5⟩ := app_loop m many sort i ks b1 (ws ++ [(j, q)]) (sv0 (.int k)) c1 (fun w hw => by
      rcases List.mem_append.mp hw with h | h
      · exact h2 w h
      · rw [List.mem_singleton] at h; subst h; exact hq) (by rw [List.length_append]; simp at h3 ⊢; omega) (.inr ⟨_, _, rfl⟩)
    refine ⟨b', ws', z', g1, g2, g3, g4, ?_⟩
    have hb : bindT (.nm 3) (.int (k : Int)) (envW b many sort i ws z .un .un .un) = some (envW b many sort i ws (sv0 (.int k)) .un .un .un) := by
      rcases h4 with rfl | ⟨k', d', rfl⟩ <;> simp [bindT, setS, envW, sv0, bagS]
    rw [List.map_cons]
    simp only [forL, hb, r_of, r_ok, e1]
    exact g5
def det (t : B4) : Rat := t.a * t.d - t.b * t.c
theorem det_step (t : B4) (w : Int × Rat) : det (stepB t w) = det t := by
  unfold det stepB
  split
  · dsimp only; grind
  · dsimp only; grind
theorem det_ways : ∀ (ws : List (Int × Rat)) (t : B4), det (ws.foldl stepB t) = det t
  | [], _ => rfl
  | w :: ws, t => by rw [List.foldl_cons, det_ways ws, det_step]
theorem parts_sz : ∀ q ∈ partsQ, Sz 3 q := by decide
theorem SzB.le {k l : Nat} {t : B4} (h : SzB k t) (hl : k ≤ l) : SzB l t := ⟨h.1.le hl, h.2.1.le hl, h.2.2.1.le hl, h.2.2.2.le hl⟩
theorem step_sz {k : Nat} {t : B4} {w : Int × Rat} (h : SzB k t) (hw : Sz 3 w.2) : SzB (2 * k + 4) (stepB t w) := by
  obtain ⟨ha, hb, hc, hd⟩ := h
  have A : ∀ {x y : Rat}, Sz k x → Sz k y → Sz (2 * k + 4) (x + w.2 * y) := fun hx hy => (add_sz hx (mul_sz hw hy)).le (by omega)
  unfold stepB
  split
  · exact ⟨A ha hc, A hb hd, hc.le (by omega), hd.le (by omega)⟩
  · exact ⟨ha.le (by omega), hb.le (by omega), A hc ha, A hd hb⟩
theorem good_of : ∀ (ws : List (Int × Rat)) (t : B4) (k : Nat), WOk ws → SzB k t → (k + 4) * 2 ^ ws.length ≤ 80 → Good t ws ∧ SzB 76 (ws.foldl stepB t)
  | [], t, k, _, h, hl => ⟨trivial, h.le (by simp at hl; omega)⟩
  | w :: ws, t, k, hw, h, hl => by
    have hp : 1 ≤ 2 ^ ws.length := Nat.one_le_two_pow
    have e : (k + 4) * 2 ^ (ws.length + 1) = (2 * k + 4 + 4) * 2 ^ ws.length := by
      rw [Nat.pow_succ, Nat.mul_comm (2 ^ ws.length) 2, ← Nat.mul_assoc]
      congr 1; omega
    rw [List.length_cons, e] at hl
    have hq := parts_sz _ (hw w (List.mem_cons_self ..))
    obtain ⟨g1, g2⟩ := good_of ws (stepB t w) (2 * k + 4) (fun x hx => hw x (List.mem_cons_of_mem _ hx)) (step_sz h hq) hl
    have hk : 2 * k + 4 + 4 ≤ 80 := Nat.le_trans (Nat.le_mul_of_pos_right _ hp) hl
    exact ⟨⟨h.le (by omega), hq.le (by decide), g1⟩, g2⟩
theorem good4 (ws : List (Int × Rat)) (h : WOk ws) (hl : ws.length ≤ 4) : Good one4 ws ∧ SzB 76 (ws.foldl stepB one4) ∧ det (ws.foldl stepB one4) = 1 := by
  have h1 : SzB 1 one4 := ⟨by decide, by decide, by decide, by decide⟩
  obtain ⟨g1, g2⟩ := good_of ws one4 1 h h1 (by
    have : 2 ^ ws.length ≤ 2 ^ 4 := Nat.pow_le_pow_right (by decide) hl
    omega)
  exact ⟨g1, g2, by rw [det_ways]; unfold det one4; decide +kernel⟩
end K73
set_option Elab.async false
set_option linter.all false
set_option maxRecDepth 100000
set_option maxHeartbeats 4000000
namespace K73
open PySem PySem.Spec PyProof.Rows L2 Fx
def envX (b : Bag) (many sort i : Nat) (kw : Nat) (ws : List (Int × Rat)) (k made : SV) : EnvD := [bagS b, sv0 (.int 999), sv0 partsD, k, sv0 (.int many), sv0 (.int sort), sv0 (.int i), .sv false kw (wayD ws), .un, made, .un]
def sMade : S := (.as (.nm 9) 0 (.call 19 none (.v (.p (.at 7)) .nil)))
def eMax : E := (.bi .max (.cons (.b2 .add (.lc [10] (.nm 10) (.e (.p (.at 9))) .nil (.p (.p1 .abs (.ix (.at 10) (.k (.int 0)))))) (.lc [10] (.nm 10) (.e (.p (.at 9))) .nil (.p (.ix (.at 10) (.k (.int 1)))))) .nil))
def sCut : S := (.iff (.c2 .gt eMax (.p (.at 1)))
  (.cons (.as (.nm 7) 1 (.sl (.p (.at 7)) .none (.some (.p (.p1 .neg (.k (.int 1))))))) .nil)
  .nil)
theorem made_ok (m : Nat) (b : Bag) (many sort i kw : Nat) (ws : List (Int × Rat)) (k z : SV) (hz : Free z) (hg : Good one4 ws) : exS (prg.orc (m + 4)) 0 sMade (envX b many sort i kw ws k z) = .ok (.nx (envX b many sort i 0 ws k (sv0 (fB (ws.foldl stepB one4))))) := by
  have e := block_ok m ws hg
  have hw : isCont (wayD ws) = true := rfl
  unfold envX
  rcases hz with rfl | ⟨k', d', rfl⟩
  · by_cases hk : kw = 0
    · subst hk
      simp [sMade, exS, ev_call_1, evR, ev_p, evPk, evP, slot, sv0, bagS, e, setS, r_of, r_ok]
    · simp [sMade, exS, ev_call_1, evR, ev_p, evPk, evP, slot, sv0, bagS, hw, hk, e, setS, r_of, r_ok]
  · by_cases hk : kw = 0
    · subst hk
      simp [sMade, exS, ev_call_1, evR, ev_p, evPk, evP, slot, sv0, bagS, e, setS, r_of, r_ok]
    · simp [sMade, exS, ev_call_1, evR, ev_p, evPk, evP, slot, sv0, bagS, hw, hk, e, setS, r_of, r_ok]
theorem max_int (n : Int) (ns : List Int) (hl : ns.length ≤ 1000) : ∃ k, maxDd (.list (.int n :: ns.map .int)) = some (.int k) := by
  refine ⟨ns.foldl max n, ?_⟩
  have h1 : ((PyData.int n :: ns.map .int).all fun x => (PyData.int n :: ns.map .int).all fun y => PySem.W.alike x y) = true := by
    rw [List.all_eq_true]
    intro x hx
    rw [List.all_eq_true]
    intro y hy
    rw [← List.map_cons] at hx hy
    obtain ⟨i, _, rfl⟩ := List.mem_map.mp hx
    obtain ⟨j, _, rfl⟩ := List.mem_map.mp hy
    rfl
  have h2 : ∀ ks : List Int, PyData.depthAll (ks.map .int) ≤ 64 := by
    intro ks
    induction ks with
    | nil => simp [PyData.depthAll]
    | cons k ks ih => simp only [List.map_cons, PyData.depthAll, PyData.depth]; omega
  have h3 : noNone (.int n :: ns.map .int) = true := by
    unfold noNone
    rw [List.all_eq_true]
    intro x hx
    rw [← List.map_cons] at hx
    obtain ⟨i, _, rfl⟩ := List.mem_map.mp hx
    rfl
  have h4 := h2 (n :: ns)
  rw [List.map_cons] at h4
  have h5 : alikeOk (.int n :: ns.map .int) = true := by
    unfold alikeOk; rw [h1, decide_eq_true h4]; rfl
  have h6 := PySem.W.maxD_ints n ns
  simp only [maxDd, h5, h3, h6]
  rfl
def absQ (q : Rat) : Int := if q.num < 0 then -q.num else q.num
theorem lcAbs (c : Orc) (b : Bag) (many sort i kw : Nat) (ws : List (Int × Rat)) (k : SV) (t : B4) : ev c (.lc [10] (.nm 10) (.e (.p (.at 9))) .nil (.p (.p1 .abs (.ix (.at 10) (.k (.int 0)))))) 0 (envX b many sort i kw ws k (sv0 (fB t))) = .ok (.list ([t.a, t.b, t.c, t.d].map fun q => .int (absQ q)), envX b many sort i kw ws k (sv0 (fB t))) := by
  refine ev_lcMA [t.a, t.b, t.c, t.d] frac _ (by simp [ownOk, envX]) (by simp [evI, ev_p, evPk, evP, slot, envX, sv0, fB, isCont, itemsD, r_of, r_ok]) (by simp) ?_ (by simp [backD, wipeD, envX])
  intro q _
  refine ⟨(envX b many sort i kw ws k (sv0 (fB t))).set 10 (sv0 (frac q)), (envX b many sort i kw ws k (sv0 (fB t))).set 10 (sv0 (frac q)), ?_, ?_, ?_⟩
  · simp [wipeD, bindT, setS, envX, sv0]
  · simp [envX, ev_p, evPk, evP, slot, sv0, frac, isCont, ixD, L2.atI, L2.ixN, Fx.p1, r_of, absQ]
  · simp [wipeD, envX]
theorem lcDen (c : Orc) (b : Bag) (many sort i kw : Nat) (ws : List (Int × Rat)) (k : SV) (t : B4) : ev c (.lc [10] (.nm 10) (.e (.p (.at 9))) .nil (.p (.ix (.at 10) (.k (.int 1))))) 0 (envX b many sort i kw ws k (sv0 (fB t))) = .ok (.list ([t.a, t.b, t.c, t.d].map fun q => .int q.den), envX b many sort i kw ws k (sv0 (fB t))) := by
  refine ev_lcMA [t.a, t.b, t.c, t.d] frac _ (by simp [ownOk, envX]) (by simp [evI, ev_p, evPk, evP, slot, envX, sv0, fB, isCont, itemsD, r_of, r_ok]) (by simp) ?_ (by simp [backD, wipeD, envX])
  intro q _
  refine ⟨(envX b many sort i kw ws k (sv0 (fB t))).set 10 (sv0 (frac q)), (envX b many sort i kw ws k (sv0 (fB t))).set 10 (sv0 (frac q)), ?_, ?_, ?_⟩
  · simp [wipeD, bindT, setS, envX, sv0]
  · simp [envX, ev_p, evPk, evP, slot, sv0, frac, isCont, ixD, L2.atI, L2.ixN, Fx.p1, r_of]
  · simp [wipeD, envX]
theorem eMax_ok (c : Orc) (b : Bag) (many sort i kw : Nat) (ws : List (Int × Rat)) (k : SV) (t : B4) : ∃ n : Int, ev c eMax 0 (envX b many sort i kw ws k (sv0 (fB t))) = .ok (.int n, envX b many sort i kw ws k (sv0 (fB t))) := by
  obtain ⟨n, hn⟩ := max_int (absQ t.a) [absQ t.b, absQ t.c, absQ t.d, t.a.den, t.b.den, t.c.den, t.d.den] (by simp)
  refine ⟨n, ?_⟩
  simp only [List.map_cons, List.map_nil] at hn
  have h1 := lcAbs c b many sort i kw ws k t
  have h2 := lcDen c b many sort i kw ws k t
  simp only [List.map_cons, List.map_nil] at h1 h2
  simp [eMax, ev_bi, evA, allP, ev_b2, h1, h2, opd2, opd, fin, lateE, isP, toP, finO, g1, g2, Fx.b2, Fx.bi, hn, own1, isCont, r_of, r_ok]
theorem cut_ok (c : Orc) (b : Bag) (many sort i : Nat) (ws : List (Int × Rat)) (hw : WOk ws) (hl : ws.length ≤ 4) (k : SV) (t : B4) : ∃ kw ws', WOk ws' ∧ ws'.length ≤ 4 ∧ exS c 0 sCut (envX b many sort i 0 ws k (sv0 (fB t))) = .ok (.nx (envX b many sort i kw ws' k (sv0 (fB t)))) := by
  obtain ⟨n, hn⟩ := eMax_ok c b many sort i 0 ws k t
  have ht : evT c (.c2 .gt eMax (.p (.at 1))) (envX b many sort i 0 ws k (sv0 (fB t))) = .ok (decide (n > 999), envX b many sort i 0 ws k (sv0 (fB t))) := by
    have h1 : evPb c (.at 1) (envX b many sort i 0 ws k (sv0 (fB t))) = some (.int 999) := by simp [evPb, evP, slot, envX, sv0]
    have h2 : (evP c (.at 1) (envX b many sort i 0 ws k (sv0 (fB t)))).isSome = true := by simp [evP, slot, envX, sv0]
    have h3 : isP eMax = false := rfl
    have h4 : lateE eMax true = false := rfl
    simp only [evT, opd2, opd, isP, h4]
    simp [hn, fin, opd, h2, lateE, toP, finO, h1, g2, c2B, Fx.c2, ii, r_of, r_ok]
  by_cases h : n > 999
  · refine ⟨1, (ws.drop (HT.sIx ws.length 0 none)).take (HT.sIx ws.length ws.length (some (-1)) - HT.sIx ws.length 0 none), ?_, ?_, ?_⟩
    · exact fun w hw' => hw w (List.mem_of_mem_drop (List.mem_of_mem_take hw'))
    · exact Nat.le_trans (by rw [List.length_take, List.length_drop]; omega) hl
    · have hs : slD (wayD ws) none (some (-1)) = some (wayD ((ws.drop (HT.sIx ws.length 0 none)).take (HT.sIx ws.length ws.length (some (-1)) - HT.sIx ws.length 0 none))) := by
        simp only [slD, wayD, Fx.cutD, List.length_map, List.map_take, List.map_drop]
      simp only [sCut, exS, ht, r_ok, decide_eq_true h, if_true]
      simp [exs, exS, ev_sl, evO, ev_p, evPk, evP, slot, envX, sv0, bagS, isCont, Fx.p1, hs, own1, setS, r_of, r_ok]
  · refine ⟨0, ws, hw, hl, ?_⟩
    simp [sCut, exS, ht, r_ok, h, exs]
def ssLoop2 : Ss := .cons sMade (.cons sCut .nil)
theorem loop2 (m : Nat) (b : Bag) (many sort i : Nat) : ∀ (ks : List Nat) (kw : Nat) (ws : List (Int × Rat)) (z z2 : SV), WOk ws → ws.length ≤ 4 → Free z → Free z2 → ∃ kw' ws' z' z2', WOk ws' ∧ ws'.length ≤ 4 ∧ forL (bindT (.nm 3)) (exs (prg.orc (m + 4)) 0 ssLoop2) (ks.map fun (k : Nat) => PyData.int (k : Int)) (envX b many sort i kw ws z z2) = .ok (.nx (envX b many sort i kw' ws' z' z2'))
  | [], kw, ws, z, z2, h1, h2, h3, h4 => ⟨kw, ws, z, z2, h1, h2, rfl⟩
  | k :: ks, kw, ws, z, z2, h1, h2, h3, h4 => by
    have e1 := made_ok m b many sort i kw ws (sv0 (.int k)) z2 h4 (good4 ws h1 h2).1
    obtain ⟨kw1, ws1, g1, g2, e2⟩ := cut_ok (prg.orc (m + 4)) b many sort i ws h1 h2 (sv0 (.int k)) (ws.foldl stepB one4)
    obtain ⟨kw', ws', z', z2', g3, g4, e3⟩ := loop2 m b many sort i ks kw1 ws1 (sv0 (.int k)) (sv0 (fB (ws.foldl stepB one4))) g1 g2 (.inr ⟨_, _, rfl⟩) (.inr ⟨_, _, rfl⟩)
    refine ⟨kw', ws', z', z2', g3, g4, ?_⟩
    have hb : bindT (.nm 3) (.int (k : Int)) (envX b many sort i kw ws z z2) = some (envX b many sort i kw ws (sv0 (.int k)) z2) := by
      rcases h3 with rfl | ⟨k', d', rfl⟩ <;> simp [bindT, setS, envX, sv0, bagS]
    rw [List.map_cons]
    simp only [forL, hb, r_of, r_ok, ssLoop2, exs, e1, e2]
    exact e3
end K73
set_option Elab.async false
set_option linter.all false
set_option maxRecDepth 100000
set_option maxHeartbeats 4000000
namespace K73
open PySem PySem.Spec PyProof.Rows L2 Fx
def eL6 : E := (.lst (.cons (.tup (.cons (.p (.k (.int 2))) (.cons (.p (.k (.int 1))) .nil))) (.cons (.tup (.cons (.p (.k (.int 1))) (.cons (.p (.k (.int 2))) .nil))) (.cons (.tup (.cons (.p (.p1 .neg (.k (.int 1)))) (.cons (.p (.k (.int 1))) .nil))) (.cons (.tup (.cons (.p (.k (.int 3))) (.cons (.p (.k (.int 2))) .nil))) (.cons (.tup (.cons (.p (.p1 .neg (.k (.int 2)))) (.cons (.p (.k (.int 3))) .nil))) (.cons (.tup (.cons (.p (.k (.int 1))) (.cons (.p (.k (.int 1))) .nil))) .nil)))))))
def eL4 : E := (.lst (.cons (.tup (.cons (.p (.k (.int 2))) (.cons (.p (.k (.int 1))) .nil))) (.cons (.tup (.cons (.p (.k (.int 1))) (.cons (.p (.k (.int 2))) .nil))) (.cons (.tup (.cons (.p (.p1 .neg (.k (.int 1)))) (.cons (.p (.k (.int 1))) .nil))) (.cons (.tup (.cons (.p (.k (.int 3))) (.cons (.p (.k (.int 2))) .nil))) .nil)))))
def eR0 : E := (.tup (.cons (.p (.at 8)) (.cons (.tup (.cons (.p (.k (.int 0))) (.cons (.p (.k (.int 1))) .nil))) (.cons (.tup (.cons (.p (.k (.int 0))) (.cons (.p (.k (.int 1))) .nil))) (.cons (.call 16 none (.v (.tup (.cons (.p (.k (.int 1))) (.cons (.p (.k (.int 1))) .nil))) (.v (.p (.at 8)) .nil))) .nil)))))
def eR1 : E := (.ite (.c2 .eq (.p (.at 6)) (.p (.k (.int 0)))) (.tup (.cons (.p (.at 8)) (.cons (.call 10 none (.l 0 (.v (.p (.at 2)) .nil))) (.cons (.tup (.cons (.p (.k (.int 0))) (.cons (.p (.k (.int 1))) .nil))) (.cons (.call 16 none (.v (.tup (.cons (.p (.k (.int 1))) (.cons (.p (.k (.int 1))) .nil))) (.v (.p (.at 8)) .nil))) .nil))))) (.tup (.cons (.p (.at 8)) (.cons (.tup (.cons (.p (.k (.int 0))) (.cons (.p (.k (.int 1))) .nil))) (.cons (.call 10 none (.l 0 (.v (.p (.at 2)) .nil))) (.cons (.call 16 none (.v (.tup (.cons (.p (.k (.int 1))) (.cons (.p (.k (.int 1))) .nil))) (.v (.p (.at 8)) .nil))) .nil))))))
def sIf0 : S := .iff (.c2 .eq (.p (.at 5)) (.p (.k (.int 0)))) (.cons (.as (.nm 8) 0 (.call 10 none (.l 0 (.v eL6 .nil)))) (.cons (.ret eR0) .nil)) .nil
def sIf1 : S := .iff (.c2 .eq (.p (.at 5)) (.p (.k (.int 1)))) (.cons (.as (.nm 8) 0 (.call 10 none (.l 0 (.v eL4 .nil)))) (.cons (.ret eR1) .nil)) .nil
def sFor1 : S := .for (.nm 3) (.range (.cons (.p (.at 4)) .nil)) sApp
def sFor2 : S := .for (.nm 3) (.range (.cons (.p (.at 4)) .nil)) ssLoop2
def sRet : S := .ret (.call 19 none (.v (.p (.at 7)) .nil))
theorem b22_eq : b22 = .cons sParts (.cons sDraw2 (.cons sDraw3 (.cons sFor1 (.cons sIf0 (.cons sIf1 (.cons sFor2 (.cons sRet .nil))))))) := rfl
def Q6 : List Rat := [2, mkRat 1 2, -1, mkRat 3 2, mkRat (-2) 3, 1]
def Q4 : List Rat := [2, mkRat 1 2, -1, mkRat 3 2]
theorem eL6_ok (c : Orc) (env : EnvD) : ev c eL6 0 env = .ok (.list (Q6.map frac), env) := by
  have h : Q6.map frac = [.tuple [.int 2, .int 1], .tuple [.int 1, .int 2], .tuple [.int (-1), .int 1], .tuple [.int 3, .int 2], .tuple [.int (-2), .int 3], .tuple [.int 1, .int 1]] := by rfl
  rw [h]
  simp [eL6, ev_lst, ev_tup, evs, ev_p, evPk, evP, Fx.p1, isCont, r_of, r_ok]
theorem eL4_ok (c : Orc) (env : EnvD) : ev c eL4 0 env = .ok (.list (Q4.map frac), env) := by
  have h : Q4.map frac = [.tuple [.int 2, .int 1], .tuple [.int 1, .int 2], .tuple [.int (-1), .int 1], .tuple [.int 3, .int 2]] := by rfl
  rw [h]
  simp [eL4, ev_lst, ev_tup, evs, ev_p, evPk, evP, Fx.p1, isCont, r_of, r_ok]
theorem Q6_ok : ∀ q ∈ Q6, Sz 3 q ∧ Sz 3 (1 / q) ∧ q ≠ 0 ∧ q * (1 / q) = 1 := by decide +kernel
theorem Q4_ok : ∀ q ∈ Q4, Sz 3 q ∧ Sz 3 (1 / q) ∧ q ≠ 0 ∧ q * (1 / q) = 1 := by decide +kernel
theorem sz0 : Sz 3 0 := ⟨by decide, by decide⟩
def OkB (t : B4) : Prop := det t = 1 ∧ SzB 76 t
theorem if0_no (c : Orc) (b : Bag) (many sort i : Nat) (ws : List (Int × Rat)) (z : SV) (h : sort ≠ 0) : exS c 0 sIf0 (envW b many sort i ws z .un .un .un) = .ok (.nx (envW b many sort i ws z .un .un .un)) := by
  have h' : ¬ ((sort : Int) = 0) := by omega
  simp [sIf0, exS, exs, evT, opd2, opd, fin, lateE, isP, toP, finO, evPb, evP, slot, envW, sv0, isCont, g2, c2B, Fx.c2, ii, h, h', r_of, r_ok]
theorem if1_no (c : Orc) (b : Bag) (many sort i : Nat) (ws : List (Int × Rat)) (z : SV) (h : sort ≠ 1) : exS c 0 sIf1 (envW b many sort i ws z .un .un .un) = .ok (.nx (envW b many sort i ws z .un .un .un)) := by
  have h' : ¬ ((sort : Int) = 1) := by omega
  simp [sIf1, exS, exs, evT, opd2, opd, fin, lateE, isP, toP, finO, evPb, evP, slot, envW, sv0, isCont, g2, c2B, Fx.c2, ii, h, h', r_of, r_ok]
theorem if0_yes (m : Nat) (b : Bag) (hcl : b.cells ≠ []) (many i : Nat) (ws : List (Int × Rat)) (z : SV) : ∃ t b' r, OkB t ∧ b'.cells ≠ [] ∧ exS (prg.orc (m + 4)) 0 sIf0 (envW b many 0 i ws z .un .un .un) = .ok (.rt (fB t) (bagS b' :: sv0 (.int 999) :: r)) := by
  obtain ⟨q, hq, b', hb', e⟩ := pick_ev (m + 2) b Q6 (by decide) (by decide) hcl (envW b many 0 i ws z .un .un .un) eL6 rfl (eL6_ok _ _)
  obtain ⟨g1, g2, g3, g4⟩ := Q6_ok q hq
  have ho : callV (prg.orc (m + 4)) 16 [frac 1, frac q] = .ok (frac (1 / q)) := l_over (m + 1) (show Sz 400 1 from ⟨by decide, by decide⟩) (g1.le (by decide)) g3
  refine ⟨⟨q, 0, 0, 1 / q⟩, b', [sv0 partsD, z, sv0 (.int many), sv0 (.int 0), sv0 (.int i), .sv false 1 (wayD ws), sv0 (frac q), .un, .un], ⟨?_, g1.le (by decide), sz0.le (by decide), sz0.le (by decide), g2.le (by decide)⟩, hb', ?_⟩
  · unfold det; dsimp only; rw [g4]; decide +kernel
  · rw [show m + 2 + 2 = m + 4 from rfl] at e
    simp [envW, sv0] at e
    rw [show (frac 1) = .tuple [.int 1, .int 1] from rfl] at ho
    simp [sIf0, exS, exs, evT, opd2, opd, fin, lateE, isP, toP, finO, evPb, evP, slot, envW, sv0, isCont, Fx.g2, c2B, Fx.c2, ii, r_of, r_ok]
    rw [e]
    simp [r_of, r_ok, setS, bagS, eR0, ev_tup, evs, ev_p, evPk, evP, slot, ev_call_2, evR, isCont, frac_cont, ho, fB, frac0]
theorem if1_yes (m : Nat) (b : Bag) (hcl : b.cells ≠ []) (many i : Nat) (ws : List (Int × Rat)) (z : SV) : ∃ t b' r, OkB t ∧ b'.cells ≠ [] ∧ exS (prg.orc (m + 4)) 0 sIf1 (envW b many 1 i ws z .un .un .un) = .ok (.rt (fB t) (bagS b' :: sv0 (.int 999) :: r)) := by
  obtain ⟨q, hq, b1, hb1, e⟩ := pick_ev (m + 2) b Q4 (by decide) (by decide) hcl (envW b many 1 i ws z .un .un .un) eL4 rfl (eL4_ok _ _)
  obtain ⟨g1, g2, g3, g4⟩ := Q4_ok q hq
  have ho : callV (prg.orc (m + 4)) 16 [frac 1, frac q] = .ok (frac (1 / q)) := l_over (m + 1) (show Sz 400 1 from ⟨by decide, by decide⟩) (g1.le (by decide)) g3
  rw [show (frac 1) = .tuple [.int 1, .int 1] from rfl] at ho
  obtain ⟨p, hp, b', hb', e2⟩ := pick_ev (m + 2) b1 partsQ (by decide) (by decide) hb1 [bagS b1, sv0 (.int 999), sv0 partsD, z, sv0 (.int many), sv0 (.int 1), sv0 (.int i), .sv false 1 (wayD ws), sv0 (frac q), .un, .un] (.p (.at 2)) rfl (by simp [ev_p, evPk, evP, slot, sv0, partsD, isCont, r_of])
  have hp3 := parts_sz p hp
  rw [show m + 2 + 2 = m + 4 from rfl] at e e2
  simp [envW, sv0, bagS] at e e2
  by_cases hi : i = 0
  · subst hi
    simp at e e2
    refine ⟨⟨q, p, 0, 1 / q⟩, b', [sv0 partsD, z, sv0 (.int many), sv0 (.int 1), sv0 (.int 0), .sv false 1 (wayD ws), sv0 (frac q), .un, .un], ⟨?_, g1.le (by decide), hp3.le (by decide), sz0.le (by decide), g2.le (by decide)⟩, hb', ?_⟩
    · unfold det; dsimp only; rw [g4, Rat.mul_zero]; decide +kernel
    · simp [sIf1, exS, exs, evT, opd2, opd, fin, lateE, isP, toP, finO, evPb, evP, slot, envW, sv0, bagS, isCont, Fx.g2, c2B, Fx.c2, ii, r_of, r_ok]
      rw [e]
      simp [r_of, r_ok, setS, bagS, eR1, ev_ite, evT, opd2, opd, fin, lateE, isP, toP, finO, evPb, Fx.g2, c2B, Fx.c2, ii, ev_tup, evs, ev_p, evPk, evP, slot, ev_call_2, evR, isCont, frac_cont, e2, ho, fB, frac0]
  · have hi' : ¬ ((i : Int) = 0) := by omega
    refine ⟨⟨q, 0, p, 1 / q⟩, b', [sv0 partsD, z, sv0 (.int many), sv0 (.int 1), sv0 (.int i), .sv false 1 (wayD ws), sv0 (frac q), .un, .un], ⟨?_, g1.le (by decide), sz0.le (by decide), hp3.le (by decide), g2.le (by decide)⟩, hb', ?_⟩
    · unfold det; dsimp only; rw [g4, Rat.zero_mul]; decide +kernel
    · simp [sIf1, exS, exs, evT, opd2, opd, fin, lateE, isP, toP, finO, evPb, evP, slot, envW, sv0, bagS, isCont, Fx.g2, c2B, Fx.c2, ii, r_of, r_ok]
      rw [e]
      simp [r_of, r_ok, setS, bagS, eR1, ev_ite, evT, opd2, opd, fin, lateE, isP, toP, finO, evPb, Fx.g2, c2B, Fx.c2, ii, ev_tup, evs, ev_p, evPk, evP, slot, ev_call_2, evR, isCont, frac_cont, e2, ho, hi, hi', fB, frac0]
theorem for1_ok (m : Nat) (b1 : Bag) (c1 : b1.cells ≠ []) (many sort i : Nat) (hm : many < 5) : ∃ b' ws' z', b'.cells ≠ [] ∧ WOk ws' ∧ ws'.length ≤ 4 ∧ Free z' ∧ exS (prg.orc (m + 4)) 0 sFor1 (envW b1 many sort i [] .un .un .un .un) = .ok (.nx (envW b' many sort i ws' z' .un .un .un)) := by
  obtain ⟨b2, ws, z, c2, w2, l2, z2, e2⟩ := app_loop (m + 2) many sort i (List.range many) b1 [] .un c1 (fun w h => by cases h) (by rw [List.length_range]; simp; omega) (.inl rfl)
  exact ⟨b2, ws, z, c2, w2, l2, z2, (for_range1 (prg.orc (m + 4)) (by simp [evPk, evP, slot, envW, sv0, isCont]) (len_range many (by omega))).trans e2⟩
theorem for2_ok (m : Nat) (b : Bag) (many sort i : Nat) (hm : many < 5) (kw : Nat) (ws : List (Int × Rat)) (z z2 : SV) (h1 : WOk ws) (h2 : ws.length ≤ 4) (h3 : Free z) (h4 : Free z2) : ∃ kw' ws' z' z2', WOk ws' ∧ ws'.length ≤ 4 ∧ exS (prg.orc (m + 4)) 0 sFor2 (envX b many sort i kw ws z z2) = .ok (.nx (envX b many sort i kw' ws' z' z2')) := by
  obtain ⟨kw', ws', z', z2', w3, l3, e3⟩ := loop2 m b many sort i (List.range many) kw ws z z2 h1 h2 h3 h4
  exact ⟨kw', ws', z', z2', w3, l3, (for_range1 (prg.orc (m + 4)) (by simp [evPk, evP, slot, envX, sv0, isCont]) (len_range many (by omega))).trans e3⟩
theorem ret_ok (m : Nat) (b : Bag) (many sort i kw : Nat) (ws : List (Int × Rat)) (z z2 : SV) (h1 : WOk ws) (h2 : ws.length ≤ 4) : ∃ t r, OkB t ∧ exS (prg.orc (m + 4)) 0 sRet (envX b many sort i kw ws z z2) = .ok (.rt (fB t) (bagS b :: sv0 (.int 999) :: r)) := by
  obtain ⟨q1, q2, q3⟩ := good4 ws h1 h2
  have hb := block_ok m ws q1
  have hw : isCont (wayD ws) = true := rfl
  refine ⟨ws.foldl stepB one4, [sv0 partsD, z, sv0 (.int many), sv0 (.int sort), sv0 (.int i), .sv false 0 (wayD ws), .un, z2, .un], ⟨q3, q2⟩, ?_⟩
  by_cases hk : kw = 0
  · subst hk
    simp [sRet, exS, ev_call_1, evR, ev_p, evPk, evP, slot, envX, sv0, bagS, hb, r_of, r_ok]
  · simp [sRet, exS, ev_call_1, evR, ev_p, evPk, evP, slot, envX, sv0, bagS, hw, hk, hb, r_of, r_ok]
theorem all22 (m : Nat) (b : Bag) (hcl : b.cells ≠ []) : ∃ t b' r, OkB t ∧ b'.cells ≠ [] ∧ exs (prg.orc (m + 4)) 0 b22 [bagS b, sv0 (.int 999), .un, .un, .un, .un, .un, .un, .un, .un, .un] = .ok (.rt (fB t) (bagS b' :: sv0 (.int 999) :: r)) := by
  obtain ⟨many, sort, i, hm, _, _, b1, c1, e1⟩ := head_ok (m + 3) b hcl (.cons sFor1 (.cons sIf0 (.cons sIf1 (.cons sFor2 (.cons sRet .nil)))))
  obtain ⟨b2, ws, z, c2, w2, l2, z2, f1⟩ := for1_ok m b1 c1 many sort i hm
  have g0 : exs (prg.orc (m + 4)) 0 b22 [bagS b, sv0 (.int 999), .un, .un, .un, .un, .un, .un, .un, .un, .un] = exs (prg.orc (m + 4)) 0 (.cons sIf0 (.cons sIf1 (.cons sFor2 (.cons sRet .nil)))) (envW b2 many sort i ws z .un .un .un) := by
    rw [b22_eq]
    exact e1.trans (exs_nx f1)
  clear e1 f1
  by_cases h0 : sort = 0
  · subst h0
    obtain ⟨t, b', r, k1, k2, k3⟩ := if0_yes m b2 c2 many i ws z
    exact ⟨t, b', r, k1, k2, g0.trans (exs_rt k3)⟩
  · have g1 := g0.trans (exs_nx (if0_no _ b2 many sort i ws z h0))
    clear g0
    by_cases h1 : sort = 1
    · subst h1
      obtain ⟨t, b', r, k1, k2, k3⟩ := if1_yes m b2 c2 many i ws z
      exact ⟨t, b', r, k1, k2, g1.trans (exs_rt k3)⟩
    · have g2 := g1.trans (exs_nx (if1_no _ b2 many sort i ws z h1))
      clear g1
      obtain ⟨kw, ws', z', z2', w3, l3, f2⟩ := for2_ok m b2 many sort i hm 1 ws z .un w2 l2 z2 (.inl rfl)
      obtain ⟨t, r, k1, k2⟩ := ret_ok m b2 many sort i kw ws' z' z2' w3 l3
      exact ⟨t, b2, r, k1, c2, g2.trans ((exs_nx f2).trans (exs_rt k2))⟩
theorem drawn_ok (m : Nat) (b : Bag) (hcl : b.cells ≠ []) : ∃ t b', OkB t ∧ b'.cells ≠ [] ∧ (prg.orc (m + 5)).fn 22 [bagS b, sv0 (.int 999)] = .ok (fB t, [bagS b', sv0 (.int 999)]) := by
  obtain ⟨t, b', r, k1, k2, k3⟩ := all22 m b hcl
  refine ⟨t, b', k1, k2, ?_⟩
  rw [fn_eq (D := d22) rfl rfl]
  have e0 : [bagS b, sv0 (.int 999)] ++ List.replicate (d22.F.n - [bagS b, sv0 (.int 999)].length) SV.un = [bagS b, sv0 (.int 999), .un, .un, .un, .un, .un, .un, .un, .un, .un] := rfl
  rw [e0]
  have hd : d22.F.body = b22 := rfl
  have hf : finD (bagS b' :: sv0 (.int 999) :: r) d22.F.np = [bagS b', sv0 (.int 999)] := by
    rw [show d22.F.np = 2 from rfl]
    simp [finD]
  rw [hd, show d22.F.ret = 0 from rfl, k3, r_ok]
  dsimp only
  rw [hf]
end K73

set_option Elab.async false
set_option linter.all false
set_option maxRecDepth 100000
set_option maxHeartbeats 4000000
namespace K73
open PySem PySem.Spec PyProof.Rows L2 Fx
def absI (n : Int) : Int := if n < 0 then -n else n
def s8a : S := (.as (.nm 1) 0 (.b2 .add (.lc [3] (.nm 3) (.e (.p (.at 0))) .nil (.p (.p1 .abs (.p1 .int (.at 3))))) (.lst (.cons (.p (.k (.int 7))) .nil))))
def s8b : S := (.as (.nm 2) 1 (.lst .nil))
def s8c1 : S := (.as (.nm 2) 1 (.lc [3] (.nm 3) (.e (.p (.at 1))) (.cons (.c2 .ge (.p (.at 3)) (.b2 .pow (.p (.k (.int 10))) (.p (.k (.int 18))))) .nil) (.b2 .fdiv (.p (.at 3)) (.p (.k (.int 2))))))
def s8c : S := (.iff (.c2 .eq (.b2 .mod (.p (.p1 .int (.ix (.at 1) (.k (.int 0))))) (.p (.k (.int 2)))) (.p (.k (.int 0))))
 (.cons s8c1 (.cons (.ex (.mu .reverse 2 [] 0 .nil)) .nil))
 .nil)
def s8d : S := (.ret (.lst (.cons (.p (.k (.int 0))) (.cons (.p (.k (.int 0))) (.cons (.p (.at 2)) (.cons (.lc [3] (.nm 3) (.e (.p (.at 1))) .nil (.b2 .mod (.p (.p1 .int (.at 3))) (.p (.k (.int 2147483647))))) .nil))))))
theorem b8_eq : b8 = .cons s8a (.cons s8b (.cons s8c (.cons s8d .nil))) := rfl
theorem ok8a (c : Orc) (ns : List Int) (hl : ns.length ≤ 1000) : exS c 2 s8a [sv0 (.list (ns.map .int)), .un, .un, .un] = .ok (.nx [sv0 (.list (ns.map .int)), sv0 (.list ((ns.map absI ++ [7]).map .int)), .un, .un]) := by
  have e : ev c (.lc [3] (.nm 3) (.e (.p (.at 0))) .nil (.p (.p1 .abs (.p1 .int (.at 3))))) 0 [sv0 (.list (ns.map .int)), .un, .un, .un] = .ok (.list (ns.map fun n => .int (absI n)), [sv0 (.list (ns.map .int)), .un, .un, .un]) := by
    refine ev_lcMA ns .int _ (by simp [ownOk]) (by simp [evI, ev_p, evPk, evP, slot, sv0, isCont, itemsD, r_of, r_ok]) (by omega) ?_ (by simp [backD, wipeD])
    intro q _
    refine ⟨[sv0 (.list (ns.map .int)), .un, .un, sv0 (.int q)], [sv0 (.list (ns.map .int)), .un, .un, sv0 (.int q)], ?_, ?_, ?_⟩
    · simp [wipeD, bindT, setS, sv0]
    · simp [ev_p, evPk, evP, slot, sv0, isCont, Fx.p1, r_of, absI]
    · simp [wipeD]
  have hl' : ns.length + 1 ≤ 16777216 := by omega
  simp [s8a, exS, ev_b2, e, ev_lst, evs, ev_p, evPk, evP, opd2, opd, fin, lateE, isP, toP, finO, g2, Fx.b2, own1, isCont, setS, sv0, hl', r_of, r_ok]
theorem ok8c1 (c : Orc) (d0 : PyData) (cs : List Int) (hl : cs.length ≤ 10000) : ∃ gs : List Int, exS c 2 s8c1 [sv0 d0, sv0 (.list (cs.map .int)), .sv false 1 (.list []), .un] = .ok (.nx [sv0 d0, sv0 (.list (cs.map .int)), .sv false 1 (.list (gs.map .int)), .un]) := by
  refine ⟨(cs.filter fun x => decide ((10 : Int) ^ 18 ≤ x)).map fun x => x.fdiv 2, ?_⟩
  have e : ev c (.lc [3] (.nm 3) (.e (.p (.at 1))) (.cons (.c2 .ge (.p (.at 3)) (.b2 .pow (.p (.k (.int 10))) (.p (.k (.int 18))))) .nil) (.b2 .fdiv (.p (.at 3)) (.p (.k (.int 2))))) 1 [sv0 d0, sv0 (.list (cs.map .int)), .sv false 1 (.list []), .un] = .ok (.list ((cs.filter fun x => decide ((10 : Int) ^ 18 ≤ x)).map fun x => .int (x.fdiv 2)), [sv0 d0, sv0 (.list (cs.map .int)), .sv false 1 (.list []), .un]) := by
    refine ev_lcM cs _ .int _ (by simp [ownOk]) (by simp [evI, ev_p, evPk, evP, slot, sv0, isCont, itemsD, r_of, r_ok]) (by omega) ?_ (by simp [backD, wipeD])
    intro q _
    refine ⟨[sv0 d0, sv0 (.list (cs.map .int)), .sv false 1 (.list []), sv0 (.int q)], [sv0 d0, sv0 (.list (cs.map .int)), .sv false 1 (.list []), sv0 (.int q)], ?_, ?_, fun _ => rfl, fun _ => ⟨[sv0 d0, sv0 (.list (cs.map .int)), .sv false 1 (.list []), sv0 (.int q)], ?_, rfl⟩⟩
    · simp [wipeD, bindT, setS, sv0]
    · simp [evTs, evT, ev_b2, ev_p, evPk, evP, slot, sv0, isCont, opd2, opd, fin, lateE, isP, toP, finO, evPb, g2, c2B, Fx.c2, Fx.b2, ii, own1, r_of, r_ok]
      split <;> simp_all [r_ok, evTs]
    · have l2 : Nat.log2 2 < 9000 := by decide
      simp [ev_b2, ev_p, evPk, evP, slot, sv0, isCont, opd2, opd, fin, lateE, isP, toP, finO, evPb, g2, Fx.b2, l2, own1, r_of, r_ok]
  simp [s8c1, exS, e, setS, sv0, r_of, r_ok]
theorem ok8c (c : Orc) (d0 : PyData) (cs : List Int) (hc : cs ≠ []) (hl : cs.length ≤ 10000) : ∃ gs : List Int, exS c 2 s8c [sv0 d0, sv0 (.list (cs.map .int)), .sv false 1 (.list []), .un] = .ok (.nx [sv0 d0, sv0 (.list (cs.map .int)), .sv false 1 (.list (gs.map .int)), .un]) := by
  obtain ⟨gs, hg⟩ := ok8c1 c d0 cs hl
  have hx : ixD (.list (cs.map .int)) (.int 0) = some (.int (cs.head hc)) := by
    cases cs with
    | nil => exact absurd rfl hc
    | cons a as => simp [ixD, L2.atI, L2.ixN]
  have ht : ∃ x : Bool, evT c (.c2 .eq (.b2 .mod (.p (.p1 .int (.ix (.at 1) (.k (.int 0))))) (.p (.k (.int 2)))) (.p (.k (.int 0)))) [sv0 d0, sv0 (.list (cs.map .int)), .sv false 1 (.list []), .un] = .ok (x, [sv0 d0, sv0 (.list (cs.map .int)), .sv false 1 (.list []), .un]) := by
    refine ⟨decide ((cs.head hc).fmod 2 = 0), ?_⟩
    simp [evT, ev_b2, ev_p, evPk, evP, slot, sv0, hx, isCont, opd2, opd, fin, lateE, isP, toP, finO, evPb, g2, c2B, Fx.c2, Fx.b2, Fx.p1, ii, own1, r_of, r_ok]
  obtain ⟨x, ht⟩ := ht
  cases x with
  | false =>
    refine ⟨[], ?_⟩
    simp only [s8c, exS, ht, r_ok]
    simp [exs]
  | true =>
    refine ⟨gs.reverse, ?_⟩
    simp only [s8c, exS, ht, r_ok]
    simp only [if_true, exs, hg, r_ok]
    simp [exs, exS, ev_mu0, isListS, slot, evs, alterS, alterAt, alterD, pathR, muF, muD, isCont, sv0, r_of, r_ok]
theorem ok8d (c : Orc) (d0 : PyData) (cs gs : List Int) (hl : cs.length ≤ 10000) : ∃ e : EnvD, exS c 2 s8d [sv0 d0, sv0 (.list (cs.map .int)), .sv false 1 (.list (gs.map .int)), .un] = .ok (.rt (bagD ⟨0, 0, gs, cs.map fun x => x.fmod 2147483647⟩) e) := by
  have e : ev c (.lc [3] (.nm 3) (.e (.p (.at 1))) .nil (.b2 .mod (.p (.p1 .int (.at 3))) (.p (.k (.int 2147483647))))) 1 [sv0 d0, sv0 (.list (cs.map .int)), .un, .un] = .ok (.list (cs.map fun x => .int (x.fmod 2147483647)), [sv0 d0, sv0 (.list (cs.map .int)), .un, .un]) := by
    refine ev_lcMA cs .int _ (by simp [ownOk]) (by simp [evI, ev_p, evPk, evP, slot, sv0, isCont, itemsD, r_of, r_ok]) (by omega) ?_ (by simp [backD, wipeD])
    intro q _
    refine ⟨[sv0 d0, sv0 (.list (cs.map .int)), .un, sv0 (.int q)], [sv0 d0, sv0 (.list (cs.map .int)), .un, sv0 (.int q)], ?_, ?_, ?_⟩
    · simp [wipeD, bindT, setS, sv0]
    · simp [ev_b2, ev_p, evPk, evP, slot, sv0, isCont, opd2, opd, fin, lateE, isP, toP, finO, evPb, g2, Fx.b2, Fx.p1, own1, r_of, r_ok]
    · simp [wipeD]
  simp only [sv0] at e
  refine ⟨[sv0 d0, sv0 (.list (cs.map .int)), .un, .un], ?_⟩
  simp [s8d, exS, ev_lst, evs, ev_p, evPk, evP, slot, sv0, isCont, e, bagD, r_of, r_ok]
theorem bag_ok (m : Nat) (ns : List Int) (hl : ns.length ≤ 1000) : ∃ b : Bag, b.cells ≠ [] ∧ ∃ r, (prg.orc (m + 1)).fn 8 [sv0 (.list (ns.map .int))] = .ok (bagD b, r) := by
  have a1 := ok8a (prg.orc m) ns hl
  have hne : ns.map absI ++ [7] ≠ [] := by simp
  have hll : (ns.map absI ++ [7]).length ≤ 10000 := by simp; omega
  obtain ⟨gs, a3⟩ := ok8c (prg.orc m) (.list (ns.map .int)) (ns.map absI ++ [7]) hne hll
  obtain ⟨e, a4⟩ := ok8d (prg.orc m) (.list (ns.map .int)) (ns.map absI ++ [7]) gs hll
  have a2 : exS (prg.orc m) 2 s8b [sv0 (.list (ns.map .int)), sv0 (.list ((ns.map absI ++ [7]).map .int)), .un, .un] = .ok (.nx [sv0 (.list (ns.map .int)), sv0 (.list ((ns.map absI ++ [7]).map .int)), .sv false 1 (.list []), .un]) := by
    simp [s8b, exS, ev_lst, evs, setS, sv0, r_of, r_ok]
  have g : exs (prg.orc m) 2 b8 [sv0 (.list (ns.map .int)), .un, .un, .un] = .ok (.rt (bagD ⟨0, 0, gs, (ns.map absI ++ [7]).map fun (x : Int) => x.fmod 2147483647⟩) e) := by
    rw [b8_eq]
    exact (exs_nx a1).trans ((exs_nx a2).trans ((exs_nx a3).trans (exs_rt a4)))
  refine ⟨⟨0, 0, gs, (ns.map absI ++ [7]).map fun (x : Int) => x.fmod 2147483647⟩, by simp, finD e 1, ?_⟩
  rw [fn_eq (D := d8) rfl rfl]
  have e0 : [sv0 (.list (ns.map .int))] ++ List.replicate (d8.F.n - [sv0 (.list (ns.map .int))].length) SV.un = [sv0 (.list (ns.map .int)), .un, .un, .un] := rfl
  rw [e0, show d8.F.body = b8 from rfl, show d8.F.ret = 2 from rfl, g, r_ok]
  rfl
end K73
set_option Elab.async false
set_option linter.all false
set_option maxRecDepth 100000
set_option maxHeartbeats 4000000
namespace K73
open PySem PySem.Spec PyProof.Rows L2 Fx
/-- what the law asks of a way -/
def WayOk (t : B4) (n : Int) (w : List (Int × Rat)) : Prop := Good one4 w ∧ w.foldl stepB one4 = t ∧ (w.length : Int) = n ∧ ∀ p ∈ w, p.2 ≠ 0
theorem B4.ext' {s t : B4} (ha : s.a = t.a) (hb : s.b = t.b) (hc : s.c = t.c) (hd : s.d = t.d) : s = t := by
  cases s; cases t; simp_all
theorem one_sz : SzB 190 one4 := ⟨by decide, by decide, by decide, by decide⟩
theorem sz1 : Sz 1 1 := ⟨by decide, by decide⟩
theorem st0 (t : B4) (x : Rat) : stepB t (0, x) = ⟨t.a + x * t.c, t.b + x * t.d, t.c, t.d⟩ := by unfold stepB; rw [if_pos rfl]
theorem st1 (t : B4) (x : Rat) : stepB t (1, x) = ⟨t.a, t.b, t.c + x * t.a, t.d + x * t.b⟩ := by unfold stepB; rw [if_neg (by simp)]
theorem way_0 (t : B4) (x : Rat) (hx : Sz 76 x) (h0 : x ≠ 0) (e : t = ⟨1, x, 0, 1⟩) : WayOk t 1 [(0, x)] := by
  refine ⟨⟨one_sz, hx.le (by decide), trivial⟩, ?_, rfl, by simpa using h0⟩
  rw [List.foldl_cons, st0, e]
  exact B4.ext' (by simp [one4, Rat.add_zero, Rat.zero_add]) (by simp [one4, Rat.add_zero, Rat.zero_add]) rfl rfl
theorem way_1 (t : B4) (x : Rat) (hx : Sz 76 x) (h0 : x ≠ 0) (e : t = ⟨1, 0, x, 1⟩) : WayOk t 1 [(1, x)] := by
  refine ⟨⟨one_sz, hx.le (by decide), trivial⟩, ?_, rfl, by simpa using h0⟩
  rw [List.foldl_cons, st1, e]
  exact B4.ext' rfl rfl (by simp [one4, Rat.add_zero, Rat.zero_add]) (by simp [one4, Rat.add_zero, Rat.zero_add])
theorem way_01 (t : B4) (x y : Rat) (hx : Sz 76 x) (hy : Sz 76 y) (h0 : x ≠ 0) (h1 : y ≠ 0) (e : t = ⟨1, x, y, 1 + y * x⟩) : WayOk t 2 [(0, x), (1, y)] := by
  have e1 : stepB one4 (0, x) = ⟨1, x, 0, 1⟩ := by rw [st0]; exact B4.ext' (by simp [one4, Rat.add_zero, Rat.zero_add]) (by simp [one4, Rat.add_zero, Rat.zero_add]) rfl rfl
  have s1 : Sz 190 1 := ⟨by decide, by decide⟩
  have s0 : Sz 190 0 := ⟨by decide, by decide⟩
  refine ⟨⟨one_sz, hx.le (by decide), ?_, hy.le (by decide), trivial⟩, ?_, rfl, by simp [h0, h1]⟩
  · rw [e1]; exact ⟨s1, hx.le (by decide), s0, s1⟩
  · rw [List.foldl_cons, List.foldl_cons, e1, st1, e]
    exact B4.ext' rfl rfl (by simp [Rat.zero_add]) rfl
theorem way_10 (t : B4) (x y : Rat) (hx : Sz 76 x) (hy : Sz 76 y) (h0 : x ≠ 0) (h1 : y ≠ 0) (e : t = ⟨1 + x * y, x, y, 1⟩) : WayOk t 2 [(1, y), (0, x)] := by
  have e1 : stepB one4 (1, y) = ⟨1, 0, y, 1⟩ := by rw [st1]; exact B4.ext' rfl rfl (by simp [one4, Rat.add_zero, Rat.zero_add]) (by simp [one4, Rat.add_zero, Rat.zero_add])
  have s1 : Sz 190 1 := ⟨by decide, by decide⟩
  have s0 : Sz 190 0 := ⟨by decide, by decide⟩
  refine ⟨⟨one_sz, hy.le (by decide), ?_, hx.le (by decide), trivial⟩, ?_, rfl, by simp [h0, h1]⟩
  · rw [e1]; exact ⟨s1, s0, hy.le (by decide), s1⟩
  · rw [List.foldl_cons, List.foldl_cons, e1, st0, e]
    exact B4.ext' rfl (by simp [Rat.zero_add]) rfl rfl
theorem way_010 (t : B4) (hd : det t = 1) (hs : SzB 76 t) (hc : t.c ≠ 0) (ha1 : t.a ≠ 1) (hd1 : t.d ≠ 1) : WayOk t 3 [(0, (t.d - 1) / t.c), (1, t.c), (0, (t.a - 1) / t.c)] := by
  obtain ⟨sa, sb, sc, sd⟩ := hs
  have s1 : Sz 190 1 := ⟨by decide, by decide⟩
  have s0 : Sz 190 0 := ⟨by decide, by decide⟩
  have x1 : Sz 160 ((t.d - 1) / t.c) := (div_sz hc (sub_sz sd sz1) sc).le (by decide)
  have y1 : Sz 160 ((t.a - 1) / t.c) := (div_sz hc (sub_sz sa sz1) sc).le (by decide)
  have e1 : stepB one4 (0, (t.d - 1) / t.c) = ⟨1, (t.d - 1) / t.c, 0, 1⟩ := by rw [st0]; exact B4.ext' (by simp [one4, Rat.add_zero, Rat.zero_add]) (by simp [one4, Rat.add_zero, Rat.zero_add]) rfl rfl
  have ed : 1 + t.c * ((t.d - 1) / t.c) = t.d := by
    rw [Rat.mul_comm, Rat.div_mul_cancel hc]; grind
  have e2 : stepB ⟨1, (t.d - 1) / t.c, 0, 1⟩ (1, t.c) = ⟨1, (t.d - 1) / t.c, t.c, t.d⟩ := by rw [st1]; exact B4.ext' rfl rfl (by simp [Rat.zero_add]) ed
  have ea : 1 + (t.a - 1) / t.c * t.c = t.a := by
    rw [Rat.div_mul_cancel hc]; grind
  have eb : (t.d - 1) / t.c + (t.a - 1) / t.c * t.d = t.b := by
    unfold det at hd
    have : ((t.d - 1) / t.c + (t.a - 1) / t.c * t.d) * t.c = t.b * t.c := by
      have q1 : (t.d - 1) / t.c * t.c = t.d - 1 := Rat.div_mul_cancel hc
      have q2 : (t.a - 1) / t.c * t.c = t.a - 1 := Rat.div_mul_cancel hc
      grind
    have := congrArg (· / t.c) this
    simpa [Rat.mul_div_cancel hc] using this
  have z : ∀ {x : Rat}, x ≠ 1 → (x - 1) / t.c ≠ 0 := fun {x} hx h => hx (by
    have : (x - 1) / t.c * t.c = 0 := by rw [h, Rat.zero_mul]
    rw [Rat.div_mul_cancel hc] at this
    grind)
  refine ⟨⟨one_sz, x1.le (by decide), ?_, sc.le (by decide), ?_, y1.le (by decide), trivial⟩, ?_, rfl, ?_⟩
  · rw [e1]; exact ⟨s1, x1.le (by decide), s0, s1⟩
  · rw [e1, e2]; exact ⟨s1, x1.le (by decide), sc.le (by decide), sd.le (by decide)⟩
  · rw [List.foldl_cons, List.foldl_cons, List.foldl_cons, e1, e2, st0]
    exact B4.ext' ea eb rfl rfl
  · intro p hp
    simp at hp
    rcases hp with rfl | rfl | rfl
    · exact z hd1
    · exact hc
    · exact z ha1
end K73
set_option Elab.async false
set_option linter.all false
set_option maxRecDepth 100000
set_option maxHeartbeats 4000000
namespace K73
open PySem PySem.Spec PyProof.Rows L2 Fx
theorem way_101 (t : B4) (hd : det t = 1) (hs : SzB 76 t) (hb : t.b ≠ 0) (ha1 : t.a ≠ 1) (hd1 : t.d ≠ 1) : WayOk t 3 [(1, (t.a - 1) / t.b), (0, t.b), (1, (t.d - 1) / t.b)] := by
  obtain ⟨sa, sb, sc, sd⟩ := hs
  have s1 : Sz 190 1 := ⟨by decide, by decide⟩
  have s0 : Sz 190 0 := ⟨by decide, by decide⟩
  have x1 : Sz 160 ((t.a - 1) / t.b) := (div_sz hb (sub_sz sa sz1) sb).le (by decide)
  have y1 : Sz 160 ((t.d - 1) / t.b) := (div_sz hb (sub_sz sd sz1) sb).le (by decide)
  have e1 : stepB one4 (1, (t.a - 1) / t.b) = ⟨1, 0, (t.a - 1) / t.b, 1⟩ := by rw [st1]; exact B4.ext' rfl rfl (by simp [one4, Rat.zero_add]) (by simp [one4, Rat.add_zero])
  have ed : 1 + t.b * ((t.a - 1) / t.b) = t.a := by
    rw [Rat.mul_comm, Rat.div_mul_cancel hb]; grind
  have e2 : stepB ⟨1, 0, (t.a - 1) / t.b, 1⟩ (0, t.b) = ⟨t.a, t.b, (t.a - 1) / t.b, 1⟩ := by rw [st0]; exact B4.ext' ed (by simp [Rat.zero_add]) rfl rfl
  have ea : 1 + (t.d - 1) / t.b * t.b = t.d := by
    rw [Rat.div_mul_cancel hb]; grind
  have eb : (t.a - 1) / t.b + (t.d - 1) / t.b * t.a = t.c := by
    unfold det at hd
    have : ((t.a - 1) / t.b + (t.d - 1) / t.b * t.a) * t.b = t.c * t.b := by
      have q1 : (t.d - 1) / t.b * t.b = t.d - 1 := Rat.div_mul_cancel hb
      have q2 : (t.a - 1) / t.b * t.b = t.a - 1 := Rat.div_mul_cancel hb
      grind
    have := congrArg (· / t.b) this
    simpa [Rat.mul_div_cancel hb] using this
  have z : ∀ {x : Rat}, x ≠ 1 → (x - 1) / t.b ≠ 0 := fun {x} hx h => hx (by
    have : (x - 1) / t.b * t.b = 0 := by rw [h, Rat.zero_mul]
    rw [Rat.div_mul_cancel hb] at this
    grind)
  refine ⟨⟨one_sz, x1.le (by decide), ?_, sb.le (by decide), ?_, y1.le (by decide), trivial⟩, ?_, rfl, ?_⟩
  · rw [e1]; exact ⟨s1, s0, x1.le (by decide), s1⟩
  · rw [e1, e2]; exact ⟨sa.le (by decide), sb.le (by decide), x1.le (by decide), s1⟩
  · rw [List.foldl_cons, List.foldl_cons, List.foldl_cons, e1, e2, st1]
    exact B4.ext' rfl rfl eb ea
  · intro p hp
    simp at hp
    rcases hp with rfl | rfl | rfl
    · exact z ha1
    · exact hb
    · exact z hd1
theorem ways_all (t : B4) (hd : det t = 1) (hs : SzB 76 t) : ∀ w ∈ (waysOf t).2, WayOk t (waysOf t).1 w := by
  have hd' := hd
  unfold det at hd'
  obtain ⟨sa, sb, sc, sd⟩ := hs
  unfold waysOf
  split
  · rename_i h1
    split
    · rename_i h2
      intro w hw
      simp at hw
      subst hw
      refine ⟨trivial, ?_, rfl, by simp⟩
      rw [h1.1, h2] at hd'
      exact B4.ext' h2.symm h1.1.symm h1.2.symm (by simp [one4]; grind)
    · intro w hw; cases hw
  · rename_i h1
    split
    · rename_i h2
      intro w hw
      simp at hw
      subst hw
      rw [h2.1, h2.2] at hd'
      exact way_0 t t.b sb (fun e => h1 ⟨e, h2.2⟩) (B4.ext' h2.1 rfl h2.2 (by grind))
    · rename_i h2
      split
      · rename_i h3
        intro w hw
        simp at hw
        subst hw
        rw [h3.1, h3.2] at hd'
        exact way_1 t t.c sc (fun e => h1 ⟨h3.2, e⟩) (B4.ext' h3.1 h3.2 rfl (by grind))
      · rename_i h3
        split
        · rename_i h4
          intro w hw
          simp at hw
          subst hw
          rw [h4] at hd'
          exact way_01 t t.b t.c sb sc (fun e => h3 ⟨h4, e⟩) (fun e => h2 ⟨h4, e⟩) (B4.ext' h4 rfl rfl (by grind))
        · rename_i h4
          split
          · rename_i h5
            intro w hw
            simp at hw
            subst hw
            rw [h5] at hd'
            exact way_10 t t.b t.c sb sc (fun e => h4 (by rw [e] at hd'; grind)) (fun e => h4 (by rw [e] at hd'; grind)) (B4.ext' (by grind) rfl rfl h5)
          · rename_i h5
            intro w hw
            unfold w3 at hw
            rcases List.mem_append.mp hw with h | h
            · split at h
              · cases h
              · rename_i h6
                simp at h; subst h
                exact way_010 t hd ⟨sa, sb, sc, sd⟩ h6 h4 h5
            · split at h
              · cases h
              · rename_i h6
                simp at h; subst h
                exact way_101 t hd ⟨sa, sb, sc, sd⟩ h6 h4 h5
theorem sort_way (w : List (Int × Rat)) : sortOk [chainD w] = true ∨ 3 < w.length := by
  rcases w with _ | ⟨p, _ | ⟨q, _ | ⟨r, _ | ⟨s, w⟩⟩⟩⟩
  · exact .inl (by decide +kernel)
  · left
    have h1 : (chainD [p]).depth ≤ 20 := by simp [chainD, PyData.depthAll, PyData.depth, stp, frac]
    have h2 : PySem.W.alike (chainD [p]) (chainD [p]) = true := by rfl
    obtain ⟨x, xs, e⟩ : ∃ x xs, chainD [p] = .tuple (x :: xs) := ⟨_, _, rfl⟩
    generalize chainD [p] = d at *
    subst e
    simp [sortOk, alikeOk, h2, PyData.depthAll]
    omega
  · left
    have h1 : (chainD [p, q]).depth ≤ 20 := by simp [chainD, PyData.depthAll, PyData.depth, stp, frac]
    have h2 : PySem.W.alike (chainD [p, q]) (chainD [p, q]) = true := by rfl
    obtain ⟨x, xs, e⟩ : ∃ x xs, chainD [p, q] = .tuple (x :: xs) := ⟨_, _, rfl⟩
    generalize chainD [p, q] = d at *
    subst e
    simp [sortOk, alikeOk, h2, PyData.depthAll]
    omega
  · left; exact sort1 p.1 q.1 r.1 p.2 q.2 r.2
  · right; simp
theorem sort_ways (t : B4) : sortOk ((waysOf t).2.map chainD) = true := by
  have one : ∀ w : List (Int × Rat), w.length ≤ 3 → sortOk ([w].map chainD) = true := fun w hw => by
    rcases sort_way w with h | h
    · exact h
    · omega
  have no : sortOk (([] : List (List (Int × Rat))).map chainD) = true := by decide +kernel
  unfold waysOf
  split
  · split
    · exact one _ (by simp)
    · exact no
  · split
    · exact one _ (by simp)
    · split
      · exact one _ (by simp)
      · split
        · exact one _ (by simp)
        · split
          · exact one _ (by simp)
          · unfold w3
            by_cases hc : t.c = 0
            · by_cases hb : t.b = 0
              · rw [if_pos hc, if_pos hb]; exact no
              · rw [if_pos hc, if_neg hb]; exact one _ (by simp)
            · by_cases hb : t.b = 0
              · rw [if_neg hc, if_pos hb]; exact one _ (by simp)
              · rw [if_neg hc, if_neg hb]; exact sort2 ..
end K73
set_option Elab.async false
set_option linter.all false
set_option maxRecDepth 100000
set_option maxHeartbeats 4000000
namespace K73
open PySem PySem.Spec PyProof.Rows L2 Fx
def tWay : Tt := (.or (.c2 .ne (.call 19 none (.v (.p (.at 4)) .nil)) (.p (.at 3))) (.or (.c2 .ne (.p (.p1 .len (.at 4))) (.p (.at 7))) (.c2 .gt (.bi .len (.cons (.lc [9, 10] (.tp (.cons (.nm 9) (.cons (.nm 10) .nil))) (.e (.p (.at 4))) (.cons (.c2 .eq (.p (.ix (.at 10) (.k (.int 0)))) (.p (.k (.int 0)))) .nil) (.p (.at 10))) .nil)) (.p (.k (.int 0))))))
def sNo (t : Tt) : S := .iff t (.cons (.ret (.p (.k (.bool false)))) .nil) .nil
def u1 : S := (.as (.nm 3) 0 (.call 22 none (.l 1 (.v (.p (.k (.int 999))) .nil))))
def u2 : S := (.as (.tp (.cons (.nm 7) (.cons (.nm 8) .nil))) 0 (.call 20 none (.v (.p (.at 3)) .nil)))
def u3 : S := (.for (.nm 4) (.e (.p (.at 8))) (.cons (sNo tWay) .nil))
def u4 : S := (.as (.nm 5) 0 (.call 21 none (.v (.p (.at 3)) .nil)))
def u5 : S := (.as (.nm 6) 0 (.ite (.c2 .gt (.p (.at 2)) (.p (.k (.int 0)))) (.call 7 none (.v (.p (.at 5)) .nil)) (.call 7 (some [0]) (.v (.p (.at 5)) .nil))))
def eDue : E := (.tup (.cons (.p (.at 7)) (.cons (.bi .tuple (.cons (.bi .sorted (.cons (.lc [4] (.nm 4) (.e (.p (.at 8))) .nil (.call 18 none (.v (.p (.at 4)) .nil))) .nil)) .nil)) .nil)))
def u6 : S := sNo (.not (.v (.call 11 none (.v (.p (.at 6)) (.v eDue .nil)))))
def ssU : Ss := .cons u1 (.cons u2 (.cons u3 (.cons u4 (.cons u5 (.cons u6 .nil)))))
theorem b23_eq : b23 = .cons (.as (.nm 1) 2 (.call 8 none (.v (.p (.at 0)) .nil))) (.cons (.for (.nm 2) (.range (.cons (.p (.k (.int 6))) .nil)) ssU) (.cons (.ret (.p (.k (.bool true)))) .nil)) := rfl
theorem no_false {c : Orc} {rk : Nat} {t : Tt} {e e' : EnvD} (h : evT c t e = .ok (false, e')) : exS c rk (sNo t) e = .ok (.nx e') := by
  simp [sNo, exS, h, r_ok, exs]
def envL (d0 : PyData) (b : Bag) (s2 s3 s4 s5 s6 s7 s8 : SV) : EnvD := [sv0 d0, .sv false 2 (bagD b), s2, s3, s4, s5, s6, s7, s8, .un, .un]
theorem fB_ok (t : B4) : eqOk (fB t) = true := by
  simp [eqOk, fB, frac, SeqAt.shaped, PyData.canLay0, PyData.canLayAll0, PyData.plain, PyData.plainAll, PyData.depth, PyData.depthAll]
theorem fB_eqv (t : B4) : PyData.eqv (fB t) (fB t) = true := by
  simp [fB, frac, PyData.eqv, PyData.eqvAll]
theorem fB_ne (t : B4) : Fx.c2 .ne (fB t) (fB t) = some false := by
  have h : Fx.c2 .ne (fB t) (fB t) = if eqOk (fB t) = true ∧ eqOk (fB t) = true then some (!PyData.eqv (fB t) (fB t)) else none := rfl
  rw [h, if_pos ⟨fB_ok t, fB_ok t⟩, fB_eqv]; rfl
theorem way_turn (m : Nat) (d0 : PyData) (b : Bag) (s2 s5 s6 : SV) (s8 : SV) (t : B4) (n : Int) (w : List (Int × Rat)) (hl : w.length ≤ 1000) (hw : WayOk t n w) : evT (prg.orc (m + 4)) tWay (envL d0 b s2 (sv0 (fB t)) (sv0 (wayD w)) s5 s6 (sv0 (.int n)) s8) = .ok (false, envL d0 b s2 (sv0 (fB t)) (sv0 (wayD w)) s5 s6 (sv0 (.int n)) s8) := by
  obtain ⟨h1, h2, h3, h4⟩ := hw
  have e1 := block_ok m w h1
  rw [h2] at e1
  have hc : isCont (fB t) = false := rfl
  have hn := fB_ne t
  have e2 : ev (prg.orc (m + 4)) (.lc [9, 10] (.tp (.cons (.nm 9) (.cons (.nm 10) .nil))) (.e (.p (.at 4))) (.cons (.c2 .eq (.p (.ix (.at 10) (.k (.int 0)))) (.p (.k (.int 0)))) .nil) (.p (.at 10))) 0 (envL d0 b s2 (sv0 (fB t)) (sv0 (wayD w)) s5 s6 (sv0 (.int n)) s8) = .ok (.list ((w.filter fun p => decide (p.2.num = 0)).map fun p => frac p.2), envL d0 b s2 (sv0 (fB t)) (sv0 (wayD w)) s5 s6 (sv0 (.int n)) s8) := by
    refine ev_lcM w _ wayI _ (by simp [ownOk, envL]) (by simp [evI, ev_p, evPk, evP, slot, envL, sv0, wayD, isCont, itemsD, r_of, r_ok]) (by omega) ?_ (by simp [backD, wipeD, envL])
    intro p _
    refine ⟨[sv0 d0, .sv false 2 (bagD b), s2, sv0 (fB t), sv0 (wayD w), s5, s6, sv0 (.int n), s8, sv0 (.int p.1), sv0 (frac p.2)], [sv0 d0, .sv false 2 (bagD b), s2, sv0 (fB t), sv0 (wayD w), s5, s6, sv0 (.int n), s8, sv0 (.int p.1), sv0 (frac p.2)], ?_, ?_, fun _ => rfl, fun _ => ⟨[sv0 d0, .sv false 2 (bagD b), s2, sv0 (fB t), sv0 (wayD w), s5, s6, sv0 (.int n), s8, sv0 (.int p.1), sv0 (frac p.2)], ?_, rfl⟩⟩
    · simp [wipeD, bindT, bindTs, wayI, setS, sv0, envL]
    · have hx : ixD (frac p.2) (.int 0) = some (.int p.2.num) := by simp [ixD, frac, L2.atI, L2.ixN]
      simp [evTs, evT, ev_p, evPk, evP, slot, sv0, hx, frac_cont, isCont, opd2, opd, fin, lateE, isP, toP, finO, evPb, Fx.g2, c2B, Fx.c2, ii, r_of, r_ok]
      split <;> simp_all [r_ok, evTs]
    · simp [ev_p, evPk, evP, slot, sv0, frac_cont, r_of]
  have hf : (w.filter fun p => decide (p.2.num = 0)) = [] := by
    rw [List.filter_eq_nil_iff]
    intro p hp h
    exact h4 p hp (Rat.num_eq_zero.mp (of_decide_eq_true h))
  rw [hf, List.map_nil] at e2
  have hi : Fx.c2 .ne (.int (w.length : Int)) (.int n) = some false := by rw [h3]; simp [Fx.c2, ii]
  have hx : Fx.p1 .len (wayD w) = some (.int (w.length : Int)) := by simp [wayD, Fx.p1]
  simp only [envL, sv0] at e2 ⊢
  unfold tWay
  simp only [evT]
  simp [ev_call_1, evR, ev_p, evPk, evP, slot, ev_bi, evA, allP, e1, e2, hc, hn, hi, hx, Fx.bi, isCont, opd2, opd, fin, lateE, isP, toP, finO, evPb, g1, Fx.g2, c2B, own1, r_of, r_ok]
  simp [Fx.c2, Fx.p1, ii, own1, isCont, finO, evPb, evP, Fx.g2, c2B, r_of, r_ok]
theorem ways_loop (m : Nat) (d0 : PyData) (b : Bag) (s2 s5 s6 : SV) (s8 : SV) (t : B4) (n : Int) : ∀ (ws : List (List (Int × Rat))) (s4 : SV), Free s4 → (∀ w ∈ ws, w.length ≤ 1000 ∧ WayOk t n w) → (s4 = .un ∨ ∃ d, s4 = sv0 d) → ∃ s4', (s4' = .un ∨ ∃ d, s4' = sv0 d) ∧ forL (bindT (.nm 4)) (exs (prg.orc (m + 4)) 0 (.cons (sNo tWay) .nil)) (ws.map wayD) (envL d0 b s2 (sv0 (fB t)) s4 s5 s6 (sv0 (.int n)) s8) = .ok (.nx (envL d0 b s2 (sv0 (fB t)) s4' s5 s6 (sv0 (.int n)) s8))
  | [], s4, h, _, h' => ⟨s4, h', rfl⟩
  | w :: ws, s4, h, hw, _ => by
    obtain ⟨s4', h1, h2⟩ := ways_loop m d0 b s2 s5 s6 s8 t n ws (sv0 (wayD w)) (.inr ⟨_, _, rfl⟩) (fun x hx => hw x (List.mem_cons_of_mem _ hx)) (.inr ⟨_, rfl⟩)
    obtain ⟨g1, g2⟩ := hw w (List.mem_cons_self ..)
    have e := no_false (rk := 0) (way_turn m d0 b s2 s5 s6 s8 t n w g1 g2)
    have e' : exs (prg.orc (m + 4)) 0 (.cons (sNo tWay) .nil) (envL d0 b s2 (sv0 (fB t)) (sv0 (wayD w)) s5 s6 (sv0 (.int n)) s8) = .ok (.nx (envL d0 b s2 (sv0 (fB t)) (sv0 (wayD w)) s5 s6 (sv0 (.int n)) s8)) := by
      rw [exs_nx e]; simp only [exs]
    refine ⟨s4', h1, ?_⟩
    have hb : bindT (.nm 4) (wayD w) (envL d0 b s2 (sv0 (fB t)) s4 s5 s6 (sv0 (.int n)) s8) = some (envL d0 b s2 (sv0 (fB t)) (sv0 (wayD w)) s5 s6 (sv0 (.int n)) s8) := setS_free (i := 4) (s := s4) rfl h
    rw [List.map_cons]
    simp only [forL, hb, r_of, r_ok, e']
    exact h2
theorem due_ok (m : Nat) (d0 : PyData) (b : Bag) (s2 s3 s4 s5 s6 : SV) (t : B4) (h4 : s4 = .un ∨ ∃ d, s4 = sv0 d) : ev (prg.orc (m + 1)) eDue 0 (envL d0 b s2 s3 s4 s5 s6 (sv0 (.int (waysOf t).1)) (sv0 (.list ((waysOf t).2.map wayD)))) = .ok (dueD t, envL d0 b s2 s3 s4 s5 s6 (sv0 (.int (waysOf t).1)) (sv0 (.list ((waysOf t).2.map wayD)))) := by
  have hl := ways_len t
  have e : ev (prg.orc (m + 1)) (.lc [4] (.nm 4) (.e (.p (.at 8))) .nil (.call 18 none (.v (.p (.at 4)) .nil))) 0 (envL d0 b s2 s3 s4 s5 s6 (sv0 (.int (waysOf t).1)) (sv0 (.list ((waysOf t).2.map wayD)))) = .ok (.list ((waysOf t).2.map chainD), envL d0 b s2 s3 s4 s5 s6 (sv0 (.int (waysOf t).1)) (sv0 (.list ((waysOf t).2.map wayD)))) := by
    refine ev_lcMA (waysOf t).2 wayD _ (by rcases h4 with rfl | ⟨d, rfl⟩ <;> simp [ownOk, envL, sv0]) (by simp [evI, ev_p, evPk, evP, slot, envL, sv0, isCont, itemsD, r_of, r_ok]) (by omega) ?_ (by simp [backD, wipeD, envL])
    intro w hw
    have hc := chain_ok m w (Nat.le_trans (hl.2 w hw) (by decide))
    refine ⟨envL d0 b s2 s3 (sv0 (wayD w)) s5 s6 (sv0 (.int (waysOf t).1)) (sv0 (.list ((waysOf t).2.map wayD))), envL d0 b s2 s3 (sv0 (wayD w)) s5 s6 (sv0 (.int (waysOf t).1)) (sv0 (.list ((waysOf t).2.map wayD))), ?_, ?_, ?_⟩
    · simp [wipeD, bindT, setS, envL, sv0]
    · simp [ev_call_1, evR, ev_p, evPk, evP, slot, envL, sv0, hc, r_of, r_ok]
    · simp [wipeD, envL]
  have hs := sort_ways t
  unfold dueD
  generalize waysOf t = W at *
  simp only [envL, sv0] at e ⊢
  have hl2 : (sortD (W.2.map chainD)).length ≤ 16777216 := by
    unfold sortD
    rw [List.length_mergeSort, List.length_map]
    omega
  simp [eDue, ev_tup, evs, ev_p, evPk, evP, slot, ev_bi, evA, allP, e, opd, fin, lateE, isP, toP, finO, g1, Fx.bi, sortedD, tupD, hs, own1, isCont, r_of, r_ok]
theorem u1_ok (m : Nat) (d0 : PyData) (b : Bag) (hcl : b.cells ≠ []) (s2 s3 s4 s5 s6 s7 s8 : SV) (h3 : Free s3) : ∃ t b', OkB t ∧ b'.cells ≠ [] ∧ exS (prg.orc (m + 5)) 0 u1 (envL d0 b s2 s3 s4 s5 s6 s7 s8) = .ok (.nx (envL d0 b' s2 (sv0 (fB t)) s4 s5 s6 s7 s8)) := by
  obtain ⟨t, b', k1, k2, k3⟩ := drawn_ok m b hcl
  refine ⟨t, b', k1, k2, ?_⟩
  have e : ev (prg.orc (m + 5)) (.call 22 none (.l 1 (.v (.p (.k (.int 999))) .nil))) 0 (envL d0 b s2 s3 s4 s5 s6 s7 s8) = .ok (fB t, envL d0 b' s2 s3 s4 s5 s6 s7 s8) :=
    ev_callL1 (i := 1) (l := false) (k := 2) (d := bagD b) rfl (by simp [ev_p, evPk, evP, isCont, r_of]) k3
  exact as_ok e (s := s3) rfl h3
theorem u2_ok (m : Nat) (d0 : PyData) (b : Bag) (s2 s4 s5 s6 s7 s8 : SV) (t : B4) (ht : OkB t) (h7 : Free s7) (h8 : Free s8) : exS (prg.orc (m + 4)) 0 u2 (envL d0 b s2 (sv0 (fB t)) s4 s5 s6 s7 s8) = .ok (.nx (envL d0 b s2 (sv0 (fB t)) s4 s5 s6 (sv0 (.int (waysOf t).1)) (sv0 (.list ((waysOf t).2.map wayD))))) := by
  have hw := ways_ok m t ht.1 (ht.2.le (by decide))
  have e : ev (prg.orc (m + 4)) (.call 20 none (.v (.p (.at 3)) .nil)) 0 (envL d0 b s2 (sv0 (fB t)) s4 s5 s6 s7 s8) = .ok (waysD t, envL d0 b s2 (sv0 (fB t)) s4 s5 s6 s7 s8) := by
    simp [ev_call_1, evR, ev_p, evPk, evP, slot, envL, sv0, hw, r_of, r_ok]
  have hb : bindT (.tp (.cons (.nm 7) (.cons (.nm 8) .nil))) (waysD t) (envL d0 b s2 (sv0 (fB t)) s4 s5 s6 s7 s8) = some (envL d0 b s2 (sv0 (fB t)) s4 s5 s6 (sv0 (.int (waysOf t).1)) (sv0 (.list ((waysOf t).2.map wayD)))) :=
    bindT2 (i := 7) (j := 8) (s := s7) (s' := s8) rfl h7 rfl h8
  simp only [u2, exS, e, r_ok, hb, r_of]
theorem u3_ok (m : Nat) (d0 : PyData) (b : Bag) (s2 s4 s5 s6 : SV) (t : B4) (ht : OkB t) (h4 : s4 = .un ∨ ∃ d, s4 = sv0 d) : ∃ s4', (s4' = .un ∨ ∃ d, s4' = sv0 d) ∧ exS (prg.orc (m + 4)) 0 u3 (envL d0 b s2 (sv0 (fB t)) s4 s5 s6 (sv0 (.int (waysOf t).1)) (sv0 (.list ((waysOf t).2.map wayD)))) = .ok (.nx (envL d0 b s2 (sv0 (fB t)) s4' s5 s6 (sv0 (.int (waysOf t).1)) (sv0 (.list ((waysOf t).2.map wayD))))) := by
  have hl := ways_len t
  have ha := ways_all t ht.1 ht.2
  have hf : Free s4 := by rcases h4 with h | ⟨d, h⟩; exact .inl h; exact .inr ⟨_, _, h⟩
  obtain ⟨s4', h1, h2⟩ := ways_loop m d0 b s2 s5 s6 (sv0 (.list ((waysOf t).2.map wayD))) t (waysOf t).1 (waysOf t).2 s4 hf (fun w hw => ⟨Nat.le_trans (hl.2 w hw) (by decide), ha w hw⟩) h4
  refine ⟨s4', h1, ?_⟩
  have hi : evI (prg.orc (m + 4)) (.e (.p (.at 8))) (envL d0 b s2 (sv0 (fB t)) s4 s5 s6 (sv0 (.int (waysOf t).1)) (sv0 (.list ((waysOf t).2.map wayD)))) = .ok ((waysOf t).2.map wayD, envL d0 b s2 (sv0 (fB t)) s4 s5 s6 (sv0 (.int (waysOf t).1)) (sv0 (.list ((waysOf t).2.map wayD)))) := by
    simp [evI, ev_p, evPk, evP, slot, envL, sv0, isCont, itemsD, r_of, r_ok]
  simp only [u3, exS, hi, r_ok]
  exact h2
theorem u4_ok (m : Nat) (d0 : PyData) (b : Bag) (s2 s4 s5 s6 s7 s8 : SV) (t : B4) (h5 : Free s5) : exS (prg.orc (m + 1)) 0 u4 (envL d0 b s2 (sv0 (fB t)) s4 s5 s6 s7 s8) = .ok (.nx (envL d0 b s2 (sv0 (fB t)) s4 (sv0 (tabD t)) s6 s7 s8)) := by
  have hw := table_ok m t
  have e : ev (prg.orc (m + 1)) (.call 21 none (.v (.p (.at 3)) .nil)) 0 (envL d0 b s2 (sv0 (fB t)) s4 s5 s6 s7 s8) = .ok (tabD t, envL d0 b s2 (sv0 (fB t)) s4 s5 s6 s7 s8) := by
    simp [ev_call_1, evR, ev_p, evPk, evP, slot, envL, sv0, hw, r_of, r_ok]
  exact as_ok e (s := s5) rfl h5
theorem u5_ok (m : Nat) (d0 : PyData) (b : Bag) (k : Nat) (s3 s4 s6 s7 s8 : SV) (t : B4) (ht : OkB t) (h6 : Free s6) : exS (prg.orc (m + 5)) 0 u5 (envL d0 b (sv0 (.int k)) s3 s4 (sv0 (tabD t)) s6 s7 s8) = .ok (.nx (envL d0 b (sv0 (.int k)) s3 s4 (sv0 (tabD t)) (sv0 (dueD t)) s7 s8)) := by
  have hw := shortest_ok m t ht.1 (ht.2.le (by decide))
  have hc : isCont (tabD t) = false := rfl
  have e : ev (prg.orc (m + 5)) (.ite (.c2 .gt (.p (.at 2)) (.p (.k (.int 0)))) (.call 7 none (.v (.p (.at 5)) .nil)) (.call 7 (some [0]) (.v (.p (.at 5)) .nil))) 0 (envL d0 b (sv0 (.int k)) s3 s4 (sv0 (tabD t)) s6 s7 s8) = .ok (dueD t, envL d0 b (sv0 (.int k)) s3 s4 (sv0 (tabD t)) s6 s7 s8) := by
    by_cases hk : 0 < k
    · simp [ev_ite, evT, ev_callKw1, ev_call_1, evR, ev_p, evPk, evP, slot, envL, sv0, hw, hk, hc, isCont, opd2, opd, fin, lateE, isP, toP, finO, evPb, Fx.g2, c2B, Fx.c2, ii, r_of, r_ok]
    · simp [ev_ite, evT, ev_callKw1, ev_call_1, evR, ev_p, evPk, evP, slot, envL, sv0, hw, hk, hc, isCont, opd2, opd, fin, lateE, isP, toP, finO, evPb, Fx.g2, c2B, Fx.c2, ii, r_of, r_ok]
  exact as_ok e (s := s6) rfl h6
theorem u6_ok (m : Nat) (d0 : PyData) (b : Bag) (s2 s3 s4 s5 : SV) (t : B4) (h4 : s4 = .un ∨ ∃ d, s4 = sv0 d) : exS (prg.orc (m + 9)) 0 u6 (envL d0 b s2 s3 s4 s5 (sv0 (dueD t)) (sv0 (.int (waysOf t).1)) (sv0 (.list ((waysOf t).2.map wayD)))) = .ok (.nx (envL d0 b s2 s3 s4 s5 (sv0 (dueD t)) (sv0 (.int (waysOf t).1)) (sv0 (.list ((waysOf t).2.map wayD))))) := by
  have hd := due_ok (m + 8) d0 b s2 s3 s4 s5 (sv0 (dueD t)) t h4
  have hs := due_same m t
  have hc : isCont (dueD t) = false := rfl
  apply no_false
  simp only [envL, sv0] at hd ⊢
  simp [evT, ev_call_2, evR, ev_p, evPk, evP, slot, hd, hs, opd1, opd, fin, lateE, isP, toP, finO, evPb, Fx.g1, truth, r_of, r_ok]
end K73
set_option Elab.async false
set_option linter.all false
set_option maxRecDepth 100000
set_option maxHeartbeats 4000000
namespace K73
open PySem PySem.Spec PyProof.Rows L2 Fx
structure Slots where
  s3 : SV
  s4 : SV
  s5 : SV
  s6 : SV
  s7 : SV
  s8 : SV
def Slots.Ok (s : Slots) : Prop := Free s.s3 ∧ (s.s4 = .un ∨ ∃ d, s.s4 = sv0 d) ∧ Free s.s5 ∧ Free s.s6 ∧ Free s.s7 ∧ Free s.s8
def envS23 (d0 : PyData) (b : Bag) (s2 : SV) (s : Slots) : EnvD := envL d0 b s2 s.s3 s.s4 s.s5 s.s6 s.s7 s.s8
theorem fr0 (d : PyData) : Free (sv0 d) := .inr ⟨_, _, rfl⟩
theorem turn23 (d0 : PyData) (b : Bag) (hcl : b.cells ≠ []) (k : Nat) (s : Slots) (hs : s.Ok) : ∃ b' s', b'.cells ≠ [] ∧ Slots.Ok s' ∧ exs (prg.orc 15) 0 ssU (envS23 d0 b (sv0 (.int k)) s) = .ok (.nx (envS23 d0 b' (sv0 (.int k)) s')) := by
  obtain ⟨h3, h4, h5, h6, h7, h8⟩ := hs
  obtain ⟨t, b', ht, hb', e1⟩ := u1_ok 10 d0 b hcl (sv0 (.int k)) s.s3 s.s4 s.s5 s.s6 s.s7 s.s8 h3
  have e2 := u2_ok 11 d0 b' (sv0 (.int k)) s.s4 s.s5 s.s6 s.s7 s.s8 t ht h7 h8
  obtain ⟨s4', h4', e3⟩ := u3_ok 11 d0 b' (sv0 (.int k)) s.s4 s.s5 s.s6 t ht h4
  have e4 := u4_ok 14 d0 b' (sv0 (.int k)) s4' s.s5 s.s6 (sv0 (.int (waysOf t).1)) (sv0 (.list ((waysOf t).2.map wayD))) t h5
  have e5 := u5_ok 10 d0 b' k (sv0 (fB t)) s4' s.s6 (sv0 (.int (waysOf t).1)) (sv0 (.list ((waysOf t).2.map wayD))) t ht h6
  have e6 := u6_ok 6 d0 b' (sv0 (.int k)) (sv0 (fB t)) s4' (sv0 (tabD t)) t h4'
  refine ⟨b', ⟨sv0 (fB t), s4', sv0 (tabD t), sv0 (dueD t), sv0 (.int (waysOf t).1), sv0 (.list ((waysOf t).2.map wayD))⟩, hb', ⟨fr0 _, h4', fr0 _, fr0 _, fr0 _, fr0 _⟩, ?_⟩
  have e7 : exs (prg.orc 15) 0 .nil (envL d0 b' (sv0 (.int k)) (sv0 (fB t)) s4' (sv0 (tabD t)) (sv0 (dueD t)) (sv0 (.int (waysOf t).1)) (sv0 (.list ((waysOf t).2.map wayD)))) = .ok (.nx (envL d0 b' (sv0 (.int k)) (sv0 (fB t)) s4' (sv0 (tabD t)) (sv0 (dueD t)) (sv0 (.int (waysOf t).1)) (sv0 (.list ((waysOf t).2.map wayD))))) := by simp only [exs]
  exact (exs_nx e1).trans ((exs_nx e2).trans ((exs_nx e3).trans ((exs_nx e4).trans ((exs_nx e5).trans ((exs_nx e6).trans e7)))))
theorem loop23 (d0 : PyData) : ∀ (ks : List Nat) (b : Bag) (s2 : SV) (s : Slots), b.cells ≠ [] → Free s2 → s.Ok → ∃ b' s2' s', forL (bindT (.nm 2)) (exs (prg.orc 15) 0 ssU) (ks.map fun (k : Nat) => PyData.int (k : Int)) (envS23 d0 b s2 s) = .ok (.nx (envS23 d0 b' s2' s'))
  | [], b, s2, s, _, _, _ => ⟨b, s2, s, rfl⟩
  | k :: ks, b, s2, s, h1, h2, h3 => by
    obtain ⟨b1, s1, g1, g2, g3⟩ := turn23 d0 b h1 k s h3
    obtain ⟨b', s2', s', h⟩ := loop23 d0 ks b1 (sv0 (.int k)) s1 g1 (fr0 _) g2
    refine ⟨b', s2', s', ?_⟩
    have hb : bindT (.nm 2) (.int (k : Int)) (envS23 d0 b s2 s) = some (envS23 d0 b (sv0 (.int k)) s) := setS_free (i := 2) (s := s2) rfl h2
    rw [List.map_cons]
    simp only [forL, hb, r_of, r_ok, g3]
    exact h
theorem law_true (ns : List Int) (h : ns.length ≤ 63) : ∃ r, callN prg.fns prg.con 16 23 [.sv false 0 (.list (ns.map .int))] = .ok (.bool true, r) := by
  obtain ⟨b, hcl, rb, hb⟩ := bag_ok 14 ns (by omega)
  obtain ⟨b', s2', s', hL⟩ := loop23 (.list (ns.map .int)) (List.range 6) b .un ⟨.un, .un, .un, .un, .un, .un⟩ hcl (.inl rfl) ⟨.inl rfl, .inl rfl, .inl rfl, .inl rfl, .inl rfl, .inl rfl⟩
  have e1 : ev (prg.orc 15) (.call 8 none (.v (.p (.at 0)) .nil)) 2 [sv0 (.list (ns.map .int)), .un, .un, .un, .un, .un, .un, .un, .un, .un, .un] = .ok (bagD b, [sv0 (.list (ns.map .int)), .un, .un, .un, .un, .un, .un, .un, .un, .un, .un]) := by
    have hr : (prg.orc 15).ret 8 = 2 := rfl
    have hb' : (prg.orc 15).fn 8 [SV.sv false 0 (PyData.list (ns.map .int))] = .ok (bagD b, rb) := hb
    simp [ev, evR, evPk, evP, slot, sv0, isCont, callD, lents, argSV, permD, lentBack, hb', hr, r_of, r_ok]
    cases rb <;> rfl
  have e2 := as_ok (rk := 0) (i := 1) (s := .un) e1 rfl (.inl rfl)
  have e3 : exS (prg.orc 15) 0 (.for (.nm 2) (.range (.cons (.p (.k (.int 6))) .nil)) ssU) (envS23 (.list (ns.map .int)) b .un ⟨.un, .un, .un, .un, .un, .un⟩) = .ok (.nx (envS23 (.list (ns.map .int)) b' s2' s')) :=
    (for_range1 (prg.orc 15) (n := ((6 : Nat) : Int)) (by simp [evPk, evP, isCont]) (len_range 6 (by decide))).trans hL
  have e4 : exS (prg.orc 15) 0 (.ret (.p (.k (.bool true)))) (envS23 (.list (ns.map .int)) b' s2' s') = .ok (.rt (.bool true) (envS23 (.list (ns.map .int)) b' s2' s')) := by
    simp [exS, ev_p, evPk, evP, isCont, r_of, r_ok]
  have g : exs (prg.orc 15) 0 b23 [sv0 (.list (ns.map .int)), .un, .un, .un, .un, .un, .un, .un, .un, .un, .un] = .ok (.rt (.bool true) (envS23 (.list (ns.map .int)) b' s2' s')) := by
    rw [b23_eq]
    exact (exs_nx e2).trans ((exs_nx e3).trans (exs_rt e4))
  refine ⟨finD (envS23 (.list (ns.map .int)) b' s2' s') 1, ?_⟩
  have hF := fn_eq (p := prg) (m := 15) (i := 23) (D := d23) (as := [sv0 (.list (ns.map .int))]) rfl rfl
  have e0 : [sv0 (.list (ns.map .int))] ++ List.replicate (d23.F.n - [sv0 (.list (ns.map .int))].length) SV.un = [sv0 (.list (ns.map .int)), .un, .un, .un, .un, .un, .un, .un, .un, .un, .un] := rfl
  rw [e0, show d23.F.body = b23 from rfl, show d23.F.ret = 0 from rfl, g, r_ok] at hF
  exact hF
end K73
set_option Elab.async false
set_option linter.all false
set_option maxRecDepth 100000
set_option maxHeartbeats 0
namespace K73
open PySem PySem.Spec PyProof.Rows L2 Fx
abbrev R : PySem.W.OpenRow := PySem.W.OpenLaw.row PySem.Challenge.rw_roundladder_k73_whole_shortest_ladders
abbrev hk : PySem.W.Hook := hookX 5 prg.da prg.fa prg.fn
def ob (s : PySem.W.SharedT) : AlX := obsXG 5 prg.da prg.fa prg.fn (HandSHeadRun.getT s)
theorem ob_eq (s : PySem.W.SharedT) : ob s = hk.obs s.abs := obsX_eq (HandSHeadRun.getT_eq s)
def loose0 : List Str := ["divisor", "NOTHING", "ONE", "lowest", "minus", "quotient", "tap_of", "add_step", "three_steps", "shortest", "_law_bag", "_law_draw", "_law_pick", "_law_same", "_law_gcd", "_law_fr", "_law_plus", "_law_times", "_law_over", "_law_minus", "_law_chain_of", "_law_block_of", "_law_ways", "_law_table", "_law_drawn_block"]
def loose : List Str := loose0
theorem run (w : World) : HandSHeadRun.RunEq R (PySem.W.view R.prog [29]) hk ob 3000 loose w := by
  intro os
  kernel_rfl
end K73
open PySem PySem.W PySem.Calls PyProof.Rows
theorem PySem.Challenge.cw_roundladder_k73_whole_shortest_ladders_holds : PySem.Challenge.rw_roundladder_k73_whole_shortest_ladders.Holds := by
  w_on; o_law
  refine HandSHeadRun.head_any (r := OpenLaw.row PySem.Challenge.rw_roundladder_k73_whole_shortest_ladders) (q := view (OpenLaw.row PySem.Challenge.rw_roundladder_k73_whole_shortest_ladders).prog [29]) (H := K73.hk) (ob := K73.ob) (M := 3000) (loose := K73.loose) (d := HandSHeadRun.topDef (OpenLaw.row PySem.Challenge.rw_roundladder_k73_whole_shortest_ladders).prog 29) (kwd := []) K73.ob_eq
    (by kernel_rfl) (fun s => by kernel_rfl) K73.run (by kernel_rfl) (by kernel_rfl) (by kernel_rfl) (by rfl) (by first | assumption | decide +kernel) (by decide +kernel) ⟨rfl, rfl, rfl, rfl, rfl, by decide +kernel⟩ ?hw ?hc
  case hw => w_witness2
  case hc =>
    refine L2.walk_ofE (l := PySem.Challenge.rw_roundladder_k73_whole_shortest_ladders) (n := 63) (k := 16) (x := "script") (CX := L2.CX0) rfl (by decide) (by kernel_rfl) ⟨rfl, by decide, by decide⟩ ?F (fun _ _ _ _ z => z)
    intro w mg fa h Y G hmg0
    obtain ⟨K, KX, c⟩ := Y
    have hmg : mg K73.d23.x = some (.ref fa) := by
      have e : (HandSHeadRun.topDef (OpenLaw.row PySem.Challenge.rw_roundladder_k73_whole_shortest_ladders).prog 29).name = K73.d23.x := by kernel_rfl
      rw [← e]
      exact hmg0
    obtain ⟨fd, hb, hF⟩ := Fx.law_facts (P := (PySem.Challenge.rw_roundladder_k73_whole_shortest_ladders).prog) (w := w) K73.prg_ok (i := 23) (m := 16) (D := K73.d23) rfl rfl K73.law_true KX G hmg c
    exact ⟨K, fd, Fx.spL K 63, KX, hb, fun H a ns hl _ hS => ⟨a, ns, rfl, hl, hS, fun _ => rfl⟩, hF⟩
