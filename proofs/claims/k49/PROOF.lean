import PyProof.Rows.All
import Wide.All
import OpenK.AllK
import Wide.FinOn
import HandS.ForMost
import HandS.Wide
import HandS.Flow
import HandS.IsInst
import HandS.TupAny
import HandS.Style
import HandS.NoneIn
import KE.SortData
import KE.DataMinMax
import KE.DataIsa
import KE.DataEq
import KE.DataAny
import KE.DataCmp
import HandS.Words
import HandS.Ends
import HandS.More
import HandS.Head0
import HandS.Head1
import HandS.Head2
import HandS.HeadEnd
import HandS.HeadHook1
import HandS.HeadHook2
import KE.KStateDown
import HandS.WordsExc
import HandS.Defaults
import HandS.Comp
import HandS.Iter
import HandS.WideMore
import HandS.AnyAll
import PyProof.TupleOfGen
import PyProof.SumAny
import HandS.HeadWalk
import PySem.Challenge.RW_roundladder_k49_whole_differences_that_c
set_option Elab.async false
set_option linter.all false
set_option maxRecDepth 100000
/-! M1: data of the heap, frozen and owned; the slots' states; what is kept. -/
namespace Fx
open PySem PySem.Spec PyProof.Rows L2

/-! ### sets of addresses -/
abbrev As := Addr → Prop
def none' : As := fun _ => False
def one' (a : Addr) : As := fun b => b = a
def or' (f g : As) : As := fun b => f b ∨ g b
def Dis (f g : As) : Prop := ∀ b, f b → g b → False
theorem or_none (f : As) : or' none' f = f := by funext b; simp [or', none']
theorem or_none' (f : As) : or' f none' = f := by funext b; simp [or', none']
theorem or_assoc' (f g h : As) : or' (or' f g) h = or' f (or' g h) := by funext b; simp [or', or_assoc]
theorem or_comm' (f g : As) : or' f g = or' g f := by funext b; simp [or', or_comm]
theorem Dis.symm {f g : As} (h : Dis f g) : Dis g f := fun b x y => h b y x
theorem dis_none (f : As) : Dis none' f := fun _ h _ => h
theorem dis_none' (f : As) : Dis f none' := fun _ _ h => h
theorem Dis.or_left {f g h : As} (a : Dis f h) (b : Dis g h) : Dis (or' f g) h := fun x p q => p.elim (fun z => a x z q) (fun z => b x z q)
theorem Dis.of_or1 {f g h : As} (a : Dis (or' f g) h) : Dis f h := fun x p q => a x (.inl p) q
theorem Dis.of_or2 {f g h : As} (a : Dis (or' f g) h) : Dis g h := fun x p q => a x (.inr p) q

open Classical in
/-- the heap without the addresses of O -/
noncomputable def hid (H : Hp) (O : As) : Hp := fun b => if O b then none else H b
theorem hid_in {H : Hp} {O : As} {b : Addr} (h : O b) : hid H O b = none := by unfold hid; rw [if_pos h]
theorem hid_out {H : Hp} {O : As} {b : Addr} (h : ¬ O b) : hid H O b = H b := by unfold hid; rw [if_neg h]
theorem hid_some {H : Hp} {O : As} {b : Addr} {o : HO} (h : hid H O b = some o) : ¬ O b ∧ H b = some o := by
  by_cases q : O b
  · rw [hid_in q] at h; cases h
  · rw [hid_out q] at h; exact ⟨q, h⟩

/-- whatever may be read in F may be read in G -/
structure Le (F G : Hp) : Prop where
  rd : ∀ a u, Rd F a u → Rd G a u
  ex : ∀ a φ, F a = some (.ext φ) → G a = some (.ext φ)
instance {F G : Hp} : CoeFun (Le F G) fun _ => ∀ a u, Rd F a u → Rd G a u := ⟨Le.rd⟩
theorem Le.refl (F : Hp) : Le F F := ⟨fun _ _ h => h, fun _ _ h => h⟩
theorem Le.trans {F G H : Hp} (a : Le F G) (b : Le G H) : Le F H := ⟨fun x u h => b.rd x u (a.rd x u h), fun x φ h => b.ex x φ (a.ex x φ h)⟩
theorem le_of_ext {F G : Hp} (h : ∀ a o, F a = some o → G a = some o) : Le F G := by
  refine ⟨fun a u r => ?_, fun a φ e => h a _ e⟩
  rcases r with r | ⟨o, r⟩
  · exact .inl (h a u r)
  · exact .inr ⟨o, h a _ r⟩
theorem hid_le {H : Hp} {O : As} : Le (hid H O) H := le_of_ext fun a o h => (hid_some h).2
theorem hid_mono {H : Hp} {O O' : As} (h : ∀ b, O' b → O b) : Le (hid H O) (hid H O') := le_of_ext fun a o e => by
  obtain ⟨h1, h2⟩ := hid_some e
  rw [hid_out fun z => h1 (h a z)]; exact h2
theorem Le.sqL {K : PySem.W.Frag} {F G : Hp} (h : Le F G) {a : Addr} {xs : List V} (q : SqL K F a xs) : SqL K G a xs := q.elim (fun z => .inl (h _ _ z)) .inr
theorem Le.sqT {K : PySem.W.Frag} {F G : Hp} (h : Le F G) {a : Addr} {xs : List V} (q : SqT K F a xs) : SqT K G a xs := q.elim (fun z => .inl (h _ _ z)) .inr

/-! ### the tables of code objects -/
/-- a table of triples, whatever it holds -/
def TabO (p : Addr) : HO := .ext fun h => ∃ ps : Array Value, h.get? p = some { cls := .none, data := .fields ps } ∧ TriplesOk ps.toList
def csOf (K : PySem.W.Frag) : List (Addr × Addr) := K.filterMap fun q => match q.2 with
  | ⟨_, _, .fields vs, _⟩ => (match (vs[11]? : Option Value) with
    | some (.ref p) => if PySem.W.codeHdIn K q.1 p = true then some (q.1, p) else none
    | _ => none)
  | _ => none
/-- the tables of the code objects in K -/
def Tb (K : PySem.W.Frag) (p : Addr) : Prop := p ∈ (csOf K).map (·.2)
/-! ### data -/
def keyD : Key → PyData
  | .inl i => .int i
  | .inr x => .str x
mutual
/-- v is the datum d in the heap F -/
inductive Dat (K : PySem.W.Frag) (F : Hp) : V → PyData → Prop
  | non : Dat K F .non .none
  | bl (b : Bool) : Dat K F (.bl b) (.bool b)
  | int (i : Int) : Dat K F (.int i) (.int i)
  | str (x : Str) : Dat K F (.str x) (.str x)
  | lst {a : Addr} {xs : List V} {ds : List PyData} : SqL K F a xs → DatL K F xs ds → Dat K F (.ref a) (.list ds)
  | tup {a : Addr} {xs : List V} {ds : List PyData} : SqT K F a xs → DatL K F xs ds → Dat K F (.ref a) (.tuple ds)
  | dk {a : Addr} {kvs : List (Key × V)} {ds : List (PyData × PyData)} : Rd F a (.dK kvs) → DatK K F kvs ds → Dat K F (.ref a) (.dict ds)
  | dt {a : Addr} {kvs : List (List Key × V)} {ds : List (PyData × PyData)} : Rd F a (.dT kvs) → DatT K F kvs ds → Dat K F (.ref a) (.dict ds)
inductive DatL (K : PySem.W.Frag) (F : Hp) : List V → List PyData → Prop
  | nil : DatL K F [] []
  | cons {v : V} {vs : List V} {d : PyData} {ds : List PyData} : Dat K F v d → DatL K F vs ds → DatL K F (v :: vs) (d :: ds)
inductive DatK (K : PySem.W.Frag) (F : Hp) : List (Key × V) → List (PyData × PyData) → Prop
  | nil : DatK K F [] []
  | cons {k : Key} {v : V} {vs : List (Key × V)} {d : PyData} {ds : List (PyData × PyData)} : Dat K F v d → DatK K F vs ds → DatK K F ((k, v) :: vs) ((keyD k, d) :: ds)
inductive DatT (K : PySem.W.Frag) (F : Hp) : List (List Key × V) → List (PyData × PyData) → Prop
  | cons {k : List Key} {v : V} {vs : List (List Key × V)} {d : PyData} {ds : List (PyData × PyData)} : Dat K F v d → DatT K F vs ds → DatT K F ((k, v) :: vs) ((.tuple (k.map keyD), d) :: ds)
end
section
variable {K : PySem.W.Frag} {F G : Hp}
mutual
theorem Dat.mono (le : Le F G) : ∀ {v : V} {d : PyData}, Dat K F v d → Dat K G v d
  | _, _, .non => .non
  | _, _, .bl b => .bl b
  | _, _, .int i => .int i
  | _, _, .str x => .str x
  | _, _, .lst h t => .lst (le.sqL h) (DatL.mono le t)
  | _, _, .tup h t => .tup (le.sqT h) (DatL.mono le t)
  | _, _, .dk h t => .dk (le _ _ h) (DatK.mono le t)
  | _, _, .dt h t => .dt (le _ _ h) (DatT.mono le t)
theorem DatL.mono (le : Le F G) : ∀ {v : List V} {d : List PyData}, DatL K F v d → DatL K G v d
  | _, _, .nil => .nil
  | _, _, .cons h t => .cons (Dat.mono le h) (DatL.mono le t)
theorem DatK.mono (le : Le F G) : ∀ {v : List (Key × V)} {d : List (PyData × PyData)}, DatK K F v d → DatK K G v d
  | _, _, .nil => .nil
  | _, _, .cons h t => .cons (Dat.mono le h) (DatK.mono le t)
theorem DatT.mono (le : Le F G) : ∀ {v : List (List Key × V)} {d : List (PyData × PyData)}, DatT K F v d → DatT K G v d
  | _, _, .cons h t => .cons (Dat.mono le h) (DatT.mono le t)
end
theorem DatL.length : ∀ {vs : List V} {ds : List PyData}, DatL K F vs ds → vs.length = ds.length
  | _, _, .nil => rfl
  | _, _, .cons _ t => congrArg (· + 1) (DatL.length t)
theorem DatL.get : ∀ {vs : List V} {ds : List PyData}, DatL K F vs ds → ∀ {i : Nat} {d : PyData}, ds[i]? = some d → ∃ v, vs[i]? = some v ∧ Dat K F v d
  | _, _, .nil, _, _, h => by simp at h
  | _, _, .cons h t, 0, _, e => by simp at e; subst e; exact ⟨_, rfl, h⟩
  | _, _, .cons h t, i + 1, _, e => by
    obtain ⟨v, h1, h2⟩ := DatL.get t (i := i) (by simpa using e)
    exact ⟨v, by simpa using h1, h2⟩
theorem DatL.append : ∀ {vs ws : List V} {ds es : List PyData}, DatL K F vs ds → DatL K F ws es → DatL K F (vs ++ ws) (ds ++ es)
  | _, _, _, _, .nil, h => h
  | _, _, _, _, .cons h t, h' => .cons h (DatL.append t h')
theorem DatL.take : ∀ {vs : List V} {ds : List PyData} (n : Nat), DatL K F vs ds → DatL K F (vs.take n) (ds.take n)
  | _, _, 0, _ => .nil
  | _, _, _ + 1, .nil => .nil
  | _, _, n + 1, .cons h t => .cons h (DatL.take n t)
theorem DatL.drop : ∀ {vs : List V} {ds : List PyData} (n : Nat), DatL K F vs ds → DatL K F (vs.drop n) (ds.drop n)
  | _, _, 0, h => h
  | _, _, _ + 1, .nil => .nil
  | _, _, n + 1, .cons _ t => DatL.drop n t
theorem DatL.reverse : ∀ {vs : List V} {ds : List PyData}, DatL K F vs ds → DatL K F vs.reverse ds.reverse
  | _, _, .nil => .nil
  | _, _, .cons h t => by
    rw [List.reverse_cons, List.reverse_cons]
    exact DatL.append (DatL.reverse t) (.cons h .nil)
theorem DatL.ints : ∀ {vs : List V} {ns : List Int}, DatL K F vs (ns.map .int) → vs = ns.map V.int
  | _, [], .nil => rfl
  | _, n :: ns, .cons h t => by
    cases h
    rw [DatL.ints t, List.map_cons]
theorem DatL.of_ints : ∀ {ns : List Int}, DatL K F (ns.map V.int) (ns.map .int)
  | [] => .nil
  | _ :: _ => .cons (.int _) DatL.of_ints
end
end Fx
set_option Elab.async false
set_option linter.all false
set_option maxRecDepth 100000
/-! M2: owned data, the slots' states. -/
namespace Fx
open PySem PySem.Spec PyProof.Rows L2

/-! ### what is owned to a depth -/
def isCont : PyData → Bool
  | .list _ => true
  | .dict _ => true
  | _ => false
abbrev RR := V → PyData → As → Prop
inductive RepL (R : RR) : List V → List PyData → As → Prop
  | nil : RepL R [] [] none'
  | cons {v : V} {vs : List V} {d : PyData} {ds : List PyData} {f g : As} : R v d f → RepL R vs ds g → Dis f g → RepL R (v :: vs) (d :: ds) (or' f g)
inductive RepK (R : RR) : List (Key × V) → List (PyData × PyData) → As → Prop
  | nil : RepK R [] [] none'
  | cons {k : Key} {v : V} {vs : List (Key × V)} {d : PyData} {ds : List (PyData × PyData)} {f g : As} : R v d f → RepK R vs ds g → Dis f g → RepK R ((k, v) :: vs) ((keyD k, d) :: ds) (or' f g)
inductive RepT (R : RR) : List (List Key × V) → List (PyData × PyData) → As → Prop
  | cons {k : List Key} {v : V} {vs : List (List Key × V)} {d : PyData} {ds : List (PyData × PyData)} {f g : As} : R v d f → RepT R vs ds g → Dis f g → RepT R ((k, v) :: vs) ((.tuple (k.map keyD), d) :: ds) (or' f g)
/-- v is d: its containers are owned down to the depth k (at the addresses fp), what lies deeper is frozen in F -/
def Rep (K : PySem.W.Frag) (F H : Hp) : Nat → RR
  | 0, v, d, fp => fp = none' ∧ Dat K F v d
  | k + 1, v, d, fp => (isCont d = false ∧ fp = none' ∧ Dat K F v d) ∨
      (∃ a vs ds g, v = .ref a ∧ d = .list ds ∧ H a = some (.lst vs) ∧ RepL (Rep K F H k) vs ds g ∧ ¬ g a ∧ fp = or' (one' a) g) ∨
      (∃ a vs ds g, v = .ref a ∧ d = .dict ds ∧ H a = some (.dK vs) ∧ RepK (Rep K F H k) vs ds g ∧ ¬ g a ∧ fp = or' (one' a) g) ∨
      (∃ a vs ds g, v = .ref a ∧ d = .dict ds ∧ H a = some (.dT vs) ∧ RepT (Rep K F H k) vs ds g ∧ ¬ g a ∧ fp = or' (one' a) g)

theorem RepL.imp {R R' : RR} : ∀ {vs : List V} {ds : List PyData} {g : As}, RepL R vs ds g → (∀ v d f, (∀ b, f b → g b) → R v d f → R' v d f) → RepL R' vs ds g
  | _, _, _, .nil, _ => .nil
  | _, _, _, .cons h t dj, k => .cons (k _ _ _ (fun _ z => .inl z) h) (RepL.imp t fun v d f s => k v d f fun b z => .inr (s b z)) dj
theorem RepK.imp {R R' : RR} : ∀ {vs : List (Key × V)} {ds : List (PyData × PyData)} {g : As}, RepK R vs ds g → (∀ v d f, (∀ b, f b → g b) → R v d f → R' v d f) → RepK R' vs ds g
  | _, _, _, .nil, _ => .nil
  | _, _, _, .cons h t dj, k => .cons (k _ _ _ (fun _ z => .inl z) h) (RepK.imp t fun v d f s => k v d f fun b z => .inr (s b z)) dj
theorem RepT.imp {R R' : RR} : ∀ {vs : List (List Key × V)} {ds : List (PyData × PyData)} {g : As}, RepT R vs ds g → (∀ v d f, (∀ b, f b → g b) → R v d f → R' v d f) → RepT R' vs ds g
  | _, _, _, .cons h t dj, k => .cons (k _ _ _ (fun _ z => .inl z) h) (RepT.imp t fun v d f s => k v d f fun b z => .inr (s b z)) dj

section
variable {K : PySem.W.Frag} {F F' H H' : Hp}
/-- the heap has moved on elsewhere -/
theorem Rep.keep : ∀ (k : Nat) {v : V} {d : PyData} {fp : As}, Le F F' → (∀ b, fp b → H' b = H b) → Rep K F H k v d fp → Rep K F' H' k v d fp
  | 0, _, _, _, le, _, h => ⟨h.1, h.2.mono le⟩
  | k + 1, v, d, fp, le, kp, h => by
    rcases h with ⟨h1, h2, h3⟩ | ⟨a, vs, ds, g, rfl, rfl, h1, h2, h3, rfl⟩ | ⟨a, vs, ds, g, rfl, rfl, h1, h2, h3, rfl⟩ | ⟨a, vs, ds, g, rfl, rfl, h1, h2, h3, rfl⟩
    · exact .inl ⟨h1, h2, h3.mono le⟩
    · exact .inr (.inl ⟨a, vs, ds, g, rfl, rfl, (kp a (.inl rfl)).trans h1, h2.imp fun _ _ f s r => Rep.keep k le (fun b z => kp b (.inr (s b z))) r, h3, rfl⟩)
    · exact .inr (.inr (.inl ⟨a, vs, ds, g, rfl, rfl, (kp a (.inl rfl)).trans h1, h2.imp fun _ _ f s r => Rep.keep k le (fun b z => kp b (.inr (s b z))) r, h3, rfl⟩))
    · exact .inr (.inr (.inr ⟨a, vs, ds, g, rfl, rfl, (kp a (.inl rfl)).trans h1, h2.imp fun _ _ f s r => Rep.keep k le (fun b z => kp b (.inr (s b z))) r, h3, rfl⟩))
theorem RepL.dat {R : RR} {G : Hp} : ∀ {vs : List V} {ds : List PyData} {g : As}, RepL R vs ds g → (∀ v d f, (∀ b, f b → g b) → R v d f → Dat K G v d) → DatL K G vs ds
  | _, _, _, .nil, _ => .nil
  | _, _, _, .cons h t dj, k => .cons (k _ _ _ (fun _ z => .inl z) h) (RepL.dat t fun v d f s => k v d f fun b z => .inr (s b z))
theorem RepK.dat {R : RR} {G : Hp} : ∀ {vs : List (Key × V)} {ds : List (PyData × PyData)} {g : As}, RepK R vs ds g → (∀ v d f, (∀ b, f b → g b) → R v d f → Dat K G v d) → DatK K G vs ds
  | _, _, _, .nil, _ => .nil
  | _, _, _, .cons h t dj, k => .cons (k _ _ _ (fun _ z => .inl z) h) (RepK.dat t fun v d f s => k v d f fun b z => .inr (s b z))
theorem RepT.dat {R : RR} {G : Hp} : ∀ {vs : List (List Key × V)} {ds : List (PyData × PyData)} {g : As}, RepT R vs ds g → (∀ v d f, (∀ b, f b → g b) → R v d f → Dat K G v d) → DatT K G vs ds
  | _, _, _, .cons h t dj, k => .cons (k _ _ _ (fun _ z => .inl z) h) (RepT.dat t fun v d f s => k v d f fun b z => .inr (s b z))
/-- owned data, read in a heap that shows them -/
theorem Rep.dat {G : Hp} : ∀ (k : Nat) {v : V} {d : PyData} {fp : As}, Le F G → (∀ b, fp b → G b = H b) → Rep K F H k v d fp → Dat K G v d
  | 0, _, _, _, le, _, h => h.2.mono le
  | k + 1, v, d, fp, le, kp, h => by
    rcases h with ⟨h1, h2, h3⟩ | ⟨a, vs, ds, g, rfl, rfl, h1, h2, h3, rfl⟩ | ⟨a, vs, ds, g, rfl, rfl, h1, h2, h3, rfl⟩ | ⟨a, vs, ds, g, rfl, rfl, h1, h2, h3, rfl⟩
    · exact h3.mono le
    · exact .lst (.inl (.inl ((kp a (.inl rfl)).trans h1))) (h2.dat fun _ _ f s r => Rep.dat k le (fun b z => kp b (.inr (s b z))) r)
    · exact .dk (.inl ((kp a (.inl rfl)).trans h1)) (h2.dat fun _ _ f s r => Rep.dat k le (fun b z => kp b (.inr (s b z))) r)
    · exact .dt (.inl ((kp a (.inl rfl)).trans h1)) (h2.dat fun _ _ f s r => Rep.dat k le (fun b z => kp b (.inr (s b z))) r)
theorem RepL.trk {R : RR} {P : As} : ∀ {vs : List V} {ds : List PyData} {g : As}, RepL R vs ds g → (∀ v d f, R v d f → ∀ b, f b → P b) → ∀ b, g b → P b
  | _, _, _, .nil, _, _, z => z.elim
  | _, _, _, .cons h t dj, k, b, z => z.elim (k _ _ _ h b) (RepL.trk t k b)
theorem RepK.trk {R : RR} {P : As} : ∀ {vs : List (Key × V)} {ds : List (PyData × PyData)} {g : As}, RepK R vs ds g → (∀ v d f, R v d f → ∀ b, f b → P b) → ∀ b, g b → P b
  | _, _, _, .nil, _, _, z => z.elim
  | _, _, _, .cons h t dj, k, b, z => z.elim (k _ _ _ h b) (RepK.trk t k b)
theorem RepT.trk {R : RR} {P : As} : ∀ {vs : List (List Key × V)} {ds : List (PyData × PyData)} {g : As}, RepT R vs ds g → (∀ v d f, R v d f → ∀ b, f b → P b) → ∀ b, g b → P b
  | _, _, _, .cons h t dj, k, b, z => z.elim (k _ _ _ h b) (RepT.trk t k b)
/-- what is owned is tracked -/
theorem Rep.trk : ∀ (k : Nat) {v : V} {d : PyData} {fp : As}, Rep K F H k v d fp → ∀ b, fp b → H b ≠ none
  | 0, _, _, _, h, b, z => by rw [h.1] at z; exact z.elim
  | k + 1, v, d, fp, h, b, z => by
    rcases h with ⟨h1, h2, h3⟩ | ⟨a, vs, ds, g, rfl, rfl, h1, h2, h3, rfl⟩ | ⟨a, vs, ds, g, rfl, rfl, h1, h2, h3, rfl⟩ | ⟨a, vs, ds, g, rfl, rfl, h1, h2, h3, rfl⟩
    · rw [h2] at z; exact z.elim
    · rcases z with z | z
      · rw [show b = a from z, h1]; exact Option.some_ne_none _
      · exact h2.trk (P := fun b => H b ≠ none) (fun v d f r b z => Rep.trk k r b z) b z
    · rcases z with z | z
      · rw [show b = a from z, h1]; exact Option.some_ne_none _
      · exact h2.trk (P := fun b => H b ≠ none) (fun v d f r b z => Rep.trk k r b z) b z
    · rcases z with z | z
      · rw [show b = a from z, h1]; exact Option.some_ne_none _
      · exact h2.trk (P := fun b => H b ≠ none) (fun v d f r b z => Rep.trk k r b z) b z
/-- plain data are owned to any depth -/
theorem Rep.plain {k : Nat} {v : V} {d : PyData} (h : Dat K F v d) (hc : isCont d = false ∨ k = 0) : Rep K F H k v d none' := by
  cases k with
  | zero => exact ⟨rfl, h⟩
  | succ k =>
    rcases hc with hc | hc
    · exact .inl ⟨hc, rfl, h⟩
    · cases hc
theorem RepL.length {R : RR} : ∀ {vs : List V} {ds : List PyData} {g : As}, RepL R vs ds g → vs.length = ds.length
  | _, _, _, .nil => rfl
  | _, _, _, .cons _ t _ => congrArg (· + 1) (RepL.length t)
end

/-! ### the slots -/
/-- a slot: without a value, or with the datum d owned to the depth k (0: frozen); l: lent by the caller -/
inductive SV where
  | un
  | sv (l : Bool) (k : Nat) (d : PyData)
abbrev EnvD := List SV
/-- everything that is hidden -/
def all' (T : As) (fps : Nat → As) : As := fun b => T b ∨ ∃ i, fps i b
structure SOk (K : PySem.W.Frag) (L : List (Nat × V)) (T : As) (env : EnvD) (σ : L2.St) (H : Hp) (fps : Nat → As) : Prop where
  len : env.length = σ.length
  disT : ∀ i, Dis (fps i) T
  dis : ∀ i j, i ≠ j → Dis (fps i) (fps j)
  trk : ∀ b, all' T fps b → H b ≠ none
  slot : ∀ i l k d, env[i]? = some (.sv l k d) → ∃ v, σ[i]? = some (some v) ∧ Rep K (hid H (all' T fps)) H k v d (fps i) ∧ (l = true → (i, v) ∈ L)
  out : ∀ i, (∀ l k d, env[i]? ≠ some (.sv l k d)) → fps i = none'
  lu : ∀ i v w, (i, v) ∈ L → (i, w) ∈ L → v = w
  tab : ∀ p, Tb K p → hid H (all' T fps) p = some (TabO p)

section
variable {K : PySem.W.Frag} {L : List (Nat × V)} {T : As} {env : EnvD} {σ : L2.St} {H H' : Hp} {fps : Nat → As}
noncomputable abbrev fr (T : As) (H : Hp) (fps : Nat → As) : Hp := hid H (all' T fps)
/-- the heap has moved on where nothing is hidden -/
theorem SOk.keep (I : SOk K L T env σ H fps) (kp : ∀ b, all' T fps b → H' b = H b) (le : Le (fr T H fps) (fr T H' fps)) : SOk K L T env σ H' fps :=
  ⟨I.len, I.disT, I.dis, fun b z => by rw [kp b z]; exact I.trk b z, fun i l k d e => by
    obtain ⟨v, h1, h2, h3⟩ := I.slot i l k d e
    exact ⟨v, h1, h2.keep k le (fun b z => kp b (.inr ⟨i, z⟩)), h3⟩, I.out, I.lu, fun p hp => le.ex p _ (I.tab p hp)⟩
theorem upd_keep {p : Addr} {o : HO} (hp : H p = none) (trk : ∀ b, all' T fps b → H b ≠ none) : ∀ b, all' T fps b → upd H p o b = H b := fun b z => by
  rw [upd_ne]
  rintro rfl
  exact trk _ z hp
theorem upd_le {p : Addr} {o : HO} {O : As} (hp : H p = none) (trk : ∀ b, O b → H b ≠ none) : Le (hid H O) (hid (upd H p o) O) := le_of_ext fun a u e => by
  obtain ⟨h1, h2⟩ := hid_some e
  rw [hid_out h1, upd_ne]
  · exact h2
  · rintro rfl
    rw [hp] at h2; cases h2
/-- a new frozen object -/
theorem SOk.alloc {p : Addr} {o : HO} (I : SOk K L T env σ H fps) (hp : H p = none) : SOk K L T env σ (upd H p o) fps ∧ Le (fr T H fps) (fr T (upd H p o) fps) ∧ fr T (upd H p o) fps p = some o := by
  have le := upd_le (o := o) hp I.trk
  refine ⟨I.keep (upd_keep hp I.trk) le, le, ?_⟩
  rw [fr, hid_out fun z => I.trk _ z hp, upd_same]
theorem all_or {f : As} (b : Addr) : all' (or' f T) fps b ↔ f b ∨ all' T fps b := by
  unfold all' or'
  constructor
  · rintro ((h | h) | h)
    · exact .inl h
    · exact .inr (.inl h)
    · exact .inr (.inr h)
  · rintro (h | h | h)
    · exact .inl (.inl h)
    · exact .inl (.inr h)
    · exact .inr h
/-- a new object that is kept hidden -/
theorem SOk.own {p : Addr} {o : HO} (I : SOk K L T env σ H fps) (hp : H p = none) : SOk K L (or' (one' p) T) env σ (upd H p o) fps ∧ fr (or' (one' p) T) (upd H p o) fps = fr T H fps := by
  have np : ∀ b, all' T fps b → b ≠ p := fun b z e => I.trk b z (by rw [e]; exact hp)
  have e : fr (or' (one' p) T) (upd H p o) fps = fr T H fps := by
    funext b
    by_cases hb : b = p
    · subst hb
      rw [fr, hid_in ((all_or (f := one' b) b).mpr (.inl rfl)), fr, hid_out (fun z => np b z rfl), hp]
    · by_cases z : all' T fps b
      · rw [fr, hid_in ((all_or b).mpr (.inr z)), fr, hid_in z]
      · rw [fr, hid_out (fun q => ((all_or b).mp q).elim hb z), fr, hid_out z, upd_ne hb]
  refine ⟨⟨I.len, fun i b x y => ?_, I.dis, fun b z => ?_, fun i l k d q => ?_, I.out, I.lu, fun q hq => ?_⟩, e⟩
  · rcases y with y | y
    · exact np b (.inr ⟨i, x⟩) y
    · exact I.disT i b x y
  · rcases (all_or b).mp z with z | z
    · rw [show b = p from z, upd_same]; exact Option.some_ne_none _
    · rw [upd_ne (np b z)]; exact I.trk b z
  · obtain ⟨v, h1, h2, h3⟩ := I.slot i l k d q
    refine ⟨v, h1, ?_, h3⟩
    rw [show hid (upd H p o) (all' (or' (one' p) T) fps) = fr T H fps from e]
    exact h2.keep k (Le.refl _) fun b z => upd_ne (np b (.inr ⟨i, z⟩))
  · exact (congrFun e q).trans (I.tab q hq)
/-- what was hidden aside is shown -/
theorem SOk.show {f : As} (I : SOk K L (or' f T) env σ H fps) : SOk K L T env σ H fps ∧ Le (fr (or' f T) H fps) (fr T H fps) := by
  have le : Le (fr (or' f T) H fps) (fr T H fps) := hid_mono fun b z => (all_or b).mpr (.inr z)
  refine ⟨⟨I.len, fun i b x y => I.disT i b x (.inr y), I.dis, fun b z => I.trk b ((all_or b).mpr (.inr z)), fun i l k d q => ?_, I.out, I.lu, fun q hq => le.ex q _ (I.tab q hq)⟩, le⟩
  obtain ⟨v, h1, h2, h3⟩ := I.slot i l k d q
  exact ⟨v, h1, h2.keep k le (fun _ _ => rfl), h3⟩
def setF (fps : Nat → As) (i : Nat) (f : As) : Nat → As := fun j => if j = i then f else fps j
theorem setF_same {fps : Nat → As} {i : Nat} {f : As} : setF fps i f i = f := by unfold setF; rw [if_pos rfl]
theorem setF_ne {fps : Nat → As} {i j : Nat} {f : As} (h : j ≠ i) : setF fps i f j = fps j := by unfold setF; rw [if_neg h]
theorem all_setF {i : Nat} {f : As} {b : Addr} (h : all' T (setF fps i f) b) : f b ∨ all' T fps b := by
  rcases h with h | ⟨j, h⟩
  · exact .inr (.inl h)
  · by_cases e : j = i
    · subst e; rw [setF_same] at h; exact .inl h
    · rw [setF_ne e] at h; exact .inr (.inr ⟨j, h⟩)
/-- a value is stored in a slot that is not lent -/
theorem SOk.set {f : As} {i k : Nat} {v : V} {d : PyData} (I : SOk K L (or' f T) env σ H fps) (hi : i < env.length) (R : Rep K (fr (or' f T) H fps) H k v d f) (dis : Dis f T) :
    SOk K L T (env.set i (.sv false k d)) (σ.set i (some v)) H (setF fps i f) ∧ Le (fr (or' f T) H fps) (fr T H (setF fps i f)) := by
  have le : Le (fr (or' f T) H fps) (fr T H (setF fps i f)) := hid_mono fun b z => (all_or b).mpr ((all_setF z))
  have hσ : i < σ.length := by rw [← I.len]; exact hi
  refine ⟨⟨by simp [I.len], fun j b x y => ?_, fun a j ne b x y => ?_, fun b z => I.trk b ((all_or b).mpr (all_setF z)), fun j l k' d' q => ?_, fun j q => ?_, I.lu, fun q hq => le.ex q _ (I.tab q hq)⟩, le⟩
  · by_cases e : j = i
    · subst e; rw [setF_same] at x; exact dis b x y
    · rw [setF_ne e] at x; exact I.disT j b x (.inr y)
  · by_cases e : a = i
    · subst e
      rw [setF_same] at x
      rw [setF_ne (Ne.symm ne)] at y
      exact I.disT j b y (.inl x)
    · rw [setF_ne e] at x
      by_cases e' : j = i
      · subst e'
        rw [setF_same] at y
        exact I.disT a b x (.inl y)
      · rw [setF_ne e'] at y
        exact I.dis a j ne b x y
  · by_cases e : j = i
    · subst e
      rw [List.getElem?_set_self hi] at q
      cases q
      refine ⟨v, List.getElem?_set_self hσ, ?_, fun z => nomatch z⟩
      rw [setF_same]
      exact R.keep k le fun _ _ => rfl
    · rw [List.getElem?_set_ne (Ne.symm e)] at q
      obtain ⟨w, h1, h2, h3⟩ := I.slot j l k' d' q
      refine ⟨w, by rw [List.getElem?_set_ne (Ne.symm e)]; exact h1, ?_, h3⟩
      rw [setF_ne e]
      exact h2.keep k' le fun _ _ => rfl
  · by_cases e : j = i
    · subst e
      exact absurd (List.getElem?_set_self hi) (q _ _ _)
    · rw [setF_ne e]
      refine I.out j fun l k' d' z => q l k' d' ?_
      rw [List.getElem?_set_ne (Ne.symm e)]
      exact z
/-- a slot's datum is frozen -/
theorem SOk.freeze {i k : Nat} {l : Bool} {d : PyData} (I : SOk K L T env σ H fps) (h : env[i]? = some (.sv l k d)) :
    ∃ v, σ[i]? = some (some v) ∧ SOk K L T (env.set i (.sv l 0 d)) σ H (setF fps i none') ∧ Le (fr T H fps) (fr T H (setF fps i none')) ∧ Dat K (fr T H (setF fps i none')) v d := by
  have hi : i < env.length := by
    rw [List.getElem?_eq_some_iff] at h; exact h.1
  have le : Le (fr T H fps) (fr T H (setF fps i none')) := hid_mono fun b z => (all_setF z).elim (fun q => q.elim) fun q => q
  obtain ⟨v, h1, h2, h3⟩ := I.slot i l k d h
  have hd : Dat K (fr T H (setF fps i none')) v d := h2.dat k le fun b z => by
    rw [fr, hid_out]
    rintro (q | ⟨j, q⟩)
    · exact I.disT i b z q
    · by_cases e : j = i
      · subst e; rw [setF_same] at q; exact q
      · rw [setF_ne e] at q; exact I.dis j i e b q z
  refine ⟨v, h1, ⟨by simp [I.len], fun j b x y => ?_, fun a j ne b x y => ?_, fun b z => I.trk b ((all_setF z).elim (fun q => q.elim) fun q => q), fun j l' k' d' q => ?_, fun j q => ?_, I.lu, fun q hq => le.ex q _ (I.tab q hq)⟩, le, hd⟩
  · by_cases e : j = i
    · subst e; rw [setF_same] at x; exact x
    · rw [setF_ne e] at x; exact I.disT j b x y
  · by_cases e : a = i
    · subst e; rw [setF_same] at x; exact x
    · rw [setF_ne e] at x
      by_cases e' : j = i
      · subst e'; rw [setF_same] at y; exact y
      · rw [setF_ne e'] at y; exact I.dis a j ne b x y
  · by_cases e : j = i
    · subst e
      rw [List.getElem?_set_self hi] at q
      cases q
      refine ⟨v, h1, ?_, h3⟩
      rw [setF_same]
      exact ⟨rfl, hd⟩
    · rw [List.getElem?_set_ne (Ne.symm e)] at q
      obtain ⟨w, g1, g2, g3⟩ := I.slot j l' k' d' q
      refine ⟨w, g1, ?_, g3⟩
      rw [setF_ne e]
      exact g2.keep k' le fun _ _ => rfl
  · by_cases e : j = i
    · subst e; rw [setF_same]
    · rw [setF_ne e]
      refine I.out j fun l' k' d' z => q l' k' d' ?_
      rw [List.getElem?_set_ne (Ne.symm e)]
      exact z
/-- a slot's datum is taken out -/
theorem SOk.move {i k : Nat} {l : Bool} {d : PyData} (I : SOk K L T env σ H fps) (h : env[i]? = some (.sv l k d)) :
    ∃ v, σ[i]? = some (some v) ∧ SOk K L (or' (fps i) T) (env.set i .un) σ H (setF fps i none') ∧ fr (or' (fps i) T) H (setF fps i none') = fr T H fps ∧ Rep K (fr T H fps) H k v d (fps i) := by
  have hi : i < env.length := by
    rw [List.getElem?_eq_some_iff] at h; exact h.1
  obtain ⟨v, h1, h2, h3⟩ := I.slot i l k d h
  have al : ∀ b, all' (or' (fps i) T) (setF fps i none') b ↔ all' T fps b := fun b => by
    rw [all_or]
    constructor
    · rintro (q | q)
      · exact .inr ⟨i, q⟩
      · exact (all_setF q).elim (fun z => z.elim) fun z => z
    · rintro (q | ⟨j, q⟩)
      · exact .inr (.inl q)
      · by_cases e : j = i
        · subst e; exact .inl q
        · exact .inr (.inr ⟨j, by rw [setF_ne e]; exact q⟩)
  have e : fr (or' (fps i) T) H (setF fps i none') = fr T H fps := by
    have : all' (or' (fps i) T) (setF fps i none') = all' T fps := funext fun b => propext (al b)
    rw [fr, this]
  refine ⟨v, h1, ⟨by simp [I.len], fun j b x y => ?_, fun a j ne b x y => ?_, fun b z => I.trk b ((al b).mp z), fun j l' k' d' q => ?_, fun j q => ?_, I.lu, fun q hq => (congrFun e q).trans (I.tab q hq)⟩, e, h2⟩
  · by_cases e : j = i
    · subst e; rw [setF_same] at x; exact x
    · rw [setF_ne e] at x
      exact y.elim (fun y => I.dis j i e b x y) fun y => I.disT j b x y
  · by_cases e : a = i
    · subst e; rw [setF_same] at x; exact x
    · rw [setF_ne e] at x
      by_cases e' : j = i
      · subst e'; rw [setF_same] at y; exact y
      · rw [setF_ne e'] at y; exact I.dis a j ne b x y
  · by_cases ej : j = i
    · subst ej
      rw [List.getElem?_set_self hi] at q
      cases q
    · rw [List.getElem?_set_ne (Ne.symm ej)] at q
      obtain ⟨w, g1, g2, g3⟩ := I.slot j l' k' d' q
      refine ⟨w, g1, ?_, g3⟩
      rw [setF_ne ej, show hid H (all' (or' (fps i) T) (setF fps i none')) = fr T H fps from e]
      exact g2
  · by_cases ej : j = i
    · subst ej; rw [setF_same]
    · rw [setF_ne ej]
      refine I.out j fun l' k' d' z => q l' k' d' ?_
      rw [List.getElem?_set_ne (Ne.symm ej)]
      exact z
end
end Fx
set_option Elab.async false
set_option linter.all false
set_option maxRecDepth 100000
/-! M3: the small language and what it computes. -/
namespace Fx
open PySem PySem.Spec PyProof.Rows L2

inductive Rs (α : Type) where
  | ok (a : α)
  | ex (x : PyData)
  | bad
def Rs.bind {α β : Type} : Rs α → (α → Rs β) → Rs β
  | .ok a, f => f a
  | .ex x, _ => .ex x
  | .bad, _ => .bad
def Rs.of {α : Type} : Option α → Rs α
  | some a => .ok a
  | none => .bad

inductive Ty where | int | bool | str | tuple | list | dict
inductive B2 where | add | sub | mul | fdiv | mod | pow | shr | shl
inductive C2 where | eq | ne | lt | le | gt | ge | inn | nin
inductive P1 where | neg | int | abs | len

/-- pure: nothing is made, nothing is changed -/
inductive P where
  | k (d : PyData)
  | at (i : Nat)
  | g (n : Nat)
  | ix (a b : P)
  | b2 (o : B2) (a b : P)
  | p1 (o : P1) (a : P)
mutual
inductive Tg where
  | nm (i : Nat)
  | tp (ts : Tgs)
inductive Tgs where
  | nil
  | cons (t : Tg) (ts : Tgs)
end
/-- an element or a test of a generator expression -/
inductive Qx where
  | p (p : P)
  | c2 (o : C2) (a b : P)
/-- what takes a generator expression -/
inductive Gc where | sum | tuple | all | any
inductive Bi where | len | abs | int | tuple | list | sorted | sum | min | max | min2 | max2
inductive Mu where | append | pop | popAt | reverse | extend
mutual
inductive E where
  | p (p : P)
  | tup (es : Es)
  | lst (es : Es)
  | dnew
  | dlit (ks : List Key) (es : Es)
  | b2 (o : B2) (a b : E)
  | neg (a : E)
  | c2 (o : C2) (a b : E)
  | isN (a : E) (neg : Bool)
  | isB (a : E) (b : Bool)
  | ch (o o' : C2) (a b c : E)
  | not (a : E)
  | and (a b : E)
  | or (a b : E)
  | ite (t : Tt) (a b : E)
  | ix (a b : E)
  | sl (a : E) (lo hi : Eo)
  | rev (a : E)
  | isa (t : Ty) (a : E)
  | bi (b : Bi) (es : Es)
  | mu (m : Mu) (i : Nat) (ps : List P) (ke : Nat) (es : Es)
  | call (f : Nat) (pm : Option (List Nat)) (as : Ar)
  | lc (own : List Nat) (tg : Tg) (it : It) (ts : Tts) (e : E)
  | gen (g : Gc) (tg : Tg) (it : It) (ts : List Qx) (q : Qx)
  | nev
inductive Eo where
  | none
  | some (e : E)
inductive Es where
  | nil
  | cons (e : E) (es : Es)
inductive Ar where
  | nil
  | v (e : E) (as : Ar)
  | l (i : Nat) (as : Ar)
inductive It where
  | e (e : E)
  | range (es : Es)
  | enum (e : E)
inductive Tt where
  | c2 (o : C2) (a b : E)
  | ch (o o' : C2) (a b c : E)
  | isN (a : E) (neg : Bool)
  | isB (a : E) (b : Bool)
  | not (t : Tt)
  | and (t u : Tt)
  | or (t u : Tt)
  | v (e : E)
inductive Tts where
  | nil
  | cons (t : Tt) (ts : Tts)
end
mutual
inductive S where
  | as (t : Tg) (k : Nat) (e : E)
  | par (i j : Nat) (ki kj : Nat) (a b : E)
  | put (i : Nat) (ps : List P) (x : P) (k : Nat) (e : E)
  | aug (i : Nat) (o : B2) (e : E)
  | augp (i : Nat) (ps : List P) (x : P) (o : B2) (e : P)
  | dput (i : Nat) (x : P) (k : Nat) (e : E)
  | ex (e : E)
  | iff (t : Tt) (a b : Ss)
  | for (tg : Tg) (it : It) (b : Ss)
  | whl (t : Tt) (b : Ss)
  | ret (e : E)
  | retN
  | brk
  | cont
  | pas
  | nev
inductive Ss where
  | nil
  | cons (s : S) (ss : Ss)
end

/-! ### values -/
def bitsOk (a b : Int) : Bool := decide (a.natAbs.log2 < 64) || decide (b.natAbs.log2 < 64) || decide (a.natAbs.log2 + b.natAbs.log2 < 134000000)
def b2 : B2 → PyData → PyData → Option PyData
  | .add, .int a, .int b => some (.int (a + b))
  | .add, .str a, .str b => if a.length + b.length ≤ 16777216 then some (.str (a ++ b)) else none
  | .add, .tuple a, .tuple b => if a.length + b.length ≤ 16777216 then some (.tuple (a ++ b)) else none
  | .add, .list a, .list b => if a.length + b.length ≤ 16777216 then some (.list (a ++ b)) else none
  | .sub, .int a, .int b => some (.int (a - b))
  | .mul, .int a, .int b => if bitsOk a b = true then some (.int (a * b)) else none
  | .mul, .list a, .int b => if b < 9223372036854775808 ∧ -9223372036854775808 ≤ b ∧ a.length * b.toNat ≤ 16777216 then some (.list (List.replicate b.toNat a).flatten) else none
  | .fdiv, .int a, .int b => if b ≠ 0 ∧ b.natAbs.log2 < 9000 then some (.int (a.fdiv b)) else none
  | .mod, .int a, .int b => if b ≠ 0 then some (.int (a.fmod b)) else none
  | .pow, .int a, .int b => if 0 ≤ b ∧ b ≤ 1000000 ∧ a.natAbs < 2 ^ 64 then some (.int (a ^ b.toNat)) else none
  | .shl, .int a, .int b => if 0 ≤ b ∧ b ≤ 1000000 ∧ a.natAbs < 2 ^ 64 then some (.int (a * 2 ^ b.toNat)) else none
  | .shr, .int a, .int b => if 0 ≤ b then some (.int (a / 2 ^ b.toNat)) else none
  | _, _, _ => none
def anyEq (x : PyData) (xs : List PyData) : Bool := xs.any fun y => PyData.eqv y x
/-- x == y may be asked -/
def eqOk (d : PyData) : Bool := SeqAt.shaped d && d.plain
/-- x < y may be asked -/
def ltOk (a b : PyData) : Bool := PySem.W.alike a b && a.plain && b.plain && decide (a.depth ≤ 64) && (match a with | .none => false | _ => true)
def inOk (x : PyData) (xs : List PyData) : Bool := x.plain && PyData.plainAll xs && decide (x.depth ≤ 64)
/-- keys of dicts -/
def keyOf : PyData → Option Key
  | .int i => some (.inl i)
  | .str x => some (.inr x)
  | _ => none
def dgetD : List (PyData × PyData) → Key → Option PyData
  | [], _ => none
  | p :: r, k => if keyOf p.1 = some k then some p.2 else dgetD r k
/-- in its place (there but once), or at the end -/
def dputD : List (PyData × PyData) → Key → PyData → Option (List (PyData × PyData))
  | [], k, v => some [(keyD k, v)]
  | p :: r, k, v => if keyOf p.1 = some k then (if (dgetD r k).isSome = true then none else some ((p.1, v) :: r)) else (dputD r k v).map (p :: ·)
def ii : PyData → PyData → Option (Int × Int)
  | .int i, .int j => some (i, j)
  | _, _ => none
theorem ii_some {a b : PyData} {p : Int × Int} (h : ii a b = some p) : a = .int p.1 ∧ b = .int p.2 := by
  cases a <;> cases b <;> first | (cases h; exact ⟨rfl, rfl⟩) | cases h
def c2 : C2 → PyData → PyData → Option Bool
  | .eq, a, b => match ii a b with
    | some p => some (decide (p.1 = p.2))
    | none => if eqOk a = true ∧ eqOk b = true then some (PyData.eqv a b) else none
  | .ne, a, b => match ii a b with
    | some p => some (!decide (p.1 = p.2))
    | none => if eqOk a = true ∧ eqOk b = true then some (!PyData.eqv a b) else none
  | .lt, a, b => match ii a b with
    | some p => some (decide (p.1 < p.2))
    | none => if ltOk a b = true then some (PySem.W.dataLt a b) else none
  | .le, a, b => match ii a b with
    | some p => some (decide (p.1 ≤ p.2))
    | none => if ltOk a b = true then some (!PySem.W.dataLt b a) else none
  | .gt, a, b => match ii a b with
    | some p => some (decide (p.2 < p.1))
    | none => if ltOk a b = true then some (PySem.W.dataLt b a) else none
  | .ge, a, b => match ii a b with
    | some p => some (decide (p.2 ≤ p.1))
    | none => if ltOk a b = true then some (!PySem.W.dataLt a b) else none
  | .inn, x, y => match y with
    | .list xs => if inOk x xs = true then some (anyEq x xs) else none
    | .tuple xs => if inOk x xs = true then some (anyEq x xs) else none
    | .dict kvs => (keyOf x).map fun k => (dgetD kvs k).isSome
    | _ => none
  | .nin, x, y => match y with
    | .list xs => if inOk x xs = true then some (!anyEq x xs) else none
    | .tuple xs => if inOk x xs = true then some (!anyEq x xs) else none
    | .dict kvs => (keyOf x).map fun k => !(dgetD kvs k).isSome
    | _ => none
def p1 : P1 → PyData → Option PyData
  | .neg, .int a => some (.int (-a))
  | .int, .int a => some (.int a)
  | .int, .bool b => some (.int (if b then 1 else 0))
  | .abs, .int a => some (.int (if a < 0 then -a else a))
  | .len, .list xs => some (.int xs.length)
  | .len, .tuple xs => some (.int xs.length)
  | .len, .str x => if x.length ≤ 16777216 then some (.int x.length) else none
  | .len, .dict kvs => some (.int kvs.length)
  | _, _ => none
/-- an item -/
def ixD : PyData → PyData → Option PyData
  | .list xs, .int i => atI xs i
  | .tuple xs, .int i => atI xs i
  | .str x, .int i => if x.length ≤ 16777216 then (atI x.cps.toList i).map fun c => .str ⟨#[c]⟩ else none
  | .dict kvs, y => (keyOf y).bind fun k => dgetD kvs k
  | _, _ => none
def cutD (xs : List PyData) (lo hi : Option Int) : List PyData := (xs.drop (HT.sIx xs.length 0 lo)).take (HT.sIx xs.length xs.length hi - HT.sIx xs.length 0 lo)
def slD : PyData → Option Int → Option Int → Option PyData
  | .list xs, lo, hi => some (.list (cutD xs lo hi))
  | .tuple xs, lo, hi => some (.tuple (cutD xs lo hi))
  | _, _, _ => none
def revD : PyData → Option PyData
  | .list xs => some (.list xs.reverse)
  | _ => none
def allInt : List PyData → Option (List Int)
  | [] => some []
  | .int i :: ds => (allInt ds).map (i :: ·)
  | _ :: _ => none
def isTy : Ty → PyData → Bool
  | .int, .int _ => true
  | .int, .bool _ => true
  | .bool, .bool _ => true
  | .str, .str _ => true
  | .tuple, .tuple _ => true
  | .list, .list _ => true
  | .dict, .dict _ => true
  | _, _ => false
def isaD (t : Ty) (d : PyData) : Option PyData := if d.plain = true then some (.bool (isTy t d)) else none
def isDict : PyData → Bool
  | .dict _ => true
  | _ => false
/-- xs can be sorted -/
def alikeOk (xs : List PyData) : Bool := (xs.all fun x => xs.all fun y => PySem.W.alike x y) && decide (PyData.depthAll xs ≤ 64)
def sortOk (xs : List PyData) : Bool := decide (xs.length ≤ 16777216) && alikeOk xs &&
  (xs.all (fun x => match x with | .tuple (_ :: _) => true | _ => false) || xs.all (fun x => match x with | .tuple _ => false | .none => false | _ => true))
def sortD (xs : List PyData) : List PyData := xs.mergeSort (PySem.W.dataLe false id)
def noNone (xs : List PyData) : Bool := xs.all fun x => match x with | .none => false | _ => true
def g2 (f : PyData → PyData → Option PyData) : List PyData → Option PyData
  | [x, y] => f x y
  | _ => none
def g1 (f : PyData → Option PyData) : List PyData → Option PyData
  | [x] => f x
  | _ => none
def tupD : PyData → Option PyData
  | .list xs => some (.tuple xs)
  | .tuple xs => some (.tuple xs)
  | _ => none
def lstD : PyData → Option PyData
  | .list xs => some (.list xs)
  | .tuple xs => some (.list xs)
  | _ => none
def sumD : PyData → Option PyData
  | .list xs => (allInt xs).map fun ns => .int ns.sum
  | _ => none
def sortedD : PyData → Option PyData
  | .list xs => if sortOk xs = true then some (.list (sortD xs)) else none
  | _ => none
def minDd : PyData → Option PyData
  | .list (x :: xs) => if (alikeOk (x :: xs) && noNone (x :: xs) && !isCont (PySem.W.minD x xs)) = true then some (PySem.W.minD x xs) else none
  | _ => none
def maxDd : PyData → Option PyData
  | .list (x :: xs) => if (alikeOk (x :: xs) && noNone (x :: xs) && !isCont (PySem.W.maxD x xs)) = true then some (PySem.W.maxD x xs) else none
  | _ => none
def max2D : PyData → PyData → Option PyData
  | .int i, .int j => some (.int (if j > i then j else i))
  | _, _ => none
def min2D : PyData → PyData → Option PyData
  | .int i, .int j => some (.int (if j < i then j else i))
  | _, _ => none
def bi : Bi → List PyData → Option PyData
  | .len => g1 (p1 .len)
  | .abs => g1 (p1 .abs)
  | .int => g1 (p1 .int)
  | .tuple => g1 tupD
  | .list => g1 lstD
  | .sorted => g1 sortedD
  | .sum => g1 sumD
  | .min => g1 minDd
  | .max => g1 maxDd
  | .min2 => g2 min2D
  | .max2 => g2 max2D
def truth : PyData → Option Bool
  | .none => some false
  | .bool b => some b
  | .int i => some (i != 0)
  | .str x => if x.length ≤ 16777216 then some (!x.cps.isEmpty) else none
  | .list xs => some (!xs.isEmpty)
  | .tuple xs => some (!xs.isEmpty)
  | .dict _ => none

/-! ### slots and paths -/
def slot (env : EnvD) (i : Nat) : Option (Nat × PyData) := match env[i]? with
  | some (.sv _ k d) => some (k, d)
  | _ => none
def setS (env : EnvD) (i : Nat) (k : Nat) (d : PyData) : Option EnvD := match env[i]? with
  | some (.sv true _ _) => none
  | some _ => some (env.set i (.sv false k d))
  | none => none
mutual
def bindT : Tg → PyData → EnvD → Option EnvD
  | .nm i, d, env => setS env i 0 d
  | .tp ts, .tuple ds, env => bindTs ts ds env
  | .tp ts, .list ds, env => bindTs ts ds env
  | .tp _, _, _ => none
def bindTs : Tgs → List PyData → EnvD → Option EnvD
  | .nil, [], env => some env
  | .cons t ts, d :: ds, env => (bindT t d env).bind fun e => bindTs ts ds e
  | _, _, _ => none
end
/-- the functions that may be called, how deep their results are owned, the constants of the module -/
structure Orc where
  fn : Nat → List SV → Rs (PyData × List SV)
  ret : Nat → Nat
  con : Nat → Option PyData
def scal : PyData → Option PyData
  | .int i => some (.int i)
  | .str s => some (.str s)
  | _ => none
def evP (c : Orc) : P → EnvD → Option (Nat × PyData)
  | .k d, _ => some (0, d)
  | .at i, env => slot env i
  | .g n, _ => (c.con n).map fun d => (0, d)
  | .ix a b, env => (evP c a env).bind fun x => (evP c b env).bind fun y => (ixD x.2 y.2).map fun d => ((if isCont x.2 = true then x.1 - 1 else 0), d)
  | .b2 o a b, env => (evP c a env).bind fun x => (evP c b env).bind fun y => ((b2 o x.2 y.2).bind scal).map fun d => (0, d)
  | .p1 o a, env => (evP c a env).bind fun x => (p1 o x.2).map fun d => (0, d)
/-- a pure one as a value to be owned to depth k: a frozen datum, no container, or a whole slot (which is frozen, or taken) -/
def evPk (c : Orc) (p : P) (k : Nat) (env : EnvD) : Option (PyData × EnvD) := match evP c p env with
  | none => none
  | some (j, d) => if isCont d = false ∨ (k = 0 ∧ j = 0) then some (d, env) else match p with
    | .at i => (match env[i]? with
      | some (.sv l j' _) => if k = 0 then some (d, env.set i (.sv l 0 d)) else if l = false ∧ j' = k then some (d, env.set i .un) else none
      | _ => none)
    | _ => none
/-- read where it stands: its own items are frozen -/
def evPb (c : Orc) (p : P) (env : EnvD) : Option PyData := match evP c p env with
  | none => none
  | some (j, d) => if j ≤ 1 ∨ isCont d = false then some d else none
/-- the path of a slot: the last index first in ps, last in the result -/
def pathR (c : Orc) (env : EnvD) : List P → Option (List PyData)
  | [] => some []
  | p :: ps => (pathR c env ps).bind fun js => (evP c p env).map fun x => js ++ [x.2]
def alterD (f : PyData → Option (PyData × PyData)) : List PyData → PyData → Option (PyData × PyData)
  | [], d => f d
  | .int i :: js, .list xs => (ixN xs.length i).bind fun j => (xs[j]?).bind fun d => (alterD f js d).map fun r => (.list (xs.set j r.1), r.2)
  | _, _ => none
/-- the place at a path -/
def walkD : List PyData → PyData → Option PyData
  | [], d => some d
  | .int i :: js, .list xs => (ixN xs.length i).bind fun j => (xs[j]?).bind fun d => walkD js d
  | _, _ => none
def muD : Mu → List PyData → List PyData → Option (List PyData × PyData)
  | .append, xs, [y] => if xs.length < 16777216 then some (xs ++ [y], .none) else none
  | .pop, xs, [] => (xs[xs.length - 1]?).map fun y => (xs.dropLast, y)
  | .popAt, xs, [.int i] => if -9223372036854775808 ≤ i ∧ i < 9223372036854775808 then (ixN xs.length i).bind fun j => (xs[j]?).map fun y => (xs.eraseIdx j, y) else none
  | .reverse, xs, [] => some (xs.reverse, .none)
  | .extend, _, _ => none
  | _, _, _ => none
def muF (m : Mu) (as : List PyData) : PyData → Option (PyData × PyData)
  | .list xs => (muD m xs as).map fun r => (.list r.1, r.2)
  | _ => none
def putF' (x y : PyData) : PyData → Option (PyData × PyData)
  | .list xs => match x with
    | .int i => (ixN xs.length i).bind fun j => (xs[j]?).map fun _ => (.list (xs.set j y), .none)
    | _ => none
  | _ => none
def ipOk : B2 → PyData → PyData → Bool
  | .add, .int _, .int _ => true
  | .add, .str _, .str _ => true
  | .sub, .int _, .int _ => true
  | .mul, .int _, .int _ => true
  | .fdiv, .int _, .int b => decide (0 < b)
  | .mod, .int _, .int b => decide (0 < b)
  | _, _, _ => false
/-- a op= b -/
def ipD (o : B2) (a b : PyData) : Option PyData := if ipOk o a b = true then b2 o a b else none
def isListS (env : EnvD) (i : Nat) : Bool := match slot env i with
  | some (_, .list _) => true
  | _ => false
/-- the datum d of slot i, owned to the depth k, is altered at a path whose place is owned to the depth n -/
def alterAt (env : EnvD) (i : Nat) (l : Bool) (k : Nat) (d : PyData) (n : Nat) (js : List PyData) (f : PyData → Option (PyData × PyData)) : Option (PyData × EnvD) :=
  if k = js.length + n then (alterD f js d).map fun r => (r.2, env.set i (.sv l k r.1)) else none
/-- a list stands at the path, its items owned to the depth ke -/
def pathOk (js : List PyData) (k0 ke : Nat) (d : PyData) : Bool := decide (k0 = js.length + (ke + 1)) && (match walkD js d with
  | some (.list _) => true
  | _ => false)
def alterS (c : Orc) (env : EnvD) (i n : Nat) (ps : List P) (f : PyData → Option (PyData × PyData)) : Option (PyData × EnvD) :=
  (pathR c env ps).bind fun js => match env[i]? with
    | some (.sv l k d) => alterAt env i l k d n js f
    | _ => none

/-- d[js][j] op= y, item by item -/
def augS (c : Orc) (env : EnvD) (i : Nat) (ps : List P) (o : B2) (j y : PyData) : Option (PyData × EnvD) :=
  (pathR c env ps).bind fun js => match env[i]? with
    | some (.sv l k d) => (walkD js d).bind fun n => (ixD n j).bind fun x => (ipD o x y).bind fun z => alterAt env i l k d 1 js (putF' j z)
    | _ => none

/-- d[x] = y, d the dict of slot i, its values owned to the depth k -/
def dputS (env : EnvD) (i k : Nat) (x y : PyData) : Option EnvD := (keyOf x).bind fun ky => match env[i]? with
  | some (.sv l k0 (.dict kvs)) => if k0 = k + 1 ∧ kvs.length < 16777216 then (dputD kvs ky y).map fun kvs' => env.set i (.sv l k0 (.dict kvs')) else none
  | _ => none
def wipeD (env : EnvD) : List Nat → EnvD
  | [] => env
  | i :: is => (wipeD env is).set i .un
def ownOk (env : EnvD) (own : List Nat) : Bool := own.all fun i => match env[i]? with
  | some .un => true
  | some (.sv false 0 _) => true
  | _ => false
def backD (old env : EnvD) : List Nat → EnvD
  | [] => env
  | i :: is => (backD old env is).set i (old[i]?.getD .un)

inductive Fl where
  | nx (env : EnvD)
  | rt (d : PyData) (env : EnvD)
  | bk (env : EnvD)
  | ct (env : EnvD)
def forL (bind : PyData → EnvD → Option EnvD) (body : EnvD → Rs Fl) : List PyData → EnvD → Rs Fl
  | [], env => .ok (.nx env)
  | x :: xs, env => (Rs.of (bind x env)).bind fun e => (body e).bind fun f => match f with
      | .nx e' => forL bind body xs e'
      | .ct e' => forL bind body xs e'
      | .bk e' => .ok (.nx e')
      | .rt d e' => .ok (.rt d e')
/-- n turns at most -/
def whlN (t : EnvD → Rs (Bool × EnvD)) (body : EnvD → Rs Fl) : Nat → EnvD → Rs Fl
  | 0, _ => .bad
  | n + 1, env => (t env).bind fun r => match r.1 with
    | false => .ok (.nx r.2)
    | true => (body r.2).bind fun f => match f with
      | .nx e' => whlN t body n e'
      | .ct e' => whlN t body n e'
      | .bk e' => .ok (.nx e')
      | .rt d e' => .ok (.rt d e')
def Rs.isBad {α : Type} : Rs α → Bool
  | .bad => true
  | _ => false
open Classical in
noncomputable def whlD (t : EnvD → Rs (Bool × EnvD)) (body : EnvD → Rs Fl) (env : EnvD) : Rs Fl :=
  if h : ∃ n, (whlN t body n env).isBad = false then whlN t body h.choose env else .bad

def evQ (c : Orc) : Qx → EnvD → Option PyData
  | .p p, env => (evP c p env).bind fun x => if isCont x.2 = false ∨ x.1 = 0 then some x.2 else none
  | .c2 o a b, env => (evP c a env).bind fun x => (evP c b env).bind fun y => (c2 o x.2 y.2).map .bool
/-- tests, one behind another -/
def evQs (c : Orc) : List Qx → EnvD → Option Bool
  | [], _ => some true
  | q :: qs, env => (evQ c q env).bind fun d => match d with
    | .bool true => evQs c qs env
    | .bool false => some false
    | _ => none
/-- what comes of the items -/
def genL (c : Orc) (tg : Tg) (ts : List Qx) (q : Qx) : List PyData → EnvD → Option (List PyData)
  | [], _ => some []
  | x :: xs, env => (bindT tg x env).bind fun e => (evQs c ts e).bind fun b => match b with
    | true => (evQ c q e).bind fun r => (genL c tg ts q xs env).map (r :: ·)
    | false => genL c tg ts q xs env
def allBool : List PyData → Option (List Bool)
  | [] => some []
  | .bool b :: ds => (allBool ds).map (b :: ·)
  | _ :: _ => none
def genF : Gc → List PyData → Option PyData
  | .sum, rs => (allInt rs).map fun ns => .int ns.sum
  | .tuple, rs => if rs.length ≤ 16777216 then some (.tuple rs) else none
  | .all, rs => (allBool rs).map fun bs => .bool (bs.all id)
  | .any, rs => (allBool rs).map fun bs => .bool (bs.any id)
/-- numbered -/
def enumL (ds : List PyData) : List PyData := (List.range ds.length).map fun i => .tuple [.int (i : Nat), ds.getD i .none]
def enumD : PyData → Option (List PyData)
  | .list ds => some (enumL ds)
  | _ => none
/-- no exception may leave -/
def Rs.noEx {α : Type} : Rs α → Rs α
  | .ok a => .ok a
  | _ => .bad
/-- the loop of a list comprehension -/
def lcL (bind : PyData → EnvD → Option EnvD) (own : List Nat) (t : EnvD → Rs (Bool × EnvD)) (f : EnvD → Rs (PyData × EnvD)) : List PyData → EnvD → Rs (List PyData × EnvD)
  | [], env => .ok ([], env)
  | x :: xs, env => (Rs.of (bind x env)).bind fun e => (t e).noEx.bind fun r => match r.1 with
      | false => lcL bind own t f xs (wipeD r.2 own)
      | true => (f r.2).noEx.bind fun y => (lcL bind own t f xs (wipeD y.2 own)).bind fun z => .ok (y.1 :: z.1, z.2)
def allP : Es → Bool
  | .nil => true
  | .cons (.p _) es => allP es
  | .cons _ _ => false
/-- operands: early ones as data; late ones, read in the end -/
def finO (c : Orc) (env : EnvD) : List (PyData ⊕ P) → Option (List PyData)
  | [] => some []
  | .inl d :: r => (finO c env r).map (d :: ·)
  | .inr p :: r => (evPb c p env).bind fun d => (finO c env r).map (d :: ·)
def lateE : E → Bool → Bool
  | .p (.at _), _ => true
  | .p _, b => b
  | _, _ => false
def toP : E → P
  | .p p => p
  | _ => .k .none
abbrev Ops := EnvD → Rs (List (PyData ⊕ P) × EnvD)
def opd (c : Orc) (late : Bool) (p : P) (v : EnvD → Rs (PyData × EnvD)) (rest : Ops) : Ops := fun env =>
  if late = true then (if (evP c p env).isSome = true then (rest env).bind fun z => .ok (.inr p :: z.1, z.2) else .bad) else (v env).bind fun r => (rest r.2).bind fun z => .ok (.inl r.1 :: z.1, z.2)
def isP : E → Bool
  | .p _ => true
  | _ => false
/-- two operands -/
def opd2 (c : Orc) (a b : E) (va vb : EnvD → Rs (PyData × EnvD)) : Ops := opd c (lateE a (isP b)) (toP a) va (opd c (lateE b true) (toP b) vb fun env => .ok ([], env))
def opd1 (c : Orc) (a : E) (va : EnvD → Rs (PyData × EnvD)) : Ops := opd c (lateE a true) (toP a) va fun env => .ok ([], env)
def fin (c : Orc) (o : Ops) (g : List PyData → Option PyData) : EnvD → Rs (PyData × EnvD) := fun env => (o env).bind fun z => (Rs.of ((finO c z.2 z.1).bind g)).bind fun d => .ok (d, z.2)
/-- the values of lent slots behind a call -/
def lentBack : List (Option Nat) → List SV → EnvD → EnvD
  | some i :: is, .sv true k d :: r, env => lentBack is r (match env[i]? with
    | some (.sv l _ _) => env.set i (.sv l k d)
    | _ => env)
  | some i :: is, _ :: r, env => lentBack is r (env.set i .un)
  | _ :: is, _ :: r, env => lentBack is r env
  | _, _, env => env
def permD {α : Type} (pm : Option (List Nat)) (xs : List α) : Option (List α) := match pm with
  | none => some xs
  | some js => if js.length = xs.length ∧ js.Nodup then js.mapM fun j => xs[j]? else none
def rangeD : List PyData → Option (List PyData)
  | [.int b] => if -4611686018427387904 ≤ b ∧ b < 4611686018427387904 then some ((List.range b.toNat).map fun (i : Nat) => PyData.int (i : Int)) else none
  | [.int a, .int b] => if -4611686018427387904 ≤ a ∧ a < 4611686018427387904 ∧ -4611686018427387904 ≤ b ∧ b < 4611686018427387904 then some ((List.range (b - a).toNat).map fun (i : Nat) => PyData.int (a + (i : Int))) else none
  | _ => none
def itemsD : PyData → Option (List PyData)
  | .list xs => some xs
  | .tuple xs => some xs
  | _ => none
/-- a result of one's own: k at most 1 where it is a container -/
def own1 (k : Nat) (d : PyData) : Option PyData := if k ≤ 1 ∨ isCont d = false then some d else none
def c2B (o : C2) (x y : PyData) : Option PyData := (c2 o x y).map .bool
def isNone : PyData → Bool
  | .none => true
  | _ => false
def isBool (b : Bool) : PyData → Option PyData
  | .bool x => some (.bool (decide (x = b)))
  | _ => none
def argSV : List (Option Nat) → List PyData → EnvD → Option (List SV)
  | [], _, _ => some []
  | none :: r, d :: ds, env => (argSV r ds env).map (.sv false 0 d :: ·)
  | some i :: r, ds, env => (match env[i]? with
    | some (.sv _ k d) => (argSV r ds env).map (.sv true k d :: ·)
    | _ => none)
  | none :: _, [], _ => none
def lents : Ar → List (Option Nat)
  | .nil => []
  | .v _ as => none :: lents as
  | .l i as => some i :: lents as
def callD (c : Orc) (f k : Nat) (pm : Option (List Nat)) (ls : List (Option Nat)) (ds : List PyData) (env : EnvD) : Rs (PyData × EnvD) :=
  if (ls.filterMap id).Nodup then (Rs.of ((argSV ls ds env).bind (permD pm))).bind fun as => (Rs.of (permD pm ls)).bind fun ls' => (c.fn f as).bind fun r =>
    if isCont r.1 = false ∨ k = 0 ∨ k = c.ret f then .ok (r.1, lentBack ls' r.2 env) else .bad
  else .bad

mutual
/-- e to be owned to the depth k (0: frozen) -/
noncomputable def ev (c : Orc) : E → Nat → EnvD → Rs (PyData × EnvD)
  | .p p, k, env => Rs.of (evPk c p k env)
  | .tup es, _, env => (evs c es 0 env).bind fun r => if r.1.length ≤ 16777216 then .ok (.tuple r.1, r.2) else .bad
  | .lst es, k, env => (evs c es (k - 1) env).bind fun r => if r.1.length ≤ 16777216 then .ok (.list r.1, r.2) else .bad
  | .dnew, _, env => .ok (.dict [], env)
  | .dlit ks es, k, env => (evs c es (k - 1) env).bind fun r => if ks.length ≤ 15 ∧ ks.Nodup ∧ ks ≠ [] then .ok (.dict ((ks.map keyD).zip r.1), r.2) else .bad
  | .b2 o a b, k, env => fin c (opd2 c a b (ev c a 0) (ev c b 0)) (fun ds => (g2 (b2 o) ds).bind (own1 k)) env
  | .neg a, _, env => fin c (opd1 c a (ev c a 0)) (g1 (p1 .neg)) env
  | .c2 o a b, _, env => fin c (opd2 c a b (ev c a 0) (ev c b 0)) (g2 (c2B o)) env
  | .isN a n, _, env => fin c (opd1 c a (ev c a 0)) (g1 fun d => some (.bool (isNone d ^^ n))) env
  | .isB a b, _, env => fin c (opd1 c a (ev c a 0)) (g1 (isBool b)) env
  | .ch o o' x y z, _, env => (ev c x 0 env).bind fun r1 => (ev c y 0 r1.2).bind fun r2 => (Rs.of (c2 o r1.1 r2.1)).bind fun t => match t with
    | false => .ok (.bool false, r2.2)
    | true => (ev c z 0 r2.2).bind fun r3 => (Rs.of (c2 o' r2.1 r3.1)).bind fun u => .ok (.bool u, r3.2)
  | .not a, _, env => (ev c a 0 env).bind fun r => (Rs.of (truth r.1)).bind fun t => .ok (.bool (!t), r.2)
  | .and a b, k, env => (ev c a 0 env).bind fun r => (Rs.of (truth r.1)).bind fun t => if t = true then ev c b k r.2 else if isCont r.1 = false ∨ k = 0 then .ok r else .bad
  | .or a b, k, env => (ev c a 0 env).bind fun r => (Rs.of (truth r.1)).bind fun t => if t = true then (if isCont r.1 = false ∨ k = 0 then .ok r else .bad) else ev c b k r.2
  | .ite t a b, k, env => (evT c t env).bind fun r => if r.1 = true then ev c a k r.2 else ev c b k r.2
  | .ix a b, k, env => fin c (opd2 c a b (ev c a 0) (ev c b 0)) (fun ds => (g2 ixD ds).bind fun d => if k = 0 ∨ isCont d = false then some d else none) env
  | .sl a lo hi, k, env => (ev c a 0 env).bind fun r => (evO c lo r.2).bind fun l => (evO c hi l.2).bind fun u => (Rs.of ((slD r.1 l.1 u.1).bind (own1 k))).bind fun d => .ok (d, u.2)
  | .rev a, k, env => fin c (opd1 c a (ev c a 0)) (fun ds => (g1 revD ds).bind (own1 k)) env
  | .isa t a, _, env => fin c (opd1 c a (ev c a 0)) (g1 (isaD t)) env
  | .bi b es, k, env => fin c (evA c es) (fun ds => (bi b ds).bind (own1 k)) env
  | .mu m i ps ke es, k, env => (match ps with
    | [] => if isListS env i = true then (evs c es ke env).bind fun r => (Rs.of (alterS c r.2 i (ke + 1) [] (muF m r.1))).bind fun z => if isCont z.1 = false ∨ k = ke then .ok z else .bad else .bad
    | ps => (match pathR c env ps, env[i]? with
      | some js, some (.sv l k0 d) => if pathOk js k0 ke d = true then (evs c es ke (env.set i .un)).bind fun r => (Rs.of (alterAt r.2 i l k0 d (ke + 1) js (muF m r.1))).bind fun z => if isCont z.1 = false ∨ k = ke then .ok z else .bad else .bad
      | _, _ => .bad))
  | .call f pm as, k, env => (evR c as env).bind fun r => callD c f k pm (lents as) r.1 r.2
  | .lc own tg it ts e, k, env => if ownOk env own = false then .bad else (evI c it env).bind fun r =>
      if ownOk r.2 own = false then .bad else
      (lcL (bindT tg) own (evTs c ts) (ev c e (k - 1)) r.1 (wipeD r.2 own)).bind fun z => if z.1.length ≤ 16777216 then .ok (.list z.1, backD r.2 z.2 own) else .bad
  | .gen g tg it ts q, _, env => (evI c it env).bind fun r => (Rs.of ((genL c tg ts q r.1 r.2).bind (genF g))).bind fun d => .ok (d, r.2)
  | .nev, _, _ => .bad
noncomputable def evO (c : Orc) : Eo → EnvD → Rs (Option Int × EnvD)
  | .none, env => .ok (none, env)
  | .some e, env => (ev c e 0 env).bind fun r => match r.1 with
    | .int i => .ok (some i, r.2)
    | _ => .bad
noncomputable def evs (c : Orc) : Es → Nat → EnvD → Rs (List PyData × EnvD)
  | .nil, _, env => .ok ([], env)
  | .cons e es, k, env => (ev c e k env).bind fun r => (evs c es k r.2).bind fun z => .ok (r.1 :: z.1, z.2)
noncomputable def evA (c : Orc) : Es → Ops
  | .nil => fun env => .ok ([], env)
  | .cons e es => opd c (lateE e (allP es)) (toP e) (ev c e 0) (evA c es)
noncomputable def evR (c : Orc) : Ar → EnvD → Rs (List PyData × EnvD)
  | .nil, env => .ok ([], env)
  | .v e as, env => (ev c e 0 env).bind fun r => (evR c as r.2).bind fun z => .ok (r.1 :: z.1, z.2)
  | .l i as, env => if (slot env i).isSome = true then evR c as env else .bad
noncomputable def evI (c : Orc) : It → EnvD → Rs (List PyData × EnvD)
  | .e e, env => (ev c e 0 env).bind fun r => (Rs.of (itemsD r.1)).bind fun xs => .ok (xs, r.2)
  | .range es, env => (evs c es 0 env).bind fun r => (Rs.of (rangeD r.1)).bind fun xs => .ok (xs, r.2)
  | .enum e, env => (ev c e 0 env).bind fun r => (Rs.of (enumD r.1)).bind fun xs => .ok (xs, r.2)
noncomputable def evT (c : Orc) : Tt → EnvD → Rs (Bool × EnvD)
  | .c2 o a b, env => (fin c (opd2 c a b (ev c a 0) (ev c b 0)) (g2 (c2B o)) env).bind fun r => match r.1 with
    | .bool x => .ok (x, r.2)
    | _ => .bad
  | .ch o o' x y z, env => (ev c x 0 env).bind fun r1 => (ev c y 0 r1.2).bind fun r2 => (Rs.of (c2 o r1.1 r2.1)).bind fun t => match t with
    | false => .ok (false, r2.2)
    | true => (ev c z 0 r2.2).bind fun r3 => (Rs.of (c2 o' r2.1 r3.1)).bind fun u => .ok (u, r3.2)
  | .isN a n, env => (fin c (opd1 c a (ev c a 0)) (g1 fun d => some (.bool (isNone d ^^ n))) env).bind fun r => match r.1 with
    | .bool x => .ok (x, r.2)
    | _ => .bad
  | .isB a b, env => (fin c (opd1 c a (ev c a 0)) (g1 (isBool b)) env).bind fun r => match r.1 with
    | .bool x => .ok (x, r.2)
    | _ => .bad
  | .not t, env => (evT c t env).bind fun r => .ok (!r.1, r.2)
  | .and t u, env => (evT c t env).bind fun r => if r.1 = true then evT c u r.2 else .ok (false, r.2)
  | .or t u, env => (evT c t env).bind fun r => if r.1 = true then .ok (true, r.2) else evT c u r.2
  | .v e, env => (fin c (opd1 c e (ev c e 0)) (g1 fun d => (truth d).map .bool) env).bind fun r => match r.1 with
    | .bool x => .ok (x, r.2)
    | _ => .bad
noncomputable def evTs (c : Orc) : Tts → EnvD → Rs (Bool × EnvD)
  | .nil, env => .ok (true, env)
  | .cons t ts, env => (evT c t env).bind fun r => if r.1 = true then evTs c ts r.2 else .ok (false, r.2)
end
mutual
/-- a statement; what is returned is to be owned to the depth rk -/
noncomputable def exS (c : Orc) (rk : Nat) : S → EnvD → Rs Fl
  | .as (.nm i) k e, env => (ev c e k env).bind fun r => (Rs.of (setS r.2 i k r.1)).bind fun e' => .ok (.nx e')
  | .as tg _ e, env => (ev c e 0 env).bind fun r => (Rs.of (bindT tg r.1 r.2)).bind fun e' => .ok (.nx e')
  | .par i j ki kj a b, env => (ev c a ki env).bind fun r => (ev c b kj r.2).bind fun z => (Rs.of ((setS z.2 i ki r.1).bind fun e => setS e j kj z.1)).bind fun e' => .ok (.nx e')
  | .put i ps x k e, env => (ev c e k env).bind fun r => (Rs.of ((evP c x r.2).bind fun x => alterS c r.2 i (k + 1) ps (putF' x.2 r.1))).bind fun z => .ok (.nx z.2)
  | .dput i x k e, env => (ev c e k env).bind fun r => (Rs.of ((evP c x r.2).bind fun x => dputS r.2 i k x.2 r.1)).bind fun e' => .ok (.nx e')
  | .aug i o e, env => if (slot env i).isSome = true then (ev c e 0 env).bind fun r => (Rs.of ((slot r.2 i).bind fun x => ((ipD o x.2 r.1).bind fun d => setS r.2 i 0 d))).bind fun e' => .ok (.nx e') else .bad
  | .augp i ps x o e, env => (Rs.of ((evP c x env).bind fun j => (evP c e env).bind fun y => augS c env i ps o j.2 y.2)).bind fun z => .ok (.nx z.2)
  | .ex e, env => (ev c e 0 env).bind fun r => .ok (.nx r.2)
  | .iff t a b, env => (evT c t env).bind fun r => if r.1 = true then exs c rk a r.2 else exs c rk b r.2
  | .for tg it b, env => (evI c it env).bind fun r => forL (bindT tg) (exs c rk b) r.1 r.2
  | .whl t b, env => whlD (evT c t) (exs c rk b) env
  | .ret e, env => (ev c e rk env).bind fun r => .ok (.rt r.1 r.2)
  | .retN, env => .ok (.rt .none env)
  | .brk, env => .ok (.bk env)
  | .cont, env => .ok (.ct env)
  | .pas, env => .ok (.nx env)
  | .nev, _ => .bad
noncomputable def exs (c : Orc) (rk : Nat) : Ss → EnvD → Rs Fl
  | .nil, env => .ok (.nx env)
  | .cons s ss, env => (exS c rk s env).bind fun f => match f with
    | .nx e => exs c rk ss e
    | f => .ok f
end
/-- a def: how many parameters and names, which parameters are lent, how deep the result is owned -/
structure Fn where
  np : Nat
  n : Nat
  lo : List Bool
  ret : Nat
  body : Ss
def lentOk : List Bool → List SV → Bool
  | [], [] => true
  | l :: ls, .sv l' k _ :: r => (l == l') && (l || k == 0) && lentOk ls r
  | _, _ => false
def finD (env : EnvD) (np : Nat) : List SV := (env ++ List.replicate np SV.un).take np
noncomputable def callN (fns : Nat → Option Fn) (con : Nat → Option PyData) : Nat → Nat → List SV → Rs (PyData × List SV)
  | 0, _, _ => .bad
  | m + 1, f, as => match fns f with
    | none => .bad
    | some F => if lentOk F.lo as = true then
        (exs ⟨callN fns con m, fun g => ((fns g).map Fn.ret).getD 0, con⟩ F.ret F.body (as ++ List.replicate (F.n - as.length) .un)).bind fun r => match r with
          | .rt d e => .ok (d, finD e F.np)
          | .nx e => .ok (.none, finD e F.np)
          | _ => .bad
      else .bad
end Fx
set_option Elab.async false
set_option linter.all false
set_option maxRecDepth 100000
/-! M4: the operators on data. -/
namespace Fx
open PySem PySem.Spec PyProof.Rows L2

section
variable {X : Cx} {pins : List (Addr × Obj)} {σ : L2.St} {H : Hp} {s : Shared}
mutual
theorem Dat.reads (I : Inv X pins σ H s) : ∀ (d : PyData) (v : V) (u : Value), d.plain = true → Dat X.K H v d → RelV v u → ∃ as, Reads s.heap u d as
  | .none, _, _, _, h, r => by
    cases h; cases r; exact ⟨_, Reads.none⟩
  | .bool b, _, _, _, h, r => by
    cases h; cases r; exact ⟨_, Reads.bool b⟩
  | .int i, _, _, _, h, r => by
    cases h; obtain ⟨t, rfl⟩ := r; exact ⟨_, Reads.int i t⟩
  | .str x, _, _, _, h, r => by
    cases h; obtain ⟨t, rfl⟩ := r; exact ⟨_, Reads.str x t⟩
  | .list ds, _, _, hp, h, r => by
    cases h with
    | lst hs ha =>
      cases r
      obtain ⟨its, rv, ⟨o, n, ho, hc, _, hd⟩, _⟩ := I.list hs
      obtain ⟨as, hr⟩ := Dat.readsAll I ds _ its (by simpa [PyData.plain] using hp) ha rv
      exact ⟨_, Reads.list ho hc hd hr⟩
  | .tuple ds, _, _, hp, h, r => by
    cases h with
    | tup hs ha =>
      cases r
      obtain ⟨its, rv, ⟨o, ho, hc, n, hd⟩, _⟩ := I.tuple hs
      obtain ⟨as, hr⟩ := Dat.readsAll I ds _ its (by simpa [PyData.plain] using hp) ha rv
      exact ⟨_, Reads.tuple ho hc hd hr⟩
  | .dict _, _, _, hp, _, _ => by simp [PyData.plain] at hp
theorem Dat.readsAll (I : Inv X pins σ H s) : ∀ (ds : List PyData) (vs : List V) (us : List Value), PyData.plainAll ds = true → DatL X.K H vs ds → Vals vs us → ∃ as, ReadsAll s.heap us ds as
  | [], _, _, _, h, r => by
    cases h; cases r; exact ⟨_, ReadsAll.nil⟩
  | d :: ds, _, _, hp, h, r => by
    have hp : d.plain = true ∧ PyData.plainAll ds = true := by simpa [PyData.plainAll] using hp
    cases h with
    | cons h1 h2 =>
      cases r with
      | cons r1 r2 =>
        obtain ⟨as, q1⟩ := Dat.reads I d _ _ hp.1 h1 r1
        obtain ⟨bs, q2⟩ := Dat.readsAll I ds _ _ hp.2 h2 r2
        exact ⟨_, ReadsAll.cons q1 q2⟩
end
end

/-! ### operands, results -/
section
variable {K : PySem.W.Frag} {F H : Hp}
/-- its own place may be read in H, its items are frozen in F -/
def Shl (K : PySem.W.Frag) (F H : Hp) (v : V) : PyData → Prop
  | .list ds => ∃ a vs, v = .ref a ∧ SqL K H a vs ∧ DatL K F vs ds
  | .dict ds => ∃ a, v = .ref a ∧ ((∃ kvs, Rd H a (.dK kvs) ∧ DatK K F kvs ds) ∨ ∃ kvs, Rd H a (.dT kvs) ∧ DatT K F kvs ds)
  | d => Dat K F v d
theorem Shl.of (le : Le F H) {v : V} {d : PyData} (h : Dat K F v d) : Shl K F H v d := by
  cases h with
  | lst q t => exact ⟨_, _, rfl, le.sqL q, t⟩
  | dk q t => exact ⟨_, rfl, .inl ⟨_, le _ _ q, t⟩⟩
  | dt q t => exact ⟨_, rfl, .inr ⟨_, le _ _ q, t⟩⟩
  | non => exact .non
  | bl b => exact .bl b
  | int i => exact .int i
  | str x => exact .str x
  | tup q t => exact .tup q t
theorem Shl.dat (le : Le F H) {v : V} {d : PyData} (h : Shl K F H v d) : Dat K H v d := by
  cases d with
  | list ds => obtain ⟨a, vs, rfl, q, t⟩ := h; exact .lst q (t.mono le)
  | dict ds =>
    obtain ⟨a, rfl, ⟨kvs, q, t⟩ | ⟨kvs, q, t⟩⟩ := h
    · exact .dk q (t.mono le)
    · exact .dt q (t.mono le)
  | none => exact Dat.mono le h
  | bool b => exact Dat.mono le h
  | int i => exact Dat.mono le h
  | str x => exact Dat.mono le h
  | tuple ds => exact Dat.mono le h
theorem Shl.int {v : V} {i : Int} (h : Shl K F H v (.int i)) : v = .int i := by cases (show Dat K F v (.int i) from h); rfl
theorem Shl.str {v : V} {i : Str} (h : Shl K F H v (.str i)) : v = .str i := by cases (show Dat K F v (.str i) from h); rfl
theorem Shl.bool {v : V} {i : Bool} (h : Shl K F H v (.bool i)) : v = .bl i := by cases (show Dat K F v (.bool i) from h); rfl
theorem Shl.tup {v : V} {ds : List PyData} (le : Le F H) (h : Shl K F H v (.tuple ds)) : ∃ a vs, v = .ref a ∧ SqT K H a vs ∧ DatL K F vs ds := by
  cases (show Dat K F v (.tuple ds) from h) with
  | tup q t => exact ⟨_, _, rfl, le.sqT q, t⟩
theorem Dat.intV {v : V} {i : Int} (h : Dat K F v (.int i)) : v = .int i := by cases h; rfl
theorem Dat.strV {v : V} {i : Str} (h : Dat K F v (.str i)) : v = .str i := by cases h; rfl
theorem Dat.boolV {v : V} {i : Bool} (h : Dat K F v (.bool i)) : v = .bl i := by cases h; rfl
theorem Dat.noneV {v : V} (h : Dat K F v .none) : v = .non := by cases h; rfl
/-- a new object's content -/
def Frsh (K : PySem.W.Frag) (F : Hp) (o : HO) (d : PyData) : Prop := (∃ vs ds, o = .lst vs ∧ d = .list ds ∧ DatL K F vs ds) ∨ (∃ vs ds, o = .tup vs ∧ d = .tuple ds ∧ DatL K F vs ds) ∨
  (∃ vs ds, o = .dK vs ∧ d = .dict ds ∧ DatK K F vs ds) ∨ (∃ vs ds, o = .dT vs ∧ d = .dict ds ∧ DatT K F vs ds)
/-- a result: nothing was made, or one object -/
def New (K : PySem.W.Frag) (F H : Hp) (z : V) (d : PyData) (H' : Hp) : Prop := (H' = H ∧ Dat K F z d ∧ isCont d = false) ∨ ∃ p o, H p = none ∧ z = .ref p ∧ H' = upd H p o ∧ Frsh K F o d
theorem New.int (i : Int) : New K F H (.int i) (.int i) H := .inl ⟨rfl, .int i, rfl⟩
theorem New.str (i : Str) : New K F H (.str i) (.str i) H := .inl ⟨rfl, .str i, rfl⟩
theorem New.bl (i : Bool) : New K F H (.bl i) (.bool i) H := .inl ⟨rfl, .bl i, rfl⟩
theorem New.lst {p : Addr} {vs : List V} {ds : List PyData} (hp : H p = none) (t : DatL K F vs ds) : New K F H (.ref p) (.list ds) (upd H p (.lst vs)) := .inr ⟨p, _, hp, rfl, rfl, .inl ⟨_, _, rfl, rfl, t⟩⟩
theorem New.tup {p : Addr} {vs : List V} {ds : List PyData} (hp : H p = none) (t : DatL K F vs ds) : New K F H (.ref p) (.tuple ds) (upd H p (.tup vs)) := .inr ⟨p, _, hp, rfl, rfl, .inr (.inl ⟨_, _, rfl, rfl, t⟩)⟩
theorem New.flat {z : V} {d : PyData} {H' : Hp} (h : New K F H z d H') (hf : (scal d).isSome = true) : H' = H ∧ ∀ G, Dat K G z d := by
  rcases h with ⟨h1, h2, _⟩ | ⟨p, o, _, _, _, h4⟩
  · refine ⟨h1, fun G => ?_⟩
    cases d with
    | int i => cases h2; exact .int i
    | str i => cases h2; exact .str i
    | _ => simp [scal] at hf
  · exfalso
    rcases h4 with ⟨_, _, _, rfl, _⟩ | ⟨_, _, _, rfl, _⟩ | ⟨_, _, _, rfl, _⟩ | ⟨_, _, _, rfl, _⟩ <;> simp [scal] at hf
end

/-- what is wanted of an operator's operands and its result -/
def rD2 (K : PySem.W.Frag) (g : PyData → PyData → Option PyData) : R2 := fun x y H Q => ∃ F d e r, Le F H ∧ Shl K F H x d ∧ Shl K F H y e ∧ g d e = some r ∧ ∀ z H', New K F H z r H' → Q z H'
def rD1 (K : PySem.W.Frag) (g : PyData → Option PyData) : V → Hp → VK → Prop := fun x H Q => ∃ F d r, Le F H ∧ Shl K F H x d ∧ g d = some r ∧ ∀ z H', New K F H z r H' → Q z H'
section
variable {X : Cx}
def bop : B2 → Operator
  | .add => .Add | .sub => .Sub | .mul => .Mult | .fdiv => .FloorDiv | .mod => .Mod | .pow => .Pow | .shr => .RShift | .shl => .LShift
theorem mulOk {i j : Int} (h : bitsOk i j = true) : IntMulOk i j := by
  have b : ∀ x : Int, Builtin.Int.intBits x ≤ x.natAbs.log2 + 1 := fun x => by
    unfold Builtin.Int.intBits
    split <;> omega
  have h1 := b i
  have h2 := b j
  unfold bitsOk at h
  simp only [Bool.or_eq_true, decide_eq_true_eq] at h
  rcases h with (h | h) | h
  · exact .of_left (by omega)
  · exact .of_right (by omega)
  · have e : bitsLine = 134217728 := by decide
    unfold IntMulOk
    intro z
    rw [Bool.and_eq_true] at z
    have z2 := z.2
    unfold Builtin.Int.intTooBig at z2
    have z3 := of_decide_eq_true z2
    rw [e] at z3
    omega
theorem rd_lst {pins : List (Addr × Obj)} {σ : L2.St} {H : Hp} {s : Shared} {a : Addr} {xs : List V} (I : Inv X pins σ H s) (h : SqL X.K H a xs) :
    xs.length ≤ sizeLine ∧ ∃ (its : List Value) (n : Nat) (sl : Array (Option Value)), Vals xs its ∧ xs.length = its.length ∧ s.heap.get? a = some { cls := .type "list", dict := none, data := .seq its.toArray n, slots := sl } := by
  obtain ⟨its, r, pl, hz⟩ := I.list h
  obtain ⟨⟨c, d, q, sl⟩, m, e, ec, ed, eq⟩ := pl
  simp only at ec ed eq
  subst ec ed eq
  exact ⟨hz, its, m, sl, r, r.length, e⟩
theorem op_catS : OpR X (binaryOp .Add) (fun x y H Q => ∃ l b xs zs, x = .ref l ∧ y = .ref b ∧ SqL X.K H l xs ∧ SqL X.K H b zs ∧ xs.length + zs.length ≤ sizeLine ∧ ∀ p, H p = none → Q (.ref p) (upd H p (.lst (xs ++ zs)))) := by
  intro pins s σ H x y v u Q I rx ry h
  obtain ⟨l, b, xs, zs, rfl, rfl, hH, hB, hz, q⟩ := h
  cases rx
  cases ry
  obtain ⟨z, its, n, sl, r, hl, e⟩ := rd_lst I hH
  obtain ⟨z2, its2, n2, sl2, r2, hl2, e2⟩ := rd_lst I hB
  refine concat_meets ⟨_, e, rfl⟩ ⟨_, e2, rfl⟩ noFill_list_add seq_list_add F.slot_list_add F.entry_list_add (F.args_list_add_2 _ _) (list_addW l b its.toArray its2.toArray n n2 none none sl sl2 (by rw [List.size_toArray, List.size_toArray]; omega)) ⟨e, e2, ?_⟩
  have ea : its.toArray ++ its2.toArray = (its ++ its2).toArray := by simp
  rw [ea]
  exact ⟨.ref _, _, I.lnew (t' := s.toks) (r.append r2) (by rw [List.length_append]; omega), rfl, q _ I.fresh⟩
theorem op_repS : OpR X (binaryOp .Mult) (fun x y H Q => ∃ l k xs, x = .ref l ∧ y = .int k ∧ SqL X.K H l xs ∧ -(2 ^ 63) ≤ k ∧ k < 2 ^ 63 ∧ xs.length * k.toNat ≤ sizeLine ∧ ∀ p, H p = none → Q (.ref p) (upd H p (.lst (List.replicate k.toNat xs).flatten))) := by
  intro pins s σ H x y v u Q I rx ry h
  obtain ⟨l, k, xs, rfl, rfl, hH, h1, h2, hz, q⟩ := h
  cases rx
  obtain ⟨t, rfl⟩ := ry
  obtain ⟨z, its, n, sl, r, hl, e⟩ := rd_lst I hH
  have hlen : its.toArray.size * k.toNat ≤ sizeLine := by rw [List.size_toArray, ← hl]; exact hz
  have hcap : ¬ its.toArray.size * k.toNat > (2 ^ 63 - 1) / 8 := by
    have : (sizeLine : Nat) ≤ (2 ^ 63 - 1) / 8 := by decide
    omega
  have hfit : ¬ (!Builtin.List.listFitsIndex k) = true := by
    rw [fitsIndex_both h1 h2]
    exact Bool.false_ne_true
  have hlong : ¬ Builtin.List.listTooLong (its.toArray.size * k.toNat) = true := by
    rw [notLongL hlen]
    exact Bool.false_ne_true
  have hnew : List.foldl (fun x1 x2 => x1 ++ x2) #[] (List.replicate (if its.toArray.isEmpty = true then 0 else k.toNat) its.toArray) = (List.replicate k.toNat its).flatten.toArray := by
    have f0 : ∀ m : Nat, List.foldl (fun x1 x2 => x1 ++ x2) #[] (List.replicate m its.toArray) = (List.replicate m its).flatten.toArray := fun m => by
      have := foldl_rep its m []
      rw [List.nil_append] at this
      exact this
    rw [f0]
    cases its with
    | nil => simp
    | cons a r' => rw [if_neg (by simp)]
  refine wpAny_binaryOp_repeat_ref (T := "list") (U := "int") (by decide) ⟨_, e, rfl⟩ (fun s' => typeIs_int s' k t) noFill_list_mul F.fills_int_mul F.slot_int_rmul repeat_list F.slot_int_index.lookup
    (call_meets F.slot_int_rmul (typeIs_int s k t) F.entry_int_rmul (F.args_int_rmul_2 _ _) (lm_int_rmul_list_any k t l its.toArray n none sl)
      ⟨e, rfl, ⟨_, e, rfl⟩, call_meets F.slot_list_mul ⟨_, e, rfl⟩ F.entry_list_mul (F.args_list_mul_2 _ _) (lm_list_mul_any l its.toArray n none sl k t hfit hcap hlong) ⟨e, ?_⟩⟩)
  rw [hnew]
  exact ⟨.ref _, _, I.lnew (t' := s.toks) (r.rep k.toNat) (by rw [PyProof.Rows.lm_len_rep_flat, Nat.mul_comm]; exact hz), rfl, q _ I.fresh⟩
theorem DatL.rep {K : PySem.W.Frag} {F : Hp} {vs : List V} {ds : List PyData} (h : DatL K F vs ds) : ∀ k : Nat, DatL K F (List.replicate k vs).flatten (List.replicate k ds).flatten
  | 0 => .nil
  | k + 1 => by
    rw [List.replicate_succ, List.replicate_succ, List.flatten_cons, List.flatten_cons]
    exact h.append (DatL.rep h k)
theorem DatL.nil_iff {K : PySem.W.Frag} {F : Hp} {vs : List V} {ds : List PyData} (h : DatL K F vs ds) : vs = [] ↔ ds = [] := by
  cases h <;> simp
theorem op_b2 (o : B2) : OpR X (binaryOp (bop o)) (rD2 X.K (b2 o)) := by
  intro pins s σ H x y v u Q I rx ry h
  obtain ⟨F, d, e, r, le, hx, hy, hr, q⟩ := h
  cases o with
  | add =>
    cases d with
    | int a =>
      cases e with
      | int b =>
        cases hx.int; cases hy.int
        cases hr
        exact op_add pins s σ H _ _ v u Q I rx ry ⟨a, b, rfl, rfl, q _ _ (New.int _)⟩
      | _ => simp [b2] at hr
    | str a =>
      cases e with
      | str b =>
        cases hx.str; cases hy.str
        simp only [b2] at hr
        split at hr
        · rename_i hl
          cases hr
          exact op_add_str pins s σ H _ _ v u Q I rx ry ⟨a, b, rfl, rfl, hl, q _ _ (New.str _)⟩
        · cases hr
      | _ => simp [b2] at hr
    | tuple a =>
      cases e with
      | tuple b =>
        obtain ⟨p1, vs, rfl, t1, k1⟩ := hx.tup le
        obtain ⟨p2, ws, rfl, t2, k2⟩ := hy.tup le
        simp only [b2] at hr
        split at hr
        · rename_i hl
          cases hr
          refine op_catA pins s σ H _ _ v u Q I rx ry ⟨_, _, _, _, rfl, rfl, t1, t2, ?_, fun e => ?_, fun _ e => ?_, fun _ _ p hp => q _ _ (New.tup hp (k1.append k2))⟩
          · rw [k1.length, k2.length]; exact hl
          · have e' := k1.nil_iff.mp e
            subst e'
            exact q _ _ (.inl ⟨rfl, hy, rfl⟩)
          · have e' := k2.nil_iff.mp e
            subst e'
            rw [List.append_nil] at q
            exact q _ _ (.inl ⟨rfl, hx, rfl⟩)
        · cases hr
      | _ => simp [b2] at hr
    | list a =>
      cases e with
      | list b =>
        obtain ⟨p1, vs, rfl, t1, k1⟩ := hx
        obtain ⟨p2, ws, rfl, t2, k2⟩ := hy
        simp only [b2] at hr
        split at hr
        · rename_i hl
          cases hr
          refine op_catS pins s σ H _ _ v u Q I rx ry ⟨_, _, _, _, rfl, rfl, t1, t2, ?_, fun p hp => q _ _ (New.lst hp (k1.append k2))⟩
          rw [k1.length, k2.length]; exact hl
        · cases hr
      | _ => simp [b2] at hr
    | _ => simp [b2] at hr
  | sub =>
    cases d with
    | int a =>
      cases e with
      | int b =>
        cases hx.int; cases hy.int
        cases hr
        exact op_sub pins s σ H _ _ v u Q I rx ry ⟨a, b, rfl, rfl, q _ _ (New.int _)⟩
      | _ => simp [b2] at hr
    | _ => simp [b2] at hr
  | mul =>
    cases d with
    | int a =>
      cases e with
      | int b =>
        cases hx.int; cases hy.int
        simp only [b2] at hr
        split at hr
        · rename_i hl
          cases hr
          exact (opI (C := fun a b => bitsOk a b = true) (g := fun a b => a * b) fun _ _ _ _ _ _ _ hc q => mul_int q (mulOk hc)) pins s σ H _ _ v u Q I rx ry ⟨a, b, rfl, rfl, hl, q _ _ (New.int _)⟩
        · cases hr
      | _ => simp [b2] at hr
    | list a =>
      cases e with
      | int b =>
        obtain ⟨p1, vs, rfl, t1, k1⟩ := hx
        cases hy.int
        simp only [b2] at hr
        split at hr
        · rename_i hl
          cases hr
          refine op_repS pins s σ H _ _ v u Q I rx ry ⟨_, _, _, rfl, rfl, t1, ?_, ?_, ?_, fun p hp => q _ _ (New.lst hp (k1.rep _))⟩
          · exact hl.2.1
          · exact hl.1
          · rw [k1.length]; exact hl.2.2
        · cases hr
      | _ => simp [b2] at hr
    | _ => simp [b2] at hr
  | fdiv =>
    cases d with
    | int a =>
      cases e with
      | int b =>
        cases hx.int; cases hy.int
        simp only [b2] at hr
        split at hr
        · rename_i hl
          cases hr
          exact (opI (C := fun _ b => b ≠ 0 ∧ b.natAbs.log2 < 9000) (g := fun a b => a.fdiv b) fun _ _ _ _ _ _ _ hc q => floordiv_int hc.1 q (.inl (PyProof.noPylong_of_log2 hc.2))) pins s σ H _ _ v u Q I rx ry ⟨a, b, rfl, rfl, hl, q _ _ (New.int _)⟩
        · cases hr
      | _ => simp [b2] at hr
    | _ => simp [b2] at hr
  | mod =>
    cases d with
    | int a =>
      cases e with
      | int b =>
        cases hx.int; cases hy.int
        simp only [b2] at hr
        split at hr
        · rename_i hl
          cases hr
          exact op_modN pins s σ H _ _ v u Q I rx ry ⟨a, b, rfl, rfl, hl, q _ _ (New.int _)⟩
        · cases hr
      | _ => simp [b2] at hr
    | _ => simp [b2] at hr
  | pow =>
    cases d with
    | int a =>
      cases e with
      | int b =>
        cases hx.int; cases hy.int
        simp only [b2] at hr
        split at hr
        · rename_i hl
          cases hr
          exact op_pow pins s σ H _ _ v u Q I rx ry ⟨a, b, rfl, rfl, hl, q _ _ (New.int _)⟩
        · cases hr
      | _ => simp [b2] at hr
    | _ => simp [b2] at hr
  | shl =>
    cases d with
    | int a =>
      cases e with
      | int b =>
        cases hx.int; cases hy.int
        simp only [b2] at hr
        split at hr
        · rename_i hl
          cases hr
          exact op_shl pins s σ H _ _ v u Q I rx ry ⟨a, b, rfl, rfl, hl, q _ _ (New.int _)⟩
        · cases hr
      | _ => simp [b2] at hr
    | _ => simp [b2] at hr
  | shr =>
    cases d with
    | int a =>
      cases e with
      | int b =>
        cases hx.int; cases hy.int
        simp only [b2] at hr
        split at hr
        · rename_i hl
          cases hr
          exact op_shr pins s σ H _ _ v u Q I rx ry ⟨a, b, rfl, rfl, hl, q _ _ (New.int _)⟩
        · cases hr
      | _ => simp [b2] at hr
    | _ => simp [b2] at hr
end

/-! ### dicts -/
section
variable {K : PySem.W.Frag} {F H : Hp}
theorem keyOf_keyD : ∀ k : Key, keyOf (keyD k) = some k
  | .inl _ => rfl
  | .inr _ => rfl
theorem DatT.elim : ∀ {vs : List (List Key × V)} {ds : List (PyData × PyData)}, DatT K F vs ds → False
  | _, _, .cons _ t => DatT.elim t
theorem RepT.elim {R : RR} : ∀ {vs : List (List Key × V)} {ds : List (PyData × PyData)} {g : As}, RepT R vs ds g → False
  | _, _, _, .cons _ t _ => RepT.elim t
theorem DatK.length : ∀ {vs : List (Key × V)} {ds : List (PyData × PyData)}, DatK K F vs ds → vs.length = ds.length
  | _, _, .nil => rfl
  | _, _, .cons _ t => congrArg (· + 1) (DatK.length t)
/-- as the kit reads it -/
def RelD (K : PySem.W.Frag) (F : Hp) : Option V → Option PyData → Prop
  | some v, some d => Dat K F v d
  | none, none => True
  | _, _ => False
theorem DatK.val (k : Key) : ∀ {vs : List (Key × V)} {ds : List (PyData × PyData)}, DatK K F vs ds → RelD K F (valV vs k) (dgetD ds k)
  | _, _, .nil => True.intro
  | _, _, .cons (k := k') (v := v) (vs := vs) (d := d) (ds := ds) h t => by
    unfold dgetD
    rw [keyOf_keyD]
    by_cases e : k' = k
    · rw [valV_pos (p := (k', v)) e, if_pos (by rw [e])]
      exact h
    · rw [valV_neg (p := (k', v)) e, if_neg (fun z => e (by injection z))]
      exact DatK.val k t
theorem DatK.get {vs : List (Key × V)} {ds : List (PyData × PyData)} (h : DatK K F vs ds) {k : Key} {d : PyData} (e : dgetD ds k = some d) : ∃ v, valV vs k = some v ∧ Dat K F v d := by
  have z := h.val k
  rw [e] at z
  cases q : valV vs k with
  | none => rw [q] at z; exact z.elim
  | some v => rw [q] at z; exact ⟨v, rfl, z⟩
theorem DatK.isSome {vs : List (Key × V)} {ds : List (PyData × PyData)} (h : DatK K F vs ds) (k : Key) : (valV vs k).isSome = (dgetD ds k).isSome := by
  have z := h.val k
  cases q : valV vs k <;> cases q' : dgetD ds k <;> rw [q, q'] at z <;> first | rfl | exact z.elim
theorem RepK.get {R : RR} {k : Key} : ∀ {vs : List (Key × V)} {ds : List (PyData × PyData)} {g : As}, RepK R vs ds g → ∀ {d : PyData}, dgetD ds k = some d → ∃ v f, valV vs k = some v ∧ R v d f ∧ ∀ b, f b → g b
  | _, _, _, .nil, _, e => by cases e
  | _, _, _, .cons (k := k') (v := v) (vs := vs) (d := d) (ds := ds) h t dj, d1, e => by
    unfold dgetD at e
    rw [keyOf_keyD] at e
    by_cases q : k' = k
    · rw [if_pos (by rw [q])] at e
      cases e
      exact ⟨v, _, valV_pos (p := (k', v)) q, h, fun b z => .inl z⟩
    · rw [if_neg (fun z => q (by injection z))] at e
      obtain ⟨w, f, h1, h2, h3⟩ := RepK.get t e
      exact ⟨w, f, by rw [valV_neg (p := (k', v)) q]; exact h1, h2, fun b z => .inr (h3 b z)⟩
theorem RepK.length {R : RR} : ∀ {vs : List (Key × V)} {ds : List (PyData × PyData)} {g : As}, RepK R vs ds g → vs.length = ds.length
  | _, _, _, .nil => rfl
  | _, _, _, .cons _ t _ => congrArg (· + 1) (RepK.length t)
theorem RepK.none {R : RR} {k : Key} : ∀ {vs : List (Key × V)} {ds : List (PyData × PyData)} {g : As}, RepK R vs ds g → dgetD ds k = none → ∀ v, vs.map (fun kv => if kv.1 = k then (kv.1, v) else kv) = vs
  | _, _, _, .nil, _, _ => rfl
  | _, _, _, .cons (k := k') (v := v) (vs := vs) (d := d) (ds := ds) h t dj, e, u => by
    unfold dgetD at e
    rw [keyOf_keyD] at e
    by_cases q : k' = k
    · rw [if_pos (by rw [q])] at e; cases e
    · rw [if_neg (fun z => q (by injection z))] at e
      rw [List.map_cons, RepK.none t e u, if_neg q]
theorem putK_pos {p : Key × V} {r : List (Key × V)} {k : Key} {v : V} (e : p.1 = k) : putK (p :: r) k v = (p.1, v) :: r.map (fun kv => if kv.1 = k then (kv.1, v) else kv) := by
  unfold putK
  rw [if_pos (by simp [e]), List.map_cons, if_pos e]
theorem putK_neg {p : Key × V} {r : List (Key × V)} {k : Key} {v : V} (e : ¬ p.1 = k) : putK (p :: r) k v = p :: putK r k v := by
  unfold putK
  by_cases q : (r.any fun kv => decide (kv.1 = k)) = true
  · rw [if_pos q, if_pos (by rw [List.any_cons, q, Bool.or_true]), List.map_cons, if_neg e]
  · rw [if_neg q, if_neg (by rw [List.any_cons, decide_eq_false e, Bool.false_or]; exact q)]
    rfl
/-- a value is put -/
theorem RepK.put {R : RR} {k : Key} {u : V} {y : PyData} {f : As} (hu : R u y f) : ∀ {vs : List (Key × V)} {ds ds' : List (PyData × PyData)} {g : As}, RepK R vs ds g → Dis g f → dputD ds k y = some ds' → ∃ g', RepK R (putK vs k u) ds' g' ∧ ∀ b, g' b → g b ∨ f b
  | _, _, ds', _, .nil, dj, e => by
    cases e
    exact ⟨or' f none', .cons hu .nil (fun _ _ z => z), fun b z => z.elim .inr fun z => z.elim⟩
  | _, _, ds', _, .cons (k := k') (v := v) (vs := vs) (d := d) (ds := ds) (f := f0) (g := g0) h t dj0, dj, e => by
    unfold dputD at e
    rw [keyOf_keyD] at e
    by_cases q : k' = k
    · rw [if_pos (by rw [q])] at e
      split at e
      · cases e
      · rename_i hn
        cases e
        rw [putK_pos (p := (k', v)) q, RepK.none t (by simpa using hn)]
        exact ⟨or' f g0, .cons hu t fun b x y => dj b (.inr y) x, fun b z => z.elim .inr fun z => .inl (.inr z)⟩
    · rw [if_neg (fun z => q (by injection z))] at e
      obtain ⟨ds1, e1, e2⟩ := Option.map_eq_some_iff.mp e
      cases e2
      obtain ⟨g', t', w⟩ := RepK.put hu t (fun b x y => dj b (.inr x) y) e1
      rw [putK_neg (p := (k', v)) q]
      refine ⟨or' f0 g', .cons h t' fun b x y => ?_, fun b z => ?_⟩
      · rcases w b y with z | z
        · exact dj0 b x z
        · exact dj b (.inl x) z
      · rcases z with z | z
        · exact .inl (.inl z)
        · exact (w b z).imp .inr id
theorem Dat.key {v : V} {d : PyData} {k : Key} (h : Dat K F v d) (e : keyOf d = some k) : v = kV k := by
  cases h <;> simp only [keyOf] at e <;> first | (cases e; rfl) | cases e
theorem keyOf_nc {d : PyData} {k : Key} (e : keyOf d = some k) : isCont d = false := by
  cases d <;> simp only [keyOf] at e <;> first | rfl | cases e
theorem Shl.key {v : V} {d : PyData} {k : Key} (h : Shl K F H v d) (e : keyOf d = some k) : v = kV k := by
  cases d <;> simp only [keyOf] at e <;> first | (cases e; first | (cases h.int; rfl) | (cases h.str; rfl)) | cases e
end
section
variable {P : Program} {w : World} {K : PySem.W.Frag}
/-- d[y], by a subscript -/
theorem sub_dk {A : Around} {E : Value → Shared → Prop} {s : Shared} {H : Hp} {value slice : Expr} {a : Addr} {kvs : List (Key × V)} {k : Key} {v : V} {u : Value} {Q : Value → Shared → Prop}
    (ho : HOk P w H s.heap) (e : Rd H a (.dK kvs)) (ry : RelV (kV k) u) (l : valV kvs k = some v) (hs : subscripted slice false (.ref a) u = operate [.ref a, u] (getItem (.ref a) u))
    (q : ∀ y, RelV v y → Q y { s with toks := s.toks + 1 }) : wpAny (model P w) A (subscriptTail value slice (.ref a) u) Q E s := by
  obtain ⟨z, hd, vs, rel, dd⟩ := dk_rd ho e
  obtain ⟨w', hw, rw'⟩ := RelO.some_of (v := v) (o := valueAt vs k) (by rw [← l]; exact rel.val k)
  exact tail_any dd.typeIs PySem.F.slot_dict_getitem.lookup (wpAny_getItem_of (kV_is ry) dd.mapOf hw (q w' rw')) hs
end
end Fx
set_option Elab.async false
set_option linter.all false
set_option maxRecDepth 100000
/-! M5: comparisons, items, builtins on data. -/
namespace Fx
open PySem PySem.Spec PyProof.Rows L2
section
variable {X : Cx}
def cop : C2 → CmpOp
  | .eq => .Eq | .ne => .NotEq | .lt => .Lt | .le => .LtE | .gt => .Gt | .ge => .GtE | .inn => .In | .nin => .NotIn
theorem op_cmpD {op : CmpOp} {g : PyData → PyData → Option Bool} {ok : PyData → PyData → Prop} (hp : ∀ d e, ok d e → d.plain = true ∧ e.plain = true)
    (rule : ∀ (s : Shared) (u v : Value) (d e : PyData) (as bs : List Addr) (k : Bool) (Q : Value → Shared → Prop), Reads s.heap u d as → Reads s.heap v e bs → ok d e → g d e = some k → Q (.bool k) s → wpAny (model X.prog X.w) X.A (compareOp op u v) Q X.xe s)
    {pins : List (Addr × Obj)} {s : Shared} {σ : L2.St} {H : Hp} {x y : V} {v u : Value} {Q : VK} (I : Inv X pins σ H s) (rx : RelV x v) (ry : RelV y u) {F : Hp} {d e : PyData} {k : Bool} (le : Le F H) (hx : Shl X.K F H x d) (hy : Shl X.K F H y e) (ho : ok d e) (hg : g d e = some k)
    (q : ∀ z H', New X.K F H z (.bool k) H' → Q z H') : wpAny (model X.prog X.w) X.A (compareOp op v u) (EP X pins σ Q) X.xe s := by
  obtain ⟨h1, h2⟩ := hp d e ho
  obtain ⟨as, r1⟩ := Dat.reads I d x v h1 (hx.dat le) rx
  obtain ⟨bs, r2⟩ := Dat.reads I e y u h2 (hy.dat le) ry
  exact rule s v u d e as bs k _ r1 r2 ho hg ⟨.bl k, H, I, rfl, q _ _ (New.bl k)⟩
theorem eqOk_plain {d : PyData} (h : eqOk d = true) : SeqAt.shaped d = true ∧ d.plain = true := by
  unfold eqOk at h
  rw [Bool.and_eq_true] at h
  exact h
theorem ltOk_of {a b : PyData} (h : ltOk a b = true) : PySem.W.alike a b = true ∧ a.plain = true ∧ b.plain = true ∧ a.depth ≤ 64 ∧ a ≠ .none := by
  unfold ltOk at h
  simp only [Bool.and_eq_true, decide_eq_true_eq] at h
  obtain ⟨⟨⟨⟨h1, h2⟩, h3⟩, h4⟩, h5⟩ := h
  refine ⟨h1, h2, h3, h4, ?_⟩
  rintro rfl
  cases h5
theorem inOk_of {x : PyData} {xs : List PyData} (h : inOk x xs = true) : x.plain = true ∧ PyData.plainAll xs = true ∧ x.depth ≤ 64 := by
  unfold inOk at h
  simp only [Bool.and_eq_true, decide_eq_true_eq] at h
  exact ⟨h.1.1, h.1.2, h.2⟩
theorem alike_dep {d e : PyData} (h : PySem.W.alike d e = true) (hd : d.depth ≤ 64) {u : Nat} (hu : u + 100 < cLine) : u + min d.depth e.depth < cLine := by omega

theorem op_c2 (hu : X.A.units + 100 < cLine) (o : C2) : OpR X (compareOp (cop o)) (rD2 X.K (c2B o)) := by
  intro pins s σ H x y v u Q I rx ry h
  obtain ⟨F, d, e, r, le, hx, hy, hr, q⟩ := h
  unfold c2B at hr
  cases hk : c2 o d e with
  | none => rw [hk] at hr; cases hr
  | some k =>
  rw [hk] at hr
  cases hr
  have hints0 : ∀ (i j : Int) (f : Int → Int → Bool), d = .int i → e = .int j → k = f i j → (∀ (t u : Tok) (Q : Value → Shared → Prop), Q (.bool (f i j)) s → wpAny (model X.prog X.w) X.A (compareOp (cop o) (.int i t) (.int j u)) Q X.xe s) →
      wpAny (model X.prog X.w) X.A (compareOp (cop o) v u) (EP X pins σ Q) X.xe s := fun i j f e1 e2 e3 rule => by
    subst e1 e2 e3
    cases hx.int
    cases hy.int
    obtain ⟨t, rfl⟩ := rx
    obtain ⟨t', rfl⟩ := ry
    exact rule _ _ _ ⟨.bl _, H, I, rfl, q _ _ (New.bl _)⟩
  have heqs0 : (op : CmpOp) → (op = .Eq ∨ op = .NotEq) → eqOk d = true → eqOk e = true → k = (if op = .Eq then PyData.eqv d e else !PyData.eqv d e) → wpAny (model X.prog X.w) X.A (compareOp op v u) (EP X pins σ Q) X.xe s := fun op ho h1 h2 hk => by
    obtain ⟨a1, a2⟩ := eqOk_plain h1
    obtain ⟨b1, b2⟩ := eqOk_plain h2
    obtain ⟨as, r1⟩ := Dat.reads I d x v a2 (hx.dat le) rx
    obtain ⟨bs, r2⟩ := Dat.reads I e y u b2 (hy.dat le) ry
    rcases ho with rfl | rfl
    · exact SeqAt.compareEq_shaped r1 r2 a1 b1 (by omega) ⟨.bl _, H, I, by rw [hk]; rfl, q _ _ (New.bl k)⟩
    · exact SeqAt.compareNe_shaped r1 r2 a1 b1 (by omega) ⟨.bl _, H, I, by rw [hk]; rfl, q _ _ (New.bl k)⟩
  have hlts0 : ltOk d e = true → ∃ as bs, Reads s.heap v d as ∧ Reads s.heap u e bs ∧ PySem.W.alike d e = true ∧ d ≠ .none ∧ X.A.units + min d.depth e.depth < cLine := fun h1 => by
    obtain ⟨a1, a2, a3, a4, a5⟩ := ltOk_of h1
    obtain ⟨as, r1⟩ := Dat.reads I d x v a2 (hx.dat le) rx
    obtain ⟨bs, r2⟩ := Dat.reads I e y u a3 (hy.dat le) ry
    exact ⟨as, bs, r1, r2, a1, a5, by omega⟩
  have hfin0 : ∀ {k' : Bool}, k = k' → EP X pins σ Q (.bool k') s := fun e => ⟨.bl _, H, I, by rw [e]; rfl, q _ _ (New.bl k)⟩
  cases o with
  | eq =>
    simp only [c2] at hk
    cases hi : ii d e with
    | some p =>
      rw [hi] at hk
      obtain ⟨e1, e2⟩ := ii_some hi
      cases hk
      exact hints0 _ _ (fun i j => decide (i = j)) e1 e2 rfl fun t u Q h => eq_int (by rw [Bool.beq_eq_decide_eq]; exact h)
    | none =>
      rw [hi] at hk
      simp only at hk
      split at hk
      · rename_i hl
        cases hk
        exact heqs0 .Eq (.inl rfl) hl.1 hl.2 rfl
      · cases hk
  | ne =>
    simp only [c2] at hk
    cases hi : ii d e with
    | some p =>
      rw [hi] at hk
      obtain ⟨e1, e2⟩ := ii_some hi
      cases hk
      exact hints0 _ _ (fun i j => !decide (i = j)) e1 e2 rfl fun t u Q h => ne_int (by rw [bne, Bool.beq_eq_decide_eq]; exact h)
    | none =>
      rw [hi] at hk
      simp only at hk
      split at hk
      · rename_i hl
        cases hk
        exact heqs0 .NotEq (.inr rfl) hl.1 hl.2 rfl
      · cases hk
  | lt =>
    simp only [c2] at hk
    cases hi : ii d e with
    | some p =>
      rw [hi] at hk
      obtain ⟨e1, e2⟩ := ii_some hi
      cases hk
      exact hints0 _ _ (fun i j => decide (i < j)) e1 e2 rfl fun t u Q h => lt_int h
    | none =>
      rw [hi] at hk
      simp only at hk
      split at hk
      · rename_i hl
        cases hk
        obtain ⟨as, bs, r1, r2, a1, a2, a3⟩ := hlts0 hl
        exact PySem.W.lt_data r1 r2 a1 a2 a3 (hfin0 rfl)
      · cases hk
  | le =>
    simp only [c2] at hk
    cases hi : ii d e with
    | some p =>
      rw [hi] at hk
      obtain ⟨e1, e2⟩ := ii_some hi
      cases hk
      exact hints0 _ _ (fun i j => decide (i ≤ j)) e1 e2 rfl fun t u Q h => le_int h
    | none =>
      rw [hi] at hk
      simp only at hk
      split at hk
      · rename_i hl
        cases hk
        obtain ⟨as, bs, r1, r2, a1, a2, a3⟩ := hlts0 hl
        exact PySem.W.le_data r1 r2 a1 a2 a3 (hfin0 rfl)
      · cases hk
  | gt =>
    simp only [c2] at hk
    cases hi : ii d e with
    | some p =>
      rw [hi] at hk
      obtain ⟨e1, e2⟩ := ii_some hi
      cases hk
      exact hints0 _ _ (fun i j => decide (j < i)) e1 e2 rfl fun t u Q h => gt_int h
    | none =>
      rw [hi] at hk
      simp only at hk
      split at hk
      · rename_i hl
        cases hk
        obtain ⟨as, bs, r1, r2, a1, a2, a3⟩ := hlts0 hl
        exact PySem.W.gt_data r1 r2 a1 a2 a3 (hfin0 rfl)
      · cases hk
  | ge =>
    simp only [c2] at hk
    cases hi : ii d e with
    | some p =>
      rw [hi] at hk
      obtain ⟨e1, e2⟩ := ii_some hi
      cases hk
      exact hints0 _ _ (fun i j => decide (j ≤ i)) e1 e2 rfl fun t u Q h => ge_int h
    | none =>
      rw [hi] at hk
      simp only at hk
      split at hk
      · rename_i hl
        cases hk
        obtain ⟨as, bs, r1, r2, a1, a2, a3⟩ := hlts0 hl
        exact PySem.W.ge_data r1 r2 a1 a2 a3 (hfin0 rfl)
      · cases hk
  | inn =>
    cases e with
    | list xs =>
      simp only [c2] at hk
      split at hk
      · rename_i hl
        cases hk
        obtain ⟨h1, h2, h3⟩ := inOk_of hl
        obtain ⟨as, r1⟩ := Dat.reads I d x v h1 (hx.dat le) rx
        obtain ⟨bs, r2⟩ := Dat.reads I _ y u (by simpa [PyData.plain] using h2) (hy.dat le) ry
        exact PySem.SeqAt.in_list_data r2 r1 h2 h1 (by omega) (hfin0 rfl)
      · cases hk
    | tuple xs =>
      simp only [c2] at hk
      split at hk
      · rename_i hl
        cases hk
        obtain ⟨h1, h2, h3⟩ := inOk_of hl
        obtain ⟨as, r1⟩ := Dat.reads I d x v h1 (hx.dat le) rx
        obtain ⟨bs, r2⟩ := Dat.reads I _ y u (by simpa [PyData.plain] using h2) (hy.dat le) ry
        exact PySem.SeqAt.in_tuple_data r2 r1 h2 h1 (by omega) (hfin0 rfl)
      · cases hk
    | dict ds =>
      simp only [c2] at hk
      obtain ⟨ky, k1, k2⟩ := Option.map_eq_some_iff.mp hk
      obtain rfl := hx.key k1
      obtain ⟨a, rfl, ⟨kvs, q1, q2⟩ | ⟨kvs, q1, q2⟩⟩ := hy
      · obtain rfl : u = Value.ref a := ry
        refine d_in (by omega) I (.inl ⟨kvs, ky, q1, rfl, rfl⟩) rx fun s3 I3 => ⟨.bl _, H, I3, rfl, ?_⟩
        rw [q2.isSome ky, k2]
        exact q _ _ (New.bl k)
      · exact q2.elim.elim
    | _ => simp [c2] at hk
  | nin =>
    cases e with
    | list xs =>
      simp only [c2] at hk
      split at hk
      · rename_i hl
        cases hk
        obtain ⟨h1, h2, h3⟩ := inOk_of hl
        obtain ⟨as, r1⟩ := Dat.reads I d x v h1 (hx.dat le) rx
        obtain ⟨bs, r2⟩ := Dat.reads I _ y u (by simpa [PyData.plain] using h2) (hy.dat le) ry
        exact PySem.SeqAt.notIn_list_data r2 r1 h2 h1 (by omega) (hfin0 rfl)
      · cases hk
    | tuple xs =>
      simp only [c2] at hk
      split at hk
      · rename_i hl
        cases hk
        obtain ⟨h1, h2, h3⟩ := inOk_of hl
        obtain ⟨as, r1⟩ := Dat.reads I d x v h1 (hx.dat le) rx
        obtain ⟨bs, r2⟩ := Dat.reads I _ y u (by simpa [PyData.plain] using h2) (hy.dat le) ry
        exact PySem.SeqAt.notIn_tuple_data r2 r1 h2 h1 (by omega) (hfin0 rfl)
      · cases hk
    | dict ds =>
      simp only [c2] at hk
      obtain ⟨ky, k1, k2⟩ := Option.map_eq_some_iff.mp hk
      obtain rfl := hx.key k1
      obtain ⟨a, rfl, ⟨kvs, q1, q2⟩ | ⟨kvs, q1, q2⟩⟩ := hy
      · obtain rfl : u = Value.ref a := ry
        refine d_notIn (by omega) I (.inl ⟨kvs, ky, q1, rfl, rfl⟩) rx fun s3 I3 => ⟨.bl _, H, I3, rfl, ?_⟩
        rw [q2.isSome ky, k2]
        exact q _ _ (New.bl k)
      · exact q2.elim.elim
    | _ => simp [c2] at hk
end
end Fx
set_option Elab.async false
set_option linter.all false
set_option maxRecDepth 100000
/-! M6: items, slices, builtins on data. -/
namespace Fx
open PySem PySem.Spec PyProof.Rows L2
section
variable {K : PySem.W.Frag} {F H : Hp}
theorem DatL.atI {vs : List V} {ds : List PyData} (h : DatL K F vs ds) {i : Int} {d : PyData} (e : atI ds i = some d) : ∃ v, L2.atI vs i = some v ∧ Dat K F v d := by
  unfold L2.atI at e ⊢
  rw [h.length]
  cases q : ixN ds.length i with
  | none => rw [q] at e; cases e
  | some j =>
    rw [q] at e
    exact h.get e
/-- the operands' list -/
inductive ShlL (K : PySem.W.Frag) (F H : Hp) : List V → List PyData → Prop
  | nil : ShlL K F H [] []
  | cons {v : V} {vs : List V} {d : PyData} {ds : List PyData} : Shl K F H v d → ShlL K F H vs ds → ShlL K F H (v :: vs) (d :: ds)
/-- an item: nothing is made -/
def rIxD (K : PySem.W.Frag) : R2 := fun x y H Q => ∃ F d e r, Le F H ∧ Shl K F H x d ∧ Shl K F H y e ∧ ixD d e = some r ∧ ∀ z, Dat K F z r → Q z H
def rSlD (K : PySem.W.Frag) : V → Option Int → Option Int → Hp → VK → Prop := fun x lo hi H Q => ∃ F d r, Le F H ∧ Shl K F H x d ∧ slD d lo hi = some r ∧ ∀ z H', New K F H z r H' → Q z H'
def rBD (K : PySem.W.Frag) (g : List PyData → Option PyData) : List V → Hp → VK → Prop := fun xs H Q => ∃ F ds r, Le F H ∧ ShlL K F H xs ds ∧ g ds = some r ∧ ∀ z H', New K F H z r H' → Q z H'
theorem cut_whole (xs : List PyData) (lo hi : Option Int) (h : HT.sIx xs.length 0 lo = 0 ∧ HT.sIx xs.length xs.length hi = xs.length) : cutD xs lo hi = xs := by
  unfold cutD
  rw [h.1, h.2]
  simp
theorem DatL.cut {vs : List V} {ds : List PyData} (h : DatL K F vs ds) (lo hi : Option Int) : DatL K F (cutV vs lo hi) (cutD ds lo hi) := by
  unfold cutV cutD
  rw [h.length]
  exact (h.drop _).take _
theorem DatL.allInt : ∀ {vs : List V} {ds : List PyData} {ns : List Int}, DatL K F vs ds → allInt ds = some ns → ds = ns.map .int ∧ vs = ns.map V.int
  | _, _, _, .nil, e => by cases e; exact ⟨rfl, rfl⟩
  | _, d :: ds, ns, .cons h t, e => by
    cases d with
    | int i =>
      unfold Fx.allInt at e
      cases q : Fx.allInt ds with
      | none => rw [q] at e; cases e
      | some ms =>
        rw [q] at e
        cases e
        obtain ⟨e1, e2⟩ := DatL.allInt t q
        cases h
        rw [e1, e2]
        exact ⟨rfl, rfl⟩
    | _ => cases e
end
section
variable {X : Cx}
theorem ix_D : IxR X (rIxD X.K) := by
  intro value slice pins s σ H x y v u Q I rx ry h hs
  obtain ⟨F, d, e, r, le, hx, hy, hr, q⟩ := h
  have ixdk : ∀ {ds : List (PyData × PyData)} {k : Key}, Shl X.K F H x (.dict ds) → RelV (kV k) u → dgetD ds k = some r → wpAny (model X.prog X.w) X.A (subscriptTail value slice v u) (EP X pins σ Q) X.xe s := fun {ds k} hx ry hr => by
    obtain ⟨a, rfl, ⟨kvs, q1, q2⟩ | ⟨kvs, q1, q2⟩⟩ := hx
    · obtain rfl : v = Value.ref a := rx
      obtain ⟨z, z1, z2⟩ := q2.get hr
      exact sub_dk I.hok q1 ry z1 hs fun y r' => ⟨z, H, I.tok _, r', q z z2⟩
    · exact q2.elim.elim
  cases e with
  | int i =>
    cases hy.int
    cases d with
    | dict ds => exact ixdk hx (k := .inl i) ry hr
    | list xs =>
      obtain ⟨a, vs, rfl, t1, k1⟩ := hx
      obtain ⟨w, h1, h2⟩ := k1.atI (show atI xs i = some r from hr)
      exact ix_list value slice pins s σ H _ _ v u Q I rx ry ⟨a, vs, i, w, rfl, rfl, t1, h1, q w h2⟩ hs
    | tuple xs =>
      obtain ⟨a, vs, rfl, t1, k1⟩ := hx.tup le
      obtain ⟨w, h1, h2⟩ := k1.atI (show atI xs i = some r from hr)
      exact ix_tup value slice pins s σ H _ _ v u Q I rx ry ⟨a, vs, i, w, rfl, rfl, t1, h1, q w h2⟩ hs
    | str z =>
      cases hx.str
      simp only [ixD] at hr
      split at hr
      · rename_i hl
        cases hc : atI z.cps.toList i with
        | none => rw [hc] at hr; cases hr
        | some c =>
          rw [hc] at hr
          cases hr
          exact ix_str value slice pins s σ H _ _ v u Q I rx ry ⟨z, i, c, rfl, rfl, hl, hc, q _ (.str _)⟩ hs
      · cases hr
    | _ => simp [ixD] at hr
  | str z =>
    cases hy.str
    cases d with
    | dict ds => exact ixdk hx (k := .inr z) ry hr
    | _ => simp [ixD] at hr
  | _ => cases d <;> simp [ixD, keyOf] at hr
theorem sl_D : SlR X (rSlD X.K) := by
  intro pins s σ H x v vl vu lo hi sl Q I rx hs pl pu h
  obtain ⟨F, d, r, le, hx, hr, q⟩ := h
  cases d with
  | list xs =>
    obtain ⟨a, vs, rfl, t1, k1⟩ := hx
    cases hr
    exact sl_list pins s σ H _ v vl vu lo hi sl Q I rx hs pl pu ⟨a, vs, rfl, t1, fun p hp => q _ _ (New.lst hp (k1.cut lo hi))⟩
  | tuple xs =>
    have hx' := hx
    obtain ⟨a, vs, rfl, t1, k1⟩ := hx.tup le
    cases hr
    refine sl_tupA pins s σ H _ v vl vu lo hi sl Q I rx hs pl pu ⟨a, vs, rfl, t1, fun e => ?_, fun _ p hp => q _ _ (New.tup hp (k1.cut lo hi))⟩
    rw [k1.length] at e
    rw [cut_whole xs lo hi e] at q
    exact q _ _ (.inl ⟨rfl, hx', rfl⟩)
  | _ => simp [slD] at hr
theorem call_D1 {f : Value} {g : PyData → Option PyData}
    (h : ∀ (pins : List (Addr × Obj)) (s : Shared) (σ : L2.St) (H F : Hp) (x : V) (u : Value) (d r : PyData) (Q : VK), Inv X pins σ H s → RelV x u → Le F H → Shl X.K F H x d → g d = some r → (∀ z H', New X.K F H z r H' → Q z H') →
      wpAny (model X.prog X.w) X.A (call f [u]) (EP X pins σ Q) X.xe s) : CallR X f (rBD X.K (g1 g)) := by
  intro pins s σ H xs us Q I rv hq
  obtain ⟨F, ds, r, le, hs, hg, q⟩ := hq
  cases hs with
  | nil => cases hg
  | cons h1 h2 =>
    cases h2 with
    | nil =>
      obtain ⟨u, rfl, rx⟩ := vals1 rv
      exact h pins s σ H F _ u _ r Q I rx le h1 hg q
    | cons _ _ => cases hg
theorem one_v {f : Value} {r : List V → Hp → VK → Prop} (hc : CallR X f r) {pins : List (Addr × Obj)} {s : Shared} {σ : L2.St} {H : Hp} {x : V} {u : Value} {Q : VK} (I : Inv X pins σ H s) (rx : RelV x u) (h : r [x] H Q) :
    wpAny (model X.prog X.w) X.A (call f [u]) (EP X pins σ Q) X.xe s := hc pins s σ H [x] [u] Q I (.cons rx .nil) h
theorem call_len_D : CallR X (.builtin "len") (rBD X.K (g1 (p1 .len))) := call_D1 fun pins s σ H F x u d r Q I rx le hx hr q => by
  cases d with
  | list xs =>
    obtain ⟨a, vs, rfl, t1, k1⟩ := hx
    cases hr
    exact one_v call_len_seq I rx ⟨a, vs, rfl, .inl t1, by rw [k1.length]; exact q _ _ (New.int _)⟩
  | tuple xs =>
    obtain ⟨a, vs, rfl, t1, k1⟩ := hx.tup le
    cases hr
    exact one_v call_len_seq I rx ⟨a, vs, rfl, .inr t1, by rw [k1.length]; exact q _ _ (New.int _)⟩
  | str z =>
    cases hx.str
    simp only [p1] at hr
    split at hr
    · rename_i hl
      cases hr
      exact one_v call_len_str I rx ⟨z, rfl, hl, q _ _ (New.int _)⟩
    · cases hr
  | dict ds =>
    obtain ⟨a, rfl, ⟨kvs, q1, q2⟩ | ⟨kvs, q1, q2⟩⟩ := hx
    · obtain rfl : u = Value.ref a := rx
      cases hr
      exact d_len I q1 fun t s' I' => ⟨.int kvs.length, H, I', ⟨t, rfl⟩, by rw [q2.length]; exact q _ _ (New.int _)⟩
    · exact q2.elim.elim
  | _ => simp [p1] at hr
theorem call_abs_D : CallR X (.builtin "abs") (rBD X.K (g1 (p1 .abs))) := call_D1 fun pins s σ H F x u d r Q I rx le hx hr q => by
  cases d with
  | int i =>
    cases hx.int
    cases hr
    exact one_v call_abs I rx ⟨i, rfl, q _ _ (New.int _)⟩
  | _ => simp [p1] at hr
theorem call_int_D : CallR X (.type "int") (rBD X.K (g1 (p1 .int))) := call_D1 fun pins s σ H F x u d r Q I rx le hx hr q => by
  cases d with
  | int i =>
    cases hx.int
    cases hr
    exact one_v call_int1 I rx (.inl ⟨i, rfl, q _ _ (New.int _)⟩)
  | bool i =>
    cases hx.bool
    cases hr
    exact one_v call_int1 I rx (.inr ⟨i, rfl, q _ _ (New.int _)⟩)
  | _ => simp [p1] at hr
theorem un_neg_D : UnR X (unaryOp .USub) (rD1 X.K (p1 .neg)) := by
  intro pins s σ H x v Q I rx h
  obtain ⟨F, d, r, le, hx, hr, q⟩ := h
  cases d with
  | int i =>
    cases hx.int
    cases hr
    exact un_neg pins s σ H _ v Q I rx ⟨i, rfl, q _ _ (New.int _)⟩
  | _ => simp [p1] at hr
theorem call_tup_D : CallR X (.type "tuple") (rBD X.K (g1 tupD)) := call_D1 fun pins s σ H F x u d r Q I rx le hx hr q => by
  cases d with
  | list xs =>
    obtain ⟨a, vs, rfl, t1, k1⟩ := hx
    cases hr
    exact one_v call_tuple_of I rx ⟨a, vs, rfl, .inl ⟨t1, fun p hp => q _ _ (New.tup hp k1)⟩⟩
  | tuple xs =>
    have hx' := hx
    obtain ⟨a, vs, rfl, t1, k1⟩ := hx.tup le
    cases hr
    exact one_v call_tuple_of I rx ⟨a, vs, rfl, .inr ⟨t1, q _ _ (.inl ⟨rfl, hx', rfl⟩)⟩⟩
  | _ => simp [tupD] at hr
theorem call_lst_D : CallR X (.type "list") (rBD X.K (g1 lstD)) := call_D1 fun pins s σ H F x u d r Q I rx le hx hr q => by
  cases d with
  | list xs =>
    obtain ⟨a, vs, rfl, t1, k1⟩ := hx
    cases hr
    exact one_v call_list_of I rx ⟨a, vs, rfl, .inl t1, fun p hp => q _ _ (New.lst hp k1)⟩
  | tuple xs =>
    obtain ⟨a, vs, rfl, t1, k1⟩ := hx.tup le
    cases hr
    exact one_v call_list_of I rx ⟨a, vs, rfl, .inr t1, fun p hp => q _ _ (New.lst hp k1)⟩
  | _ => simp [lstD] at hr
theorem call_sum_D (hc : X.calm = true) : CallR X (.builtin "sum") (rBD X.K (g1 sumD)) := call_D1 fun pins s σ H F x u d r Q I rx le hx hr q => by
  cases d with
  | list xs =>
    obtain ⟨a, vs, rfl, t1, k1⟩ := hx
    simp only [sumD] at hr
    cases hn : allInt xs with
    | none => rw [hn] at hr; cases hr
    | some ns =>
      rw [hn] at hr
      cases hr
      obtain ⟨e1, e2⟩ := k1.allInt hn
      exact one_v (cr_sum hc) I rx ⟨a, ns, rfl, (by rw [← e2]; exact t1), q _ _ (New.int _)⟩
  | _ => simp [sumD] at hr
theorem alikeOk_of {xs : List PyData} (h : alikeOk xs = true) : (∀ x ∈ xs, ∀ y ∈ xs, PySem.W.alike x y = true) ∧ PyData.depthAll xs ≤ 64 := by
  unfold alikeOk at h
  simp only [Bool.and_eq_true, decide_eq_true_eq, List.all_eq_true] at h
  exact h
mutual
theorem alike_plain : ∀ d : PyData, PySem.W.alike d d = true → d.plain = true
  | .none, _ => by simp [PyData.plain]
  | .bool _, _ => by simp [PyData.plain]
  | .int _, _ => by simp [PyData.plain]
  | .str _, _ => by simp [PyData.plain]
  | .list xs, h => by simp only [PyData.plain]; exact alikeAll_plain xs (by simpa [PySem.W.alike] using h)
  | .tuple xs, h => by simp only [PyData.plain]; exact alikeAll_plain xs (by simpa [PySem.W.alike] using h)
  | .dict _, h => by simp [PySem.W.alike] at h
theorem alikeAll_plain : ∀ ds : List PyData, PySem.W.alikeAll ds ds = true → PyData.plainAll ds = true
  | [], _ => by simp [PyData.plainAll]
  | d :: ds, h => by
    have h : PySem.W.alike d d = true ∧ PySem.W.alikeAll ds ds = true := by simpa [PySem.W.alikeAll] using h
    simp only [PyData.plainAll, Bool.and_eq_true]
    exact ⟨alike_plain d h.1, alikeAll_plain ds h.2⟩
end
theorem plainAll_of : ∀ {ds : List PyData}, (∀ x ∈ ds, PySem.W.alike x x = true) → PyData.plainAll ds = true
  | [], _ => by simp [PyData.plainAll]
  | d :: ds, h => by
    simp only [PyData.plainAll, Bool.and_eq_true]
    exact ⟨alike_plain d (h d List.mem_cons_self), plainAll_of fun x hx => h x (List.mem_cons_of_mem _ hx)⟩
theorem depth_mem : ∀ {ds : List PyData} {n : Nat}, PyData.depthAll ds ≤ n → ∀ d ∈ ds, d.depth ≤ n
  | d :: ds, n, h, e, he => by
    simp only [PyData.depthAll] at h
    rcases List.mem_cons.mp he with rfl | he
    · exact Nat.le_trans (Nat.le_max_left _ _) h
    · exact depth_mem (Nat.le_trans (Nat.le_max_right _ _) h) e he
/-- the items, each with its V -/
theorem each_of {K : PySem.W.Frag} {F : Hp} : ∀ {vs : List V} {us : List Value} {ds : List PyData}, Vals vs us → DatL K F vs ds → PySem.W.EachIs (fun u d => ∃ v, RelV v u ∧ Dat K F v d) us ds
  | _, _, _, .nil, .nil => .nil
  | _, _, _, .cons r t, .cons h k => .cons ⟨_, r, h⟩ (each_of t k)
theorem of_each {K : PySem.W.Frag} {F : Hp} : ∀ {us : List Value} {ds : List PyData}, PySem.W.EachIs (fun u d => ∃ v, RelV v u ∧ Dat K F v d) us ds → ∃ vs, Vals vs us ∧ DatL K F vs ds
  | _, _, .nil => ⟨[], .nil, .nil⟩
  | _, _, .cons ⟨v, r, h⟩ t => by
    obtain ⟨vs, t1, t2⟩ := of_each t
    exact ⟨v :: vs, .cons r t1, .cons h t2⟩
theorem each_reads {h : Heap} : ∀ {us : List Value} {ds : List PyData} {as : List Addr}, ReadsAll h us ds as → PySem.W.EachIs (fun u d => ∃ as, Reads h u d as) us ds
  | _, _, _, .nil => .nil
  | _, _, _, .cons r t => .cons ⟨_, r⟩ (each_reads t)
theorem call_sorted_D (hu : X.A.units + 100 < cLine) : CallR X (.builtin "sorted") (rBD X.K (g1 sortedD)) := call_D1 fun pins s σ H F x u d r Q I rx le hx hr q => by
  cases d with
  | list xs =>
    obtain ⟨a, vs, rfl, t1, k1⟩ := hx
    simp only [sortedD] at hr
    split at hr
    · rename_i hl
      cases hr
      unfold sortOk at hl
      simp only [Bool.and_eq_true, decide_eq_true_eq] at hl
      obtain ⟨⟨h1, h2⟩, h3⟩ := hl
      obtain ⟨a1, a2⟩ := alikeOk_of h2
      cases rx
      obtain ⟨hz, its, n, sl, rv, hlen, e⟩ := rd_lst I t1
      obtain ⟨as, ra⟩ := Dat.readsAll I xs vs its (plainAll_of fun x hx => a1 x hx x hx) (k1.mono le) rv
      refine PySem.W.sorted_data (enc := id) (R := fun u d => ∃ v, RelV v u ∧ Dat X.K F v d) ⟨_, e, rfl, n, rfl⟩ (each_of rv k1) (each_reads ra) ?_ ?_ ?_ ?_ fun out hl2 he => ?_
      · intro d hd d' hd'
        rw [List.map_id] at hd hd'
        exact a1 d hd d' hd'
      · rw [List.map_id]
        simp only [Bool.or_eq_true, List.all_eq_true] at h3
        rcases h3 with h3 | h3
        · refine .inl fun d hd => ?_
          have := h3 d hd
          split at this
          · exact ⟨_, _, rfl⟩
          · cases this
        · refine .inr fun d hd => ?_
          have := h3 d hd
          constructor
          · rintro rfl; cases this
          · rintro ys rfl; cases this
      · exact h1
      · intro b hb
        have := depth_mem a2 b hb
        show X.A.units + 2 + b.depth < cLine
        omega
      · obtain ⟨ws, w1, w2⟩ := of_each he
        obtain ⟨ep, he'⟩ := PyProof.Rows.sortedAll_at s.heap its (List.toArray out)
        have hlen : ws.length ≤ sizeLine := by
          rw [w1.length, hl2]; exact h1
        refine ⟨.ref _, upd H (s.heap.objs.size + 1) (.lst ws), I.laid (t' := s.toks) (fun _ _ => PyProof.Rows.sortedAll_old) (Nat.le_succ _) ⟨hlen, out, ep, w1, he'⟩, rfl, q _ _ (New.lst (I.hok.fresh (Nat.le_succ _)) w2)⟩
    · cases hr
  | _ => simp [sortedD] at hr
theorem min_mem (x : PyData) : ∀ xs : List PyData, PySem.W.minD x xs ∈ x :: xs := by
  intro xs
  unfold PySem.W.minD
  induction xs generalizing x with
  | nil => exact List.mem_cons_self
  | cons y ys ih =>
    rw [List.foldl_cons]
    rcases List.mem_cons.mp (ih (if PySem.W.dataLt y x then y else x)) with e | e
    · rw [e]
      split
      · exact List.mem_cons_of_mem _ List.mem_cons_self
      · exact List.mem_cons_self
    · exact List.mem_cons_of_mem _ (List.mem_cons_of_mem _ e)
theorem max_mem (x : PyData) : ∀ xs : List PyData, PySem.W.maxD x xs ∈ x :: xs := by
  intro xs
  unfold PySem.W.maxD
  induction xs generalizing x with
  | nil => exact List.mem_cons_self
  | cons y ys ih =>
    rw [List.foldl_cons]
    rcases List.mem_cons.mp (ih (if PySem.W.dataLt x y then y else x)) with e | e
    · rw [e]
      split
      · exact List.mem_cons_of_mem _ List.mem_cons_self
      · exact List.mem_cons_self
    · exact List.mem_cons_of_mem _ (List.mem_cons_of_mem _ e)
theorem call_min_D (hc : X.calm = true) (hu : X.A.units + 100 < cLine) : CallR X (.builtin "min") (rBD X.K (g1 minDd)) := call_D1 fun pins s σ H F x u d r Q I rx le hx hr q => by
  cases d with
  | list xs =>
    cases xs with
    | nil => simp [minDd] at hr
    | cons y ys =>
      obtain ⟨a, vs, rfl, t1, k1⟩ := hx
      simp only [minDd] at hr
      split at hr
      · rename_i hl
        cases hr
        rw [Bool.and_eq_true] at hl
        have hc2 := hl.2
        have hl := hl.1
        rw [Bool.and_eq_true] at hl
        obtain ⟨a1, a2⟩ := alikeOk_of hl.1
        cases rx
        obtain ⟨hz, its, n, sl, rv, hlen, e⟩ := rd_lst I t1
        obtain ⟨as, ra⟩ := Dat.readsAll I (y :: ys) vs its (plainAll_of fun x hx => a1 x hx x hx) (k1.mono le) rv
        have hnn : ∀ x ∈ y :: ys, x ≠ .none := fun x hx e => by
          have h2 := hl.2
          unfold noNone at h2
          rw [List.all_eq_true] at h2
          have := h2 x hx
          rw [e] at this
          cases this
        refine PySem.W.min_list_data (I.ok.hd hc) ⟨_, e, rfl, n, rfl⟩ ra ⟨a1, hnn⟩ (by omega) fun i v h' tk bs hv hrd kp => ?_
        have hv' : its[i]? = some v := by simpa using hv
        obtain ⟨w, hw, rw'⟩ : ∃ w, vs[i]? = some w ∧ RelV w v := by
          cases q2 : vs[i]? with
          | none =>
            have := Vals.none_of rv q2
            rw [hv'] at this; cases this
          | some w =>
            obtain ⟨u, h1, h2⟩ := Vals.get rv q2
            rw [hv'] at h1; cases h1
            exact ⟨w, rfl, h2⟩
        obtain ⟨d, hd, hD⟩ : ∃ d, (y :: ys)[i]? = some d ∧ Dat X.K F w d := by
          cases q2 : (y :: ys)[i]? with
          | none =>
            have h1 := List.getElem?_eq_none_iff.mp q2
            rw [← k1.length] at h1
            have h2 := List.getElem?_eq_none_iff.mpr h1
            rw [hw] at h2; cases h2
          | some d =>
            obtain ⟨w2, h1, h2⟩ := k1.get q2
            rw [hw] at h1; cases h1
            exact ⟨d, rfl, h2⟩
        have hmem : d ∈ y :: ys := List.mem_of_getElem? hd
        have I1 : Inv X pins σ H { s with heap := h', toks := tk } := I.kept (t' := tk) kp
        obtain ⟨cs, rd⟩ := Dat.reads I1 d w v (alike_plain d (a1 d hmem d hmem)) (hD.mono le) rw'
        have hin : PySem.W.minD y ys ∈ y :: ys := min_mem y ys
        have ed : d = PySem.W.minD y ys := PySem.W.alike_unique d _ v cs bs (a1 d hmem _ hin) rd hrd
        refine ⟨w, H, I1, rw', q _ _ (.inl ⟨rfl, ed ▸ hD, ?_⟩)⟩
        simpa using hc2
      · cases hr
  | _ => simp [minDd] at hr
theorem call_max_D (hc : X.calm = true) (hu : X.A.units + 100 < cLine) : CallR X (.builtin "max") (rBD X.K (g1 maxDd)) := call_D1 fun pins s σ H F x u d r Q I rx le hx hr q => by
  cases d with
  | list xs =>
    cases xs with
    | nil => simp [maxDd] at hr
    | cons y ys =>
      obtain ⟨a, vs, rfl, t1, k1⟩ := hx
      simp only [maxDd] at hr
      split at hr
      · rename_i hl
        cases hr
        rw [Bool.and_eq_true] at hl
        have hc2 := hl.2
        have hl := hl.1
        rw [Bool.and_eq_true] at hl
        obtain ⟨a1, a2⟩ := alikeOk_of hl.1
        cases rx
        obtain ⟨hz, its, n, sl, rv, hlen, e⟩ := rd_lst I t1
        obtain ⟨as, ra⟩ := Dat.readsAll I (y :: ys) vs its (plainAll_of fun x hx => a1 x hx x hx) (k1.mono le) rv
        have hnn : ∀ x ∈ y :: ys, x ≠ .none := fun x hx e => by
          have h2 := hl.2
          unfold noNone at h2
          rw [List.all_eq_true] at h2
          have := h2 x hx
          rw [e] at this
          cases this
        refine PySem.W.max_list_data (I.ok.hd hc) ⟨_, e, rfl, n, rfl⟩ ra ⟨a1, hnn⟩ (by omega) fun i v h' tk bs hv hrd kp => ?_
        have hv' : its[i]? = some v := by simpa using hv
        obtain ⟨w, hw, rw'⟩ : ∃ w, vs[i]? = some w ∧ RelV w v := by
          cases q2 : vs[i]? with
          | none =>
            have := Vals.none_of rv q2
            rw [hv'] at this; cases this
          | some w =>
            obtain ⟨u, h1, h2⟩ := Vals.get rv q2
            rw [hv'] at h1; cases h1
            exact ⟨w, rfl, h2⟩
        obtain ⟨d, hd, hD⟩ : ∃ d, (y :: ys)[i]? = some d ∧ Dat X.K F w d := by
          cases q2 : (y :: ys)[i]? with
          | none =>
            have h1 := List.getElem?_eq_none_iff.mp q2
            rw [← k1.length] at h1
            have h2 := List.getElem?_eq_none_iff.mpr h1
            rw [hw] at h2; cases h2
          | some d =>
            obtain ⟨w2, h1, h2⟩ := k1.get q2
            rw [hw] at h1; cases h1
            exact ⟨d, rfl, h2⟩
        have hmem : d ∈ y :: ys := List.mem_of_getElem? hd
        have I1 : Inv X pins σ H { s with heap := h', toks := tk } := I.kept (t' := tk) kp
        obtain ⟨cs, rd⟩ := Dat.reads I1 d w v (alike_plain d (a1 d hmem d hmem)) (hD.mono le) rw'
        have hin : PySem.W.maxD y ys ∈ y :: ys := max_mem y ys
        have ed : d = PySem.W.maxD y ys := PySem.W.alike_unique d _ v cs bs (a1 d hmem _ hin) rd hrd
        refine ⟨w, H, I1, rw', q _ _ (.inl ⟨rfl, ed ▸ hD, ?_⟩)⟩
        simpa using hc2
      · cases hr
  | _ => simp [maxDd] at hr
theorem call_D2 {f : Value} {g : PyData → PyData → Option PyData}
    (h : ∀ (pins : List (Addr × Obj)) (s : Shared) (σ : L2.St) (H F : Hp) (x y : V) (us : List Value) (d e r : PyData) (Q : VK), Inv X pins σ H s → Vals [x, y] us → Le F H → Shl X.K F H x d → Shl X.K F H y e → g d e = some r → (∀ z H', New X.K F H z r H' → Q z H') →
      wpAny (model X.prog X.w) X.A (call f us) (EP X pins σ Q) X.xe s) : CallR X f (rBD X.K (g2 g)) := by
  intro pins s σ H xs us Q I rv hq
  obtain ⟨F, ds, r, le, hs, hg, q⟩ := hq
  cases hs with
  | nil => cases hg
  | cons h1 h2 =>
    cases h2 with
    | nil => cases hg
    | cons h3 h4 =>
      cases h4 with
      | nil => exact h pins s σ H F _ _ us _ _ r Q I rv le h1 h3 hg q
      | cons _ _ => cases hg
theorem call_max2_D (hc : X.calm = true) : CallR X (.builtin "max") (rBD X.K (g2 max2D)) := call_D2 fun pins s σ H F x y us d e r Q I rv le hx hy hr q => by
  cases d with
  | int i =>
    cases e with
    | int j =>
      cases hx.int; cases hy.int
      cases hr
      exact call_max2 hc pins s σ H _ us Q I rv ⟨i, j, rfl, q _ _ (New.int _)⟩
    | _ => simp [max2D] at hr
  | _ => simp [max2D] at hr
theorem call_min2_D (hc : X.calm = true) : CallR X (.builtin "min") (rBD X.K (g2 min2D)) := call_D2 fun pins s σ H F x y us d e r Q I rv le hx hy hr q => by
  cases d with
  | int i =>
    cases e with
    | int j =>
      cases hx.int; cases hy.int
      cases hr
      exact call_min2 hc pins s σ H _ us Q I rv ⟨i, j, rfl, q _ _ (New.int _)⟩
    | _ => simp [min2D] at hr
  | _ => simp [min2D] at hr
def bval : Bi → Value
  | .len => .builtin "len"
  | .abs => .builtin "abs"
  | .int => .type "int"
  | .tuple => .type "tuple"
  | .list => .type "list"
  | .sorted => .builtin "sorted"
  | .sum => .builtin "sum"
  | .min => .builtin "min"
  | .max => .builtin "max"
  | .min2 => .builtin "min"
  | .max2 => .builtin "max"
theorem call_bi (hc : X.calm = true) (hu : X.A.units + 100 < cLine) (b : Bi) : CallR X (bval b) (rBD X.K (bi b)) := by
  cases b with
  | len => exact call_len_D
  | abs => exact call_abs_D
  | int => exact call_int_D
  | tuple => exact call_tup_D
  | list => exact call_lst_D
  | sorted => exact call_sorted_D hu
  | sum => exact call_sum_D hc
  | min => exact call_min_D hc hu
  | max => exact call_max_D hc hu
  | min2 => exact call_min2_D hc
  | max2 => exact call_max2_D hc
theorem isTy_data {t : Ty} {d : PyData} : isTy t d = (match t with | .int => d.isInt | .bool => d.isBool | .str => d.isStr | .tuple => d.isTuple | .list => d.isList | .dict => d.isDict) := by
  cases t <;> cases d <;> rfl
def tyN : Ty → String
  | .int => "int" | .bool => "bool" | .str => "str" | .tuple => "tuple" | .list => "list" | .dict => "dict"
theorem call_isa_D (t : Ty) : CallR X (.builtin "isinstance") (fun xs H Q => ∃ x, xs = [x, .ty (tyN t)] ∧ rBD X.K (g1 (isaD t)) [x] H Q) := by
  intro pins s σ H xs us Q I rv h
  obtain ⟨x, rfl, F, ds, r, le, hs, hg, q⟩ := h
  obtain ⟨u1, u2, rfl, r1, r2⟩ := vals2 rv
  cases (show u2 = Value.type (tyN t) from r2)
  cases hs with
  | cons h1 h2 =>
    cases h2
    rename_i d
    simp only [g1, isaD] at hg
    split at hg
    · rename_i hp
      cases hg
      obtain ⟨as, rd⟩ := Dat.reads I d x u1 hp (h1.dat le) r1
      have fin : ∀ (k : Bool), k = isTy t d → ∀ tk, EP X pins σ Q (.bool k) { s with toks := tk } := fun k e tk => ⟨.bl _, H, I.tok tk, by rw [e]; rfl, q _ _ (New.bl _)⟩
      rw [isTy_data] at fin
      cases t with
      | int => exact PySem.W.isinstance_int_data rd fun tk _ => fin _ rfl tk
      | bool => exact PySem.W.isinstance_bool_data rd fun tk _ => fin _ rfl tk
      | str => exact PySem.W.isinstance_str_data rd fun tk _ => fin _ rfl tk
      | tuple => exact PySem.W.isinstance_tuple_data rd fun tk _ => fin _ rfl tk
      | list => exact PySem.W.isinstance_list_data rd fun tk _ => fin _ rfl tk
      | dict => exact PySem.W.isinstance_dict_data rd fun tk _ => fin _ rfl tk
    · cases hg
theorem tru_D : TruR X (fun x H Q => ∃ F d k, Le F H ∧ Shl X.K F H x d ∧ truth d = some k ∧ Q k H) := by
  intro pins s σ H x v Q I rx h
  obtain ⟨F, d, k, le, hx, hk, q⟩ := h
  refine tru_ok pins s σ H x v Q I rx ⟨k, ?_, q⟩
  cases d with
  | none => cases (show Dat X.K F x .none from hx); cases hk; rfl
  | bool b => cases hx.bool; cases hk; rfl
  | int i => cases hx.int; cases hk; rfl
  | str z =>
    cases hx.str
    simp only [truth] at hk
    split at hk
    · rename_i hl
      cases hk
      refine ⟨hl, ?_⟩
      show (!z.cps.isEmpty) = (((z.cps.size : Nat) : Int) != 0)
      rw [Bool.eq_iff_iff]
      simp
    · cases hk
  | list xs =>
    obtain ⟨a, vs, rfl, t1, k1⟩ := hx
    cases hk
    exact .inl ⟨vs, t1, by cases k1 <;> rfl⟩
  | tuple xs =>
    obtain ⟨a, vs, rfl, t1, k1⟩ := hx.tup le
    cases hk
    exact .inr (.inl ⟨vs, t1, by cases k1 <;> rfl⟩)
  | dict xs => cases hk
end
end Fx
set_option Elab.async false
set_option linter.all false
set_option maxRecDepth 100000
/-! M7: what is wanted of an expression's run; pure expressions; operands. -/
namespace Fx
open PySem PySem.Spec PyProof.Rows L2

/-- the ghosts of a body: the functions, the written part, what is lent, what is wanted of an exception -/
structure Gh where
  c : Orc
  K : PySem.W.Frag
  L : List (Nat × V)
  XI : PyData → Value → Option Addr → Hp → Prop
  EX : XK
  CX : CXT
  k : Nat
def Out {α : Type} (r : Rs α) (ok : α → Prop) (ex : PyData → Prop) : Prop := match r with
  | .ok a => ok a
  | .ex x => ex x
  | .bad => False
theorem Out.bind {α β : Type} {r : Rs α} {f : α → Rs β} {ok : β → Prop} {ex : PyData → Prop} (h : Out (r.bind f) ok ex) : Out r (fun a => Out (f a) ok ex) ex := by
  cases r <;> exact h
theorem Out.mono {α : Type} {r : Rs α} {ok ok' : α → Prop} {ex ex' : PyData → Prop} (h : Out r ok ex) (h1 : ∀ a, r = .ok a → ok a → ok' a) (h2 : ∀ x, r = .ex x → ex x → ex' x) : Out r ok' ex' := by
  cases r with
  | ok a => exact h1 a rfl h
  | ex x => exact h2 x rfl h
  | bad => exact h
theorem Out.of {α : Type} {o : Option α} {ok : α → Prop} {ex : PyData → Prop} (h : Out (Rs.of o) ok ex) : ∃ a, o = some a ∧ ok a := by
  cases o with
  | none => exact h.elim
  | some a => exact ⟨a, rfl, h⟩
theorem Out.of_bind {α β : Type} {o : Option α} {f : α → Rs β} {ok : β → Prop} {ex : PyData → Prop} (h : Out ((Rs.of o).bind f) ok ex) : ∃ a, o = some a ∧ Out (f a) ok ex := by
  cases o with
  | none => exact h.elim
  | some a => exact ⟨a, rfl, h⟩
/-- what was put aside stands, what could be read can be read -/
structure Stp (T : As) (H : Hp) (fps : Nat → As) (T' : As) (H' : Hp) (fps' : Nat → As) : Prop where
  aside : ∀ b, T b → H' b = H b
  le : Le (fr T H fps) (fr T' H' fps')
theorem Stp.refl (T : As) (H : Hp) (fps : Nat → As) : Stp T H fps T H fps := ⟨fun _ _ => rfl, Le.refl _⟩
theorem Stp.trans {T T1 T2 : As} {H H1 H2 : Hp} {f0 f1 f2 : Nat → As} (hs : ∀ b, T b → T1 b) (a : Stp T H f0 T1 H1 f1) (b : Stp T1 H1 f1 T2 H2 f2) : Stp T H f0 T2 H2 f2 :=
  ⟨fun x h => (b.aside x (hs x h)).trans (a.aside x h), a.le.trans b.le⟩
theorem Stp.tr {T T2 : As} {H H1 H2 : Hp} {f0 f1 f2 : Nat → As} (a : Stp T H f0 T H1 f1) (b : Stp T H1 f1 T2 H2 f2) : Stp T H f0 T2 H2 f2 := a.trans (fun _ h => h) b
/-- an exception leaves -/
def XWE (XI : PyData → Value → Option Addr → Hp → Prop) (EX : XK) (T : As) (H : Hp) (fps : Nat → As) (x : PyData) : Prop := ∀ cls a H', (∀ b, T b → H' b = H b) → Le (fr T H fps) (hid H' T) → XI x cls a H' → EX cls a H'
abbrev XW (G : Gh) (T : As) (H : Hp) (fps : Nat → As) (x : PyData) : Prop := XWE G.XI G.EX T H fps x
theorem XW.step {G : Gh} {T f : As} {H H1 : Hp} {fps fps1 : Nat → As} {x : PyData} (h : XW G T H fps x) (s : Stp T H fps (or' f T) H1 fps1) : XW G (or' f T) H1 fps1 x := fun cls a H' k le xi =>
  h cls a H' (fun b hb => (k b (.inr hb)).trans (s.aside b hb)) (s.le.trans (le.trans (hid_mono fun b hb => .inr hb))) xi
theorem XW.step0 {G : Gh} {T : As} {H H1 : Hp} {fps fps1 : Nat → As} {x : PyData} (h : XW G T H fps x) (s : Stp T H fps T H1 fps1) : XW G T H1 fps1 x := fun cls a H' k le xi =>
  h cls a H' (fun b hb => (k b hb).trans (s.aside b hb)) (s.le.trans le) xi
/-- behind an expression: its value v is d, owned to the depth k -/
def VOut (G : Gh) (T : As) (H : Hp) (fps : Nat → As) (σ : L2.St) (k : Nat) (r : PyData × EnvD) (v : V) (H' : Hp) : Prop :=
  ∃ fps' f, SOk G.K G.L (or' f T) r.2 σ H' fps' ∧ Rep G.K (fr (or' f T) H' fps') H' k v r.1 f ∧ Dis f T ∧ Stp T H fps (or' f T) H' fps'
def tV (G : Gh) (k : Nat) (f : EnvD → Rs (PyData × EnvD)) : TE := fun σ H Q => ∃ T env fps, SOk G.K G.L T env σ H fps ∧ Out (f env) (fun r => ∀ v H', VOut G T H fps σ k r v H' → Q v H') (XW G T H fps)
def TOut (G : Gh) (T : As) (H : Hp) (fps : Nat → As) (σ : L2.St) (env : EnvD) (H' : Hp) : Prop := ∃ fps', SOk G.K G.L T env σ H' fps' ∧ Stp T H fps T H' fps'
def tT (G : Gh) (f : EnvD → Rs (Bool × EnvD)) : TT := fun σ H Q => ∃ T env fps, SOk G.K G.L T env σ H fps ∧ Out (f env) (fun r => ∀ H', TOut G T H fps σ r.2 H' → Q r.1 H') (XW G T H fps)
/-- a pure expression -/
def tP (G : Gh) (p : P) : TE := fun σ H Q => ∃ T env fps, SOk G.K G.L T env σ H fps ∧ ∃ j d, evP G.c p env = some (j, d) ∧ ∀ v fp, Rep G.K (fr T H fps) H j v d fp → (∀ b, fp b → all' T fps b) → (∀ i, p = .at i → σ[i]? = some (some v)) → Q v H

theorem _root_.L2.PE.weaken {X : Cx} {e : Expr} {t t' : TE} (h : PE X e t) (w : ∀ σ H Q, t' σ H Q → t σ H Q) : PE X e t' := ⟨fun pins s σ H Q I q => h.run pins s σ H Q I (w σ H Q q)⟩
theorem _root_.L2.PT.weaken {X : Cx} {e : Expr} {t t' : TT} (h : PT X e t) (w : ∀ σ H Q, t' σ H Q → t σ H Q) : PT X e t' := ⟨fun pins s σ H Q I q => h.run pins s σ H Q I (w σ H Q q)⟩
theorem _root_.L2.PA.weaken {X : Cx} {e : List Expr} {t t' : TA} (h : PA X e t) (w : ∀ σ H Q, t' σ H Q → t σ H Q) : PA X e t' := ⟨fun pos pins s σ H Q I q => h.run pos pins s σ H Q I (w σ H Q q)⟩
theorem _root_.L2.PS.weaken {X : Cx} {e : Stmt} {t t' : TS} (h : PS X e t) (w : ∀ D σ H, t' D σ H → t D σ H) : PS X e t' := ⟨fun pins s σ H D I q => h.run pins s σ H D I (w D σ H q)⟩
theorem _root_.L2.PSs.weaken {X : Cx} {e : List Stmt} {t t' : TS} (h : PSs X e t) (w : ∀ D σ H, t' D σ H → t D σ H) : PSs X e t' := ⟨fun pins s σ H D I q => h.run pins s σ H D I (w D σ H q)⟩

/-! ### the text's names -/
structure Gam where
  N : List Str
  sc : Scope
  st : Bool
  fns : List (Str × List Str)
  kws : List (Nat × Nat × List Str × List Nat)
  cons : List Str
/-- what lies behind a call: what was lent, the result v owned to the depth k -/
def lentOnly : List SV → List SV := List.map fun x => match x with
  | .sv true k d => .sv true k d
  | _ => .un
def FOut (K : PySem.W.Frag) (L : List (Nat × V)) (T : As) (H : Hp) (fps : Nat → As) (k : Nat) (vs : List V) (r : PyData × List SV) (v : V) (H' : Hp) : Prop :=
  ∃ fps' f, SOk K L (or' f T) (lentOnly r.2) (vs.map some) H' fps' ∧ Rep K (fr (or' f T) H' fps') H' k v r.1 f ∧ Dis f T ∧ Stp T H fps (or' f T) H' fps'
/-- what a def promises -/
def spF (K : PySem.W.Frag) (XI : PyData → Value → Option Addr → Hp → Prop) (c : Orc) (i n : Nat) : Sp := fun vs H Q E => vs.length = n ∧ ∃ L T svs fps, SOk K L T svs (vs.map some) H fps ∧ (∀ p ∈ L, vs[p.1]? = some p.2) ∧
  Out (c.fn i svs) (fun r => ∀ v H', FOut K L T H fps (c.ret i) vs r v H' → Q v H') (XWE XI E T H fps)
/-- how the values of a call lie in the parameters' order -/
def permL {α : Type} (js : List Nat) (xs : List α) : List α := js.filterMap fun j => xs[j]?
def bltNames : List Str := ["len", "abs", "int", "tuple", "list", "sorted", "sum", "min", "max", "isinstance", "range", "bool", "str", "dict", "enumerate", "zip", "all", "any", "reversed", "repr"]
/-- what a generator expression asks of the running def's code object -/
structure TabE (base : Heap) (mg : Str → Option Value) (c p : Addr) : Prop where
  code : PySem.W.CodeHd base c p
  bm : base.BuiltinsAt mg p
  gP : mainGlobals ≠ p
/-- a context in which a text with the names of Γ runs -/
structure Ok (Γ : Gam) (G : Gh) (X : Cx) : Prop where
  hK : X.K = G.K
  hN : X.N = Γ.N
  nd : Γ.N.Nodup
  sc : X.env.scope = Γ.sc
  calm : X.calm = true
  hu : X.A.units + 200 < cLine
  blt : ∀ x, x ∈ bltNames → X.mg x = none
  con : ∀ n x d, Γ.cons[n]? = some x → G.c.con n = some d → ∃ v u, X.mg x = some u ∧ RelV v u ∧ ∀ F, Dat G.K F v d
  room : Room G.k X.A
  pass : Passes G.CX X G.EX
  own : PassesOwn (model X.prog X.w) X.A X.env X.xe
  cel : ∀ x, Γ.st = true → X.fn x = true
  code : ∃ a p, X.env.code = .ref a ∧ (a, p) ∈ csOf G.K ∧ TabE X.base X.mg a p
  passN : ∀ outer H s e s', G.CX outer H s (fun _ _ _ => False) e s' → False
  fns : ∀ i x ps, Γ.fns[i]? = some (x, ps) → ∃ f fd, X.mg x = some (.ref f) ∧ PySem.W.keepIn X.K (.ref f) = true ∧ FnOk X.prog X.w X.K X.mg X.base G.CX G.k f fd ps (spF G.K G.XI G.c i ps.length) ∧
    Binds X.K fd ps [] ∧ ∀ n ks js, (i, n, ks, js) ∈ Γ.kws → KBn X.K fd ps n ks (fun us ws => permL js (us ++ ws)) (fun vs zs => permL js (vs ++ zs))

def bad1 : Str := "__debug__"
def bad2 : Str := "__classdict__"
def bad3 : Str := "__name__"
def okName (x : Str) : Bool := !(x == bad1) && !(x == bad2) && !(x == bad3)
theorem okName_1 {x : Str} (h : okName x = true) : (x == ("__debug__" : Str)) = false ∧ (x == ("__classdict__" : Str)) = false ∧ x ≠ "__name__" := by
  unfold okName at h
  simp only [Bool.and_eq_true, Bool.not_eq_true'] at h
  exact ⟨h.1.1, h.1.2, by intro e; rw [e] at h; exact absurd h.2 (by decide)⟩
def isVis (Γ : Gam) (x : Str) : Bool := match Γ.sc.names.lookup x with
  | some .local => true
  | some .cell => true
  | some .free => true
  | _ => false
theorem isVis_ok {Γ : Gam} {x : Str} (h : isVis Γ x = true) : Vis Γ.sc x := by
  unfold isVis at h
  split at h
  · exact .inl (by assumption)
  · exact .inr (.inl (by assumption))
  · exact .inr (.inr (by assumption))
  · cases h
def isLoc (Γ : Gam) (x : Str) : Bool := match Γ.sc.names.lookup x with
  | some .local => true
  | some .cell => true
  | _ => false
theorem isLoc_ok {Γ : Gam} {x : Str} (h : isLoc Γ x = true) : Loc Γ.sc x := by
  unfold isLoc at h
  split at h
  · exact .inl (by assumption)
  · exact .inr (by assumption)
  · cases h
def isGl (Γ : Gam) (x : Str) : Bool := decide (Γ.sc.names.lookup x = some .globalImplicit) && okName x
theorem Ok.gl {Γ : Gam} {G : Gh} {X : Cx} (ok : Ok Γ G X) {x : Str} (h : isGl Γ x = true) : Gl X x ∧ okName x = true := by
  unfold isGl at h
  simp only [Bool.and_eq_true, decide_eq_true_eq] at h
  refine ⟨?_, h.2⟩
  show X.env.scope.names.lookup x = _
  rw [ok.sc]; exact h.1
def noSlice : Expr → Bool
  | .Slice .. => false
  | _ => true
theorem plainIx {e : Expr} (h : noSlice e = true) : PlainIx e := by
  intro o i
  cases e <;> first | rfl | cases h
def noStar1 : Expr → Bool
  | .Starred .. => false
  | _ => true
theorem star_cons {e : Expr} {es : List Expr} {env : PySem.Env} (h : noStar1 e = true) : starEach (e :: es) env = (false, eval e env) :: starEach es env := by
  cases e <;> first | rfl | cases h
def noStar (es : List Expr) : Bool := es.all noStar1
theorem star_any {env : PySem.Env} {pos : Pos} : ∀ {es : List Expr}, noStar es = true → (backTo pos (starEach es env)).any (·.1) = false
  | [], _ => rfl
  | e :: es, h => by
    have h : noStar1 e = true ∧ noStar es = true := by simpa [noStar] using h
    rw [star_cons h.1]
    show (false || (backTo pos (starEach es env)).any (·.1)) = false
    rw [star_any h.2]; rfl

/-! ### pure expressions -/
def opOk : B2 → Operator → Bool
  | .add, .Add => true | .sub, .Sub => true | .mul, .Mult => true | .fdiv, .FloorDiv => true | .mod, .Mod => true | .pow, .Pow => true | .shr, .RShift => true | .shl, .LShift => true
  | _, _ => false
theorem opOk_eq {o : B2} {p : Operator} (h : opOk o p = true) : p = bop o := by
  cases o <;> cases p <;> first | rfl | cases h
def cmpOk : C2 → CmpOp → Bool
  | .eq, .Eq => true | .ne, .NotEq => true | .lt, .Lt => true | .le, .LtE => true | .gt, .Gt => true | .ge, .GtE => true | .inn, .In => true | .nin, .NotIn => true
  | _, _ => false
theorem cmpOk_eq {o : C2} {p : CmpOp} (h : cmpOk o p = true) : p = cop o := by
  cases o <;> cases p <;> first | rfl | cases h
def conOk : PyData → Const → Bool
  | .int i, .int j => decide (i = j)
  | .bool a, .bool b => a == b
  | .str a, .str b => decide (a = b)
  | .none, .none => true
  | _, _ => false
def nInt : Str := "int"
def nLen : Str := "len"
def nAbs : Str := "abs"
def chkP (Γ : Gam) : P → Expr → Bool
  | .k d, .Constant c _ _ => conOk d c
  | .at i, .Name x _ => decide (Γ.N[i]? = some x) && isVis Γ x && okName x
  | .g n, .Name x _ => decide (Γ.cons[n]? = some x) && isGl Γ x
  | .ix a b, .Subscript x y _ => chkP Γ a x && chkP Γ b y && noSlice y
  | .b2 o a b, .BinOp x p y _ => opOk o p && chkP Γ a x && chkP Γ b y
  | .p1 .neg a, .UnaryOp .USub x _ => chkP Γ a x
  | .p1 .int a, .Call (.Name f _) [x] [] _ => decide (f = nInt) && isGl Γ f && chkP Γ a x && noStar1 x
  | .p1 .len a, .Call (.Name f _) [x] [] _ => decide (f = nLen) && isGl Γ f && chkP Γ a x && noStar1 x
  | .p1 .abs a, .Call (.Name f _) [x] [] _ => decide (f = nAbs) && isGl Γ f && chkP Γ a x && noStar1 x
  | _, _ => false
section
variable {Γ : Gam} {G : Gh} {X : Cx}
theorem rep_dat {T : As} {env : EnvD} {σ : L2.St} {H : Hp} {fps : Nat → As} {j : Nat} {v : V} {d : PyData} {fp : As} (h : Rep G.K (fr T H fps) H j v d fp) : Dat G.K H v d := h.dat j hid_le fun _ _ => rfl
theorem blt_none (ok : Ok Γ G X) {x : Str} (h : x ∈ bltNames) : X.mg x = none := ok.blt x h
theorem atI_mem {α : Type} {xs : List α} {i : Int} {v : α} (h : atI xs i = some v) : ∃ j : Nat, xs[j]? = some v := by
  unfold atI at h
  cases q : ixN xs.length i with
  | none => rw [q] at h; cases h
  | some j => rw [q] at h; exact ⟨j, h⟩
theorem RepL.get {R : RR} : ∀ {vs : List V} {ds : List PyData} {g : As}, RepL R vs ds g → ∀ {i : Nat} {d : PyData}, ds[i]? = some d → ∃ v f, vs[i]? = some v ∧ R v d f ∧ ∀ b, f b → g b
  | _, _, _, .nil, _, _, h => by simp at h
  | _, _, _, .cons h t dj, 0, _, e => by simp at e; subst e; exact ⟨_, _, rfl, h, fun _ z => .inl z⟩
  | _, _, _, .cons h t dj, i + 1, _, e => by
    obtain ⟨v, f, h1, h2, h3⟩ := RepL.get t (i := i) (by simpa using e)
    exact ⟨v, f, by simpa using h1, h2, fun b z => .inr (h3 b z)⟩
theorem RepL.atI {R : RR} {vs : List V} {ds : List PyData} {g : As} (h : RepL R vs ds g) {i : Int} {d : PyData} (e : atI ds i = some d) : ∃ v f, L2.atI vs i = some v ∧ R v d f ∧ ∀ b, f b → g b := by
  unfold L2.atI at e ⊢
  rw [h.length]
  cases q : ixN ds.length i with
  | none => rw [q] at e; cases e
  | some j =>
    rw [q] at e
    exact h.get e
/-- an item of owned or frozen data -/
theorem ix_P : IxR X (fun x y H Q => ∃ F j d e r fp, Le F H ∧ Rep X.K F H j x d fp ∧ Dat X.K H y e ∧ ixD d e = some r ∧ ∀ z f, Rep X.K F H (if isCont d = true then j - 1 else 0) z r f → (∀ b, f b → fp b) → Q z H) := by
  intro value slice pins s σ H x y v u Q I rx ry h hs
  obtain ⟨F, j, d, e, r, fp, le, hd, he, hr, q⟩ := h
  have dict : ∀ {ds : List (PyData × PyData)} {k : Key} {e : PyData}, keyOf e = some k → Dat X.K H y e → Rep X.K F H j x (.dict ds) fp → dgetD ds k = some r → (∀ z f, Rep X.K F H (j - 1) z r f → (∀ b, f b → fp b) → Q z H) → wpAny (model X.prog X.w) X.A (subscriptTail value slice v u) (EP X pins σ Q) X.xe s := fun {ds k e} ek he hd hr q => by
    obtain rfl := he.key ek
    cases j with
    | zero =>
      cases hd.2 with
      | dk q1 q2 =>
        obtain rfl : v = Value.ref _ := rx
        obtain ⟨z, z1, z2⟩ := q2.get hr
        exact sub_dk I.hok (le _ _ q1) ry z1 hs fun w r' => ⟨z, H, I.tok _, r', q z none' ⟨rfl, z2⟩ fun _ h => h.elim⟩
      | dt q1 q2 => exact q2.elim.elim
    | succ j =>
      rcases hd with ⟨h1, h2, h3⟩ | ⟨a, vs, ds, g, rfl, ed, h1, h2, h3, rfl⟩ | ⟨a, vs, ds, g, rfl, ed, h1, h2, h3, rfl⟩ | ⟨a, vs, ds, g, rfl, ed, h1, h2, h3, rfl⟩
      · cases h1
      · cases ed
      · cases ed
        obtain rfl : v = Value.ref _ := rx
        obtain ⟨z, f, z1, z2, z3⟩ := h2.get hr
        exact sub_dk I.hok (.inl h1) ry z1 hs fun w r' => ⟨z, H, I.tok _, r', q z f z2 fun b hb => .inr (z3 b hb)⟩
      · exact h2.elim.elim
  have dk : ∀ {ds : List (PyData × PyData)} {k : Key}, d = .dict ds → keyOf e = some k → dgetD ds k = some r → wpAny (model X.prog X.w) X.A (subscriptTail value slice v u) (EP X pins σ Q) X.xe s := fun {ds k} ed ek hr2 => by
    subst ed
    exact dict ek he hd hr2 q
  cases e with
  | str y0 =>
    cases d with
    | dict ds => exact dk rfl rfl hr
    | _ => cases hr
  | int i =>
    by_cases hdd : ∃ ds, d = .dict ds
    · obtain ⟨ds, ed⟩ := hdd
      subst ed
      exact dk rfl (k := .inl i) rfl hr
    cases he.intV
    have plain : Dat X.K F x d → isCont d = false → _ := fun h3 h1 => ix_D value slice pins s σ H x _ v u Q I rx ry ⟨F, d, _, r, le, Shl.of le h3, Shl.of le (Dat.int i), hr, fun z hz => by
      rw [h1] at q
      exact q z none' ⟨rfl, hz⟩ fun _ h => h.elim⟩ hs
    cases j with
    | zero =>
      refine ix_D value slice pins s σ H x _ v u Q I rx ry ⟨F, d, _, r, le, Shl.of le hd.2, Shl.of le (Dat.int i), hr, fun z hz => ?_⟩ hs
      refine q z none' ?_ fun _ h => h.elim
      split <;> exact ⟨rfl, hz⟩
    | succ j =>
      rcases hd with ⟨h1, h2, h3⟩ | ⟨a, vs, ds, g, rfl, rfl, h1, h2, h3, rfl⟩ | ⟨a, vs, ds, g, rfl, rfl, h1, h2, h3, rfl⟩ | ⟨a, vs, ds, g, rfl, rfl, h1, h2, h3, rfl⟩
      · exact plain h3 h1
      · obtain ⟨w, f, w1, w2, w3⟩ := h2.atI (show atI ds i = some r from hr)
        exact ix_list value slice pins s σ H _ _ v u Q I rx ry ⟨a, vs, i, w, rfl, rfl, .inl (.inl h1), w1, q w f w2 fun b z => .inr (w3 b z)⟩ hs
      · exact absurd ⟨ds, rfl⟩ hdd
      · exact absurd ⟨ds, rfl⟩ hdd
  | _ => cases d <;> cases hr
theorem con_V {d : PyData} {c : Const} {F : Hp} (h : conOk d c = true) {i : Nat} {pos : Pos} : ∃ v, Dat X.K F v d ∧ PE X (.Constant c i pos) (tC v) := by
  cases d <;> cases c <;> first
    | (cases h; done)
    | (simp [conOk] at h; done)
    | skip
  · exact ⟨_, .non, pe_non⟩
  · rename_i a b
    have e : a = b := by simpa [conOk] using h
    subst e
    exact ⟨_, .bl a, pe_bl⟩
  · rename_i a b
    have e : a = b := by simpa [conOk] using h
    subst e
    exact ⟨_, .int a, pe_int⟩
  · rename_i a b
    have e : a = b := by simpa [conOk] using h
    subst e
    exact ⟨_, .str a, pe_str⟩
theorem pure_call (ok : Ok Γ G X) {o : P1} {a : P} {f : Str} {p pos : Pos} {x : Expr} {id : Value} (hx : PE X x (tP G a)) (hf : f ∈ bltNames) (hg : isGl Γ f = true) (hs : noStar1 x = true)
    (hb : (∃ n, id = .builtin n ∧ bootBuiltins f = some (.builtin n)) ∨ ∃ n, id = .type n ∧ bootBuiltins f = some (.type n)) (hc : CallR X id (rBD X.K (g1 (p1 o)))) (hsc : ∀ d r, p1 o d = some r → (scal r).isSome = true) :
    PE X (.Call (.Name f p) [x] [] pos) (tP G (.p1 o a)) := by
  obtain ⟨g1', g2'⟩ := ok.gl hg
  obtain ⟨n1, n2, n3⟩ := okName_1 g2'
  have pa : PA X [x] (tCons (tP G a) tNil) := pa_cons hx pa_nil (star_cons hs)
  have w : ∀ σ H Q, tP G (.p1 o a) σ H Q → tCB (rBD X.K (g1 (p1 o))) (tCons (tP G a) tNil) σ H Q := fun σ H Q h => by
    obtain ⟨T, env, fps, I, j, d, e, q⟩ := h
    simp only [evP] at e
    obtain ⟨⟨j0, d0⟩, e1, e2⟩ := Option.bind_eq_some_iff.mp e
    obtain ⟨r, e3, e4⟩ := Option.map_eq_some_iff.mp e2
    cases e4
    refine ⟨T, env, fps, I, j0, d0, e1, fun v fp hv hfp _ => ⟨H, [d0], d, Le.refl _, .cons (Shl.of (Le.refl _) ?_) .nil, e3, fun z H' hz => ?_⟩⟩
    · rw [ok.hK]; exact rep_dat (env := env) (σ := σ) hv
    · obtain ⟨h1, h2⟩ := hz.flat (hsc _ _ e3)
      rw [h1]
      refine q z none' ⟨rfl, ?_⟩ (fun _ h => h.elim) fun _ h => by cases h
      rw [← ok.hK]; exact h2 _
  rcases hb with ⟨n, rfl, hb⟩ | ⟨n, rfl, hb⟩
  · exact (pe_callB hc g1' (ok.blt f hf) hb pa n3 n1 (star_cons hs) rfl).weaken w
  · exact (pe_callTy hc g1' (ok.blt f hf) hb pa n3 n1 (star_cons hs) rfl).weaken w
theorem p1_scal : ∀ {o : P1} {d r : PyData}, p1 o d = some r → (scal r).isSome = true := fun {o d r} h => by
  cases o <;> cases d <;> simp only [p1] at h <;> first
    | (cases h; rfl)
    | (cases h; done)
    | (split at h <;> cases h; rfl)
theorem snd_P (ok : Ok Γ G X) : ∀ (p : P) (e : Expr), chkP Γ p e = true → PE X e (tP G p)
  | .k d, e, h => by
    cases e <;> first | (simp [chkP] at h; done) | skip
    rename_i c i pos
    obtain ⟨v, hv, hp⟩ := con_V (X := X) (F := fun _ => none) (i := i) (pos := pos) (show conOk d c = true from h)
    refine hp.weaken fun σ H Q hq => ?_
    obtain ⟨T, env, fps, I, j, d', e1, q⟩ := hq
    cases e1
    refine q v none' ⟨rfl, ?_⟩ (fun _ h => h.elim) fun _ h => by cases h
    rw [← ok.hK]
    exact hv.mono (le_of_ext fun a o e => by cases e)
  | .at i, e, h => by
    cases e <;> first | (simp [chkP] at h; done) | skip
    rename_i x pos
    simp only [chkP, Bool.and_eq_true, decide_eq_true_eq] at h
    obtain ⟨⟨h1, h2⟩, h3⟩ := h
    obtain ⟨n1, n2, _⟩ := okName_1 h3
    refine (pe_var (i := i) (by rw [ok.hN]; exact h1) (by rw [ok.sc]; exact isVis_ok h2) n1 n2).weaken fun σ H Q hq => ?_
    obtain ⟨T, env, fps, I, j, d, e1, q⟩ := hq
    simp only [evP, slot] at e1
    split at e1
    · rename_i l k d' hs
      cases e1
      obtain ⟨v, v1, v2, v3⟩ := I.slot _ _ _ _ hs
      exact ⟨v, v1, q v _ v2 (fun b hb => .inr ⟨i, hb⟩) fun i' e => by cases e; exact v1⟩
    · cases e1
  | .g n, e, h => by
    cases e <;> first | (simp [chkP] at h; done) | skip
    rename_i x pos
    simp only [chkP, Bool.and_eq_true, decide_eq_true_eq] at h
    obtain ⟨g1', g2'⟩ := ok.gl h.2
    obtain ⟨n1, n2, _⟩ := okName_1 g2'
    refine ⟨fun pins s σ H Q I hq => ?_⟩
    obtain ⟨T, env, fps, I0, j, d, e1, q⟩ := hq
    simp only [evP] at e1
    obtain ⟨d0, e2, e3⟩ := Option.map_eq_some_iff.mp e1
    cases e3
    obtain ⟨v, u, m1, m2, m3⟩ := ok.con n x _ h.1 e2
    exact (pe_glob g1' m1 m2 n1).run pins s σ H Q I (q v none' ⟨rfl, m3 _⟩ (fun _ h => h.elim) fun _ h => by cases h)
  | .ix a b, e, h => by
    cases e <;> first | (simp [chkP] at h; done) | skip
    rename_i x y pos
    simp only [chkP, Bool.and_eq_true] at h
    obtain ⟨⟨h1, h2⟩, h3⟩ := h
    refine (pe_ix ix_P (snd_P ok a x h1) (snd_P ok b y h2) (plainIx h3)).weaken fun σ H Q hq => ?_
    obtain ⟨T, env, fps, I, j, d, e1, q⟩ := hq
    simp only [evP] at e1
    obtain ⟨⟨j1, d1⟩, a1, e2⟩ := Option.bind_eq_some_iff.mp e1
    obtain ⟨⟨j2, d2⟩, a2, e3⟩ := Option.bind_eq_some_iff.mp e2
    obtain ⟨r, a3, e4⟩ := Option.map_eq_some_iff.mp e3
    cases e4
    refine ⟨T, env, fps, I, j1, d1, a1, fun v fp hv hfp _ => ⟨T, env, fps, I, j2, d2, a2, fun w gp hw _ _ => ⟨fr T H fps, j1, d1, d2, _, fp, hid_le, by rw [ok.hK]; exact hv, by rw [ok.hK]; exact rep_dat (env := env) (σ := σ) hw, a3, fun z f hz hf => ?_⟩⟩⟩
    refine q z f ?_ (fun b hb => hfp b (hf b hb)) fun _ h => by cases h
    rw [← ok.hK]; exact hz
  | .b2 o a b, e, h => by
    cases e <;> first | (simp [chkP] at h; done) | skip
    rename_i x p y pos
    simp only [chkP, Bool.and_eq_true] at h
    obtain ⟨⟨h1, h2⟩, h3⟩ := h
    have e0 := opOk_eq h1
    subst e0
    refine (pe_op (op_b2 o) (snd_P ok a x h2) (snd_P ok b y h3)).weaken fun σ H Q hq => ?_
    obtain ⟨T, env, fps, I, j, d, e1, q⟩ := hq
    simp only [evP] at e1
    obtain ⟨⟨j1, d1⟩, a1, e2⟩ := Option.bind_eq_some_iff.mp e1
    obtain ⟨⟨j2, d2⟩, a2, e3⟩ := Option.bind_eq_some_iff.mp e2
    obtain ⟨r, a3, e4⟩ := Option.map_eq_some_iff.mp e3
    obtain ⟨r0, a4, a5⟩ := Option.bind_eq_some_iff.mp a3
    cases e4
    refine ⟨T, env, fps, I, j1, d1, a1, fun v fp hv hfp _ => ⟨T, env, fps, I, j2, d2, a2, fun w gp hw _ _ => ⟨H, d1, d2, r0, Le.refl _, Shl.of (Le.refl _) (by rw [ok.hK]; exact rep_dat (env := env) (σ := σ) hv), Shl.of (Le.refl _) (by rw [ok.hK]; exact rep_dat (env := env) (σ := σ) hw), a4, fun z H' hz => ?_⟩⟩⟩
    have hs : (scal r0).isSome = true := by rw [a5]; rfl
    have er : r0 = d := by
      cases r0 <;> simp [scal] at a5 <;> exact a5
    obtain ⟨b1, b2⟩ := hz.flat hs
    rw [b1]
    refine q z none' ⟨rfl, ?_⟩ (fun _ h => h.elim) fun _ h => by cases h
    rw [← ok.hK, ← er]; exact b2 _
  | .p1 o a, e, h => by
    cases o with
    | neg =>
      cases e <;> first | (simp [chkP] at h; done) | skip
      rename_i op x pos
      cases op <;> first | (simp [chkP] at h; done) | skip
      refine (pe_un un_neg_D (snd_P ok a x (by simpa [chkP] using h))).weaken fun σ H Q hq => ?_
      obtain ⟨T, env, fps, I, j, d, e, q⟩ := hq
      simp only [evP] at e
      obtain ⟨⟨j0, d0⟩, e1, e2⟩ := Option.bind_eq_some_iff.mp e
      obtain ⟨r, e3, e4⟩ := Option.map_eq_some_iff.mp e2
      cases e4
      refine ⟨T, env, fps, I, j0, d0, e1, fun v fp hv hfp _ => ⟨H, d0, d, Le.refl _, Shl.of (Le.refl _) ?_, e3, fun z H' hz => ?_⟩⟩
      · rw [ok.hK]; exact rep_dat (env := env) (σ := σ) hv
      · obtain ⟨h1, h2⟩ := hz.flat (p1_scal e3)
        rw [h1]
        refine q z none' ⟨rfl, ?_⟩ (fun _ h => h.elim) fun _ h => by cases h
        rw [← ok.hK]; exact h2 _
    | int =>
      cases e <;> first | (simp [chkP] at h; done) | skip
      rename_i f as ks pos
      cases f <;> first | (simp [chkP] at h; done) | skip
      rename_i f p
      match as, ks, h with
      | [x], [], h =>
        simp only [chkP, Bool.and_eq_true, decide_eq_true_eq] at h
        obtain ⟨⟨⟨h1, h2⟩, h3⟩, h4⟩ := h
        subst h1
        exact pure_call ok (snd_P ok a x h3) (by decide) h2 h4 (.inr ⟨_, rfl, by decide +kernel⟩) call_int_D fun _ _ => p1_scal
    | len =>
      cases e <;> first | (simp [chkP] at h; done) | skip
      rename_i f as ks pos
      cases f <;> first | (simp [chkP] at h; done) | skip
      rename_i f p
      match as, ks, h with
      | [x], [], h =>
        simp only [chkP, Bool.and_eq_true, decide_eq_true_eq] at h
        obtain ⟨⟨⟨h1, h2⟩, h3⟩, h4⟩ := h
        subst h1
        exact pure_call ok (snd_P ok a x h3) (by decide) h2 h4 (.inl ⟨_, rfl, by decide +kernel⟩) call_len_D fun _ _ => p1_scal
    | abs =>
      cases e <;> first | (simp [chkP] at h; done) | skip
      rename_i f as ks pos
      cases f <;> first | (simp [chkP] at h; done) | skip
      rename_i f p
      match as, ks, h with
      | [x], [], h =>
        simp only [chkP, Bool.and_eq_true, decide_eq_true_eq] at h
        obtain ⟨⟨⟨h1, h2⟩, h3⟩, h4⟩ := h
        subst h1
        exact pure_call ok (snd_P ok a x h3) (by decide) h2 h4 (.inl ⟨_, rfl, by decide +kernel⟩) call_abs_D fun _ _ => p1_scal
end
end Fx
set_option Elab.async false
set_option linter.all false
set_option maxRecDepth 100000
/-! M8: results, operands. -/
namespace Fx
open PySem PySem.Spec PyProof.Rows L2

section
variable {K : PySem.W.Frag} {F H : Hp}
theorem rep_dat1 {v : V} {d : PyData} {f : As} (h : Rep K F H 0 v d f) : Dat K F v d := h.2
theorem RepL.dat0 : ∀ {vs : List V} {ds : List PyData} {g : As}, RepL (Rep K F H 0) vs ds g → DatL K F vs ds ∧ g = none'
  | _, _, _, .nil => ⟨.nil, rfl⟩
  | _, _, _, .cons h t dj => by
    obtain ⟨h1, h2⟩ := RepL.dat0 t
    obtain ⟨rfl, h3⟩ := h
    subst h2
    exact ⟨.cons h3 h1, or_none _⟩
theorem RepK.dat0 : ∀ {vs : List (Key × V)} {ds : List (PyData × PyData)} {g : As}, RepK (Rep K F H 0) vs ds g → DatK K F vs ds ∧ g = none'
  | _, _, _, .nil => ⟨.nil, rfl⟩
  | _, _, _, .cons h t dj => by
    obtain ⟨h1, h2⟩ := RepK.dat0 t
    obtain ⟨rfl, h3⟩ := h
    subst h2
    exact ⟨.cons h3 h1, or_none _⟩
theorem RepT.dat0 : ∀ {vs : List (List Key × V)} {ds : List (PyData × PyData)} {g : As}, RepT (Rep K F H 0) vs ds g → DatT K F vs ds ∧ g = none'
  | _, _, _, .cons h t dj => by
    obtain ⟨h1, h2⟩ := RepT.dat0 t
    obtain ⟨rfl, h3⟩ := h
    subst h2
    exact ⟨.cons h3 h1, or_none _⟩
theorem RepL.of0 {vs : List V} {ds : List PyData} (h : DatL K F vs ds) : RepL (Rep K F H 0) vs ds none' := by
  induction vs generalizing ds with
  | nil => cases h; exact .nil
  | cons v vs ih =>
    cases h with
    | cons h t =>
      have := RepL.cons (R := Rep K F H 0) (f := none') (g := none') ⟨rfl, h⟩ (ih t) (dis_none _)
      rwa [or_none] at this
theorem RepK.of0 {vs : List (Key × V)} {ds : List (PyData × PyData)} (h : DatK K F vs ds) : RepK (Rep K F H 0) vs ds none' := by
  induction vs generalizing ds with
  | nil => cases h; exact .nil
  | cons v vs ih =>
    cases h with
    | @cons k _ _ _ _ h t =>
      have := RepK.cons (k := k) (R := Rep K F H 0) (f := none') (g := none') ⟨rfl, h⟩ (ih t) (dis_none _)
      rwa [or_none] at this
theorem RepT.of0 {vs : List (List Key × V)} {ds : List (PyData × PyData)} (h : DatT K F vs ds) : RepT (Rep K F H 0) vs ds none' := by
  exact h.elim.elim
/-- borrowed: its items are frozen -/
theorem rep_shl (le : Le F H) {j : Nat} {v : V} {d : PyData} {fp : As} (h : Rep K F H j v d fp) (hj : j ≤ 1 ∨ isCont d = false) : Shl K F H v d := by
  cases j with
  | zero => exact Shl.of le h.2
  | succ j =>
    rcases h with ⟨h1, h2, h3⟩ | ⟨a, vs, ds, g, rfl, rfl, h1, h2, h3, rfl⟩ | ⟨a, vs, ds, g, rfl, rfl, h1, h2, h3, rfl⟩ | ⟨a, vs, ds, g, rfl, rfl, h1, h2, h3, rfl⟩
    · exact Shl.of le h3
    · rcases hj with hj | hj
      · obtain rfl : j = 0 := by omega
        exact ⟨a, vs, rfl, .inl (.inl h1), h2.dat0.1⟩
      · cases hj
    · rcases hj with hj | hj
      · obtain rfl : j = 0 := by omega
        exact ⟨a, rfl, .inl ⟨vs, .inl h1, h2.dat0.1⟩⟩
      · cases hj
    · rcases hj with hj | hj
      · obtain rfl : j = 0 := by omega
        exact ⟨a, rfl, .inr ⟨vs, .inl h1, h2.dat0.1⟩⟩
      · cases hj
end
section
variable {G : Gh} {T : As} {H H' : Hp} {fps fps' : Nat → As} {σ : L2.St} {env : EnvD} {k : Nat} {v : V} {d : PyData}
theorem VOut.zero {r : PyData × EnvD} (h : VOut G T H fps σ 0 r v H') : ∃ fps', SOk G.K G.L T r.2 σ H' fps' ∧ Dat G.K (fr T H' fps') v r.1 ∧ Stp T H fps T H' fps' := by
  obtain ⟨fps', f, I, R, dj, st⟩ := h
  obtain ⟨rfl, hd⟩ := R
  rw [or_none] at I hd st
  exact ⟨fps', I, hd, st⟩
theorem VOut.of0 (I : SOk G.K G.L T env σ H' fps') (hd : Dat G.K (fr T H' fps') v d) (hc : isCont d = false ∨ k = 0) (st : Stp T H fps T H' fps') : VOut G T H fps σ k (d, env) v H' :=
  ⟨fps', none', by rw [or_none]; exact I, by rw [or_none]; exact Rep.plain hd hc, dis_none _, by rw [or_none]; exact st⟩
theorem VOut.more {H0 : Hp} {fps0 : Nat → As} {r : PyData × EnvD} (h : VOut G T H fps σ k r v H') (st : Stp T H0 fps0 T H fps) : VOut G T H0 fps0 σ k r v H' := by
  obtain ⟨fps', f, I, R, dj, st'⟩ := h
  exact ⟨fps', f, I, R, dj, st.tr st'⟩
theorem Frsh.dat {F G' : Hp} {o : HO} {p : Addr} (h : Frsh G.K F o d) (le : Le F G') (hp : G' p = some o) : Dat G.K G' (.ref p) d := by
  rcases h with ⟨vs, ds, rfl, rfl, t⟩ | ⟨vs, ds, rfl, rfl, t⟩ | ⟨vs, ds, rfl, rfl, t⟩ | ⟨vs, ds, rfl, rfl, t⟩
  · exact .lst (.inl (.inl hp)) (t.mono le)
  · exact .tup (.inl (.inl hp)) (t.mono le)
  · exact .dk (.inl hp) (t.mono le)
  · exact .dt (.inl hp) (t.mono le)
theorem own1_ok {d' : PyData} (h : own1 k d = some d') : d' = d ∧ (k ≤ 1 ∨ isCont d = false) := by
  unfold own1 at h
  split at h
  · rename_i hc
    cases h; exact ⟨rfl, hc⟩
  · cases h
theorem VOut.new {z : V} (I : SOk G.K G.L T env σ H fps) (h : New G.K (fr T H fps) H z d H') (hk : k ≤ 1 ∨ isCont d = false) : VOut G T H fps σ k (d, env) z H' := by
  rcases h with ⟨rfl, h1, h2⟩ | ⟨p, o, hp, rfl, rfl, hf⟩
  · exact .of0 I h1 (.inl h2) (Stp.refl _ _ _)
  · by_cases hc : isCont d = false ∨ k = 0
    · obtain ⟨I', le, e⟩ := I.alloc (o := o) hp
      exact .of0 I' (hf.dat le e) hc ⟨fun b hb => upd_keep hp I.trk b (.inl hb), le⟩
    · have hk1 : k = 1 := by
        rcases hk with hk | hk
        · rcases Nat.lt_or_ge k 1 with z | z
          · exact absurd (.inr (by omega)) hc
          · omega
        · exact absurd (.inl hk) hc
      subst hk1
      obtain ⟨I', e⟩ := I.own (o := o) hp
      have np : ∀ b, all' T fps b → b ≠ p := fun b z e => I.trk b z (by rw [e]; exact hp)
      refine ⟨fps, one' p, I', ?_, fun b hb hT => np b (.inl hT) hb, ⟨fun b hb => upd_ne (np b (.inl hb)), by rw [e]; exact Le.refl _⟩⟩
      rw [e]
      rcases hf with ⟨vs, ds, rfl, rfl, t⟩ | ⟨vs, ds, rfl, rfl, t⟩ | ⟨vs, ds, rfl, rfl, t⟩ | ⟨vs, ds, rfl, rfl, t⟩
      · exact .inr (.inl ⟨p, vs, ds, none', rfl, rfl, upd_same, RepL.of0 t, fun z => z, (or_none' _).symm⟩)
      · exact absurd (.inl rfl) hc
      · exact .inr (.inr (.inl ⟨p, vs, ds, none', rfl, rfl, upd_same, RepK.of0 t, fun z => z, (or_none' _).symm⟩))
      · exact .inr (.inr (.inr ⟨p, vs, ds, none', rfl, rfl, upd_same, RepT.of0 t, fun z => z, (or_none' _).symm⟩))
end

/-! ### operands -/
def OpV (G : Gh) (T : As) (H : Hp) (fps : Nat → As) (env : EnvD) : PyData ⊕ P → V → Prop
  | .inl d, v => Dat G.K (fr T H fps) v d
  | .inr p, v => ∀ j d, evP G.c p env = some (j, d) → ∃ fp, Rep G.K (fr T H fps) H j v d fp
inductive OpVs (G : Gh) (T : As) (H : Hp) (fps : Nat → As) (env : EnvD) : List (PyData ⊕ P) → List V → Prop
  | nil : OpVs G T H fps env [] []
  | cons {o : PyData ⊕ P} {v : V} {os : List (PyData ⊕ P)} {vs : List V} : OpV G T H fps env o v → OpVs G T H fps env os vs → OpVs G T H fps env (o :: os) (v :: vs)
section
variable {G : Gh} {T : As} {H : Hp} {fps : Nat → As} {env : EnvD}
theorem OpVs.shl : ∀ {os : List (PyData ⊕ P)} {vs : List V} {ds : List PyData}, OpVs G T H fps env os vs → finO G.c env os = some ds → ShlL G.K (fr T H fps) H vs ds
  | _, _, _, .nil, h => by cases h; exact .nil
  | .inl d :: os, _, _, .cons h t, e => by
    simp only [finO] at e
    obtain ⟨ds, e1, e2⟩ := Option.map_eq_some_iff.mp e
    cases e2
    exact .cons (Shl.of hid_le h) (OpVs.shl t e1)
  | .inr p :: os, _, _, .cons h t, e => by
    simp only [finO] at e
    obtain ⟨d, e1, e2⟩ := Option.bind_eq_some_iff.mp e
    obtain ⟨ds, e3, e4⟩ := Option.map_eq_some_iff.mp e2
    cases e4
    unfold evPb at e1
    split at e1
    · cases e1
    · rename_i j d' hp
      split at e1
      · rename_i hj
        cases e1
        obtain ⟨fp, hr⟩ := h j d hp
        exact .cons (rep_shl hid_le hr hj) (OpVs.shl t e3)
      · cases e1
end
/-- the operands' reading -/
def tO (G : Gh) (o : Ops) : TA := fun σ H Q => ∃ T env fps, SOk G.K G.L T env σ H fps ∧ Out (o env) (fun z => ∀ vs H' fps', SOk G.K G.L T z.2 σ H' fps' → OpVs G T H' fps' z.2 z.1 vs → Stp T H fps T H' fps' → Q vs H') (XW G T H fps)
theorem opd_early {c : Orc} {p : P} {v : EnvD → Rs (PyData × EnvD)} {rest : Ops} {env : EnvD} : opd c false p v rest env = (v env).bind fun r => (rest r.2).bind fun z => .ok (.inl r.1 :: z.1, z.2) := rfl
theorem opd_late {c : Orc} {p : P} {v : EnvD → Rs (PyData × EnvD)} {rest : Ops} {env : EnvD} : opd c true p v rest env = if (evP c p env).isSome = true then (rest env).bind fun z => .ok (.inr p :: z.1, z.2) else .bad := rfl
theorem Out.ite_bad {α : Type} {q : Prop} [Decidable q] {r : Rs α} {ok : α → Prop} {ex : PyData → Prop} (h : Out (if q then r else .bad) ok ex) : q ∧ Out r ok ex := by
  by_cases hq : q
  · rw [if_pos hq] at h; exact ⟨hq, h⟩
  · rw [if_neg hq] at h; exact h.elim
theorem Out.ite_bad' {α : Type} {q : Prop} [Decidable q] {r : Rs α} {ok : α → Prop} {ex : PyData → Prop} (h : Out (if q then .bad else r) ok ex) : ¬ q ∧ Out r ok ex := by
  by_cases hq : q
  · rw [if_pos hq] at h; exact h.elim
  · rw [if_neg hq] at h; exact ⟨hq, h⟩
section
variable {G : Gh} {X : Cx}
/-- an early operand, then the rest -/
theorem early_step {a : Expr} {v : EnvD → Rs (PyData × EnvD)} {rest : Ops} {p : P} {σ : L2.St} {H : Hp} {T : As} {env : EnvD} {fps : Nat → As} {ok : List (PyData ⊕ P) × EnvD → Prop}
    (I : SOk G.K G.L T env σ H fps) (h : Out (opd G.c false p v rest env) ok (XW G T H fps)) {Q : VK}
    (q : ∀ r x H1 fps1, v env = .ok r → SOk G.K G.L T r.2 σ H1 fps1 → Dat G.K (fr T H1 fps1) x r.1 → Stp T H fps T H1 fps1 → Out (rest r.2) (fun z => ok (.inl r.1 :: z.1, z.2)) (XW G T H1 fps1) → Q x H1) : tV G 0 v σ H Q := by
  refine ⟨T, env, fps, I, ?_⟩
  rw [opd_early] at h
  refine h.bind.mono (fun r er hr x H' ho => ?_) fun _ _ z => z
  obtain ⟨fps1, I1, d1, st1⟩ := ho.zero
  exact q r x H' fps1 er I1 d1 st1 (hr.bind.mono (fun _ _ z => z) fun _ _ z => z.step0 st1)
/-- one operand -/
theorem one_opd {a : E} {ax : Expr} {va : EnvD → Rs (PyData × EnvD)} (hv : PE X ax (tV G 0 va)) (hp : ∀ p, a = .p p → PE X ax (tP G p)) :
    ∃ ta, PE X ax ta ∧ ∀ σ H (R : VK), (∃ T env fps, SOk G.K G.L T env σ H fps ∧ Out (opd1 G.c a va env) (fun z => ∀ x H' fps', SOk G.K G.L T z.2 σ H' fps' → OpVs G T H' fps' z.2 z.1 [x] → Stp T H fps T H' fps' → R x H') (XW G T H fps)) → ta σ H R := by
  by_cases hl : ∃ p, a = .p p
  · obtain ⟨p, rfl⟩ := hl
    refine ⟨tP G p, hp p rfl, fun σ H R ⟨T, env, fps, I, h⟩ => ?_⟩
    have hl : lateE (.p p) true = true := by cases p <;> rfl
    unfold opd1 at h
    rw [hl, opd_late] at h
    obtain ⟨h1, h2⟩ := h.ite_bad
    have h2 := h2.bind
    obtain ⟨⟨j, d⟩, e⟩ := Option.isSome_iff_exists.mp h1
    refine ⟨T, env, fps, I, j, d, e, fun v fp hr _ _ => h2 v H fps I (.cons (fun j' d' e' => ?_) .nil) (Stp.refl _ _ _)⟩
    cases (show some (j, d) = some (j', d') from e.symm.trans e')
    exact ⟨fp, hr⟩
  · have hl : lateE a true = false := by
      cases a <;> first | rfl | (exact absurd ⟨_, rfl⟩ hl)
    refine ⟨tV G 0 va, hv, fun σ H R ⟨T, env, fps, I, h⟩ => ?_⟩
    unfold opd1 at h
    rw [hl] at h
    exact early_step (a := ax) I h fun r x H1 fps1 _ I1 d1 st1 hr => hr x H1 fps1 I1 (.cons d1 .nil) st1
/-- two operands -/
theorem two_opd {a b : E} {ax bx : Expr} {va vb : EnvD → Rs (PyData × EnvD)} (hva : PE X ax (tV G 0 va)) (hpa : ∀ p, a = .p p → PE X ax (tP G p)) (hvb : PE X bx (tV G 0 vb)) (hpb : ∀ p, b = .p p → PE X bx (tP G p)) :
    ∃ ta tb, PE X ax ta ∧ PE X bx tb ∧ ∀ σ H (R : V → V → Hp → Prop), (∃ T env fps, SOk G.K G.L T env σ H fps ∧ Out (opd2 G.c a b va vb env) (fun z => ∀ x y H' fps', SOk G.K G.L T z.2 σ H' fps' → OpVs G T H' fps' z.2 z.1 [x, y] → Stp T H fps T H' fps' → R x y H') (XW G T H fps)) →
      ta σ H fun x H1 => tb σ H1 fun y H2 => R x y H2 := by
  by_cases hB : ∃ p, b = .p p
  · obtain ⟨pb, rfl⟩ := hB
    have hlb : lateE (.p pb) true = true := by cases pb <;> rfl
    -- the second is pure: read at once
    have second : ∀ {σ : L2.St} {H1 : Hp} {T : As} {env1 : EnvD} {fps1 : Nat → As} {o1 : PyData ⊕ P} {x : V} {ok : List (PyData ⊕ P) × EnvD → Prop} {ex : PyData → Prop} {R : V → Hp → Prop}, SOk G.K G.L T env1 σ H1 fps1 → OpV G T H1 fps1 env1 o1 x →
        Out (opd G.c true pb vb (fun env => .ok ([], env)) env1) ok ex → (∀ y, ok ([.inr pb], env1) → OpVs G T H1 fps1 env1 [o1, .inr pb] [x, y] → R y H1) → tP G pb σ H1 R := fun {σ H1 T env1 fps1 o1 x ok ex R} I1 o h q => by
      rw [opd_late] at h
      obtain ⟨h1, h2⟩ := h.ite_bad
      obtain ⟨⟨j, d⟩, e⟩ := Option.isSome_iff_exists.mp h1
      refine ⟨T, env1, fps1, I1, j, d, e, fun y fp hr _ _ => q y h2.bind (.cons o (.cons (fun j' d' e' => ?_) .nil))⟩
      cases (show some (j, d) = some (j', d') from e.symm.trans e')
      exact ⟨fp, hr⟩
    by_cases hA : ∃ p, a = .p p
    · obtain ⟨pa, rfl⟩ := hA
      have hla : lateE (.p pa) (isP (.p pb)) = true := by cases pa <;> rfl
      refine ⟨tP G pa, tP G pb, hpa pa rfl, hpb pb rfl, fun σ H R ⟨T, env, fps, I, h⟩ => ?_⟩
      unfold opd2 at h
      rw [hla, hlb, opd_late] at h
      obtain ⟨h1, h2⟩ := h.ite_bad
      obtain ⟨⟨j, d⟩, e⟩ := Option.isSome_iff_exists.mp h1
      refine ⟨T, env, fps, I, j, d, e, fun x fp hr _ _ => ?_⟩
      refine second (o1 := .inr pa) (x := x) I (fun j' d' e' => ?_) h2.bind fun y hy ho => hy x y H fps I ho (Stp.refl _ _ _)
      cases (show some (j, d) = some (j', d') from e.symm.trans e')
      exact ⟨fp, hr⟩
    · have hla : lateE a (isP (.p pb)) = false := by
        cases a <;> first | rfl | (exact absurd ⟨_, rfl⟩ hA)
      refine ⟨tV G 0 va, tP G pb, hva, hpb pb rfl, fun σ H R ⟨T, env, fps, I, h⟩ => ?_⟩
      unfold opd2 at h
      rw [hla, hlb] at h
      refine early_step (a := ax) I h fun r x H1 fps1 _ I1 d1 st1 hr => ?_
      exact second (o1 := .inl r.1) (x := x) I1 d1 hr fun y hy ho => hy x y H1 fps1 I1 ho st1
  · have hlb : lateE b true = false := by
      cases b <;> first | rfl | (exact absurd ⟨_, rfl⟩ hB)
    have hib : isP b = false := by
      cases b <;> first | rfl | (exact absurd ⟨_, rfl⟩ hB)
    by_cases hA : ∃ i, a = .p (.at i)
    · obtain ⟨i, rfl⟩ := hA
      have hla : lateE (.p (.at i)) (isP b) = true := rfl
      refine ⟨tP G (.at i), tV G 0 vb, hpa _ rfl, hvb, fun σ H R ⟨T, env, fps, I, h⟩ => ?_⟩
      unfold opd2 at h
      rw [hla, hlb, opd_late] at h
      obtain ⟨h1, h2⟩ := h.ite_bad
      obtain ⟨⟨j, d⟩, e⟩ := Option.isSome_iff_exists.mp h1
      refine ⟨T, env, fps, I, j, d, e, fun x fp hr _ hx => ?_⟩
      have hσ := hx i rfl
      refine early_step (a := bx) I h2.bind fun r y H1 fps1 _ I1 d1 st1 hq => hq x y H1 fps1 I1 (.cons (fun j' d' e' => ?_) (.cons d1 .nil)) st1
      simp only [toP, evP, slot] at e'
      split at e'
      · rename_i l k' d'' hs
        cases e'
        obtain ⟨w, w1, w2, _⟩ := I1.slot i l _ _ hs
        rw [hσ] at w1
        cases w1
        exact ⟨_, w2⟩
      · cases e'
    · have hla : lateE a (isP b) = false := by
        rw [hib]
        cases a <;> first | rfl | skip
        rename_i p
        cases p <;> first | rfl | (exact absurd ⟨_, rfl⟩ hA)
      refine ⟨tV G 0 va, tV G 0 vb, hva, hvb, fun σ H R ⟨T, env, fps, I, h⟩ => ?_⟩
      unfold opd2 at h
      rw [hla, hlb] at h
      refine early_step (a := ax) I h fun r x H1 fps1 _ I1 d1 st1 hr => ?_
      refine early_step (a := bx) I1 hr fun r2 y H2 fps2 _ I2 d2 st2 hr2 => ?_
      exact hr2 x y H2 fps2 I2 (.cons (d1.mono st2.le) (.cons d2 .nil)) (st1.tr st2)
end
end Fx
set_option Elab.async false
set_option linter.all false
set_option maxRecDepth 100000
/-! M9: lists of operands, of values. -/
namespace Fx
open PySem PySem.Spec PyProof.Rows L2
/-- an expression of the text and what it computes: as a value to any depth, as a pure one -/
structure PEk (G : Gh) (X : Cx) (c : Orc) (e : E) (a : Expr) : Prop where
  v : ∀ k, PE X a (tV G k (ev c e k))
  p : ∀ p, e = .p p → PE X a (tP G p)
inductive PEs (G : Gh) (X : Cx) (c : Orc) : Es → List Expr → Prop
  | nil : PEs G X c .nil []
  | cons {e : E} {es : Es} {a : Expr} {as : List Expr} : PEk G X c e a → noStar1 a = true → PEs G X c es as → PEs G X c (.cons e es) (a :: as)
def psE : Es → List P
  | .nil => []
  | .cons e es => toP e :: psE es
section
variable {G : Gh} {X : Cx}
theorem evA_pure : ∀ {es : Es} {env : EnvD} {ok : List (PyData ⊕ P) × EnvD → Prop} {ex : PyData → Prop}, allP es = true → Out (evA G.c es env) ok ex → (∀ p ∈ psE es, (evP G.c p env).isSome = true) ∧ ok ((psE es).map .inr, env)
  | .nil, env, ok, ex, _, h => ⟨fun _ h => (by simp [psE] at h), by simp only [evA] at h; exact h⟩
  | .cons e es, env, ok, ex, ha, h => by
    cases e <;> first | (simp [allP] at ha; done) | skip
    rename_i p
    have ha : allP es = true := ha
    have hl : lateE (.p p) (allP es) = true := by rw [ha]; cases p <;> rfl
    simp only [evA] at h
    rw [hl, opd_late] at h
    obtain ⟨h1, h2⟩ := h.ite_bad
    obtain ⟨h3, h4⟩ := evA_pure ha h2.bind
    refine ⟨fun q hq => ?_, h4⟩
    simp only [psE, List.mem_cons] at hq
    rcases hq with rfl | hq
    · exact h1
    · exact h3 q hq
def tPl (G : Gh) (ps : List P) : TA := fun σ H Q => ∃ T env fps, SOk G.K G.L T env σ H fps ∧ (∀ p ∈ ps, (evP G.c p env).isSome = true) ∧ ∀ vs, OpVs G T H fps env (ps.map .inr) vs → Q vs H
theorem pa_pure {c : Orc} : ∀ {es : Es} {as : List Expr}, PEs G X c es as → allP es = true → PA X as (tPl G (psE es))
  | _, _, .nil, _ => pa_nil.weaken fun σ H Q ⟨T, env, fps, I, h, q⟩ => q [] .nil
  | .cons e es, a :: as, .cons h hs t, ha => by
    cases e <;> first | (simp [allP] at ha; done) | skip
    rename_i p
    have ha : allP es = true := ha
    refine (pa_cons (h.p p rfl) (pa_pure t ha) (star_cons hs)).weaken fun σ H Q ⟨T, env, fps, I, hp, q⟩ => ?_
    obtain ⟨⟨j, d⟩, e⟩ := Option.isSome_iff_exists.mp (hp p (by simp [psE, toP]))
    refine ⟨T, env, fps, I, j, d, e, fun v fp hr _ _ => ⟨T, env, fps, I, fun p' h' => hp p' (by simp [psE, h']), fun vs hv => q (v :: vs) (.cons (fun j' d' e' => ?_) hv)⟩⟩
    cases (show some (j, d) = some (j', d') from e.symm.trans e')
    exact ⟨fp, hr⟩
/-- operands -/
theorem pa_opds : ∀ {es : Es} {as : List Expr}, PEs G X G.c es as → PA X as (tO G (evA G.c es))
  | _, _, .nil => pa_nil.weaken fun σ H Q ⟨T, env, fps, I, h⟩ => by
    simp only [evA] at h
    exact h [] H fps I .nil (Stp.refl _ _ _)
  | .cons e es, a :: as, .cons h hs t => by
    by_cases ha : allP (.cons e es) = true
    · refine (pa_pure (.cons h hs t) ha).weaken fun σ H Q ⟨T, env, fps, I, hq⟩ => ?_
      obtain ⟨h1, h2⟩ := evA_pure ha hq
      exact ⟨T, env, fps, I, h1, fun vs hv => h2 vs H fps I hv (Stp.refl _ _ _)⟩
    · by_cases hl : ∃ i, e = .p (.at i)
      · obtain ⟨i, rfl⟩ := hl
        refine (pa_cons (h.p _ rfl) (pa_opds t) (star_cons hs)).weaken fun σ H Q ⟨T, env, fps, I, hq⟩ => ?_
        simp only [evA] at hq
        rw [show lateE (.p (.at i)) (allP es) = true from rfl, opd_late] at hq
        obtain ⟨h1, h2⟩ := hq.ite_bad
        obtain ⟨⟨j, d⟩, e⟩ := Option.isSome_iff_exists.mp h1
        refine ⟨T, env, fps, I, j, d, e, fun x fp hr _ hx => ⟨T, env, fps, I, ?_⟩⟩
        have hσ := hx i rfl
        refine h2.bind.mono (fun z _ hz vs H' fps' I' ho st => ?_) fun _ _ z => z
        refine hz (x :: vs) H' fps' I' (.cons (fun j' d' e' => ?_) ho) st
        simp only [toP, evP, slot] at e'
        split at e'
        · rename_i l k' d'' hs'
          cases e'
          obtain ⟨w, w1, w2, _⟩ := I'.slot i l _ _ hs'
          rw [hσ] at w1
          cases w1
          exact ⟨_, w2⟩
        · cases e'
      · have hla : lateE e (allP es) = false := by
          cases e <;> first | rfl | skip
          rename_i p
          have : allP es = false := by
            cases q : allP es with
            | false => rfl
            | true => exact absurd (show allP (.cons (.p p) es) = true from q) ha
          rw [this]
          cases p <;> first | rfl | (exact absurd ⟨_, rfl⟩ hl)
        refine (pa_cons (h.v 0) (pa_opds t) (star_cons hs)).weaken fun σ H Q ⟨T, env, fps, I, hq⟩ => ?_
        simp only [evA] at hq
        rw [hla] at hq
        refine early_step (a := a) I hq fun r x H1 fps1 _ I1 d1 st1 hr => ⟨T, r.2, fps1, I1, ?_⟩
        refine hr.mono (fun z _ hz vs H' fps' I' ho st => ?_) fun _ _ z => z
        exact hz (x :: vs) H' fps' I' (.cons (d1.mono st.le) ho) (st1.tr st)
/-- behind a list of values -/
def LOut (G : Gh) (T : As) (H : Hp) (fps : Nat → As) (σ : L2.St) (k : Nat) (r : List PyData × EnvD) (vs : List V) (H' : Hp) : Prop :=
  ∃ fps' g, SOk G.K G.L (or' g T) r.2 σ H' fps' ∧ RepL (Rep G.K (fr (or' g T) H' fps') H' k) vs r.1 g ∧ Dis g T ∧ Stp T H fps (or' g T) H' fps'
def tL (G : Gh) (k : Nat) (f : EnvD → Rs (List PyData × EnvD)) : TA := fun σ H Q => ∃ T env fps, SOk G.K G.L T env σ H fps ∧ Out (f env) (fun r => ∀ vs H', LOut G T H fps σ k r vs H' → Q vs H') (XW G T H fps)
theorem pa_vals : ∀ {es : Es} {as : List Expr}, PEs G X G.c es as → ∀ k, PA X as (tL G k (evs G.c es k))
  | _, _, .nil, k => pa_nil.weaken fun σ H Q ⟨T, env, fps, I, h⟩ => by
    simp only [evs] at h
    exact h [] H ⟨fps, none', by rw [or_none]; exact I, .nil, dis_none _, by rw [or_none]; exact Stp.refl _ _ _⟩
  | .cons e es, a :: as, .cons h hs t, k => by
    refine (pa_cons (h.v k) (pa_vals t k) (star_cons hs)).weaken fun σ H Q ⟨T, env, fps, I, hq⟩ => ?_
    simp only [evs] at hq
    refine ⟨T, env, fps, I, hq.bind.mono (fun r _ hr v H1 ho => ?_) fun _ _ z => z⟩
    obtain ⟨fps1, f, I1, R1, dj1, st1⟩ := ho
    refine ⟨or' f T, r.2, fps1, I1, hr.bind.mono (fun z _ hz vs H2 ho2 => ?_) fun _ _ z => z.step st1⟩
    obtain ⟨fps2, g, I2, R2, dj2, st2⟩ := ho2
    have e2 : or' g (or' f T) = or' (or' f g) T := by
      rw [← or_assoc', or_comm' g f]
    have hz := hz (v :: vs) H2
    refine hz ⟨fps2, or' f g, by rw [← e2]; exact I2, ?_, ?_, ?_⟩
    · rw [← e2]
      exact .cons (R1.keep k st2.le fun b hb => st2.aside b (.inl hb)) R2 fun b x y => dj2 b y (.inl x)
    · intro b x y
      rcases x with x | x
      · exact dj1 b x y
      · exact dj2 b x (.inr y)
    · rw [← e2]
      exact ⟨fun b hb => (st2.aside b (.inr hb)).trans (st1.aside b hb), st1.le.trans st2.le⟩
/-- the arguments of a call: values, slots that are lent -/
inductive ArV (K : PySem.W.Frag) (F : Hp) (σ : L2.St) : Ar → List PyData → List V → Prop
  | nil : ArV K F σ .nil [] []
  | v {e : E} {as : Ar} {d : PyData} {ds : List PyData} {v : V} {vs : List V} : Dat K F v d → ArV K F σ as ds vs → ArV K F σ (.v e as) (d :: ds) (v :: vs)
  | l {i : Nat} {as : Ar} {ds : List PyData} {v : V} {vs : List V} : σ[i]? = some (some v) → ArV K F σ as ds vs → ArV K F σ (.l i as) ds (v :: vs)
theorem ArV.mono {K : PySem.W.Frag} {F F' : Hp} {σ : L2.St} (le : Le F F') : ∀ {ar : Ar} {ds : List PyData} {vs : List V}, ArV K F σ ar ds vs → ArV K F' σ ar ds vs
  | _, _, _, .nil => .nil
  | _, _, _, .v h t => .v (h.mono le) (t.mono le)
  | _, _, _, .l h t => .l h (t.mono le)
inductive PAr (G : Gh) (X : Cx) (c : Orc) : Ar → List Expr → Prop
  | nil : PAr G X c .nil []
  | v {e : E} {es : Ar} {a : Expr} {as : List Expr} : PEk G X c e a → noStar1 a = true → PAr G X c es as → PAr G X c (.v e es) (a :: as)
  | l {i : Nat} {es : Ar} {a : Expr} {as : List Expr} : PE X a (tP G (.at i)) → noStar1 a = true → PAr G X c es as → PAr G X c (.l i es) (a :: as)
def tR (G : Gh) (ar : Ar) : TA := fun σ H Q => ∃ T env fps, SOk G.K G.L T env σ H fps ∧ Out (evR G.c ar env) (fun r => ∀ vs H' fps', SOk G.K G.L T r.2 σ H' fps' → ArV G.K (fr T H' fps') σ ar r.1 vs → Stp T H fps T H' fps' → Q vs H') (XW G T H fps)
theorem pa_args : ∀ {ar : Ar} {as : List Expr}, PAr G X G.c ar as → PA X as (tR G ar)
  | _, _, .nil => pa_nil.weaken fun σ H Q ⟨T, env, fps, I, h⟩ => by
    simp only [evR] at h
    exact h [] H fps I .nil (Stp.refl _ _ _)
  | .v e es, a :: as, .v h hs t => by
    refine (pa_cons (h.v 0) (pa_args t) (star_cons hs)).weaken fun σ H Q ⟨T, env, fps, I, hq⟩ => ?_
    simp only [evR] at hq
    refine ⟨T, env, fps, I, hq.bind.mono (fun r _ hr v H1 ho => ?_) fun _ _ z => z⟩
    obtain ⟨fps1, I1, d1, st1⟩ := ho.zero
    refine ⟨T, r.2, fps1, I1, hr.bind.mono (fun z _ hz vs H2 fps2 I2 a2 st2 => ?_) fun _ _ z => z.step0 st1⟩
    exact hz (v :: vs) H2 fps2 I2 (.v (d1.mono st2.le) a2) (st1.tr st2)
  | .l i es, a :: as, .l h hs t => by
    refine (pa_cons h (pa_args t) (star_cons hs)).weaken fun σ H Q ⟨T, env, fps, I, hq⟩ => ?_
    simp only [evR] at hq
    obtain ⟨h1, h2⟩ := hq.ite_bad
    obtain ⟨⟨j, d⟩, e⟩ := Option.isSome_iff_exists.mp h1
    refine ⟨T, env, fps, I, j, d, e, fun v fp _ _ hx => ⟨T, env, fps, I, h2.mono (fun z _ hz vs H2 fps2 I2 a2 st2 => ?_) fun _ _ z => z⟩⟩
    exact hz (v :: vs) H2 fps2 I2 (.l (hx i rfl) a2) st2
end
end Fx
set_option Elab.async false
set_option linter.all false
set_option maxRecDepth 100000
/-! M10: expressions, one rule each. -/
namespace Fx
open PySem PySem.Spec PyProof.Rows L2
section
variable {Γ : Gam} {G : Gh} {X : Cx}
theorem rep_noncont {K : PySem.W.Frag} {F H : Hp} {j : Nat} {v : V} {d : PyData} {fp : As} (h : Rep K F H j v d fp) (hc : isCont d = false) : Dat K F v d := by
  cases j with
  | zero => exact h.2
  | succ j =>
    rcases h with ⟨h1, h2, h3⟩ | ⟨a, vs, ds, g, rfl, rfl, h1, h2, h3, rfl⟩ | ⟨a, vs, ds, g, rfl, rfl, h1, h2, h3, rfl⟩ | ⟨a, vs, ds, g, rfl, rfl, h1, h2, h3, rfl⟩
    · exact h3
    · cases hc
    · cases hc
    · cases hc
theorem k_p {p : P} {a : Expr} (h : PE X a (tP G p)) : PEk G X G.c (.p p) a := by
  refine ⟨fun k => h.weaken fun σ H Q hq => ?_, fun p' e => by cases e; exact h⟩
  obtain ⟨T, env, fps, I, hq⟩ := hq
  simp only [ev] at hq
  obtain ⟨⟨d, env'⟩, e, q⟩ := hq.of
  unfold evPk at e
  split at e
  · cases e
  · rename_i j d' hp
    refine ⟨T, env, fps, I, j, d', hp, fun v fp hr _ hx => ?_⟩
    split at e
    · rename_i hc
      cases e
      refine q v H (.of0 I ?_ ?_ (Stp.refl _ _ _))
      · rcases hc with hc | ⟨_, hc⟩
        · exact rep_noncont hr hc
        · subst hc; exact hr.2
      · exact hc.imp (fun z => z) fun z => z.1
    · rename_i hn
      cases p with
      | «at» i =>
        simp only at e
        have hp' := hp
        simp only [evP, slot] at hp'
        split at e
        · rename_i l j' d0 hs
          rw [hs] at hp'
          cases hp'
          split at e
          · rename_i hk
            subst hk
            cases e
            obtain ⟨w, w1, I', le, hd⟩ := I.freeze hs
            have : v = w := by
              have := hx i rfl
              rw [w1] at this
              cases this; rfl
            subst this
            exact q v H (.of0 I' hd (.inr rfl) ⟨fun _ _ => rfl, le⟩)
          · split at e
            · rename_i hk hl
              cases e
              obtain ⟨rfl, rfl⟩ := hl
              obtain ⟨w, w1, I', e2, hd⟩ := I.move hs
              have : v = w := by
                have := hx i rfl
                rw [w1] at this
                cases this; rfl
              subst this
              refine q v H ⟨_, _, I', ?_, I.disT i, ⟨fun _ _ => rfl, ?_⟩⟩
              · rw [e2]; exact hd
              · rw [e2]; exact Le.refl _
            · cases e
        · cases e
      | _ => cases e
theorem fin_ok {T : As} {H : Hp} {fps : Nat → As} {c : Orc} {o : Ops} {gg : List PyData → Option PyData} {env : EnvD} {ok : PyData × EnvD → Prop} {ex : PyData → Prop} (h : Out (fin c o gg env) ok ex) :
    Out (o env) (fun z => ∃ ds r, finO c z.2 z.1 = some ds ∧ gg ds = some r ∧ ok (r, z.2)) ex := by
  unfold fin at h
  refine h.bind.mono (fun z _ hz => ?_) fun _ _ z => z
  obtain ⟨r, e, q⟩ := hz.of_bind
  obtain ⟨ds, e1, e2⟩ := Option.bind_eq_some_iff.mp e
  exact ⟨ds, r, e1, e2, q⟩
/-- a result: new, or an old one -/
def Res (G : Gh) (F H : Hp) (k : Nat) (z : V) (r : PyData) (H' : Hp) : Prop := (New G.K F H z r H' ∧ (k ≤ 1 ∨ isCont r = false)) ∨ (H' = H ∧ Dat G.K F z r ∧ (isCont r = false ∨ k = 0))
theorem Res.out {T : As} {H0 H H' : Hp} {fps0 fps : Nat → As} {σ : L2.St} {env : EnvD} {k : Nat} {z : V} {r : PyData} (h : Res G (fr T H fps) H k z r H') (I : SOk G.K G.L T env σ H fps) (st : Stp T H0 fps0 T H fps) : VOut G T H0 fps0 σ k (r, env) z H' := by
  rcases h with ⟨h1, h2⟩ | ⟨rfl, h1, h2⟩
  · exact (VOut.new I h1 h2).more st
  · exact (VOut.of0 I h1 h2 (Stp.refl _ _ _)).more st
theorem shlL2 {K : PySem.W.Frag} {F H : Hp} {x y : V} {ds : List PyData} (h : ShlL K F H [x, y] ds) : ∃ d e, ds = [d, e] ∧ Shl K F H x d ∧ Shl K F H y e := by
  cases h with
  | cons h1 h2 =>
    cases h2 with
    | cons h3 h4 =>
      cases h4
      exact ⟨_, _, rfl, h1, h3⟩
theorem shlL1 {K : PySem.W.Frag} {F H : Hp} {x : V} {ds : List PyData} (h : ShlL K F H [x] ds) : ∃ d, ds = [d] ∧ Shl K F H x d := by
  cases h with
  | cons h1 h2 =>
    cases h2
    exact ⟨_, rfl, h1⟩
/-- two operands and what is made of them -/
theorem fin2 {a b : E} {ax bx : Expr} (ha : PEk G X G.c a ax) (hb : PEk G X G.c b bx) (gg : List PyData → Option PyData) :
    ∃ ta tb, PE X ax ta ∧ PE X bx tb ∧ ∀ k σ H Q (R : V → V → Hp → Prop), (∀ x y H2 F d e r, Le F H2 → Shl G.K F H2 x d → Shl G.K F H2 y e → gg [d, e] = some r → (∀ z H', Res G F H2 k z r H' → Q z H') → R x y H2) →
      tV G k (fin G.c (opd2 G.c a b (ev G.c a 0) (ev G.c b 0)) gg) σ H Q → ta σ H fun x H1 => tb σ H1 fun y H2 => R x y H2 := by
  obtain ⟨ta, tb, h1, h2, w⟩ := two_opd (ha.v 0) ha.p (hb.v 0) hb.p
  refine ⟨ta, tb, h1, h2, fun k σ H Q R hR ⟨T, env, fps, I, hq⟩ => w σ H _ ⟨T, env, fps, I, (fin_ok (T := T) (H := H) (fps := fps) hq).mono (fun z _ hz x y H' fps' I' ho st => ?_) fun _ _ z => z⟩⟩
  obtain ⟨ds, r, e1, e2, q⟩ := hz
  obtain ⟨d, e, rfl, s1, s2⟩ := shlL2 (ho.shl e1)
  exact hR x y H' _ d e r hid_le s1 s2 e2 fun z' H'' hr => q z' H'' (hr.out I' st)
theorem fin1 {a : E} {ax : Expr} (ha : PEk G X G.c a ax) (gg : List PyData → Option PyData) :
    ∃ ta, PE X ax ta ∧ ∀ k σ H Q (R : VK), (∀ x H1 F d r, Le F H1 → Shl G.K F H1 x d → gg [d] = some r → (∀ z H', Res G F H1 k z r H' → Q z H') → R x H1) →
      tV G k (fin G.c (opd1 G.c a (ev G.c a 0)) gg) σ H Q → ta σ H R := by
  obtain ⟨ta, h1, w⟩ := one_opd (ha.v 0) ha.p
  refine ⟨ta, h1, fun k σ H Q R hR ⟨T, env, fps, I, hq⟩ => w σ H _ ⟨T, env, fps, I, (fin_ok (T := T) (H := H) (fps := fps) hq).mono (fun z _ hz x H' fps' I' ho st => ?_) fun _ _ z => z⟩⟩
  obtain ⟨ds, r, e1, e2, q⟩ := hz
  obtain ⟨d, rfl, s1⟩ := shlL1 (ho.shl e1)
  exact hR x H' _ d r hid_le s1 e2 fun z' H'' hr => q z' H'' (hr.out I' st)
theorem finA {es : Es} (gg : List PyData → Option PyData) (k : Nat) {σ : L2.St} {H : Hp} {Q : VK} {R : List V → Hp → Prop}
    (hR : ∀ vs H1 F ds r, Le F H1 → ShlL G.K F H1 vs ds → gg ds = some r → (∀ z H', Res G F H1 k z r H' → Q z H') → R vs H1) (hq : tV G k (fin G.c (evA G.c es) gg) σ H Q) : tO G (evA G.c es) σ H R := by
  obtain ⟨T, env, fps, I, hq⟩ := hq
  refine ⟨T, env, fps, I, (fin_ok (T := T) (H := H) (fps := fps) hq).mono (fun z _ hz vs H' fps' I' ho st => ?_) fun _ _ z => z⟩
  obtain ⟨ds, r, e1, e2, q⟩ := hz
  exact hR vs H' _ ds r hid_le (ho.shl e1) e2 fun z' H'' hr => q z' H'' (hr.out I' st)
theorem ne_p {c : Orc} {e : E} {a : Expr} (h : ∀ k, PE X a (tV G k (ev c e k))) (hp : isP e = false) : PEk G X c e a := ⟨h, fun p e' => by subst e'; cases hp⟩
/-- a tree that computes the same -/
theorem tV_eq {k : Nat} {f g : EnvD → Rs (PyData × EnvD)} (h : ∀ env, f env = g env) : tV G k f = tV G k g := by rw [funext h]

theorem k_b2 {o : B2} {a b : E} {ax bx : Expr} {pos : Pos} (ok : Ok Γ G X) (ha : PEk G X G.c a ax) (hb : PEk G X G.c b bx) : PEk G X G.c (.b2 o a b) (.BinOp ax (bop o) bx pos) := by
  refine ne_p (fun k => ?_) rfl
  rw [tV_eq (g := fin G.c (opd2 G.c a b (ev G.c a 0) (ev G.c b 0)) (fun ds => (g2 (b2 o) ds).bind (own1 k))) fun env => by simp only [ev]]
  obtain ⟨ta, tb, h1, h2, w⟩ := fin2 ha hb fun ds => (g2 (b2 o) ds).bind (own1 k)
  refine (pe_op (op_b2 o) h1 h2).weaken fun σ H Q hq => w k σ H Q _ (fun x y H2 F d e r le s1 s2 hr q => ?_) hq
  obtain ⟨r', e1, e2⟩ := Option.bind_eq_some_iff.mp hr
  obtain ⟨rfl, hk⟩ := own1_ok e2
  exact ⟨F, d, e, r, le, by rw [ok.hK]; exact s1, by rw [ok.hK]; exact s2, e1, fun z H' hz => q z H' (.inl ⟨by rw [← ok.hK]; exact hz, hk⟩)⟩
def noSet : Expr → Bool
  | .Set .. => false
  | _ => true
theorem behind_ok {op : CmpOp} {e : Expr} (h : noSet e = true) : behindInMarks op e = false := by
  cases e <;> first | rfl | cases h
theorem c2B_bool {o : C2} {d e r : PyData} (h : c2B o d e = some r) : ∃ t, r = .bool t ∧ c2 o d e = some t := by
  unfold c2B at h
  obtain ⟨t, h1, h2⟩ := Option.map_eq_some_iff.mp h
  exact ⟨t, h2.symm, h1⟩
theorem hu100 (ok : Ok Γ G X) : X.A.units + 100 < cLine := by have := ok.hu; omega
theorem k_c2 {o : C2} {a b : E} {ax bx : Expr} {pos : Pos} (ok : Ok Γ G X) (ha : PEk G X G.c a ax) (hb : PEk G X G.c b bx) (hs : noSet bx = true) : PEk G X G.c (.c2 o a b) (.Compare ax [cop o] [bx] pos) := by
  refine ne_p (fun k => ?_) rfl
  rw [tV_eq (g := fin G.c (opd2 G.c a b (ev G.c a 0) (ev G.c b 0)) (g2 (c2B o))) fun env => by simp only [ev]]
  obtain ⟨ta, tb, h1, h2, w⟩ := fin2 ha hb (g2 (c2B o))
  refine (pe_cmpR (op_c2 (hu100 ok) o) h1 h2 (behind_ok hs)).weaken fun σ H Q hq => w k σ H Q _ (fun x y H2 F d e r le s1 s2 hr q => ?_) hq
  obtain ⟨t, rfl, e1⟩ := c2B_bool hr
  exact ⟨F, d, e, _, le, by rw [ok.hK]; exact s1, by rw [ok.hK]; exact s2, hr, fun z H' hz => q z H' (.inl ⟨by rw [← ok.hK]; exact hz, .inr rfl⟩)⟩
theorem t_c2 {o : C2} {a b : E} {ax bx : Expr} {pos : Pos} (ok : Ok Γ G X) (ha : PEk G X G.c a ax) (hb : PEk G X G.c b bx) (hs : noSet bx = true) : PT X (.Compare ax [cop o] [bx] pos) (tT G (evT G.c (.c2 o a b))) := by
  obtain ⟨ta, tb, h1, h2, w⟩ := fin2 ha hb (g2 (c2B o))
  refine (pt_cmpR (op_c2 (hu100 ok) o) h1 h2 (behind_ok hs)).weaken fun σ H Q ⟨T, env, fps, I, hq⟩ => ?_
  simp only [evT] at hq
  refine w 0 σ H (fun x H' => ∃ k, x = .bl k ∧ Q k H') _ (fun x y H2 F d e r le s1 s2 hr q => ?_) ⟨T, env, fps, I, hq.bind.mono (fun z _ hz v H' ho => ?_) fun _ _ z => z⟩
  · obtain ⟨t, rfl, e1⟩ := c2B_bool hr
    exact ⟨F, d, e, _, le, by rw [ok.hK]; exact s1, by rw [ok.hK]; exact s2, hr, fun z H' hz => q z H' (.inl ⟨by rw [← ok.hK]; exact hz, .inr rfl⟩)⟩
  · obtain ⟨fps', I', d', st⟩ := ho.zero
    obtain ⟨r, env'⟩ := z
    cases r with
    | bool t =>
      cases d'.boolV
      exact ⟨t, rfl, hz H' ⟨fps', I', st⟩⟩
    | _ => exact hz.elim
theorem k_ix {a b : E} {ax bx : Expr} {pos : Pos} (ok : Ok Γ G X) (ha : PEk G X G.c a ax) (hb : PEk G X G.c b bx) (hs : noSlice bx = true) : PEk G X G.c (.ix a b) (.Subscript ax bx pos) := by
  refine ne_p (fun k => ?_) rfl
  rw [tV_eq (g := fin G.c (opd2 G.c a b (ev G.c a 0) (ev G.c b 0)) (fun ds => (g2 ixD ds).bind fun d => if k = 0 ∨ isCont d = false then some d else none)) fun env => by simp only [ev]]
  obtain ⟨ta, tb, h1, h2, w⟩ := fin2 ha hb (fun ds => (g2 ixD ds).bind fun d => if k = 0 ∨ isCont d = false then some d else none)
  refine (pe_ix ix_D h1 h2 (plainIx hs)).weaken fun σ H Q hq => w k σ H Q _ (fun x y H2 F d e r le s1 s2 hr q => ?_) hq
  obtain ⟨r', e1, e2⟩ := Option.bind_eq_some_iff.mp hr
  split at e2
  · rename_i hk
    cases e2
    exact ⟨F, d, e, r, le, by rw [ok.hK]; exact s1, by rw [ok.hK]; exact s2, e1, fun z hz => q z H2 (.inr ⟨rfl, by rw [← ok.hK]; exact hz, hk.symm⟩)⟩
  · cases e2
theorem k_neg {a : E} {ax : Expr} {pos : Pos} (ok : Ok Γ G X) (ha : PEk G X G.c a ax) : PEk G X G.c (.neg a) (.UnaryOp .USub ax pos) := by
  refine ne_p (fun k => ?_) rfl
  rw [tV_eq (g := fin G.c (opd1 G.c a (ev G.c a 0)) (g1 (p1 .neg))) fun env => by simp only [ev]]
  obtain ⟨ta, h1, w⟩ := fin1 ha (g1 (p1 .neg))
  refine (pe_un un_neg_D h1).weaken fun σ H Q hq => w k σ H Q _ (fun x H1 F d r le s1 hr q => ?_) hq
  have hs : isCont r = false := by
    have := p1_scal (show p1 .neg d = some r from hr)
    cases r <;> first | rfl | (simp [scal] at this)
  exact ⟨F, d, r, le, by rw [ok.hK]; exact s1, hr, fun z H' hz => q z H' (.inl ⟨by rw [← ok.hK]; exact hz, .inr hs⟩)⟩
theorem noneV_iff {K : PySem.W.Frag} {F H : Hp} {x : V} {d : PyData} (h : Shl K F H x d) : decide (x = .non) = isNone d := by
  cases d with
  | none => cases (show Dat K F x .none from h); rfl
  | bool b => cases h.bool; rfl
  | int b => cases h.int; rfl
  | str b => cases h.str; rfl
  | list ds => obtain ⟨a, vs, rfl, _⟩ := h; rfl
  | tuple ds => cases (show Dat K F x (.tuple ds) from h); rfl
  | dict ds => obtain ⟨a, rfl, _⟩ := h; rfl
theorem k_isN {a : E} {ax : Expr} {n : Bool} {i : Nat} {pos pos' : Pos} (ok : Ok Γ G X) (ha : PEk G X G.c a ax) : PEk G X G.c (.isN a n) (.Compare ax [if n then .IsNot else .Is] [.Constant .none i pos'] pos) := by
  refine ne_p (fun k => ?_) rfl
  rw [tV_eq (g := fin G.c (opd1 G.c a (ev G.c a 0)) (g1 fun d => some (.bool (isNone d ^^ n)))) fun env => by simp only [ev]]
  obtain ⟨ta, h1, w⟩ := fin1 ha (g1 fun d => some (.bool (isNone d ^^ n)))
  cases n with
  | true =>
    refine (pe_cmp (pc_notN h1)).weaken fun σ H Q hq => w k σ H Q _ (fun x H1 F d r le s1 hr q => ?_) hq
    cases hr
    rw [noneV_iff s1]
    have e : (isNone d ^^ true) = !isNone d := by cases isNone d <;> rfl
    rw [← e]
    exact q _ _ (.inl ⟨New.bl _, .inr rfl⟩)
  | false =>
    refine (pe_cmp (pc_isN h1)).weaken fun σ H Q hq => w k σ H Q _ (fun x H1 F d r le s1 hr q => ?_) hq
    cases hr
    rw [noneV_iff s1]
    have e : (isNone d ^^ false) = isNone d := by cases isNone d <;> rfl
    rw [← e]
    exact q _ _ (.inl ⟨New.bl _, .inr rfl⟩)
theorem t_isN {a : E} {ax : Expr} {n : Bool} {i : Nat} {pos pos' : Pos} (ok : Ok Γ G X) (ha : PEk G X G.c a ax) : PT X (.Compare ax [if n then .IsNot else .Is] [.Constant .none i pos'] pos) (tT G (evT G.c (.isN a n))) := by
  obtain ⟨ta, h1, w⟩ := fin1 ha (g1 fun d => some (.bool (isNone d ^^ n)))
  have fin : ∀ {σ : L2.St} {H : Hp} {Q : Bool → Hp → Prop}, tT G (evT G.c (.isN a n)) σ H Q → tV G 0 (fin G.c (opd1 G.c a (ev G.c a 0)) (g1 fun d => some (.bool (isNone d ^^ n)))) σ H fun x H' => ∃ k, x = .bl k ∧ Q k H' := fun {σ H Q} ⟨T, env, fps, I, hq⟩ => by
    simp only [evT] at hq
    refine ⟨T, env, fps, I, hq.bind.mono (fun z _ hz v H' ho => ?_) fun _ _ z => z⟩
    obtain ⟨fps', I', d', st⟩ := ho.zero
    obtain ⟨r, env'⟩ := z
    cases r with
    | bool t =>
      cases d'.boolV
      exact ⟨t, rfl, hz H' ⟨fps', I', st⟩⟩
    | _ => exact hz.elim
  cases n with
  | true =>
    refine (pt_cmp (pc_notN h1)).weaken fun σ H Q hq => w 0 σ H _ _ (fun x H1 F d r le s1 hr q => ?_) (fin hq)
    cases hr
    obtain ⟨t, e1, e2⟩ := q (.bl (isNone d ^^ true)) H1 (.inl ⟨New.bl _, .inr rfl⟩)
    cases e1
    rw [noneV_iff s1]
    have e : (isNone d ^^ true) = !isNone d := by cases isNone d <;> rfl
    rw [← e]
    exact ⟨_, rfl, e2⟩
  | false =>
    refine (pt_cmp (pc_isN h1)).weaken fun σ H Q hq => w 0 σ H _ _ (fun x H1 F d r le s1 hr q => ?_) (fin hq)
    cases hr
    obtain ⟨t, e1, e2⟩ := q (.bl (isNone d ^^ false)) H1 (.inl ⟨New.bl _, .inr rfl⟩)
    cases e1
    rw [noneV_iff s1]
    have e : (isNone d ^^ false) = isNone d := by cases isNone d <;> rfl
    rw [← e]
    exact ⟨_, rfl, e2⟩
theorem t_isB {a : E} {ax : Expr} {b : Bool} {i : Nat} {pos pos' : Pos} (ok : Ok Γ G X) (ha : PEk G X G.c a ax) : PT X (.Compare ax [.Is] [.Constant (.bool b) i pos'] pos) (tT G (evT G.c (.isB a b))) := by
  obtain ⟨ta, h1, w⟩ := fin1 ha (g1 (isBool b))
  refine (pt_cmpR op_isBl h1 pe_bl rfl).weaken fun σ H Q ⟨T, env, fps, I, hq⟩ => ?_
  simp only [evT] at hq
  refine w 0 σ H (fun x H' => ∃ k, x = .bl k ∧ Q k H') _ (fun x H1 F d r le s1 hr q => ?_) ⟨T, env, fps, I, hq.bind.mono (fun z _ hz v H' ho => ?_) fun _ _ z => z⟩
  · cases d with
    | bool t =>
      cases hr
      cases s1.bool
      exact ⟨t, b, rfl, rfl, q _ _ (.inl ⟨New.bl _, .inr rfl⟩)⟩
    | _ => cases hr
  · obtain ⟨fps', I', d', st⟩ := ho.zero
    obtain ⟨r, env'⟩ := z
    cases r with
    | bool t =>
      cases d'.boolV
      exact ⟨t, rfl, hz H' ⟨fps', I', st⟩⟩
    | _ => exact hz.elim
theorem k_isB {a : E} {ax : Expr} {b : Bool} {i : Nat} {pos pos' : Pos} (ok : Ok Γ G X) (ha : PEk G X G.c a ax) : PEk G X G.c (.isB a b) (.Compare ax [.Is] [.Constant (.bool b) i pos'] pos) := by
  refine ne_p (fun k => ?_) rfl
  rw [tV_eq (g := fin G.c (opd1 G.c a (ev G.c a 0)) (g1 (isBool b))) fun env => by simp only [ev]]
  obtain ⟨ta, h1, w⟩ := fin1 ha (g1 (isBool b))
  refine (pe_cmpR op_isBl h1 pe_bl rfl).weaken fun σ H Q hq => w k σ H Q _ (fun x H1 F d r le s1 hr q => ?_) hq
  cases d with
  | bool t =>
    cases hr
    cases s1.bool
    exact ⟨t, b, rfl, rfl, q _ _ (.inl ⟨New.bl _, .inr rfl⟩)⟩
  | _ => cases hr
theorem bool_neg {t b : Bool} : (!decide (t = !b)) = decide (t = b) := by cases t <;> cases b <;> rfl
theorem t_isB' {a : E} {ax : Expr} {b : Bool} {i : Nat} {pos pos' : Pos} (ok : Ok Γ G X) (ha : PEk G X G.c a ax) : PT X (.Compare ax [.IsNot] [.Constant (.bool (!b)) i pos'] pos) (tT G (evT G.c (.isB a b))) := by
  obtain ⟨ta, h1, w⟩ := fin1 ha (g1 (isBool b))
  refine (pt_cmpR op_notBl h1 pe_bl rfl).weaken fun σ H Q ⟨T, env, fps, I, hq⟩ => ?_
  simp only [evT] at hq
  refine w 0 σ H (fun x H' => ∃ k, x = .bl k ∧ Q k H') _ (fun x H1 F d r le s1 hr q => ?_) ⟨T, env, fps, I, hq.bind.mono (fun z _ hz v H' ho => ?_) fun _ _ z => z⟩
  · cases d with
    | bool t =>
      cases hr
      cases s1.bool
      exact ⟨t, !b, rfl, rfl, by rw [bool_neg]; exact q _ _ (.inl ⟨New.bl _, .inr rfl⟩)⟩
    | _ => cases hr
  · obtain ⟨fps', I', d', st⟩ := ho.zero
    obtain ⟨r, env'⟩ := z
    cases r with
    | bool t =>
      cases d'.boolV
      exact ⟨t, rfl, hz H' ⟨fps', I', st⟩⟩
    | _ => exact hz.elim
theorem k_isB' {a : E} {ax : Expr} {b : Bool} {i : Nat} {pos pos' : Pos} (ok : Ok Γ G X) (ha : PEk G X G.c a ax) : PEk G X G.c (.isB a b) (.Compare ax [.IsNot] [.Constant (.bool (!b)) i pos'] pos) := by
  refine ne_p (fun k => ?_) rfl
  rw [tV_eq (g := fin G.c (opd1 G.c a (ev G.c a 0)) (g1 (isBool b))) fun env => by simp only [ev]]
  obtain ⟨ta, h1, w⟩ := fin1 ha (g1 (isBool b))
  refine (pe_cmpR op_notBl h1 pe_bl rfl).weaken fun σ H Q hq => w k σ H Q _ (fun x H1 F d r le s1 hr q => ?_) hq
  cases d with
  | bool t =>
    cases hr
    cases s1.bool
    exact ⟨t, !b, rfl, rfl, by rw [bool_neg]; exact q _ _ (.inl ⟨New.bl _, .inr rfl⟩)⟩
  | _ => cases hr
end
end Fx
set_option Elab.async false
set_option linter.all false
set_option maxRecDepth 100000
/-! M11: displays, tests, builtins. -/
namespace Fx
open PySem PySem.Spec PyProof.Rows L2
section
variable {Γ : Gam} {G : Gh} {X : Cx}
theorem or_swap3 (a b c : As) : or' a (or' b c) = or' (or' a b) c := (or_assoc' a b c).symm
/-- a new list or dict that owns its items -/
theorem VOut.wrap {T : As} {H H1 : Hp} {fps fps1 : Nat → As} {σ : L2.St} {k : Nat} {g : As} {env : EnvD} {p : Addr} {o : HO} {d : PyData} (I : SOk G.K G.L (or' g T) env σ H1 fps1) (dj : Dis g T) (st : Stp T H fps (or' g T) H1 fps1) (hp : H1 p = none)
    (R : ∀ H2, H2 p = some o → (∀ b, g b → H2 b = H1 b) → ¬ g p → Rep G.K (fr (or' g T) H1 fps1) H2 k (.ref p) d (or' (one' p) g)) : VOut G T H fps σ k (d, env) (.ref p) (upd H1 p o) := by
  obtain ⟨I', e⟩ := I.own (o := o) hp
  have np : ∀ b, all' (or' g T) fps1 b → b ≠ p := fun b z e => I.trk b z (by rw [e]; exact hp)
  rw [or_swap3] at I' e
  refine ⟨fps1, or' (one' p) g, I', ?_, ?_, ⟨fun b hb => ?_, ?_⟩⟩
  · rw [e]
    exact R _ upd_same (fun b hb => upd_ne (np b (.inl (.inl hb)))) fun hg => np p (.inl (.inl hg)) rfl
  · rintro b (hb | hb) hT
    · exact np b (.inl (.inr hT)) hb
    · exact dj b hb hT
  · rw [upd_ne (np b (.inl (.inr hb)))]
    exact st.aside b hb
  · rw [e]; exact st.le
theorem k_lst {es : Es} {as : List Expr} {pos : Pos} (h : PEs G X G.c es as) : PEk G X G.c (.lst es) (.List as pos) := by
  refine ne_p (fun k => ?_) rfl
  refine (pe_lst (pa_vals h (k - 1))).weaken fun σ H Q ⟨T, env, fps, I, hq⟩ => ⟨T, env, fps, I, ?_⟩
  simp only [ev] at hq
  refine hq.bind.mono (fun r _ hr vs H1 ho => ?_) fun _ _ z => z
  obtain ⟨hl, hr⟩ := hr.ite_bad
  obtain ⟨fps1, g, I1, R1, dj, st⟩ := ho
  refine ⟨by rw [R1.length]; exact hl, fun p hp => hr _ _ ?_⟩
  cases k with
  | zero =>
    obtain ⟨h1, rfl⟩ := R1.dat0
    rw [or_none] at I1 h1 st
    exact (VOut.new I1 (New.lst hp h1) (.inl (Nat.zero_le _))).more st
  | succ k =>
    refine VOut.wrap I1 dj st hp fun H2 e1 e2 e3 => .inr (.inl ⟨p, vs, r.1, g, rfl, rfl, e1, R1.imp fun v d f s rr => rr.keep _ (Le.refl _) fun b hb => e2 b (s b hb), e3, rfl⟩)
theorem k_tup {es : Es} {as : List Expr} {i : Nat} {pos : Pos} (h : PEs G X G.c es as) : PEk G X G.c (.tup es) (.Tuple as i pos) := by
  refine ne_p (fun k => ?_) rfl
  refine (pe_tup (pa_vals h 0)).weaken fun σ H Q ⟨T, env, fps, I, hq⟩ => ⟨T, env, fps, I, ?_⟩
  simp only [ev] at hq
  refine hq.bind.mono (fun r _ hr vs H1 ho => ?_) fun _ _ z => z
  obtain ⟨hl, hr⟩ := hr.ite_bad
  obtain ⟨fps1, g, I1, R1, dj, st⟩ := ho
  refine ⟨by rw [R1.length]; exact hl, fun p hp => hr _ _ ?_⟩
  obtain ⟨h1, rfl⟩ := R1.dat0
  rw [or_none] at I1 h1 st
  exact (VOut.new I1 (New.tup hp h1) (.inr rfl)).more st
theorem k_dnew {pos : Pos} : PEk G X G.c .dnew (.Dict [] [] pos) := by
  refine ne_p (fun k => ?_) rfl
  refine pe_dnewK.weaken fun σ H Q ⟨T, env, fps, I, hq⟩ p hp => ?_
  simp only [ev] at hq
  have hq : ∀ v H', VOut G T H fps σ k (.dict [], env) v H' → Q v H' := hq
  refine hq _ _ ?_
  cases k with
  | zero => exact VOut.new I (.inr ⟨p, _, hp, rfl, rfl, .inr (.inr (.inl ⟨[], [], rfl, rfl, .nil⟩))⟩) (.inl (Nat.zero_le _))
  | succ k =>
    have e0 : or' none' T = T := or_none T
    refine VOut.wrap (g := none') (fps1 := fps) (by rw [e0]; exact I) (dis_none _) (by rw [e0]; exact Stp.refl _ _ _) hp fun H2 e1 e2 e3 => .inr (.inr (.inl ⟨p, [], [], none', rfl, rfl, e1, .nil, e3, rfl⟩))
theorem k_ch {o o' : C2} {x y z : E} {ax ay az : Expr} {pos : Pos} (ok : Ok Γ G X) (hx : PEk G X G.c x ax) (hy : PEk G X G.c y ay) (hz : PEk G X G.c z az) (hs : noSet az = true) : PEk G X G.c (.ch o o' x y z) (.Compare ax [cop o, cop o'] [ay, az] pos) := by
  refine ne_p (fun k => ?_) rfl
  refine (pe_chain (op_c2 (hu100 ok) o) (op_c2 (hu100 ok) o') (hx.v 0) (hy.v 0) (hz.v 0) (by show behindInMarks _ _ = false; exact behind_ok hs)).weaken fun σ H Q ⟨T, env, fps, I, hq⟩ => ⟨T, env, fps, I, ?_⟩
  simp only [ev] at hq
  refine hq.bind.mono (fun r1 _ h1 v1 H1 o1 => ?_) fun _ _ z => z
  obtain ⟨fps1, I1, d1, st1⟩ := o1.zero
  refine ⟨T, r1.2, fps1, I1, h1.bind.mono (fun r2 _ h2 v2 H2 o2 => ?_) fun _ _ z => z.step0 st1⟩
  obtain ⟨fps2, I2, d2, st2⟩ := o2.zero
  obtain ⟨t, e1, h3⟩ := h2.of_bind
  have s1 : Shl X.K (fr T H2 fps2) H2 v1 r1.1 := by rw [ok.hK]; exact Shl.of hid_le (d1.mono st2.le)
  have s2 : Shl X.K (fr T H2 fps2) H2 v2 r2.1 := by rw [ok.hK]; exact Shl.of hid_le d2
  refine ⟨fr T H2 fps2, r1.1, r2.1, .bool t, hid_le, s1, s2, by unfold c2B; rw [e1]; rfl, fun w H' hw => ?_⟩
  have hb : H' = H2 ∧ w = .bl t := by
    rcases hw with ⟨a1, a2, _⟩ | ⟨p, oo, _, _, _, hf⟩
    · exact ⟨a1, a2.boolV⟩
    · exfalso
      rcases hf with ⟨_, _, _, e, _⟩ | ⟨_, _, _, e, _⟩ | ⟨_, _, _, e, _⟩ | ⟨_, _, _, e, _⟩ <;> cases e
  obtain ⟨rfl, rfl⟩ := hb
  refine ⟨t, rfl, ?_⟩
  cases t with
  | false =>
    rw [if_neg (by decide)]
    exact (show ∀ v H'', VOut G T H fps σ k (.bool false, r2.2) v H'' → Q v H'' from h3) _ _ ((VOut.of0 I2 (.bl false) (.inl rfl) (Stp.refl _ _ _)).more (st1.tr st2))
  | true =>
    rw [if_pos rfl]
    refine ⟨T, r2.2, fps2, I2, h3.bind.mono (fun r3 _ h4 v3 H3 o3 => ?_) fun _ _ z => (z.step0 st1).step0 st2⟩
    obtain ⟨fps3, I3, d3, st3⟩ := o3.zero
    obtain ⟨u, e2, h5⟩ := h4.of_bind
    refine ⟨fr T H3 fps3, r2.1, r3.1, .bool u, hid_le, by rw [ok.hK]; exact Shl.of hid_le (d2.mono st3.le), by rw [ok.hK]; exact Shl.of hid_le d3, by unfold c2B; rw [e2]; rfl, fun w H' hw => ?_⟩
    exact (show ∀ v H'', VOut G T H fps σ k (.bool u, r3.2) v H'' → Q v H'' from h5) _ _ ((VOut.new I3 (by rw [← ok.hK]; exact hw) (.inr rfl)).more ((st1.tr st2).tr st3))
theorem t_ch {o o' : C2} {x y z : E} {ax ay az : Expr} {pos : Pos} (ok : Ok Γ G X) (hx : PEk G X G.c x ax) (hy : PEk G X G.c y ay) (hz : PEk G X G.c z az) (hs : noSet az = true) : PT X (.Compare ax [cop o, cop o'] [ay, az] pos) (tT G (evT G.c (.ch o o' x y z))) := by
  refine (pt_chain (op_c2 (hu100 ok) o) (op_c2 (hu100 ok) o') (hx.v 0) (hy.v 0) (hz.v 0) (by show behindInMarks _ _ = false; exact behind_ok hs)).weaken fun σ H Q ⟨T, env, fps, I, hq⟩ => ⟨T, env, fps, I, ?_⟩
  simp only [evT] at hq
  refine hq.bind.mono (fun r1 _ h1 v1 H1 o1 => ?_) fun _ _ z => z
  obtain ⟨fps1, I1, d1, st1⟩ := o1.zero
  refine ⟨T, r1.2, fps1, I1, h1.bind.mono (fun r2 _ h2 v2 H2 o2 => ?_) fun _ _ z => z.step0 st1⟩
  obtain ⟨fps2, I2, d2, st2⟩ := o2.zero
  obtain ⟨t, e1, h3⟩ := h2.of_bind
  have s1 : Shl X.K (fr T H2 fps2) H2 v1 r1.1 := by rw [ok.hK]; exact Shl.of hid_le (d1.mono st2.le)
  have s2 : Shl X.K (fr T H2 fps2) H2 v2 r2.1 := by rw [ok.hK]; exact Shl.of hid_le d2
  refine ⟨fr T H2 fps2, r1.1, r2.1, .bool t, hid_le, s1, s2, by unfold c2B; rw [e1]; rfl, fun w H' hw => ?_⟩
  have hb : ∀ {F : Hp} {t : Bool} {w : V} {H' H2 : Hp}, New X.K F H2 w (.bool t) H' → H' = H2 ∧ w = .bl t := fun {F t w H' H2} hw => by
    rcases hw with ⟨a1, a2, _⟩ | ⟨p, oo, _, _, _, hf⟩
    · exact ⟨a1, a2.boolV⟩
    · exfalso
      rcases hf with ⟨_, _, _, e, _⟩ | ⟨_, _, _, e, _⟩ | ⟨_, _, _, e, _⟩ | ⟨_, _, _, e, _⟩ <;> cases e
  obtain ⟨rfl, rfl⟩ := hb hw
  refine ⟨t, rfl, ?_⟩
  cases t with
  | false =>
    rw [if_neg (by decide)]
    exact ⟨false, rfl, (show ∀ H'', TOut G T H fps σ r2.2 H'' → Q false H'' from h3) _ ⟨fps2, I2, st1.tr st2⟩⟩
  | true =>
    rw [if_pos rfl]
    refine ⟨T, r2.2, fps2, I2, h3.bind.mono (fun r3 _ h4 v3 H3 o3 => ?_) fun _ _ z => (z.step0 st1).step0 st2⟩
    obtain ⟨fps3, I3, d3, st3⟩ := o3.zero
    obtain ⟨u, e2, h5⟩ := h4.of_bind
    refine ⟨fr T H3 fps3, r2.1, r3.1, .bool u, hid_le, by rw [ok.hK]; exact Shl.of hid_le (d2.mono st3.le), by rw [ok.hK]; exact Shl.of hid_le d3, by unfold c2B; rw [e2]; rfl, fun w H' hw => ?_⟩
    obtain ⟨rfl, rfl⟩ := hb hw
    exact ⟨u, rfl, (show ∀ H'', TOut G T H fps σ r3.2 H'' → Q u H'' from h5) _ ⟨fps3, I3, (st1.tr st2).tr st3⟩⟩
/-! ### truth -/
theorem tru_run (ok : Ok Γ G X) {pins : List (Addr × Obj)} {s : Shared} {σ : L2.St} {H : Hp} {x : V} {u : Value} {T : As} {fps : Nat → As} {d : PyData} {t : Bool} {Q : Bool → Hp → Prop} (I : Inv X pins σ H s) (rx : RelV x u) (hd : Dat G.K (fr T H fps) x d) (ht : truth d = some t)
    (q : Q t H) : wpAny (model X.prog X.w) X.A (truthy u) (TP X pins σ Q) X.xe s :=
  tru_D pins s σ H x u Q I rx ⟨fr T H fps, d, t, hid_le, by rw [ok.hK]; exact Shl.of hid_le hd, ht, q⟩
theorem k_not {a : E} {ax : Expr} {pos : Pos} (ok : Ok Γ G X) (ha : PEk G X G.c a ax) : PEk G X G.c (.not a) (.UnaryOp .Not ax pos) := by
  refine ne_p (fun k => ?_) rfl
  refine ⟨fun pins s σ H Q I ⟨T, env, fps, J, hq⟩ => ?_⟩
  simp only [ev] at hq
  refine UnaryOp_ (thn ((ha.v 0).run pins s σ H (fun v H1 => ∃ (r : PyData × EnvD) (fps1 : Nat → As), SOk G.K G.L T r.2 σ H1 fps1 ∧ Dat G.K (fr T H1 fps1) v r.1 ∧ Stp T H fps T H1 fps1 ∧ ∃ t, truth r.1 = some t ∧ ∀ v' H', VOut G T H fps σ k (.bool (!t), r.2) v' H' → Q v' H') I ⟨T, env, fps, J, hq.bind.mono (fun r _ hr v H1 ho => ?_) fun _ _ z => z⟩) fun v s1 ⟨x, H1, I1, r1, q1⟩ => ?_)
  · obtain ⟨fps1, I1, d1, st1⟩ := ho.zero
    obtain ⟨t, e, hr⟩ := hr.of_bind
    exact ⟨r, fps1, I1, d1, st1, t, e, hr⟩
  · obtain ⟨r, fps1, J1, d1, st1, t, e, q⟩ := q1
    refine not_of (thn (tru_run (Q := fun t' H' => t' = t ∧ H' = H1) ok I1 r1 d1 e ⟨rfl, rfl⟩) fun b s2 ⟨H', I2, e1, e2⟩ => ?_)
    subst e1 e2
    exact ⟨.bl (!b), H', I2, rfl, q _ _ ((VOut.of0 J1 (.bl _) (.inl rfl) (Stp.refl _ _ _)).more st1)⟩
theorem k_and {a b : E} {ax bx : Expr} {rest : List Expr} {pos : Pos} (ok : Ok Γ G X) (ha : PEk G X G.c a ax) (hb : PEk G X G.c b (.BoolOp .And (bx :: rest) pos)) : PEk G X G.c (.and a b) (.BoolOp .And (ax :: bx :: rest) pos) := by
  refine ne_p (fun k => ?_) rfl
  refine ⟨fun pins s σ H Q I ⟨T, env, fps, J, hq⟩ => ?_⟩
  simp only [ev] at hq
  refine BoolOp_and (thn ((ha.v 0).run pins s σ H (fun v H1 => ∃ (r : PyData × EnvD) (fps1 : Nat → As), SOk G.K G.L T r.2 σ H1 fps1 ∧ Dat G.K (fr T H1 fps1) v r.1 ∧ Stp T H fps T H1 fps1 ∧ ∃ t, truth r.1 = some t ∧ Out (if t = true then ev G.c b k r.2 else if isCont r.1 = false ∨ k = 0 then .ok r else .bad) (fun r' => ∀ v' H', VOut G T H fps σ k r' v' H' → Q v' H') (XW G T H fps)) I ⟨T, env, fps, J, hq.bind.mono (fun r _ hr v H1 ho => ?_) fun _ _ z => z⟩) fun v s1 ⟨x, H1, I1, r1, q1⟩ => ?_)
  · obtain ⟨fps1, I1, d1, st1⟩ := ho.zero
    obtain ⟨t, e, hr⟩ := hr.of_bind
    exact ⟨r, fps1, I1, d1, st1, t, e, hr⟩
  · obtain ⟨r, fps1, J1, d1, st1, t, e, q⟩ := q1
    refine thn (tru_run (Q := fun t' H' => t' = t ∧ H' = H1) ok I1 r1 d1 e ⟨rfl, rfl⟩) fun b' s2 ⟨H', I2, e1, e2⟩ => ?_
    subst e1 e2
    cases b' with
    | true =>
      rw [if_pos rfl] at q
      exact (hb.v k).run pins s2 σ H' Q I2 ⟨T, r.2, fps1, J1, q.mono (fun r' _ h v' H'' o => h v' H'' (o.more st1)) fun _ _ z => z.step0 st1⟩
    | false =>
      rw [if_neg (by decide)] at q
      obtain ⟨hc, q⟩ := q.ite_bad
      exact ⟨x, H', I2, r1, (show ∀ v' H'', VOut G T H fps σ k r v' H'' → Q v' H'' from q) x H' ((VOut.of0 J1 d1 hc (Stp.refl _ _ _)).more st1)⟩
theorem k_or {a b : E} {ax bx : Expr} {rest : List Expr} {pos : Pos} (ok : Ok Γ G X) (ha : PEk G X G.c a ax) (hb : PEk G X G.c b (.BoolOp .Or (bx :: rest) pos)) : PEk G X G.c (.or a b) (.BoolOp .Or (ax :: bx :: rest) pos) := by
  refine ne_p (fun k => ?_) rfl
  refine ⟨fun pins s σ H Q I ⟨T, env, fps, J, hq⟩ => ?_⟩
  simp only [ev] at hq
  refine BoolOp_or (thn ((ha.v 0).run pins s σ H (fun v H1 => ∃ (r : PyData × EnvD) (fps1 : Nat → As), SOk G.K G.L T r.2 σ H1 fps1 ∧ Dat G.K (fr T H1 fps1) v r.1 ∧ Stp T H fps T H1 fps1 ∧ ∃ t, truth r.1 = some t ∧ Out (if t = true then (if isCont r.1 = false ∨ k = 0 then .ok r else .bad) else ev G.c b k r.2) (fun r' => ∀ v' H', VOut G T H fps σ k r' v' H' → Q v' H') (XW G T H fps)) I ⟨T, env, fps, J, hq.bind.mono (fun r _ hr v H1 ho => ?_) fun _ _ z => z⟩) fun v s1 ⟨x, H1, I1, r1, q1⟩ => ?_)
  · obtain ⟨fps1, I1, d1, st1⟩ := ho.zero
    obtain ⟨t, e, hr⟩ := hr.of_bind
    exact ⟨r, fps1, I1, d1, st1, t, e, hr⟩
  · obtain ⟨r, fps1, J1, d1, st1, t, e, q⟩ := q1
    refine thn (tru_run (Q := fun t' H' => t' = t ∧ H' = H1) ok I1 r1 d1 e ⟨rfl, rfl⟩) fun b' s2 ⟨H', I2, e1, e2⟩ => ?_
    subst e1 e2
    cases b' with
    | false =>
      rw [if_neg (by decide)] at q
      exact (hb.v k).run pins s2 σ H' Q I2 ⟨T, r.2, fps1, J1, q.mono (fun r' _ h v' H'' o => h v' H'' (o.more st1)) fun _ _ z => z.step0 st1⟩
    | true =>
      rw [if_pos rfl] at q
      obtain ⟨hc, q⟩ := q.ite_bad
      exact ⟨x, H', I2, r1, (show ∀ v' H'', VOut G T H fps σ k r v' H'' → Q v' H'' from q) x H' ((VOut.of0 J1 d1 hc (Stp.refl _ _ _)).more st1)⟩
theorem k_one {e : E} {ax : Expr} {op : BoolOp} {pos : Pos} (h : PEk G X G.c e ax) : PEk G X G.c e (.BoolOp op [ax] pos) := ⟨fun k => pe_one (h.v k), fun p e => pe_one (h.p p e)⟩
theorem k_ite {t : Tt} {a b : E} {tx ax bx : Expr} {pos : Pos} (ht : PT X tx (tT G (evT G.c t))) (ha : PEk G X G.c a ax) (hb : PEk G X G.c b bx) : PEk G X G.c (.ite t a b) (.IfExp tx ax bx pos) := by
  refine ne_p (fun k => ?_) rfl
  refine (pe_ifExp ht (ha.v k) (hb.v k)).weaken fun σ H Q ⟨T, env, fps, I, hq⟩ => ⟨T, env, fps, I, ?_⟩
  simp only [ev] at hq
  refine hq.bind.mono (fun r _ hr H1 ho => ?_) fun _ _ z => z
  obtain ⟨fps1, I1, st1⟩ := ho
  obtain ⟨t, env1⟩ := r
  cases t with
  | true =>
    rw [if_pos rfl] at hr ⊢
    exact ⟨T, env1, fps1, I1, hr.mono (fun r' _ h v' H'' o => h v' H'' (o.more st1)) fun _ _ z => z.step0 st1⟩
  | false =>
    rw [if_neg (by simp)] at hr ⊢
    exact ⟨T, env1, fps1, I1, hr.mono (fun r' _ h v' H'' o => h v' H'' (o.more st1)) fun _ _ z => z.step0 st1⟩
theorem t_not {t : Tt} {ax : Expr} {pos : Pos} (h : PT X ax (tT G (evT G.c t))) : PT X (.UnaryOp .Not ax pos) (tT G (evT G.c (.not t))) := by
  refine (pt_not h).weaken fun σ H Q ⟨T, env, fps, I, hq⟩ => ⟨T, env, fps, I, ?_⟩
  simp only [evT] at hq
  exact hq.bind.mono (fun r _ hr H1 ho => (show ∀ H', TOut G T H fps σ r.2 H' → Q (!r.1) H' from hr) H1 ho) fun _ _ z => z
theorem t_and {t u : Tt} {ax bx : Expr} {rest : List Expr} {pos : Pos} (ha : PT X ax (tT G (evT G.c t))) (hb : PW X (.BoolOp .And (bx :: rest) pos) (tT G (evT G.c u))) : PW X (.BoolOp .And (ax :: bx :: rest) pos) (tT G (evT G.c (.and t u))) := by
  refine ⟨fun wh pins s σ H Q I ⟨T, env, fps, J, hq⟩ => (pw_and ha hb).run wh pins s σ H Q I ?_⟩
  simp only [evT] at hq
  refine ⟨T, env, fps, J, hq.bind.mono (fun r _ hr H1 ho => ?_) fun _ _ z => z⟩
  obtain ⟨fps1, I1, st1⟩ := id ho
  obtain ⟨t, env1⟩ := r
  cases t with
  | true =>
    rw [if_pos rfl] at hr ⊢
    exact ⟨T, env1, fps1, I1, hr.mono (fun r' _ h H'' o => by obtain ⟨f2, J2, s2⟩ := o; exact h H'' ⟨f2, J2, st1.tr s2⟩) fun _ _ z => z.step0 st1⟩
  | false =>
    rw [if_neg (by simp)] at hr ⊢
    exact (show ∀ H', TOut G T H fps σ env1 H' → Q false H' from hr) H1 ho
theorem t_or {t u : Tt} {ax bx : Expr} {rest : List Expr} {pos : Pos} (ha : PT X ax (tT G (evT G.c t))) (hb : PW X (.BoolOp .Or (bx :: rest) pos) (tT G (evT G.c u))) : PW X (.BoolOp .Or (ax :: bx :: rest) pos) (tT G (evT G.c (.or t u))) := by
  refine ⟨fun wh pins s σ H Q I ⟨T, env, fps, J, hq⟩ => (pw_or ha hb).run wh pins s σ H Q I ?_⟩
  simp only [evT] at hq
  refine ⟨T, env, fps, J, hq.bind.mono (fun r _ hr H1 ho => ?_) fun _ _ z => z⟩
  obtain ⟨fps1, I1, st1⟩ := id ho
  obtain ⟨t, env1⟩ := r
  cases t with
  | true =>
    rw [if_pos rfl] at hr ⊢
    exact (show ∀ H', TOut G T H fps σ env1 H' → Q true H' from hr) H1 ho
  | false =>
    rw [if_neg (by simp)] at hr ⊢
    exact ⟨T, env1, fps1, I1, hr.mono (fun r' _ h H'' o => by obtain ⟨f2, J2, s2⟩ := o; exact h H'' ⟨f2, J2, st1.tr s2⟩) fun _ _ z => z.step0 st1⟩
def plainTest : Expr → Bool
  | .UnaryOp .Not _ _ => false
  | .BoolOp .. => false
  | .IfExp .. => false
  | .Compare .. => false
  | _ => true
theorem plainTest_ok {e : Expr} {env : PySem.Env} (h : plainTest e = true) (whole : Sem Value) : isTrue e env whole = (do let v ← whole; standAt e.pos; holding [v] (truthy v)) := by
  cases e <;> first | rfl | (cases h; done) | skip
  rename_i op x p
  cases op <;> first | rfl | cases h
theorem t_v {e : E} {ax : Expr} (ok : Ok Γ G X) (h : PEk G X G.c e ax) (hp : plainTest ax = true) : PT X ax (tT G (evT G.c (.v e))) := by
  obtain ⟨ta, h1, w⟩ := fin1 h (g1 fun d => (truth d).map .bool)
  refine ⟨fun pins s σ H Q I ⟨T, env, fps, J, hq⟩ => ?_⟩
  simp only [evT] at hq
  refine isTrue_plain (thn (h1.run pins s σ H (fun x H1 => ∃ F d t, Le F H1 ∧ Shl G.K F H1 x d ∧ truth d = some t ∧ Q t H1) I ?_) fun v s1 ⟨x, H1, I1, r1, F, d, t, le, sh, e, q⟩ => ?_) (plainTest_ok hp _)
  · refine w 0 σ H (fun x H' => ∃ t, x = .bl t ∧ Q t H') _ (fun x H1 F d r le s1 hr q => ?_) ⟨T, env, fps, J, hq.bind.mono (fun z _ hz v H' ho => ?_) fun _ _ z => z⟩
    · obtain ⟨t, e1, e2⟩ := Option.map_eq_some_iff.mp hr
      subst e2
      obtain ⟨t', e3, q'⟩ := q (.bl t) H1 (.inl ⟨New.bl t, .inr rfl⟩)
      cases e3
      exact ⟨F, d, t, le, s1, e1, q'⟩
    · obtain ⟨fps', I', d', st⟩ := ho.zero
      obtain ⟨r, env'⟩ := z
      cases r with
      | bool t =>
        cases d'.boolV
        exact ⟨t, rfl, hz H' ⟨fps', I', st⟩⟩
      | _ => exact hz.elim
  · exact tru_D pins s1 σ H1 x v Q I1 r1 ⟨F, d, t, le, by rw [ok.hK]; exact sh, e, q⟩
end
end Fx
set_option Elab.async false
set_option linter.all false
set_option maxRecDepth 100000
/-! M12: slices, builtins by name, what is walked. -/
namespace Fx
open PySem PySem.Spec PyProof.Rows L2
section
variable {Γ : Gam} {G : Gh} {X : Cx}
def tPO (G : Gh) (f : EnvD → Rs (Option Int × EnvD)) : TO := fun σ H Q => ∃ T env fps, SOk G.K G.L T env σ H fps ∧ Out (f env) (fun r => ∀ H', TOut G T H fps σ r.2 H' → Q r.1 H') (XW G T H fps)
theorem _root_.L2.PO.weaken {e : Option Expr} {t t' : TO} (h : PO X e t) (w : ∀ σ H Q, t' σ H Q → t σ H Q) : PO X e t' := ⟨fun pins s σ H Q I q => h.run pins s σ H Q I (w σ H Q q)⟩
theorem o_none : PO X none (tPO G (evO G.c .none)) := po_none.weaken fun σ H Q ⟨T, env, fps, I, h⟩ => by
  simp only [evO] at h
  exact (show ∀ H', TOut G T H fps σ env H' → Q none H' from h) H ⟨fps, I, Stp.refl _ _ _⟩
theorem o_some {e : E} {a : Expr} (h : PEk G X G.c e a) : PO X (some a) (tPO G (evO G.c (.some e))) := (po_some (h.v 0)).weaken fun σ H Q ⟨T, env, fps, I, hq⟩ => by
  simp only [evO] at hq
  refine ⟨T, env, fps, I, hq.bind.mono (fun r _ hr v H1 ho => ?_) fun _ _ z => z⟩
  obtain ⟨fps1, I1, d1, st1⟩ := ho.zero
  obtain ⟨d, env1⟩ := r
  cases d with
  | int i =>
    cases d1.intV
    exact ⟨i, rfl, (show ∀ H', TOut G T H fps σ env1 H' → Q (some i) H' from hr) H1 ⟨fps1, I1, st1⟩⟩
  | _ => exact hr.elim
theorem TOut.more {T : As} {H0 H H' : Hp} {fps0 fps : Nat → As} {σ : L2.St} {env : EnvD} (h : TOut G T H fps σ env H') (st : Stp T H0 fps0 T H fps) : TOut G T H0 fps0 σ env H' := by
  obtain ⟨f, I, s⟩ := h
  exact ⟨f, I, st.tr s⟩
theorem k_sl {a : E} {lo hi : Eo} {ax : Expr} {lx hx : Option Expr} {pos p2 : Pos} (ok : Ok Γ G X) (ha : PEk G X G.c a ax) (hl : PO X lx (tPO G (evO G.c lo))) (hh : PO X hx (tPO G (evO G.c hi))) : PEk G X G.c (.sl a lo hi) (.Subscript ax (.Slice lx hx none p2) pos) := by
  refine ne_p (fun k => ?_) rfl
  refine (pe_slice sl_D (ha.v 0) hl hh).weaken fun σ H Q ⟨T, env, fps, I, hq⟩ => ⟨T, env, fps, I, ?_⟩
  simp only [ev] at hq
  refine hq.bind.mono (fun r1 _ h1 v1 H1 o1 => ?_) fun _ _ z => z
  obtain ⟨fps1, I1, d1, st1⟩ := o1.zero
  refine ⟨T, r1.2, fps1, I1, h1.bind.mono (fun r2 _ h2 H2 o2 => ?_) fun _ _ z => z.step0 st1⟩
  obtain ⟨fps2, I2, st2⟩ := o2
  refine ⟨T, r2.2, fps2, I2, h2.bind.mono (fun r3 _ h3 H3 o3 => ?_) fun _ _ z => (z.step0 st1).step0 st2⟩
  obtain ⟨fps3, I3, st3⟩ := o3
  obtain ⟨d, e, q⟩ := h3.of_bind
  obtain ⟨d', e1, e2⟩ := Option.bind_eq_some_iff.mp e
  obtain ⟨rfl, hk⟩ := own1_ok e2
  refine ⟨fr T H3 fps3, r1.1, d, hid_le, by rw [ok.hK]; exact Shl.of hid_le (d1.mono (st2.le.trans st3.le)), e1, fun z H' hz => ?_⟩
  exact (show ∀ v H', VOut G T H fps σ k (d, r3.2) v H' → Q v H' from q) z H' ((VOut.new I3 (by rw [← ok.hK]; exact hz) hk).more ((st1.tr st2).tr st3))
theorem k_rev {a : E} {ax : Expr} {i : Nat} {q1 q2 q3 pos : Pos} (ok : Ok Γ G X) (ha : PEk G X G.c a ax) : PEk G X G.c (.rev a) (.Subscript ax (.Slice none none (some (.UnaryOp .USub (.Constant (.int 1) i q1) q2)) q3) pos) := by
  refine ne_p (fun k => ?_) rfl
  rw [tV_eq (g := fin G.c (opd1 G.c a (ev G.c a 0)) (fun ds => (g1 revD ds).bind (own1 k))) fun env => by simp only [ev]]
  obtain ⟨ta, h1, w⟩ := fin1 ha (fun ds => (g1 revD ds).bind (own1 k))
  refine (pe_revL h1).weaken fun σ H Q hq => w k σ H Q _ (fun x H1 F d r le s1 hr q => ?_) hq
  obtain ⟨r', e1, e2⟩ := Option.bind_eq_some_iff.mp hr
  obtain ⟨rfl, hk⟩ := own1_ok e2
  cases d with
  | list ds =>
    obtain ⟨a, vs, rfl, t, k1⟩ := s1
    cases e1
    exact ⟨a, vs, rfl, by rw [ok.hK]; exact t, fun p hp => q _ _ (.inl ⟨New.lst hp k1.reverse, hk⟩)⟩
  | _ => cases e1
def nIsi : Str := "isinstance"
def tyS : Ty → Str
  | .int => "int" | .bool => "bool" | .str => "str" | .tuple => "tuple" | .list => "list" | .dict => "dict"
theorem boot_ty (t : Ty) : bootBuiltins (tyS t) = some (.type (tyN t)) := by cases t <;> decide +kernel
theorem tyS_blt (t : Ty) : tyS t ∈ bltNames := by cases t <;> decide
theorem boot_isi : bootBuiltins nIsi = some (.builtin "isinstance") := by decide +kernel
theorem k_isa {t : Ty} {a : E} {ax : Expr} {p1 p2 pos : Pos} (ok : Ok Γ G X) (ha : PEk G X G.c a ax) (hs : noStar1 ax = true) (h1 : isGl Γ nIsi = true) (h2 : isGl Γ (tyS t) = true) : PEk G X G.c (.isa t a) (.Call (.Name nIsi p1) [ax, .Name (tyS t) p2] [] pos) := by
  refine ne_p (fun k => ?_) rfl
  rw [tV_eq (g := fin G.c (opd1 G.c a (ev G.c a 0)) (g1 (isaD t))) fun env => by simp only [ev]]
  obtain ⟨ta, h3, w⟩ := fin1 ha (g1 (isaD t))
  obtain ⟨g1', g2'⟩ := ok.gl h1
  obtain ⟨n1, n2, n3⟩ := okName_1 g2'
  obtain ⟨g3', g4'⟩ := ok.gl h2
  obtain ⟨m1, m2, m3⟩ := okName_1 g4'
  have pt : PE X (.Name (tyS t) p2) (tC (.ty (tyN t))) := pe_bltn g3' (ok.blt _ (tyS_blt t)) (boot_ty t) rfl m3 m1
  have pa : PA X [ax, .Name (tyS t) p2] (tCons ta (tCons (tC (.ty (tyN t))) tNil)) := pa_cons h3 (pa_cons pt pa_nil) (star_cons hs)
  refine (pe_callB (call_isa_D t) g1' (ok.blt _ (by decide)) boot_isi pa n3 n1 (star_cons hs) (star_any (by rfl))).weaken fun σ H Q hq => w k σ H Q _ (fun x H1 F d r le s1 hr q => ?_) hq
  have hc : isCont r = false := by
    simp only [g1, isaD] at hr
    split at hr <;> cases hr
    rfl
  exact ⟨x, rfl, F, [d], r, le, .cons (by rw [ok.hK]; exact s1) .nil, hr, fun z H' hz => q z H' (.inl ⟨by rw [← ok.hK]; exact hz, .inr hc⟩)⟩
def bname : Bi → Str
  | .len => "len" | .abs => "abs" | .int => "int" | .tuple => "tuple" | .list => "list" | .sorted => "sorted" | .sum => "sum" | .min => "min" | .max => "max" | .min2 => "min" | .max2 => "max"
theorem bname_blt (b : Bi) : bname b ∈ bltNames := by cases b <;> decide
theorem boot_bi (b : Bi) : bootBuiltins (bname b) = some (bval b) := by cases b <;> decide +kernel
theorem bval_is (b : Bi) : (∃ n, bval b = .builtin n) ∨ ∃ n, bval b = .type n := by
  cases b <;> first | exact .inl ⟨_, rfl⟩ | exact .inr ⟨_, rfl⟩
theorem pe_callAny {f : Str} {v : Value} {r : List V → Hp → VK → Prop} {x : Expr} {xs : List Expr} {t : TA} {p pos : Pos} (ok : Ok Γ G X) (hv : (∃ n, v = .builtin n) ∨ ∃ n, v = .type n) (hb : bootBuiltins f = some v) (hc : CallR X v r) (hf : f ∈ bltNames) (hg : isGl Γ f = true)
    (ha : PA X (x :: xs) t) (hs : noStar (x :: xs) = true) : PE X (.Call (.Name f p) (x :: xs) [] pos) (tCB r t) := by
  obtain ⟨g1', g2'⟩ := ok.gl hg
  obtain ⟨n1, n2, n3⟩ := okName_1 g2'
  have hs2 : noStar1 x = true ∧ noStar xs = true := by simpa [noStar] using hs
  rcases hv with ⟨n, rfl⟩ | ⟨n, rfl⟩
  · exact pe_callB hc g1' (ok.blt f hf) hb ha n3 n1 (star_cons hs2.1) (star_any hs2.2)
  · exact pe_callTy hc g1' (ok.blt f hf) hb ha n3 n1 (star_cons hs2.1) (star_any hs2.2)
theorem k_bi {b : Bi} {es : Es} {x : Expr} {xs : List Expr} {p pos : Pos} (ok : Ok Γ G X) (h : PEs G X G.c es (x :: xs)) (hs : noStar (x :: xs) = true) (hg : isGl Γ (bname b) = true) : PEk G X G.c (.bi b es) (.Call (.Name (bname b) p) (x :: xs) [] pos) := by
  refine ne_p (fun k => ?_) rfl
  rw [tV_eq (g := fin G.c (evA G.c es) (fun ds => (bi b ds).bind (own1 k))) fun env => by simp only [ev]]
  refine (pe_callAny ok (bval_is b) (boot_bi b) (call_bi ok.calm (hu100 ok) b) (bname_blt b) hg (pa_opds h) hs).weaken fun σ H Q hq => finA _ k (fun vs H1 F ds r le s1 hr q => ?_) hq
  obtain ⟨r', e1, e2⟩ := Option.bind_eq_some_iff.mp hr
  obtain ⟨rfl, hk⟩ := own1_ok e2
  exact ⟨F, ds, r, le, by rw [ok.hK]; exact s1, e1, fun z H' hz => q z H' (.inl ⟨by rw [← ok.hK]; exact hz, hk⟩)⟩
end
end Fx
set_option Elab.async false
set_option linter.all false
set_option maxRecDepth 100000
/-! M13: owned data altered at a path. -/
namespace Fx
open PySem PySem.Spec PyProof.Rows L2

theorem RepL.focus {R : RR} : ∀ {vs : List V} {ds : List PyData} {g : As}, RepL R vs ds g → ∀ {n : Nat} {d1 : PyData}, ds[n]? = some d1 →
    ∃ v1 f1 h, vs[n]? = some v1 ∧ R v1 d1 f1 ∧ Dis f1 h ∧ (∀ b, g b ↔ f1 b ∨ h b) ∧ ∀ (R' : RR) d1' f1', (∀ v d f, (∀ b, f b → h b) → R v d f → R' v d f) → R' v1 d1' f1' → Dis f1' h → ∃ g', RepL R' vs (ds.set n d1') g' ∧ ∀ b, g' b ↔ f1' b ∨ h b
  | _, _, _, .nil, _, _, h => by simp at h
  | _, _, _, .cons (v := v) (vs := vs) (d := d) (ds := ds) (f := f) (g := g) r t dj, 0, d1, e => by
    simp at e
    subst e
    refine ⟨v, f, g, rfl, r, dj, fun b => Iff.rfl, fun R' d1' f1' k r' dj' => ⟨or' f1' g, ?_, fun b => Iff.rfl⟩⟩
    rw [List.set_cons_zero]
    exact .cons r' (t.imp fun v d f s => k v d f s) dj'
  | _, _, _, .cons (v := v) (vs := vs) (d := d) (ds := ds) (f := f) (g := g) r t dj, n + 1, d1, e => by
    obtain ⟨v1, f1, h, e1, r1, dj1, hg, w⟩ := RepL.focus t (n := n) (by simpa using e)
    refine ⟨v1, f1, or' f h, by simpa using e1, r1, ?_, fun b => ?_, fun R' d1' f1' k r' dj' => ?_⟩
    · rintro b x (y | y)
      · exact dj b y ((hg b).mpr (.inl x))
      · exact dj1 b x y
    · show f b ∨ g b ↔ f1 b ∨ f b ∨ h b
      rw [hg b]
      constructor
      · rintro (x | x | x)
        · exact .inr (.inl x)
        · exact .inl x
        · exact .inr (.inr x)
      · rintro (x | x | x)
        · exact .inr (.inl x)
        · exact .inl x
        · exact .inr (.inr x)
    · obtain ⟨g', w1, w2⟩ := w R' d1' f1' (fun v d f s => k v d f fun b z => .inr (s b z)) r' fun b x y => dj' b x (.inr y)
      refine ⟨or' f g', ?_, fun b => ?_⟩
      · rw [List.set_cons_succ]
        refine .cons (k v d f (fun b z => .inl z) r) w1 fun b x y => ?_
        rcases (w2 b).mp y with y | y
        · exact dj' b y (.inl x)
        · exact dj b x ((hg b).mpr (.inr y))
      · show f b ∨ g' b ↔ f1' b ∨ f b ∨ h b
        rw [w2 b]
        constructor
        · rintro (x | x | x)
          · exact .inr (.inl x)
          · exact .inl x
          · exact .inr (.inr x)
        · rintro (x | x | x)
          · exact .inr (.inl x)
          · exact .inl x
          · exact .inr (.inr x)
/-- the value at a path -/
def PathV (H : Hp) : V → List PyData → V → Prop
  | v, [], w => w = v
  | v, j :: js, w => ∃ a vs i x, v = .ref a ∧ H a = some (.lst vs) ∧ j = .int i ∧ atI vs i = some x ∧ PathV H x js w
theorem PathV.snoc {H : Hp} : ∀ {js : List PyData} {v w : V} {a : Addr} {vs : List V} {i : Int} {x : V}, PathV H v js w → w = .ref a → H a = some (.lst vs) → atI vs i = some x → PathV H v (js ++ [.int i]) x
  | [], _, _, a, vs, i, x, h, e, h1, h2 => by
    cases h
    exact ⟨a, vs, i, x, e, h1, rfl, h2, rfl⟩
  | j :: js, _, _, a, vs, i, x, h, e, h1, h2 => by
    obtain ⟨a', vs', i', x', e1, e2, e3, e4, e5⟩ := h
    exact ⟨a', vs', i', x', e1, e2, e3, e4, PathV.snoc e5 e h1 h2⟩
theorem PathV.keep {H H' : Hp} {P : As} : ∀ {js : List PyData} {v w : V}, PathV H v js w → (∀ a vs, H a = some (.lst vs) → P a → H' a = H a) → (∀ a, P a) → PathV H' v js w
  | [], _, _, h, _, _ => h
  | j :: js, _, _, h, k, p => by
    obtain ⟨a, vs, i, x, e1, e2, e3, e4, e5⟩ := h
    exact ⟨a, vs, i, x, e1, (k a vs e2 (p a)).trans e2, e3, e4, PathV.keep e5 k p⟩
/-- a prefix of a path can be walked, and one step more from there -/
theorem walkD_append : ∀ {js : List PyData} {j d r : PyData}, walkD (js ++ [j]) d = some r → ∃ n xs i m, walkD js d = some n ∧ n = .list xs ∧ j = .int i ∧ ixN xs.length i = some m ∧ xs[m]? = some r
  | [], j, d, r, h => by
    cases j <;> cases d <;> simp only [List.nil_append, walkD] at h <;> first | cases h | skip
    rename_i i xs
    obtain ⟨m, e1, e2⟩ := Option.bind_eq_some_iff.mp h
    obtain ⟨d, e3, e4⟩ := Option.bind_eq_some_iff.mp e2
    cases e4
    exact ⟨_, xs, i, m, rfl, rfl, rfl, e1, e3⟩
  | j0 :: js, j, d, r, h => by
    cases j0 <;> cases d <;> simp only [List.cons_append, walkD] at h ⊢ <;> first | cases h | skip
    rename_i i xs
    obtain ⟨m, e1, e2⟩ := Option.bind_eq_some_iff.mp h
    obtain ⟨d, e3, e4⟩ := Option.bind_eq_some_iff.mp e2
    obtain ⟨n, xs', i', m', a1, a2, a3, a4, a5⟩ := walkD_append e4
    refine ⟨n, xs', i', m', ?_, a2, a3, a4, a5⟩
    rw [e1]
    show (xs[m]?).bind _ = _
    rw [e3]
    exact a1
theorem alterD_walk {f : PyData → Option (PyData × PyData)} : ∀ {js : List PyData} {d : PyData} {r : PyData × PyData}, alterD f js d = some r → ∃ n z, walkD js d = some n ∧ f n = some z ∧ z.2 = r.2
  | [], d, r, h => ⟨d, r, rfl, h, rfl⟩
  | j :: js, d, r, h => by
    cases j <;> cases d <;> simp only [alterD, walkD] at h ⊢ <;> first | cases h | skip
    rename_i i xs
    obtain ⟨m, e1, e2⟩ := Option.bind_eq_some_iff.mp h
    obtain ⟨d, e3, e4⟩ := Option.bind_eq_some_iff.mp e2
    obtain ⟨r', e5, e6⟩ := Option.map_eq_some_iff.mp e4
    obtain ⟨n, z, a1, a2, a3⟩ := alterD_walk e5
    refine ⟨n, z, ?_, a2, by rw [a3, ← e6]⟩
    rw [e1]
    show (xs[m]?).bind _ = _
    rw [e3]
    exact a1
section
variable {K : PySem.W.Frag} {F H : Hp}
/-- down the path of owned data -/
theorem Rep.walk : ∀ {js : List PyData} {k : Nat} {v w : V} {d n : PyData} {fp : As}, Rep K F H (js.length + k) v d fp → walkD js d = some n → PathV H v js w → ∃ g, Rep K F H k w n g ∧ ∀ b, g b → fp b
  | [], k, v, w, d, n, fp, h, hw, hp => by
    cases hw
    cases hp
    rw [show ([] : List PyData).length + k = k by simp] at h
    exact ⟨fp, h, fun _ z => z⟩
  | j :: js, k, v, w, d, n, fp, h, hw, hp => by
    obtain ⟨a, vs, i, x, rfl, e2, rfl, e4, e5⟩ := hp
    rw [show (PyData.int i :: js).length + k = (js.length + k) + 1 by simp; omega] at h
    cases d <;> simp only [walkD] at hw <;> first | cases hw | skip
    rename_i xs
    obtain ⟨m, e1, e6⟩ := Option.bind_eq_some_iff.mp hw
    obtain ⟨d, e3, e7⟩ := Option.bind_eq_some_iff.mp e6
    rcases h with ⟨h1, h2, h3⟩ | ⟨a', vs', ds, g, ea, ed, h1, h2, h3, rfl⟩ | ⟨a', vs', ds, g, ea, ed, h1, h2, h3, rfl⟩ | ⟨a', vs', ds, g, ea, ed, h1, h2, h3, rfl⟩
    · cases h1
    · cases ea; cases ed
      rw [e2] at h1; cases h1
      obtain ⟨v1, f1, a1, a2, a3⟩ := h2.get e3
      have : x = v1 := by
        unfold atI at e4
        rw [h2.length, e1] at e4
        rw [show vs[m]? = some x from e4] at a1
        cases a1; rfl
      subst this
      obtain ⟨g', b1, b2⟩ := Rep.walk a2 e7 e5
      exact ⟨g', b1, fun b z => .inr (a3 b (b2 b z))⟩
    · cases ed
    · cases ed
/-- the path can be walked -/
theorem Rep.path : ∀ {js : List PyData} {k : Nat} {v : V} {d n : PyData} {fp : As}, Rep K F H (js.length + k) v d fp → walkD js d = some n → ∃ w, PathV H v js w
  | [], k, v, d, n, fp, h, hw => ⟨v, rfl⟩
  | j :: js, k, v, d, n, fp, h, hw => by
    rw [show (j :: js).length + k = (js.length + k) + 1 by simp; omega] at h
    cases j <;> cases d <;> simp only [walkD] at hw <;> first | cases hw | skip
    rename_i i xs
    obtain ⟨m, e1, e6⟩ := Option.bind_eq_some_iff.mp hw
    obtain ⟨d, e3, e7⟩ := Option.bind_eq_some_iff.mp e6
    rcases h with ⟨h1, h2, h3⟩ | ⟨a', vs', ds, g, ea, ed, h1, h2, h3, rfl⟩ | ⟨a', vs', ds, g, ea, ed, h1, h2, h3, rfl⟩ | ⟨a', vs', ds, g, ea, ed, h1, h2, h3, rfl⟩
    · cases h1
    · cases ed
      obtain ⟨v1, f1, a1, a2, a3⟩ := h2.get e3
      obtain ⟨w, hw'⟩ := Rep.path a2 e7
      refine ⟨w, a', vs', i, v1, ea, h1, rfl, ?_, hw'⟩
      unfold atI
      rw [h2.length, e1]
      exact a1
    · cases ed
    · cases ed
/-- altered at the path: the place's list is at a -/
theorem Rep.alter {f : PyData → Option (PyData × PyData)} : ∀ {js : List PyData} {m : Nat} {v : V} {a : Addr} {d : PyData} {r : PyData × PyData} {fp : As}, Rep K F H (js.length + (m + 1)) v d fp → alterD f js d = some r → PathV H v js (.ref a) → (∀ n z, f n = some z → ∃ xs ys, n = .list xs ∧ z.1 = .list ys) →
    ∃ vs xs ys g, H a = some (.lst vs) ∧ walkD js d = some (.list xs) ∧ f (.list xs) = some (.list ys, r.2) ∧ RepL (Rep K F H m) vs xs g ∧ fp a ∧ ¬ g a ∧ (∀ b, g b → fp b) ∧
      ∀ (F' H' : Hp) (ws : List V) (g' : As), Le F F' → H' a = some (.lst ws) → (∀ b, fp b → b ≠ a → ¬ g b → H' b = H b) → RepL (Rep K F' H' m) ws ys g' → ¬ g' a → (∀ b, g' b → fp b → g b) →
        ∃ fp', Rep K F' H' (js.length + (m + 1)) v r.1 fp' ∧ ∀ b, fp' b ↔ g' b ∨ (fp b ∧ ¬ g b)
  | [], m, v, a, d, r, fp, h, ha, hp, hf => by
    cases hp
    rw [show ([] : List PyData).length + (m + 1) = m + 1 by simp] at h ⊢
    have ha : f d = some r := ha
    obtain ⟨xs, ys, rfl, e2⟩ := hf d r ha
    rcases h with ⟨h1, h2, h3⟩ | ⟨a', vs', ds, g, ea, ed, h1, h2, h3, rfl⟩ | ⟨a', vs', ds, g, ea, ed, h1, h2, h3, rfl⟩ | ⟨a', vs', ds, g, ea, ed, h1, h2, h3, rfl⟩
    · cases h1
    · cases ea; cases ed
      refine ⟨vs', xs, ys, g, h1, rfl, by rw [ha, ← e2], h2, .inl rfl, h3, fun b z => .inr z, fun F' H' ws g' le k1 k2 R ng hg => ⟨or' (one' a) g', ?_, fun b => ?_⟩⟩
      · rw [e2]
        exact .inr (.inl ⟨a, ws, ys, g', rfl, rfl, k1, R, ng, rfl⟩)
      · constructor
        · rintro (z | z)
          · have z : b = a := z
            subst z
            exact .inr ⟨.inl rfl, h3⟩
          · exact .inl z
        · rintro (z | ⟨z | z, nz⟩)
          · exact .inr z
          · exact .inl z
          · exact absurd z nz
    · cases ed
    · cases ed
  | j :: js, m, v, a, d, r, fp, h, ha, hp, hf => by
    rw [show (j :: js).length + (m + 1) = (js.length + (m + 1)) + 1 by simp; omega] at h ⊢
    obtain ⟨a0, vs0, i, x, rfl, p2, rfl, p4, p5⟩ := hp
    cases d <;> simp only [alterD] at ha <;> first | cases ha | skip
    rename_i xs0
    obtain ⟨n, e1, e2⟩ := Option.bind_eq_some_iff.mp ha
    obtain ⟨d1, e3, e4⟩ := Option.bind_eq_some_iff.mp e2
    obtain ⟨r1, e5, e6⟩ := Option.map_eq_some_iff.mp e4
    rcases h with ⟨h1, h2, h3⟩ | ⟨a', vs', ds, g0, ea, ed, h1, h2, h3, rfl⟩ | ⟨a', vs', ds, g, ea, ed, h1, h2, h3, rfl⟩ | ⟨a', vs', ds, g, ea, ed, h1, h2, h3, rfl⟩
    · cases h1
    · cases ea; cases ed
      rw [p2] at h1; cases h1
      obtain ⟨v1, f1, hh, q1, q2, q3, q4, q5⟩ := h2.focus e3
      have : x = v1 := by
        unfold atI at p4
        rw [h2.length, e1] at p4
        rw [show vs0[n]? = some x from p4] at q1
        cases q1; rfl
      subst this
      obtain ⟨vs, xs, ys, g, w1, w2, w3, w4, w5, w6, w7, w8⟩ := Rep.alter q2 e5 p5 hf
      have na : a ≠ a0 := fun e => h3 (by rw [← e]; exact (q4 a).mpr (.inl w5))
      refine ⟨vs, xs, ys, g, w1, ?_, by rw [w3, ← e6], w4, .inr ((q4 a).mpr (.inl w5)), w6, fun b z => .inr ((q4 b).mpr (.inl (w7 b z))), fun F' H' ws g' le k1 k2 R ng hg => ?_⟩
      · simp only [walkD]
        rw [e1]
        show (xs0[n]?).bind _ = _
        rw [e3]; exact w2
      · obtain ⟨fp1, u1, u2⟩ := w8 F' H' ws g' le k1 (fun b hb nb ng => k2 b (.inr ((q4 b).mpr (.inl hb))) nb ng) R ng fun b hb hf1 => hg b hb (.inr ((q4 b).mpr (.inl hf1)))
        have hh_ne : ∀ b, hh b → b ≠ a ∧ ¬ g b := fun b hb => ⟨fun e => q3 a w5 (e ▸ hb), fun hgb => q3 b (w7 b hgb) hb⟩
        obtain ⟨g0', y1, y2⟩ := q5 (Rep K F' H' (js.length + (m + 1))) r1.1 fp1 (fun v d f s rr => rr.keep _ le fun b hb => k2 b (.inr ((q4 b).mpr (.inr (s b hb)))) (hh_ne b (s b hb)).1 (hh_ne b (s b hb)).2) u1 fun b hb hhb => by
          rcases (u2 b).mp hb with z | ⟨z, _⟩
          · exact (hh_ne b hhb).2 (hg b z (.inr ((q4 b).mpr (.inr hhb))))
          · exact q3 b z hhb
        have ng0 : ¬ g0' a0 := fun z => by
          rcases (y2 a0).mp z with z | z
          · rcases (u2 a0).mp z with z | ⟨z, _⟩
            · have := hg a0 z (.inl rfl)
              exact h3 ((q4 a0).mpr (.inl (w7 a0 this)))
            · exact h3 ((q4 a0).mpr (.inl z))
          · exact h3 ((q4 a0).mpr (.inr z))
        refine ⟨or' (one' a0) g0', ?_, fun b => ?_⟩
        · rw [← e6]
          refine .inr (.inl ⟨a0, vs0, _, g0', rfl, rfl, ?_, y1, ng0, rfl⟩)
          rw [k2 a0 (.inl rfl) (Ne.symm na) fun z => h3 ((q4 a0).mpr (.inl (w7 a0 z)))]
          exact p2
        · show b = a0 ∨ g0' b ↔ g' b ∨ (b = a0 ∨ g0 b) ∧ ¬ g b
          rw [y2 b, u2 b, q4 b]
          constructor
          · rintro (z | (z | ⟨z1, z2⟩) | z)
            · subst z
              exact .inr ⟨.inl rfl, fun z => h3 ((q4 b).mpr (.inl (w7 b z)))⟩
            · exact .inl z
            · exact .inr ⟨.inr (.inl z1), z2⟩
            · exact .inr ⟨.inr (.inr z), (hh_ne b z).2⟩
          · rintro (z | ⟨z | z | z, nz⟩)
            · exact .inr (.inl (.inl z))
            · exact .inl z
            · exact .inr (.inl (.inr ⟨z, nz⟩))
            · exact .inr (.inr z)
    · cases ed
    · cases ed
end
end Fx
set_option Elab.async false
set_option linter.all false
set_option maxRecDepth 100000
/-! M14: a slot put back, a slot altered; paths read. -/
namespace Fx
open PySem PySem.Spec PyProof.Rows L2
section
variable {K : PySem.W.Frag} {L : List (Nat × V)} {T : As} {env : EnvD} {σ : L2.St} {H H' : Hp} {fps : Nat → As}
/-- a slot's datum in its slot again -/
theorem SOk.put {f : As} {i k : Nat} {l : Bool} {v : V} {d : PyData} (I : SOk K L (or' f T) env σ H fps) (hv : σ[i]? = some (some v)) (R : Rep K (fr (or' f T) H fps) H k v d f) (dis : Dis f T) (hl : l = true → (i, v) ∈ L) :
    SOk K L T (env.set i (.sv l k d)) σ H (setF fps i f) ∧ Le (fr (or' f T) H fps) (fr T H (setF fps i f)) := by
  have hσ : i < σ.length := by
    rw [List.getElem?_eq_some_iff] at hv; exact hv.1
  have hi : i < env.length := by rw [I.len]; exact hσ
  obtain ⟨J, le⟩ := I.set hi R dis
  have es : σ.set i (some v) = σ := by
    apply List.ext_getElem?
    intro j
    by_cases e : j = i
    · subst e; rw [List.getElem?_set_self hσ, hv]
    · rw [List.getElem?_set_ne (Ne.symm e)]
  rw [es] at J
  refine ⟨⟨by simp [I.len], J.disT, J.dis, J.trk, fun j l' k' d' q => ?_, fun j q => ?_, I.lu, J.tab⟩, le⟩
  · by_cases e : j = i
    · subst e
      rw [List.getElem?_set_self hi] at q
      cases q
      obtain ⟨w, h1, h2, h3⟩ := J.slot j false k d (List.getElem?_set_self hi)
      rw [hv] at h1
      cases h1
      exact ⟨v, hv, h2, hl⟩
    · rw [List.getElem?_set_ne (Ne.symm e)] at q
      exact J.slot j l' k' d' (by rw [List.getElem?_set_ne (Ne.symm e)]; exact q)
  · by_cases e : j = i
    · subst e
      exact absurd (List.getElem?_set_self hi) (q _ _ _)
    · refine J.out j fun l' k' d' z => ?_
      rw [List.getElem?_set_ne (Ne.symm e)] at z
      refine q l' k' d' ?_
      rw [List.getElem?_set_ne (Ne.symm e)]
      exact z
/-- the object at a of a slot's datum is altered; f' is left aside -/
theorem SOk.alter {g f' fp' : As} {i k : Nat} {l : Bool} {v : V} {d r : PyData} {a : Addr} {o : HO} (I : SOk K L (or' g T) env σ H fps) (h : env[i]? = some (.sv l k d)) (hv : σ[i]? = some (some v)) (ha : fps i a) (dg : Dis g T)
    (sub : ∀ b, fp' b ∨ f' b → fps i b ∨ g b) (dj : Dis fp' f')
    (R : Rep K (fr (or' g T) H fps) (upd H a o) k v r fp') :
    SOk K L (or' f' T) (env.set i (.sv l k r)) σ (upd H a o) (setF fps i fp') ∧ Le (fr (or' g T) H fps) (fr (or' f' T) (upd H a o) (setF fps i fp')) ∧ Dis f' T ∧ ∀ b, T b → upd H a o b = H b := by
  have hi : i < env.length := by
    rw [List.getElem?_eq_some_iff] at h; exact h.1
  have old : ∀ b, all' (or' f' T) (setF fps i fp') b → all' (or' g T) fps b := fun b z => by
    rcases z with (z | z) | ⟨j, z⟩
    · rcases sub b (.inr z) with z | z
      · exact .inr ⟨i, z⟩
      · exact .inl (.inl z)
    · exact .inl (.inr z)
    · by_cases e : j = i
      · subst e
        rw [setF_same] at z
        rcases sub b (.inl z) with z | z
        · exact .inr ⟨j, z⟩
        · exact .inl (.inl z)
      · rw [setF_ne e] at z; exact .inr ⟨j, z⟩
  have aT : ∀ b, or' g T b → b ≠ a := fun b z e => I.disT i a ha (e ▸ z)
  have le : Le (fr (or' g T) H fps) (fr (or' f' T) (upd H a o) (setF fps i fp')) := le_of_ext fun b u e => by
    obtain ⟨h1, h2⟩ := hid_some e
    have hb : b ≠ a := fun e => h1 (.inr ⟨i, e ▸ ha⟩)
    exact (hid_out fun z => h1 (old b z)).trans ((upd_ne hb).trans h2)
  have dT : Dis f' T := fun b x y => by
    rcases sub b (.inr x) with z | z
    · exact I.disT i b z (.inr y)
    · exact dg b z y
  obtain ⟨w, w1, w2, w3⟩ := I.slot i l k d h
  refine ⟨⟨by simp [I.len], fun j b x y => ?_, fun m j ne b x y => ?_, fun b z => ?_, fun j l' k' d' q => ?_, fun j q => ?_, I.lu, fun q hq => le.ex q _ (I.tab q hq)⟩, le, dT, fun b z => upd_ne (aT b (.inr z))⟩
  · by_cases e : j = i
    · subst e
      rw [setF_same] at x
      rcases y with y | y
      · exact dj b x y
      · rcases sub b (.inl x) with z | z
        · exact I.disT j b z (.inr y)
        · exact dg b z y
    · rw [setF_ne e] at x
      rcases y with y | y
      · rcases sub b (.inr y) with z | z
        · exact I.dis j i e b x z
        · exact I.disT j b x (.inl z)
      · exact I.disT j b x (.inr y)
  · have one : ∀ j, j ≠ i → fp' b → ¬ fps j b := fun j ne x y => by
      rcases sub b (.inl x) with z | z
      · exact I.dis j i ne b y z
      · exact I.disT j b y (.inl z)
    by_cases e : m = i
    · subst e
      rw [setF_same] at x
      rw [setF_ne (Ne.symm ne)] at y
      exact one j (Ne.symm ne) x y
    · rw [setF_ne e] at x
      by_cases e' : j = i
      · subst e'
        rw [setF_same] at y
        exact one m e y x
      · rw [setF_ne e'] at y
        exact I.dis m j ne b x y
  · by_cases hb : b = a
    · subst hb; rw [upd_same]; exact Option.some_ne_none _
    · rw [upd_ne hb]; exact I.trk b (old b z)
  · by_cases e : j = i
    · subst e
      rw [List.getElem?_set_self hi] at q
      cases q
      refine ⟨v, hv, ?_, ?_⟩
      · rw [setF_same]
        exact R.keep k le fun _ _ => rfl
      · rw [hv] at w1
        cases w1
        exact w3
    · rw [List.getElem?_set_ne (Ne.symm e)] at q
      obtain ⟨u, h1, h2, h3⟩ := I.slot j l' k' d' q
      refine ⟨u, h1, ?_, h3⟩
      rw [setF_ne e]
      exact h2.keep k' le fun b z => upd_ne fun eb => I.dis j i e a (eb ▸ z) ha
  · by_cases e : j = i
    · subst e
      exact absurd (List.getElem?_set_self hi) (q _ _ _)
    · rw [setF_ne e]
      refine I.out j fun l' k' d' z => q l' k' d' ?_
      rw [List.getElem?_set_ne (Ne.symm e)]
      exact z
/-- the path stands where what is owned stands -/
theorem Rep.path_keep {F : Hp} : ∀ {js : List PyData} {k : Nat} {v w : V} {d n : PyData} {fp : As}, Rep K F H (js.length + k) v d fp → walkD js d = some n → PathV H v js w → (∀ b, fp b → H' b = H b) → PathV H' v js w
  | [], k, v, w, d, n, fp, h, hw, hp, kp => hp
  | j :: js, k, v, w, d, n, fp, h, hw, hp, kp => by
    obtain ⟨a, vs, i, x, rfl, e2, rfl, e4, e5⟩ := hp
    rw [show (PyData.int i :: js).length + k = (js.length + k) + 1 by simp; omega] at h
    cases d <;> simp only [walkD] at hw <;> first | cases hw | skip
    rename_i xs
    obtain ⟨m, e1, e6⟩ := Option.bind_eq_some_iff.mp hw
    obtain ⟨d, e3, e7⟩ := Option.bind_eq_some_iff.mp e6
    rcases h with ⟨h1, h2, h3⟩ | ⟨a', vs', ds, g, ea, ed, h1, h2, h3, rfl⟩ | ⟨a', vs', ds, g, ea, ed, h1, h2, h3, rfl⟩ | ⟨a', vs', ds, g, ea, ed, h1, h2, h3, rfl⟩
    · cases h1
    · cases ea; cases ed
      rw [e2] at h1; cases h1
      obtain ⟨v1, f1, a1, a2, a3⟩ := h2.get e3
      have : x = v1 := by
        unfold L2.atI at e4
        rw [h2.length, e1] at e4
        rw [show vs[m]? = some x from e4] at a1
        cases a1; rfl
      subst this
      exact ⟨a, vs, i, x, rfl, (kp a (.inl rfl)).trans e2, rfl, e4, Rep.path_keep a2 e7 e5 fun b z => kp b (.inr (a3 b z))⟩
    · cases ed
    · cases ed
end
/-- the text of a path: the last index stands outside -/
def chkPath (Γ : Gam) (i : Nat) : List P → Expr → Bool
  | [], .Name x _ => decide (Γ.N[i]? = some x) && isVis Γ x && okName x
  | p :: ps, .Subscript o e _ => chkPath Γ i ps o && chkP Γ p e && noSlice e
  | _, _ => false
def tPath (G : Gh) (i : Nat) (ps : List P) : TE := fun σ H Q => ∃ T env fps, SOk G.K G.L T env σ H fps ∧ ∃ js l k d n, pathR G.c env ps = some js ∧ env[i]? = some (.sv l k d) ∧ js.length ≤ k ∧ walkD js d = some n ∧ ∀ v w, σ[i]? = some (some v) → PathV H v js w → Q w H
section
variable {Γ : Gam} {G : Gh} {X : Cx}
theorem snd_path (ok : Ok Γ G X) {i : Nat} : ∀ {ps : List P} {e : Expr}, chkPath Γ i ps e = true → PE X e (tPath G i ps)
  | [], e, h => by
    cases e <;> first | (simp [chkPath] at h; done) | skip
    rename_i x pos
    refine (snd_P ok (.at i) (.Name x pos) h).weaken fun σ H Q ⟨T, env, fps, I, js, l, k, d, n, e1, e2, e3, e4, q⟩ => ?_
    cases e1
    exact ⟨T, env, fps, I, k, d, by simp only [evP, slot]; rw [e2], fun v fp hr hfp hx => q v v (hx i rfl) rfl⟩
  | p :: ps, e, h => by
    cases e <;> first | (simp [chkPath] at h; done) | skip
    rename_i o e pos
    simp only [chkPath, Bool.and_eq_true] at h
    obtain ⟨⟨h1, h2⟩, h3⟩ := h
    refine (pe_ix (ix_list (X := X)) (snd_path ok h1) (snd_P ok p e h2) (plainIx h3)).weaken fun σ H Q ⟨T, env, fps, I, js, l, k, d, n, e1, e2, e3, e4, q⟩ => ?_
    simp only [pathR] at e1
    obtain ⟨js0, a1, a2⟩ := Option.bind_eq_some_iff.mp e1
    obtain ⟨⟨j0, x⟩, b1, b2⟩ := Option.map_eq_some_iff.mp a2
    subst b2
    obtain ⟨m, xs, i0, m0, c1, c2, c3, c4, c5⟩ := walkD_append e4
    cases c3
    subst c2
    obtain ⟨v, v1, v2, v3⟩ := I.slot i l k d e2
    have hlen : js0.length + 1 ≤ k := by simpa using e3
    obtain ⟨k', rfl⟩ : ∃ k', k = js0.length + (k' + 1) := ⟨k - js0.length - 1, by omega⟩
    refine ⟨T, env, fps, I, js0, l, _, d, _, a1, e2, by omega, c1, fun v' w hv hp => ?_⟩
    rw [v1] at hv
    cases hv
    obtain ⟨g, r1, r2⟩ := Rep.walk v2 c1 hp
    rcases r1 with ⟨z1, z2, z3⟩ | ⟨a, vs, ds, g', ea, ed, z1, z2, z3, rfl⟩ | ⟨a, vs, ds, g', ea, ed, z1, z2, z3, rfl⟩ | ⟨a, vs, ds, g', ea, ed, z1, z2, z3, rfl⟩
    · cases z1
    · cases ed
      refine ⟨T, env, fps, I, j0, _, b1, fun y fp hr _ _ => ?_⟩
      obtain ⟨u, f, y1, y2, y3⟩ := z2.get c5
      have hy : y = .int i0 := (rep_noncont hr rfl).intV
      subst hy
      subst ea
      refine ⟨a, vs, i0, u, rfl, rfl, .inl (.inl z1), ?_, ?_⟩
      · unfold L2.atI
        rw [z2.length, c4]
        exact y1
      · refine q v u v1 (hp.snoc rfl z1 ?_)
        unfold L2.atI
        rw [z2.length, c4]
        exact y1
    · cases ed
    · cases ed
end
end Fx
set_option Elab.async false
set_option linter.all false
set_option maxRecDepth 100000
/-! M15: a list's own methods, stores. -/
namespace Fx
open PySem PySem.Spec PyProof.Rows L2
theorem RepL.append {R : RR} : ∀ {vs us : List V} {ds es : List PyData} {f g : As}, RepL R vs ds f → RepL R us es g → Dis f g → ∃ h, RepL R (vs ++ us) (ds ++ es) h ∧ ∀ b, h b ↔ f b ∨ g b
  | _, _, _, _, _, g, .nil, h, _ => ⟨g, h, fun b => ⟨.inr, fun z => z.elim (fun z => z.elim) id⟩⟩
  | _, _, _, _, _, g, .cons (f := f0) (g := g0) r t dj, h, dj' => by
    obtain ⟨h', t', e⟩ := RepL.append t h fun b x y => dj' b (.inr x) y
    refine ⟨or' f0 h', .cons r t' fun b x y => ?_, fun b => ?_⟩
    · rcases (e b).mp y with y | y
      · exact dj b x y
      · exact dj' b (.inl x) y
    · show f0 b ∨ h' b ↔ (f0 b ∨ g0 b) ∨ g b
      rw [e b, or_assoc]
theorem RepL.erase {R : RR} : ∀ {vs : List V} {ds : List PyData} {g : As}, RepL R vs ds g → ∀ {n : Nat} {d : PyData}, ds[n]? = some d →
    ∃ v f h, vs[n]? = some v ∧ R v d f ∧ RepL R (vs.eraseIdx n) (ds.eraseIdx n) h ∧ Dis f h ∧ ∀ b, g b ↔ f b ∨ h b
  | _, _, _, .nil, _, _, h => by simp at h
  | _, _, _, .cons (f := f) (g := g) r t dj, 0, _, e => by
    simp at e
    subst e
    exact ⟨_, f, g, rfl, r, t, dj, fun b => Iff.rfl⟩
  | _, _, _, .cons (f := f) (g := g) r t dj, n + 1, d, e => by
    obtain ⟨v, f1, h, e1, r1, t1, dj1, w⟩ := RepL.erase t (n := n) (by simpa using e)
    refine ⟨v, f1, or' f h, by simpa using e1, r1, .cons r t1 fun b x y => dj b x ((w b).mpr (.inr y)), fun b x y => ?_, fun b => ?_⟩
    · rcases y with y | y
      · exact dj b y ((w b).mpr (.inl x))
      · exact dj1 b x y
    · show f b ∨ g b ↔ f1 b ∨ f b ∨ h b
      rw [w b]
      constructor
      · rintro (x | x | x)
        · exact .inr (.inl x)
        · exact .inl x
        · exact .inr (.inr x)
      · rintro (x | x | x)
        · exact .inr (.inl x)
        · exact .inl x
        · exact .inr (.inr x)
theorem RepL.rev {R : RR} : ∀ {vs : List V} {ds : List PyData} {g : As}, RepL R vs ds g → ∃ h, RepL R vs.reverse ds.reverse h ∧ ∀ b, h b ↔ g b
  | _, _, _, .nil => ⟨none', .nil, fun b => Iff.rfl⟩
  | _, _, _, .cons (v := v) (d := d) (f := f) (g := g) r t dj => by
    obtain ⟨h, t', e⟩ := RepL.rev t
    have one : RepL R [v] [d] f := by
      have := RepL.cons r .nil (dis_none' f)
      rwa [or_none'] at this
    obtain ⟨h', t2, e2⟩ := RepL.append t' one fun b x y => dj b y ((e b).mp x)
    rw [List.reverse_cons, List.reverse_cons]
    refine ⟨h', t2, fun b => ?_⟩
    rw [e2 b, e b]
    exact or_comm
theorem dropLast_erase {α : Type} (xs : List α) : xs.dropLast = xs.eraseIdx (xs.length - 1) := by
  rcases List.eq_nil_or_concat xs with rfl | ⟨ys, y, rfl⟩
  · rfl
  · simp [List.eraseIdx_append_of_length_le]
def muId : Mu → String
  | .append => "list.append" | .pop => "list.pop" | .popAt => "list.pop" | .reverse => "list.reverse" | .extend => "list.extend"
def muN : Mu → Str
  | .append => "append" | .pop => "pop" | .popAt => "pop" | .reverse => "reverse" | .extend => "extend"
def rMu : Mu → V → List V → Hp → VK → Prop
  | .append => rAppend | .pop => rPop | .popAt => rPopAt | .reverse => rReverse | .extend => rExtend
theorem mt_mu {X : Cx} (m : Mu) : MtR X (muId m) (rMu m) := by
  cases m
  · exact mt_append
  · exact mt_pop
  · exact mt_popAt
  · exact mt_reverse
  · exact mt_extend
theorem mu_slot (m : Mu) : Slot "list" (muN m) (muId m) := by
  cases m
  · exact F.slot_list_append
  · exact F.slot_list_pop
  · exact F.slot_list_pop
  · exact F.slot_list_reverse
  · exact F.slot_list_extend
theorem mu_type (m : Mu) : typeOf (.builtin (muId m)) = pure (.type "method_descriptor") := by
  cases m
  · exact F.type_list_append
  · exact F.type_list_pop
  · exact F.type_list_pop
  · exact F.type_list_reverse
  · exact F.type_list_extend
/-- what a method does to the values -/
theorem mu_core {K : PySem.W.Frag} {F H : Hp} {ke k : Nat} {m : Mu} {vs us : List V} {xs as ys : List PyData} {z : PyData} {gx g : As} (hx : RepL (Rep K F H ke) vs xs gx) (ha : RepL (Rep K F H ke) us as g) (dj : Dis gx g) (h : muD m xs as = some (ys, z)) (hk : isCont z = false ∨ k = ke) :
    ∃ ws w g' f', RepL (Rep K F H ke) ws ys g' ∧ Rep K F H k w z f' ∧ Dis g' f' ∧ (∀ b, g' b ∨ f' b → gx b ∨ g b) ∧ ∀ a H2 (Q : VK), H2 a = some (.lst vs) → Q w (upd H2 a (.lst ws)) → rMu m (.ref a) us H2 Q := by
  have own : ∀ {w : V} {f : As}, Rep K F H ke w z f → ∃ f', Rep K F H k w z f' ∧ ∀ b, f' b → f b := fun {w f} r => by
    rcases hk with hk | rfl
    · exact ⟨none', Rep.plain (rep_noncont r hk) (.inl hk), fun _ z => z.elim⟩
    · exact ⟨f, r, fun _ z => z⟩
  cases m with
  | append =>
    match as, h, ha with
    | [y], h, ha =>
      simp only [muD] at h
      split at h
      · rename_i hl
        cases h
        obtain ⟨h', t, e⟩ := RepL.append hx ha dj
        match us, ha with
        | [u], ha =>
          refine ⟨_, .non, h', none', t, Rep.plain .non (.inl rfl), dis_none' _, fun b z => z.elim (fun z => (e b).mp z) fun z => z.elim, fun a H2 Q h1 q => ⟨a, vs, u, rfl, rfl, h1, ?_, q⟩⟩
          rw [hx.length]; exact hl
        | [], ha => cases ha
        | _ :: _ :: _, ha => cases ha with | cons _ t _ => cases t
      · cases h
  | pop =>
    match as, h, ha with
    | [], h, ha =>
      simp only [muD] at h
      obtain ⟨y, e1, e2⟩ := Option.map_eq_some_iff.mp h
      cases e2
      obtain ⟨v, f, h', w1, w2, w3, w4, w5⟩ := hx.erase e1
      obtain ⟨f', o1, o2⟩ := own w2
      cases ha
      refine ⟨vs.dropLast, v, h', f', ?_, o1, fun b x y => w4 b (o2 b y) x, fun b z => .inl ((w5 b).mpr (z.elim .inr fun z => .inl (o2 b z))), fun a H2 Q h1 q => ⟨a, vs, v, rfl, rfl, h1, ?_, q⟩⟩
      · rw [dropLast_erase, dropLast_erase, hx.length]; exact w3
      · rw [hx.length]; exact w1
  | popAt =>
    match as, h, ha with
    | [.int i], h, ha =>
      simp only [muD] at h
      split at h
      · rename_i hi
        obtain ⟨j, e1, e2⟩ := Option.bind_eq_some_iff.mp h
        obtain ⟨y, e3, e4⟩ := Option.map_eq_some_iff.mp e2
        cases e4
        obtain ⟨v, f, h', w1, w2, w3, w4, w5⟩ := hx.erase e3
        obtain ⟨f', o1, o2⟩ := own w2
        match us, ha with
        | [u], .cons r .nil _ =>
          have hu := (rep_noncont r rfl).intV
          subst hu
          refine ⟨_, v, h', f', w3, o1, fun b x y => w4 b (o2 b y) x, fun b z => .inl ((w5 b).mpr (z.elim .inr fun z => .inl (o2 b z))), fun a H2 Q h1 q => ⟨a, vs, i, j, v, rfl, rfl, h1, by omega, by omega, ?_, w1, q⟩⟩
          rw [hx.length]
          exact (ixN_seq e1).1
      · cases h
  | reverse =>
    match as, h, ha with
    | [], h, ha =>
      cases h
      obtain ⟨h', t, e⟩ := hx.rev
      cases ha
      exact ⟨_, .non, h', none', t, Rep.plain .non (.inl rfl), dis_none' _, fun b z => .inl (z.elim (fun z => (e b).mp z) fun z => z.elim), fun a H2 Q h1 q => ⟨a, vs, rfl, rfl, h1, q⟩⟩
  | extend => simp [muD] at h
section
variable {Γ : Gam} {G : Gh} {X : Cx}
theorem muF_lst {m : Mu} {as : List PyData} : ∀ n z, muF m as n = some z → ∃ xs ys, n = .list xs ∧ z.1 = .list ys := fun n z h => by
  cases n with
  | list xs =>
    obtain ⟨r, e1, e2⟩ := Option.map_eq_some_iff.mp (show (muD m xs as).map _ = some z from h)
    cases e2
    exact ⟨xs, r.1, rfl, rfl⟩
  | _ => cases h
/-- the method's call at the path's place -/
theorem mu_fin {m : Mu} {i ke k k0 : Nat} {l : Bool} {d : PyData} {js as : List PyData} {z : PyData × EnvD} {T g : As} {env1 : EnvD} {σ : L2.St} {H0 H : Hp} {fps0 fps : Nat → As} {us : List V} {v : V} {a : Addr} {Q : VK}
    (I : SOk G.K G.L (or' g T) env1 σ H fps) (st : Stp T H0 fps0 (or' g T) H fps) (dj : Dis g T) (hs : env1[i]? = some (.sv l k0 d)) (hv : σ[i]? = some (some v)) (hp : PathV H v js (.ref a))
    (hr : alterAt env1 i l k0 d (ke + 1) js (muF m as) = some z) (hus : RepL (Rep G.K (fr (or' g T) H fps) H ke) us as g) (hk : isCont z.1 = false ∨ k = ke) (q : ∀ w H', VOut G T H0 fps0 σ k z w H' → Q w H') : rMu m (.ref a) us H Q := by
  unfold alterAt at hr
  split at hr
  · rename_i e0
    subst e0
    obtain ⟨r, r1, r2⟩ := Option.map_eq_some_iff.mp hr
    cases r2
    obtain ⟨w, w1, w2, w3⟩ := I.slot i l _ d hs
    rw [hv] at w1
    cases w1
    obtain ⟨vs, xs, ys, gx, a1, a2, a3, a4, a5, a6, a7, a8⟩ := Rep.alter w2 r1 hp muF_lst
    have hm : muD m xs as = some (ys, r.2) := by
      obtain ⟨r', e1, e2⟩ := Option.map_eq_some_iff.mp (show (muD m xs as).map _ = some (PyData.list ys, r.2) from a3)
      rw [e1]
      have := e2
      simp only [Prod.mk.injEq, PyData.list.injEq] at this
      obtain ⟨t1, t2⟩ := this
      rw [← t1, ← t2]
    have gi : ∀ b, fps i b → ¬ g b := fun b x y => I.disT i b x (.inl y)
    obtain ⟨ws, u, g', f', c1, c2, c3, c4, c5⟩ := mu_core (k := k) a4 hus (fun b x y => gi b (a7 b x) y) hm hk
    have na : ∀ b, g' b ∨ f' b → b ≠ a := fun b z e => by
      subst e
      rcases c4 b z with z | z
      · exact a6 z
      · exact gi b a5 z
    refine c5 a H Q a1 (q _ _ ?_)
    obtain ⟨fp', b1, b2⟩ := a8 (fr (or' g T) H fps) (upd H a (.lst ws)) ws g' (Le.refl _) upd_same (fun b _ nb _ => upd_ne nb) (c1.imp fun v d f s rr => rr.keep _ (Le.refl _) fun b hb => upd_ne (na b (.inl (s b hb)))) (fun z => na a (.inl z) rfl) fun b x y => by
      rcases c4 b (.inl x) with z | z
      · exact z
      · exact absurd z (gi b y)
    obtain ⟨J, le, dT, kp⟩ := I.alter hs hv a5 dj (f' := f') (fp' := fp') (fun b z => by
      rcases z with z | z
      · rcases (b2 b).mp z with z | z
        · exact (c4 b (.inl z)).imp (a7 b) id
        · exact .inl z.1
      · exact (c4 b (.inr z)).imp (a7 b) id) (fun b x y => by
      rcases (b2 b).mp x with z | z
      · exact c3 b z y
      · rcases c4 b (.inr y) with u | u
        · exact z.2 u
        · exact gi b z.1 u) b1
    refine ⟨_, f', J, c2.keep _ le fun b hb => upd_ne (na b (.inr hb)), dT, ⟨fun b hb => (kp b hb).trans (st.aside b hb), st.le.trans le⟩⟩
  · cases hr
theorem list_ty {K : PySem.W.Frag} {F H : Hp} {k : Nat} {v : V} {xs : List PyData} {fp : As} (h : Rep K F H k v (.list xs) fp) (le : Le F H) : ∃ a vs, v = .ref a ∧ SqL K H a vs := by
  cases h.dat k le (fun _ _ => rfl) with
  | lst r t => exact ⟨_, _, rfl, r⟩
theorem ty_list {a : Addr} {vs : List V} {H : Hp} {K : PySem.W.Frag} (h : SqL K H a vs) : tyV K "list" (.ref a) H := .inl ⟨rfl, vs, h⟩
/-- the arguments of a method at a slot's path: the slot is hidden where the path goes down -/
theorem mu_run {m : Mu} {i ke k : Nat} {ps : List P} {es : Es} {σ : L2.St} {H : Hp} {Q : VK} (ok : Ok Γ G X) (hq : tV G k (ev G.c (.mu m i ps ke es) k) σ H Q) :
    tPath G i ps σ H fun w H1 => tyV X.K "list" w H1 ∧ tL G ke (evs G.c es ke) σ H1 fun us H2 => rMu m w us H2 Q := by
  obtain ⟨T, env, fps, I, hq⟩ := hq
  cases ps with
  | nil =>
    simp only [ev] at hq
    obtain ⟨hl, hq⟩ := hq.ite_bad
    unfold isListS slot at hl
    cases hs : env[i]? with
    | none => rw [hs] at hl; cases hl
    | some sv =>
      cases sv with
      | un => rw [hs] at hl; cases hl
      | sv l k0 d =>
        cases d <;> rw [hs] at hl <;> first | cases hl | skip
        rename_i xs
        obtain ⟨v, v1, v2, v3⟩ := I.slot i l k0 _ hs
        obtain ⟨a, vs, ev, hty⟩ := list_ty v2 hid_le
        subst ev
        refine ⟨T, env, fps, I, [], l, k0, _, _, rfl, hs, Nat.zero_le _, rfl, fun v' w hv hp => ?_⟩
        rw [v1] at hv
        cases hv
        cases hp
        refine ⟨by rw [ok.hK]; exact ty_list hty, T, env, fps, I, hq.bind.mono (fun r _ hr us H1 ho => ?_) fun _ _ z => z⟩
        obtain ⟨z, e, hr⟩ := hr.of_bind
        obtain ⟨hk, hr⟩ := hr.ite_bad
        obtain ⟨fps1, g, I1, R1, dj, st⟩ := ho
        unfold alterS at e
        simp only [pathR, Option.bind_some] at e
        split at e
        · rename_i l1 k1 d1 hs1
          exact mu_fin (js := []) I1 st dj hs1 v1 rfl e R1 hk hr
        · cases e
  | cons p ps =>
    simp only [ev] at hq
    split at hq
    · rename_i js l k0 d hjs hs
      obtain ⟨hpo, hq⟩ := hq.ite_bad
      have hq := hq.bind
      unfold pathOk at hpo
      simp only [Bool.and_eq_true, decide_eq_true_eq] at hpo
      obtain ⟨ek, hw⟩ := hpo
      subst ek
      split at hw
      · rename_i xs n1
        obtain ⟨v, v1, J, eT, v2⟩ := I.move hs
        refine ⟨T, env, fps, I, js, l, _, d, _, hjs, hs, by omega, n1, fun v' w hv hp => ?_⟩
        rw [v1] at hv
        cases hv
        obtain ⟨gw, r1, r2⟩ := Rep.walk v2 n1 hp
        obtain ⟨a, vs, ea, hty⟩ := list_ty r1 hid_le
        subst ea
        refine ⟨by rw [ok.hK]; exact ty_list hty, or' (fps i) T, env.set i .un, setF fps i none', J, hq.mono (fun r _ hr us H1 ho => ?_) fun x _ z => ?_⟩
        · obtain ⟨z, e, hr⟩ := hr.of_bind
          obtain ⟨hk, hr⟩ := hr.ite_bad
          obtain ⟨fps1, g, I1, R1, dj, st⟩ := ho
          have e3 : or' g (or' (fps i) T) = or' (fps i) (or' g T) := by rw [← or_assoc', or_comm' g, or_assoc']
          rw [e3] at I1 R1 st
          have dg : Dis (fps i) (or' g T) := fun b x y => y.elim (fun y => dj b y (.inl x)) fun y => I.disT i b x y
          have kp : ∀ b, fps i b → H1 b = H b := fun b hb => st.aside b (.inl hb)
          have leF : Le (fr T H fps) (fr (or' (fps i) (or' g T)) H1 fps1) := by
            rw [← eT]; exact st.le
          have R2 := v2.keep _ leF kp
          obtain ⟨I2, le2⟩ := I1.put v1 R2 dg fun hl => by
            obtain ⟨w', u1, u2, u3⟩ := I.slot i l _ d hs
            rw [v1] at u1
            cases u1
            exact u3 hl
          have hi : i < r.2.length := by
            have := I1.len
            have h2 : i < σ.length := by
              rw [List.getElem?_eq_some_iff] at v1; exact v1.1
            omega
          refine mu_fin (env1 := r.2.set i (.sv l _ d)) (js := js) I2 ⟨fun b hb => st.aside b (.inr hb), leF.trans le2⟩ (fun b x y => dj b x (Or.inr y)) (List.getElem?_set_self hi) v1 (Rep.path_keep v2 n1 hp kp) (m := m) (ke := ke) (k := k) (as := r.1) (z := z) ?_ (R1.imp fun v d f s rr => rr.keep _ le2 fun _ _ => rfl) hk hr
          unfold alterAt at e ⊢
          rw [if_pos rfl] at e ⊢
          obtain ⟨r', y1, y2⟩ := Option.map_eq_some_iff.mp e
          rw [y1, ← y2]
          show some (r'.2, (r.2.set i _).set i _) = _
          rw [List.set_set]
        · intro cls a' H' kp le xi
          exact z cls a' H' (fun b hb => kp b (.inr hb)) (by rw [← eT]; exact le.trans (hid_mono fun b hb => .inr hb)) xi
      · cases hw
    · exact hq.elim
end
end Fx
set_option Elab.async false
set_option linter.all false
set_option maxRecDepth 100000
/-! M16: methods' calls, stores. -/
namespace Fx
open PySem PySem.Spec PyProof.Rows L2
section
variable {Γ : Gam} {G : Gh} {X : Cx}
theorem path_base {Γ : Gam} {i : Nat} {ps : List P} {o : Expr} {nm : Str} {env : PySem.Env} (h : chkPath Γ i ps o = true) (whole : Sem Value) : attributeBase o nm env whole = whole := by
  cases o <;> first | rfl | (cases ps <;> simp [chkPath] at h)
theorem pos_eq {a b : Nat} (h : a = b) : (a == b) = true := by subst h; exact beq_self_eq_true a
theorem k_mu0 {m : Mu} {i : Nat} {ps : List P} {ke : Nat} {o : Expr} {nm : Str} {apos cpos : Pos} (ok : Ok Γ G X) (hp : chkPath Γ i ps o = true) (hn : nm = muN m) (hl : apos.endLine = cpos.line) : PEk G X G.c (.mu m i ps ke .nil) (.Call (.Attribute o nm apos) [] [] cpos) := by
  subst hn
  refine ne_p (fun k => ?_) rfl
  refine (pe_bm0 F.plainAttrs_list (mu_slot m) (mu_type m) (mt_mu m) (snd_path ok hp) (path_base hp _) (pos_eq hl)).weaken fun σ H Q hq => ?_
  have h := mu_run ok hq
  obtain ⟨T, env, fps, I, js, l, k0, d, n, e1, e2, e3, e4, q⟩ := h
  refine ⟨T, env, fps, I, js, l, k0, d, n, e1, e2, e3, e4, fun v w hv hpv => ?_⟩
  obtain ⟨q1, T', env', fps', I', q2⟩ := q v w hv hpv
  refine ⟨q1, ?_⟩
  simp only [evs] at q2
  exact (show ∀ us H2, LOut G T' H fps' σ ke ([], env') us H2 → rMu m w us H2 Q from q2) [] H ⟨fps', none', by rw [or_none]; exact I', .nil, dis_none _, by rw [or_none]; exact Stp.refl _ _ _⟩
theorem few_ok {x : Expr} {cpos : Pos} {env : PySem.Env} (h : noStar1 x = true) : ((backTo cpos (starEach [x] env)).all (fun x => !x.1) && (backToKw cpos (keywordEach [] env)).all (fun x => x.1.isSome)
      && decide ([x].length + ([] : List Keyword).length + (if ([] : List Keyword).isEmpty then 0 else 1) < 30)) = true := by
  rw [star_cons h]
  rfl
theorem k_mu1 {m : Mu} {i : Nat} {ps : List P} {ke : Nat} {e : E} {o x : Expr} {nm : Str} {apos cpos : Pos} (ok : Ok Γ G X) (hp : chkPath Γ i ps o = true) (hn : nm = muN m) (hl : apos.endLine = cpos.line) (hx : PEk G X G.c e x) (hs : noStar1 x = true) : PEk G X G.c (.mu m i ps ke (.cons e .nil)) (.Call (.Attribute o nm apos) [x] [] cpos) := by
  subst hn
  refine ne_p (fun k => ?_) rfl
  refine (pe_bm F.plainAttrs_list (mu_slot m) (mu_type m) (mt_mu m) (snd_path ok hp) (pa_vals (.cons hx hs .nil) ke) (path_base hp _) (few_ok hs) (pos_eq hl) (star_cons hs) rfl).weaken fun σ H Q hq => mu_run ok hq

/-! ### o[i] = e -/
def tSt (G : Gh) (T : As) (H : Hp) (fps : Nat → As) (σ : L2.St) (env : EnvD) (H' : Hp) : Prop := TOut G T H fps σ env H'
theorem put_core {K : PySem.W.Frag} {F H : Hp} {k : Nat} {vs : List V} {xs ys : List PyData} {x y z : PyData} {u : V} {gx g : As} (hx : RepL (Rep K F H k) vs xs gx) (hu : Rep K F H k u y g) (dj : Dis gx g) (h : putF' x y (.list xs) = some (.list ys, z)) :
    ∃ i j g', x = .int i ∧ ixN vs.length i = some j ∧ RepL (Rep K F H k) (vs.set j u) ys g' ∧ ∀ b, g' b → gx b ∨ g b := by
  unfold putF' at h
  simp only at h
  split at h
  · rename_i i
    obtain ⟨j, e1, e2⟩ := Option.bind_eq_some_iff.mp h
    obtain ⟨w, e3, e4⟩ := Option.map_eq_some_iff.mp e2
    simp only [Prod.mk.injEq, PyData.list.injEq] at e4
    obtain ⟨rfl, _⟩ := e4
    have go : ∀ {vs : List V} {xs : List PyData} {gx : As} {j : Nat}, RepL (Rep K F H k) vs xs gx → Dis gx g → (∃ w, xs[j]? = some w) → ∃ g', RepL (Rep K F H k) (vs.set j u) (xs.set j y) g' ∧ ∀ b, g' b → gx b ∨ g b := by
      intro vs xs gx j hx
      induction hx generalizing j with
      | nil => rintro _ ⟨w, h⟩; simp at h
      | @cons v vs d ds f g0 r t dj0 ih =>
        rintro dj ⟨w, h⟩
        cases j with
        | zero =>
          refine ⟨or' g g0, .cons hu t fun b p q => dj b (.inr q) p, fun b z => z.elim .inr fun z => .inl (.inr z)⟩
        | succ j =>
          obtain ⟨g', t', e⟩ := ih (fun b p q => dj b (.inr p) q) ⟨w, by simpa using h⟩
          refine ⟨or' f g', .cons r t' fun b p q => ?_, fun b z => ?_⟩
          · rcases e b q with q | q
            · exact dj0 b p q
            · exact dj b (.inl p) q
          · rcases z with z | z
            · exact .inl (.inl z)
            · exact (e b z).imp .inr id
    obtain ⟨g', t, e⟩ := go hx dj ⟨w, e3⟩
    exact ⟨i, j, g', rfl, by rw [hx.length]; exact e1, t, e⟩
  · cases h
theorem putF_lst {x y : PyData} : ∀ n z, putF' x y n = some z → ∃ xs ys, n = .list xs ∧ z.1 = .list ys := fun n z h => by
  cases n with
  | list xs =>
    simp only [putF'] at h
    split at h
    · obtain ⟨j, e1, e2⟩ := Option.bind_eq_some_iff.mp h
      obtain ⟨w, e3, e4⟩ := Option.map_eq_some_iff.mp e2
      exact ⟨xs, _, rfl, by rw [← e4]⟩
    · cases h
  | _ => cases h
theorem put_fin {i k k0 : Nat} {l : Bool} {d x y : PyData} {js : List PyData} {z : PyData × EnvD} {T g : As} {env1 : EnvD} {σ : L2.St} {H0 H : Hp} {fps0 fps : Nat → As} {u v : V} {a : Addr} {Q : Hp → Prop}
    (I : SOk G.K G.L (or' g T) env1 σ H fps) (st : Stp T H0 fps0 (or' g T) H fps) (dj : Dis g T) (hs : env1[i]? = some (.sv l k0 d)) (hv : σ[i]? = some (some v)) (hp : PathV H v js (.ref a))
    (hr : alterAt env1 i l k0 d (k + 1) js (putF' x y) = some z) (hu : Rep G.K (fr (or' g T) H fps) H k u y g) (q : ∀ H', TOut G T H0 fps0 σ z.2 H' → Q H') : ∃ n, x = .int n ∧ rSetL (.ref a) (.int n) u H Q := by
  unfold alterAt at hr
  split at hr
  · rename_i e0
    subst e0
    obtain ⟨r, r1, r2⟩ := Option.map_eq_some_iff.mp hr
    cases r2
    obtain ⟨w, w1, w2, w3⟩ := I.slot i l _ d hs
    rw [hv] at w1
    cases w1
    obtain ⟨vs, xs, ys, gx, a1, a2, a3, a4, a5, a6, a7, a8⟩ := Rep.alter w2 r1 hp putF_lst

    have hm : putF' x y (.list xs) = some (.list ys, r.2) := a3
    have gi : ∀ b, fps i b → ¬ g b := fun b x y => I.disT i b x (.inl y)
    obtain ⟨ni, nj, g', b1, b2, b3, b4⟩ := put_core a4 hu (fun b x y => gi b (a7 b x) y) hm
    have na : ∀ b, g' b → b ≠ a := fun b z e => by
      subst e
      rcases b4 b z with z | z
      · exact a6 z
      · exact gi b a5 z
    refine ⟨ni, b1, a, vs, ni, nj, rfl, rfl, a1, b2, q _ ?_⟩
    obtain ⟨fp', c1, c2⟩ := a8 (fr (or' g T) H fps) (upd H a (.lst (vs.set nj u))) _ g' (Le.refl _) upd_same (fun b _ nb _ => upd_ne nb) (b3.imp fun v d f s rr => rr.keep _ (Le.refl _) fun b hb => upd_ne (na b (s b hb))) (fun z => na a z rfl) fun b x y => by
      rcases b4 b x with z | z
      · exact z
      · exact absurd z (gi b y)
    obtain ⟨J, le, dT, kp⟩ := I.alter hs hv a5 dj (f' := none') (fp' := fp') (fun b z => by
      rcases z with z | z
      · rcases (c2 b).mp z with z | z
        · exact (b4 b z).imp (a7 b) id
        · exact .inl z.1
      · exact z.elim) (fun b x y => y.elim) c1
    rw [or_none] at J le
    exact ⟨_, J, ⟨fun b hb => (kp b hb).trans (st.aside b hb), st.le.trans le⟩⟩
  · cases hr
end
end Fx
set_option Elab.async false
set_option linter.all false
set_option maxRecDepth 100000
/-! M17: targets, what is walked, statements, loops. -/
namespace Fx
open PySem PySem.Spec PyProof.Rows L2
/-! ### targets -/
/-- what may be stored -/
def isSto (Γ : Gam) (x : Str) : Bool := match Γ.sc.names.lookup x with
  | some .local => true
  | some .cell => Γ.st
  | _ => false
mutual
def chkTg (Γ : Gam) : Tg → Expr → Bool
  | .nm i, .Name x _ => decide (Γ.N[i]? = some x) && isSto Γ x
  | .tp ts, .Tuple es _ _ => chkTgs Γ ts es
  | _, _ => false
def chkTgs (Γ : Gam) : Tgs → List Expr → Bool
  | .nil, [] => true
  | .cons t ts, e :: es => chkTg Γ t e && chkTgs Γ ts es
  | _, _ => false
end
mutual
def Tg.slots : Tg → List Nat
  | .nm i => [i]
  | .tp ts => ts.slots
def Tgs.slots : Tgs → List Nat
  | .nil => []
  | .cons t ts => t.slots ++ ts.slots
end
/-- elsewhere the slots' values stand -/
def Same (is : List Nat) (σ σ' : L2.St) : Prop := σ'.length = σ.length ∧ ∀ j, j ∉ is → σ'[j]? = σ[j]?
theorem Same.refl (is : List Nat) (σ : L2.St) : Same is σ σ := ⟨rfl, fun _ _ => rfl⟩
theorem Same.trans {is js : List Nat} {a b c : L2.St} (h : Same is a b) (k : Same js b c) : Same (is ++ js) a c := ⟨k.1.trans h.1, fun j n => by
  simp only [List.mem_append, not_or] at n
  exact (k.2 j n.2).trans (h.2 j n.1)⟩
def tG (G : Gh) (tg : Tg) : TG := fun v σ H Q => ∃ T env fps d env', SOk G.K G.L T env σ H fps ∧ Dat G.K (fr T H fps) v d ∧ bindT tg d env = some env' ∧ ∀ σ' fps', SOk G.K G.L T env' σ' H fps' → Le (fr T H fps) (fr T H fps') → Same tg.slots σ σ' → Q σ' H
def tGs (G : Gh) (ts : Tgs) : TGs := fun vs σ H Q => ∃ T env fps ds env', SOk G.K G.L T env σ H fps ∧ DatL G.K (fr T H fps) vs ds ∧ bindTs ts ds env = some env' ∧ ∀ σ' fps', SOk G.K G.L T env' σ' H fps' → Le (fr T H fps) (fr T H fps') → Same ts.slots σ σ' → Q σ' H
section
variable {Γ : Gam} {G : Gh} {X : Cx}
theorem _root_.L2.PG.weaken {X : Cx} {e : Expr} {t t' : TG} (h : PG X e t) (w : ∀ v σ H Q, t' v σ H Q → t v σ H Q) : PG X e t' := ⟨fun pins s σ H v u Q I r q => h.run pins s σ H v u Q I r (w v σ H Q q)⟩
theorem _root_.L2.PGs.weaken {X : Cx} {e : List Expr} {t t' : TGs} (h : PGs X e t) (w : ∀ v σ H Q, t' v σ H Q → t v σ H Q) : PGs X e t' := ⟨fun pins s σ H v u Q I r q => h.run pins s σ H v u Q I r (w v σ H Q q)⟩
theorem setS_ok {env env' : EnvD} {i k : Nat} {d : PyData} (h : setS env i k d = some env') : i < env.length ∧ env' = env.set i (.sv false k d) := by
  unfold setS at h
  split at h
  · cases h
  · rename_i x hx hn
    cases h
    exact ⟨by rw [List.getElem?_eq_some_iff] at hn; exact hn.1, rfl⟩
  · cases h
theorem sto_ok (ok : Ok Γ G X) {x : Str} (h : isSto Γ x = true) : Loc X.env.scope x ∧ (X.fn x = true ∨ X.env.scope.names.lookup x = some .local) := by
  unfold isSto at h
  rw [ok.sc]
  split at h
  · rename_i e
    exact ⟨.inl e, .inr e⟩
  · rename_i e
    exact ⟨.inr e, .inl (ok.cel x h)⟩
  · cases h
theorem asg_cons {e : Expr} {es : List Expr} {env : PySem.Env} (h : noStar1 e = true) : assignEach (e :: es) env = (false, assign e env) :: assignEach es env := by
  cases e <;> first | rfl | cases h
theorem asg_len {es : List Expr} {env : PySem.Env} (h : noStar es = true) : (assignEach es env).length = es.length ∧ (assignEach es env).findIdx? (·.1) = none := by
  induction es with
  | nil => exact ⟨rfl, rfl⟩
  | cons e es ih =>
    have h : noStar1 e = true ∧ noStar es = true := by simpa [noStar] using h
    obtain ⟨h1, h2⟩ := ih h.2
    rw [asg_cons h.1]
    refine ⟨by simp [h1], ?_⟩
    rw [List.findIdx?_cons, h2]
    rfl
theorem Same.set {i : Nat} {σ : L2.St} {v : Option V} : Same [i] σ (σ.set i v) := ⟨by simp, fun j n => by
  rw [List.getElem?_set_ne]
  intro e
  exact n (by simp [e])⟩
theorem chkTg_star {t : Tg} {e : Expr} (h : chkTg Γ t e = true) : noStar1 e = true := by
  cases e <;> first | rfl | (cases t <;> simp [chkTg] at h)
mutual
theorem snd_G (ok : Ok Γ G X) : ∀ (t : Tg) (e : Expr), chkTg Γ t e = true → PG X e (tG G t)
  | .nm i, e, h => by
    cases e <;> first | (simp [chkTg] at h; done) | skip
    rename_i x pos
    simp only [chkTg, Bool.and_eq_true, decide_eq_true_eq] at h
    obtain ⟨h1, h2⟩ := sto_ok ok h.2
    refine (pg_name (i := i) (by rw [ok.hN]; exact ok.nd) (by rw [ok.hN]; exact h.1) h1 h2).weaken fun v σ H Q ⟨T, env, fps, d, env', I, hd, hb, q⟩ => ?_
    simp only [bindT] at hb
    obtain ⟨hi, rfl⟩ := setS_ok hb
    have e0 : or' none' T = T := or_none T
    obtain ⟨J, le⟩ := SOk.set (f := none') (v := v) (k := 0) (d := d) (by rw [e0]; exact I) hi (by rw [e0]; exact ⟨rfl, hd⟩) (dis_none _)
    rw [e0] at le
    exact q _ _ J le Same.set
  | .tp ts, e, h => by
    cases e <;> first | (simp [chkTg] at h; done) | skip
    rename_i es k pos
    have h : chkTgs Γ ts es = true := by simpa [chkTg] using h
    obtain ⟨p1, p2⟩ := snd_Gs ok ts es h
    obtain ⟨a1, a2⟩ := asg_len (env := X.env) p2
    have both : PG X (.Tuple es k pos) (fun v σ H Q => gTup X.K es.length (tGs G ts) v σ H Q ∨ gUnl X.K es.length (tGs G ts) v σ H Q) := ⟨fun pins s σ H v u Q I r q => q.elim (fun q => (pg_tup ok.calm p1 a1 a2).run pins s σ H v u Q I r q) fun q => (pg_unl ok.calm p1 a1 a2).run pins s σ H v u Q I r q⟩
    refine both.weaken fun v σ H Q ⟨T, env, fps, d, env', I, hd, hb, q⟩ => ?_
    have fin : ∀ {ds : List PyData} {xs : List V}, bindTs ts ds env = some env' → DatL G.K (fr T H fps) xs ds → xs.length = es.length ∧ tGs G ts xs σ H Q := fun {ds xs} hb t => by
      refine ⟨?_, T, env, fps, ds, env', I, t, hb, q⟩
      have hl : ∀ {ts : Tgs} {es : List Expr} {ds : List PyData} {env env' : EnvD}, chkTgs Γ ts es = true → bindTs ts ds env = some env' → ds.length = es.length := by
        intro ts es
        induction es generalizing ts with
        | nil =>
          intro ds env env' h1 h2
          cases ts with
          | nil => cases ds with
            | nil => rfl
            | cons _ _ => simp [bindTs] at h2
          | cons _ _ => simp [chkTgs] at h1
        | cons e es ih =>
          intro ds env env' h1 h2
          cases ts with
          | nil => simp [chkTgs] at h1
          | cons t ts =>
            cases ds with
            | nil => simp [bindTs] at h2
            | cons d ds =>
              simp only [bindTs] at h2
              obtain ⟨e1, h3, h4⟩ := Option.bind_eq_some_iff.mp h2
              simp only [chkTgs, Bool.and_eq_true] at h1
              simp [ih h1.2 h4]
      rw [t.length]
      exact hl h hb
    cases d <;> simp only [bindT] at hb <;> first | cases hb | skip
    · cases hd with
      | lst hs t =>
        obtain ⟨f1, f2⟩ := fin hb t
        exact .inr ⟨_, _, rfl, by rw [ok.hK]; exact hid_le.sqL hs, f1, f2⟩
    · cases hd with
      | tup hs t =>
        obtain ⟨f1, f2⟩ := fin hb t
        exact .inl ⟨_, _, rfl, by rw [ok.hK]; exact hid_le.sqT hs, f1, f2⟩
theorem snd_Gs (ok : Ok Γ G X) : ∀ (ts : Tgs) (es : List Expr), chkTgs Γ ts es = true → PGs X es (tGs G ts) ∧ noStar es = true
  | .nil, [], _ => ⟨pgs_nil.weaken fun vs σ H Q ⟨T, env, fps, ds, env', I, hd, hb, q⟩ => by
      cases ds with
      | nil =>
        cases hd
        cases hb
        exact ⟨rfl, q σ fps I (Le.refl _) (Same.refl _ _)⟩
      | cons _ _ => simp [bindTs] at hb, rfl⟩
  | .nil, _ :: _, h => by simp [chkTgs] at h
  | .cons _ _, [], h => by simp [chkTgs] at h
  | .cons t ts, e :: es, h => by
    have h : chkTg Γ t e = true ∧ chkTgs Γ ts es = true := by simpa [chkTgs] using h
    have hs := chkTg_star h.1
    obtain ⟨p1, p2⟩ := snd_Gs ok ts es h.2
    refine ⟨(pgs_cons (snd_G ok t e h.1) p1 (by rw [asg_cons hs]; rfl)).weaken fun vs σ H Q ⟨T, env, fps, ds, env', I, hd, hb, q⟩ => ?_, by
      simp only [noStar, List.all_cons, Bool.and_eq_true]; exact ⟨hs, p2⟩⟩
    cases ds with
    | nil => simp [bindTs] at hb
    | cons d ds =>
      cases hd with
      | cons h1 h2 =>
        simp only [bindTs] at hb
        obtain ⟨e1, b1, b2⟩ := Option.bind_eq_some_iff.mp hb
        refine ⟨_, _, rfl, T, env, fps, d, e1, I, h1, b1, fun σ1 fps1 I1 le1 s1 => ⟨T, e1, fps1, ds, env', I1, h2.mono le1, b2, fun σ2 fps2 I2 le2 s2 => q σ2 fps2 I2 (le1.trans le2) (s1.trans s2)⟩⟩
end
/-! ### what is walked -/
def ItOk (K : PySem.W.Frag) (F : Hp) (J : L2.It) (ds : List PyData) : Prop := ∃ vs, DatL K F vs ds ∧ ∀ H, Le F H → (∀ i, vs.length ≤ i → J.stop i H) ∧ (∀ i, i < vs.length → J.go i H ∧ ∀ x H', J.yld i H x H' → H' = H ∧ vs[i]? = some x)
def tI (G : Gh) (f : EnvD → Rs (List PyData × EnvD)) : TI := fun σ H R => ∃ T env fps, SOk G.K G.L T env σ H fps ∧ Out (f env) (fun r => ∀ J H1 fps1, SOk G.K G.L T r.2 σ H1 fps1 → Stp T H fps T H1 fps1 → ItOk G.K (fr T H1 fps1) J r.1 → R J H1) (XW G T H fps)
theorem itl_ok {K : PySem.W.Frag} {F : Hp} {a : Addr} {vs : List V} {ds : List PyData} (h : SqL K F a vs) (t : DatL K F vs ds) : ItOk K F (Itl K a) ds := by
  refine ⟨vs, t, fun H le => ⟨fun i hi => ⟨vs, le.sqL h, hi⟩, fun i hi => ⟨⟨vs, vs[i], le.sqL h, by simp [hi]⟩, fun x H' y => ⟨y.1, y.2 vs (le.sqL h)⟩⟩⟩⟩
theorem itt_ok {K : PySem.W.Frag} {F : Hp} {a : Addr} {vs : List V} {ds : List PyData} (h : SqT K F a vs) (t : DatL K F vs ds) : ItOk K F (Itt K a) ds := by
  refine ⟨vs, t, fun H le => ⟨fun i hi => ⟨vs, le.sqT h, hi⟩, fun i hi => ⟨⟨vs, vs[i], le.sqT h, by simp [hi]⟩, fun x H' y => ⟨y.1, y.2 vs (le.sqT h)⟩⟩⟩⟩
theorem itr_ok {K : PySem.W.Frag} {F : Hp} (lo : Int) (n : Nat) : ItOk K F (Itr lo n) ((List.range n).map fun (i : Nat) => PyData.int (lo + (i : Int))) := by
  refine ⟨(List.range n).map fun (i : Nat) => V.int (lo + (i : Int)), ?_, fun H le => ⟨fun i hi => by show n ≤ i; simpa using hi, fun i hi => ?_⟩⟩
  · have : ∀ is : List Nat, DatL K F (is.map fun (i : Nat) => V.int (lo + (i : Int))) (is.map fun (i : Nat) => PyData.int (lo + (i : Int))) := fun is => by
      induction is with
      | nil => exact .nil
      | cons i is ih => exact .cons (.int _) ih
    exact this _
  · have hi : i < n := by simpa using hi
    refine ⟨hi, fun x H' y => ⟨y.1, ?_⟩⟩
    rw [y.2]
    simp [hi]
theorem i_e {tg ax : Expr} {e : E} (ok : Ok Γ G X) (h : PEk G X G.c e ax) : PI X tg ax (tI G (evI G.c (.e e))) := by
  refine ⟨fun pins s σ H R J ⟨T, env, fps, I, hq⟩ => ?_⟩
  simp only [evI] at hq
  have main : ∀ {r : PyData × EnvD}, Out ((Rs.of (itemsD r.1)).bind fun xs => .ok (xs, r.2)) (fun r => ∀ J H1 fps1, SOk G.K G.L T r.2 σ H1 fps1 → Stp T H fps T H1 fps1 → ItOk G.K (fr T H1 fps1) J r.1 → R J H1) (XW G T H fps) →
      ∃ xs, (r.1 = .list xs ∨ r.1 = .tuple xs) ∧ ∀ J H1 fps1, SOk G.K G.L T r.2 σ H1 fps1 → Stp T H fps T H1 fps1 → ItOk G.K (fr T H1 fps1) J xs → R J H1 := fun {r} hr => by
    obtain ⟨xs, e1, hr⟩ := hr.of_bind
    obtain ⟨d, env1⟩ := r
    cases d <;> simp only [itemsD] at e1 <;> first | cases e1 | skip
    · exact ⟨_, .inl rfl, hr⟩
    · exact ⟨_, .inr rfl, hr⟩
  have hq := hq.bind
  by_cases hl : ∃ xs env1, ev G.c e 0 env = .ok (.list xs, env1)
  · obtain ⟨xs, env1, he⟩ := hl
    refine (pi_list (h.v 0)).run pins s σ H R J ⟨T, env, fps, I, ?_⟩
    rw [he] at hq ⊢
    obtain ⟨ys, e1, hr⟩ := main (r := (.list xs, env1)) hq
    have e1 : ys = xs := by
      rcases e1 with e1 | e1
      · cases e1; rfl
      · cases e1
    subst e1
    intro v H1 ho
    obtain ⟨fps1, I1, d1, st1⟩ := ho.zero
    cases d1 with
    | lst hd t => exact ⟨_, rfl, ⟨_, by rw [ok.hK]; exact hid_le.sqL hd⟩, by rw [ok.hK]; exact hr _ _ fps1 I1 st1 (itl_ok hd t)⟩
  · refine (pi_tup (h.v 0)).run pins s σ H R J ⟨T, env, fps, I, hq.mono (fun r hev hr v H1 ho => ?_) fun _ _ z => z⟩
    obtain ⟨d, env1⟩ := r
    obtain ⟨ys, e1, hr⟩ := main (r := (d, env1)) hr
    have e1 : d = .list ys ∨ d = .tuple ys := e1
    rcases e1 with e1 | e1
    · subst e1
      exact absurd ⟨_, _, hev⟩ hl
    · subst e1
      obtain ⟨fps1, I1, d1, st1⟩ := ho.zero
      cases d1 with
      | tup hd t => exact ⟨_, rfl, ⟨_, by rw [ok.hK]; exact hid_le.sqT hd⟩, by rw [ok.hK]; exact hr _ _ fps1 I1 st1 (itt_ok hd t)⟩
def Es.len : Es → Nat
  | .nil => 0
  | .cons _ es => es.len + 1
theorem evs_len {c : Orc} : ∀ {es : Es} {k : Nat} {env : EnvD} {r : List PyData × EnvD}, evs c es k env = .ok r → r.1.length = es.len
  | .nil, k, env, r, h => by
    simp only [evs] at h
    cases h; rfl
  | .cons e es, k, env, r, h => by
    simp only [evs] at h
    cases h1 : ev c e k env with
    | ok a =>
      rw [h1] at h
      have h : (evs c es k a.2).bind (fun z => .ok (a.1 :: z.1, z.2)) = .ok r := h
      cases h2 : evs c es k a.2 with
      | ok b =>
        rw [h2] at h
        cases h
        show b.1.length + 1 = _
        rw [evs_len h2]; rfl
      | ex x => rw [h2] at h; cases h
      | bad => rw [h2] at h; cases h
    | ex x => rw [h1] at h; cases h
    | bad => rw [h1] at h; cases h
theorem rangeD_1 {d : PyData} {xs : List PyData} (h : rangeD [d] = some xs) : ∃ j : Int, d = .int j ∧ -(2 ^ 62) ≤ j ∧ j < 2 ^ 62 ∧ xs = (List.range j.toNat).map fun (i : Nat) => PyData.int (i : Int) := by
  cases d <;> simp only [rangeD] at h <;> first | cases h | skip
  rename_i j
  split at h
  · rename_i hb
    cases h
    exact ⟨j, rfl, by omega, by omega, rfl⟩
  · cases h
theorem rangeD_2 {d e : PyData} {xs : List PyData} (h : rangeD [d, e] = some xs) : ∃ i j : Int, d = .int i ∧ e = .int j ∧ (-(2 ^ 62) ≤ i ∧ i < 2 ^ 62 ∧ -(2 ^ 62) ≤ j ∧ j < 2 ^ 62) ∧ xs = (List.range (j - i).toNat).map fun (n : Nat) => PyData.int (i + (n : Int)) := by
  cases d <;> cases e <;> simp only [rangeD] at h <;> first | cases h | skip
  rename_i i j
  split at h
  · rename_i hb
    cases h
    exact ⟨i, j, rfl, rfl, ⟨by omega, by omega, by omega, by omega⟩, rfl⟩
  · cases h
def nRange : Str := "range"
theorem i_rng1 {tg ax : Expr} {e : E} {p pos : Pos} (ok : Ok Γ G X) (h : PEk G X G.c e ax) (hs : noStar1 ax = true) (hg : isGl Γ nRange = true) : PI X tg (.Call (.Name nRange p) [ax] [] pos) (tI G (evI G.c (.range (.cons e .nil)))) := by
  obtain ⟨g1', g2'⟩ := ok.gl hg
  have pr := pi_range1 (tg := tg) (p := p) (pos := pos) (show Gl X "range" from g1') (ok.blt _ (by decide)) (pa_vals (G := G) (.cons h hs .nil) 0) (star_cons hs)
  refine ⟨fun pins s σ H R J ⟨T, env, fps, I, hq⟩ => pr.run pins s σ H R J ⟨T, env, fps, I, ?_⟩⟩
  simp only [evI] at hq
  refine hq.bind.mono (fun r hlen hr vs H1 ho => ?_) fun _ _ z => z
  have hlen := evs_len hlen
  obtain ⟨xs, e1, hr⟩ := hr.of_bind
  obtain ⟨fps1, g, I1, R1, dj, st⟩ := ho
  obtain ⟨h1, rfl⟩ := R1.dat0
  rw [or_none] at I1 h1 st
  obtain ⟨ds, env1⟩ := r
  cases h1 with
  | nil => cases hlen
  | cons d t =>
    cases t with
    | cons _ _ => simp [Es.len] at hlen
    | nil =>
      obtain ⟨j, ej, b1, b2, ex⟩ := rangeD_1 e1
      rw [ej] at d
      cases d.intV
      subst ex
      refine ⟨j, rfl, b1, b2, hr _ H1 fps1 I1 st ?_⟩
      have := itr_ok (K := G.K) (F := fr T H1 fps1) 0 j.toNat
      simpa using this
theorem i_rng2 {tg ax bx : Expr} {e e' : E} {p pos : Pos} (ok : Ok Γ G X) (h : PEk G X G.c e ax) (hs : noStar1 ax = true) (h' : PEk G X G.c e' bx) (hs' : noStar1 bx = true) (hg : isGl Γ nRange = true) : PI X tg (.Call (.Name nRange p) [ax, bx] [] pos) (tI G (evI G.c (.range (.cons e (.cons e' .nil))))) := by
  obtain ⟨g1', g2'⟩ := ok.gl hg
  have pr := pi_range2 (tg := tg) (p := p) (pos := pos) (show Gl X "range" from g1') (ok.blt _ (by decide)) (pa_vals (G := G) (.cons h hs (.cons h' hs' .nil)) 0) (by rw [star_cons hs, star_cons hs']; rfl) (star_cons hs')
  refine ⟨fun pins s σ H R J ⟨T, env, fps, I, hq⟩ => pr.run pins s σ H R J ⟨T, env, fps, I, ?_⟩⟩
  simp only [evI] at hq
  refine hq.bind.mono (fun r hlen hr vs H1 ho => ?_) fun _ _ z => z
  have hlen := evs_len hlen
  obtain ⟨xs, e1, hr⟩ := hr.of_bind
  obtain ⟨fps1, g, I1, R1, dj, st⟩ := ho
  obtain ⟨h1, rfl⟩ := R1.dat0
  rw [or_none] at I1 h1 st
  obtain ⟨ds, env1⟩ := r
  cases h1 with
  | nil => cases hlen
  | cons d t =>
    cases t with
    | nil => simp [Es.len] at hlen
    | cons d' t =>
      cases t with
      | cons _ _ => simp [Es.len] at hlen
      | nil =>
        obtain ⟨i, j, ei, ej, b1, ex⟩ := rangeD_2 e1
        rw [ei] at d
        rw [ej] at d'
        cases d.intV
        cases d'.intV
        subst ex
        exact ⟨i, j, rfl, b1, hr _ H1 fps1 I1 st (itr_ok _ _)⟩
end
end Fx
set_option Elab.async false
set_option linter.all false
set_option maxRecDepth 100000
/-! M18: statements. -/
namespace Fx
open PySem PySem.Spec PyProof.Rows L2
def NOut (G : Gh) (T : As) (H : Hp) (fps : Nat → As) (e : EnvD) (σ' : L2.St) (H' : Hp) : Prop := ∃ fps', SOk G.K G.L T e σ' H' fps' ∧ Stp T H fps T H' fps'
def ROut (G : Gh) (rk : Nat) (T : As) (H : Hp) (fps : Nat → As) (d : PyData) (e : EnvD) (v : V) (H' : Hp) : Prop := ∃ σ' fps' f, SOk G.K G.L (or' f T) e σ' H' fps' ∧ Rep G.K (fr (or' f T) H' fps') H' rk v d f ∧ Dis f T ∧ Stp T H fps (or' f T) H' fps'
def FlW (G : Gh) (rk : Nat) (T : As) (H : Hp) (fps : Nat → As) (D : Ends) : Fl → Prop
  | .nx e => ∀ σ' H', NOut G T H fps e σ' H' → D.nx σ' H'
  | .ct e => ∀ σ' H', NOut G T H fps e σ' H' → D.ct σ' H'
  | .bk e => ∀ σ' H', NOut G T H fps e σ' H' → D.bk σ' H'
  | .rt d e => ∀ v H', ROut G rk T H fps d e v H' → D.rt v H'
def tS (G : Gh) (rk : Nat) (f : EnvD → Rs Fl) : TS := fun D σ H => ∃ T env fps, SOk G.K G.L T env σ H fps ∧ Out (f env) (FlW G rk T H fps D) (XW G T H fps)
theorem NOut.more {G : Gh} {T : As} {H H1 H' : Hp} {fps fps1 : Nat → As} {e : EnvD} {σ' : L2.St} (h : NOut G T H1 fps1 e σ' H') (st : Stp T H fps T H1 fps1) : NOut G T H fps e σ' H' := by
  obtain ⟨f, I, s⟩ := h
  exact ⟨f, I, st.tr s⟩
theorem ROut.more {G : Gh} {rk : Nat} {T : As} {H H1 H' : Hp} {fps fps1 : Nat → As} {d : PyData} {e : EnvD} {v : V} (h : ROut G rk T H1 fps1 d e v H') (st : Stp T H fps T H1 fps1) : ROut G rk T H fps d e v H' := by
  obtain ⟨σ', f, g, I, R, dj, s⟩ := h
  exact ⟨σ', f, g, I, R, dj, st.tr s⟩
theorem FlW.more {G : Gh} {rk : Nat} {T : As} {H H1 : Hp} {fps fps1 : Nat → As} {D : Ends} : ∀ {f : Fl}, FlW G rk T H fps D f → Stp T H fps T H1 fps1 → FlW G rk T H1 fps1 D f
  | .nx _, h, st => fun σ' H' n => h σ' H' (n.more st)
  | .ct _, h, st => fun σ' H' n => h σ' H' (n.more st)
  | .bk _, h, st => fun σ' H' n => h σ' H' (n.more st)
  | .rt _ _, h, st => fun v H' n => h v H' (n.more st)
section
variable {Γ : Gam} {G : Gh} {X : Cx} {rk : Nat}
/-! ### suites -/
theorem ss_nil : PSs X [] (tS G rk (exs G.c rk .nil)) := pss_nil.weaken fun D σ H ⟨T, env, fps, I, h⟩ => by
  simp only [exs] at h
  exact (show ∀ σ' H', NOut G T H fps env σ' H' → D.nx σ' H' from h) σ H ⟨fps, I, Stp.refl _ _ _⟩
theorem ss_cons {s : S} {ss : Ss} {st : Stmt} {sts : List Stmt} (h1 : PS X st (tS G rk (exS G.c rk s))) (h2 : PSs X sts (tS G rk (exs G.c rk ss))) : PSs X (st :: sts) (tS G rk (exs G.c rk (.cons s ss))) := (pss_cons h1 h2).weaken fun D σ H ⟨T, env, fps, I, h⟩ => by
  simp only [exs] at h
  refine ⟨T, env, fps, I, h.bind.mono (fun f _ hf => ?_) fun _ _ z => z⟩
  cases f with
  | nx e =>
    intro σ' H' n
    obtain ⟨fps', I', st'⟩ := n
    exact ⟨T, e, fps', I', hf.mono (fun f _ w => w.more st') fun _ _ z => z.step0 st'⟩
  | _ => exact hf
/-! ### small ones -/
theorem s_pas {pos : Pos} : PS X (.Pass pos) (tS G rk (exS G.c rk .pas)) := ps_pass.weaken fun D σ H ⟨T, env, fps, I, h⟩ => by
  simp only [exS] at h
  exact (show ∀ σ' H', NOut G T H fps env σ' H' → D.nx σ' H' from h) σ H ⟨fps, I, Stp.refl _ _ _⟩
theorem s_doc {x : Str} {j : Nat} {pos pos' : Pos} : PS X (.Expr (.Constant (.str x) j pos) pos') (tS G rk (exS G.c rk .pas)) := ps_doc.weaken fun D σ H ⟨T, env, fps, I, h⟩ => by
  simp only [exS] at h
  exact (show ∀ σ' H', NOut G T H fps env σ' H' → D.nx σ' H' from h) σ H ⟨fps, I, Stp.refl _ _ _⟩
theorem s_brk {pos : Pos} : PS X (.Break pos) (tS G rk (exS G.c rk .brk)) := ps_break.weaken fun D σ H ⟨T, env, fps, I, h⟩ => by
  simp only [exS] at h
  exact (show ∀ σ' H', NOut G T H fps env σ' H' → D.bk σ' H' from h) σ H ⟨fps, I, Stp.refl _ _ _⟩
theorem s_cont {pos : Pos} : PS X (.Continue pos) (tS G rk (exS G.c rk .cont)) := ps_continue.weaken fun D σ H ⟨T, env, fps, I, h⟩ => by
  simp only [exS] at h
  exact (show ∀ σ' H', NOut G T H fps env σ' H' → D.ct σ' H' from h) σ H ⟨fps, I, Stp.refl _ _ _⟩
theorem s_nev {st : Stmt} : PS X st (tS G rk (exS G.c rk .nev)) := ps_never.weaken fun D σ H ⟨T, env, fps, I, h⟩ => by
  simp only [exS] at h
  exact h
theorem s_retN {pos : Pos} : PS X (.Return none pos) (tS G rk (exS G.c rk .retN)) := ps_retN.weaken fun D σ H ⟨T, env, fps, I, h⟩ => by
  simp only [exS] at h
  refine (show ∀ v H', ROut G rk T H fps .none env v H' → D.rt v H' from h) .non H ⟨σ, fps, none', by rw [or_none]; exact I, Rep.plain .non (.inl rfl), dis_none _, by rw [or_none]; exact Stp.refl _ _ _⟩
theorem s_ret {e : E} {ax : Expr} {pos : Pos} (h : PEk G X G.c e ax) : PS X (.Return (some ax) pos) (tS G rk (exS G.c rk (.ret e))) := (ps_ret (h.v rk)).weaken fun D σ H ⟨T, env, fps, I, hq⟩ => by
  simp only [exS] at hq
  refine ⟨T, env, fps, I, hq.bind.mono (fun r _ hr v H1 ho => ?_) fun _ _ z => z⟩
  obtain ⟨fps', f, J, R, dj, st⟩ := ho
  exact (show ∀ v H', ROut G rk T H fps r.1 r.2 v H' → D.rt v H' from hr) v H1 ⟨σ, fps', f, J, R, dj, st⟩
def noComp : Expr → Bool
  | .ListComp .. => false
  | .SetComp .. => false
  | .DictComp .. => false
  | _ => true
theorem sw_no {e : Expr} {t : Option Expr} {n : Nat} {env : PySem.Env} (h : noComp e = true) : swapsWith e t n env = pure false := by
  cases e <;> first | rfl | cases h
theorem VOut.drop {T : As} {H H' : Hp} {fps : Nat → As} {σ : L2.St} {k : Nat} {r : PyData × EnvD} {v : V} (h : VOut G T H fps σ k r v H') : NOut G T H fps r.2 σ H' := by
  obtain ⟨fps', f, I, R, dj, st⟩ := h
  obtain ⟨I', le⟩ := I.show
  exact ⟨fps', I', ⟨st.aside, st.le.trans le⟩⟩
theorem s_ex {e : E} {ax : Expr} {pos : Pos} (h : PEk G X G.c e ax) (hn : noComp ax = true) : PS X (.Expr ax pos) (tS G rk (exS G.c rk (.ex e))) := (ps_expr (h.v 0) (sw_no hn)).weaken fun D σ H ⟨T, env, fps, I, hq⟩ => by
  simp only [exS] at hq
  refine ⟨T, env, fps, I, hq.bind.mono (fun r _ hr v H1 ho => ?_) fun _ _ z => z⟩
  exact (show ∀ σ' H', NOut G T H fps r.2 σ' H' → D.nx σ' H' from hr) σ H1 ho.drop
theorem s_if {t : Tt} {a b : Ss} {tx : Expr} {as bs : List Stmt} {pos : Pos} (ht : PT X tx (tT G (evT G.c t))) (ha : PSs X as (tS G rk (exs G.c rk a))) (hb : PSs X bs (tS G rk (exs G.c rk b))) : PS X (.If tx as bs pos) (tS G rk (exS G.c rk (.iff t a b))) := (ps_if ht ha hb).weaken fun D σ H ⟨T, env, fps, I, hq⟩ => by
  simp only [exS] at hq
  refine ⟨T, env, fps, I, hq.bind.mono (fun r _ hr H1 ho => ?_) fun _ _ z => z⟩
  obtain ⟨fps1, I1, st1⟩ := ho
  obtain ⟨t, env1⟩ := r
  cases t with
  | true =>
    rw [if_pos rfl] at hr ⊢
    exact ⟨T, env1, fps1, I1, hr.mono (fun f _ w => w.more st1) fun _ _ z => z.step0 st1⟩
  | false =>
    rw [if_neg (by simp)] at hr ⊢
    exact ⟨T, env1, fps1, I1, hr.mono (fun f _ w => w.more st1) fun _ _ z => z.step0 st1⟩
/-! ### name = e -/
theorem nm_out {i k : Nat} {e : E} {D : Ends} {σ : L2.St} {H : Hp} (hq : tS G rk (exS G.c rk (.as (.nm i) k e)) D σ H) : tV G k (ev G.c e k) σ H fun v H1 => D.nx (σ.set i (some v)) H1 := by
  obtain ⟨T, env, fps, I, hq⟩ := hq
  simp only [exS] at hq
  refine ⟨T, env, fps, I, hq.bind.mono (fun r _ hr v H1 ho => ?_) fun _ _ z => z⟩
  obtain ⟨e', h1, h2⟩ := hr.of_bind
  obtain ⟨hi, rfl⟩ := setS_ok h1
  obtain ⟨fps', f, J, R, dj, st⟩ := ho
  obtain ⟨J', le⟩ := J.set hi R dj
  exact (show ∀ σ' H', NOut G T H fps _ σ' H' → D.nx σ' H' from h2) _ _ ⟨_, J', ⟨st.aside, st.le.trans le⟩⟩
theorem s_nm {i k : Nat} {e : E} {x : Str} {ax : Expr} {p pos : Pos} (ok : Ok Γ G X) (hi : Γ.N[i]? = some x) (hx : isSto Γ x = true) (h : PEk G X G.c e ax) (hn : noComp ax = true) : PS X (.Assign [.Name x p] ax pos) (tS G rk (exS G.c rk (.as (.nm i) k e))) := by
  obtain ⟨h1, h2⟩ := sto_ok ok hx
  exact (ps_set (i := i) (by rw [ok.hN]; exact ok.nd) (by rw [ok.hN]; exact hi) h1 (h.v k) (sw_no hn) h2).weaken fun D σ H hq => nm_out hq
/-- a, b, .. = e: not a display, or one of constants -/
def allFold (es : List Expr) : Bool := es.all (foldedForSure 8)
def tupOk (ts : List Expr) : Expr → Bool
  | .Tuple vs _ _ => !(ts.length == 2 || ts.length == 3) || allFold vs
  | _ => true
theorem sw_tup {ts : List Expr} {k : Nat} {p : Pos} {e : Expr} {env : PySem.Env} (h : tupOk ts e = true) : swappedStores [.Tuple ts k p] e env = pure none := by
  cases e <;> first | rfl | skip
  rename_i vs _ _
  unfold swappedStores
  simp only [pure_bind]
  by_cases c1 : (!(ts.length == 2 || ts.length == 3) || vs.length != ts.length || env.blockKind != .function) = true
  · rw [if_pos c1]
  · rw [if_neg c1]
    have h : (!(ts.length == 2 || ts.length == 3) || allFold vs) = true := h
    have h2 : vs.all (foldedForSure 8) = true := by
      rcases Bool.or_eq_true _ _ |>.mp h with z | z
      · rw [z] at c1; exact absurd rfl c1
      · exact z
    split
    · rfl
    · rename_i c
      split
      · rfl
      · first | rfl | (rw [if_pos h2])
theorem tup_out {ts : Tgs} {k : Nat} {e : E} {D : Ends} {σ : L2.St} {H : Hp} (hq : tS G rk (exS G.c rk (.as (.tp ts) k e)) D σ H) : tV G 0 (ev G.c e 0) σ H fun v H1 => tG G (.tp ts) v σ H1 D.nx := by
  obtain ⟨T, env, fps, I, hq⟩ := hq
  simp only [exS] at hq
  refine ⟨T, env, fps, I, hq.bind.mono (fun r _ hr v H1 ho => ?_) fun _ _ z => z⟩
  obtain ⟨e', h1, h2⟩ := hr.of_bind
  obtain ⟨fps', J, d, st⟩ := ho.zero
  exact ⟨T, r.2, fps', r.1, e', J, d, h1, fun σ' fps2 J2 le2 _ => (show ∀ σ' H', NOut G T H fps e' σ' H' → D.nx σ' H' from h2) σ' H1 ⟨fps2, J2, ⟨st.aside, st.le.trans le2⟩⟩⟩
theorem s_tp {ts : Tgs} {k : Nat} {e : E} {es : List Expr} {ax : Expr} {n : Nat} {p pos : Pos} (ok : Ok Γ G X) (ht : chkTgs Γ ts es = true) (h : PEk G X G.c e ax) (hw : tupOk es ax = true) : PS X (.Assign [.Tuple es n p] ax pos) (tS G rk (exS G.c rk (.as (.tp ts) k e))) := by
  have hg := snd_G ok (.tp ts) (.Tuple es n p) (by simpa [chkTg] using ht)
  refine (ps_asg (h.v 0) hg ?_ (sw_tup hw) rfl).weaken fun D σ H hq => tup_out hq
  cases ax <;> rfl
/-! ### a, b = x, y -/
def isLocal (Γ : Gam) (x : Str) : Bool := decide (Γ.sc.names.lookup x = some .local)
theorem kind_loc (ok : Ok Γ G X) {x : Str} (h : isLocal Γ x = true) : X.env.kindOf x = some .local ∧ X.env.scope.names.lookup x = some .local := by
  have : Γ.sc.names.lookup x = some .local := by simpa [isLocal] using h
  exact ⟨by show X.env.scope.names.lookup x = _; rw [ok.sc]; exact this, by rw [ok.sc]; exact this⟩
def isFun (Γ : Gam) : Bool := match Γ.sc.kind with
  | .function => true
  | _ => false
theorem blk_fun (ok : Ok Γ G X) (h : isFun Γ = true) : X.env.blockKind = .function ∧ X.env.scope.kind = .function := by
  have hk : X.env.scope.kind = .function := by
    rw [ok.sc]
    unfold isFun at h
    split at h
    · assumption
    · cases h
  exact ⟨by unfold Env.blockKind; rw [hk]; rfl, hk⟩
def parOk (Γ : Gam) (x y : Str) (px py : Pos) (vs : List Expr) : Bool := isFun Γ && isLocal Γ x && isLocal Γ y && (py.line == px.line) && !(x == y) && noStar vs && !(vs.all (foldedForSure 8)) && !(vs.all (constantsAlone 8))
theorem star_eq : ∀ {vs : List Expr}, noStar vs = true → (vs.any fun | .Starred .. => true | _ => false) = false
  | [], _ => rfl
  | v :: vs, h => by
    have h : noStar1 v = true ∧ noStar vs = true := by simpa [noStar] using h
    rw [List.any_cons, star_eq h.2, Bool.or_false]
    cases v <;> first | rfl | (have := h.1; cases this)
theorem sw_par (ok : Ok Γ G X) {x y : Str} {px py p q : Pos} {k k2 : Nat} {a b : Expr} (h : parOk Γ x y px py [a, b] = true) : swappedStores [.Tuple [.Name x px, .Name y py] k p] (.Tuple [a, b] k2 q) X.env = pure (some [x, y]) := by
  unfold parOk at h
  simp only [Bool.and_eq_true, Bool.not_eq_true'] at h
  obtain ⟨⟨⟨⟨⟨⟨⟨h1, h2⟩, h3⟩, h4⟩, h5⟩, h6⟩, h7⟩, h8⟩ := h
  obtain ⟨b1, _⟩ := blk_fun ok h1
  obtain ⟨k1, _⟩ := kind_loc ok h2
  obtain ⟨k3, _⟩ := kind_loc ok h3
  have hs := star_eq h6
  have hxy : (y == x) = false := by
    have : ¬ x = y := by simpa using h5
    simpa using fun e : y = x => this e.symm
  have h4' : py.line = px.line := by simpa using h4
  unfold swappedStores
  simp only [pure_bind]
  rw [b1]
  rw [if_neg (by simp), if_neg (by exact fun z => Bool.noConfusion (hs.symm.trans z))]
  simp only [List.filterMap_cons, List.filterMap_nil, k1, k3, Expr.pos, h4', List.head?_cons, Option.map_some, Option.getD_some, beq_self_eq_true, Bool.and_self, if_true]
  rw [if_neg (by simp [List.eraseDups_cons, hxy]), h7, h8]
  rfl
theorem s_par {i j ki kj : Nat} {a b : E} {x y : Str} {ax bx : Expr} {px py p q pos : Pos} {k k2 : Nat} (ok : Ok Γ G X) (hi : Γ.N[i]? = some x) (hj : Γ.N[j]? = some y) (hij : i ≠ j) (ha : PEk G X G.c a ax) (hb : PEk G X G.c b bx) (hw : parOk Γ x y px py [ax, bx] = true) :
    PS X (.Assign [.Tuple [.Name x px, .Name y py] k p] (.Tuple [ax, bx] k2 q) pos) (tS G rk (exS G.c rk (.par i j ki kj a b))) := by
  have hw' := hw
  unfold parOk at hw'
  simp only [Bool.and_eq_true, Bool.not_eq_true'] at hw'
  obtain ⟨⟨⟨⟨⟨⟨⟨h1, h2⟩, h3⟩, h4⟩, h5⟩, h6⟩, h7⟩, h8⟩ := hw'
  have hs : noStar1 ax = true ∧ noStar1 bx = true := by simpa [noStar] using h6
  refine (ps_par ok.calm (by rw [ok.hN]; exact ok.nd) (by rw [ok.hN]; exact hi) (by rw [ok.hN]; exact hj) hij (kind_loc ok h2).2 (kind_loc ok h3).2 (pa_cons (ha.v ki) (pa_cons (hb.v kj) pa_nil (star_cons hs.2)) (star_cons hs.1)) (sw_par ok hw) rfl).weaken fun D σ H ⟨T, env, fps, I, hq⟩ => ?_
  simp only [exS] at hq
  refine ⟨T, env, fps, I, hq.bind.mono (fun r _ hr v H1 ho => ?_) fun _ _ z => z⟩
  obtain ⟨fps1, f, I1, R1, dj1, st1⟩ := ho
  refine ⟨or' f T, r.2, fps1, I1, hr.bind.mono (fun z _ hz w H2 ho2 => ?_) fun _ _ z => z.step st1⟩
  obtain ⟨fps2, g, I2, R2, dj2, st2⟩ := ho2
  obtain ⟨e', h1, h2⟩ := hz.of_bind
  obtain ⟨e1, h3, h4⟩ := Option.bind_eq_some_iff.mp h1
  obtain ⟨hi', rfl⟩ := setS_ok h3
  obtain ⟨hj', rfl⟩ := setS_ok h4
  refine ⟨v, w, rfl, ?_⟩
  have e3 : or' g (or' f T) = or' f (or' g T) := by rw [← or_assoc', or_comm' g f, or_assoc']
  rw [e3] at I2 R2 st2
  obtain ⟨J1, le1⟩ := I2.set (k := ki) (v := v) (d := r.1) hi' (R1.keep _ st2.le fun b hb => st2.aside b (.inl hb)) fun b x y => y.elim (fun y => dj2 b y (.inl x)) fun y => dj1 b x y
  obtain ⟨J2, le2⟩ := J1.set (i := j) (k := kj) (v := w) (d := z.1) hj' (R2.keep _ le1 fun _ _ => rfl) fun b x y => dj2 b x (.inr y)
  exact (show ∀ σ' H', NOut G T H fps _ σ' H' → D.nx σ' H' from h2) _ _ ⟨_, J2, ⟨fun b hb => (st2.aside b (.inr hb)).trans (st1.aside b hb), st1.le.trans (st2.le.trans (le1.trans le2))⟩⟩
/-- a target that is no plain local -/
def anyNL (Γ : Gam) (ts : List Expr) : Bool := ts.any fun t => match t with
  | .Name x _ => !isLocal Γ x
  | _ => true
theorem fm_lt {α β : Type} {f : α → Option β} : ∀ {ts : List α}, (∃ t ∈ ts, f t = none) → (ts.filterMap f).length < ts.length
  | [], ⟨t, h, _⟩ => by cases h
  | t :: ts, ⟨u, h, e⟩ => by
    rw [List.filterMap_cons]
    rcases List.mem_cons.mp h with rfl | h
    · rw [e]
      exact Nat.lt_succ_of_le (List.length_filterMap_le f ts)
    · have := fm_lt ⟨u, h, e⟩
      cases f t <;> simp only [List.length_cons] <;> omega
theorem sw_cel (ok : Ok Γ G X) {ts : List Expr} {k : Nat} {p : Pos} {e : Expr} (h : anyNL Γ ts = true) : swappedStores [.Tuple ts k p] e X.env = pure none := by
  cases e <;> first | rfl | skip
  rename_i vs _ _
  unfold swappedStores
  simp only [pure_bind]
  by_cases c1 : (!(ts.length == 2 || ts.length == 3) || vs.length != ts.length || X.env.blockKind != .function) = true
  · rw [if_pos c1]
  · rw [if_neg c1]
    split
    · rfl
    · obtain ⟨t, ht, hn⟩ := List.any_eq_true.mp h
      rw [if_pos]
      rw [Bool.or_eq_true]
      left
      rw [bne_iff_ne]
      refine Nat.ne_of_lt (fm_lt ⟨t, ht, ?_⟩)
      cases t <;> first | rfl | skip
      rename_i x q
      have hl : isLocal Γ x = false := by simpa using hn
      have hk : (X.env.kindOf x == some .local) = false := by
        have e1 : X.env.kindOf x = Γ.sc.names.lookup x := by
          show X.env.scope.names.lookup x = _
          rw [ok.sc]
        rw [e1]
        have : ¬ Γ.sc.names.lookup x = some .local := by simpa [isLocal] using hl
        simpa using this
      show (if (X.env.kindOf x == some .local && _) = true then some x else none) = none
      rw [hk]
      rfl
theorem s_tp' {ts : Tgs} {k : Nat} {e : E} {es : List Expr} {ax : Expr} {n : Nat} {p pos : Pos} (ok : Ok Γ G X) (ht : chkTgs Γ ts es = true) (h : PEk G X G.c e ax) (hw : anyNL Γ es = true) : PS X (.Assign [.Tuple es n p] ax pos) (tS G rk (exS G.c rk (.as (.tp ts) k e))) := by
  have hg := snd_G ok (.tp ts) (.Tuple es n p) (by simpa [chkTg] using ht)
  refine (ps_asg (h.v 0) hg ?_ (sw_cel ok hw) rfl).weaken fun D σ H hq => tup_out hq
  cases ax <;> rfl
end
end Fx
set_option Elab.async false
set_option linter.all false
set_option maxRecDepth 100000
/-! M19: stores at places, loops. -/
namespace Fx
open PySem PySem.Spec PyProof.Rows L2
section
variable {Γ : Gam} {G : Gh} {X : Cx} {rk : Nat}
theorem sub_asg {o i : Expr} {pos : Pos} {env : PySem.Env} (h : noSlice i = true) (v : Value) : assign (.Subscript o i pos) env v = (do
      let ov ← holding [v] (eval o env)
      let iv ← holding [v, ov] (eval i env)
      standAt pos
      holding [v, ov, iv] (setItem ov iv v)
      release [v, ov, iv] []) := by
  cases i <;> first | rfl | cases h
theorem sub_aug {i : Expr} (h : noSlice i = true) (ov iv new : Value) : augStore i ov iv new = (do holding [new, ov, iv] (setItem ov iv new); release [new, ov, iv] []; pure .next) := by
  cases i <;> first | rfl | cases h
/-- o[x] = e, o a path of a slot -/
theorem s_put {i k : Nat} {ps : List P} {x : P} {e : E} {o xx ax : Expr} {p pos : Pos} (ok : Ok Γ G X) (hp : chkPath Γ i ps o = true) (hx : chkP Γ x xx = true) (hsl : noSlice xx = true) (h : PEk G X G.c e ax) : PS X (.Assign [.Subscript o xx p] ax pos) (tS G rk (exS G.c rk (.put i ps x k e))) := by
  refine (ps_asg (h.v k) (pg_sub (snd_path ok hp) (snd_P ok x xx hx) set_list (sub_asg hsl)) (by cases ax <;> rfl) (by cases ax <;> rfl) rfl).weaken fun D σ H ⟨T, env, fps, I, hq⟩ => ?_
  simp only [exS] at hq
  refine ⟨T, env, fps, I, hq.bind.mono (fun r _ hr v H1 ho => ?_) fun _ _ z => z⟩
  obtain ⟨z, h1, h2⟩ := hr.of_bind
  obtain ⟨⟨j0, y⟩, e1, e2⟩ := Option.bind_eq_some_iff.mp h1
  unfold alterS at e2
  obtain ⟨js, e3, e4⟩ := Option.bind_eq_some_iff.mp e2
  obtain ⟨fps1, g, I1, R1, dj, st⟩ := ho
  split at e4
  · rename_i l k0 d hs
    obtain ⟨v0, v1, v2, v3⟩ := I1.slot i l k0 d hs
    have e4' := e4
    unfold alterAt at e4'
    split at e4'
    · rename_i ek
      obtain ⟨r', r1, r2⟩ := Option.map_eq_some_iff.mp e4'
      obtain ⟨n, zz, n1, n2, n3⟩ := alterD_walk r1
      refine ⟨_, r.2, fps1, I1, js, l, k0, d, n, e3, hs, by omega, n1, fun v' w hv hpv => ?_⟩
      rw [v1] at hv
      cases hv
      refine ⟨_, r.2, fps1, I1, j0, y, e1, fun u fp hr' _ _ => ?_⟩
      obtain ⟨xs, ys, en, _⟩ := putF_lst n zz n2
      subst en
      subst ek
      obtain ⟨gw, q1, q2⟩ := Rep.walk v2 n1 hpv
      obtain ⟨a, vs, ea, _⟩ := list_ty q1 hid_le
      subst ea
      obtain ⟨m, em, q⟩ := put_fin I1 st dj hs v1 hpv e4 R1 (Q := fun H' => D.nx σ H') fun H' ho => (show ∀ σ' H', NOut G T H fps z.2 σ' H' → D.nx σ' H' from h2) σ H' ho
      have em : y = .int m := em
      subst em
      have : u = .int m := (rep_noncont hr' rfl).intV
      subst this
      exact q
    · cases e4'
  · cases e4
theorem ipD_nc {o : B2} {a b c : PyData} (h : ipD o a b = some c) : isCont a = false ∧ isCont b = false := by
  unfold ipD at h
  split at h
  · rename_i ho
    revert ho
    cases a <;> cases o <;> cases b <;> simp [ipOk, isCont]
  · cases h
theorem rIp_ok {K : PySem.W.Frag} {F H : Hp} {x : V} {d : PyData} (h : Dat K F x d) : Shl K F F x d := Shl.of (Le.refl _) h
/-- x op= y, of ints or texts -/
def rIp (K : PySem.W.Frag) (o : B2) : TIp := fun x y H Q => ∃ F d e r, Dat K F x d ∧ Dat K F y e ∧ ipD o d e = some r ∧ ∀ z, (∀ F', Dat K F' z r) → isCont r = false → Q z H
theorem ip_b2 (o : B2) : PIp X (bop o) (rIp X.K o) := by
  intro pins s σ H x y v u Q I rx ry h
  obtain ⟨F, d, e, r, hx, hy, hr, q⟩ := h
  unfold ipD at hr
  split at hr
  · rename_i ho
    cases o <;> cases d <;> cases e <;> simp only [ipOk] at ho <;> first | cases ho | skip
    · cases hx.intV
      cases hy.intV
      simp only [b2] at hr
      cases hr
      exact iop_add pins s σ H _ _ v u Q I rx ry ⟨_, _, rfl, rfl, q _ (fun _ => .int _) rfl⟩
    · cases hx.strV
      cases hy.strV
      simp only [b2] at hr
      split at hr
      · rename_i hl
        cases hr
        exact iop_add_str pins s σ H _ _ v u Q I rx ry ⟨_, _, rfl, rfl, hl, q _ (fun _ => .str _) rfl⟩
      · cases hr
    · cases hx.intV
      cases hy.intV
      simp only [b2] at hr
      cases hr
      exact iop_sub pins s σ H _ _ v u Q I rx ry ⟨_, _, rfl, rfl, q _ (fun _ => .int _) rfl⟩
    · cases hx.intV
      cases hy.intV
      simp only [b2] at hr
      split at hr
      · rename_i hb
        cases hr
        obtain ⟨t, rfl⟩ := rx
        obtain ⟨t', rfl⟩ := ry
        exact imul_int ⟨.int _, H, I.tok _, ⟨_, rfl⟩, q _ (fun _ => .int _) rfl⟩ (mulOk hb)
      · cases hr
    · rename_i i j
      cases hx.intV
      cases hy.intV
      simp only [b2] at hr
      have hpos := of_decide_eq_true ho
      split at hr
      · rename_i hb
        cases hr
        refine iop_fdivW pins s σ H _ _ v u Q I rx ry ⟨i, j, rfl, rfl, ⟨hpos, hb.2⟩, ?_⟩
        show Q (.int (i / j)) H
        rw [← Int.fdiv_eq_ediv_of_nonneg (b := j) i (by omega)]
        exact q _ (fun _ => .int _) rfl
      · cases hr
    · rename_i i j
      cases hx.intV
      cases hy.intV
      simp only [b2] at hr
      have hpos := of_decide_eq_true ho
      split at hr
      · rename_i hb
        cases hr
        refine iop_mod pins s σ H _ _ v u Q I rx ry ⟨i, j, rfl, rfl, hpos, ?_⟩
        show Q (.int (i % j)) H
        rw [← Int.fmod_eq_emod_of_nonneg (b := j) i (by omega)]
        exact q _ (fun _ => .int _) rfl
      · cases hr
  · cases hr
theorem get_lst : PGet X (rIxL X.K) := by
  intro pins s σ H o i ov iv Q I ro ri h
  obtain ⟨p, xs, k, z, rfl, rfl, hq, he, q⟩ := h
  cases ro
  obtain ⟨t, rfl⟩ := ri
  obtain ⟨its, r, pl, hz⟩ := I.list hq
  obtain ⟨j, a1, a2, a3, a4, a5⟩ := atI_get he
  obtain ⟨w, ew, rw'⟩ := r.get a2
  have len := r.length
  have l63 := line63
  by_cases pos0 : 0 ≤ k
  · have ej : k.toNat = j := by
      rw [seqIndex_of pos0 a5] at a1
      exact Option.some.inj a1
    exact PySem.wpAny_getItem_list pl.isList pos0 (by omega) (by rw [ej]; simpa using ew) ⟨z, H, I, rw', q⟩
  · have ej : (k + (its.toArray.size : Int)).toNat = j := by
      rw [seqIndex_neg (by omega) a4] at a1
      rw [List.size_toArray, ← len]
      exact Option.some.inj a1
    exact wpAny_getItem_list_neg pl.isList (by omega) (by rw [List.size_toArray]; omega) (by omega) (by rw [ej]; simpa using ew) ⟨z, H, I, rw', q⟩
/-- o[x] op= e -/
theorem s_augp {i : Nat} {ps : List P} {x e : P} {o : B2} {ox xx ex : Expr} {p pos : Pos} (ok : Ok Γ G X) (hp : chkPath Γ i ps ox = true) (hx : chkP Γ x xx = true) (hsl : noSlice xx = true) (he : chkP Γ e ex = true) : PS X (.AugAssign (.Subscript ox xx p) (bop o) ex pos) (tS G rk (exS G.c rk (.augp i ps x o e))) := by
  refine (ps_augS (snd_path ok hp) (snd_P ok x xx hx) get_lst (snd_P ok e ex he) (ip_b2 o) set_list (sub_aug hsl)).weaken fun D σ H ⟨T, env, fps, I, hq⟩ => ?_
  simp only [exS] at hq
  obtain ⟨z, h1, h2⟩ := hq.of_bind
  obtain ⟨⟨j0, j⟩, e1, e2⟩ := Option.bind_eq_some_iff.mp h1
  obtain ⟨⟨y0, y⟩, e3, e4⟩ := Option.bind_eq_some_iff.mp e2
  unfold augS at e4
  obtain ⟨js, e5, e6⟩ := Option.bind_eq_some_iff.mp e4
  split at e6
  · rename_i l k0 d hs
    obtain ⟨n, n1, e7⟩ := Option.bind_eq_some_iff.mp e6
    obtain ⟨a0, n2, e8⟩ := Option.bind_eq_some_iff.mp e7
    obtain ⟨w0, n3, e9⟩ := Option.bind_eq_some_iff.mp e8
    obtain ⟨v0, v1, v2, v3⟩ := I.slot i l k0 d hs
    have e9' := e9
    unfold alterAt at e9'
    split at e9'
    · rename_i ek
      subst ek
      obtain ⟨r', r1, r2⟩ := Option.map_eq_some_iff.mp e9'
      obtain ⟨n', zz, m1, m2, m3⟩ := alterD_walk r1
      rw [n1] at m1
      cases m1
      obtain ⟨xs, ys, en, _⟩ := putF_lst _ _ m2
      subst en
      refine ⟨T, env, fps, I, js, l, _, d, _, e5, hs, by omega, n1, fun v' w hv hpv => ?_⟩
      rw [v1] at hv
      cases hv
      refine ⟨T, env, fps, I, j0, j, e1, fun u fp hu _ _ => ?_⟩
      obtain ⟨gw, q1, q2⟩ := Rep.walk v2 n1 hpv
      cases j <;> first | (simp [putF'] at m2; done) | skip
      rename_i jj
      have : u = .int jj := (rep_noncont hu rfl).intV
      subst this
      rcases q1 with ⟨z1, z2, z3⟩ | ⟨a, vs, ds, g', ea, ed, z1, z2, z3, rfl⟩ | ⟨a, vs, ds, g', ea, ed, z1, z2, z3, rfl⟩ | ⟨a, vs, ds, g', ea, ed, z1, z2, z3, rfl⟩
      · cases z1
      · cases ed
        subst ea
        obtain ⟨w1, f, b1, b2, b3⟩ := z2.atI (show L2.atI xs jj = some a0 from n2)
        refine ⟨a, vs, jj, w1, rfl, rfl, .inl (.inl z1), b1, T, env, fps, I, y0, y, e3, fun yy fp' hy _ _ => ?_⟩
        have hnc := ipD_nc n3
        refine ⟨fr T H fps, a0, y, w0, by rw [ok.hK]; exact b2.2, by rw [ok.hK]; exact rep_noncont hy hnc.2, n3, fun zv hz hnz => ?_⟩
        have e0 : or' none' T = T := or_none T
        obtain ⟨m, em, q⟩ := put_fin (g := none') (k := 0) (u := zv) (H0 := H) (fps0 := fps) (by rw [e0]; exact I) (by rw [e0]; exact Stp.refl _ _ _) (dis_none _) hs v1 hpv e9 (by rw [e0]; exact ⟨rfl, by rw [← ok.hK]; exact hz _⟩) (Q := fun H' => D.nx σ H') fun H' ho => (show ∀ σ' H', NOut G T H fps z.2 σ' H' → D.nx σ' H' from h2) σ H' ho
        cases em
        exact q
      · cases ed
      · cases ed
    · cases e9'
  · cases e6
/-- x op= e -/
theorem s_aug {i : Nat} {o : B2} {e : E} {x : Str} {ax : Expr} {p pos : Pos} (ok : Ok Γ G X) (hi : Γ.N[i]? = some x) (hx : isSto Γ x = true) (h : PEk G X G.c e ax) : PS X (.AugAssign (.Name x p) (bop o) ax pos) (tS G rk (exS G.c rk (.aug i o e))) := by
  obtain ⟨h1, h2⟩ := sto_ok ok hx
  refine (ps_aug (i := i) (by rw [ok.hN]; exact ok.nd) (by rw [ok.hN]; exact hi) h1 (h.v 0) (ip_b2 o) h2).weaken fun D σ H ⟨T, env, fps, I, hq⟩ => ?_
  simp only [exS] at hq
  obtain ⟨hs, hq⟩ := hq.ite_bad
  obtain ⟨⟨k0, d0⟩, e0⟩ := Option.isSome_iff_exists.mp hs
  unfold slot at e0
  split at e0
  · rename_i l k d hs0
    cases e0
    obtain ⟨v, v1, v2, v3⟩ := I.slot i l _ _ hs0
    refine ⟨v, v1, T, env, fps, I, hq.bind.mono (fun r _ hr y H1 ho => ?_) fun _ _ z => z⟩
    obtain ⟨env', e1, h3⟩ := hr.of_bind
    obtain ⟨⟨k1, d1⟩, e2, e3⟩ := Option.bind_eq_some_iff.mp e1
    obtain ⟨z, e4, e5⟩ := Option.bind_eq_some_iff.mp e3
    obtain ⟨hi', rfl⟩ := setS_ok e5
    obtain ⟨fps1, I1, dy, st⟩ := ho.zero
    unfold slot at e2
    split at e2
    · rename_i l' k' d' hs1
      cases e2
      obtain ⟨v', w1, w2, w3⟩ := I1.slot i l' _ _ hs1
      rw [v1] at w1
      cases w1
      have hnc := (ipD_nc e4).1
      refine ⟨fr T H1 fps1, d1, r.1, z, by rw [ok.hK]; exact rep_noncont w2 hnc, by rw [ok.hK]; exact dy, e4, fun zv hz hnz => ?_⟩
      have e0 : or' none' T = T := or_none T
      obtain ⟨J, le⟩ := SOk.set (f := none') (v := zv) (k := 0) (d := z) (by rw [e0]; exact I1) hi' (by rw [e0]; exact ⟨rfl, by rw [← ok.hK]; exact hz _⟩) (dis_none _)
      rw [e0] at le
      exact (show ∀ σ' H', NOut G T H fps _ σ' H' → D.nx σ' H' from h3) _ _ ⟨_, J, ⟨st.aside, st.le.trans le⟩⟩
    · cases e2
  · cases e0
/-! ### for, while -/
def okIter : Expr → Bool
  | .Set .. => false
  | _ => true
theorem iter_ok {e : Expr} {env : PySem.Env} (h : okIter e = true) (x : Value) : foldedSetIterable e env x = pure x := by
  cases e <;> first | rfl | cases h
theorem drop_get {α : Type} {xs : List α} {i : Nat} {x : α} (h : xs[i]? = some x) : xs.drop i = x :: xs.drop (i + 1) := by
  have hi : i < xs.length := by
    rw [List.getElem?_eq_some_iff] at h; exact h.1
  rw [List.drop_eq_getElem_cons hi]
  congr 1
  rw [List.getElem?_eq_getElem hi] at h
  exact Option.some.inj h
theorem s_for {tg : Tg} {it : It} {b : Ss} {tx ix : Expr} {bs : List Stmt} {pos : Pos} (ok : Ok Γ G X) (ht : chkTg Γ tg tx = true) (hi : PI X tx ix (tI G (evI G.c it))) (hb : PSs X bs (tS G rk (exs G.c rk b))) (hs : okIter ix = true) : PS X (.For tx ix bs [] pos) (tS G rk (exS G.c rk (.for tg it b))) := by
  refine (ps_for ok.own ok.calm hi (snd_G ok tg tx ht) hb (iter_ok hs)).weaken fun D σ H ⟨T, env, fps, I, hq⟩ => ?_
  simp only [exS] at hq
  refine ⟨T, env, fps, I, hq.bind.mono (fun r _ hr J H1 fps1 I1 st1 hJ => ?_) fun _ _ z => z⟩
  obtain ⟨vs, hd, hJ⟩ := hJ
  have hlen := hd.length
  let W : Nat → Nat → L2.St → Hp → Prop := fun i m σ' H' => m = vs.length - i ∧ i ≤ vs.length ∧ ∃ env' fps', SOk G.K G.L T env' σ' H' fps' ∧ Stp T H1 fps1 T H' fps' ∧ Out (forL (bindT tg) (exs G.c rk b) (r.1.drop i) env') (FlW G rk T H fps D) (XW G T H fps)
  refine ⟨W, ⟨_, rfl, Nat.zero_le _, r.2, fps1, I1, Stp.refl _ _ _, hr⟩, ?_⟩
  rintro i m σ' H' ⟨rfl, hi, env', fps', I', st', hr'⟩
  have le' : Le (fr T H1 fps1) H' := st'.le.trans hid_le
  by_cases hlt : i < vs.length
  · obtain ⟨j1, j2⟩ := (hJ H' le').2 i hlt
    refine .inr ⟨j1, fun σ2 H2 => W (i + 1) (vs.length - (i + 1)) σ2 H2, fun σ2 H2 w => ⟨_, by omega, w⟩, fun x H2 y => ?_⟩
    obtain ⟨rfl, hx⟩ := j2 x H2 y
    obtain ⟨d, hdi⟩ : ∃ d, r.1[i]? = some d := by
      have : i < r.1.length := by omega
      exact ⟨_, List.getElem?_eq_getElem this⟩
    obtain ⟨x', hx', hdx⟩ := hd.get hdi
    rw [hx] at hx'
    cases hx'
    rw [drop_get hdi] at hr'
    simp only [forL] at hr'
    obtain ⟨e, he, hr2⟩ := hr'.of_bind
    refine ⟨T, env', fps', d, e, I', hdx.mono st'.le, he, fun σ2 fps2 I2 le2 _ => ⟨T, e, fps2, I2, hr2.bind.mono (fun f _ hf => ?_) fun _ _ z => z.step0 ((st1.tr st').tr ⟨fun _ _ => rfl, le2⟩)⟩⟩
    have st2 : Stp T H1 fps1 T H2 fps2 := st'.tr ⟨fun _ _ => rfl, le2⟩
    cases f with
    | nx e' => exact fun σ3 H3 ⟨fps3, I3, st3⟩ => ⟨rfl, hlt, e', fps3, I3, st2.tr st3, hf⟩
    | ct e' => exact fun σ3 H3 ⟨fps3, I3, st3⟩ => ⟨rfl, hlt, e', fps3, I3, st2.tr st3, hf⟩
    | bk e' => exact fun σ3 H3 n => (show ∀ σ' H', NOut G T H fps e' σ' H' → D.nx σ' H' from hf) σ3 H3 (n.more (st1.tr st2))
    | rt d' e' => exact fun v H3 n => (show ∀ v H', ROut G rk T H fps d' e' v H' → D.rt v H' from hf) v H3 (n.more (st1.tr st2))
  · have e : i = vs.length := by omega
    subst e
    refine .inl ⟨(hJ H' le').1 _ (Nat.le_refl _), ?_⟩
    rw [hlen, List.drop_length] at hr'
    simp only [forL] at hr'
    exact (show ∀ σ'' H'', NOut G T H fps env' σ'' H'' → D.nx σ'' H'' from hr') σ' H' ⟨fps', I', st1.tr st'⟩
theorem s_whl {t : Tt} {b : Ss} {tx : Expr} {bs : List Stmt} {pos : Pos} (ok : Ok Γ G X) (ht : PT X tx (tT G (evT G.c t))) (hb : PSs X bs (tS G rk (exs G.c rk b))) : PS X (.While tx bs [] pos) (tS G rk (exS G.c rk (.whl t b))) := by
  refine (ps_while ok.own ht hb).weaken fun D σ H ⟨T, env, fps, I, hq⟩ => ?_
  simp only [exS] at hq
  obtain ⟨n0, hq⟩ : ∃ n, Out (whlN (evT G.c t) (exs G.c rk b) n env) (FlW G rk T H fps D) (XW G T H fps) := by
    unfold whlD at hq
    split at hq
    · exact ⟨_, hq⟩
    · exact hq.elim
  let W : Nat → L2.St → Hp → Prop := fun m σ' H' => ∃ env' fps', SOk G.K G.L T env' σ' H' fps' ∧ Stp T H fps T H' fps' ∧ Out (whlN (evT G.c t) (exs G.c rk b) m env') (FlW G rk T H fps D) (XW G T H fps)
  refine ⟨W, ⟨n0, env, fps, I, Stp.refl _ _ _, hq⟩, ?_⟩
  rintro m σ' H' ⟨env', fps', I', st', hr'⟩
  cases m with
  | zero => exact hr'.elim
  | succ m =>
    simp only [whlN] at hr'
    refine ⟨T, env', fps', I', hr'.bind.mono (fun r _ hr H2 ho => ?_) fun _ _ z => z.step0 st'⟩
    obtain ⟨fps2, I2, st2⟩ := ho
    obtain ⟨tb, env2⟩ := r
    have st3 := st'.tr st2
    cases tb with
    | false =>
      rw [if_neg (by simp)]
      exact (show ∀ σ'' H'', NOut G T H fps env2 σ'' H'' → D.nx σ'' H'' from hr) σ' H2 ⟨fps2, I2, st3⟩
    | true =>
      rw [if_pos rfl]
      refine ⟨fun σ3 H3 => W m σ3 H3, fun σ3 H3 w => ⟨m, Nat.lt_succ_self _, w⟩, T, env2, fps2, I2, (show Out ((exs G.c rk b env2).bind _) _ _ from hr).bind.mono (fun f _ hf => ?_) fun _ _ z => z.step0 st3⟩
      cases f with
      | nx e' => exact fun σ3 H3 ⟨fps3, I3, st4⟩ => ⟨e', fps3, I3, st3.tr st4, hf⟩
      | ct e' => exact fun σ3 H3 ⟨fps3, I3, st4⟩ => ⟨e', fps3, I3, st3.tr st4, hf⟩
      | bk e' => exact fun σ3 H3 n => (show ∀ σ' H', NOut G T H fps e' σ' H' → D.nx σ' H' from hf) σ3 H3 (n.more st3)
      | rt d' e' => exact fun v H3 n => (show ∀ v H', ROut G rk T H fps d' e' v H' → D.rt v H' from hf) v H3 (n.more st3)
end
end Fx
set_option Elab.async false
set_option linter.all false
set_option maxRecDepth 100000
/-! M20: list comprehensions. -/
namespace Fx
open PySem PySem.Spec PyProof.Rows L2
section
variable {K : PySem.W.Frag} {L : List (Nat × V)} {T : As} {env : EnvD} {σ : L2.St} {H : Hp} {fps : Nat → As}
/-- a slot is forgotten -/
theorem SOk.drop (I : SOk K L T env σ H fps) (i : Nat) (x : Option V) : SOk K L T (env.set i .un) (σ.set i x) H (setF fps i none') ∧ Le (fr T H fps) (fr T H (setF fps i none')) := by
  have le : Le (fr T H fps) (fr T H (setF fps i none')) := hid_mono fun b z => (all_setF z).elim (fun q => q.elim) fun q => q
  refine ⟨⟨by simp [I.len], fun j b x y => ?_, fun a j ne b x y => ?_, fun b z => I.trk b ((all_setF z).elim (fun q => q.elim) fun q => q), fun j l' k' d' q => ?_, fun j q => ?_, I.lu, fun q hq => le.ex q _ (I.tab q hq)⟩, le⟩
  · by_cases e : j = i
    · subst e; rw [setF_same] at x; exact x
    · rw [setF_ne e] at x; exact I.disT j b x y
  · by_cases e : a = i
    · subst e; rw [setF_same] at x; exact x
    · rw [setF_ne e] at x
      by_cases e' : j = i
      · subst e'; rw [setF_same] at y; exact y
      · rw [setF_ne e'] at y; exact I.dis a j ne b x y
  · by_cases e : j = i
    · subst e
      by_cases hi : j < env.length
      · rw [List.getElem?_set_self hi] at q; cases q
      · rw [List.getElem?_eq_none (by simpa using hi)] at q; cases q
    · rw [List.getElem?_set_ne (Ne.symm e)] at q
      obtain ⟨w, g1, g2, g3⟩ := I.slot j l' k' d' q
      refine ⟨w, by rw [List.getElem?_set_ne (Ne.symm e)]; exact g1, ?_, g3⟩
      rw [setF_ne e]
      exact g2.keep k' le fun _ _ => rfl
  · by_cases e : j = i
    · subst e; rw [setF_same]
    · rw [setF_ne e]
      refine I.out j fun l' k' d' z => q l' k' d' ?_
      rw [List.getElem?_set_ne (Ne.symm e)]
      exact z
theorem SOk.wipe (I : SOk K L T env σ H fps) : ∀ own : List Nat, ∃ fps', SOk K L T (wipeD env own) (L2.wipe σ own) H fps' ∧ Le (fr T H fps) (fr T H fps')
  | [] => ⟨fps, I, Le.refl _⟩
  | i :: is => by
    obtain ⟨f1, J, le⟩ := I.wipe is
    obtain ⟨J2, le2⟩ := J.drop i none
    exact ⟨_, J2, le.trans le2⟩
def backV (σ0 σ : L2.St) : List Nat → L2.St
  | [] => σ
  | i :: is => (backV σ0 σ is).set i (σ0[i]?.getD none)
theorem backV_len (σ0 σ : L2.St) : ∀ is : List Nat, (backV σ0 σ is).length = σ.length
  | [] => rfl
  | i :: is => by unfold backV; rw [List.length_set, backV_len σ0 σ is]
theorem backV_get {σ0 σ : L2.St} (hl : σ.length = σ0.length) : ∀ {is : List Nat} {j : Nat}, j ∈ is → (backV σ0 σ is)[j]? = σ0[j]?
  | i :: is, j, h => by
    unfold backV
    by_cases e : j = i
    · subst e
      by_cases hj : j < σ0.length
      · rw [List.getElem?_set_self (by rw [backV_len, hl]; exact hj), List.getElem?_eq_getElem hj]; rfl
      · rw [List.getElem?_eq_none (by simpa [backV_len, hl] using hj), List.getElem?_eq_none (by simpa using hj)]
    · rw [List.getElem?_set_ne (Ne.symm e)]
      rcases List.mem_cons.mp h with h | h
      · exact absurd h e
      · exact backV_get hl h
theorem backV_out {σ0 σ : L2.St} : ∀ {is : List Nat} {j : Nat}, j ∉ is → (backV σ0 σ is)[j]? = σ[j]?
  | [], _, _ => rfl
  | i :: is, j, h => by
    unfold backV
    simp only [List.mem_cons, not_or] at h
    rw [List.getElem?_set_ne (Ne.symm h.1)]
    exact backV_out h.2
theorem wipe_out {σ : L2.St} : ∀ {is : List Nat} {j : Nat}, j ∉ is → (L2.wipe σ is)[j]? = σ[j]?
  | [], _, _ => rfl
  | i :: is, j, h => by
    unfold L2.wipe
    simp only [List.mem_cons, not_or] at h
    rw [List.getElem?_set_ne (Ne.symm h.1)]
    exact wipe_out h.2
theorem wipe_in {σ : L2.St} : ∀ {is : List Nat} {j : Nat}, j ∈ is → j < σ.length → (L2.wipe σ is)[j]? = some none
  | i :: is, j, h, hj => by
    unfold L2.wipe
    by_cases e : j = i
    · subst e
      rw [List.getElem?_set_self (by rw [wipe_length]; exact hj)]
    · rw [List.getElem?_set_ne (Ne.symm e)]
      rcases List.mem_cons.mp h with h | h
      · exact absurd h e
      · exact wipe_in h hj
theorem back_wipe (σ : L2.St) (is : List Nat) : backV σ (L2.wipe σ is) is = σ := by
  apply List.ext_getElem?
  intro j
  by_cases h : j ∈ is
  · exact backV_get (wipe_length σ is) h
  · rw [backV_out h, wipe_out h]
theorem wipe_same {σ σ' : L2.St} {is js : List Nat} (h : Same js (L2.wipe σ is) σ') (sub : ∀ j ∈ js, j ∈ is) : L2.wipe σ' is = L2.wipe σ is := by
  have hl : σ'.length = σ.length := h.1.trans (wipe_length σ is)
  apply List.ext_getElem?
  intro j
  by_cases hj : j ∈ is
  · by_cases hb : j < σ.length
    · rw [wipe_in hj (by omega), wipe_in hj hb]
    · rw [List.getElem?_eq_none (by rw [wipe_length]; omega), List.getElem?_eq_none (by rw [wipe_length]; omega)]
  · rw [wipe_out hj, wipe_out hj, h.2 j fun z => hj (sub j z), wipe_out hj]
/-- the slots of a block as they were -/
theorem SOk.back {T0 : As} {env0 : EnvD} {σ0 : L2.St} {H0 : Hp} {fps0 : Nat → As} (I0 : SOk K L T0 env0 σ0 H0 fps0) (I : SOk K L T env σ H fps) (le : Le (fr T0 H0 fps0) (fr T H fps)) (hl : σ.length = σ0.length) : ∀ own : List Nat, ownOk env0 own = true →
    ∃ fps', SOk K L T (backD env0 env own) (backV σ0 σ own) H fps' ∧ Le (fr T H fps) (fr T H fps')
  | [], _ => ⟨fps, I, Le.refl _⟩
  | i :: is, ho => by
    simp only [ownOk, List.all_cons, Bool.and_eq_true] at ho
    obtain ⟨f1, J, le1⟩ := SOk.back I0 I le hl is (by unfold ownOk; exact ho.2)
    unfold backD backV
    cases hs : env0[i]? with
    | none => rw [hs] at ho; cases ho.1
    | some sv =>
      cases sv with
      | un =>
        obtain ⟨J2, le2⟩ := J.drop i (σ0[i]?.getD none)
        exact ⟨_, J2, le1.trans le2⟩
      | sv l k d =>
        rw [hs] at ho
        have hlk : l = false ∧ k = 0 := by
          cases l
          · cases k with
            | zero => exact ⟨rfl, rfl⟩
            | succ k => exact absurd ho.1 (by simp)
          · exact absurd ho.1 (by simp)
        obtain ⟨rfl, rfl⟩ := hlk
        obtain ⟨v, h1, h2, _⟩ := I0.slot i false 0 d hs
        have e0 : or' none' T = T := or_none T
        have hi : i < (backD env0 env is).length := by
          have a1 := J.len
          rw [backV_len] at a1
          have : i < σ0.length := by
            rw [List.getElem?_eq_some_iff] at h1; exact h1.1
          omega
        obtain ⟨J2, le2⟩ := SOk.set (f := none') (i := i) (k := 0) (v := v) (d := d) (by rw [e0]; exact J) hi (by rw [e0]; exact ⟨rfl, h2.2.mono (le.trans le1)⟩) (dis_none _)
        rw [e0] at le2
        refine ⟨_, ?_, le1.trans le2⟩
        rw [h1]
        exact J2
/-- what is hidden aside may change -/
theorem SOk.aside {a : Addr} {o : HO} (I : SOk K L T env σ H fps) (ha : T a) : SOk K L T env σ (upd H a o) fps ∧ fr T (upd H a o) fps = fr T H fps := by
  have e : fr T (upd H a o) fps = fr T H fps := by
    funext b
    by_cases hb : all' T fps b
    · exact (hid_in hb).trans (hid_in hb).symm
    · refine (hid_out hb).trans (Eq.trans (upd_ne ?_) (hid_out hb).symm)
      rintro rfl
      exact hb (.inl ha)
  refine ⟨⟨I.len, I.disT, I.dis, fun b z => ?_, fun i l k d q => ?_, I.out, I.lu, fun q hq => (congrFun e q).trans (I.tab q hq)⟩, e⟩
  · by_cases hb : b = a
    · subst hb; rw [upd_same]; exact Option.some_ne_none _
    · rw [upd_ne hb]; exact I.trk b z
  · obtain ⟨v, h1, h2, h3⟩ := I.slot i l k d q
    refine ⟨v, h1, ?_, h3⟩
    rw [show hid (upd H a o) (all' T fps) = hid H (all' T fps) from e]
    exact h2.keep k (Le.refl _) fun b hb => upd_ne fun e => I.disT i b hb (e ▸ ha)
end
theorem Out.noEx {α β : Type} {r : Rs α} {f : α → Rs β} {ok : β → Prop} {ex ex' : PyData → Prop} (h : Out (r.noEx.bind f) ok ex) : Out r (fun a => Out (f a) ok ex) ex' := by
  cases r with
  | ok a => exact h
  | ex x => exact h.elim
  | bad => exact h
theorem lcL_ex {bind : PyData → EnvD → Option EnvD} {own : List Nat} {t : EnvD → Rs (Bool × EnvD)} {f : EnvD → Rs (PyData × EnvD)} : ∀ {xs : List PyData} {env : EnvD} {x : PyData}, lcL bind own t f xs env ≠ .ex x
  | [], _, _ => fun h => by cases h
  | y :: ys, env, x => fun h => by
    simp only [lcL] at h
    cases h1 : bind y env with
    | none => rw [h1] at h; cases h
    | some e =>
      rw [h1] at h
      have h : ((t e).noEx.bind _ : Rs _) = .ex x := h
      cases h2 : t e with
      | ok r =>
        rw [h2] at h
        obtain ⟨b, e2⟩ := r
        cases b with
        | false => exact lcL_ex h
        | true =>
          have h : ((f e2).noEx.bind _ : Rs _) = .ex x := h
          cases h3 : f e2 with
          | ok y =>
            rw [h3] at h
            have h : ((lcL bind own t f ys (wipeD y.2 own)).bind _ : Rs _) = .ex x := h
            cases h4 : lcL bind own t f ys (wipeD y.2 own) with
            | ok z => rw [h4] at h; cases h
            | ex w => exact lcL_ex h4
            | bad => rw [h4] at h; cases h
          | ex w => rw [h3] at h; cases h
          | bad => rw [h3] at h; cases h
      | ex w => rw [h2] at h; cases h
      | bad => rw [h2] at h; cases h
def Gh.blk (G : Gh) : Gh := { G with EX := fun _ _ _ => False }
section
variable {G : Gh}
theorem lc_run {own : List Nat} {tg : Tg} {it : It} {ts : Tts} {e : E} {k : Nat} {σ : L2.St} {H : Hp} {Q : VK} (sub : ∀ j ∈ tg.slots, j ∈ own) (hq : tV G k (ev G.c (.lc own tg it ts e) k) σ H Q) :
    tLc (tI G (evI G.c it)) (tG G.blk tg) (tT G.blk (evTs G.c ts)) (tV G.blk (k - 1) (ev G.c e (k - 1))) own σ H Q := by
  obtain ⟨T, env, fps, I, hq⟩ := hq
  simp only [ev] at hq
  obtain ⟨ho0, hq⟩ := hq.ite_bad'
  refine ⟨T, env, fps, I, hq.bind.mono (fun r _ hr J H1 fps1 I1 st1 hJ D hD => ?_) fun _ _ z => z⟩
  obtain ⟨ho, hr⟩ := hr.ite_bad'
  have ho : ownOk r.2 own = true := by simpa using ho
  obtain ⟨vs, hd, hJ⟩ := hJ
  have hlen := hd.length
  -- the loop from here
  let P : List PyData → List PyData × EnvD → Prop := fun ds z => (ds ++ z.1).length ≤ 16777216 ∧ ∀ v H', VOut G T H fps σ k (.list (ds ++ z.1), backD r.2 z.2 own) v H' → Q v H'
  have hr0 : Out (lcL (bindT tg) own (evTs G.c ts) (ev G.c e (k - 1)) r.1 (wipeD r.2 own)) (P []) (fun _ => False) := hr.bind.mono (fun z _ hz => by
    obtain ⟨h1, h2⟩ := hz.ite_bad
    exact ⟨h1, h2⟩) fun x hx _ => lcL_ex hx
  let W : Nat → Nat → Hp → Prop := fun i m H' => m = vs.length - i ∧ i ≤ vs.length ∧ ∃ env' fps' acc ds g, SOk G.K G.L (or' (or' (one' D) g) T) env' (L2.wipe σ own) H' fps' ∧ H' D = some (.lst acc) ∧ RepL (Rep G.K (fr (or' (or' (one' D) g) T) H' fps') H' (k - 1)) acc ds g ∧ ¬ g D ∧ Dis (or' (one' D) g) T ∧
    Stp T H1 fps1 (or' (or' (one' D) g) T) H' fps' ∧ Out (lcL (bindT tg) own (evTs G.c ts) (ev G.c e (k - 1)) (r.1.drop i) env') (P ds) (fun _ => False)
  refine ⟨W, ⟨_, rfl, Nat.zero_le _, ?_⟩, ?_⟩
  · obtain ⟨f1, J1, le1⟩ := I1.wipe own
    obtain ⟨J2, e2⟩ := J1.own (o := .lst []) hD
    have np : ∀ b, all' T f1 b → b ≠ D := fun b z e => J1.trk b z (by rw [e]; exact hD)
    refine ⟨wipeD r.2 own, f1, [], [], none', ?_, upd_same, .nil, fun z => z, ?_, ?_, hr0⟩
    · rw [or_none']; exact J2
    · rw [or_none']
      exact fun b x y => np b (.inl y) x
    · rw [or_none']
      exact ⟨fun b hb => upd_ne (np b (.inl hb)), by rw [e2]; exact le1⟩
  · rintro i m H' ⟨rfl, hi, env', fps', acc, ds, g, I', hacc, R', ngD, dj, st', hr'⟩
    have le' : Le (fr T H1 fps1) H' := st'.le.trans hid_le
    have hTD : (or' (or' (one' D) g) T) D := .inl (.inl rfl)
    by_cases hlt : i < vs.length
    · obtain ⟨j1, j2⟩ := (hJ H' le').2 i hlt
      refine .inr ⟨j1, fun H2 => W (i + 1) (vs.length - (i + 1)) H2, fun H2 w => ⟨_, by omega, w⟩, fun x H2 y => ?_⟩
      obtain ⟨rfl, hx⟩ := j2 x H2 y
      obtain ⟨d, hdi⟩ : ∃ d, r.1[i]? = some d := by
        have : i < r.1.length := by omega
        exact ⟨_, List.getElem?_eq_getElem this⟩
      obtain ⟨x', hx', hdx⟩ := hd.get hdi
      rw [hx] at hx'
      cases hx'
      rw [drop_get hdi] at hr'
      simp only [lcL] at hr'
      obtain ⟨e', he, hr2⟩ := hr'.of_bind
      refine ⟨_, env', fps', d, e', I', hdx.mono st'.le, he, fun σ2 fps2 I2 le2 sm => ⟨wipe_same sm sub, _, e', fps2, I2, hr2.noEx.mono (fun b _ hb H3 ho3 => ?_) fun _ _ z => z⟩⟩
      obtain ⟨fps3, I3, st3⟩ := ho3
      have hw : L2.wipe σ2 own = L2.wipe σ own := wipe_same sm sub
      have st2 : Stp T H1 fps1 (or' (or' (one' D) g) T) H3 fps3 := ⟨fun b hb => (st3.aside b (.inr hb)).trans (st'.aside b hb), st'.le.trans (le2.trans st3.le)⟩
      have hacc3 : H3 D = some (.lst acc) := (st3.aside D hTD).trans hacc
      have R3 := R'.imp fun v d f s rr => rr.keep _ (le2.trans st3.le) fun b hb => st3.aside b (.inl (.inr (s b hb)))
      obtain ⟨tb, env3⟩ := b
      cases tb with
      | false =>
        rw [if_neg (by simp)]
        obtain ⟨f4, I4, le4⟩ := I3.wipe own
        rw [hw] at I4
        exact ⟨rfl, hlt, wipeD env3 own, f4, acc, ds, g, I4, hacc3, R3.imp fun v d f s rr => rr.keep _ le4 fun _ _ => rfl, ngD, dj, ⟨st2.aside, st2.le.trans le4⟩, hb⟩
      | true =>
        rw [if_pos rfl]
        refine ⟨_, env3, fps3, I3, (show Out ((ev G.c e (k - 1) env3).noEx.bind _) _ _ from hb).noEx.mono (fun y _ hy yv H4 ho4 => ?_) fun _ _ z => z⟩
        obtain ⟨fps4, f, I4, R4, dj4, st4⟩ := ho4
        have hacc4 : H4 D = some (.lst acc) := (st4.aside D hTD).trans hacc3
        have hy := hy.bind
        have hl : ds.length < 16777216 := by
          cases hz : lcL (bindT tg) own (evTs G.c ts) (ev G.c e (k - 1)) (r.1.drop (i + 1)) (wipeD y.2 own) with
          | ok z =>
            rw [hz] at hy
            have := (show P ds (y.1 :: z.1, z.2) from hy).1
            simp at this
            omega
          | ex w => exact absurd hz lcL_ex
          | bad => rw [hz] at hy; exact hy.elim
        refine ⟨acc, hacc4, by rw [R'.length]; exact hl, ?_⟩
        have ed : or' f (or' (or' (one' D) g) T) = or' (or' (one' D) (or' g f)) T := by
          rw [or_assoc', or_assoc', or_assoc', ← or_assoc' f, or_comm' f (one' D), or_assoc', ← or_assoc' f, or_comm' f g, or_assoc']
        have nfD : ¬ f D := fun z => dj4 D z hTD
        have R4' := R3.imp fun v d f s rr => rr.keep _ st4.le fun b hb => st4.aside b (.inl (.inr (s b hb)))
        rw [ed] at I4 R4 st4 R4'
        obtain ⟨I5, e5⟩ := I4.aside (a := D) (o := .lst (acc ++ [yv])) (.inl (.inl rfl))
        obtain ⟨f6, I6, le6⟩ := I5.wipe own
        rw [hw] at I6
        obtain ⟨gn, Rn, en⟩ := RepL.append R4' (RepL.cons R4 .nil (dis_none' f)) fun b x y => by
          rw [or_none'] at y
          exact dj4 b y (.inl (.inr x))
        have egn : gn = or' g f := by
          funext b
          have := en b
          rw [or_none'] at this
          exact propext this
        subst egn
        refine ⟨rfl, hlt, wipeD y.2 own, f6, acc ++ [yv], ds ++ [y.1], or' g f, I6, upd_same, ?_, ?_, ?_, ⟨fun b hb => ?_, ?_⟩, hy.mono (fun z _ hz => ?_) fun x hx _ => lcL_ex hx⟩
        · refine Rn.imp fun v d f' s rr => rr.keep _ ?_ fun b hb => upd_ne fun e => ?_
          · rw [← e5]; exact le6
          · subst e
            rcases s _ hb with z | z
            · exact ngD z
            · exact nfD z
        · rintro (z | z)
          · exact ngD z
          · exact nfD z
        · rintro b (x | x | x) y
          · exact dj b (.inl x) y
          · exact dj b (.inr x) y
          · exact dj4 b x (.inr y)
        · refine Eq.trans (upd_ne fun e => dj D (.inl rfl) (e ▸ hb)) ?_
          exact (st4.aside b (.inr hb)).trans (st2.aside b hb)
        · refine st2.le.trans (st4.le.trans ?_)
          rw [← e5]; exact le6
        · show (ds ++ [y.1] ++ z.1).length ≤ _ ∧ _
          have h5 := (show P ds (y.1 :: z.1, z.2) from hz)
          rw [show ds ++ [y.1] ++ z.1 = ds ++ y.1 :: z.1 by simp]
          exact h5
    · have e : i = vs.length := by omega
      subst e
      refine .inl ⟨(hJ H' le').1 _ (Nat.le_refl _), ?_⟩
      rw [hlen, List.drop_length] at hr'
      simp only [lcL] at hr'
      have hP : P ds ([], env') := hr'
      obtain ⟨_, hq2⟩ := hP
      refine hq2 _ _ ?_
      obtain ⟨f6, I6, le6⟩ := SOk.back I1 I' st'.le (wipe_length σ own) own ho
      rw [back_wipe] at I6
      rw [List.append_nil]
      have R6 := R'.imp fun v d f s rr => rr.keep _ le6 fun _ _ => rfl
      have st6 : Stp T H fps (or' (or' (one' D) g) T) H' f6 := ⟨fun b hb => (st'.aside b hb).trans (st1.aside b hb), st1.le.trans (st'.le.trans le6)⟩
      cases k with
      | zero =>
        obtain ⟨h1, rfl⟩ := R6.dat0
        obtain ⟨I7, le7⟩ := I6.show
        refine .of0 I7 (.lst (.inl (.inl ?_)) (h1.mono le7)) (.inr rfl) ⟨st6.aside, st6.le.trans le7⟩
        refine (hid_out ?_).trans hacc
        rintro (z | ⟨j, z⟩)
        · exact dj D (.inl rfl) z
        · exact I6.disT j D z hTD
      | succ k =>
        exact ⟨f6, or' (one' D) g, I6, .inr (.inl ⟨D, acc, ds, g, rfl, rfl, hacc, R6, ngD, rfl⟩), dj, st6⟩
end
end Fx
set_option Elab.async false
set_option linter.all false
set_option maxRecDepth 100000
/-! M21: calls. -/
namespace Fx
open PySem PySem.Spec PyProof.Rows L2
/-- an argument: a datum, or a slot that is lent -/
inductive Arg1 (K : PySem.W.Frag) (F : Hp) (env : EnvD) (σ : L2.St) : Option Nat → SV → V → Prop
  | v {d : PyData} {v : V} : Dat K F v d → Arg1 K F env σ none (.sv false 0 d) v
  | l {i : Nat} {l : Bool} {k : Nat} {d : PyData} {v : V} : env[i]? = some (.sv l k d) → σ[i]? = some (some v) → Arg1 K F env σ (some i) (.sv true k d) v
structure ArgsOk (K : PySem.W.Frag) (F : Hp) (env : EnvD) (σ : L2.St) (ls : List (Option Nat)) (svs : List SV) (vs : List V) : Prop where
  l1 : svs.length = ls.length
  l2 : vs.length = ls.length
  at_ : ∀ (j : Nat) (o : Option Nat), ls[j]? = some o → ∃ sv v, svs[j]? = some sv ∧ vs[j]? = some v ∧ Arg1 K F env σ o sv v
theorem ArgsOk.cons {K : PySem.W.Frag} {F : Hp} {env : EnvD} {σ : L2.St} {ls : List (Option Nat)} {svs : List SV} {vs : List V} {o : Option Nat} {sv : SV} {v : V} (a : Arg1 K F env σ o sv v) (h : ArgsOk K F env σ ls svs vs) : ArgsOk K F env σ (o :: ls) (sv :: svs) (v :: vs) :=
  ⟨by simp [h.l1], by simp [h.l2], fun j o' e => by
    cases j with
    | zero => simp at e; subst e; exact ⟨sv, v, rfl, rfl, a⟩
    | succ j => simpa using h.at_ j o' (by simpa using e)⟩
theorem args_of {K : PySem.W.Frag} {F : Hp} {env : EnvD} {σ : L2.St} : ∀ {ar : Ar} {ds : List PyData} {vs : List V} {svs : List SV}, ArV K F σ ar ds vs → argSV (lents ar) ds env = some svs → ArgsOk K F env σ (lents ar) svs vs
  | _, _, _, _, .nil, h => by cases h; exact ⟨rfl, rfl, fun j o e => by simp [lents] at e⟩
  | _, _, _, _, .v hd t, h => by
    simp only [lents, argSV] at h
    obtain ⟨r, e1, e2⟩ := Option.map_eq_some_iff.mp h
    cases e2
    exact ArgsOk.cons (.v hd) (args_of t e1)
  | _, _, _, _, .l hσ t, h => by
    simp only [lents, argSV] at h
    split at h
    · rename_i l k d hs
      obtain ⟨r, e1, e2⟩ := Option.map_eq_some_iff.mp h
      cases e2
      exact ArgsOk.cons (.l hs hσ) (args_of t e1)
    · cases h
theorem mapM_get {α : Type} {xs : List α} : ∀ {js : List Nat} {ys : List α}, js.mapM (fun j => xs[j]?) = some ys → ys.length = js.length ∧ (∀ (m : Nat) (j : Nat), js[m]? = some j → ys[m]? = xs[j]? ∧ j < xs.length) ∧ permL js xs = ys
  | [], ys, h => by cases h; exact ⟨rfl, fun m j e => by simp at e, rfl⟩
  | j :: js, ys, h => by
    rw [List.mapM_cons] at h
    obtain ⟨y, e1, h⟩ := Option.bind_eq_some_iff.mp h
    obtain ⟨r, e2, h⟩ := Option.bind_eq_some_iff.mp h
    cases h
    obtain ⟨a1, a2, a3⟩ := mapM_get e2
    refine ⟨by simp [a1], fun m i e => ?_, ?_⟩
    · cases m with
      | zero =>
        simp at e
        subst e
        exact ⟨by simpa using e1.symm, by rw [List.getElem?_eq_some_iff] at e1; exact e1.1⟩
      | succ m => simpa using a2 m i (by simpa using e)
    · unfold permL
      rw [List.filterMap_cons, e1]
      show y :: permL js xs = y :: r
      rw [a3]
theorem permL_len {α : Type} {xs : List α} : ∀ {js : List Nat}, (∀ j ∈ js, j < xs.length) → (permL js xs).length = js.length ∧ ∀ (m : Nat) (j : Nat), js[m]? = some j → (permL js xs)[m]? = xs[j]?
  | [], _ => ⟨rfl, fun m j e => by simp at e⟩
  | j :: js, h => by
    obtain ⟨a1, a2⟩ := permL_len (xs := xs) (js := js) fun i hi => h i (List.mem_cons_of_mem _ hi)
    have hj := h j (List.mem_cons_self ..)
    have e : permL (j :: js) xs = xs[j] :: permL js xs := by
      unfold permL
      rw [List.filterMap_cons, List.getElem?_eq_getElem hj]
    rw [e]
    refine ⟨by simp [a1], fun m i hm => ?_⟩
    cases m with
    | zero => simp at hm; subst hm; simp [List.getElem?_eq_getElem hj]
    | succ m => simpa using a2 m i (by simpa using hm)
theorem lent_uniq {i : Nat} : ∀ {ls : List (Option Nat)} {a b : Nat}, (ls.filterMap id).Nodup → ls[a]? = some (some i) → ls[b]? = some (some i) → a = b
  | [], a, b, _, h, _ => by simp at h
  | o :: ls, a, b, nd, h1, h2 => by
    have mem : ∀ {c : Nat}, ls[c]? = some (some i) → i ∈ ls.filterMap id := fun hc => List.mem_filterMap.mpr ⟨some i, List.mem_of_getElem? hc, rfl⟩
    cases a with
    | zero =>
      simp at h1
      subst h1
      cases b with
      | zero => rfl
      | succ b => exact absurd (mem (by simpa using h2)) (List.nodup_cons.mp nd).1
    | succ a =>
      cases b with
      | zero =>
        simp at h2
        subst h2
        exact absurd (mem (by simpa using h1)) (List.nodup_cons.mp nd).1
      | succ b =>
        have nd' : (ls.filterMap id).Nodup := by
          cases o with
          | none => exact nd
          | some _ => exact (List.nodup_cons.mp nd).2
        exact congrArg (· + 1) (lent_uniq (a := a) (b := b) nd' (by simpa using h1) (by simpa using h2))
def permV {α : Type} (pm : Option (List Nat)) (xs : List α) : List α := match pm with
  | none => xs
  | some js => permL js xs
theorem ArgsOk.perm {K : PySem.W.Frag} {F : Hp} {env : EnvD} {σ : L2.St} {ls ls' : List (Option Nat)} {svs svs' : List SV} {vs : List V} {pm : Option (List Nat)} (h : ArgsOk K F env σ ls svs vs) (h1 : permD pm svs = some svs') (h2 : permD pm ls = some ls') :
    ArgsOk K F env σ ls' svs' (permV pm vs) ∧ ((ls.filterMap id).Nodup → (ls'.filterMap id).Nodup) ∧ ls'.length = ls.length := by
  cases pm with
  | none => cases h1; cases h2; exact ⟨h, id, rfl⟩
  | some js =>
    unfold permD at h1 h2
    simp only at h1 h2
    split at h1
    · rename_i hj
      split at h2
      · rename_i hj2
        obtain ⟨a1, a2, a3⟩ := mapM_get h1
        obtain ⟨b1, b2, b3⟩ := mapM_get h2
        have lt : ∀ j ∈ js, j < ls.length := fun j hm => by
          obtain ⟨m, em⟩ := List.getElem?_of_mem hm
          exact (b2 m j em).2
        obtain ⟨c1, c2⟩ := permL_len (xs := vs) (js := js) fun j hm => by rw [h.l2]; exact lt j hm
        refine ⟨⟨by rw [a1, b1], by show (permL js vs).length = _; rw [c1, b1], fun m o e => ?_⟩, fun nd => ?_, by rw [b1]; exact hj2.1⟩
        · have hm : m < js.length := by
            rw [List.getElem?_eq_some_iff] at e
            have := e.1
            omega
          have ej : js[m]? = some js[m] := List.getElem?_eq_getElem hm
          rw [(b2 m _ ej).1] at e
          obtain ⟨sv, v, e1, e2, e3⟩ := h.at_ _ o e
          exact ⟨sv, v, by rw [(a2 m _ ej).1]; exact e1, by show (permL js vs)[m]? = _; rw [c2 m _ ej]; exact e2, e3⟩
        · -- distinct places, distinct slots
          have go : ∀ {js : List Nat} {ls' : List (Option Nat)}, js.Nodup → js.mapM (fun j => ls[j]?) = some ls' → (ls'.filterMap id).Nodup := by
            intro js
            induction js with
            | nil => intro ls' _ h; cases h; exact List.nodup_nil
            | cons j js ih =>
              intro ls' hn h
              rw [List.mapM_cons] at h
              obtain ⟨y, e1, h⟩ := Option.bind_eq_some_iff.mp h
              obtain ⟨r, e2, h⟩ := Option.bind_eq_some_iff.mp h
              cases h
              obtain ⟨n1, n2⟩ := List.nodup_cons.mp hn
              have ih' := ih n2 e2
              cases y with
              | none => exact ih'
              | some i =>
                refine List.nodup_cons.mpr ⟨fun hi => n1 ?_, ih'⟩
                obtain ⟨o, ho, eo⟩ := List.mem_filterMap.mp hi
                have eo : o = some i := eo
                subst eo
                obtain ⟨m, hm⟩ := List.getElem?_of_mem ho
                obtain ⟨q1, q2, q3⟩ := mapM_get e2
                have hmlt : m < js.length := by
                  rw [List.getElem?_eq_some_iff] at hm
                  have := hm.1
                  omega
                have ej : js[m]? = some js[m] := List.getElem?_eq_getElem hmlt
                rw [(q2 m _ ej).1] at hm
                rw [lent_uniq nd e1 hm]
                exact List.mem_of_getElem? ej
          exact go hj.2 h2
      · cases h2
    · cases h1
/-- the caller's slots behind a call -/
def BackOk (ls : List (Option Nat)) (r : List SV) (env env' : EnvD) : Prop := env'.length = env.length ∧ (∀ i : Nat, (∀ j : Nat, ls[j]? ≠ some (some i)) → env'[i]? = env[i]?) ∧
  ∀ (i j : Nat) (l : Bool) (k : Nat) (d : PyData), ls[j]? = some (some i) → env[i]? = some (.sv l k d) →
    (∀ (k' : Nat) (d' : PyData), r[j]? = some (.sv true k' d') → env'[i]? = some (.sv l k' d')) ∧ ((∀ (k' : Nat) (d' : PyData), r[j]? ≠ some (.sv true k' d')) → env'[i]? = some .un)
theorem lentBack_at : ∀ {ls : List (Option Nat)} {r : List SV} {env : EnvD}, (ls.filterMap id).Nodup → r.length = ls.length → BackOk ls r env (lentBack ls r env)
  | [], r, env, _, hl => by
    cases r with
    | nil => exact ⟨rfl, fun _ _ => rfl, fun i j l k d h => by simp at h⟩
    | cons _ _ => cases hl
  | o :: ls, [], env, _, hl => by cases hl
  | none :: ls, sv :: r, env, nd, hl => by
    have e : lentBack (none :: ls) (sv :: r) env = lentBack ls r env := by cases sv <;> rfl
    rw [e]
    have hl' : r.length = ls.length := by simpa using hl
    obtain ⟨h1, h2, h3⟩ := lentBack_at (ls := ls) (env := env) (r := r) nd hl'
    refine ⟨h1, fun i hi => h2 i fun j hj => hi (j + 1) (by simpa using hj), fun i j l k d hj he => ?_⟩
    cases j with
    | zero => simp at hj
    | succ j => simpa using h3 i j l k d (by simpa using hj) he
  | some i0 :: ls, sv :: r, env, nd, hl => by
    obtain ⟨n1, n2⟩ := List.nodup_cons.mp nd
    have notin : ∀ j : Nat, ls[j]? ≠ some (some i0) := fun j hj => n1 (List.mem_filterMap.mpr ⟨some i0, List.mem_of_getElem? hj, rfl⟩)
    have hl' : r.length = ls.length := by simpa using hl
    -- the tail, over what the head leaves
    have tail : ∀ env1 : EnvD, env1.length = env.length → (∀ i : Nat, i ≠ i0 → env1[i]? = env[i]?) → lentBack (some i0 :: ls) (sv :: r) env = lentBack ls r env1 →
        (∀ (l : Bool) (k : Nat) (d : PyData), env[i0]? = some (.sv l k d) → (∀ (k' : Nat) (d' : PyData), sv = .sv true k' d' → env1[i0]? = some (.sv l k' d')) ∧ ((∀ (k' : Nat) (d' : PyData), sv ≠ .sv true k' d') → env1[i0]? = some .un)) → BackOk (some i0 :: ls) (sv :: r) env (lentBack (some i0 :: ls) (sv :: r) env) := fun env1 len1 same e hd => by
      rw [e]
      obtain ⟨h1, h2, h3⟩ := lentBack_at (env := env1) (r := r) n2 hl'
      refine ⟨h1.trans len1, fun i hi => ?_, fun i j l k d hj he => ?_⟩
      · rw [h2 i fun j hj => hi (j + 1) (by simpa using hj)]
        exact same i fun e => hi 0 (by simp [e])
      · cases j with
        | zero =>
          simp at hj
          subst hj
          rw [h2 i0 notin]
          obtain ⟨q1, q2⟩ := hd l k d he
          exact ⟨fun k' d' z => q1 k' d' (by simpa using z), fun z => q2 fun k' d' e => z k' d' (by simp [e])⟩
        | succ j =>
          have ne : i ≠ i0 := fun e => notin j (by subst e; simpa using hj)
          simpa using h3 i j l k d (by simpa using hj) (by rw [same i ne]; exact he)
    have lt : ∀ {l : Bool} {k : Nat} {d : PyData}, env[i0]? = some (SV.sv l k d) → i0 < env.length := fun h => by
      rw [List.getElem?_eq_some_iff] at h; exact h.1
    cases sv with
    | un =>
      refine tail (env.set i0 .un) (by simp) (fun i ne => List.getElem?_set_ne (Ne.symm ne)) rfl fun l k d h => ⟨fun _ _ e => (by cases e), fun _ => List.getElem?_set_self (lt h)⟩
    | sv b k d =>
      cases b with
      | false => refine tail (env.set i0 .un) (by simp) (fun i ne => List.getElem?_set_ne (Ne.symm ne)) rfl fun l k d h => ⟨fun _ _ e => (by cases e), fun _ => List.getElem?_set_self (lt h)⟩
      | true =>
        cases hs : env[i0]? with
        | none =>
          refine tail env rfl (fun _ _ => rfl) (by simp only [lentBack]; rw [hs]) fun l k' d' h => ?_
          rw [hs] at h
          cases h
        | some s0 =>
          cases s0 with
          | un =>
            refine tail env rfl (fun _ _ => rfl) (by simp only [lentBack]; rw [hs]) fun l k' d' h => ?_
            rw [hs] at h
            cases h
          | sv l k0 d0 =>
            refine tail (env.set i0 (.sv l k d)) (by simp) (fun i ne => List.getElem?_set_ne (Ne.symm ne)) (by simp only [lentBack]; rw [hs]) fun l' k' d' h => ?_
            rw [hs] at h
            cases h
            exact ⟨fun k2 d2 e => by cases e; exact List.getElem?_set_self (lt hs), fun z => absurd rfl (z k d)⟩
end Fx
set_option Elab.async false
set_option linter.all false
set_option maxRecDepth 100000
/-! M22: a call's state, before and behind. -/
namespace Fx
open PySem PySem.Spec PyProof.Rows L2
section
variable {K : PySem.W.Frag} {L : List (Nat × V)} {T : As} {env : EnvD} {σ : L2.St} {H : Hp} {fps : Nat → As} {ls : List (Option Nat)} {svs : List SV} {vs : List V}
def isLent (ls : List (Option Nat)) (i : Nat) : Prop := ∃ j : Nat, ls[j]? = some (some i)
/-- what the callee sees put aside -/
def cT (ls : List (Option Nat)) (T : As) (fps : Nat → As) : As := fun b => T b ∨ ∃ i, ¬ isLent ls i ∧ fps i b
def cF (ls : List (Option Nat)) (fps : Nat → As) : Nat → As := fun j b => ∃ i, ls[j]? = some (some i) ∧ fps i b
def cL (ls : List (Option Nat)) (vs : List V) : List (Nat × V) := (List.range ls.length).filterMap fun j => match ls[j]?, vs[j]? with
  | some (some _), some v => some (j, v)
  | _, _ => none
theorem lentOnly_get {r : List SV} {j k : Nat} {l : Bool} {d : PyData} (h : (lentOnly r)[j]? = some (.sv l k d)) : l = true ∧ r[j]? = some (.sv true k d) := by
  unfold lentOnly at h
  rw [List.getElem?_map] at h
  cases hr : r[j]? with
  | none => rw [hr] at h; cases h
  | some sv =>
    rw [hr] at h
    cases sv with
    | un => cases h
    | sv b k' d' =>
      cases b with
      | true => cases h; exact ⟨rfl, rfl⟩
      | false => cases h
theorem cL_mem {j : Nat} {v : V} : (j, v) ∈ cL ls vs ↔ (∃ i, ls[j]? = some (some i)) ∧ vs[j]? = some v := by
  unfold cL
  rw [List.mem_filterMap]
  constructor
  · rintro ⟨m, hm, h⟩
    split at h
    · rename_i i w h1 h2
      cases h
      exact ⟨⟨i, h1⟩, h2⟩
    · cases h
  · rintro ⟨⟨i, h1⟩, h2⟩
    refine ⟨j, List.mem_range.mpr ?_, by rw [h1, h2]⟩
    rw [List.getElem?_eq_some_iff] at h1
    exact h1.1
theorem all_c (b : Addr) : all' (cT ls T fps) (cF ls fps) b ↔ all' T fps b := by
  constructor
  · rintro ((h | ⟨i, _, h⟩) | ⟨j, i, _, h⟩)
    · exact .inl h
    · exact .inr ⟨i, h⟩
    · exact .inr ⟨i, h⟩
  · rintro (h | ⟨i, h⟩)
    · exact .inl (.inl h)
    · by_cases hl : isLent ls i
      · obtain ⟨j, hj⟩ := hl
        exact .inr ⟨j, i, hj, h⟩
      · exact .inl (.inr ⟨i, hl, h⟩)
theorem fr_c : fr (cT ls T fps) H (cF ls fps) = fr T H fps := by
  have : all' (cT ls T fps) (cF ls fps) = all' T fps := funext fun b => propext (all_c b)
  unfold fr
  rw [this]
/-- the callee's state -/
theorem SOk.enter (I : SOk K L T env σ H fps) (A : ArgsOk K (fr T H fps) env σ ls svs vs) (nd : (ls.filterMap id).Nodup) : SOk K (cL ls vs) (cT ls T fps) svs (vs.map some) H (cF ls fps) := by
  refine ⟨by rw [List.length_map, A.l1, A.l2], fun j b x y => ?_, fun j j' ne b x y => ?_, fun b z => I.trk b ((all_c b).mp z), fun j l k d e => ?_, fun j q => ?_, fun j v w h1 h2 => ?_, fun q hq => (congrFun (fr_c (ls := ls)) q).trans (I.tab q hq)⟩
  · obtain ⟨i, hj, hb⟩ := x
    rcases y with y | ⟨i', hn, y⟩
    · exact I.disT i b hb y
    · exact I.dis i i' (fun e => hn (by subst e; exact ⟨j, hj⟩)) b hb y
  · obtain ⟨i, hj, hb⟩ := x
    obtain ⟨i', hj', hb'⟩ := y
    refine I.dis i i' (fun e => ne ?_) b hb hb'
    subst e
    exact lent_uniq nd hj hj'
  · have hj : j < ls.length := by
      rw [List.getElem?_eq_some_iff] at e
      have := e.1
      rw [A.l1] at this
      exact this
    obtain ⟨sv, v, e1, e2, e3⟩ := A.at_ j _ (List.getElem?_eq_getElem hj)
    rw [e] at e1
    cases e1
    refine ⟨v, by rw [List.getElem?_map, e2]; rfl, ?_⟩
    rw [show hid H (all' (cT ls T fps) (cF ls fps)) = fr T H fps from fr_c]
    have hls : ls[j]? = some ls[j] := List.getElem?_eq_getElem hj
    generalize ls[j] = o at e3 hls
    cases e3 with
    | v hd =>
      have ef : cF ls fps j = none' := by
        funext b
        refine propext ⟨fun ⟨i, hi, _⟩ => ?_, fun z => z.elim⟩
        rw [hls] at hi
        cases hi
      rw [ef]
      exact ⟨⟨rfl, hd⟩, fun z => by cases z⟩
    | @l i l0 k d v he hσ =>
      obtain ⟨w, w1, w2, w3⟩ := I.slot i l0 k d he
      rw [hσ] at w1
      cases w1
      have ef : cF ls fps j = fps i := by
        funext b
        refine propext ⟨fun ⟨i', hi, hb⟩ => ?_, fun z => ⟨i, hls, z⟩⟩
        rw [hls] at hi
        cases hi
        exact hb
      rw [ef]
      exact ⟨w2, fun _ => cL_mem.mpr ⟨⟨i, hls⟩, e2⟩⟩
  · funext b
    refine propext ⟨fun ⟨i, hi, hb⟩ => ?_, fun z => z.elim⟩
    obtain ⟨sv, v, e1, e2, e3⟩ := A.at_ j _ hi
    cases e3 with
    | l he hσ => exact absurd e1 (q _ _ _)
  · have a := (cL_mem.mp h1).2
    have b := (cL_mem.mp h2).2
    rw [a] at b
    cases b; rfl
/-- the caller's footprints behind the call -/
def bF (ls : List (Option Nat)) (fps fps' : Nat → As) : Nat → As := fun i b => (∃ j : Nat, ls[j]? = some (some i) ∧ fps' j b) ∨ (¬ isLent ls i ∧ fps i b)
/-- the caller's state behind the call -/
theorem SOk.leave {H' : Hp} {f : As} {r : List SV} {fps' : Nat → As} (I : SOk K L T env σ H fps) (A : ArgsOk K (fr T H fps) env σ ls svs vs) (nd : (ls.filterMap id).Nodup)
    (J : SOk K (cL ls vs) (or' f (cT ls T fps)) (lentOnly r) (vs.map some) H' fps') (df : Dis f (cT ls T fps)) (st : Stp (cT ls T fps) H (cF ls fps) (or' f (cT ls T fps)) H' fps') :
    SOk K L (or' f T) (lentBack ls r env) σ H' (bF ls fps fps') ∧ fr (or' f T) H' (bF ls fps fps') = fr (or' f (cT ls T fps)) H' fps' ∧ Dis f T ∧ Stp T H fps (or' f T) H' (bF ls fps fps') := by
  have hlen : r.length = ls.length := by
    have := J.len
    simp only [lentOnly, List.length_map] at this
    rw [this, A.l2]
  obtain ⟨b1, b2, b3⟩ := lentBack_at (env := env) nd hlen
  -- a slot of the callee that owns something is a lent one
  have lentOf : ∀ j b, fps' j b → ∃ i, ls[j]? = some (some i) := fun j b hb => by
    refine Classical.byContradiction fun hn => ?_
    have : fps' j = none' := J.out j fun l k d e => ?_
    · rw [this] at hb; exact hb
    · obtain ⟨v, e1, e2, e3⟩ := J.slot j l k d e
      have hl := (lentOnly_get e).1
      obtain ⟨⟨i, hi⟩, _⟩ := cL_mem.mp (e3 hl)
      exact hn ⟨i, hi⟩
  have allE : ∀ b, all' (or' f T) (bF ls fps fps') b ↔ all' (or' f (cT ls T fps)) fps' b := fun b => by
    constructor
    · rintro ((h | h) | ⟨i, (⟨j, hj, h⟩ | ⟨hn, h⟩)⟩)
      · exact .inl (.inl h)
      · exact .inl (.inr (.inl h))
      · exact .inr ⟨j, h⟩
      · exact .inl (.inr (.inr ⟨i, hn, h⟩))
    · rintro ((h | (h | ⟨i, hn, h⟩)) | ⟨j, h⟩)
      · exact .inl (.inl h)
      · exact .inl (.inr h)
      · exact .inr ⟨i, .inr ⟨hn, h⟩⟩
      · obtain ⟨i, hi⟩ := lentOf j b h
        exact .inr ⟨i, .inl ⟨j, hi, h⟩⟩
  have frE : fr (or' f T) H' (bF ls fps fps') = fr (or' f (cT ls T fps)) H' fps' := by
    have : all' (or' f T) (bF ls fps fps') = all' (or' f (cT ls T fps)) fps' := funext fun b => propext (allE b)
    unfold fr
    rw [this]
  have leF : Le (fr T H fps) (fr (or' f T) H' (bF ls fps fps')) := by
    rw [frE, ← fr_c (ls := ls)]
    exact st.le
  have notC : ∀ {i : Nat} {b : Addr}, ¬ isLent ls i → fps i b → cT ls T fps b := fun hn h => .inr ⟨_, hn, h⟩
  refine ⟨⟨b1.trans I.len, fun i b x y => ?_, fun i i' ne b x y => ?_, fun b z => J.trk b ((allE b).mp z), fun i l k d e => ?_, fun i q => ?_, I.lu, fun q hq => leF.ex q _ (I.tab q hq)⟩, frE, fun b x y => df b x (.inl y), ⟨fun b hb => st.aside b (.inl hb), leF⟩⟩
  · rcases x with ⟨j, hj, x⟩ | ⟨hn, x⟩
    · rcases y with y | y
      · exact J.disT j b x (.inl y)
      · exact J.disT j b x (.inr (.inl y))
    · rcases y with y | y
      · exact df b y (notC hn x)
      · exact I.disT i b x y
  · rcases x with ⟨j, hj, x⟩ | ⟨hn, x⟩
    · rcases y with ⟨j', hj', y⟩ | ⟨hn', y⟩
      · refine J.dis j j' (fun e => ne ?_) b x y
        subst e
        rw [hj] at hj'
        cases hj'; rfl
      · exact J.disT j b x (.inr (notC hn' y))
    · rcases y with ⟨j', hj', y⟩ | ⟨hn', y⟩
      · exact J.disT j' b y (.inr (notC hn x))
      · exact I.dis i i' ne b x y
  · by_cases hl : isLent ls i
    · obtain ⟨j, hj⟩ := hl
      obtain ⟨sv, v, e1, e2, e3⟩ := A.at_ j _ hj
      cases e3 with
      | @l _ l0 k0 d0 _ he hσ =>
        obtain ⟨c1, c2⟩ := b3 i j l0 k0 d0 hj he
        by_cases hr : ∃ k' d', r[j]? = some (.sv true k' d')
        · obtain ⟨k', d', hr⟩ := hr
          rw [c1 k' d' hr] at e
          cases e
          obtain ⟨w, w1, w2, w3⟩ := J.slot j true k d (by unfold lentOnly; rw [List.getElem?_map, hr]; rfl)
          rw [List.getElem?_map, e2] at w1
          cases w1
          refine ⟨v, hσ, ?_, fun hl' => ?_⟩
          · have ef : bF ls fps fps' i = fps' j := by
              funext b
              refine propext ⟨fun z => ?_, fun z => .inl ⟨j, hj, z⟩⟩
              rcases z with ⟨j', hj', z⟩ | ⟨hn, _⟩
              · rw [lent_uniq nd hj hj']; exact z
              · exact absurd ⟨j, hj⟩ hn
            rw [ef, show hid H' (all' (or' f T) (bF ls fps fps')) = _ from frE]
            exact w2
          · obtain ⟨u, u1, u2, u3⟩ := I.slot i l k0 d0 he
            rw [hσ] at u1
            cases u1
            exact u3 hl'
        · rw [c2 fun k' d' z => hr ⟨k', d', z⟩] at e
          cases e
    · rw [b2 i fun j hj => hl ⟨j, hj⟩] at e
      obtain ⟨v, v1, v2, v3⟩ := I.slot i l k d e
      refine ⟨v, v1, ?_, v3⟩
      have ef : bF ls fps fps' i = fps i := by
        funext b
        refine propext ⟨fun z => ?_, fun z => .inr ⟨hl, z⟩⟩
        rcases z with ⟨j', hj', z⟩ | ⟨_, z⟩
        · exact absurd ⟨j', hj'⟩ hl
        · exact z
      rw [ef]
      exact v2.keep k leF fun b hb => st.aside b (notC hl hb)
  · funext b
    refine propext ⟨fun z => ?_, fun z => z.elim⟩
    rcases z with ⟨j, hj, z⟩ | ⟨hn, z⟩
    · obtain ⟨sv, v, e1, e2, e3⟩ := A.at_ j _ hj
      cases e3 with
      | @l _ l0 k0 d0 _ he hσ =>
        obtain ⟨c1, c2⟩ := b3 i j l0 k0 d0 hj he
        by_cases hr : ∃ k' d', r[j]? = some (.sv true k' d')
        · obtain ⟨k', d', hr⟩ := hr
          exact absurd (c1 k' d' hr) (q _ _ _)
        · have : fps' j = none' := J.out j fun l k d e => hr ⟨k, d, (lentOnly_get e).2⟩
          rw [this] at z
          exact z
    · have := I.out i fun l k d e => q l k d (by rw [b2 i fun j hj => hn ⟨j, hj⟩]; exact e)
      rw [this] at z
      exact z
end
section
variable {G : Gh}
/-- the call, from what its arguments gave -/
theorem call_run {fi n k : Nat} {pm : Option (List Nat)} {ar : Ar} {ds : List PyData} {env : EnvD} {T : As} {H0 H : Hp} {fps0 fps : Nat → As} {σ : L2.St} {vs : List V} {Q : VK} (I : SOk G.K G.L T env σ H fps) (st : Stp T H0 fps0 T H fps) (A : ArV G.K (fr T H fps) σ ar ds vs) (hn : (lents ar).length = n)
    (hq : Out (callD G.c fi k pm (lents ar) ds env) (fun r => ∀ v H', VOut G T H0 fps0 σ k r v H' → Q v H') (XW G T H0 fps0)) : spF G.K G.XI G.c fi n (permV pm vs) H Q G.EX := by
  unfold callD at hq
  obtain ⟨nd, hq⟩ := hq.ite_bad
  obtain ⟨svs', e1, hq⟩ := hq.of_bind
  obtain ⟨ls', e2, hq⟩ := hq.of_bind
  obtain ⟨svs, e3, e4⟩ := Option.bind_eq_some_iff.mp e1
  obtain ⟨A', nd', hl⟩ := (args_of A e3).perm e4 e2
  have nd' := nd' nd
  refine ⟨by rw [A'.l2, hl, hn], cL ls' (permV pm vs), cT ls' T fps, svs', cF ls' fps, I.enter A' nd', fun p hp => (cL_mem.mp hp).2, hq.bind.mono (fun r _ hr v H' ho => ?_) fun x _ hx cls a H' kp le xi => ?_⟩
  · obtain ⟨hk, hr⟩ := hr.ite_bad
    obtain ⟨fps', f, J, R, df, st'⟩ := ho
    obtain ⟨J2, frE, df2, st2⟩ := I.leave A' nd' J df st'
    refine (show ∀ v H', VOut G T H0 fps0 σ k (r.1, lentBack ls' r.2 env) v H' → Q v H' from hr) v H' ?_
    rw [← frE] at R
    by_cases hc : isCont r.1 = false ∨ k = 0
    · obtain ⟨J3, le3⟩ := J2.show
      have hd : Dat G.K (fr T H' (bF ls' fps fps')) v r.1 := by
        refine R.dat _ le3 fun b hb => ?_
        refine hid_out ?_
        rintro (z | ⟨i, z⟩)
        · exact df2 b hb z
        · exact J2.disT i b z (.inl hb)
      exact .of0 J3 hd hc (st.tr ⟨st2.aside, st2.le.trans le3⟩)
    · have hk : k = G.c.ret fi := by
        rcases hk with z | z | z
        · exact absurd (.inl z) hc
        · exact absurd (.inr z) hc
        · exact z
      subst hk
      exact ⟨_, f, J2, R, df2, st.tr st2⟩
  · refine hx cls a H' (fun b hb => (kp b (.inl hb)).trans (st.aside b hb)) ?_ xi
    rw [fr_c] at le
    exact st.le.trans (le.trans (hid_mono fun b hb => .inl hb))
end
end Fx
set_option Elab.async false
set_option linter.all false
set_option maxRecDepth 100000
/-! M23: calls and comprehensions as rules. -/
namespace Fx
open PySem PySem.Spec PyProof.Rows L2
def Ar.app : Ar → Ar → Ar
  | .nil, b => b
  | .v e as, b => .v e (as.app b)
  | .l i as, b => .l i (as.app b)
theorem Rs.bind_ok {α β : Type} {r : Rs α} {f : α → Rs β} {b : β} (h : r.bind f = .ok b) : ∃ a, r = .ok a ∧ f a = .ok b := by
  cases r with
  | ok a => exact ⟨a, rfl, h⟩
  | ex x => cases h
  | bad => cases h
theorem Rs.bind_assoc {α β γ : Type} (r : Rs α) (f : α → Rs β) (g : β → Rs γ) : (r.bind f).bind g = r.bind fun a => (f a).bind g := by cases r <;> rfl
theorem evR_app {c : Orc} : ∀ {a b : Ar} {env : EnvD}, evR c (a.app b) env = (evR c a env).bind fun r => (evR c b r.2).bind fun z => .ok (r.1 ++ z.1, z.2)
  | .nil, b, env => by
    simp only [Ar.app, evR]
    show evR c b env = (evR c b env).bind _
    cases evR c b env <;> rfl
  | .v e as, b, env => by
    simp only [Ar.app, evR]
    cases ev c e 0 env with
    | ok r =>
      show (evR c (as.app b) r.2).bind _ = ((evR c as r.2).bind _).bind _
      rw [evR_app, Rs.bind_assoc, Rs.bind_assoc]
      cases evR c as r.2 with
      | ok z =>
        show ((evR c b z.2).bind _).bind _ = (evR c b z.2).bind _
        cases evR c b z.2 <;> rfl
      | ex x => rfl
      | bad => rfl
    | ex x => rfl
    | bad => rfl
  | .l i as, b, env => by
    simp only [Ar.app, evR]
    split
    · exact evR_app
    · rfl
theorem lents_app : ∀ {a b : Ar}, lents (a.app b) = lents a ++ lents b
  | .nil, _ => rfl
  | .v _ as, b => by simp only [Ar.app, lents]; rw [lents_app]; rfl
  | .l _ as, b => by simp only [Ar.app, lents]; rw [lents_app]; rfl
theorem ArV.app {K : PySem.W.Frag} {F : Hp} {σ : L2.St} : ∀ {a b : Ar} {ds es : List PyData} {vs ws : List V}, ArV K F σ a ds vs → ArV K F σ b es ws → ArV K F σ (a.app b) (ds ++ es) (vs ++ ws)
  | _, _, _, _, _, _, .nil, h => h
  | _, _, _, _, _, _, .v hd t, h => .v hd (t.app h)
  | _, _, _, _, _, _, .l hd t, h => .l hd (t.app h)
theorem ArV.len {K : PySem.W.Frag} {F : Hp} {σ : L2.St} : ∀ {a : Ar} {ds : List PyData} {vs : List V}, ArV K F σ a ds vs → vs.length = (lents a).length
  | _, _, _, .nil => rfl
  | _, _, _, .v _ t => congrArg (· + 1) t.len
  | _, _, _, .l _ t => congrArg (· + 1) t.len
/-- the values of keywords -/
inductive PKr (G : Gh) (X : Cx) (c : Orc) : Ar → List Keyword → List Str → Prop
  | nil : PKr G X c .nil [] []
  | v {e : E} {es : Ar} {a : Expr} {as : List Keyword} {nm : Str} {p : Pos} {ks : List Str} : PEk G X c e a → PKr G X c es as ks → PKr G X c (.v e es) (⟨some nm, a, p⟩ :: as) (nm :: ks)
  | l {i : Nat} {es : Ar} {a : Expr} {as : List Keyword} {nm : Str} {p : Pos} {ks : List Str} : PE X a (tP G (.at i)) → PKr G X c es as ks → PKr G X c (.l i es) (⟨some nm, a, p⟩ :: as) (nm :: ks)
section
variable {Γ : Gam} {G : Gh} {X : Cx}
theorem _root_.L2.PK.weaken {X : Cx} {e : List Keyword} {t t' : TA} (h : PK X e t) (w : ∀ σ H Q, t' σ H Q → t σ H Q) : PK X e t' := ⟨fun pos pins s σ H Q I q => h.run pos pins s σ H Q I (w σ H Q q)⟩
theorem pk_args : ∀ {ar : Ar} {kws : List Keyword} {ks : List Str}, PKr G X G.c ar kws ks → PK X kws (tR G ar) ∧ (∀ pos, (backToKw pos (keywordEach kws X.env)).all (·.1.isSome) = true ∧ (backToKw pos (keywordEach kws X.env)).filterMap (·.1) = ks ∧ (backToKw pos (keywordEach kws X.env)).any (·.1.isNone) = false) ∧ (lents ar).length = ks.length
  | _, _, _, .nil => ⟨pk_nil.weaken fun σ H Q ⟨T, env, fps, I, h⟩ => by
      simp only [evR] at h
      exact h [] H fps I .nil (Stp.refl _ _ _), fun pos => ⟨rfl, rfl, rfl⟩, rfl⟩
  | _, _, _, .v h t => by
    obtain ⟨p1, p2, p3⟩ := pk_args t
    refine ⟨(pk_cons (h.v 0) p1).weaken fun σ H Q ⟨T, env, fps, I, hq⟩ => ?_, fun pos => ?_, congrArg (· + 1) p3⟩
    · simp only [evR] at hq
      refine ⟨T, env, fps, I, hq.bind.mono (fun r _ hr v H1 ho => ?_) fun _ _ z => z⟩
      obtain ⟨fps1, I1, d1, st1⟩ := ho.zero
      refine ⟨T, r.2, fps1, I1, hr.bind.mono (fun z _ hz vs H2 fps2 I2 a2 st2 => ?_) fun _ _ z => z.step0 st1⟩
      exact hz (v :: vs) H2 fps2 I2 (.v (d1.mono st2.le) a2) (st1.tr st2)
    · obtain ⟨q1, q2, q3⟩ := p2 pos
      exact ⟨q1, congrArg (List.cons _) q2, q3⟩
  | _, _, _, .l h t => by
    obtain ⟨p1, p2, p3⟩ := pk_args t
    refine ⟨(pk_cons h p1).weaken fun σ H Q ⟨T, env, fps, I, hq⟩ => ?_, fun pos => ?_, congrArg (· + 1) p3⟩
    · simp only [evR] at hq
      obtain ⟨h1, h2⟩ := hq.ite_bad
      obtain ⟨⟨j, d⟩, e⟩ := Option.isSome_iff_exists.mp h1
      refine ⟨T, env, fps, I, j, d, e, fun v fp _ _ hx => ⟨T, env, fps, I, h2.mono (fun z _ hz vs H2 fps2 I2 a2 st2 => ?_) fun _ _ z => z⟩⟩
      exact hz (v :: vs) H2 fps2 I2 (.l (hx _ rfl) a2) st2
    · obtain ⟨q1, q2, q3⟩ := p2 pos
      exact ⟨q1, congrArg (List.cons _) q2, q3⟩
theorem par_star : ∀ {ar : Ar} {as : List Expr}, PAr G X G.c ar as → noStar as = true
  | _, _, .nil => rfl
  | _, _, .v _ hs t => by simp only [noStar, List.all_cons, Bool.and_eq_true]; exact ⟨hs, par_star t⟩
  | _, _, .l _ hs t => by simp only [noStar, List.all_cons, Bool.and_eq_true]; exact ⟨hs, par_star t⟩
theorem k_call {f : Nat} {ar : Ar} {x : Str} {ps : List Str} {as : List Expr} {p pos : Pos} (ok : Ok Γ G X) (hf : Γ.fns[f]? = some (x, ps)) (hg : isGl Γ x = true) (h : PAr G X G.c ar as) (hn : (lents ar).length = ps.length) : PEk G X G.c (.call f none ar) (.Call (.Name x p) as [] pos) := by
  refine ne_p (fun k => ?_) rfl
  obtain ⟨fa, fd, m1, m2, m3, m4, m5⟩ := ok.fns f x ps hf
  obtain ⟨g1', g2'⟩ := ok.gl hg
  obtain ⟨n1, n2, n3⟩ := okName_1 g2'
  have fin : ∀ σ H Q, tV G k (ev G.c (.call f none ar) k) σ H Q → tCall (spF G.K G.XI G.c f ps.length) [] G.EX (tR G ar) σ H Q := fun σ H Q ⟨T, env, fps, I, hq⟩ => by
    simp only [ev] at hq
    refine ⟨T, env, fps, I, hq.bind.mono (fun r _ hr vs H1 fps1 I1 A1 st1 => ?_) fun _ _ z => z⟩
    show spF G.K G.XI G.c f ps.length (vs ++ []) H1 Q G.EX
    rw [List.append_nil]
    exact call_run (pm := none) I1 st1 A1 hn hr
  cases as with
  | nil =>
    cases h
    exact (pe_call0 m3 ok.room g1' m1 m2 m4 .nil ok.pass n1).weaken fun σ H Q hq => by
      have := fin σ H Q hq
      obtain ⟨T, env, fps, I, hq⟩ := this
      simp only [evR] at hq
      exact hq [] H fps I .nil (Stp.refl _ _ _)
  | cons a as =>
    have hs : noStar1 a = true ∧ noStar as = true := by simpa [noStar] using par_star h
    exact (pe_call m3 ok.room g1' m1 m2 m4 .nil ok.pass (pa_args h) n1 (star_cons hs.1) (star_any hs.2)).weaken fin
theorem k_callK {f : Nat} {ar ak : Ar} {js : List Nat} {x : Str} {ps ks : List Str} {a : Expr} {as : List Expr} {kws : List Keyword} {p pos : Pos} (ok : Ok Γ G X) (hf : Γ.fns[f]? = some (x, ps)) (hg : isGl Γ x = true) (h : PAr G X G.c ar (a :: as)) (h' : PKr G X G.c ak kws ks)
    (hk : (f, (lents ar).length, ks, js) ∈ Γ.kws) (hn : (lents ar).length + (lents ak).length = ps.length) : PEk G X G.c (.call f (some js) (ar.app ak)) (.Call (.Name x p) (a :: as) kws pos) := by
  refine ne_p (fun k => ?_) rfl
  obtain ⟨fa, fd, m1, m2, m3, m4, m5⟩ := ok.fns f x ps hf
  obtain ⟨g1', g2'⟩ := ok.gl hg
  obtain ⟨n1, n2, n3⟩ := okName_1 g2'
  have hs : noStar1 a = true ∧ noStar as = true := by simpa [noStar] using par_star h
  obtain ⟨q1, q2, q3⟩ := pk_args h'
  obtain ⟨r1, r2, r3⟩ := q2 pos
  refine (pe_callN m3 ok.room g1' m1 m2 (m5 _ ks js hk) ok.pass (pa_args h) q1 r1 r2 n1 (star_cons hs.1) (by rw [r3, star_cons hs.1]; show (false || (backTo pos (starEach as X.env)).any (·.1) || false) = false; rw [star_any hs.2]; rfl)).weaken fun σ H Q ⟨T, env, fps, I, hq⟩ => ?_
  simp only [ev] at hq
  rw [evR_app, Rs.bind_assoc] at hq
  refine ⟨T, env, fps, I, hq.bind.mono (fun r _ hr vs H1 fps1 I1 A1 st1 => ⟨T, r.2, fps1, I1, ?_⟩) fun _ _ z => z⟩
  rw [Rs.bind_assoc] at hr
  refine hr.bind.mono (fun z _ hz ws H2 fps2 I2 A2 st2 => ⟨A1.len, by rw [A2.len, q3], ?_⟩) fun _ _ z => z.step0 st1
  exact call_run (pm := some js) I2 (st1.tr st2) ((A1.mono st2.le).app A2) (by rw [lents_app, List.length_append]; exact hn) hz
theorem k_callK0 {f : Nat} {ak : Ar} {js : List Nat} {x : Str} {ps ks : List Str} {kws : List Keyword} {p pos : Pos} (ok : Ok Γ G X) (hf : Γ.fns[f]? = some (x, ps)) (hg : isGl Γ x = true) (h' : PKr G X G.c ak kws ks)
    (hk : (f, 0, ks, js) ∈ Γ.kws) (hn : (lents ak).length = ps.length) : PEk G X G.c (.call f (some js) ak) (.Call (.Name x p) [] kws pos) := by
  refine ne_p (fun k => ?_) rfl
  obtain ⟨fa, fd, m1, m2, m3, m4, m5⟩ := ok.fns f x ps hf
  obtain ⟨g1', g2'⟩ := ok.gl hg
  obtain ⟨n1, n2, n3⟩ := okName_1 g2'
  obtain ⟨q1, q2, q3⟩ := pk_args h'
  obtain ⟨r1, r2, r3⟩ := q2 pos
  refine ⟨fun pins s σ H Q I ⟨T, env, fps, J, hq⟩ => ?_⟩
  simp only [ev] at hq
  refine wpAny_Call_Name_kw (ld_glob I g1' m1 ?_ n1)
  refine PySem.W.callWith_KW0 (h₀ := X.base) I.ok.mod.kin m2 r1 ?_ (by rw [r3]; rfl)
  refine thn (q1.run pos pins s σ H (fun ws H2 => ws.length = ks.length ∧ spF G.K G.XI G.c f ps.length (permL js ([] ++ ws)) H2 Q G.EX) I ⟨T, env, fps, J, hq.bind.mono (fun z _ hz ws H2 fps2 I2 A2 st2 => ?_) fun _ _ z => z⟩) fun us s2 ⟨zs, H2, I2, rz, l2, hs⟩ => ⟨I2.kIn, ?_⟩
  · refine ⟨by rw [A2.len, q3], ?_⟩
    exact call_run (pm := some js) I2 st2 A2 hn hz
  · rw [r2]
    exact run_fnN (us := []) (vs := []) m3 ok.room (m5 0 ks js hk) ok.pass I2 .nil rz rfl l2 hs
/-! ### comprehensions -/
def Gam.blk (Γ : Gam) (scope : Scope) : Gam := { Γ with sc := relS scope Γ.sc, st := false }
theorem Ok.blk (ok : Ok Γ G X) (scope : Scope) (s : Shared) (H : Hp) (C : Addr) (cl : List (Str × Addr)) (fp : List Addr) : Ok (Γ.blk scope) G.blk (X.blk s H scope (compEnvC scope cl C X.env) fp) where
  hK := ok.hK
  hN := ok.hN
  nd := ok.nd
  sc := by show relS scope X.env.scope = relS scope Γ.sc; rw [ok.sc]
  calm := ok.calm
  hu := ok.hu
  blt := ok.blt
  con := ok.con
  room := ok.room
  code := ok.code
  pass := fun pins σ H s e s' _ h => (ok.passN _ _ _ _ _ h).elim
  own := PassesOwn.never
  cel := fun x h => by cases h
  passN := ok.passN
  fns := ok.fns
def swB (Γ : Gam) (y : Str) (py pos : Pos) (scope : Scope) : Bool := isFun Γ && isLocal Γ y && (py.line == pos.line) && !(scope.names.any fun (n, k) => n == y && (k == .local || k == .cell))
theorem k_lc {own : List Nat} {tg : Tg} {it : It} {ts : Tts} {e : E} {tx ix ex : Expr} {ifs : List Expr} {scope : Scope} {ownP : List (Str × Nat)} {pos : Pos} (ok : Ok Γ G X) (sub : ∀ j ∈ tg.slots, j ∈ own) (hp : ownP.map (·.2) = own) (hb : blkC Γ.N Γ.sc scope ownP = true) (hi : PI X tx ix (tI G (evI G.c it)))
    (ht : ∀ X', Ok (Γ.blk scope) G.blk X' → PG X' tx (tG G.blk tg)) (hc : ∀ X', Ok (Γ.blk scope) G.blk X' → PTs X' ifs (tT G.blk (evTs G.c ts))) (he : ∀ X', Ok (Γ.blk scope) G.blk X' → PEk G.blk X' G.c e ex) (hs : okIter ix = true) : PEk G X G.c (.lc own tg it ts e) (.ListComp ex [⟨tx, ix, ifs, 0⟩] scope pos) := by
  refine ne_p (fun k => ?_) rfl
  subst hp
  have bo : BlkOk X.N X.env.scope scope ownP := blkOk_by (by rw [ok.hN, ok.sc]; exact hb)
  refine (pe_lc ok.calm (by rw [ok.hN]; exact ok.nd) hi bo (fun s H C cl fp => ht _ (ok.blk scope s H C cl fp)) (fun s H C cl fp => hc _ (ok.blk scope s H C cl fp)) (fun s H C cl fp => (he _ (ok.blk scope s H C cl fp)).v (k - 1)) (iter_ok hs)).weaken fun σ H Q hq => lc_run sub hq
theorem sw_val (ok : Ok Γ G X) {ex : Expr} {gs : List Comprehension} {scope : Scope} {pos py : Pos} {y : Str} {l : Nat} (hf : isFun Γ = true) : swapsWith (.ListComp ex gs scope pos) (some (.Name y py)) l X.env = pure (swB Γ y py pos scope) := by
  obtain ⟨b1, b2⟩ := blk_fun ok hf
  unfold swapsWith swB isLocal
  simp only [b1, hf, Expr.pos]
  show (pure _ : Sem Bool) = pure _
  congr 1
  have e : (X.env.kindOf y == some .local) = decide (Γ.sc.names.lookup y = some .local) := by
    rw [← ok.sc]
    show (X.env.scope.names.lookup y == some .local) = _
    by_cases h : X.env.scope.names.lookup y = some .local
    · rw [h]; simp
    · simp only [h, decide_false]
      simpa using h
  rw [e]
  rfl
theorem s_nmlc {i k : Nat} {own : List Nat} {tg : Tg} {it : It} {ts : Tts} {e : E} {tx ix ex : Expr} {ifs : List Expr} {scope : Scope} {ownP : List (Str × Nat)} {y : Str} {py pos spos : Pos} {rk : Nat} (ok : Ok Γ G X) (hf : isFun Γ = true) (hy : Γ.N[i]? = some y) (hx : isSto Γ y = true)
    (sub : ∀ j ∈ tg.slots, j ∈ own) (hp : ownP.map (·.2) = own) (hb : blkC Γ.N Γ.sc scope ownP = true) (hi : PI X tx ix (tI G (evI G.c it)))
    (ht : ∀ X', Ok (Γ.blk scope) G.blk X' → PG X' tx (tG G.blk tg)) (hc : ∀ X', Ok (Γ.blk scope) G.blk X' → PTs X' ifs (tT G.blk (evTs G.c ts))) (he : ∀ X', Ok (Γ.blk scope) G.blk X' → PEk G.blk X' G.c e ex) (hs : okIter ix = true) :
    PS X (.Assign [.Name y py] (.ListComp ex [⟨tx, ix, ifs, 0⟩] scope pos) spos) (tS G rk (exS G.c rk (.as (.nm i) k (.lc own tg it ts e)))) := by
  have hsw := sw_val (ex := ex) (gs := [⟨tx, ix, ifs, 0⟩]) (scope := scope) (pos := pos) (py := py) (y := y) (l := spos.line) ok hf
  cases hB : swB Γ y py pos scope with
  | false =>
    obtain ⟨h1, h2⟩ := sto_ok ok hx
    rw [hB] at hsw
    exact (ps_set (i := i) (by rw [ok.hN]; exact ok.nd) (by rw [ok.hN]; exact hy) h1 ((k_lc (pos := pos) ok sub hp hb hi ht hc he hs).v k) hsw h2).weaken fun D σ H hq => nm_out hq
  | true =>
    rw [hB] at hsw
    have hyl : isLocal Γ y = true := by
      unfold swB at hB
      simp only [Bool.and_eq_true] at hB
      exact hB.1.1.2
    subst hp
    have bo : BlkOk X.N X.env.scope scope ownP := blkOk_by (by rw [ok.hN, ok.sc]; exact hb)
    refine (ps_setLc (i := i) ok.calm (by rw [ok.hN]; exact ok.nd) (by rw [ok.hN]; exact hy) (kind_loc ok hyl).2 hsw hi bo (fun s H C cl fp => ht _ (ok.blk scope s H C cl fp)) (fun s H C cl fp => hc _ (ok.blk scope s H C cl fp)) (fun s H C cl fp => (he _ (ok.blk scope s H C cl fp)).v (k - 1)) (iter_ok hs)).weaken fun D σ H hq => lc_run sub (nm_out hq)
end
end Fx
set_option Elab.async false
set_option linter.all false
set_option maxRecDepth 100000
/-! G1: pure expressions run quietly, in a generator expression's own frame. -/
namespace Fx
open PySem PySem.Spec PyProof.Rows L2
theorem keeps0 (s : Shared) : Keeps s s := ⟨s.heap, s.toks, rfl, fun _ _ e => e⟩
theorem keepsT (s : Shared) (k : Nat) : Keeps s { s with toks := k } := ⟨s.heap, k, rfl, fun _ _ e => e⟩
theorem kp_tr {a b c : Shared} (h : Keeps a b) (g : Keeps b c) : Keeps a c := by
  obtain ⟨h1, t1, rfl, k1⟩ := h
  obtain ⟨h2, t2, rfl, k2⟩ := g
  exact ⟨h2, t2, rfl, fun x o e => k2 x o (k1 x o e)⟩
theorem kp_get {a b : Shared} (h : Keeps a b) : ∀ x o, a.heap.get? x = some o → b.heap.get? x = some o := by
  obtain ⟨h1, t1, rfl, k1⟩ := h
  exact k1
/-- the name x has the value u in the frame -/
def NameIs (env : PySem.Env) (h : Heap) (x : Str) (u : Value) : Prop := (env.kindOf x = some .local ∧ ∃ m, h.Ns env.locals m ∧ m x = some u) ∨ (env.kindOf x = some .free ∧ ∃ c, env.cells.lookup x = some c ∧ h.IsCell c (some u))
theorem NameIs.keep {env : PySem.Env} {h h' : Heap} {x : Str} {u : Value} (q : NameIs env h x u) (k : ∀ b o, h.get? b = some o → h'.get? b = some o) : NameIs env h' x u := by
  rcases q with ⟨q1, m, q2, q3⟩ | ⟨q1, c, q2, q3⟩
  · exact .inl ⟨q1, m, q2.keeps k, q3⟩
  · exact .inr ⟨q1, c, q2, q3.keeps k⟩
/-- what is known where an element is reckoned -/
structure QS (Pr : Program) (w : World) (K : PySem.W.Frag) (mg : Str → Option Value) (F H : Hp) (cenv : PySem.Env) (N : List Str) (env : EnvD) (s : Shared) : Prop where
  le : Le F H
  hok : HOk Pr w H s.heap
  kin : K.In s.heap
  glob : s.heap.Ns mainGlobals mg
  slot : ∀ (i : Nat) (l : Bool) (k : Nat) (d : PyData) (x : Str), env[i]? = some (SV.sv l k d) → N[i]? = some x → ∃ v u fp, RelV v u ∧ Rep K F H k v d fp ∧ (Vis cenv.scope x → NameIs cenv s.heap x u)
theorem QS.keep {Pr : Program} {w : World} {K : PySem.W.Frag} {mg : Str → Option Value} {F H : Hp} {cenv : PySem.Env} {N : List Str} {env : EnvD} {s s' : Shared} (q : QS Pr w K mg F H cenv N env s) (k : Keeps s s') : QS Pr w K mg F H cenv N env s' :=
  ⟨q.le, q.hok.kept (kp_get k), q.kin.keeps (kp_get k), q.glob.keeps (kp_get k), fun i l j d x h1 h2 => by
    obtain ⟨v, u, fp, a, b, c⟩ := q.slot i l j d x h1 h2
    exact ⟨v, u, fp, a, b, fun z => (c z).keep (kp_get k)⟩⟩
section
variable {Pr : Program} {w : World} {K : PySem.W.Frag} {H : Hp} {h : Heap}
theorem sq_list {a : Addr} {xs : List V} (ho : HOk Pr w H h) (hk : K.In h) (q : SqL K H a xs) : ∃ its : List Value, Vals xs its ∧ PlainL h a its.toArray ∧ xs.length ≤ sizeLine := by
  rcases q with q | ⟨ob, its, m, q1, q2, q3, q4, q5, q6⟩
  · obtain ⟨q1, its, m, q2, q3⟩ := q.ok ho
    exact ⟨its, q2, ⟨_, m, q3, rfl, rfl, rfl⟩, q1⟩
  · have hl := q6.length
    refine ⟨its.toList, q6, ⟨ob, m, hk a ob q1, q2, q3, by simpa using q4⟩, ?_⟩
    have e2 : its.toList.length = its.size := Array.length_toList
    omega
theorem sq_tup {a : Addr} {xs : List V} (ho : HOk Pr w H h) (hk : K.In h) (q : SqT K H a xs) : ∃ its : List Value, Vals xs its ∧ IsTup h a its.toArray ∧ xs.length ≤ sizeLine := by
  rcases q with q | ⟨ob, its, m, q1, q2, q4, q5, q6⟩
  · obtain ⟨q1, its, q2, q3⟩ := q.ok ho
    exact ⟨its, q2, q3, q1⟩
  · have hl := q6.length
    refine ⟨its.toList, q6, ⟨ob, hk a ob q1, q2, m, by simpa using q4⟩, ?_⟩
    have e2 : its.toList.length = its.size := Array.length_toList
    omega
end
/-- pure forms that are taken here -/
def qOk : P → Bool
  | .k _ => true
  | .at _ => true
  | .g _ => true
  | .ix a b => qOk a && qOk b
  | .b2 o a b => (match o with
    | .add => true | .sub => true | .mul => true | .fdiv => true | .mod => true
    | _ => false) && qOk a && qOk b
  | .p1 .neg a => qOk a
  | .p1 _ _ => false
section
variable {Pr : Program} {w : World} {K : PySem.W.Frag} {mg : Str → Option Value} {F H : Hp} {cenv : PySem.Env} {Γ : Gam} {c : Orc}
theorem q_con {A : Around} {E : Value → Shared → Prop} {s : Shared} {d : PyData} {c : Const} {i : Nat} {pos : Pos} {Q : Value → Shared → Prop} (h : conOk d c = true) (q : ∀ y s' v, Keeps s s' → RelV v y → Dat K F v d → Q y s') :
    wpAny (model Pr w) A (eval (.Constant c i pos) cenv) Q E s := by
  cases d <;> cases c <;> first
    | (cases h; done)
    | (simp [conOk] at h; done)
    | skip
  · exact Constant_none (q _ _ .non (keeps0 _) rfl .non)
  · rename_i a b
    have e : a = b := by simpa [conOk] using h
    subst e
    exact Constant_bool (q _ _ (.bl a) (keeps0 _) rfl (.bl a))
  · rename_i a b
    have e : a = b := by simpa [conOk] using h
    subst e
    exact wpAny_Constant_int (q _ _ (.int a) (keepsT _ _) ⟨_, rfl⟩ (.int a))
  · rename_i a b
    have e : a = b := by simpa [conOk] using h
    subst e
    exact Calls.Constant_str (q _ _ (.str a) (keepsT _ _) ⟨_, rfl⟩ (.str a))
/-- two ints -/
theorem q_int2 {A : Around} {E : Value → Shared → Prop} {s : Shared} {o : B2} {i j : Int} {t u : Tok} {r : PyData} {Q : Value → Shared → Prop} (ho : (match o with | .add => true | .sub => true | .mul => true | .fdiv => true | .mod => true | _ => false) = true) (hr : b2 o (.int i) (.int j) = some r) (q : ∀ y s' v, Keeps s s' → RelV v y → Dat K F v r → Q y s') :
    wpAny (model Pr w) A (binaryOp (bop o) (.int i t) (.int j u)) Q E s := by
  have fin : ∀ z : Int, r = .int z → Q (.int z s.toks) { s with toks := s.toks + 1 } := fun z e => q _ _ (.int z) (keepsT _ _) ⟨_, rfl⟩ (by rw [e]; exact .int z)
  cases o <;> first | (cases ho; done) | skip
  · exact add_int (fin _ (by simpa [b2] using hr.symm))
  · exact sub_int (fin _ (by simpa [b2] using hr.symm))
  · simp only [b2] at hr
    split at hr
    · rename_i hl
      exact mul_int (fin _ (by simpa using hr.symm)) (mulOk hl)
    · cases hr
  · simp only [b2] at hr
    split at hr
    · rename_i hl
      exact floordiv_int hl.1 (fin _ (by simpa using hr.symm)) (.inl (PyProof.noPylong_of_log2 hl.2))
    · cases hr
  · simp only [b2] at hr
    split at hr
    · rename_i hl
      exact mod_int' hl (fin _ (by simpa using hr.symm))
    · cases hr
theorem q_strs {A : Around} {E : Value → Shared → Prop} {s : Shared} {i j : Str} {t u : Tok} {r : PyData} {Q : Value → Shared → Prop} (hr : b2 .add (.str i) (.str j) = some r) (q : ∀ y s' v, Keeps s s' → RelV v y → Dat K F v r → Q y s') :
    wpAny (model Pr w) A (binaryOp .Add (.str i t) (.str j u)) Q E s := by
  simp only [b2] at hr
  split at hr
  · rename_i hl
    cases hr
    exact add_str (fun t' tk => q _ _ (.str (i ++ j)) (keepsT _ _) ⟨_, rfl⟩ (.str _)) hl
  · cases hr
theorem q_ixL {A : Around} {E : Value → Shared → Prop} {s : Shared} {value slice : Expr} {a : Addr} {vs : List V} {i : Int} {t : Tok} {Q : Value → Shared → Prop} (hs : subscripted slice false (.ref a) (.int i t) = operate [.ref a, .int i t] (getItem (.ref a) (.int i t)))
    (ho : HOk Pr w H s.heap) (hk : K.In s.heap) (h1 : SqL K H a vs) {v : V} (e1 : L2.atI vs i = some v) (q : ∀ y, RelV v y → Q y s) : wpAny (model Pr w) A (subscriptTail value slice (.ref a) (.int i t)) Q E s := by
  obtain ⟨its, rv, pl, hz⟩ := sq_list ho hk h1
  obtain ⟨j, g1, g2, g3, g4, g5⟩ := atI_get e1
  obtain ⟨u, eu, ru⟩ := rv.get g2
  have hlen := rv.length
  have hsz : its.toArray.size = vs.length := by rw [List.size_toArray, hlen]
  have h63 := line63
  by_cases h0 : 0 ≤ i
  · rw [seqIndex_of h0 g5] at g1
    have hj := Option.some.inj g1
    exact item_listR pl.isList h0 (by omega) (by rw [hj]; simpa using eu) (q u ru) hs
  · rw [seqIndex_neg (by omega) g4] at g1
    have hj := Option.some.inj g1
    refine subscriptTail_builtinR (x := u) pl.isList.typeIs slot_list_getitem.lookup ?_ hs
    refine wpAny_getItem_list_neg (Q := fun r s' => r = u ∧ Q r s') pl.isList (by omega) (by rw [hsz]; omega) (by omega) ?_ ⟨rfl, q u ru⟩
    rw [hsz, hj]
    simpa using eu
theorem q_ixT {A : Around} {E : Value → Shared → Prop} {s : Shared} {value slice : Expr} {a : Addr} {vs : List V} {i : Int} {t : Tok} {Q : Value → Shared → Prop} (hs : subscripted slice false (.ref a) (.int i t) = operate [.ref a, .int i t] (getItem (.ref a) (.int i t)))
    (ho : HOk Pr w H s.heap) (hk : K.In s.heap) (h1 : SqT K H a vs) {v : V} (e1 : L2.atI vs i = some v) (q : ∀ y, RelV v y → Q y s) : wpAny (model Pr w) A (subscriptTail value slice (.ref a) (.int i t)) Q E s := by
  obtain ⟨its, rv, pl, hz⟩ := sq_tup ho hk h1
  obtain ⟨j, g1, g2, g3, g4, g5⟩ := atI_get e1
  obtain ⟨u, eu, ru⟩ := rv.get g2
  have hlen := rv.length
  have hsz : its.toArray.size = vs.length := by rw [List.size_toArray, hlen]
  have h63 := line63
  refine subscriptTail_builtinR (x := u) pl.typeIs slot_tuple_getitem.lookup ?_ hs
  exact getItem_tuple (j := j) (Q := fun r s' => r = u ∧ Q r s') pl (by omega) (by omega) (by rw [hsz]; exact g1) (by simpa using eu) ⟨rfl, q u ru⟩
theorem q_ixS {A : Around} {E : Value → Shared → Prop} {s : Shared} {value slice : Expr} {z : Str} {tz : Tok} {i : Int} {t : Tok} {r : PyData} {Q : Value → Shared → Prop} (hs : subscripted slice false (.str z tz) (.int i t) = operate [.str z tz, .int i t] (getItem (.str z tz) (.int i t)))
    (hr : ixD (.str z) (.int i) = some r) (q : ∀ y s' v, Keeps s s' → RelV v y → Dat K F v r → Q y s') : wpAny (model Pr w) A (subscriptTail value slice (.str z tz) (.int i t)) Q E s := by
  simp only [ixD] at hr
  split at hr
  · rename_i hz
    obtain ⟨ch, e1, e2⟩ := Option.map_eq_some_iff.mp hr
    cases e2
    obtain ⟨j, g1, g2, g3, g4, g5⟩ := atI_get e1
    have hlen : z.cps.toList.length = z.length := by simp [Str.length]
    rw [hlen] at g1 g4 g5
    have h63 := line63
    have d1 : decide (i < -(2 ^ 63 : Int)) = false := decide_eq_false (by omega)
    have d2 : decide (i ≥ 2 ^ 63) = false := decide_eq_false (by omega)
    refine tail_any (typeIs_str s z tz) slot_str_getitem.lookup (getItem_str (c := ch) (by rw [d1, d2]; rfl) (by rw [g1]; simpa using g2) ?_) hs
    exact q _ _ (.str ⟨#[ch]⟩) (keepsT _ _) ⟨_, rfl⟩ (.str _)
  · cases hr
theorem q_ixD {A : Around} {E : Value → Shared → Prop} {s : Shared} {value slice : Expr} {o u : Value} {j : Nat} {v : V} {fp : As} {ds : List (PyData × PyData)} {k : Key} {r : PyData} {Q : Value → Shared → Prop} (hs : subscripted slice false o u = operate [o, u] (getItem o u))
    (ho : HOk Pr w H s.heap) (le : Le F H) (hd : Rep K F H j v (.dict ds) fp) (rv : RelV v o) (ry : RelV (kV k) u) (hr : dgetD ds k = some r) (q : ∀ y s' z f, Keeps s s' → RelV z y → Rep K F H (if isCont (.dict ds) = true then j - 1 else 0) z r f → Q y s') : wpAny (model Pr w) A (subscriptTail value slice o u) Q E s := by
  cases j with
  | zero =>
    cases hd.2 with
    | dk q1 q2 =>
      obtain rfl : o = Value.ref _ := rv
      obtain ⟨z, z1, z2⟩ := q2.get hr
      exact sub_dk ho (le _ _ q1) ry z1 hs fun y r' => q y _ z none' (keepsT _ _) r' ⟨rfl, z2⟩
    | dt q1 q2 => exact q2.elim.elim
  | succ j =>
    rcases hd with ⟨h1, h2, h3⟩ | ⟨a, vs, ds, g, rfl, ed, h1, h2, h3, rfl⟩ | ⟨a, vs, ds, g, rfl, ed, h1, h2, h3, rfl⟩ | ⟨a, vs, ds, g, rfl, ed, h1, h2, h3, rfl⟩
    · cases h1
    · cases ed
    · cases ed
      obtain rfl : o = Value.ref _ := rv
      obtain ⟨z, f, z1, z2, z3⟩ := h2.get hr
      exact sub_dk ho (.inl h1) ry z1 hs fun y r' => q y _ z f (keepsT _ _) r' z2
    · exact h2.elim.elim
theorem Rep.zero' {v : V} {d : PyData} (h : Dat K F v d) {b : Bool} : Rep K F H (if b = true then 0 - 1 else 0) v d none' := by
  cases b <;> exact ⟨rfl, h⟩
/-- a pure expression, quietly -/
theorem q_P {N : List Str} {env : EnvD} (hk : cenv.scope.kind = .function) (hg : cenv.globals = mainGlobals) (hsc : Γ.sc = cenv.scope) (hN : Γ.N = N) (con : ∀ n x d, Γ.cons[n]? = some x → c.con n = some d → ∃ v u, mg x = some u ∧ RelV v u ∧ ∀ F, Dat K F v d) :
    ∀ (p : P) (e : Expr), chkP Γ p e = true → qOk p = true → ∀ (A : Around) (E : Value → Shared → Prop) (s : Shared) (j : Nat) (d : PyData) (Q : Value → Shared → Prop), QS Pr w K mg F H cenv N env s → evP c p env = some (j, d) →
      (∀ y s' v fp, Keeps s s' → RelV v y → Rep K F H j v d fp → Q y s') → wpAny (model Pr w) A (eval e cenv) Q E s
  | .k d0, e, h, _, A, E, s, j, d, Q, S, he, q => by
    cases e <;> first | (simp [chkP] at h; done) | skip
    cases he
    exact q_con (show conOk d0 _ = true from h) fun y s' v k r t => q y s' v none' k r ⟨rfl, t⟩
  | .at i, e, h, _, A, E, s, j, d, Q, S, he, q => by
    cases e <;> first | (simp [chkP] at h; done) | skip
    rename_i x pos
    simp only [chkP, Bool.and_eq_true, decide_eq_true_eq] at h
    obtain ⟨⟨h1, h2⟩, h3⟩ := h
    obtain ⟨n1, n2, _⟩ := okName_1 h3
    simp only [evP, slot] at he
    split at he
    · rename_i l k d' hs
      cases he
      obtain ⟨v, u, fp, r1, r2, r3⟩ := S.slot i l _ _ x hs (by rw [← hN]; exact h1)
      have hv := isVis_ok h2
      rw [hsc] at hv
      rcases r3 hv with ⟨k1, m, k2, k3⟩ | ⟨k1, cc, k2, k3⟩
      · exact wpAny_Name (wpAny_loadName_local hk k1 k2 k3 (q _ _ v fp (keeps0 _) r1 r2)) n1
      · exact wpAny_Name (wpAny_loadName_free hk k1 k2 k3 (q _ _ v fp (keeps0 _) r1 r2) n2) n1
    · cases he
  | .g n, e, h, _, A, E, s, j, d, Q, S, he, q => by
    cases e <;> first | (simp [chkP] at h; done) | skip
    rename_i x pos
    simp only [chkP, isGl, Bool.and_eq_true, decide_eq_true_eq] at h
    obtain ⟨h1, h2, h3⟩ := h
    obtain ⟨n1, n2, _⟩ := okName_1 h3
    simp only [evP] at he
    obtain ⟨d0, e2, e3⟩ := Option.map_eq_some_iff.mp he
    cases e3
    obtain ⟨v, u, m1, m2, m3⟩ := con n x _ h1 e2
    exact Calls.Name_function_global hk (by show cenv.scope.names.lookup x = _; rw [← hsc]; exact h2) (Calls.loadGlobal_global (by rw [hg]; exact S.glob) m1 (q _ _ v none' (keeps0 _) m2 ⟨rfl, m3 _⟩)) n1
  | .ix a b, e, h, ho, A, E, s, j, d, Q, S, he, q => by
    cases e <;> first | (simp [chkP] at h; done) | skip
    rename_i x y pos
    simp only [chkP, Bool.and_eq_true] at h
    obtain ⟨⟨h1, h2⟩, h3⟩ := h
    simp only [qOk, Bool.and_eq_true] at ho
    simp only [evP] at he
    obtain ⟨⟨j1, d1⟩, a1, he⟩ := Option.bind_eq_some_iff.mp he
    obtain ⟨⟨j2, d2⟩, a2, he⟩ := Option.bind_eq_some_iff.mp he
    obtain ⟨r, a3, he⟩ := Option.map_eq_some_iff.mp he
    cases he
    refine Subscript_ (q_P hk hg hsc hN con a x h1 ho.1 A E s j1 d1 _ S a1 fun o s1 v fp k1 r1 t1 => ?_)
    refine q_P hk hg hsc hN con b y h2 ho.2 A E s1 j2 d2 _ (S.keep k1) a2 fun i s2 v' fp' k2 r2 t2 => ?_
    have S2 := (S.keep k1).keep k2
    have k3 := kp_tr k1 k2
    have hp := plainIx h3 o i
    cases d2 with
    | int n =>
      cases (rep_noncont t2 rfl).intV
      obtain ⟨t, rfl⟩ := r2
      cases d1 with
      | list ds =>
        cases j1 with
        | zero =>
          cases t1.2 with
          | lst g1 g2 =>
            cases r1
            obtain ⟨w, e1, dw⟩ := g2.atI a3
            exact q_ixL hp S2.hok S2.kin (S2.le.sqL g1) e1 fun y ry => q y s2 w none' k3 ry (Rep.zero' (b := isCont (PyData.list ds)) dw)
        | succ j1 =>
          rcases t1 with ⟨z, _, _⟩ | ⟨ad, vs, ds', g, rfl, z, z1, z2, z3, rfl⟩ | ⟨ad, vs, ds', g, rfl, z, _⟩ | ⟨ad, vs, ds', g, rfl, z, _⟩
          · cases z
          · cases z
            cases r1
            obtain ⟨w, f, e1, rw, _⟩ := z2.atI a3
            exact q_ixL hp S2.hok S2.kin (.inl (.inl z1)) e1 fun y ry => q y s2 w f k3 ry rw
          · cases z
          · cases z
      | tuple ds =>
        cases rep_noncont t1 rfl with
        | tup g1 g2 =>
          cases r1
          obtain ⟨w, e1, dw⟩ := g2.atI a3
          exact q_ixT hp S2.hok S2.kin (S2.le.sqT g1) e1 fun y ry => q y s2 w none' k3 ry ⟨rfl, dw⟩
      | str z =>
        cases (rep_noncont t1 rfl).strV
        obtain ⟨tz, rfl⟩ := r1
        exact q_ixS hp a3 fun y s' v k4 ry dv => q y s' v none' (kp_tr k3 k4) ry ⟨rfl, dv⟩
      | dict ds => exact q_ixD (k := .inl n) hp S2.hok S2.le t1 r1 ⟨t, rfl⟩ a3 fun y s' v f k4 ry rv => q y s' v f (kp_tr k3 k4) ry rv
      | _ => cases a3
    | str z =>
      cases d1 with
      | dict ds =>
        cases (rep_noncont t2 rfl).strV
        obtain ⟨t, rfl⟩ := r2
        exact q_ixD (k := .inr z) hp S2.hok S2.le t1 r1 ⟨t, rfl⟩ a3 fun y s' v f k4 ry rv => q y s' v f (kp_tr k3 k4) ry rv
      | _ => cases a3
    | _ => cases d1 <;> cases a3
  | .b2 o a b, e, h, ho, A, E, s, j, d, Q, S, he, q => by
    cases e <;> first | (simp [chkP] at h; done) | skip
    rename_i x p y pos
    simp only [chkP, Bool.and_eq_true] at h
    obtain ⟨⟨h1, h2⟩, h3⟩ := h
    have e0 := opOk_eq h1
    subst e0
    simp only [qOk, Bool.and_eq_true] at ho
    simp only [evP] at he
    obtain ⟨⟨j1, d1⟩, a1, he⟩ := Option.bind_eq_some_iff.mp he
    obtain ⟨⟨j2, d2⟩, a2, he⟩ := Option.bind_eq_some_iff.mp he
    obtain ⟨r, a3, he⟩ := Option.map_eq_some_iff.mp he
    obtain ⟨r0, a4, a5⟩ := Option.bind_eq_some_iff.mp a3
    cases he
    have er : r0 = d := by cases r0 <;> simp [scal] at a5 <;> exact a5
    subst er
    refine wpAny_BinOp (q_P hk hg hsc hN con a x h2 ho.1.2 A E s j1 d1 _ S a1 fun o1 s1 v fp k1 r1 t1 => ?_)
    refine q_P hk hg hsc hN con b y h3 ho.2 A E s1 j2 d2 _ (S.keep k1) a2 fun o2 s2 v' fp' k2 r2 t2 => ?_
    have k3 := kp_tr k1 k2
    cases d1 with
    | int i =>
      cases d2 with
      | int i2 =>
        cases (rep_noncont t1 rfl).intV; cases (rep_noncont t2 rfl).intV
        obtain ⟨t, rfl⟩ := r1
        obtain ⟨t', rfl⟩ := r2
        exact q_int2 ho.1.1 a4 fun y s' v k4 ry dv => q y s' v none' (kp_tr k3 k4) ry ⟨rfl, dv⟩
      | _ => cases o <;> cases a4
    | str i =>
      cases d2 with
      | str i2 =>
        cases o <;> first | (cases a4; done) | skip
        cases (rep_noncont t1 rfl).strV; cases (rep_noncont t2 rfl).strV
        obtain ⟨t, rfl⟩ := r1
        obtain ⟨t', rfl⟩ := r2
        exact q_strs a4 fun y s' v k4 ry dv => q y s' v none' (kp_tr k3 k4) ry ⟨rfl, dv⟩
      | _ => cases o <;> cases a4
    | tuple ds =>
      cases o <;> cases d2 <;> first
        | (cases a4; done)
        | (simp only [b2] at a4; split at a4 <;> cases a4; simp [scal] at a5)
    | list ds =>
      cases o <;> cases d2 <;> first
        | (cases a4; done)
        | (simp only [b2] at a4; split at a4 <;> cases a4; simp [scal] at a5)
    | _ => cases o <;> cases a4
  | .p1 o a, e, h, ho, A, E, s, j, d, Q, S, he, q => by
    cases o <;> first | (cases ho; done) | skip
    cases e <;> first | (simp [chkP] at h; done) | skip
    rename_i op x pos
    cases op <;> first | (simp [chkP] at h; done) | skip
    simp only [evP] at he
    obtain ⟨⟨j1, d1⟩, a1, he⟩ := Option.bind_eq_some_iff.mp he
    obtain ⟨r, a3, he⟩ := Option.map_eq_some_iff.mp he
    cases he
    refine UnaryOp_ (q_P hk hg hsc hN con a x (by simpa [chkP] using h) ho A E s j1 d1 _ S a1 fun o1 s1 v fp k1 r1 t1 => ?_)
    cases d1 with
    | int i =>
      cases (rep_noncont t1 rfl).intV
      obtain ⟨t, rfl⟩ := r1
      cases a3
      exact neg_int (q _ _ (.int (-i)) none' (kp_tr k1 (keepsT _ _)) ⟨_, rfl⟩ ⟨rfl, .int _⟩)
    | _ => cases a3
end
end Fx
set_option Elab.async false
set_option linter.all false
set_option maxRecDepth 100000
/-! G2: quiet comparisons; elements and tests of a generator expression. -/
namespace Fx
open PySem PySem.Spec PyProof.Rows L2
section
variable {Pr : Program} {w : World} {K : PySem.W.Frag} {H : Hp} {h : Heap}
mutual
theorem rds (ho : HOk Pr w H h) (hk : K.In h) : ∀ (d : PyData) (v : V) (u : Value), d.plain = true → Dat K H v d → RelV v u → ∃ as, Reads h u d as
  | .none, _, _, _, q, r => by cases q; cases r; exact ⟨_, Reads.none⟩
  | .bool b, _, _, _, q, r => by cases q; cases r; exact ⟨_, Reads.bool b⟩
  | .int i, _, _, _, q, r => by cases q; obtain ⟨t, rfl⟩ := r; exact ⟨_, Reads.int i t⟩
  | .str x, _, _, _, q, r => by cases q; obtain ⟨t, rfl⟩ := r; exact ⟨_, Reads.str x t⟩
  | .list ds, _, _, hp, q, r => by
    cases q with
    | lst q1 q2 =>
      cases r
      obtain ⟨its, rv, ⟨ob, m, e1, e2, _, e3⟩, _⟩ := sq_list ho hk q1
      obtain ⟨as, z⟩ := rdsL ho hk ds _ its (by simpa [PyData.plain] using hp) q2 rv
      exact ⟨_, Reads.list e1 e2 e3 z⟩
  | .tuple ds, _, _, hp, q, r => by
    cases q with
    | tup q1 q2 =>
      cases r
      obtain ⟨its, rv, ⟨ob, e1, e2, m, e3⟩, _⟩ := sq_tup ho hk q1
      obtain ⟨as, z⟩ := rdsL ho hk ds _ its (by simpa [PyData.plain] using hp) q2 rv
      exact ⟨_, Reads.tuple e1 e2 e3 z⟩
  | .dict _, _, _, hp, _, _ => by simp [PyData.plain] at hp
theorem rdsL (ho : HOk Pr w H h) (hk : K.In h) : ∀ (ds : List PyData) (vs : List V) (us : List Value), PyData.plainAll ds = true → DatL K H vs ds → Vals vs us → ∃ as, ReadsAll h us ds as
  | [], _, _, _, q, r => by cases q; cases r; exact ⟨_, ReadsAll.nil⟩
  | d :: ds, _, _, hp, q, r => by
    have hp : d.plain = true ∧ PyData.plainAll ds = true := by simpa [PyData.plainAll] using hp
    cases q with
    | cons q1 q2 =>
      cases r with
      | cons r1 r2 =>
        obtain ⟨as, z1⟩ := rds ho hk d _ _ hp.1 q1 r1
        obtain ⟨bs, z2⟩ := rdsL ho hk ds _ _ hp.2 q2 r2
        exact ⟨_, ReadsAll.cons z1 z2⟩
end
end
def qcOk : C2 → Bool
  | .inn => false
  | .nin => false
  | _ => true
def chkQ (Γ : Gam) : Qx → Expr → Bool
  | .p p, e => chkP Γ p e && qOk p
  | .c2 o a b, .Compare x [op] [y] _ => cmpOk o op && chkP Γ a x && chkP Γ b y && noSet y && qOk a && qOk b && qcOk o
  | _, _ => false
section
variable {Pr : Program} {w : World} {K : PySem.W.Frag} {mg : Str → Option Value} {H : Hp} {cenv : PySem.Env} {Γ : Gam} {c : Orc}
theorem q_c2 {A : Around} {E : Value → Shared → Prop} {s : Shared} {o : C2} {v1 v2 : V} {u1 u2 : Value} {d e : PyData} {k : Bool} {Q : Value → Shared → Prop} (hu : A.units + 100 < cLine) (ho : HOk Pr w H s.heap) (hk : K.In s.heap) (hq : qcOk o = true)
    (r1 : RelV v1 u1) (r2 : RelV v2 u2) (t1 : Dat K H v1 d) (t2 : Dat K H v2 e) (hc : c2 o d e = some k) (q : Q (.bool k) s) : wpAny (model Pr w) A (compareOp (cop o) u1 u2) Q E s := by
  have hii : ∀ (i j : Int), d = .int i → e = .int j → (∀ (t u : Tok) (Q : Value → Shared → Prop), Q (.bool k) s → wpAny (model Pr w) A (compareOp (cop o) (.int i t) (.int j u)) Q E s) → wpAny (model Pr w) A (compareOp (cop o) u1 u2) Q E s := fun i j e1 e2 rule => by
    subst e1 e2
    cases t1.intV; cases t2.intV
    obtain ⟨t, rfl⟩ := r1
    obtain ⟨t', rfl⟩ := r2
    exact rule _ _ _ q
  have heq2 : eqOk d = true → eqOk e = true → ∃ as bs, Reads s.heap u1 d as ∧ Reads s.heap u2 e bs ∧ SeqAt.shaped d = true ∧ SeqAt.shaped e = true := fun h1 h2 => by
    obtain ⟨a1, a2⟩ := eqOk_plain h1
    obtain ⟨b1, b2⟩ := eqOk_plain h2
    obtain ⟨as, z1⟩ := rds ho hk d _ _ a2 t1 r1
    obtain ⟨bs, z2⟩ := rds ho hk e _ _ b2 t2 r2
    exact ⟨as, bs, z1, z2, a1, b1⟩
  have hlt2 : ltOk d e = true → ∃ as bs, Reads s.heap u1 d as ∧ Reads s.heap u2 e bs ∧ PySem.W.alike d e = true ∧ d ≠ .none ∧ A.units + min d.depth e.depth < cLine := fun h1 => by
    obtain ⟨a1, a2, a3, a4, a5⟩ := ltOk_of h1
    obtain ⟨as, z1⟩ := rds ho hk d _ _ a2 t1 r1
    obtain ⟨bs, z2⟩ := rds ho hk e _ _ a3 t2 r2
    exact ⟨as, bs, z1, z2, a1, a5, by omega⟩
  cases o with
  | eq =>
    simp only [c2] at hc
    cases hi : ii d e with
    | some p =>
      rw [hi] at hc
      obtain ⟨e1, e2⟩ := ii_some hi
      cases hc
      exact hii _ _ e1 e2 fun t u Q z => eq_int (by rw [Bool.beq_eq_decide_eq]; exact z)
    | none =>
      rw [hi] at hc
      simp only at hc
      split at hc
      · rename_i hl
        cases hc
        obtain ⟨as, bs, z1, z2, z3, z4⟩ := heq2 hl.1 hl.2
        exact SeqAt.compareEq_shaped z1 z2 z3 z4 (by omega) q
      · cases hc
  | ne =>
    simp only [c2] at hc
    cases hi : ii d e with
    | some p =>
      rw [hi] at hc
      obtain ⟨e1, e2⟩ := ii_some hi
      cases hc
      exact hii _ _ e1 e2 fun t u Q z => ne_int (by rw [bne, Bool.beq_eq_decide_eq]; exact z)
    | none =>
      rw [hi] at hc
      simp only at hc
      split at hc
      · rename_i hl
        cases hc
        obtain ⟨as, bs, z1, z2, z3, z4⟩ := heq2 hl.1 hl.2
        exact SeqAt.compareNe_shaped z1 z2 z3 z4 (by omega) q
      · cases hc
  | lt =>
    simp only [c2] at hc
    cases hi : ii d e with
    | some p =>
      rw [hi] at hc
      obtain ⟨e1, e2⟩ := ii_some hi
      cases hc
      exact hii _ _ e1 e2 fun t u Q z => lt_int z
    | none =>
      rw [hi] at hc
      simp only at hc
      split at hc
      · rename_i hl
        cases hc
        obtain ⟨as, bs, z1, z2, z3, z4, z5⟩ := hlt2 hl
        exact PySem.W.lt_data z1 z2 z3 z4 z5 q
      · cases hc
  | le =>
    simp only [c2] at hc
    cases hi : ii d e with
    | some p =>
      rw [hi] at hc
      obtain ⟨e1, e2⟩ := ii_some hi
      cases hc
      exact hii _ _ e1 e2 fun t u Q z => le_int z
    | none =>
      rw [hi] at hc
      simp only at hc
      split at hc
      · rename_i hl
        cases hc
        obtain ⟨as, bs, z1, z2, z3, z4, z5⟩ := hlt2 hl
        exact PySem.W.le_data z1 z2 z3 z4 z5 q
      · cases hc
  | gt =>
    simp only [c2] at hc
    cases hi : ii d e with
    | some p =>
      rw [hi] at hc
      obtain ⟨e1, e2⟩ := ii_some hi
      cases hc
      exact hii _ _ e1 e2 fun t u Q z => gt_int z
    | none =>
      rw [hi] at hc
      simp only at hc
      split at hc
      · rename_i hl
        cases hc
        obtain ⟨as, bs, z1, z2, z3, z4, z5⟩ := hlt2 hl
        exact PySem.W.gt_data z1 z2 z3 z4 z5 q
      · cases hc
  | ge =>
    simp only [c2] at hc
    cases hi : ii d e with
    | some p =>
      rw [hi] at hc
      obtain ⟨e1, e2⟩ := ii_some hi
      cases hc
      exact hii _ _ e1 e2 fun t u Q z => ge_int z
    | none =>
      rw [hi] at hc
      simp only at hc
      split at hc
      · rename_i hl
        cases hc
        obtain ⟨as, bs, z1, z2, z3, z4, z5⟩ := hlt2 hl
        exact PySem.W.ge_data z1 z2 z3 z4 z5 q
      · cases hc
  | inn => cases hq
  | nin => cases hq
/-- what is known of the frame in which elements are reckoned -/
structure QF (K : PySem.W.Frag) (mg : Str → Option Value) (c : Orc) (Γ : Gam) (cenv : PySem.Env) : Prop where
  kind : cenv.scope.kind = .function
  glob : cenv.globals = mainGlobals
  sc : Γ.sc = cenv.scope
  con : ∀ n x d, Γ.cons[n]? = some x → c.con n = some d → ∃ v u, mg x = some u ∧ RelV v u ∧ ∀ F, Dat K F v d
theorem q_Q {F0 : Hp} {env : EnvD} (F : QF K mg c Γ cenv) {p : Qx} {e : Expr} (h : chkQ Γ p e = true) {A : Around} {E : Value → Shared → Prop} {s : Shared} {d : PyData} {Q : Value → Shared → Prop} (hu : A.units + 100 < cLine) (S : QS Pr w K mg F0 H cenv Γ.N env s) (he : evQ c p env = some d)
    (q : ∀ y s' v, Keeps s s' → RelV v y → Dat K F0 v d → Q y s') : wpAny (model Pr w) A (eval e cenv) Q E s := by
  cases p with
  | p p =>
    simp only [chkQ, Bool.and_eq_true] at h
    simp only [evQ] at he
    obtain ⟨⟨j, d0⟩, e1, e2⟩ := Option.bind_eq_some_iff.mp he
    split at e2
    · rename_i hz
      cases e2
      refine q_P F.kind F.glob F.sc rfl F.con p e h.1 h.2 A E s j _ Q S e1 fun y s' v fp k r t => q y s' v k r ?_
      rcases hz with hz | hz
      · exact rep_noncont t hz
      · have hz : j = 0 := hz
        subst hz
        exact t.2
    · cases e2
  | c2 o a b =>
    cases e <;> first | (simp [chkQ] at h; done) | skip
    rename_i x ops ys pos
    match ops, ys, h with
    | [op], [y], h =>
      simp only [chkQ, Bool.and_eq_true] at h
      obtain ⟨⟨⟨⟨⟨⟨h1, h2⟩, h3⟩, h4⟩, h5⟩, h6⟩, h7⟩ := h
      have e0 := cmpOk_eq h1
      subst e0
      simp only [evQ] at he
      obtain ⟨⟨j1, d1⟩, a1, he⟩ := Option.bind_eq_some_iff.mp he
      obtain ⟨⟨j2, d2⟩, a2, he⟩ := Option.bind_eq_some_iff.mp he
      obtain ⟨k, a3, he⟩ := Option.map_eq_some_iff.mp he
      cases he
      refine wpAny_Compare1 (q_P F.kind F.glob F.sc rfl F.con a x h2 h5 A E s j1 d1 _ S a1 fun o1 s1 v fp k1 r1 t1 => ?_) (behind_ok h4)
      refine q_P F.kind F.glob F.sc rfl F.con b y h3 h6 A E s1 j2 d2 _ (S.keep k1) a2 fun o2 s2 v' fp' k2 r2 t2 => ?_
      have S2 := (S.keep k1).keep k2
      exact q_c2 hu S2.hok S2.kin h7 r1 r2 (t1.dat _ S2.le fun _ _ => rfl) (t2.dat _ S2.le fun _ _ => rfl) a3 (q _ s2 (.bl k) (kp_tr k1 k2) rfl (.bl k))
end
end Fx
set_option Elab.async false
set_option linter.all false
set_option maxRecDepth 100000
/-! G3: what a generator expression hands out; what is kept while it runs. -/
namespace Fx
open PySem PySem.Spec PyProof.Rows L2
def isC2 : Qx → Bool
  | .c2 .. => true
  | _ => false
def chkQs (Γ : Gam) : List Qx → List Expr → Bool
  | [], [] => true
  | q :: qs, e :: es => chkQ Γ q e && isC2 q && chkQs Γ qs es
  | _, _ => false
def gTst (c : Orc) (tg : Tg) (ts : List Qx) (env : EnvD) (x : PyData) : Bool := (((bindT tg x env).bind (evQs c ts)).getD false)
def gVal (c : Orc) (tg : Tg) (q : Qx) (env : EnvD) (x : PyData) : PyData := ((bindT tg x env).bind (evQ c q)).getD .none
theorem genL_spec {c : Orc} {tg : Tg} {ts : List Qx} {q : Qx} {env : EnvD} : ∀ {xs rs : List PyData}, genL c tg ts q xs env = some rs → (∀ x ∈ xs, ∃ e, bindT tg x env = some e ∧ evQs c ts e = some (gTst c tg ts env x) ∧ (gTst c tg ts env x = true → evQ c q e = some (gVal c tg q env x))) ∧ rs = (xs.filter (gTst c tg ts env)).map (gVal c tg q env)
  | [], rs, h => by cases h; exact ⟨fun x hx => (by cases hx), rfl⟩
  | x :: xs, rs, h => by
    simp only [genL] at h
    obtain ⟨e, h1, h⟩ := Option.bind_eq_some_iff.mp h
    obtain ⟨b, h2, h⟩ := Option.bind_eq_some_iff.mp h
    have ht : gTst c tg ts env x = b := by simp [gTst, h1, h2]
    cases b with
    | true =>
      obtain ⟨r, h3, h⟩ := Option.bind_eq_some_iff.mp h
      obtain ⟨rs', h4, rfl⟩ := Option.map_eq_some_iff.mp h
      obtain ⟨g1, g2⟩ := genL_spec h4
      have hv : gVal c tg q env x = r := by simp [gVal, h1, h3]
      refine ⟨fun y hy => ?_, ?_⟩
      · rcases List.mem_cons.mp hy with rfl | hy
        · exact ⟨e, h1, by rw [ht]; exact h2, fun _ => by rw [hv]; exact h3⟩
        · exact g1 y hy
      · rw [List.filter_cons_of_pos ht, List.map_cons, hv, g2]
    | false =>
      obtain ⟨g1, g2⟩ := genL_spec h
      refine ⟨fun y hy => ?_, ?_⟩
      · rcases List.mem_cons.mp hy with rfl | hy
        · exact ⟨e, h1, by rw [ht]; exact h2, fun z => by rw [ht] at z; cases z⟩
        · exact g1 y hy
      · rw [List.filter_cons_of_neg (by rw [ht]; exact Bool.false_ne_true), g2]
section
variable {Pr : Program} {w : World} {K : PySem.W.Frag} {mg : Str → Option Value} {F0 H : Hp} {cenv : PySem.Env} {Γ : Gam} {c : Orc}
theorem skip_tests {A : Around} {E : Value → Shared → Prop} {s : Shared} {Q : Bool → Shared → Prop} : ∀ (es : List Expr), Q false s → wpAny (model Pr w) A (forIn es false fun c r => if r = true then do let ok ← isTrue c cenv (eval c cenv); pure (ForInStep.yield ok) else pure (ForInStep.yield r)) Q E s
  | [], h => by rw [List.forIn_nil]; exact wpAny_pure h
  | e :: es, h => by
    rw [List.forIn_cons, if_neg Bool.false_ne_true]
    exact wpAny_bind (wpAny_pure (skip_tests es h))
theorem q_tests {env : EnvD} (F : QF K mg c Γ cenv) : ∀ (ts : List Qx) (es : List Expr), chkQs Γ ts es = true → ∀ (A : Around) (E : Value → Shared → Prop) (s : Shared) (b : Bool) (Q : Bool → Shared → Prop), A.units + 100 < cLine → QS Pr w K mg F0 H cenv Γ.N env s → evQs c ts env = some b → (∀ s', Keeps s s' → Q b s') →
    wpAny (model Pr w) A (forIn es true fun c r => if r = true then do let ok ← isTrue c cenv (eval c cenv); pure (ForInStep.yield ok) else pure (ForInStep.yield r)) Q E s
  | [], [], _, A, E, s, b, Q, hu, S, he, q => by
    cases he
    rw [List.forIn_nil]
    exact wpAny_pure (q s (keeps0 s))
  | t :: ts, e :: es, h, A, E, s, b, Q, hu, S, he, q => by
    simp only [chkQs, Bool.and_eq_true] at h
    obtain ⟨⟨h1, h2⟩, h3⟩ := h
    cases t with
    | p p => cases h2
    | c2 o x y =>
      cases e <;> first | (simp [chkQ] at h1; done) | skip
      rename_i ax ops ys pos
      match ops, ys, h1 with
      | [op], [ay], h1 =>
        simp only [chkQ, Bool.and_eq_true] at h1
        obtain ⟨⟨⟨⟨⟨⟨p1, p2⟩, p3⟩, p4⟩, p5⟩, p6⟩, p7⟩ := h1
        have e0 := cmpOk_eq p1
        subst e0
        simp only [evQs, evQ] at he
        obtain ⟨d, h4, he⟩ := Option.bind_eq_some_iff.mp he
        obtain ⟨⟨j1, d1⟩, a1, h4⟩ := Option.bind_eq_some_iff.mp h4
        obtain ⟨⟨j2, d2⟩, a2, h4⟩ := Option.bind_eq_some_iff.mp h4
        obtain ⟨k, a3, h4⟩ := Option.map_eq_some_iff.mp h4
        cases h4
        rw [List.forIn_cons, if_pos rfl]
        refine wpAny_bind (wpAny_bind (wpAny_isTrue_Compare1 (q_P F.kind F.glob F.sc rfl F.con x ax p2 p5 A E s j1 d1 _ S a1 fun o1 s1 v fp k1 r1 t1 => ?_) (behind_ok p4)))
        refine q_P F.kind F.glob F.sc rfl F.con y ay p3 p6 A E s1 j2 d2 _ (S.keep k1) a2 fun o2 s2 v' fp' k2 r2 t2 => ?_
        have S2 := (S.keep k1).keep k2
        have k3 := kp_tr k1 k2
        refine q_c2 hu S2.hok S2.kin p7 r1 r2 (t1.dat _ S2.le fun _ _ => rfl) (t2.dat _ S2.le fun _ _ => rfl) a3 ?_
        refine wpAny_truthy_bool (wpAny_pure ?_)
        cases k with
        | true => exact q_tests F ts es h3 A E s2 b Q hu S2 he fun s' k4 => q s' (kp_tr k3 k4)
        | false =>
          cases he
          exact skip_tests es (q s2 k3)
end
/-- what is held stays where its objects stay -/
theorem hok_keep {P : Program} {w : World} {H : Hp} {h h' : Heap} (x : HOk P w H h) (k : ∀ b u, H b ≠ none → h.get? b = some u → h'.get? b = some u) : HOk P w H h' := fun a o e =>
  (x a o e).stay (fun b u z q => k b u (by
    rcases z with rfl | z
    · rw [e]; exact Option.some_ne_none _
    · rw [z]; exact Option.some_ne_none _) q) (fun _ q => q) fun _ _ q => q
/-- the table at p has grown; what stood is kept -/
theorem inv_grow {X : Cx} {pins : List (Addr × Obj)} {σ : L2.St} {H : Hp} {s s' : Shared} {p : Addr} (I : Inv X pins σ H s) (hp : H p = some (TabO p)) (os : s'.os = s.os) (hb : AllBare s'.gens) (k : ∀ b o, b ≠ p → s.heap.get? b = some o → s'.heap.get? b = some o)
    (ht : ∃ ps : Array Value, s'.heap.get? p = some { cls := .none, data := .fields ps } ∧ TriplesOk ps.toList) : Inv X pins σ H s' := by
  obtain ⟨hh, g, d, t, o⟩ := s'
  have os : o = s.os := os
  subst os
  have np : ∀ b, H b = none → b ≠ p := fun b e z => by rw [z, hp] at e; cases e
  refine I.step (g' := g) (t' := t) (d' := d) (ch := []) (fun b hb => by cases hb) (fun b o _ _ _ e n => k b o (np b n) e) (fun b o _ _ _ e n => ⟨o.slots, k b o (np b n) e⟩) (fun _ _ _ _ n => n) (fun b o _ e => ?_) (fun _ _ e => e) (fun _ _ _ e => e) (fun b qs e => ⟨#[], by rw [e, Array.append_empty]⟩) (fun m hn => ?_) (fun b u e => ?_) hb
  · by_cases z : b = p
    · obtain ⟨ps, e2, _⟩ := ht
      exact ⟨_, by rw [z]; exact e2⟩
    · exact ⟨o, k b o z e⟩
  · obtain ⟨ob, es, ep, ho, r⟩ := hn
    exact ⟨ob, es, ep, k _ ob (np _ I.free) ho, r⟩
  · by_cases z : b = p
    · rw [z] at e ⊢
      rw [hp] at e
      cases e
      obtain ⟨ps, e2, e3⟩ := ht
      exact ⟨⟨ps, e2, e3⟩, ⟨_, e2⟩, fun h1 h2 ⟨qs, y, z⟩ kk => ⟨qs, kk _ y, z⟩⟩
    · refine (I.hok b u e).stay (fun c v hc q => k c v ?_ q) (fun _ q => q) fun _ _ q => q
      rcases hc with y | y
      · rw [y]; exact z
      · rintro rfl
        rw [hp] at y
        cases y
end Fx
set_option Elab.async false
set_option linter.all false
set_option maxRecDepth 100000
set_option maxHeartbeats 2000000
/-! G4: a generator expression is made. -/
namespace Fx
open PySem PySem.Spec PyProof.Rows L2
theorem cs_tb {K : PySem.W.Frag} {q : Addr × Addr} (h : q ∈ csOf K) : Tb K q.2 := List.mem_map.mpr ⟨q, h, rfl⟩
def dot0 : Str := ".0"
def genN (Γ : Gam) (tgs : List Str) (y : Str × NameKind) : Bool := match y.2 with
  | .cell => false
  | .local => decide (y.1 = dot0) || tgs.contains y.1
  | .free => (match Γ.sc.names.lookup y.1 with
    | some .cell => true
    | some .free => true
    | _ => false)
  | _ => true
/-- a generator expression's own scope -/
def genS (Γ : Gam) (scope : Scope) (tgs : List Str) : Bool := (match scope.kind with | .function => true | _ => false) && !scope.isCoroutine && decide (scope.names.lookup dot0 = some .local) && tgs.all (fun x => decide (scope.names.lookup x = some .local)) &&
  scope.names.all (genN Γ tgs) && !(Γ.N.contains dot0)
structure GenOk (Γ : Gam) (scope : Scope) (tgs : List Str) : Prop where
  kind : scope.kind = .function
  co : scope.isCoroutine = false
  dot : scope.names.lookup (".0" : Str) = some NameKind.local
  loc : ∀ x ∈ tgs, scope.names.lookup x = some .local
  cell : ∀ y ∈ scope.names, y.2 ≠ .cell
  own : ∀ x, scope.names.lookup x = some .local → x = dot0 ∨ x ∈ tgs
  free : ∀ y ∈ scope.names, y.2 = .free → Γ.sc.names.lookup y.1 = some .cell ∨ Γ.sc.names.lookup y.1 = some .free
  nd : dot0 ∉ Γ.N
theorem gAnd {a b : Bool} (h : (a && b) = true) : a = true ∧ b = true := Bool.and_eq_true_iff.mp h
theorem genS_ok {Γ : Gam} {scope : Scope} {tgs : List Str} (h : genS Γ scope tgs = true) : GenOk Γ scope tgs := by
  unfold genS at h
  obtain ⟨h, h6⟩ := gAnd h
  obtain ⟨h, h5⟩ := gAnd h
  obtain ⟨h, h4⟩ := gAnd h
  obtain ⟨h, h3⟩ := gAnd h
  obtain ⟨h1, h2⟩ := gAnd h
  have all := List.all_eq_true.mp h5
  refine ⟨?_, by simpa using h2, of_decide_eq_true h3, fun x hx => of_decide_eq_true (List.all_eq_true.mp h4 x hx), fun y hy e => ?_, fun x hx => ?_, fun y hy e => ?_, by simpa using h6⟩
  · split at h1
    · assumption
    · cases h1
  · have := all y hy
    unfold genN at this
    rw [e] at this
    cases this
  · have := all _ (PySem.mem_of_lookup hx)
    unfold genN at this
    simpa using this
  · have := all y hy
    unfold genN at this
    rw [e] at this
    dsimp only at this
    split at this
    · exact .inl (by assumption)
    · exact .inr (by assumption)
    · cases this
theorem clo_look {cells : List (Str × Addr)} {names : List (Str × NameKind)} {x : Str} {a : Addr} (h : names.lookup x = some .free) (ha : cells.lookup x = some a) : (cloFrom cells names []).lookup x = some a := by
  have h1 := cloFrom_has (cells := cells) (acc := []) (PySem.mem_of_lookup h)
  obtain ⟨c', h2⟩ := mem_lookup h1
  rw [h2]
  rcases cloFrom_mem (PySem.mem_of_lookup h2) with h3 | ⟨_, h3⟩
  · cases h3
  · rw [h3, ha]; rfl
def Gam.gen (Γ : Gam) (scope : Scope) : Gam := { Γ with sc := scope }
/-- items are handed out, one by one -/
def SrcN (X : Cx) (pins : List (Addr × Obj)) (σ : L2.St) (F H : Hp) (ds : List PyData) (it : Value) (s2 : Shared) : Prop :=
  ∃ sB, Inv X pins σ H sB ∧ Keeps sB s2 ∧ sB.heap.objs.size ≤ s2.heap.objs.size ∧ ∃ (I : Addr) (fp wr : List Addr) (Pv : Nat → Value → Prop) (St : Nat → Heap → Prop), it = .ref I ∧ (∀ A' : Around, A'.handled = none → Walks X.prog X.w A' I fp wr ds.length Pv St) ∧ St 0 s2.heap ∧
    (∀ b ∈ fp, b < s2.heap.objs.size ∧ ∀ φ, H b ≠ some (.ext φ)) ∧ (∀ b ∈ wr, sB.heap.objs.size ≤ b) ∧ ∀ i v, Pv i v → ∃ d x, ds[i]? = some d ∧ RelV x v ∧ Dat X.K F x d
/-- a generator object that hands out rs -/
def GReady (X : Cx) (pins : List (Addr × Obj)) (σ : L2.St) (D H : Hp) (rs : List PyData) (g : Addr) (s5 : Shared) : Prop :=
  ∃ (fp wr : List Addr) (gi : Nat) (F : Nat → Value → Prop) (St : Nat → Shared → Prop), WalksS X.prog X.w X.A.in4 g fp wr (GenOnlyQ gi) rs.length F St ∧ St 0 s5 ∧ (∀ i s, St i s → s.TypeIs (.ref g) "generator") ∧ (∀ b ∈ fp, b < s5.heap.objs.size) ∧ g ∈ fp ∧
    (∀ j y, F j y → ∃ d v, rs[j]? = some d ∧ RelV v y ∧ Dat X.K D v d) ∧ ∀ s', Moved wr (GenOnlyQ gi) s5 s' → Inv X pins σ H s'
theorem relV_ex : ∀ v : V, ∃ u, RelV v u
  | .non => ⟨_, rfl⟩
  | .bl b => ⟨_, rfl⟩
  | .int i => ⟨.int i 0, _, rfl⟩
  | .str x => ⟨.str x 0, _, rfl⟩
  | .byt b => ⟨.bytes b 0, _, rfl⟩
  | .flt b => ⟨.float b 0, _, rfl⟩
  | .ref a => ⟨_, rfl⟩
  | .ty n => ⟨_, rfl⟩
section
variable {Γ : Gam} {G : Gh} {X : Cx}
/-- what is known in the generator's frame -/
theorem qs_of (ok : Ok Γ G X) {scope : Scope} {tgs : List Str} (S : GenOk Γ scope tgs) {pins : List (Addr × Obj)} {σ : L2.St} {H : Hp} {sB s : Shared} {T : As} {env env' : EnvD} {fps : Nat → As} {C bi cp : Addr} {code : Value} (IB : Inv X pins σ H sB) (SO : SOk G.K G.L T env σ H fps) (hT : H cp = some (TabO cp))
    (keep : ∀ b o, b ≠ cp → sB.heap.get? b = some o → s.heap.get? b = some o) (ht : ∃ ps : Array Value, s.heap.get? cp = some { cls := .none, data := .fields ps } ∧ TriplesOk ps.toList)
    (new : ∀ (i : Nat) (l : Bool) (k : Nat) (d : PyData) (x : Str), env'[i]? = some (SV.sv l k d) → Γ.N[i]? = some x → (env[i]? = some (SV.sv l k d) ∧ x ∉ tgs) ∨ ∃ v u, RelV v u ∧ Dat G.K (fr T H fps) v d ∧ k = 0 ∧ ∃ m, s.heap.Ns C m ∧ m x = some u ∧ scope.names.lookup x = some .local) :
    QS X.prog X.w G.K X.mg (fr T H fps) H (genEnv scope (cloFrom X.env.cells scope.names []) C code bi X.env) Γ.N env' s := by
  have np : ∀ b, H b = none → b ≠ cp := fun b e z => by rw [z, hT] at e; cases e
  have bk : ∀ b o, X.base.get? b = some o → s.heap.get? b = some o := fun b o e => keep b o (np b (IB.bs b o e).2) (IB.bk b o e)
  refine ⟨hid_le, fun b o e => ?_, ?_, IB.mod.glob.keeps bk, fun i l k d x h1 h2 => ?_⟩
  · by_cases z : b = cp
    · rw [z] at e ⊢
      rw [hT] at e
      cases e
      obtain ⟨ps, e2, e3⟩ := ht
      exact ⟨⟨ps, e2, e3⟩, ⟨_, e2⟩, fun h1 h2 ⟨qs, y, z⟩ kk => ⟨qs, kk _ y, z⟩⟩
    · refine (IB.hok b o e).stay (fun d v hc q => keep d v ?_ q) (fun _ q => q) fun _ _ q => q
      rcases hc with y | y
      · rw [y]; exact z
      · rintro rfl
        rw [hT] at y
        cases y
  · rw [← ok.hK]
    exact IB.mod.kin.keeps bk
  · rcases new i l k d x h1 h2 with ⟨h3, h4⟩ | ⟨v, u, r1, r2, rfl, m, n1, n2, n3⟩
    · obtain ⟨v, v1, v2, _⟩ := SO.slot i l k d h3
      by_cases hv : Vis scope x
      · have hf : scope.names.lookup x = some .free := by
          rcases hv with z | z | z
          · rcases S.own x z with e | e
            · exact absurd (e ▸ List.mem_of_getElem? h2) S.nd
            · exact absurd e h4
          · exact absurd rfl (S.cell _ (PySem.mem_of_lookup z))
          · exact z
        have hk := S.free _ (PySem.mem_of_lookup hf) rfl
        obtain ⟨m, _, hl⟩ := IB.loc
        have hvis : Vis X.env.scope x := by
          rw [ok.sc]
          exact .inr hk
        obtain ⟨u, r1, r2⟩ := hl i x v (by rw [ok.hN]; exact h2) v1 hvis
        refine ⟨v, u, _, r1, v2, fun _ => ?_⟩
        rcases r2 with ⟨r2, _⟩ | ⟨_, a, r3, r4⟩
        · have e : X.env.scope.names.lookup x = some .local := r2
          rw [ok.sc] at e
          rcases hk with z | z <;> (rw [z] at e; cases e)
        · refine .inr ⟨hf, a, clo_look hf r3, ?_⟩
          obtain ⟨ob, e1, e2⟩ := r4
          exact ⟨ob, keep a ob (np a (IB.freeC x a r3)) e1, e2⟩
      · obtain ⟨u, r⟩ := relV_ex v
        exact ⟨v, u, _, r, v2, fun z => absurd z hv⟩
    · exact ⟨v, u, none', r1, ⟨rfl, r2⟩, fun _ => .inl ⟨n3, m, n1, n2⟩⟩
end
end Fx
set_option Elab.async false
set_option linter.all false
set_option maxRecDepth 100000
set_option maxHeartbeats 2000000
/-! G5: a generator expression is made, one name or two. -/
namespace Fx
open PySem PySem.Spec PyProof.Rows L2
section
variable {Γ : Gam} {G : Gh} {X : Cx}
theorem pass_at {ds : List PyData} {tst : PyData → Bool} {j i : Nat} (h : (passing (fun i => (ds[i]?.map tst).getD false) ds.length 0)[j]? = some i) : ∃ d, ds[i]? = some d ∧ (ds.filter tst)[j]? = some d := by
  have e := idx_map ds tst
  have e2 : passing (fun i => (ds[i]?.map tst).getD false) ds.length 0 = (List.range ds.length).filter fun i => (ds[i]?.map tst).getD false := by simp [passing]
  rw [e2] at h
  have e3 := congrArg (fun l => l[j]?) e
  simp only [List.getElem?_map, h, Option.map_some] at e3
  cases q : (ds.filter tst)[j]? with
  | none => rw [q] at e3; cases e3
  | some d =>
    rw [q] at e3
    exact ⟨d, by simpa using e3, rfl⟩
theorem pass_len (ds : List PyData) (tst : PyData → Bool) : (passing (fun i => (ds[i]?.map tst).getD false) ds.length 0).length = (ds.filter tst).length := by
  have e2 : passing (fun i => (ds[i]?.map tst).getD false) ds.length 0 = (List.range ds.length).filter fun i => (ds[i]?.map tst).getD false := by simp [passing]
  rw [e2]
  simpa using congrArg List.length (idx_map ds tst)
/-- the value that is asked, and the state behind -/
theorem gen_nm (ok : Ok Γ G X) (hok : X.Ok) {i : Nat} {x : Str} {elt iter : Expr} {ifs : List Expr} {ts : List Qx} {q : Qx} {scope : Scope} {px gpos : Pos} (hx : Γ.N[i]? = some x) (S : GenOk Γ scope [x]) (hts : chkQs (Γ.gen scope) ts ifs = true) (hq : chkQ (Γ.gen scope) q elt = true)
    (hs : ∀ v, genFold iter X.env v = pure v) {pins : List (Addr × Obj)} {σ : L2.St} {s : Shared} {Q' : Value → Shared → Prop}
    (src : wpAny (model X.prog X.w) X.A (eval iter X.env) (fun xv s1 => wpAny (model X.prog X.w) X.A (pyIter xv) (fun it s2 => ∃ (H : Hp) (T : As) (env : EnvD) (fps : Nat → As) (ds rs : List PyData), SrcN X pins σ (fr T H fps) H ds it s2 ∧ SOk G.K G.L T env σ H fps ∧ genL G.c (.nm i) ts q ds env = some rs ∧
      ∀ g s5, GReady X pins σ (fr T H fps) H rs g s5 → Q' (.ref g) s5) X.xe s1) X.xe s) :
    wpAny (model X.prog X.w) X.A (eval (.GeneratorExp elt [⟨.Name x px, iter, ifs, 0⟩] scope gpos) X.env) Q' X.xe s := by
  obtain ⟨ca, cp, hcode, hcs, TB⟩ := ok.code
  have hfree : ∀ y ∈ scope.names, y.2 = .free → ∃ a, X.env.cells.lookup y.1 = some a := fun y hy e => by
    have := S.free y hy e
    rw [← ok.sc] at this
    exact hok.has y.1 this
  refine wpAny_GeneratorExp_walksQD ok.room.hd S.co (closure_ok hfree) S.cell S.dot (S.loc x (List.mem_singleton.mpr rfl)) S.kind (by have := ok.room.dp; omega) ?_ hs
  refine wpAny_mono src (fun xv s1 h1 => wpAny_mono h1 (fun it s2 hh => ?_) fun _ _ e => e) fun _ _ e => e
  obtain ⟨H, T, env, fps, ds, rs, ⟨sB, IB, kB, hsB2, I, fp, wr, Pv, St, rfl, W, hst, hfp, hwr, hP⟩, SO, hg, hQ⟩ := hh
  obtain ⟨g1, g2⟩ := genL_spec hg
  have hT : H cp = some (TabO cp) := (hid_some (SO.tab cp (cs_tb hcs))).2
  obtain ⟨⟨ps, eP, hps⟩, _⟩ := IB.hok cp _ hT
  have k2 := kp_get kB
  have eP2 := k2 _ _ eP
  have hcplt : cp < sB.heap.objs.size := Heap.lt_size eP
  have np : ∀ b, H b = none → b ≠ cp := fun b e z => by rw [z, hT] at e; cases e
  have b2 : ∀ b o, X.base.get? b = some o → s2.heap.get? b = some o := fun b o e => k2 b o (IB.bk b o e)
  have cd : PySem.W.CodeHd s2.heap ca cp := TB.code.keeps b2
  have lim2 : s2.heap.NoLimit := IB.nolimit.keeps k2
  refine ⟨lim2, ?_⟩
  have cont : ∀ (code : Value) (h3 : Heap) (tk : Nat) (ps' : Array Value), Heap.ExtBut cp s2.heap h3 → s2.heap.objs.size ≤ h3.objs.size → h3.get? cp = some { cls := .none, data := .fields ps' } → TriplesOk ps'.toList →
      wpAny (model X.prog X.w) X.A (builtinsFor X.env.globals X.env.builtins) (fun bi s4 => ∃ I_1 fp wr n₀ P St₀ pz F, Value.ref I = .ref I_1 ∧ (∀ A' : Around, A'.handled = none → Walks X.prog X.w A' I_1 fp wr n₀ P St₀) ∧ St₀ 0 s4.heap ∧ (∀ b ∈ fp, b < s4.heap.objs.size) ∧ s4.heap.NoLimit ∧ cStatics ∉ wr ∧
          (∀ href : Heap, (∀ b o, s4.heap.get? b = some o → href.get? b = some o) →
            QuietGenD X.prog X.w (genEnv scope (cloFrom X.env.cells scope.names []) s4.heap.objs.size code bi X.env) x ifs elt (List.range s4.heap.objs.size) wr P pz F href (X.A.depth + 1) (X.A.units + 8)) ∧
          (∀ a h5 tk gs, gs.bare = true → s4.heap.objs.size < a → h5.objs.size = a + 1 → (∀ b o, s4.heap.get? b = some o → h5.get? b = some o) →
            WalksS X.prog X.w X.A.in4 a (a :: s4.heap.objs.size :: List.range s4.heap.objs.size) (s4.heap.objs.size :: wr) (GenOnlyQ s4.gens.size) (passing pz n₀ 0).length
              (fun j y => ∃ i, (passing pz n₀ 0)[j]? = some i ∧ F i y) (GenAt X.prog X.w X.A.in4 a s4.gens.size s4.heap.objs.size (List.range s4.heap.objs.size) wr pz n₀ F) →
            GenAt X.prog X.w X.A.in4 a s4.gens.size s4.heap.objs.size (List.range s4.heap.objs.size) wr pz n₀ F 0 { s4 with gens := s4.gens.push gs, toks := tk, heap := h5 } →
            Q' (.ref a) { s4 with gens := s4.gens.push gs, toks := tk, heap := h5 })) X.xe { s2 with heap := h3, toks := tk } := by
    intro code h3 tk ps' hx3 hsz hP3 ht3
    obtain ⟨bm, ob, e1, e2, e3, e4, e5, e6, e7, e8⟩ := TB.bm
    have k3 : ∀ b o, b ≠ cp → sB.heap.get? b = some o → h3.get? b = some o := fun b o hb e => hx3 b o hb (k2 b o e)
    have k3b : ∀ b o, X.base.get? b = some o → h3.get? b = some o := fun b o e => k3 b o (np b (IB.bs b o e).2) (IB.bk b o e)
    refine wpAny_builtinsFor (m := X.mg) (by rw [hok.glob]; exact IB.mod.glob.keeps k3b) e1 e2 (k3b _ _ e5) e6 e7 e8 ?_
    have hcst : (cStatics : Addr) ≠ cp := by
      obtain ⟨mc, ⟨o, es, ep, ho, _⟩, _⟩ := IB.mod.nolimit
      exact np _ (IB.bs _ _ ho).2
    have hst0 : (cStatics : Addr) < sB.heap.objs.size := let ⟨_, hn, _⟩ := IB.nolimit; hn.lt
    have lt3 : ∀ b, b < sB.heap.objs.size → b < h3.objs.size := fun b z => Nat.lt_of_lt_of_le z (Nat.le_trans hsB2 hsz)
    have nwr : ∀ b, b < sB.heap.objs.size → b ∉ wr := fun b z y => absurd (hwr b y) (Nat.not_le_of_lt z)
    have F0 : QF G.K X.mg G.c (Γ.gen scope) (genEnv scope (cloFrom X.env.cells scope.names []) h3.objs.size code builtinsNs X.env) := ⟨S.kind, hok.glob, rfl, ok.con⟩
    have QS0 : ∀ (s₂ : Shared) (d : PyData) (v : Value) (xv : V) (e : EnvD) (m₂ : Str → Option Value), RelV xv v → Dat X.K (fr T H fps) xv d → bindT (.nm i) d env = some e → s₂.heap.Ns h3.objs.size m₂ → m₂ x = some v → (∀ href : Heap, (∀ b o, h3.get? b = some o → href.get? b = some o) → (∀ b ∈ List.range h3.objs.size, b ∉ wr → ∀ o, href.get? b = some o → s₂.heap.get? b = some o) →
        QS X.prog X.w G.K X.mg (fr T H fps) H (genEnv scope (cloFrom X.env.cells scope.names []) h3.objs.size code builtinsNs X.env) Γ.N e s₂) := by
      intro s₂ d v xv e m₂ r1 d1 hb hn hm href hh hk
      have kk : ∀ b o, b < sB.heap.objs.size → h3.get? b = some o → s₂.heap.get? b = some o := fun b o z e => hk b (List.mem_range.mpr (lt3 b z)) (nwr b z) o (hh b o e)
      refine qs_of ok S IB SO hT (fun b o hb e => kk b o (Heap.lt_size e) (k3 b o hb e)) ⟨ps', kk cp _ hcplt hP3, ht3⟩ fun j l k d' y e1 e2 => ?_
      have hb : setS env i 0 d = some e := hb
      have he : e = env.set i (.sv false 0 d) := by
        unfold setS at hb
        split at hb
        · cases hb
        · exact (Option.some.inj hb).symm
        · cases hb
      have hi : i < Γ.N.length := by rw [List.getElem?_eq_some_iff] at hx; exact hx.1
      by_cases hj : j = i
      · subst hj
        rw [hx] at e2
        cases e2
        rw [he] at e1
        have hlen : j < env.length := by
          rw [List.getElem?_eq_some_iff] at e1
          have := e1.1
          rwa [List.length_set] at this
        rw [List.getElem?_set_self hlen] at e1
        cases e1
        exact .inr ⟨xv, v, r1, by rw [← ok.hK]; exact d1, rfl, m₂, hn, hm, S.loc _ (List.mem_singleton.mpr rfl)⟩
      · rw [he, List.getElem?_set_ne (Ne.symm hj)] at e1
        refine .inl ⟨e1, fun z => hj ?_⟩
        rw [List.mem_singleton.mp z] at e2
        exact ((List.getElem?_inj hi ok.nd).mp (hx.trans e2.symm)).symm
    refine ⟨I, fp, wr, ds.length, Pv, St, fun n => (ds[n]?.map (gTst G.c (.nm i) ts env)).getD false, fun n y => ∃ d, ds[n]? = some d ∧ ∃ v, RelV v y ∧ Dat X.K (fr T H fps) v (gVal G.c (.nm i) q env d), rfl, W, ?_, ?_, ?_, ?_, ?_, ?_⟩
    · refine (W X.A ok.room.hd).frame _ _ _ hst fun b hb o e => hx3 b o ?_ e
      rintro rfl
      exact (hfp b hb).2 _ hT
    · exact fun b hb => Nat.lt_of_lt_of_le (hfp b hb).1 hsz
    · obtain ⟨mc, hn, hnn⟩ := IB.nolimit
      exact ⟨mc, hn.at' fun o e => k3 _ o hcst e, hnn⟩
    · exact nwr _ hst0
    · intro href hhref
      have hh : ∀ b o, h3.get? b = some o → href.get? b = some o := hhref
      refine ⟨fun A' E' j v s₂ m₂ hA hD hU hv hn hm hk => ?_, fun A' E' j v s₂ m₂ hA hD hU hv hp hn hm hk => ?_⟩
      · obtain ⟨d, xv, e1, r1, d1⟩ := hP j v hv
        obtain ⟨e, b1, b2, b3⟩ := g1 d (List.mem_of_getElem? e1)
        refine q_tests F0 ts ifs hts A' E' s₂ _ _ (by have := ok.hu; omega) (QS0 s₂ d v xv e m₂ r1 d1 b1 hn hm href hh hk) b2 fun s' k => ⟨?_, k⟩
        rw [e1]; rfl
      · obtain ⟨d, xv, e1, r1, d1⟩ := hP j v hv
        obtain ⟨e, b1, b2, b3⟩ := g1 d (List.mem_of_getElem? e1)
        have ht : gTst G.c (.nm i) ts env d = true := by rw [e1] at hp; exact hp
        exact q_Q F0 hq (by have := ok.hu; omega) (QS0 s₂ d v xv e m₂ r1 d1 b1 hn hm href hh hk) (b3 ht) fun y s' vv k r t => ⟨⟨d, e1, vv, r, by rw [ok.hK]; exact t⟩, k⟩
    · intro g h5 tk5 gs hgb hag hsz5 hk5 W5 hat
      have hag : h3.objs.size < g := hag
      have k5 : ∀ b o, h3.get? b = some o → h5.get? b = some o := hk5
      rw [pass_len] at W5
      have hlen : (ds.filter (gTst G.c (.nm i) ts env)).length = rs.length := by rw [g2, List.length_map]
      rw [hlen] at W5
      obtain ⟨hh, tk2, rfl, _⟩ := kB
      refine hQ g _ ⟨_, _, _, _, _, W5, hat, fun j s hs => Heap.IsGen.typeIs hs.1, fun b hb => ?_, List.mem_cons_self, fun j y hy => ?_, fun s' hm => ?_⟩
      · show b < h5.objs.size
        rw [hsz5]
        rcases List.mem_cons.mp hb with z | z
        · rw [z]; exact Nat.lt_succ_self _
        · rcases List.mem_cons.mp z with z | z
          · rw [z]; exact Nat.lt_succ_of_lt hag
          · exact Nat.lt_succ_of_lt (Nat.lt_trans (List.mem_range.mp z) hag)
      · obtain ⟨jj, hj, d, hd, v, r, t⟩ := hy
        obtain ⟨d', hd', hf⟩ := pass_at hj
        rw [hd] at hd'
        cases hd'
        refine ⟨_, v, ?_, r, t⟩
        rw [g2, List.getElem?_map, hf]; rfl
      · have kk : ∀ b o, b < sB.heap.objs.size → h3.get? b = some o → s'.heap.get? b = some o := fun b o z e => hm.heap b o (fun y => by
          rcases List.mem_cons.mp y with y | y
          · have y : b = h3.objs.size := y
            have := lt3 b z
            omega
          · exact nwr b z y) (k5 b o e)
        exact inv_grow IB hT hm.os (AllBare.movedS (IB.bare.push hgb) hm) (fun b o hb e => kk b o (Heap.lt_size e) (k3 b o hb e)) ⟨ps', kk cp _ hcplt hP3, ht3⟩
  cases hf : codeAmong gpos ps.toList with
  | none =>
    refine wpAny_genexprCodeX hcode (cd.code eP2 hps) (cd.tab eP2) hf fun c' h' tk hx' hge hlt hco' _ htab' _ => ?_
    obtain ⟨o1, vs, f1, tf, fl, tg, inF, tx, tt, op, _, _, _, _, _, _, _, _, _, htr, _⟩ := hco'
    exact cont _ h' tk _ hx' (Nat.le_trans hge (Nat.le_of_lt hlt)) htab'.2 htr
  | some cv =>
    refine wpAny_genexprCode_hit hcode (cd.code eP2 hps) hf ?_
    exact cont cv s2.heap s2.toks ps (Heap.ExtBut.refl _ _) (Nat.le_refl _) eP2 hps
end
end Fx
set_option Elab.async false
set_option linter.all false
set_option maxRecDepth 100000
set_option maxHeartbeats 2000000
/-! G6: a generator expression is made, two names. -/
namespace Fx
open PySem PySem.Spec PyProof.Rows L2
section
variable {Γ : Gam} {G : Gh} {X : Cx}
/-- two names -/
def tg2 (i j : Nat) : Tg := .tp (.cons (.nm i) (.cons (.nm j) .nil))
/-- pairs are handed out, one by one -/
def SrcT (X : Cx) (pins : List (Addr × Obj)) (σ : L2.St) (F H : Hp) (ds : List PyData) (it : Value) (s2 : Shared) : Prop :=
  ∃ sB, Inv X pins σ H sB ∧ Keeps sB s2 ∧ sB.heap.objs.size ≤ s2.heap.objs.size ∧ ∃ (I : Addr) (fp wr : List Addr) (Pt : Nat → Array Value → Prop) (St : Nat → Heap → Prop) (Mid : Nat → Addr → Heap → Prop), it = .ref I ∧ (∀ A' : Around, A'.handled = none → WalksU X.prog X.w A' I fp wr ds.length Pt St Mid) ∧
    (∀ i vals, Pt i vals → ∃ va vb, vals = #[va, vb]) ∧ St 0 s2.heap ∧ (∀ b ∈ fp, b < s2.heap.objs.size ∧ ∀ φ, H b ≠ some (.ext φ)) ∧ (∀ b ∈ wr, sB.heap.objs.size ≤ b) ∧
    ∀ i va vb, Pt i #[va, vb] → ∃ da db xa xb, ds[i]? = some (.tuple [da, db]) ∧ RelV xa va ∧ Dat X.K F xa da ∧ RelV xb vb ∧ Dat X.K F xb db
theorem setS_set {env e : EnvD} {i k : Nat} {d : PyData} (h : setS env i k d = some e) : e = env.set i (.sv false k d) := by
  unfold setS at h
  split at h
  · cases h
  · exact (Option.some.inj h).symm
  · cases h
theorem tg2_bind {i j : Nat} {a b : PyData} {env e : EnvD} (h : bindT (tg2 i j) (.tuple [a, b]) env = some e) : ∃ e', e' = env.set i (.sv false 0 a) ∧ e = e'.set j (.sv false 0 b) := by
  simp only [tg2, bindT, bindTs] at h
  obtain ⟨e1, h1, h⟩ := Option.bind_eq_some_iff.mp h
  obtain ⟨e2, h2, h⟩ := Option.bind_eq_some_iff.mp h
  cases h
  exact ⟨e1, setS_set h1, setS_set h2⟩
theorem set_lt {env : EnvD} {j : Nat} {x y : SV} (h : (env.set j x)[j]? = some y) : j < env.length := by
  rw [List.getElem?_eq_some_iff] at h
  have := h.1
  rwa [List.length_set] at this
/-- the value that is asked, and the state behind -/
theorem gen_tp (ok : Ok Γ G X) (hok : X.Ok) {i1 i2 : Nat} {x1 x2 : Str} {elt iter : Expr} {ifs : List Expr} {ts : List Qx} {q : Qx} {scope : Scope} {p1 p2 pt gpos : Pos} {kt : Nat} (hx1 : Γ.N[i1]? = some x1) (hx2 : Γ.N[i2]? = some x2) (hne : i1 ≠ i2) (S : GenOk Γ scope [x1, x2]) (hts : chkQs (Γ.gen scope) ts ifs = true) (hq : chkQ (Γ.gen scope) q elt = true)
    (hs : ∀ v, genFold iter X.env v = pure v) {pins : List (Addr × Obj)} {σ : L2.St} {s : Shared} {Q' : Value → Shared → Prop}
    (src : wpAny (model X.prog X.w) X.A (eval iter X.env) (fun xv s1 => wpAny (model X.prog X.w) X.A (pyIter xv) (fun it s2 => ∃ (H : Hp) (T : As) (env : EnvD) (fps : Nat → As) (ds rs : List PyData), SrcT X pins σ (fr T H fps) H ds it s2 ∧ SOk G.K G.L T env σ H fps ∧ genL G.c (tg2 i1 i2) ts q ds env = some rs ∧
      ∀ g s5, GReady X pins σ (fr T H fps) H rs g s5 → Q' (.ref g) s5) X.xe s1) X.xe s) :
    wpAny (model X.prog X.w) X.A (eval (.GeneratorExp elt [⟨.Tuple [.Name x1 p1, .Name x2 p2] kt pt, iter, ifs, 0⟩] scope gpos) X.env) Q' X.xe s := by
  obtain ⟨ca, cp, hcode, hcs, TB⟩ := ok.code
  have hfree : ∀ y ∈ scope.names, y.2 = .free → ∃ a, X.env.cells.lookup y.1 = some a := fun y hy e => by
    have := S.free y hy e
    rw [← ok.sc] at this
    exact hok.has y.1 this
  have hl1 : i1 < Γ.N.length := by rw [List.getElem?_eq_some_iff] at hx1; exact hx1.1
  have hl2 : i2 < Γ.N.length := by rw [List.getElem?_eq_some_iff] at hx2; exact hx2.1
  have nex : x1 ≠ x2 := fun e => hne ((List.getElem?_inj hl1 ok.nd).mp (hx1.trans (e ▸ hx2.symm)))
  refine wpAny_GeneratorExp_walksQTD ok.room.hd S.co (closure_ok hfree) S.cell S.dot (S.loc x1 (by simp)) (S.loc x2 (by simp)) nex S.kind (by have := ok.room.dp; omega) ?_ hs
  refine wpAny_mono src (fun xv s1 h1 => wpAny_mono h1 (fun it s2 hh => ?_) fun _ _ e => e) fun _ _ e => e
  obtain ⟨H, T, env, fps, ds, rs, ⟨sB, IB, kB, hsB2, I, fp, wr, Pt, St, Mid, rfl, W, hvl, hst, hfp, hwr, hP⟩, SO, hg, hQ⟩ := hh
  obtain ⟨g1, g2⟩ := genL_spec hg
  have hT : H cp = some (TabO cp) := (hid_some (SO.tab cp (cs_tb hcs))).2
  obtain ⟨⟨ps, eP, hps⟩, _⟩ := IB.hok cp _ hT
  have k2 := kp_get kB
  have eP2 := k2 _ _ eP
  have hcplt : cp < sB.heap.objs.size := Heap.lt_size eP
  have np : ∀ b, H b = none → b ≠ cp := fun b e z => by rw [z, hT] at e; cases e
  have b2 : ∀ b o, X.base.get? b = some o → s2.heap.get? b = some o := fun b o e => k2 b o (IB.bk b o e)
  have cd : PySem.W.CodeHd s2.heap ca cp := TB.code.keeps b2
  have lim2 : s2.heap.NoLimit := IB.nolimit.keeps k2
  refine ⟨lim2, ?_⟩
  have cont : ∀ (code : Value) (h3 : Heap) (tk : Nat) (ps' : Array Value), Heap.ExtBut cp s2.heap h3 → s2.heap.objs.size ≤ h3.objs.size → h3.get? cp = some { cls := .none, data := .fields ps' } → TriplesOk ps'.toList →
      wpAny (model X.prog X.w) X.A (builtinsFor X.env.globals X.env.builtins) (fun bi s4 => ∃ I_1 fp wr n₀ Pt St₀ Mid pz F, Value.ref I = .ref I_1 ∧ (∀ A' : Around, A'.handled = none → WalksU X.prog X.w A' I_1 fp wr n₀ Pt St₀ Mid) ∧ (∀ i vals, Pt i vals → ∃ va vb, vals = #[va, vb]) ∧ St₀ 0 s4.heap ∧ (∀ b ∈ fp, b < s4.heap.objs.size) ∧ s4.heap.NoLimit ∧ cStatics ∉ wr ∧
          (∀ href : Heap, (∀ b o, s4.heap.get? b = some o → href.get? b = some o) →
            QuietGenTD X.prog X.w (genEnv scope (cloFrom X.env.cells scope.names []) s4.heap.objs.size code bi X.env) x1 x2 ifs elt (List.range s4.heap.objs.size) wr Pt pz F href (X.A.depth + 1) (X.A.units + 8)) ∧
          (∀ a h5 tk gs, gs.bare = true → s4.heap.objs.size < a → h5.objs.size = a + 1 → (∀ b o, s4.heap.get? b = some o → h5.get? b = some o) →
            WalksS X.prog X.w X.A.in4 a (a :: s4.heap.objs.size :: List.range s4.heap.objs.size) (s4.heap.objs.size :: wr) (GenOnlyQ s4.gens.size) (passing pz n₀ 0).length
              (fun j y => ∃ i, (passing pz n₀ 0)[j]? = some i ∧ F i y) (GenAt X.prog X.w X.A.in4 a s4.gens.size s4.heap.objs.size (List.range s4.heap.objs.size) wr pz n₀ F) →
            GenAt X.prog X.w X.A.in4 a s4.gens.size s4.heap.objs.size (List.range s4.heap.objs.size) wr pz n₀ F 0 { s4 with gens := s4.gens.push gs, toks := tk, heap := h5 } →
            Q' (.ref a) { s4 with gens := s4.gens.push gs, toks := tk, heap := h5 })) X.xe { s2 with heap := h3, toks := tk } := by
    intro code h3 tk ps' hx3 hsz hP3 ht3
    obtain ⟨bm, ob, e1, e2, e3, e4, e5, e6, e7, e8⟩ := TB.bm
    have k3 : ∀ b o, b ≠ cp → sB.heap.get? b = some o → h3.get? b = some o := fun b o hb e => hx3 b o hb (k2 b o e)
    have k3b : ∀ b o, X.base.get? b = some o → h3.get? b = some o := fun b o e => k3 b o (np b (IB.bs b o e).2) (IB.bk b o e)
    refine wpAny_builtinsFor (m := X.mg) (by rw [hok.glob]; exact IB.mod.glob.keeps k3b) e1 e2 (k3b _ _ e5) e6 e7 e8 ?_
    have hcst : (cStatics : Addr) ≠ cp := by
      obtain ⟨mc, ⟨o, es, ep, ho, _⟩, _⟩ := IB.mod.nolimit
      exact np _ (IB.bs _ _ ho).2
    have hst0 : (cStatics : Addr) < sB.heap.objs.size := let ⟨_, hn, _⟩ := IB.nolimit; hn.lt
    have lt3 : ∀ b, b < sB.heap.objs.size → b < h3.objs.size := fun b z => Nat.lt_of_lt_of_le z (Nat.le_trans hsB2 hsz)
    have nwr : ∀ b, b < sB.heap.objs.size → b ∉ wr := fun b z y => absurd (hwr b y) (Nat.not_le_of_lt z)
    have F0 : QF G.K X.mg G.c (Γ.gen scope) (genEnv scope (cloFrom X.env.cells scope.names []) h3.objs.size code builtinsNs X.env) := ⟨S.kind, hok.glob, rfl, ok.con⟩
    have QS0 : ∀ (s₂ : Shared) (d1 d2 : PyData) (u1 u2 : Value) (v1 v2 : V) (e : EnvD) (m₂ : Str → Option Value), RelV v1 u1 → Dat X.K (fr T H fps) v1 d1 → RelV v2 u2 → Dat X.K (fr T H fps) v2 d2 → bindT (tg2 i1 i2) (.tuple [d1, d2]) env = some e → s₂.heap.Ns h3.objs.size m₂ → m₂ x1 = some u1 → m₂ x2 = some u2 →
        (∀ href : Heap, (∀ b o, h3.get? b = some o → href.get? b = some o) → (∀ b ∈ List.range h3.objs.size, b ∉ wr → ∀ o, href.get? b = some o → s₂.heap.get? b = some o) →
        QS X.prog X.w G.K X.mg (fr T H fps) H (genEnv scope (cloFrom X.env.cells scope.names []) h3.objs.size code builtinsNs X.env) Γ.N e s₂) := by
      intro s₂ d1 d2 u1 u2 v1 v2 e m₂ r1 t1 r2 t2 hb hn hm1 hm2 href hh hk
      have kk : ∀ b o, b < sB.heap.objs.size → h3.get? b = some o → s₂.heap.get? b = some o := fun b o z e => hk b (List.mem_range.mpr (lt3 b z)) (nwr b z) o (hh b o e)
      refine qs_of ok S IB SO hT (fun b o hb e => kk b o (Heap.lt_size e) (k3 b o hb e)) ⟨ps', kk cp _ hcplt hP3, ht3⟩ fun j l k d' y e1 e2 => ?_
      obtain ⟨e', he', he⟩ := tg2_bind hb
      have inj : ∀ {a b : Nat} {z : Str}, Γ.N[a]? = some z → Γ.N[b]? = some z → a = b := fun {a b z} ha hb => by
        have hl : a < Γ.N.length := by rw [List.getElem?_eq_some_iff] at ha; exact ha.1
        exact (List.getElem?_inj hl ok.nd).mp (ha.trans hb.symm)
      by_cases hj2 : j = i2
      · subst hj2
        rw [hx2] at e2
        cases e2
        rw [he] at e1
        rw [List.getElem?_set_self (set_lt e1)] at e1
        cases e1
        exact .inr ⟨v2, u2, r2, by rw [← ok.hK]; exact t2, rfl, m₂, hn, hm2, S.loc _ (by simp)⟩
      · rw [he, List.getElem?_set_ne (Ne.symm hj2)] at e1
        by_cases hj : j = i1
        · subst hj
          rw [hx1] at e2
          cases e2
          rw [he'] at e1
          rw [List.getElem?_set_self (set_lt e1)] at e1
          cases e1
          exact .inr ⟨v1, u1, r1, by rw [← ok.hK]; exact t1, rfl, m₂, hn, hm1, S.loc _ (by simp)⟩
        · rw [he', List.getElem?_set_ne (Ne.symm hj)] at e1
          refine .inl ⟨e1, fun z => ?_⟩
          rcases List.mem_cons.mp z with z | z
          · rw [z] at e2; exact hj (inj e2 hx1)
          · rw [List.mem_singleton.mp z] at e2; exact hj2 (inj e2 hx2)
    refine ⟨I, fp, wr, ds.length, Pt, St, Mid, fun n => (ds[n]?.map (gTst G.c (tg2 i1 i2) ts env)).getD false, fun n y => ∃ d, ds[n]? = some d ∧ ∃ v, RelV v y ∧ Dat X.K (fr T H fps) v (gVal G.c (tg2 i1 i2) q env d), rfl, W, hvl, ?_, ?_, ?_, ?_, ?_, ?_⟩
    · refine (W X.A ok.room.hd).frame _ _ _ hst fun b hb o e => hx3 b o ?_ e
      rintro rfl
      exact (hfp b hb).2 _ hT
    · exact fun b hb => Nat.lt_of_lt_of_le (hfp b hb).1 hsz
    · obtain ⟨mc, hn, hnn⟩ := IB.nolimit
      exact ⟨mc, hn.at' fun o e => k3 _ o hcst e, hnn⟩
    · exact nwr _ hst0
    · intro href hhref
      have hh : ∀ b o, h3.get? b = some o → href.get? b = some o := hhref
      refine ⟨fun A' E' j va vb s₂ m₂ hA hD hU hv hn hma hmb hk => ?_, fun A' E' j va vb s₂ m₂ hA hD hU hv hp hn hma hmb hk => ?_⟩
      · obtain ⟨da, db, xa, xb, e1, r1, t1, r2, t2⟩ := hP j va vb hv
        obtain ⟨e, b1, b2, b3⟩ := g1 _ (List.mem_of_getElem? e1)
        refine q_tests F0 ts ifs hts A' E' s₂ _ _ (by have := ok.hu; omega) (QS0 s₂ da db va vb xa xb e m₂ r1 t1 r2 t2 b1 hn hma hmb href hh hk) b2 fun s' k => ⟨?_, k⟩
        rw [e1]; rfl
      · obtain ⟨da, db, xa, xb, e1, r1, t1, r2, t2⟩ := hP j va vb hv
        obtain ⟨e, b1, b2, b3⟩ := g1 _ (List.mem_of_getElem? e1)
        have ht : gTst G.c (tg2 i1 i2) ts env (.tuple [da, db]) = true := by rw [e1] at hp; exact hp
        exact q_Q F0 hq (by have := ok.hu; omega) (QS0 s₂ da db va vb xa xb e m₂ r1 t1 r2 t2 b1 hn hma hmb href hh hk) (b3 ht) fun y s' vv k r t => ⟨⟨_, e1, vv, r, by rw [ok.hK]; exact t⟩, k⟩
    · intro g h5 tk5 gs hgb hag hsz5 hk5 W5 hat
      have hag : h3.objs.size < g := hag
      have k5 : ∀ b o, h3.get? b = some o → h5.get? b = some o := hk5
      rw [pass_len] at W5
      have hlen : (ds.filter (gTst G.c (tg2 i1 i2) ts env)).length = rs.length := by rw [g2, List.length_map]
      rw [hlen] at W5
      obtain ⟨hh, tk2, rfl, _⟩ := kB
      refine hQ g _ ⟨_, _, _, _, _, W5, hat, fun j s hs => Heap.IsGen.typeIs hs.1, fun b hb => ?_, List.mem_cons_self, fun j y hy => ?_, fun s' hm => ?_⟩
      · show b < h5.objs.size
        rw [hsz5]
        rcases List.mem_cons.mp hb with z | z
        · rw [z]; exact Nat.lt_succ_self _
        · rcases List.mem_cons.mp z with z | z
          · rw [z]; exact Nat.lt_succ_of_lt hag
          · exact Nat.lt_succ_of_lt (Nat.lt_trans (List.mem_range.mp z) hag)
      · obtain ⟨jj, hj, d, hd, v, r, t⟩ := hy
        obtain ⟨d', hd', hf⟩ := pass_at hj
        rw [hd] at hd'
        cases hd'
        refine ⟨_, v, ?_, r, t⟩
        rw [g2, List.getElem?_map, hf]; rfl
      · have kk : ∀ b o, b < sB.heap.objs.size → h3.get? b = some o → s'.heap.get? b = some o := fun b o z e => hm.heap b o (fun y => by
          rcases List.mem_cons.mp y with y | y
          · have y : b = h3.objs.size := y
            have := lt3 b z
            omega
          · exact nwr b z y) (k5 b o e)
        exact inv_grow IB hT hm.os (AllBare.movedS (IB.bare.push hgb) hm) (fun b o hb e => kk b o (Heap.lt_size e) (k3 b o hb e)) ⟨ps', kk cp _ hcplt hP3, ht3⟩
  cases hf : codeAmong gpos ps.toList with
  | none =>
    refine wpAny_genexprCodeX hcode (cd.code eP2 hps) (cd.tab eP2) hf fun c' h' tk hx' hge hlt hco' _ htab' _ => ?_
    obtain ⟨o1, vs, f1, tf, fl, tg, inF, tx, tt, op, _, _, _, _, _, _, _, _, _, htr, _⟩ := hco'
    exact cont _ h' tk _ hx' (Nat.le_trans hge (Nat.le_of_lt hlt)) htab'.2 htr
  | some cv =>
    refine wpAny_genexprCode_hit hcode (cd.code eP2 hps) hf ?_
    exact cont cv s2.heap s2.toks ps (Heap.ExtBut.refl _ _) (Nat.le_refl _) eP2 hps
end
end Fx
set_option Elab.async false
set_option linter.all false
set_option maxRecDepth 100000
/-! G7: sources of generator expressions. -/
namespace Fx
open PySem PySem.Spec PyProof.Rows L2
section
variable {X : Cx} {pins : List (Addr × Obj)} {σ : L2.St} {F H : Hp} {s : Shared}
theorem sq_noext {a : Addr} {xs : List V} (I : Inv X pins σ H s) (h : SqL X.K H a xs ∨ SqT X.K H a xs) : ∀ φ, H a ≠ some (.ext φ) := by
  intro φ e
  have kb : ∀ o, X.K.lookup a = some o → False := fun o h => by
    have := (I.bs a o (I.mod.kin a o h)).2
    rw [e] at this
    cases this
  rcases h with (h | ⟨o, _, _, h, _⟩) | (h | ⟨o, _, _, h, _⟩)
  · rcases h with h | ⟨ob, h⟩ <;> (rw [e] at h; cases h)
  · exact kb o h
  · rcases h with h | ⟨ob, h⟩ <;> (rw [e] at h; cases h)
  · exact kb o h
theorem push_keeps (s : Shared) (o : Obj) : Keeps s { s with heap := s.heap.push o } := ⟨_, s.toks, rfl, fun _ _ e => Heap.get?_push_of_some _ e⟩
theorem src_list {v : V} {u : Value} {ds : List PyData} {E : Value → Shared → Prop} (I : Inv X pins σ H s) (le : Le F H) (r : RelV v u) (d : Dat X.K F v (.list ds)) : wpAny (model X.prog X.w) X.A (pyIter u) (fun it s2 => SrcN X pins σ F H ds it s2) E s := by
  cases d with
  | lst q1 q2 =>
    rename_i a xs
    cases r
    obtain ⟨its, rv, pl, hz⟩ := sq_list I.hok I.kIn (le.sqL q1)
    have hL := pl.isList
    have halt : a < s.heap.objs.size := by obtain ⟨_, e, _⟩ := hL; exact Heap.lt_size e
    have hlen : its.toArray.size = ds.length := by rw [List.size_toArray, ← rv.length, q2.length]
    refine wpAny_pyIter_list hL ⟨s, I, push_keeps s _, by show s.heap.objs.size ≤ (s.heap.push _).objs.size; rw [Heap.size_push]; exact Nat.le_succ _, s.heap.objs.size, [s.heap.objs.size, a], [s.heap.objs.size], _, _, rfl,
      fun A' hA => hlen ▸ Walks.list hA _ _ (Nat.ne_of_lt halt) its.toArray, ⟨⟨_, Heap.get?_push_size _ rfl, rfl, rfl⟩, hL.push _⟩, fun b hb => ?_, fun b hb => ?_, fun i w hw => ?_⟩
    · have hsz : (s.heap.push { cls := .type "list_iterator", data := .fields #[.ref a, .int 0 0] }).objs.size = s.heap.objs.size + 1 := Heap.size_push ..
      refine ⟨?_, ?_⟩
      · show b < (s.heap.push _).objs.size
        rw [hsz]
        rcases List.mem_cons.mp hb with z | z
        · rw [z]; exact Nat.lt_succ_self _
        · rw [List.mem_singleton.mp z]; exact Nat.lt_succ_of_lt halt
      · rcases List.mem_cons.mp hb with z | z
        · intro φ e
          rw [z, I.hok.fresh (Nat.le_refl _)] at e
          cases e
        · rw [List.mem_singleton.mp z]; exact sq_noext I (.inl (le.sqL q1))
    · rw [List.mem_singleton.mp hb]; exact Nat.le_refl _
    · have hw : its.toArray[i]? = some w := hw
      have hw : its[i]? = some w := by simpa using hw
      cases hx : xs[i]? with
      | none => rw [rv.none_of hx] at hw; cases hw
      | some x =>
        obtain ⟨w', e1, e2⟩ := rv.get hx
        rw [hw] at e1
        cases e1
        cases hd : ds[i]? with
        | none =>
          have h1 := List.getElem?_eq_none_iff.mp hd
          rw [← q2.length] at h1
          rw [List.getElem?_eq_none_iff.mpr h1] at hx
          cases hx
        | some d =>
          obtain ⟨x', e3, e4⟩ := q2.get hd
          rw [hx] at e3
          cases e3
          exact ⟨d, x, rfl, e2, e4⟩
theorem src_tup {v : V} {u : Value} {ds : List PyData} {E : Value → Shared → Prop} (I : Inv X pins σ H s) (le : Le F H) (r : RelV v u) (d : Dat X.K F v (.tuple ds)) : wpAny (model X.prog X.w) X.A (pyIter u) (fun it s2 => SrcN X pins σ F H ds it s2) E s := by
  cases d with
  | tup q1 q2 =>
    rename_i a xs
    cases r
    obtain ⟨its, rv, pl, hz⟩ := sq_tup I.hok I.kIn (le.sqT q1)
    have hL : s.heap.IsTuple a its.toArray := pl
    have halt : a < s.heap.objs.size := by obtain ⟨_, e, _⟩ := hL; exact Heap.lt_size e
    have hlen : its.toArray.size = ds.length := by rw [List.size_toArray, ← rv.length, q2.length]
    refine wpAny_pyIter_tuple hL ⟨s, I, push_keeps s _, by show s.heap.objs.size ≤ (s.heap.push _).objs.size; rw [Heap.size_push]; exact Nat.le_succ _, s.heap.objs.size, [s.heap.objs.size, a], [s.heap.objs.size], _, _, rfl,
      fun A' hA => hlen ▸ Walks.tuple hA _ _ (Nat.ne_of_lt halt) its.toArray, ⟨⟨_, Heap.get?_push_size _ rfl, rfl, rfl⟩, hL.at fun o e => Heap.get?_push_of_some _ e⟩, fun b hb => ?_, fun b hb => ?_, fun i w hw => ?_⟩
    · have hsz : (s.heap.push { cls := .type "tuple_iterator", data := .fields #[.ref a, .int 0 0] }).objs.size = s.heap.objs.size + 1 := Heap.size_push ..
      refine ⟨?_, ?_⟩
      · show b < (s.heap.push _).objs.size
        rw [hsz]
        rcases List.mem_cons.mp hb with z | z
        · rw [z]; exact Nat.lt_succ_self _
        · rw [List.mem_singleton.mp z]; exact Nat.lt_succ_of_lt halt
      · rcases List.mem_cons.mp hb with z | z
        · intro φ e
          rw [z, I.hok.fresh (Nat.le_refl _)] at e
          cases e
        · rw [List.mem_singleton.mp z]; exact sq_noext I (.inr (le.sqT q1))
    · rw [List.mem_singleton.mp hb]; exact Nat.le_refl _
    · have hw : its.toArray[i]? = some w := hw
      have hw : its[i]? = some w := by simpa using hw
      cases hx : xs[i]? with
      | none => rw [rv.none_of hx] at hw; cases hw
      | some x =>
        obtain ⟨w', e1, e2⟩ := rv.get hx
        rw [hw] at e1
        cases e1
        cases hd : ds[i]? with
        | none =>
          have h1 := List.getElem?_eq_none_iff.mp hd
          rw [← q2.length] at h1
          rw [List.getElem?_eq_none_iff.mpr h1] at hx
          cases hx
        | some d =>
          obtain ⟨x', e3, e4⟩ := q2.get hd
          rw [hx] at e3
          cases e3
          exact ⟨d, x, rfl, e2, e4⟩
theorem src_enum {v : V} {u : Value} {ds : List PyData} {E : Value → Shared → Prop} (I : Inv X pins σ H s) (le : Le F H) (r : RelV v u) (d : Dat X.K F v (.list ds)) :
    wpAny (model X.prog X.w) X.A (call (.type "enumerate") [u]) (fun xv s1 => wpAny (model X.prog X.w) X.A (pyIter xv) (fun it s2 => SrcT X pins σ F H (enumL ds) it s2) E s1) E s := by
  cases d with
  | lst q1 q2 =>
    rename_i a xs
    cases r
    obtain ⟨its, rv, pl, hz⟩ := sq_list I.hok I.kIn (le.sqL q1)
    have hL := pl.isList
    have halt : a < s.heap.objs.size := by obtain ⟨_, e, _⟩ := hL; exact Heap.lt_size e
    have hlen : its.toArray.size = (enumL ds).length := by unfold enumL; rw [List.size_toArray, ← rv.length, q2.length, List.length_map, List.length_range]
    refine call_enumerate_list hL fun h' he hit hsz hk => wpAny_pyIter_enum he ⟨s, I, ⟨h', s.toks, rfl, hk⟩, by show s.heap.objs.size ≤ h'.objs.size; omega, s.heap.objs.size + 1, [s.heap.objs.size + 1, s.heap.objs.size, a], [s.heap.objs.size + 1, s.heap.objs.size], _, _, _, rfl,
      fun A' hA => hlen ▸ (WalksT.enumerate hA (s.heap.objs.size + 1) s.heap.objs.size a (Nat.succ_ne_self _) (Nat.ne_of_lt (Nat.lt_succ_of_lt halt)) (Nat.ne_of_lt halt) its.toArray).toU, fun i vals hv => ?_, ⟨⟨_, he⟩, hit, hL.at fun o e => hk _ _ e⟩, fun b hb => ?_, fun b hb => ?_, fun i va vb hv => ?_⟩
    · obtain ⟨t, x, _, e⟩ := hv
      exact ⟨_, _, e⟩
    · rcases List.mem_cons.mp hb with z | z
      · rw [z]
        exact ⟨by show s.heap.objs.size + 1 < h'.objs.size; omega, fun φ e => by rw [I.hok.fresh (Nat.le_succ _)] at e; cases e⟩
      · rcases List.mem_cons.mp z with z | z
        · rw [z]
          exact ⟨by show s.heap.objs.size < h'.objs.size; omega, fun φ e => by rw [I.hok.fresh (Nat.le_refl _)] at e; cases e⟩
        · rw [List.mem_singleton.mp z]
          exact ⟨by show a < h'.objs.size; have : s.heap.objs.size ≤ h'.objs.size := by omega
                    exact Nat.lt_of_lt_of_le halt this, sq_noext I (.inl (le.sqL q1))⟩
    · rcases List.mem_cons.mp hb with z | z
      · rw [z]; exact Nat.le_succ _
      · rw [List.mem_singleton.mp z]; exact Nat.le_refl _
    · obtain ⟨t, x, hx, e⟩ := hv
      obtain ⟨e1, e2⟩ : va = .int i t ∧ vb = x := by simpa using congrArg Array.toList e
      subst e1 e2
      have hw : its[i]? = some vb := by simpa using hx
      cases hxs : xs[i]? with
      | none => rw [rv.none_of hxs] at hw; cases hw
      | some y =>
        obtain ⟨w', e1, e2⟩ := rv.get hxs
        rw [hw] at e1
        cases e1
        have hi : i < ds.length := by
          rw [← q2.length]
          rw [List.getElem?_eq_some_iff] at hxs
          exact hxs.1
        have hd : ds[i]? = some ds[i] := List.getElem?_eq_getElem hi
        obtain ⟨x', e3, e4⟩ := q2.get hd
        rw [hxs] at e3
        cases e3
        refine ⟨.int i, ds[i], .int i, y, ?_, ⟨_, rfl⟩, .int _, e2, e4⟩
        unfold enumL
        rw [List.getElem?_map, List.getElem?_range hi]
        simp [List.getD, hd]
end
end Fx
set_option Elab.async false
set_option linter.all false
set_option maxRecDepth 100000
set_option maxHeartbeats 2000000
/-! G8: what takes a generator expression. -/
namespace Fx
open PySem PySem.Spec PyProof.Rows L2
def gval : Gc → Value
  | .sum => .builtin "sum"
  | .tuple => .type "tuple"
  | .all => .builtin "all"
  | .any => .builtin "any"
def gname : Gc → Str
  | .sum => "sum"
  | .tuple => "tuple"
  | .all => "all"
  | .any => "any"
theorem gboot (g : Gc) : bootBuiltins (gname g) = some (gval g) := by cases g <;> decide +kernel
theorem gname_blt (g : Gc) : gname g ∈ bltNames := by cases g <;> decide
theorem allInt_get : ∀ {rs : List PyData} {ns : List Int}, allInt rs = some ns → rs = ns.map .int
  | [], ns, h => by cases h; rfl
  | d :: ds, ns, h => by
    cases d <;> first | (cases h; done) | skip
    rename_i i
    simp only [allInt] at h
    obtain ⟨ms, h1, rfl⟩ := Option.map_eq_some_iff.mp h
    rw [allInt_get h1]; rfl
theorem allBool_get : ∀ {rs : List PyData} {bs : List Bool}, allBool rs = some bs → rs = bs.map .bool
  | [], ns, h => by cases h; rfl
  | d :: ds, ns, h => by
    cases d <;> first | (cases h; done) | skip
    rename_i i
    simp only [allBool] at h
    obtain ⟨ms, h1, rfl⟩ := Option.map_eq_some_iff.mp h
    rw [allBool_get h1]; rfl
theorem preSum_take (ns : List Int) : ∀ n, n ≤ ns.length → preSum (fun i => ns.getD i 0) n = (ns.take n).sum
  | 0, _ => rfl
  | n + 1, h => by
    have hn : n < ns.length := h
    show preSum _ n + ns.getD n 0 = _
    rw [preSum_take ns n (Nat.le_of_lt hn), List.take_succ_eq_append_getElem hn, List.sum_append]
    simp [List.getD, List.getElem?_eq_getElem hn]
theorem all_getD (bs : List Bool) : (List.range bs.length).all (fun i => bs.getD i false) = bs.all id := by
  rw [Bool.eq_iff_iff, List.all_eq_true, List.all_eq_true]
  constructor
  · intro h b hb
    obtain ⟨i, hi, rfl⟩ := List.getElem_of_mem hb
    have := h i (List.mem_range.mpr hi)
    simpa [List.getD, List.getElem?_eq_getElem hi] using this
  · intro h i hi
    have hi := List.mem_range.mp hi
    simpa [List.getD, List.getElem?_eq_getElem hi] using h _ (List.getElem_mem hi)
theorem any_getD (bs : List Bool) : (List.range bs.length).any (fun i => bs.getD i false) = bs.any id := by
  rw [Bool.eq_iff_iff, List.any_eq_true, List.any_eq_true]
  constructor
  · rintro ⟨i, hi, h⟩
    have hi := List.mem_range.mp hi
    refine ⟨bs[i], List.getElem_mem hi, ?_⟩
    simpa [List.getD, List.getElem?_eq_getElem hi] using h
  · rintro ⟨b, hb, h⟩
    obtain ⟨i, hi, rfl⟩ := List.getElem_of_mem hb
    exact ⟨i, List.mem_range.mpr hi, by simpa [List.getD, List.getElem?_eq_getElem hi] using h⟩
section
variable {X : Cx} {pins : List (Addr × Obj)} {σ : L2.St} {D H : Hp} {s : Shared}
theorem datL_of {P : Nat → V → PyData → Prop} {K : PySem.W.Frag} : ∀ (us : List Value) (ds : List PyData), us.length = ds.length → (∀ (j : Nat) (u : Value), us[j]? = some u → ∃ d v, ds[j]? = some d ∧ RelV v u ∧ Dat K D v d) → ∃ vs, Vals vs us ∧ DatL K D vs ds
  | [], [], _, _ => ⟨[], .nil, .nil⟩
  | u :: us, d :: ds, hl, h => by
    obtain ⟨d', v, h1, h2, h3⟩ := h 0 u rfl
    cases h1
    obtain ⟨vs, g1, g2⟩ := datL_of (P := P) us ds (by simpa using hl) fun j w hw => h (j + 1) w hw
    exact ⟨v :: vs, .cons h2 g1, .cons h3 g2⟩
  | [], _ :: _, hl, _ => by cases hl
  | _ :: _, [], hl, _ => by cases hl
theorem run_gc {g : Gc} {rs : List PyData} {d : PyData} {ga : Addr} {Q : VK} (hg : genF g rs = some d) (R : GReady X pins σ D H rs ga s) (q : ∀ z H', New X.K D H z d H' → Q z H') : wpAny (model X.prog X.w) X.A (call (gval g) [.ref ga]) (EP X pins σ Q) X.xe s := by
  obtain ⟨fp, wr, gi, F, St, W, hst, hty, hfp, hga, hF, hm⟩ := R
  have W1 : WalksS X.prog X.w X.A.in1 ga fp wr (GenOnlyQ gi) rs.length F St := W.in4_1
  cases g with
  | sum =>
    obtain ⟨ns, h1, h2⟩ := Option.map_eq_some_iff.mp hg
    cases h2
    have e := allInt_get h1
    have el : rs.length = ns.length := by rw [e, List.length_map]
    refine call_sum_walkAnyS (W1.self 0 _ _ _ hst ⟨ga, fp, wr, _, _, F, St, fun i => ns.getD i 0, rfl, W1, hst, hfp, fun i v hv => ?_, fun s' t' hmv => ?_⟩)
    · obtain ⟨d, x, g1, g2, g3⟩ := hF i v hv
      rw [e, List.getElem?_map] at g1
      obtain ⟨n, g4, g5⟩ := Option.map_eq_some_iff.mp g1
      cases g5
      cases g3.intV
      obtain ⟨t, rfl⟩ := g2
      exact ⟨t, by simp [List.getD, g4]⟩
    · refine ⟨.int ns.sum, H, hm s' hmv, ⟨t', ?_⟩, q _ _ (New.int _)⟩
      rw [el, preSum_take ns _ (Nat.le_refl _), List.take_length]
  | all =>
    obtain ⟨bs, h1, h2⟩ := Option.map_eq_some_iff.mp hg
    cases h2
    have e := allBool_get h1
    have el : rs.length = bs.length := by rw [e, List.length_map]
    refine call_all_walkS (W1.self 0 _ _ _ hst ⟨ga, fp, wr, _, _, F, St, fun i => bs.getD i false, rfl, W1, hst, fun i v s' Q' E' hv hq => ?_, fun s' hmv => ?_⟩)
    · obtain ⟨d, x, g1, g2, g3⟩ := hF i v hv
      rw [e, List.getElem?_map] at g1
      obtain ⟨n, g4, g5⟩ := Option.map_eq_some_iff.mp g1
      cases g5
      cases g3.boolV
      cases g2
      refine wpAny_truthy_bool ?_
      have hq : Q' (bs.getD i false) s' := hq
      simpa [List.getD, g4] using hq
    · refine ⟨.bl (bs.all id), H, hm s' hmv, ?_, q _ _ (New.bl _)⟩
      rw [el, all_getD]; rfl
  | any =>
    obtain ⟨bs, h1, h2⟩ := Option.map_eq_some_iff.mp hg
    cases h2
    have e := allBool_get h1
    have el : rs.length = bs.length := by rw [e, List.length_map]
    refine call_any_walkS (W1.self 0 _ _ _ hst ⟨ga, fp, wr, _, _, F, St, fun i => bs.getD i false, rfl, W1, hst, fun i v s' Q' E' hv hq => ?_, fun s' hmv => ?_⟩)
    · obtain ⟨d, x, g1, g2, g3⟩ := hF i v hv
      rw [e, List.getElem?_map] at g1
      obtain ⟨n, g4, g5⟩ := Option.map_eq_some_iff.mp g1
      cases g5
      cases g3.boolV
      cases g2
      refine wpAny_truthy_bool ?_
      have hq : Q' (bs.getD i false) s' := hq
      simpa [List.getD, g4] using hq
    · refine ⟨.bl (bs.any id), H, hm s' hmv, ?_, q _ _ (New.bl _)⟩
      rw [el, any_getD]; rfl
  | tuple =>
    simp only [genF] at hg
    split at hg
    · rename_i hl
      cases hg
      refine call_tuple_gen W.in4_3 hty hst hfp hga (fun s' acc hmv hacc => ?_) hl
      have I' := hm s' hmv
      obtain ⟨vs, g1, g2⟩ := datL_of (D := D) (P := fun _ _ _ => True) (K := X.K) acc.toList rs (by rw [Array.length_toList, hacc.1]) fun j u hu => by
        have hu : acc[j]? = some u := by rw [← Array.getElem?_toList]; exact hu
        exact hF j u (hacc.2 j u hu)
      have hlen : vs.length ≤ sizeLine := by rw [g2.length]; exact hl
      refine ⟨.ref s'.heap.objs.size, upd H s'.heap.objs.size (.tup vs), ?_, rfl, q _ _ (New.tup (I'.hok.fresh (Nat.le_refl _)) g2)⟩
      exact I'.laid (t' := s'.toks) (fun _ _ z => Heap.get?_push_of_some _ z) (Nat.le_refl _) ⟨hlen, acc.toList, g1, _, Heap.get?_push_size _ rfl, rfl, 0, by simp⟩
    · cases hg
end
end Fx
set_option Elab.async false
set_option linter.all false
set_option maxRecDepth 100000
set_option maxHeartbeats 2000000
/-! G9: generator expressions under what takes them. -/
namespace Fx
open PySem PySem.Spec PyProof.Rows L2
def okGen : Expr → Bool
  | .List .. => false
  | .Set .. => false
  | _ => true
theorem gen_fold {e : Expr} {env : PySem.Env} (h : okGen e = true) (x : Value) : genFold e env x = pure x := by
  cases e <;> first | rfl | cases h
def nEnum : Str := "enumerate"
section
variable {Γ : Gam} {G : Gh} {X : Cx}
/-- a call that takes one generator expression -/
theorem gen_call (ok : Ok Γ G X) {g : Gc} {p gpos pos : Pos} {elt : Expr} {cs : List Comprehension} {scope : Scope} {pins : List (Addr × Obj)} {σ : L2.St} {H : Hp} {s : Shared} {Q : VK} (I : Inv X pins σ H s) (hg : isGl Γ (gname g) = true)
    (h : wpAny (model X.prog X.w) X.A (eval (.GeneratorExp elt cs scope gpos) X.env) (fun u s' => ∃ ga, u = .ref ga ∧ wpAny (model X.prog X.w) X.A (call (gval g) [.ref ga]) (EP X pins σ Q) X.xe s') X.xe s) :
    wpAny (model X.prog X.w) X.A (eval (.Call (.Name (gname g) p) [.GeneratorExp elt cs scope gpos] [] pos) X.env) (EP X pins σ Q) X.xe s := by
  obtain ⟨g1, g2⟩ := ok.gl hg
  obtain ⟨n1, n2, n3⟩ := okName_1 g2
  refine wpAny_Call_Name_kw (ld_blt I g1 (ok.blt _ (gname_blt g)) (gboot g) ?_ n3 n1)
  have he : starEach [.GeneratorExp elt cs scope gpos] X.env = (false, eval (.GeneratorExp elt cs scope gpos) X.env) :: starEach [] X.env := by rfl
  have sp : ∀ (f : Value), (∀ ga s', wpAny (model X.prog X.w) X.A (call (gval g) [.ref ga]) (EP X pins σ Q) X.xe s' → wpAny (model X.prog X.w) X.A (call f [.ref ga]) (EP X pins σ Q) X.xe s') →
      wpAny (model X.prog X.w) X.A (spliced (backTo pos (starEach [.GeneratorExp elt cs scope gpos] X.env))) (fun vs s1 => wpAny (model X.prog X.w) X.A (call f vs) (EP X pins σ Q) X.xe s1) X.xe s := fun f hf => by
    rw [he]
    show wpAny _ _ (spliced ((false, eval (.GeneratorExp elt cs scope gpos) X.env) :: backTo pos (starEach [] X.env))) _ _ s
    refine Calls.spliced_cons (wpAny_mono h (fun u s' hh => ?_) fun _ _ e => e)
    obtain ⟨ga, rfl, hc⟩ := hh
    exact Calls.spliced_nil (hf ga s' hc)
  cases g with
  | sum => exact PyProof.Rows.callWith_builtin1 (sp _ fun _ _ z => z) he (by rfl)
  | tuple => exact PyProof.Rows.callWith_type1 (sp _ fun _ _ z => z) he (by rfl)
  | all => exact PyProof.Rows.callWith_builtin1 (sp _ fun _ _ z => z) he (by rfl)
  | any => exact PyProof.Rows.callWith_builtin1 (sp _ fun _ _ z => z) he (by rfl)
/-- behind the taking -/
theorem gen_end (ok : Ok Γ G X) {g : Gc} {T : As} {H0 H : Hp} {fps0 fps : Nat → As} {env : EnvD} {σ : L2.St} {k : Nat} {rs : List PyData} {d : PyData} {pins : List (Addr × Obj)} {ga : Addr} {s : Shared} {Q : VK} (SO : SOk G.K G.L T env σ H fps) (st : Stp T H0 fps0 T H fps) (hg : genF g rs = some d)
    (R : GReady X pins σ (fr T H fps) H rs ga s) (q : ∀ v H', VOut G T H0 fps0 σ k (d, env) v H' → Q v H') : wpAny (model X.prog X.w) X.A (call (gval g) [.ref ga]) (EP X pins σ Q) X.xe s := by
  have hd : isCont d = false := by
    cases g <;> simp only [genF] at hg
    · obtain ⟨_, _, rfl⟩ := Option.map_eq_some_iff.mp hg; rfl
    · split at hg
      · cases hg; rfl
      · cases hg
    · obtain ⟨_, _, rfl⟩ := Option.map_eq_some_iff.mp hg; rfl
    · obtain ⟨_, _, rfl⟩ := Option.map_eq_some_iff.mp hg; rfl
  refine run_gc hg R fun z H' hn => q z H' ?_
  have hn' : New G.K (fr T H fps) H z d H' := by rw [← ok.hK]; exact hn
  exact (VOut.new (G := G) (k := k) SO hn' (.inr hd)).more st
theorem k_genE {g : Gc} {i : Nat} {x : Str} {e : E} {ts : List Qx} {q : Qx} {ix elt : Expr} {ifs : List Expr} {scope : Scope} {p px gpos pos : Pos} (ok : Ok Γ G X) (hx : Γ.N[i]? = some x) (S : GenOk Γ scope [x]) (hts : chkQs (Γ.gen scope) ts ifs = true) (hq : chkQ (Γ.gen scope) q elt = true)
    (hi : PEk G X G.c e ix) (hs : okGen ix = true) (hg : isGl Γ (gname g) = true) : PEk G X G.c (.gen g (.nm i) (.e e) ts q) (.Call (.Name (gname g) p) [.GeneratorExp elt [⟨.Name x px, ix, ifs, 0⟩] scope gpos] [] pos) := by
  refine ne_p (fun k => ⟨fun pins s σ H Q I hh => ?_⟩) rfl
  obtain ⟨T, env, fps, SO, ho⟩ := hh
  simp only [ev, evI] at ho
  refine gen_call ok I hg (gen_nm ok I.ok hx S hts hq (gen_fold hs) (pins := pins) (σ := σ) ?_)
  refine thn ((hi.v 0).run pins s σ H (fun v H1 => ∃ env1 fps1 d0 ds rs d, SOk G.K G.L T env1 σ H1 fps1 ∧ Dat G.K (fr T H1 fps1) v d0 ∧ itemsD d0 = some ds ∧ genL G.c (.nm i) ts q ds env1 = some rs ∧ genF g rs = some d ∧ Stp T H fps T H1 fps1 ∧ ∀ v H', VOut G T H fps σ k (d, env1) v H' → Q v H') I
    ⟨T, env, fps, SO, ho.bind.bind.mono (fun r _ hr v H1 hv => ?_) fun _ _ z => z⟩) fun u s1 hh => ?_
  · obtain ⟨fps1, I1, d1, st⟩ := hv.zero
    obtain ⟨ds, e1, hr⟩ := Out.of_bind hr
    obtain ⟨d, e2, hr⟩ := Out.of_bind hr
    obtain ⟨rs, e3, e4⟩ := Option.bind_eq_some_iff.mp e2
    exact ⟨r.2, fps1, r.1, ds, rs, d, I1, d1, e1, e3, e4, st, hr⟩
  · obtain ⟨v, H1, I1, r1, env1, fps1, d0, ds, rs, d, SO1, dd, e1, e2, e3, st, hq⟩ := hh
    have dd : Dat X.K (fr T H1 fps1) v d0 := by rw [ok.hK]; exact dd
    cases d0 <;> first | (cases e1; done) | skip
    · rename_i xs
      cases e1
      exact wpAny_mono (src_list I1 hid_le r1 dd) (fun it s2 hsrc => ⟨H1, T, env1, fps1, _, rs, hsrc, SO1, e2, fun ga s5 R => ⟨ga, rfl, gen_end ok SO1 st e3 R hq⟩⟩) fun _ _ z => z
    · rename_i xs
      cases e1
      exact wpAny_mono (src_tup I1 hid_le r1 dd) (fun it s2 hsrc => ⟨H1, T, env1, fps1, _, rs, hsrc, SO1, e2, fun ga s5 R => ⟨ga, rfl, gen_end ok SO1 st e3 R hq⟩⟩) fun _ _ z => z
theorem k_genN {g : Gc} {i j : Nat} {x y : Str} {e : E} {ts : List Qx} {q : Qx} {ix elt : Expr} {ifs : List Expr} {scope : Scope} {p p1 p2 p3 p4 pt gpos pos : Pos} {kt : Nat} (ok : Ok Γ G X) (hx : Γ.N[i]? = some x) (hy : Γ.N[j]? = some y) (hne : i ≠ j) (S : GenOk Γ scope [x, y]) (hts : chkQs (Γ.gen scope) ts ifs = true) (hq : chkQ (Γ.gen scope) q elt = true)
    (hi : PEk G X G.c e ix) (hs1 : noStar1 ix = true) (hg : isGl Γ (gname g) = true) (hge : isGl Γ nEnum = true) : PEk G X G.c (.gen g (tg2 i j) (.enum e) ts q) (.Call (.Name (gname g) p) [.GeneratorExp elt [⟨.Tuple [.Name x p1, .Name y p2] kt pt, .Call (.Name nEnum p3) [ix] [] p4, ifs, 0⟩] scope gpos] [] pos) := by
  refine ne_p (fun k => ⟨fun pins s σ H Q I hh => ?_⟩) rfl
  obtain ⟨T, env, fps, SO, ho⟩ := hh
  simp only [ev, evI] at ho
  refine gen_call ok I hg (gen_tp ok I.ok hx hy hne S hts hq (fun _ => rfl) (pins := pins) (σ := σ) ?_)
  obtain ⟨g1, g2⟩ := ok.gl hge
  obtain ⟨n1, n2, n3⟩ := okName_1 g2
  refine wpAny_Call_Name_kw (ld_blt I g1 (ok.blt _ (by decide)) boot_enumerate ?_ n3 n1)
  have he : starEach [ix] X.env = (false, eval ix X.env) :: starEach [] X.env := star_cons hs1
  refine PyProof.Rows.callWith_type1 ?_ he (by rfl)
  rw [he]
  show wpAny _ _ (spliced ((false, eval ix X.env) :: backTo p4 (starEach [] X.env))) _ _ s
  refine Calls.spliced_cons (thn ((hi.v 0).run pins s σ H (fun v H1 => ∃ env1 fps1 d0 ds rs d, SOk G.K G.L T env1 σ H1 fps1 ∧ Dat G.K (fr T H1 fps1) v d0 ∧ enumD d0 = some ds ∧ genL G.c (tg2 i j) ts q ds env1 = some rs ∧ genF g rs = some d ∧ Stp T H fps T H1 fps1 ∧ ∀ v H', VOut G T H fps σ k (d, env1) v H' → Q v H') I
    ⟨T, env, fps, SO, ho.bind.bind.mono (fun r _ hr v H1 hv => ?_) fun _ _ z => z⟩) fun u s1 hh => ?_)
  · obtain ⟨fps1, I1, d1, st⟩ := hv.zero
    obtain ⟨ds, e1, hr⟩ := Out.of_bind hr
    obtain ⟨d, e2, hr⟩ := Out.of_bind hr
    obtain ⟨rs, e3, e4⟩ := Option.bind_eq_some_iff.mp e2
    exact ⟨r.2, fps1, r.1, ds, rs, d, I1, d1, e1, e3, e4, st, hr⟩
  · obtain ⟨v, H1, I1, r1, env1, fps1, d0, ds, rs, d, SO1, dd, e1, e2, e3, st, hq⟩ := hh
    have dd : Dat X.K (fr T H1 fps1) v d0 := by rw [ok.hK]; exact dd
    refine Calls.spliced_nil ?_
    cases d0 <;> first | (cases e1; done) | skip
    rename_i xs
    cases e1
    exact wpAny_mono (src_enum I1 hid_le r1 dd) (fun xv s2 h2 => wpAny_mono h2 (fun it s3 hsrc => ⟨H1, T, env1, fps1, _, rs, hsrc, SO1, e2, fun ga s5 R => ⟨ga, rfl, gen_end ok SO1 st e3 R hq⟩⟩) fun _ _ z => z) fun _ _ z => z
end
end Fx
set_option Elab.async false
set_option linter.all false
set_option maxRecDepth 100000
/-! G10: dicts: displays, stores. -/
namespace Fx
open PySem PySem.Spec PyProof.Rows L2
section
variable {G : Gh} {X : Cx} {Γ : Gam}
theorem RepK.zip {R : RR} : ∀ {ks : List Key} {vs : List V} {ds : List PyData} {g : As}, RepL R vs ds g → ks.length = vs.length → RepK R (ks.zip vs) ((ks.map keyD).zip ds) g
  | [], _, _, _, .nil, _ => .nil
  | k :: ks, _, _, _, .cons h t dj, e => .cons h (RepK.zip t (by simpa using e)) dj
  | [], _, _, _, .cons h t dj, e => by simp at e
  | k :: ks, _, _, _, .nil, e => by simp at e
theorem mergeK_new : ∀ {kvs acc : List (Key × V)}, (kvs.map (·.1)).Nodup → (∀ k ∈ kvs.map (·.1), valV acc k = none) → mergeK acc kvs = acc ++ kvs
  | [], acc, _, _ => by simp [mergeK]
  | p :: r, acc, nd, h => by
    rw [List.map_cons, List.nodup_cons] at nd
    show mergeK (putK acc p.1 p.2) r = _
    have h0 : valV acc p.1 = none := h _ (by simp)
    rw [putK_new p.2 h0, mergeK_new nd.2 fun k hk => ?_, List.append_assoc]
    · rfl
    · rw [valV_snoc p.1 k p.2 acc h0, if_neg (fun e : k = p.1 => nd.1 (e ▸ hk))]
      exact h k (by simp [hk])
def pairC : Key → PyData := keyD
/-- the pairs of a display -/
theorem pps_vals {pos : Pos} {k : Nat} : ∀ {ks : List Key} {es : Es} {as : List Expr} {kx : List (Option Expr)}, PEs G X G.c es as → ks.length = as.length → Paired (fun (k : Key) (x : Option Expr) => ∃ a, x = some a ∧ PE X a (tC (kV k))) ks kx →
    ∃ trs, PPs X pos kx as trs ∧ ∀ σ H (Q : List (V × V) → Hp → Prop), (∃ T env fps, SOk G.K G.L T env σ H fps ∧ Out (evs G.c es k env) (fun r => ∀ vs H', LOut G T H fps σ k r vs H' → Q ((ks.map kV).zip vs) H') (XW G T H fps)) → tPairs trs σ H Q
  | _, _, _, _, .nil, e, hp => by
    cases hp with
    | nil =>
      refine ⟨[], pps_nil, fun σ H Q ⟨T, env, fps, I, h⟩ => ?_⟩
      simp only [evs] at h
      exact h [] H ⟨fps, none', by rw [or_none]; exact I, .nil, dis_none _, by rw [or_none]; exact Stp.refl _ _ _⟩
    | cons _ _ => simp at e
  | _, _, _, _, .cons h hs t, e, hp => by
    cases hp with
    | nil => simp at e
    | cons hk hr =>
      rename_i k0 x0 ks kx
      obtain ⟨a, rfl, ha⟩ := hk
      obtain ⟨trs, h1, h2⟩ := pps_vals (pos := pos) (k := k) t (by simpa using e) hr
      refine ⟨_, pps_cons ha (h.v k) h1, fun σ H Q ⟨T, env, fps, I, hq⟩ => ?_⟩
      simp only [evs] at hq
      refine ⟨T, env, fps, I, hq.bind.mono (fun r _ hr v H1 ho => ?_) fun _ _ z => z⟩
      obtain ⟨fps1, f, I1, R1, dj1, st1⟩ := ho
      refine h2 σ H1 _ ⟨or' f T, r.2, fps1, I1, hr.bind.mono (fun z _ hz vs H2 ho2 => ?_) fun _ _ z => z.step st1⟩
      obtain ⟨fps2, g, I2, R2, dj2, st2⟩ := ho2
      have e2 : or' g (or' f T) = or' (or' f g) T := by
        rw [← or_assoc', or_comm' g f]
      refine hz (v :: vs) H2 ⟨fps2, or' f g, by rw [← e2]; exact I2, ?_, ?_, ?_⟩
      · rw [← e2]
        exact .cons (R1.keep k st2.le fun b hb => st2.aside b (.inl hb)) R2 fun b x y => dj2 b y (.inl x)
      · intro b x y
        rcases x with x | x
        · exact dj1 b x y
        · exact dj2 b x (.inr y)
      · rw [← e2]
        exact ⟨fun b hb => (st2.aside b (.inr hb)).trans (st1.aside b hb), st1.le.trans st2.le⟩
theorem PEs.len : ∀ {es : Es} {as : List Expr}, PEs G X G.c es as → as.length = es.len
  | _, _, .nil => rfl
  | _, _, .cons _ _ t => by simp only [List.length_cons, Es.len, PEs.len t]
theorem VOut.frozen {T : As} {H H' : Hp} {fps : Nat → As} {σ : L2.St} {k : Nat} {r : PyData × EnvD} {v : V} (h : VOut G T H fps σ k r v H') : VOut G T H fps σ 0 r v H' := by
  obtain ⟨fps', f, I, R, dj, st⟩ := h
  obtain ⟨I', le⟩ := I.show
  refine .of0 I' (R.dat k le fun b hb => ?_) (.inr rfl) ⟨fun b hb => st.aside b hb, st.le.trans le⟩
  refine hid_out fun z => ?_
  rcases z with z | ⟨i, z⟩
  · exact dj b hb z
  · exact I.disT i b z (.inl hb)
theorem zip_kvs {ks : List Key} : ∀ {vs : List V}, (ks.map kV).zip vs = (ks.zip vs).map fun kv => (kV kv.1, kv.2) := by
  induction ks with
  | nil => intro vs; rfl
  | cons k ks ih =>
    intro vs
    cases vs with
    | nil => rfl
    | cons v vs => simp [ih]
theorem k_dlit {ks : List Key} {es : Es} {kx : List (Option Expr)} {as : List Expr} {pos : Pos} (h : PEs G X G.c es as) (h15 : ks.length ≤ 15 ∧ ks ≠ []) (he : ks.length = as.length) (hk : Paired (fun (k : Key) (x : Option Expr) => ∃ a, x = some a ∧ PE X a (tC (kV k))) ks kx) : PEk G X G.c (.dlit ks es) (.Dict kx as pos) := by
  have hall : ∀ {ks : List Key} {kx : List (Option Expr)}, Paired (fun (k : Key) (x : Option Expr) => ∃ a, x = some a ∧ PE X a (tC (kV k))) ks kx → kx.all (·.isSome) = true ∧ kx.length = ks.length := by
    intro ks kx h
    induction h with
    | nil => exact ⟨rfl, rfl⟩
    | cons h t ih =>
      obtain ⟨a, rfl, _⟩ := h
      exact ⟨by simp only [List.all_cons, ih.1]; rfl, by simp [ih.2]⟩
  obtain ⟨ha1, ha2⟩ := hall hk
  refine ne_p (fun k => ?_) rfl
  obtain ⟨trs, h1, h2⟩ := pps_vals (pos := pos) (k := k - 1) h he hk
  refine (pe_disp h1 ha1 (by omega) (fun e => h15.2 (by rw [e] at ha2; exact List.length_eq_zero_iff.mp ha2.symm)) (by omega)).weaken fun σ H Q ⟨T, env, fps, I, hq⟩ p hp => ?_
  simp only [ev] at hq
  obtain ⟨I1, e1⟩ := I.own (o := .dK []) hp
  have st0 : Stp T H fps (or' (one' p) T) (upd H p (.dK [])) fps := ⟨fun b hb => upd_keep hp I.trk b (.inl hb), by rw [e1]; exact Le.refl _⟩
  refine h2 σ _ _ ⟨_, env, fps, I1, hq.bind.mono (fun r er hr vs H2 ho => ?_) fun _ _ z => z.step st0⟩
  obtain ⟨hl, hr⟩ := hr.ite_bad
  obtain ⟨fps2, g, I2, R2, dj2, st2⟩ := ho
  have hlen : ks.length = vs.length := by
    rw [← R2.length.symm, evs_len er, he, h.len]
  have ep : H2 p = some (.dK []) := (st2.aside p (.inl rfl)).trans upd_same
  have hnp : ¬ g p := fun z => dj2 p z (.inl rfl)
  obtain ⟨I3, e3⟩ := I2.aside (a := p) (o := .dK (ks.zip vs)) (.inr (.inl rfl))
  have em : mergeK [] (ks.zip vs) = ks.zip vs := mergeK_new (acc := []) (by rw [List.map_fst_zip (by omega)]; exact hl.2.1) fun _ _ => rfl
  refine ⟨ep, ks.zip vs, zip_kvs, by simp; omega, hr _ _ ?_⟩
  rw [em]
  have main : ∀ k', k - 1 = k' → VOut G T H fps σ (k' + 1) (.dict ((ks.map keyD).zip r.1), r.2) (.ref p) (upd H2 p (.dK (ks.zip vs))) := fun k' ek => by
    have e4 : or' g (or' (one' p) T) = or' (or' (one' p) g) T := by rw [← or_assoc', or_comm' g]
    rw [e4] at I3 e3
    rw [ek] at R2
    rw [e4] at R2
    refine ⟨fps2, or' (one' p) g, I3, ?_, ?_, ⟨fun b hb => ?_, ?_⟩⟩
    · rw [e3]
      exact .inr (.inr (.inl ⟨p, _, _, g, rfl, rfl, upd_same, (RepK.zip R2 hlen).imp fun v d f s rr => rr.keep _ (Le.refl _) fun b hb => upd_ne fun e => hnp (e ▸ s b hb), hnp, rfl⟩))
    · rintro b (x | x) y
      · have x : b = p := x
        subst x
        exact I.trk b (.inl y) hp
      · exact dj2 b x (.inr y)
    · rw [upd_ne (fun e : b = p => I.trk b (.inl hb) (by rw [e]; exact hp))]
      exact (st2.aside b (.inr hb)).trans (st0.aside b hb)
    · rw [e3, ← e4]
      exact st0.le.trans st2.le
  cases k with
  | zero => exact (main 0 rfl).frozen
  | succ k => exact main k rfl

def rSetD : V → V → V → Hp → (Hp → Prop) → Prop := fun o i v H Q => ∃ a kvs k, o = .ref a ∧ i = kV k ∧ H a = some (.dK kvs) ∧ kvs.length < sizeLine ∧ Q (upd H a (.dK (putK kvs k v)))
theorem set_dict (hu : X.A.units + 1 < cLine) : PSet X rSetD := by
  intro pins s σ H o i v ov iv u Q I ro ri rv h
  obtain ⟨a, kvs, k, rfl, rfl, hp, hl, q⟩ := h
  obtain rfl : ov = Value.ref a := ro
  exact d_setItem hu I (DPut.k hp hl) ri rv fun s' I' => ⟨_, I', q⟩
/-- d[x] = e, d a name -/
theorem s_dput {rk i k : Nat} {x : P} {e : E} {o xx ax : Expr} {p pos : Pos} (ok : Ok Γ G X) (hp : chkPath Γ i [] o = true) (hx : chkP Γ x xx = true) (hsl : noSlice xx = true) (h : PEk G X G.c e ax) : PS X (.Assign [.Subscript o xx p] ax pos) (tS G rk (exS G.c rk (.dput i x k e))) := by
  have hu : X.A.units + 1 < cLine := by have := ok.hu; omega
  have ho : PE X o (tP G (.at i)) := by
    cases o <;> first | (simp [chkPath] at hp; done) | skip
    exact snd_P ok (.at i) _ hp
  refine (ps_asg (h.v k) (pg_sub ho (snd_P ok x xx hx) (set_dict hu) (sub_asg hsl)) (by cases ax <;> rfl) (by cases ax <;> rfl) rfl).weaken fun D σ H ⟨T, env, fps, I, hq⟩ => ?_
  simp only [exS] at hq
  refine ⟨T, env, fps, I, hq.bind.mono (fun r _ hr v H1 ho => ?_) fun _ _ z => z⟩
  obtain ⟨z, h1, h2⟩ := hr.of_bind
  obtain ⟨⟨j0, y⟩, e1, e2⟩ := Option.bind_eq_some_iff.mp h1
  obtain ⟨fps1, g, I1, R1, dj, st⟩ := ho
  unfold dputS at e2
  obtain ⟨ky, ek, e2⟩ := Option.bind_eq_some_iff.mp e2
  split at e2
  · rename_i l k0 kvs hs
    split at e2
    · rename_i hc
      obtain ⟨ek0, hlen⟩ := hc
      subst ek0
      obtain ⟨kvs', e3, e4⟩ := Option.map_eq_some_iff.mp e2
      subst e4
      obtain ⟨v0, v1, v2, v3⟩ := I1.slot i l _ _ hs
      refine ⟨_, r.2, fps1, I1, k + 1, .dict kvs, by simp only [evP, slot]; rw [hs], fun v' fp' _ _ hx' => ⟨_, r.2, fps1, I1, j0, y, e1, fun u fp hr' _ _ => ?_⟩⟩
      have ev' := hx' i rfl
      rw [v1] at ev'
      cases ev'
      obtain rfl := (rep_noncont hr' (keyOf_nc ek)).key ek
      rcases v2 with ⟨h1, _, h3⟩ | ⟨a, vs, ds, gx, rfl, ed, z1, z2, z3, ef⟩ | ⟨a, vs, ds, gx, rfl, ed, z1, z2, z3, ef⟩ | ⟨a, vs, ds, gx, rfl, ed, z1, z2, z3, ef⟩
      · cases h1
      · cases ed
      · cases ed
        have gi : ∀ b, fps1 i b → ¬ g b := fun b x y => I1.disT i b x (.inl y)
        have ax' : ∀ b, gx b → fps1 i b := fun b z => by rw [ef]; exact .inr z
        have aa : fps1 i a := by rw [ef]; exact .inl rfl
        obtain ⟨g', t', w⟩ := z2.put R1 (fun b x y => gi b (ax' b x) y) e3
        have na : ∀ b, g' b → b ≠ a := fun b z e => by
          subst e
          rcases w b z with z | z
          · exact z3 z
          · exact gi b aa z
        refine ⟨a, vs, ky, rfl, rfl, z1, by rw [z2.length]; exact hlen, ?_⟩
        obtain ⟨J, le, dT, kp⟩ := I1.alter hs v1 aa dj (f' := none') (fp' := or' (one' a) g') (o := .dK (putK vs ky v)) (r := .dict kvs') (fun b z => by
          rcases z with (z | z) | z
          · have z : b = a := z
            subst z
            exact .inl aa
          · exact (w b z).imp (ax' b) id
          · exact z.elim) (fun b x y => y.elim) (.inr (.inr (.inl ⟨a, _, _, g', rfl, rfl, upd_same, t'.imp fun v d f s rr => rr.keep _ (Le.refl _) fun b hb => upd_ne (na b (s b hb)), fun z => na a z rfl, rfl⟩)))
        rw [or_none] at J le
        exact (show ∀ σ' H', NOut G T H fps _ σ' H' → D.nx σ' H' from h2) σ _ ⟨_, J, ⟨fun b hb => (kp b hb).trans (st.aside b hb), st.le.trans le⟩⟩
      · exact z2.elim.elim
    · cases e2
  · cases e2
end
end Fx
set_option Elab.async false
set_option linter.all false
set_option maxRecDepth 100000
set_option maxHeartbeats 8000000
/-! M24: the text held against the tree, expressions. -/
namespace Fx
open PySem PySem.Spec PyProof.Rows L2
def isOp (n : Bool) : CmpOp → Bool
  | .Is => !n
  | .IsNot => n
  | _ => false
theorem isOp_eq {n : Bool} {op : CmpOp} (h : isOp n op = true) : op = if n then .IsNot else .Is := by
  cases op <;> cases n <;> first | rfl | cases h
def ownP (Γ : Gam) (own : List Nat) : List (Str × Nat) := own.map fun i => (Γ.N.getD i "", i)
theorem ownP_snd {Γ : Gam} {own : List Nat} : (ownP Γ own).map (·.2) = own := by
  unfold ownP
  rw [List.map_map]
  exact List.map_id' own
def allIn (is own : List Nat) : Bool := is.all fun i => own.contains i
theorem allIn_ok {is own : List Nat} (h : allIn is own = true) : ∀ j ∈ is, j ∈ own := fun j hj => by
  have := List.all_eq_true.mp h j hj
  simpa using this
def fnIs (Γ : Gam) (f : Nat) (x : Str) (n : Nat) : Bool := match Γ.fns[f]? with
  | some (y, ps) => decide (y = x) && decide (n = ps.length)
  | none => false
theorem fnIs_ok {Γ : Gam} {f : Nat} {x : Str} {n : Nat} (h : fnIs Γ f x n = true) : ∃ ps, Γ.fns[f]? = some (x, ps) ∧ n = ps.length := by
  unfold fnIs at h
  split at h
  · rename_i y ps e
    simp only [Bool.and_eq_true, decide_eq_true_eq] at h
    obtain ⟨rfl, h2⟩ := h
    exact ⟨ps, e, h2⟩
  · cases h
def chkKs : List Key → List (Option Expr) → Bool
  | [], [] => true
  | k :: ks, some (.Constant c _ _) :: xs => conOk (keyD k) c && chkKs ks xs
  | _, _ => false
theorem snd_Ks {X : Cx} : ∀ {ks : List Key} {kx : List (Option Expr)}, chkKs ks kx = true → Paired (fun (k : Key) (x : Option Expr) => ∃ a, x = some a ∧ PE X a (tC (kV k))) ks kx
  | [], [], _ => .nil
  | k :: ks, [], h => by simp [chkKs] at h
  | [], x :: xs, h => by simp [chkKs] at h
  | k :: ks, x :: xs, h => by
    unfold chkKs at h
    split at h
    · rename_i h1 h2; cases h1
    · rename_i k' ks' c ki pos xs' h1 h2
      cases h1; cases h2
      rw [Bool.and_eq_true] at h
      obtain ⟨v, hv, hp⟩ := con_V (X := X) (F := fun _ => none) (i := ki) (pos := pos) h.1
      refine .cons ⟨_, rfl, ?_⟩ (snd_Ks h.2)
      rw [← hv.key (keyOf_keyD k)]
      exact hp
    · cases h
def kwNames (kws : List Keyword) : List Str := kws.filterMap (·.arg)
mutual
def chkE : E → Gam → Expr → Bool
  | .p p, Γ, a => chkP Γ p a
  | .tup es, Γ, a => match a with
    | .Tuple as _ _ => chkEs es Γ as
    | _ => false
  | .lst es, Γ, a => match a with
    | .List as _ => chkEs es Γ as
    | _ => false
  | .dnew, _, a => match a with
    | .Dict [] [] _ => true
    | _ => false
  | .dlit ks es, Γ, a => match a with
    | .Dict kx as _ => chkEs es Γ as && decide (ks.length ≤ 15 ∧ ks ≠ []) && decide (ks.length = as.length) && chkKs ks kx
    | _ => false
  | .b2 o x y, Γ, a => match a with
    | .BinOp ax op bx _ => opOk o op && chkE x Γ ax && chkE y Γ bx
    | _ => false
  | .neg x, Γ, a => match a with
    | .UnaryOp .USub ax _ => chkE x Γ ax
    | _ => false
  | .c2 o x y, Γ, a => match a with
    | .Compare ax [op] [bx] _ => cmpOk o op && chkE x Γ ax && chkE y Γ bx && noSet bx
    | _ => false
  | .isN x n, Γ, a => match a with
    | .Compare ax [op] [.Constant .none _ _] _ => isOp n op && chkE x Γ ax
    | _ => false
  | .isB x b, Γ, a => match a with
    | .Compare ax [.Is] [.Constant (.bool b') _ _] _ => (b == b') && chkE x Γ ax
    | .Compare ax [.IsNot] [.Constant (.bool b') _ _] _ => ((!b) == b') && chkE x Γ ax
    | _ => false
  | .ch o o' x y z, Γ, a => match a with
    | .Compare ax [op, op'] [bx, cx] _ => cmpOk o op && cmpOk o' op' && chkE x Γ ax && chkE y Γ bx && chkE z Γ cx && noSet cx
    | _ => false
  | .not x, Γ, a => match a with
    | .UnaryOp .Not ax _ => chkE x Γ ax
    | _ => false
  | .and x y, Γ, a => match a with
    | .BoolOp .And (ax :: bx :: r) pos => chkE x Γ ax && (match r with
      | [] => chkE y Γ bx
      | _ :: _ => chkE y Γ (.BoolOp .And (bx :: r) pos))
    | _ => false
  | .or x y, Γ, a => match a with
    | .BoolOp .Or (ax :: bx :: r) pos => chkE x Γ ax && (match r with
      | [] => chkE y Γ bx
      | _ :: _ => chkE y Γ (.BoolOp .Or (bx :: r) pos))
    | _ => false
  | .ite t x y, Γ, a => match a with
    | .IfExp tx ax bx _ => chkT t Γ tx && chkE x Γ ax && chkE y Γ bx
    | _ => false
  | .ix x y, Γ, a => match a with
    | .Subscript ax bx _ => chkE x Γ ax && chkE y Γ bx && noSlice bx
    | _ => false
  | .sl x lo hi, Γ, a => match a with
    | .Subscript ax (.Slice l h none _) _ => chkE x Γ ax && chkO lo Γ l && chkO hi Γ h
    | _ => false
  | .rev x, Γ, a => match a with
    | .Subscript ax (.Slice none none (some (.UnaryOp .USub (.Constant (.int 1) _ _) _)) _) _ => chkE x Γ ax
    | _ => false
  | .isa t x, Γ, a => match a with
    | .Call (.Name f _) [ax, .Name g _] [] _ => decide (f = nIsi) && decide (g = tyS t) && isGl Γ nIsi && isGl Γ (tyS t) && chkE x Γ ax && noStar1 ax
    | _ => false
  | .bi b es, Γ, a => match a with
    | .Call (.Name f _) (ax :: as) [] _ => decide (f = bname b) && chkEs es Γ (ax :: as) && noStar (ax :: as) && isGl Γ (bname b)
    | _ => false
  | .mu m i ps _ es, Γ, a => match a with
    | .Call (.Attribute o nm apos) as [] cpos => chkPath Γ i ps o && decide (nm = muN m) && decide (apos.endLine = cpos.line) && chkEs es Γ as && decide (as.length ≤ 1)
    | _ => false
  | .call f pm ar, Γ, a => match a with
    | .Call (.Name x _) as kws _ => isGl Γ x && fnIs Γ f x (as.length + kws.length) && chkAr ar Γ as kws && (match pm with
      | none => kws.isEmpty
      | some js => decide ((f, as.length, kwNames kws, js) ∈ Γ.kws))
    | _ => false
  | .lc own tg it ts e, Γ, a => match a with
    | .ListComp ex [⟨tx, ix, ifs, 0⟩] scope _ => allIn tg.slots own && blkC Γ.N Γ.sc scope (ownP Γ own) && chkI it Γ ix && chkTg (Γ.blk scope) tg tx && chkTs ts (Γ.blk scope) ifs && chkE e (Γ.blk scope) ex && okIter ix
    | _ => false
  | .gen g tg it ts q, Γ, a => match a with
    | .Call (.Name f _) [.GeneratorExp elt [⟨tx, ix, ifs, 0⟩] scope _] [] _ => decide (f = gname g) && isGl Γ (gname g) && chkQs (Γ.gen scope) ts ifs && chkQ (Γ.gen scope) q elt && chkG it Γ tg tx ix scope
    | _ => false
  | .nev, _, _ => true
def chkO : Eo → Gam → Option Expr → Bool
  | .none, _, a => match a with
    | none => true
    | some _ => false
  | .some e, Γ, a => match a with
    | none => false
    | some a => chkE e Γ a
def chkEs : Es → Gam → List Expr → Bool
  | .nil, _, as => match as with
    | [] => true
    | _ :: _ => false
  | .cons e es, Γ, as => match as with
    | [] => false
    | a :: as => chkE e Γ a && noStar1 a && chkEs es Γ as
def chkAr : Ar → Gam → List Expr → List Keyword → Bool
  | .nil, _, as, kws => as.isEmpty && kws.isEmpty
  | .v e r, Γ, as, kws => match as with
    | a :: as => chkE e Γ a && noStar1 a && chkAr r Γ as kws
    | [] => match kws with
      | ⟨some _, a, _⟩ :: kws => chkE e Γ a && chkAr r Γ [] kws
      | _ => false
  | .l i r, Γ, as, kws => match as with
    | a :: as => chkP Γ (.at i) a && noStar1 a && chkAr r Γ as kws
    | [] => match kws with
      | ⟨some _, a, _⟩ :: kws => chkP Γ (.at i) a && chkAr r Γ [] kws
      | _ => false
def chkI : It → Gam → Expr → Bool
  | .e e, Γ, a => chkE e Γ a
  | .range es, Γ, a => match a with
    | .Call (.Name f _) as [] _ => decide (f = nRange) && isGl Γ nRange && chkEs es Γ as && decide (1 ≤ as.length) && decide (as.length ≤ 2)
    | _ => false
  | .enum _, _, _ => false
def chkG : It → Gam → Tg → Expr → Expr → Scope → Bool
  | .e e, Γ, tg, tx, ix, scope => (match tg, tx with
    | .nm i, .Name x _ => decide (Γ.N[i]? = some x) && genS Γ scope [x]
    | _, _ => false) && chkE e Γ ix && okGen ix
  | .range _, _, _, _, _, _ => false
  | .enum e, Γ, tg, tx, ix, scope => (match tg, tx with
    | .tp (.cons (.nm i) (.cons (.nm j) .nil)), .Tuple [.Name x _, .Name y _] _ _ => decide (Γ.N[i]? = some x) && decide (Γ.N[j]? = some y) && decide (i ≠ j) && genS Γ scope [x, y]
    | _, _ => false) && (match ix with
    | .Call (.Name f _) [iy] [] _ => decide (f = nEnum) && isGl Γ nEnum && chkE e Γ iy && noStar1 iy
    | _ => false)
def chkT : Tt → Gam → Expr → Bool
  | .c2 o x y, Γ, a => match a with
    | .Compare ax [op] [bx] _ => cmpOk o op && chkE x Γ ax && chkE y Γ bx && noSet bx
    | _ => false
  | .ch o o' x y z, Γ, a => match a with
    | .Compare ax [op, op'] [bx, cx] _ => cmpOk o op && cmpOk o' op' && chkE x Γ ax && chkE y Γ bx && chkE z Γ cx && noSet cx
    | _ => false
  | .isN x n, Γ, a => match a with
    | .Compare ax [op] [.Constant .none _ _] _ => isOp n op && chkE x Γ ax
    | _ => false
  | .isB x b, Γ, a => match a with
    | .Compare ax [.Is] [.Constant (.bool b') _ _] _ => (b == b') && chkE x Γ ax
    | .Compare ax [.IsNot] [.Constant (.bool b') _ _] _ => ((!b) == b') && chkE x Γ ax
    | _ => false
  | .not t, Γ, a => match a with
    | .UnaryOp .Not ax _ => chkT t Γ ax
    | _ => false
  | .and t u, Γ, a => match a with
    | .BoolOp .And (ax :: bx :: r) pos => chkT t Γ ax && (match r with
      | [] => chkT u Γ bx
      | _ :: _ => chkT u Γ (.BoolOp .And (bx :: r) pos))
    | _ => false
  | .or t u, Γ, a => match a with
    | .BoolOp .Or (ax :: bx :: r) pos => chkT t Γ ax && (match r with
      | [] => chkT u Γ bx
      | _ :: _ => chkT u Γ (.BoolOp .Or (bx :: r) pos))
    | _ => false
  | .v e, Γ, a => chkE e Γ a && plainTest a
def chkTs : Tts → Gam → List Expr → Bool
  | .nil, _, as => match as with
    | [] => true
    | _ :: _ => false
  | .cons t ts, Γ, as => match as with
    | [a] => chkT t Γ a && (match ts with
      | .nil => true
      | .cons _ _ => false)
    | _ => false
end
def isBool1 : Expr → Bool
  | .BoolOp .. => true
  | _ => false
theorem and2 {a b : Bool} (h : (a && b) = true) : a = true ∧ b = true := by simpa using h
section
variable {G : Gh} {X : Cx}
theorem k_nev {a : Expr} : PEk G X G.c .nev a := ne_p (fun k => ⟨fun pins s σ H Q I ⟨T, env, fps, J, hq⟩ => by simp only [ev] at hq; exact hq.elim⟩) rfl
theorem ts_nil : PTs X [] (tT G (evTs G.c .nil)) := by
  have h : PTs X [] tYes := pts_nil
  exact ⟨fun pins s σ H Q I ⟨T, env, fps, J, hq⟩ => h.run pins s σ H Q I (by
    simp only [evTs] at hq
    exact (show ∀ H', TOut G T H fps σ env H' → Q true H' from hq) H ⟨fps, J, Stp.refl _ _ _⟩)⟩
theorem ts_one {t : Tt} {a : Expr} (h : PT X a (tT G (evT G.c t))) : PTs X [a] (tT G (evTs G.c (.cons t .nil))) := by
  refine ⟨fun pins s σ H Q I ⟨T, env, fps, J, hq⟩ => (pts_one h).run pins s σ H Q I ⟨T, env, fps, J, ?_⟩⟩
  simp only [evTs] at hq
  refine hq.bind.mono (fun r _ hr H1 ho => ?_) fun _ _ z => z
  obtain ⟨b, env1⟩ := r
  cases b with
  | true =>
    rw [if_pos rfl] at hr
    exact (show ∀ H', TOut G T H fps σ env1 H' → Q true H' from hr) H1 ho
  | false =>
    rw [if_neg (by simp)] at hr
    exact (show ∀ H', TOut G T H fps σ env1 H' → Q false H' from hr) H1 ho
end
/-- the positional ones, the ones by keyword -/
def SndAr (G : Gh) (X : Cx) (ar : Ar) (as : List Expr) (kws : List Keyword) : Prop := ∃ a1 a2, ar = a1.app a2 ∧ PAr G X G.c a1 as ∧ PKr G X G.c a2 kws (kwNames kws) ∧ (lents a1).length = as.length ∧ (lents a2).length = kws.length
theorem app_nil : ∀ a : Ar, a.app .nil = a
  | .nil => rfl
  | .v e as => congrArg (Ar.v e) (app_nil as)
  | .l i as => congrArg (Ar.l i) (app_nil as)
mutual
theorem snd_E : ∀ (e : E) {Γ : Gam} {G : Gh} {X : Cx} (ok : Ok Γ G X) (a : Expr), chkE e Γ a = true → PEk G X G.c e a
  | .p p, Γ, G, X, ok, a, h => k_p (snd_P ok p a (by unfold chkE at h; exact h))
  | .tup es, Γ, G, X, ok, a, h => by
    unfold chkE at h
    split at h
    · exact k_tup (snd_Es es ok _ h)
    · cases h
  | .lst es, Γ, G, X, ok, a, h => by
    unfold chkE at h
    split at h
    · exact k_lst (snd_Es es ok _ h)
    · cases h
  | .dnew, Γ, G, X, ok, a, h => by
    unfold chkE at h
    split at h
    · exact k_dnew
    · cases h
  | .dlit ks es, Γ, G, X, ok, a, h => by
    unfold chkE at h
    split at h
    · obtain ⟨h, h4⟩ := and2 h
      obtain ⟨h, h3⟩ := and2 h
      obtain ⟨h1, h2⟩ := and2 h
      exact k_dlit (snd_Es es ok _ h1) (of_decide_eq_true h2) (of_decide_eq_true h3) (snd_Ks h4)
    · cases h
  | .b2 o x y, Γ, G, X, ok, a, h => by
    unfold chkE at h
    split at h
    · obtain ⟨h, h3⟩ := and2 h
      obtain ⟨h1, h2⟩ := and2 h
      rw [opOk_eq h1]
      exact k_b2 ok (snd_E x ok _ h2) (snd_E y ok _ h3)
    · cases h
  | .neg x, Γ, G, X, ok, a, h => by
    unfold chkE at h
    split at h
    · exact k_neg ok (snd_E x ok _ h)
    · cases h
  | .c2 o x y, Γ, G, X, ok, a, h => by
    unfold chkE at h
    split at h
    · obtain ⟨h, h4⟩ := and2 h
      obtain ⟨h, h3⟩ := and2 h
      obtain ⟨h1, h2⟩ := and2 h
      rw [cmpOk_eq h1]
      exact k_c2 ok (snd_E x ok _ h2) (snd_E y ok _ h3) h4
    · cases h
  | .isN x n, Γ, G, X, ok, a, h => by
    unfold chkE at h
    split at h
    · obtain ⟨h1, h2⟩ := and2 h
      rw [isOp_eq h1]
      exact k_isN ok (snd_E x ok _ h2)
    · cases h
  | .isB x b, Γ, G, X, ok, a, h => by
    unfold chkE at h
    split at h
    · obtain ⟨h1, h2⟩ := and2 h
      have e := beq_iff_eq.mp h1
      subst e
      exact k_isB ok (snd_E x ok _ h2)
    · obtain ⟨h1, h2⟩ := and2 h
      have e := beq_iff_eq.mp h1
      subst e
      exact k_isB' ok (snd_E x ok _ h2)
    · cases h
  | .ch o o' x y z, Γ, G, X, ok, a, h => by
    unfold chkE at h
    split at h
    · obtain ⟨h, h6⟩ := and2 h
      obtain ⟨h, h5⟩ := and2 h
      obtain ⟨h, h4⟩ := and2 h
      obtain ⟨h, h3⟩ := and2 h
      obtain ⟨h1, h2⟩ := and2 h
      rw [cmpOk_eq h1, cmpOk_eq h2]
      exact k_ch ok (snd_E x ok _ h3) (snd_E y ok _ h4) (snd_E z ok _ h5) h6
    · cases h
  | .not x, Γ, G, X, ok, a, h => by
    unfold chkE at h
    split at h
    · exact k_not ok (snd_E x ok _ h)
    · cases h
  | .and x y, Γ, G, X, ok, a, h => by
    unfold chkE at h
    split at h
    · obtain ⟨h1, h2⟩ := and2 h
      split at h2
      · exact k_and ok (snd_E x ok _ h1) (k_one (snd_E y ok _ h2))
      · exact k_and ok (snd_E x ok _ h1) (snd_E y ok _ h2)
    · cases h
  | .or x y, Γ, G, X, ok, a, h => by
    unfold chkE at h
    split at h
    · obtain ⟨h1, h2⟩ := and2 h
      split at h2
      · exact k_or ok (snd_E x ok _ h1) (k_one (snd_E y ok _ h2))
      · exact k_or ok (snd_E x ok _ h1) (snd_E y ok _ h2)
    · cases h
  | .ite t x y, Γ, G, X, ok, a, h => by
    unfold chkE at h
    split at h
    · obtain ⟨h, h3⟩ := and2 h
      obtain ⟨h1, h2⟩ := and2 h
      exact k_ite (snd_T t ok _ h1).1 (snd_E x ok _ h2) (snd_E y ok _ h3)
    · cases h
  | .ix x y, Γ, G, X, ok, a, h => by
    unfold chkE at h
    split at h
    · obtain ⟨h, h3⟩ := and2 h
      obtain ⟨h1, h2⟩ := and2 h
      exact k_ix ok (snd_E x ok _ h1) (snd_E y ok _ h2) h3
    · cases h
  | .sl x lo hi, Γ, G, X, ok, a, h => by
    unfold chkE at h
    split at h
    · obtain ⟨h, h3⟩ := and2 h
      obtain ⟨h1, h2⟩ := and2 h
      exact k_sl ok (snd_E x ok _ h1) (snd_O lo ok _ h2) (snd_O hi ok _ h3)
    · cases h
  | .rev x, Γ, G, X, ok, a, h => by
    unfold chkE at h
    split at h
    · exact k_rev ok (snd_E x ok _ h)
    · cases h
  | .isa t x, Γ, G, X, ok, a, h => by
    unfold chkE at h
    split at h
    · obtain ⟨h, h6⟩ := and2 h
      obtain ⟨h, h5⟩ := and2 h
      obtain ⟨h, h4⟩ := and2 h
      obtain ⟨h, h3⟩ := and2 h
      obtain ⟨h1, h2⟩ := and2 h
      rw [of_decide_eq_true h1, of_decide_eq_true h2]
      exact k_isa ok (snd_E x ok _ h5) h6 h3 h4
    · cases h
  | .bi b es, Γ, G, X, ok, a, h => by
    unfold chkE at h
    split at h
    · obtain ⟨h, h4⟩ := and2 h
      obtain ⟨h, h3⟩ := and2 h
      obtain ⟨h1, h2⟩ := and2 h
      rw [of_decide_eq_true h1]
      exact k_bi ok (snd_Es es ok _ h2) h3 h4
    · cases h
  | .mu m i ps ke es, Γ, G, X, ok, a, h => by
    unfold chkE at h
    split at h
    · obtain ⟨h, h5⟩ := and2 h
      obtain ⟨h, h4⟩ := and2 h
      obtain ⟨h, h3⟩ := and2 h
      obtain ⟨h1, h2⟩ := and2 h
      have p := snd_Es es ok _ h4
      cases p with
      | nil => exact k_mu0 ok h1 (of_decide_eq_true h2) (of_decide_eq_true h3)
      | cons q hs t =>
        cases t with
        | nil => exact k_mu1 ok h1 (of_decide_eq_true h2) (of_decide_eq_true h3) q hs
        | cons _ _ _ => simp at h5
    · cases h
  | .call f pm ar, Γ, G, X, ok, a, h => by
    unfold chkE at h
    split at h
    · rename_i x p as kws cpos
      obtain ⟨h, h4⟩ := and2 h
      obtain ⟨h, h3⟩ := and2 h
      obtain ⟨h1, h2⟩ := and2 h
      obtain ⟨ps, e1, e2⟩ := fnIs_ok h2
      obtain ⟨a1, a2, ea, p1, p2, l1, l2⟩ := snd_Ar ar ok _ _ h3
      subst ea
      split at h4
      · cases kws with
        | nil =>
          cases p2
          have e0 := app_nil a1
          rw [e0]
          exact k_call ok e1 h1 p1 (by rw [l1]; simpa using e2)
        | cons _ _ => simp at h4
      · have h6 := h4
        cases as with
        | nil =>
          cases p1
          exact k_callK0 ok e1 h1 p2 (of_decide_eq_true h6) (by show (lents a2).length = _; rw [l2]; simpa using e2)
        | cons x xs => exact k_callK ok e1 h1 p1 p2 (by rw [l1]; exact of_decide_eq_true h6) (by rw [l1, l2]; exact e2)
    · cases h
  | .lc own tg it ts e, Γ, G, X, ok, a, h => by
    unfold chkE at h
    split at h
    · obtain ⟨h, h7⟩ := and2 h
      obtain ⟨h, h6⟩ := and2 h
      obtain ⟨h, h5⟩ := and2 h
      obtain ⟨h, h4⟩ := and2 h
      obtain ⟨h, h3⟩ := and2 h
      obtain ⟨h1, h2⟩ := and2 h
      exact k_lc ok (allIn_ok h1) ownP_snd h2 (snd_I it ok _ _ h3) (fun X' ok' => snd_G ok' tg _ h4) (fun X' ok' => snd_Ts ts ok' _ h5) (fun X' ok' => snd_E e ok' _ h6) h7
    · cases h
  | .gen g tg it ts q, Γ, G, X, ok, a, h => by
    unfold chkE at h
    split at h
    · obtain ⟨h, h5⟩ := and2 h
      obtain ⟨h, h4⟩ := and2 h
      obtain ⟨h, h3⟩ := and2 h
      obtain ⟨h1, h2⟩ := and2 h
      have e := of_decide_eq_true h1
      subst e
      exact snd_N it ok h5 h2 h3 h4
    · cases h
  | .nev, Γ, G, X, ok, a, h => k_nev
theorem snd_N : ∀ (it : It) {Γ : Gam} {G : Gh} {X : Cx} (ok : Ok Γ G X) {tg : Tg} {tx ix elt : Expr} {ifs : List Expr} {scope : Scope} {g : Gc} {ts : List Qx} {q : Qx} {p gpos pos : Pos}, chkG it Γ tg tx ix scope = true → isGl Γ (gname g) = true → chkQs (Γ.gen scope) ts ifs = true → chkQ (Γ.gen scope) q elt = true →
    PEk G X G.c (.gen g tg it ts q) (.Call (.Name (gname g) p) [.GeneratorExp elt [⟨tx, ix, ifs, 0⟩] scope gpos] [] pos)
  | .e e, Γ, G, X, ok, tg, tx, ix, elt, ifs, scope, g, ts, q, p, gpos, pos, h, hg, ht, hq => by
    unfold chkG at h
    obtain ⟨h, h3⟩ := and2 h
    obtain ⟨h1, h2⟩ := and2 h
    split at h1
    · obtain ⟨a1, a2⟩ := and2 h1
      exact k_genE ok (of_decide_eq_true a1) (genS_ok a2) ht hq (snd_E e ok _ h2) h3 hg
    · cases h1
  | .range es, Γ, G, X, ok, tg, tx, ix, elt, ifs, scope, g, ts, q, p, gpos, pos, h, hg, ht, hq => by
    unfold chkG at h
    cases h
  | .enum e, Γ, G, X, ok, tg, tx, ix, elt, ifs, scope, g, ts, q, p, gpos, pos, h, hg, ht, hq => by
    unfold chkG at h
    obtain ⟨h1, h2⟩ := and2 h
    split at h1
    · obtain ⟨h1, a4⟩ := and2 h1
      obtain ⟨h1, a3⟩ := and2 h1
      obtain ⟨a1, a2⟩ := and2 h1
      split at h2
      · obtain ⟨h2, b4⟩ := and2 h2
        obtain ⟨h2, b3⟩ := and2 h2
        obtain ⟨b1, b2⟩ := and2 h2
        have e1 := of_decide_eq_true b1
        subst e1
        exact k_genN ok (of_decide_eq_true a1) (of_decide_eq_true a2) (of_decide_eq_true a3) (genS_ok a4) ht hq (snd_E e ok _ b3) b4 hg b2
      · cases h2
    · cases h1
theorem snd_O : ∀ (e : Eo) {Γ : Gam} {G : Gh} {X : Cx} (ok : Ok Γ G X) (a : Option Expr), chkO e Γ a = true → PO X a (tPO G (evO G.c e))
  | .none, Γ, G, X, ok, a, h => by
    unfold chkO at h
    split at h
    · exact o_none
    · cases h
  | .some e, Γ, G, X, ok, a, h => by
    unfold chkO at h
    split at h
    · cases h
    · exact o_some (snd_E e ok _ h)
theorem snd_Es : ∀ (es : Es) {Γ : Gam} {G : Gh} {X : Cx} (ok : Ok Γ G X) (as : List Expr), chkEs es Γ as = true → PEs G X G.c es as
  | .nil, Γ, G, X, ok, as, h => by
    unfold chkEs at h
    split at h
    · exact .nil
    · cases h
  | .cons e es, Γ, G, X, ok, as, h => by
    unfold chkEs at h
    split at h
    · cases h
    · obtain ⟨h, h3⟩ := and2 h
      obtain ⟨h1, h2⟩ := and2 h
      exact .cons (snd_E e ok _ h1) h2 (snd_Es es ok _ h3)
theorem snd_Ar : ∀ (ar : Ar) {Γ : Gam} {G : Gh} {X : Cx} (ok : Ok Γ G X) (as : List Expr) (kws : List Keyword), chkAr ar Γ as kws = true → SndAr G X ar as kws
  | .nil, Γ, G, X, ok, as, kws, h => by
    unfold chkAr at h
    obtain ⟨h1, h2⟩ := and2 h
    cases as with
    | nil =>
      cases kws with
      | nil => exact ⟨.nil, .nil, rfl, .nil, .nil, rfl, rfl⟩
      | cons _ _ => cases h2
    | cons _ _ => cases h1
  | .v e r, Γ, G, X, ok, as, kws, h => by
    unfold chkAr at h
    split at h
    · obtain ⟨h, h3⟩ := and2 h
      obtain ⟨h1, h2⟩ := and2 h
      obtain ⟨a1, a2, e0, p1, p2, l1, l2⟩ := snd_Ar r ok _ _ h3
      exact ⟨.v e a1, a2, by rw [e0]; rfl, .v (snd_E e ok _ h1) h2 p1, p2, congrArg (· + 1) l1, l2⟩
    · split at h
      · obtain ⟨h1, h2⟩ := and2 h
        obtain ⟨a1, a2, e0, p1, p2, l1, l2⟩ := snd_Ar r ok _ _ h2
        cases p1
        exact ⟨.nil, .v e a2, by rw [e0]; rfl, .nil, .v (snd_E e ok _ h1) p2, rfl, congrArg (· + 1) l2⟩
      · cases h
  | .l i r, Γ, G, X, ok, as, kws, h => by
    unfold chkAr at h
    split at h
    · obtain ⟨h, h3⟩ := and2 h
      obtain ⟨h1, h2⟩ := and2 h
      obtain ⟨a1, a2, e0, p1, p2, l1, l2⟩ := snd_Ar r ok _ _ h3
      exact ⟨.l i a1, a2, by rw [e0]; rfl, .l (snd_P ok _ _ h1) h2 p1, p2, congrArg (· + 1) l1, l2⟩
    · split at h
      · obtain ⟨h1, h2⟩ := and2 h
        obtain ⟨a1, a2, e0, p1, p2, l1, l2⟩ := snd_Ar r ok _ _ h2
        cases p1
        exact ⟨.nil, .l i a2, by rw [e0]; rfl, .nil, .l (snd_P ok _ _ h1) p2, rfl, congrArg (· + 1) l2⟩
      · cases h
theorem snd_I : ∀ (it : It) {Γ : Gam} {G : Gh} {X : Cx} (ok : Ok Γ G X) (tg a : Expr), chkI it Γ a = true → PI X tg a (tI G (evI G.c it))
  | .e e, Γ, G, X, ok, tg, a, h => i_e ok (snd_E e ok a (by unfold chkI at h; exact h))
  | .range es, Γ, G, X, ok, tg, a, h => by
    unfold chkI at h
    split at h
    · obtain ⟨h, h5⟩ := and2 h
      obtain ⟨h, h4⟩ := and2 h
      obtain ⟨h, h3⟩ := and2 h
      obtain ⟨h1, h2⟩ := and2 h
      rw [of_decide_eq_true h1]
      have p := snd_Es es ok _ h3
      cases p with
      | nil => simp at h4
      | cons q hs t =>
        cases t with
        | nil => exact i_rng1 ok q hs h2
        | cons q' hs' t =>
          cases t with
          | nil => exact i_rng2 ok q hs q' hs' h2
          | cons _ _ _ => simp at h5
    · cases h
  | .enum e, Γ, G, X, ok, tg, a, h => by
    unfold chkI at h
    cases h
theorem snd_T : ∀ (t : Tt) {Γ : Gam} {G : Gh} {X : Cx} (ok : Ok Γ G X) (a : Expr), chkT t Γ a = true → PT X a (tT G (evT G.c t)) ∧ (isBool1 a = true → PW X a (tT G (evT G.c t)))
  | .c2 o x y, Γ, G, X, ok, a, h => by
    unfold chkT at h
    split at h
    · obtain ⟨h, h4⟩ := and2 h
      obtain ⟨h, h3⟩ := and2 h
      obtain ⟨h1, h2⟩ := and2 h
      rw [cmpOk_eq h1]
      exact ⟨t_c2 ok (snd_E x ok _ h2) (snd_E y ok _ h3) h4, fun z => by cases z⟩
    · cases h
  | .ch o o' x y z, Γ, G, X, ok, a, h => by
    unfold chkT at h
    split at h
    · obtain ⟨h, h6⟩ := and2 h
      obtain ⟨h, h5⟩ := and2 h
      obtain ⟨h, h4⟩ := and2 h
      obtain ⟨h, h3⟩ := and2 h
      obtain ⟨h1, h2⟩ := and2 h
      rw [cmpOk_eq h1, cmpOk_eq h2]
      exact ⟨t_ch ok (snd_E x ok _ h3) (snd_E y ok _ h4) (snd_E z ok _ h5) h6, fun z => by cases z⟩
    · cases h
  | .isN x n, Γ, G, X, ok, a, h => by
    unfold chkT at h
    split at h
    · obtain ⟨h1, h2⟩ := and2 h
      rw [isOp_eq h1]
      exact ⟨t_isN ok (snd_E x ok _ h2), fun z => by cases z⟩
    · cases h
  | .isB x b, Γ, G, X, ok, a, h => by
    unfold chkT at h
    split at h
    · obtain ⟨h1, h2⟩ := and2 h
      have e := beq_iff_eq.mp h1
      subst e
      exact ⟨t_isB ok (snd_E x ok _ h2), fun z => by cases z⟩
    · obtain ⟨h1, h2⟩ := and2 h
      have e := beq_iff_eq.mp h1
      subst e
      exact ⟨t_isB' ok (snd_E x ok _ h2), fun z => by cases z⟩
    · cases h
  | .not t, Γ, G, X, ok, a, h => by
    unfold chkT at h
    split at h
    · exact ⟨t_not (snd_T t ok _ h).1, fun z => by cases z⟩
    · cases h
  | .and t u, Γ, G, X, ok, a, h => by
    unfold chkT at h
    split at h
    · rename_i ax bx r pos
      obtain ⟨h1, h2⟩ := and2 h
      split at h2
      · have w := t_and (pos := pos) (snd_T t ok _ h1).1 (pw_and1 (snd_T u ok _ h2).1)
        exact ⟨w.pt, fun _ => w⟩
      · have w := t_and (snd_T t ok _ h1).1 ((snd_T u ok _ h2).2 rfl)
        exact ⟨w.pt, fun _ => w⟩
    · cases h
  | .or t u, Γ, G, X, ok, a, h => by
    unfold chkT at h
    split at h
    · rename_i ax bx r pos
      obtain ⟨h1, h2⟩ := and2 h
      split at h2
      · have w := t_or (pos := pos) (snd_T t ok _ h1).1 (pw_or1 (snd_T u ok _ h2).1)
        exact ⟨w.pt, fun _ => w⟩
      · have w := t_or (snd_T t ok _ h1).1 ((snd_T u ok _ h2).2 rfl)
        exact ⟨w.pt, fun _ => w⟩
    · cases h
  | .v e, Γ, G, X, ok, a, h => by
    unfold chkT at h
    obtain ⟨h1, h2⟩ := and2 h
    exact ⟨t_v ok (snd_E e ok _ h1) h2, fun z => by cases a <;> first | (simp [plainTest] at h2; done) | cases z⟩
theorem snd_Ts : ∀ (ts : Tts) {Γ : Gam} {G : Gh} {X : Cx} (ok : Ok Γ G X) (as : List Expr), chkTs ts Γ as = true → PTs X as (tT G (evTs G.c ts))
  | .nil, Γ, G, X, ok, as, h => by
    unfold chkTs at h
    split at h
    · exact ts_nil
    · cases h
  | .cons t ts, Γ, G, X, ok, as, h => by
    unfold chkTs at h
    split at h
    · obtain ⟨h1, h2⟩ := and2 h
      split at h2
      · exact ts_one (snd_T t ok _ h1).1
      · cases h2
    · cases h
end
end Fx
set_option Elab.async false
set_option linter.all false
set_option maxRecDepth 100000
/-! M25: the text held against the tree, statements. -/
namespace Fx
open PySem PySem.Spec PyProof.Rows L2
def isLcE : E → Bool
  | .lc .. => true
  | _ => false
mutual
def chkS : S → Gam → Stmt → Bool
  | .as t k e, Γ, s => match s with
    | .Assign [tx] ex _ => (match t with
      | .nm i => (match tx with
        | .Name x _ => decide (Γ.N[i]? = some x) && isSto Γ x && chkE e Γ ex && (if isLcE e = true then isFun Γ else noComp ex)
        | _ => false)
      | .tp ts => (match tx with
        | .Tuple es _ _ => chkTgs Γ ts es && chkE e Γ ex && (tupOk es ex || anyNL Γ es)
        | _ => false))
    | _ => false
  | .par i j ki kj a b, Γ, s => match s with
    | .Assign [.Tuple [.Name x px, .Name y py] _ _] (.Tuple [ax, bx] _ _) _ => decide (Γ.N[i]? = some x) && decide (Γ.N[j]? = some y) && decide (i ≠ j) && chkE a Γ ax && chkE b Γ bx && parOk Γ x y px py [ax, bx]
    | _ => false
  | .put i ps x k e, Γ, s => match s with
    | .Assign [.Subscript o xx _] ex _ => chkPath Γ i ps o && chkP Γ x xx && noSlice xx && chkE e Γ ex
    | _ => false
  | .dput i x k e, Γ, s => match s with
    | .Assign [.Subscript o xx _] ex _ => chkPath Γ i [] o && chkP Γ x xx && noSlice xx && chkE e Γ ex
    | _ => false
  | .aug i o e, Γ, s => match s with
    | .AugAssign (.Name x _) op ex _ => decide (Γ.N[i]? = some x) && isSto Γ x && opOk o op && chkE e Γ ex
    | _ => false
  | .augp i ps x o e, Γ, s => match s with
    | .AugAssign (.Subscript ox xx _) op ex _ => chkPath Γ i ps ox && chkP Γ x xx && noSlice xx && opOk o op && chkP Γ e ex
    | _ => false
  | .ex e, Γ, s => match s with
    | .Expr ex _ => chkE e Γ ex && noComp ex
    | _ => false
  | .iff t a b, Γ, s => match s with
    | .If tx as bs _ => chkT t Γ tx && chkSs a Γ as && chkSs b Γ bs
    | _ => false
  | .for tg it b, Γ, s => match s with
    | .For tx ix bs [] _ => chkTg Γ tg tx && chkI it Γ ix && chkSs b Γ bs && okIter ix
    | _ => false
  | .whl t b, Γ, s => match s with
    | .While tx bs [] _ => chkT t Γ tx && chkSs b Γ bs
    | _ => false
  | .ret e, Γ, s => match s with
    | .Return (some ex) _ => chkE e Γ ex
    | _ => false
  | .retN, _, s => match s with
    | .Return none _ => true
    | _ => false
  | .brk, _, s => match s with
    | .Break _ => true
    | _ => false
  | .cont, _, s => match s with
    | .Continue _ => true
    | _ => false
  | .pas, _, s => match s with
    | .Pass _ => true
    | .Expr (.Constant (.str _) _ _) _ => true
    | _ => false
  | .nev, _, _ => true
def chkSs : Ss → Gam → List Stmt → Bool
  | .nil, _, ss => match ss with
    | [] => true
    | _ :: _ => false
  | .cons s r, Γ, ss => match ss with
    | [] => false
    | x :: xs => chkS s Γ x && chkSs r Γ xs
end
mutual
theorem snd_S : ∀ (s : S) {Γ : Gam} {G : Gh} {X : Cx} {rk : Nat} (ok : Ok Γ G X) (st : Stmt), chkS s Γ st = true → PS X st (tS G rk (exS G.c rk s))
  | .as (.nm i) k e, Γ, G, X, rk, ok, st, h => by
    unfold chkS at h
    split at h
    · simp only at h
      split at h
      · obtain ⟨h, h4⟩ := and2 h
        obtain ⟨h, h3⟩ := and2 h
        obtain ⟨h1, h2⟩ := and2 h
        have hi := of_decide_eq_true h1
        split at h4
        · cases e <;> first | (rename_i hl; cases hl; done) | skip
          rename_i own tg it ts e hh hl
          unfold chkE at h3
          split at h3
          · obtain ⟨h, h7⟩ := and2 h3
            obtain ⟨h, h6⟩ := and2 h
            obtain ⟨h, h5⟩ := and2 h
            obtain ⟨h, h8⟩ := and2 h
            obtain ⟨h, h3⟩ := and2 h
            obtain ⟨g1, g2⟩ := and2 h
            exact s_nmlc ok h4 hi h2 (allIn_ok g1) ownP_snd g2 (snd_I it ok _ _ h3) (fun X' ok' => snd_G ok' tg _ h8) (fun X' ok' => snd_Ts ts ok' _ h5) (fun X' ok' => snd_E e ok' _ h6) h7
          · cases h3
        · exact s_nm ok hi h2 (snd_E e ok _ h3) h4
      · cases h
    · cases h
  | .as (.tp ts) k e, Γ, G, X, rk, ok, st, h => by
    unfold chkS at h
    split at h
    · simp only at h
      split at h
      · obtain ⟨h, h3⟩ := and2 h
        obtain ⟨h1, h2⟩ := and2 h
        rcases (Bool.or_eq_true _ _).mp h3 with h3 | h3
        · exact s_tp ok h1 (snd_E e ok _ h2) h3
        · exact s_tp' ok h1 (snd_E e ok _ h2) h3
      · cases h
    · cases h
  | .par i j ki kj a b, Γ, G, X, rk, ok, st, h => by
    unfold chkS at h
    split at h
    · obtain ⟨h, h6⟩ := and2 h
      obtain ⟨h, h5⟩ := and2 h
      obtain ⟨h, h4⟩ := and2 h
      obtain ⟨h, h3⟩ := and2 h
      obtain ⟨h1, h2⟩ := and2 h
      exact s_par ok (of_decide_eq_true h1) (of_decide_eq_true h2) (of_decide_eq_true h3) (snd_E a ok _ h4) (snd_E b ok _ h5) h6
    · cases h
  | .put i ps x k e, Γ, G, X, rk, ok, st, h => by
    unfold chkS at h
    split at h
    · obtain ⟨h, h4⟩ := and2 h
      obtain ⟨h, h3⟩ := and2 h
      obtain ⟨h1, h2⟩ := and2 h
      exact s_put ok h1 h2 h3 (snd_E e ok _ h4)
    · cases h
  | .dput i x k e, Γ, G, X, rk, ok, st, h => by
    unfold chkS at h
    split at h
    · obtain ⟨h, h4⟩ := and2 h
      obtain ⟨h, h3⟩ := and2 h
      obtain ⟨h1, h2⟩ := and2 h
      exact s_dput ok h1 h2 h3 (snd_E e ok _ h4)
    · cases h
  | .aug i o e, Γ, G, X, rk, ok, st, h => by
    unfold chkS at h
    split at h
    · obtain ⟨h, h4⟩ := and2 h
      obtain ⟨h, h3⟩ := and2 h
      obtain ⟨h1, h2⟩ := and2 h
      rw [opOk_eq h3]
      exact s_aug ok (of_decide_eq_true h1) h2 (snd_E e ok _ h4)
    · cases h
  | .augp i ps x o e, Γ, G, X, rk, ok, st, h => by
    unfold chkS at h
    split at h
    · obtain ⟨h, h5⟩ := and2 h
      obtain ⟨h, h4⟩ := and2 h
      obtain ⟨h, h3⟩ := and2 h
      obtain ⟨h1, h2⟩ := and2 h
      rw [opOk_eq h4]
      exact s_augp ok h1 h2 h3 h5
    · cases h
  | .ex e, Γ, G, X, rk, ok, st, h => by
    unfold chkS at h
    split at h
    · obtain ⟨h1, h2⟩ := and2 h
      exact s_ex (snd_E e ok _ h1) h2
    · cases h
  | .iff t a b, Γ, G, X, rk, ok, st, h => by
    unfold chkS at h
    split at h
    · obtain ⟨h, h3⟩ := and2 h
      obtain ⟨h1, h2⟩ := and2 h
      exact s_if (snd_T t ok _ h1).1 (snd_Ss a ok _ h2) (snd_Ss b ok _ h3)
    · cases h
  | .for tg it b, Γ, G, X, rk, ok, st, h => by
    unfold chkS at h
    split at h
    · obtain ⟨h, h4⟩ := and2 h
      obtain ⟨h, h3⟩ := and2 h
      obtain ⟨h1, h2⟩ := and2 h
      exact s_for ok h1 (snd_I it ok _ _ h2) (snd_Ss b ok _ h3) h4
    · cases h
  | .whl t b, Γ, G, X, rk, ok, st, h => by
    unfold chkS at h
    split at h
    · obtain ⟨h1, h2⟩ := and2 h
      exact s_whl ok (snd_T t ok _ h1).1 (snd_Ss b ok _ h2)
    · cases h
  | .ret e, Γ, G, X, rk, ok, st, h => by
    unfold chkS at h
    split at h
    · exact s_ret (snd_E e ok _ h)
    · cases h
  | .retN, Γ, G, X, rk, ok, st, h => by
    unfold chkS at h
    split at h
    · exact s_retN
    · cases h
  | .brk, Γ, G, X, rk, ok, st, h => by
    unfold chkS at h
    split at h
    · exact s_brk
    · cases h
  | .cont, Γ, G, X, rk, ok, st, h => by
    unfold chkS at h
    split at h
    · exact s_cont
    · cases h
  | .pas, Γ, G, X, rk, ok, st, h => by
    unfold chkS at h
    split at h
    · exact s_pas
    · exact s_doc
    · cases h
  | .nev, Γ, G, X, rk, ok, st, h => s_nev
theorem snd_Ss : ∀ (ss : Ss) {Γ : Gam} {G : Gh} {X : Cx} {rk : Nat} (ok : Ok Γ G X) (sts : List Stmt), chkSs ss Γ sts = true → PSs X sts (tS G rk (exs G.c rk ss))
  | .nil, Γ, G, X, rk, ok, sts, h => by
    unfold chkSs at h
    split at h
    · exact ss_nil
    · cases h
  | .cons s r, Γ, G, X, rk, ok, sts, h => by
    unfold chkSs at h
    split at h
    · cases h
    · obtain ⟨h1, h2⟩ := and2 h
      exact ss_cons (snd_S s ok _ h1) (snd_Ss r ok _ h2)
end
end Fx
set_option Elab.async false
set_option linter.all false
set_option maxRecDepth 100000
/-! M26: defs. -/
namespace Fx
open PySem PySem.Spec PyProof.Rows L2
structure Def where
  x : Str
  st : Stmt
  N : List Str
  ps : List Str
  F : Fn
def Def.gam (D : Def) (fns : List (Str × List Str)) (kws : List (Nat × Nat × List Str × List Nat)) (cons : List Str) : Gam := ⟨D.N, defScope D.st, true, fns, kws, cons⟩
def noFree (sc : Scope) : Bool := sc.names.all fun y => match y.2 with
  | .free => false
  | _ => true
def parsOk (P : List Str) (sc : Scope) : Bool := P.all fun x => match sc.names.lookup x with
  | some .local => true
  | some .cell => true
  | _ => false
def scopeOk (N P : List Str) (sc : Scope) : Bool := (match sc.kind with | .function => true | _ => false) && !sc.isCoroutine && !sc.isGenerator && decide N.Nodup && decide (N.take P.length = P) && parsOk P sc && noFree sc
theorem scope_ok {N P : List Str} {sc : Scope} (h : scopeOk N P sc = true) : FnScope N P sc := by
  unfold scopeOk at h
  obtain ⟨h, h7⟩ := and2 h
  obtain ⟨h, h6⟩ := and2 h
  obtain ⟨h, h5⟩ := and2 h
  obtain ⟨h, h4⟩ := and2 h
  obtain ⟨h, h3⟩ := and2 h
  obtain ⟨h1, h2⟩ := and2 h
  refine ⟨?_, by simpa using h2, by simpa using h3, of_decide_eq_true h4, of_decide_eq_true h5, fun x hx => ?_, fun y hy e => ?_⟩
  · split at h1
    · assumption
    · cases h1
  · have := List.all_eq_true.mp h6 x hx
    split at this
    · exact .inl (by assumption)
    · exact .inr (by assumption)
    · cases this
  · have := List.all_eq_true.mp h7 y hy
    rw [e] at this
    cases this
def Def.ok (D : Def) (fns : List (Str × List Str)) (kws : List (Nat × Nat × List Str × List Nat)) (cons : List Str) : Bool := decide (D.F.n = D.N.length) && decide (D.F.np = D.ps.length) && scopeOk D.N D.ps (defScope D.st) && chkSs D.F.body (D.gam fns kws cons) (defBody D.st)
abbrev FnD (K : PySem.W.Frag) (D : Def) (f : Addr) (fd : FuncData) : Prop := FunD K D.x D.x (defArgs D.st) (defBody D.st) (defScope D.st) [] [] f fd
/-- how its arguments bind -/
def BindP (D : Def) : Prop := ∀ (kV doc pm : Value) (an : Option Addr) (cdv ct : Value) (us : List Value), us.length = D.ps.length → bindArgs (PySem.W.fnOf D.x D.x (defArgs D.st) (defBody D.st) (defScope D.st) .none kV doc pm an cdv ct) ⟨us, []⟩ = pure (D.ps.zip us)
def KwP (D : Def) (n : Nat) (ks : List Str) (js : List Nat) : Prop := ∀ (kV doc pm : Value) (an : Option Addr) (cdv ct : Value) (us ws : List Value), us.length = n → ws.length = ks.length → bindArgs (PySem.W.fnOf D.x D.x (defArgs D.st) (defBody D.st) (defScope D.st) .none kV doc pm an cdv ct) ⟨us, ks.zip ws⟩ = pure (D.ps.zip (permL js (us ++ ws)))
theorem vals_at {vs : List V} {us : List Value} (h : Vals vs us) (j : Nat) : (vs[j]? = none ∧ us[j]? = none) ∨ ∃ v u, vs[j]? = some v ∧ us[j]? = some u ∧ RelV v u := by
  cases e : vs[j]? with
  | none =>
    refine .inl ⟨rfl, ?_⟩
    rw [List.getElem?_eq_none_iff] at e ⊢
    rw [← h.length]; exact e
  | some v =>
    obtain ⟨u, h1, h2⟩ := h.get e
    exact .inr ⟨v, u, rfl, h1, h2⟩
theorem vals_perm {vs : List V} {us : List Value} (h : Vals vs us) : ∀ js : List Nat, Vals (permL js vs) (permL js us)
  | [] => .nil
  | j :: js => by
    unfold permL
    rcases vals_at h j with ⟨h1, h2⟩ | ⟨v, u, h1, h2, h3⟩
    · rw [List.filterMap_cons, List.filterMap_cons, h1, h2]
      exact vals_perm h js
    · rw [List.filterMap_cons, List.filterMap_cons, h1, h2]
      exact .cons h3 (vals_perm h js)
section
variable {K : PySem.W.Frag} {L : List (Nat × V)} {T : As} {env : EnvD} {σ : L2.St} {H : Hp} {fps : Nat → As}
/-- more slots, all empty -/
theorem SOk.ext (I : SOk K L T env σ H fps) (n : Nat) : SOk K L T (env ++ List.replicate n .un) (σ ++ List.replicate n none) H fps := by
  have key : ∀ (i : Nat) (l : Bool) (k : Nat) (d : PyData), (env ++ List.replicate n SV.un)[i]? = some (.sv l k d) → env[i]? = some (.sv l k d) := fun i l k d e => by
    by_cases hi : i < env.length
    · rw [List.getElem?_append_left hi] at e; exact e
    · rw [List.getElem?_append_right (by omega), List.getElem?_replicate] at e
      split at e <;> cases e
  refine ⟨by simp [I.len], I.disT, I.dis, I.trk, fun i l k d e => ?_, fun i q => I.out i fun l k d e => q l k d ?_, I.lu, I.tab⟩
  · obtain ⟨v, h1, h2, h3⟩ := I.slot i l k d (key i l k d e)
    have hi : i < σ.length := by
      rw [List.getElem?_eq_some_iff] at h1; exact h1.1
    exact ⟨v, by rw [List.getElem?_append_left hi]; exact h1, h2, h3⟩
  · have hi : i < env.length := by
      rw [List.getElem?_eq_some_iff] at e; exact e.1
    rw [List.getElem?_append_left hi]; exact e
/-- the state at a return: what was lent -/
theorem SOk.exit {vs : List V} (I : SOk K L T env σ H fps) (hL : ∀ p ∈ L, vs[p.1]? = some p.2) : ∃ fps', SOk K L T (lentOnly (finD env vs.length)) (vs.map some) H fps' ∧ Le (fr T H fps) (fr T H fps') := by
  have key : ∀ {i k : Nat} {l : Bool} {d : PyData}, (lentOnly (finD env vs.length))[i]? = some (.sv l k d) → l = true ∧ env[i]? = some (.sv true k d) := fun {i k l d} e => by
    obtain ⟨h1, h2⟩ := lentOnly_get e
    refine ⟨h1, ?_⟩
    unfold finD at h2
    rw [List.getElem?_take] at h2
    split at h2
    · by_cases hi : i < env.length
      · rw [List.getElem?_append_left hi] at h2; exact h2
      · rw [List.getElem?_append_right (by omega), List.getElem?_replicate] at h2
        split at h2 <;> cases h2
    · cases h2
  let fps' : Nat → As := fun i b => (∃ k d, (lentOnly (finD env vs.length))[i]? = some (SV.sv true k d)) ∧ fps i b
  have sub : ∀ i b, fps' i b → fps i b := fun i b h => h.2
  have le : Le (fr T H fps) (fr T H fps') := hid_mono fun b z => z.imp id fun ⟨i, z⟩ => ⟨i, sub i b z⟩
  refine ⟨fps', ⟨?_, fun i b x y => I.disT i b (sub i b x) y, fun i j ne b x y => I.dis i j ne b (sub i b x) (sub j b y), fun b z => I.trk b (z.imp id fun ⟨i, z⟩ => ⟨i, sub i b z⟩), fun i l k d e => ?_, fun i q => ?_, I.lu, fun q hq => le.ex q _ (I.tab q hq)⟩, le⟩
  · unfold lentOnly finD
    simp only [List.length_map, List.length_take, List.length_append, List.length_replicate]
    omega
  · obtain ⟨rfl, h2⟩ := key e
    obtain ⟨v, v1, v2, v3⟩ := I.slot i true k d h2
    have hv := hL _ (v3 rfl)
    refine ⟨v, by rw [List.getElem?_map, hv]; rfl, ?_, v3⟩
    have ef : fps' i = fps i := by
      funext b
      exact propext ⟨fun z => z.2, fun z => ⟨⟨k, d, e⟩, z⟩⟩
    rw [ef]
    exact v2.keep k le fun _ _ => rfl
  · funext b
    refine propext ⟨fun z => ?_, fun z => z.elim⟩
    obtain ⟨⟨k, d, e⟩, _⟩ := z
    exact (q _ _ _ e).elim
end
def XI0 : PyData → Value → Option Addr → Hp → Prop := fun _ _ _ _ => False
/-- the program: its defs, its constants -/
structure Prg where
  defs : List Def
  kws : List (Nat × Nat × List Str × List Nat)
  cons : List Str
  con : Nat → Option PyData
def Prg.fns (p : Prg) (i : Nat) : Option Fn := (p.defs[i]?).map Def.F
def Prg.sig (p : Prg) : List (Str × List Str) := p.defs.map fun D => (D.x, D.ps)
noncomputable def Prg.orc (p : Prg) (m : Nat) : Orc := ⟨callN p.fns p.con m, fun g => ((p.fns g).map Fn.ret).getD 0, p.con⟩
/-- its code object's table is one of those that are held -/
def CodeAt (K : PySem.W.Frag) (fd : FuncData) : Prop := ∃ a t, fd.code = .ref a ∧ (a, t) ∈ csOf K
/-- what is known of the program behind its top -/
structure Prg.At (p : Prg) (K : PySem.W.Frag) (mg : Str → Option Value) : Prop where
  fn : ∀ D ∈ p.defs, ∃ f fd, mg D.x = some (.ref f) ∧ FnD K D f fd ∧ CodeAt K fd
  blt : ∀ x, x ∈ bltNames → mg x = none
  con : ∀ n x d, p.cons[n]? = some x → p.con n = some d → ∃ v u, mg x = some u ∧ RelV v u ∧ ∀ F, Dat K F v d
structure Prg.Ok (p : Prg) : Prop where
  chk : ∀ D ∈ p.defs, D.ok p.sig p.kws p.cons = true
  bind : ∀ D ∈ p.defs, BindP D
  kw : ∀ i n ks js D, (i, n, ks, js) ∈ p.kws → p.defs[i]? = some D → KwP D n ks js
theorem fn_ok {p : Prg} (o : p.Ok) {P : Program} {w : World} {K : PySem.W.Frag} {mg : Str → Option Value} {base : Heap} (a : p.At K mg) (tb : ∀ q ∈ csOf K, TabE base mg q.1 q.2) : ∀ (m i : Nat) (D : Def) (f : Addr) (fd : FuncData), p.defs[i]? = some D → mg D.x = some (.ref f) → FnD K D f fd → CodeAt K fd →
    FnOk P w K mg base CX0 m f fd D.ps (spF K XI0 (p.orc m) i D.ps.length)
  | 0, i, D, f, fd, _, _, _, _ => ⟨fun vs H Q E h => h.1, fun A outer s H args us vs Q E _ _ _ _ h => by
      obtain ⟨_, L, T, svs, fps, _, _, h⟩ := h
      exact h.elim⟩
  | m + 1, i, D, f, fd, hD, hm, F, hcode => by
    have hmem := List.mem_of_getElem? hD
    have hc := o.chk D hmem
    unfold Def.ok at hc
    obtain ⟨hc, c4⟩ := and2 hc
    obtain ⟨hc, c3⟩ := and2 hc
    obtain ⟨c1, c2⟩ := and2 hc
    have c1 := of_decide_eq_true c1
    have c2 := of_decide_eq_true c2
    have S := scope_ok c3
    obtain ⟨oc, od, dV, kV, doc, pm, an, cdv, ct, osl, rfl, lk, hcd, _, _⟩ := F.ex
    obtain ⟨ca, cp, hca, hcp⟩ := hcode
    have hca : cdv = .ref ca := hca
    subst hca
    refine fn_of lk hcd S (fun vs H Q E h => h.1) (fun A outer s H vs Q E hr h => ?_)
    obtain ⟨hlen, L, T, svs, fps, I, hL, hq⟩ := h
    let G : Gh := ⟨p.orc m, K, L, XI0, fun _ _ _ => False, CX0, m⟩
    have ok : Fx.Ok (D.gam p.sig p.kws p.cons) G (cxOf CX0 P w K mg base D.N D.x (defScope D.st) f (.ref ca) A outer s H E).nox := {
      hK := rfl
      hN := rfl
      nd := S.nd
      sc := rfl
      calm := rfl
      hu := by have := hr.un; exact Nat.lt_of_le_of_lt (Nat.add_le_add_right (Nat.le_add_right _ _) 200) this
      blt := a.blt
      con := a.con
      room := hr
      code := ⟨ca, cp, rfl, hcp, tb _ hcp⟩
      pass := fun _ _ _ _ _ _ _ h => h.elim
      own := PassesOwn.never
      cel := fun _ _ => rfl
      passN := fun _ _ _ _ _ h => h
      fns := fun j x ps hj => by
        have hj : (p.defs.map fun D => (D.x, D.ps))[j]? = some (x, ps) := hj
        rw [List.getElem?_map] at hj
        obtain ⟨D', hD', e⟩ := Option.map_eq_some_iff.mp hj
        cases e
        have hmem' := List.mem_of_getElem? hD'
        obtain ⟨f', fd', m1, F', C'⟩ := a.fn D' hmem'
        refine ⟨f', fd', m1, F'.kp, fn_ok o a tb m j D' f' fd' hD' m1 F' C', F'.bindsN (o.bind D' hmem'), fun n ks js hk => ⟨fun s us ws _ l1 l2 => ?_, fun r1 r2 => vals_perm (r1.append r2) js⟩⟩
        obtain ⟨oc, od, dV, kV, doc, pm, an, cdv', ct, osl, rfl, _, _, hDf, _⟩ := F'.ex
        rcases hDf with ⟨_, rfl⟩ | ⟨e, _⟩
        · exact .of_eq (o.kw j n ks js D' hk hD' kV doc pm an cdv' ct us ws l1 l2)
        · exact absurd rfl e }
    refine ⟨tS G D.F.ret (exs G.c D.F.ret D.F.body), PSs.nox (snd_Ss D.F.body ok _ c4), T, svs ++ List.replicate (D.F.n - svs.length) .un, fps, ?_, ?_⟩
    · have e : L2.start D.N vs = vs.map some ++ List.replicate (D.F.n - svs.length) none := by
        unfold L2.start
        have := I.len
        rw [List.length_map] at this
        rw [c1, this]
      rw [e]
      exact I.ext _
    · have hq : Out (callN p.fns p.con (m + 1) i svs) (fun r => ∀ v H', FOut K L T H fps ((p.orc (m + 1)).ret i) vs r v H' → Q v H') (XWE XI0 E T H fps) := hq
      have hf : p.fns i = some D.F := by unfold Prg.fns; rw [hD]; rfl
      have hret : (p.orc (m + 1)).ret i = D.F.ret := by show ((p.fns i).map Fn.ret).getD 0 = _; rw [hf]; rfl
      rw [hret] at hq
      simp only [callN, hf] at hq
      obtain ⟨_, hq⟩ := hq.ite_bad
      have np : D.F.np = vs.length := by rw [c2, hlen]
      refine hq.bind.mono (fun fl _ hfl => ?_) fun x _ hx cls a H' _ _ xi => xi.elim
      cases fl with
      | rt d e =>
        intro v H' hro
        obtain ⟨σ', fps', g, J, R, dj, st⟩ := hro
        obtain ⟨f2, J2, le2⟩ := J.exit (vs := vs) hL
        refine (show ∀ v H', FOut K L T H fps D.F.ret vs (d, finD e D.F.np) v H' → Q v H' from hfl) v H' ⟨f2, g, ?_, R.keep _ le2 fun _ _ => rfl, dj, ⟨st.aside, st.le.trans le2⟩⟩
        rw [np]; exact J2
      | nx e =>
        intro σ' H' hno
        obtain ⟨fps', J, st⟩ := hno
        obtain ⟨f2, J2, le2⟩ := J.exit (vs := vs) hL
        refine (show ∀ v H', FOut K L T H fps D.F.ret vs (PyData.none, finD e D.F.np) v H' → Q v H' from hfl) .non H' ⟨f2, none', ?_, ?_, dis_none _, ?_⟩
        · rw [or_none, np]; exact J2
        · exact Rep.plain .non (.inl rfl)
        · rw [or_none]; exact ⟨st.aside, st.le.trans le2⟩
      | bk e => exact hfl.elim
      | ct e => exact hfl.elim
/-- the law's def -/
def spL (K : PySem.W.Frag) (n : Nat) : Sp := fun vs H Q _ => ∃ (a : Addr) (ns : List Int), vs = [.ref a] ∧ ns.length ≤ n ∧ SqL K H a (ns.map V.int) ∧ (∀ q, Tb K q → H q = some (TabO q)) ∧ ∀ H', (∀ q, Tb K q → H' q = some (TabO q)) → Q (.bl true) H'
theorem law_ok {p : Prg} (o : p.Ok) {P : Program} {w : World} {K : PySem.W.Frag} {mg : Str → Option Value} {base : Heap} (a : p.At K mg) (tb : ∀ q ∈ csOf K, TabE base mg q.1 q.2) {m i n : Nat} {D : Def} {f : Addr} {fd : FuncData} (hD : p.defs[i]? = some D) (hm : mg D.x = some (.ref f)) (F : FnD K D f fd) (hc : CodeAt K fd) (hp : D.ps.length = 1)
    (h : ∀ ns : List Int, ns.length ≤ n → ∃ r, callN p.fns p.con m i [.sv false 0 (.list (ns.map .int))] = .ok (.bool true, r)) : FnOk P w K mg base CX0 m f fd D.ps (spL K n) := by
  refine (fn_ok o a tb m i D f fd hD hm F hc).imp fun vs H Q E hq => ?_
  obtain ⟨ad, ns, rfl, hn, hs, ht, hq⟩ := hq
  obtain ⟨r, hr⟩ := h ns hn
  refine ⟨hp.symm, [], none', [.sv false 0 (.list (ns.map .int))], fun _ => none', ⟨rfl, fun _ => dis_none _, fun _ _ _ => dis_none _, fun b z => z.elim (fun z => z.elim) fun ⟨_, z⟩ => z.elim, fun j l k d e => ?_, fun _ _ => rfl, fun i v w h => (by cases h), fun q hq' => (hid_out fun z => z.elim (fun z => z.elim) fun ⟨_, z⟩ => z.elim).trans (ht q hq')⟩, fun p hp => (by cases hp), ?_⟩
  · cases j with
    | succ j => simp at e
    | zero =>
      simp at e
      obtain ⟨rfl, rfl, rfl⟩ := e
      refine ⟨.ref ad, rfl, ⟨rfl, .lst ?_ DatL.of_ints⟩, fun z => by cases z⟩
      have e : hid H (all' none' fun _ => none') = H := by
        funext b
        exact hid_out fun z => z.elim (fun z => z.elim) fun ⟨_, z⟩ => z.elim
      rw [e]; exact hs
  · show Out (callN p.fns p.con m i _) _ _
    rw [hr]
    intro v H' ho
    obtain ⟨fps', g, J, R, _, _⟩ := ho
    have := (rep_noncont R rfl).boolV
    rw [this]
    exact hq H' fun q hz => (hid_some (J.tab q hz)).2
end Fx
set_option Elab.async false
set_option linter.all false
set_option maxRecDepth 100000
/-! M27: what the head tells. -/
namespace Fx
open PySem PySem.Spec PyProof.Rows L2
mutual
/-- the value u is the datum d, as far as K tells -/
def datB (K : PySem.W.Frag) : PyData → Value → Bool
  | .none, u => match u with
    | .none => true
    | _ => false
  | .bool b, u => match u with
    | .bool c => b == c
    | _ => false
  | .int i, u => match u with
    | .int j _ => decide (i = j)
    | _ => false
  | .str x, u => match u with
    | .str y _ => decide (x = y)
    | _ => false
  | .tuple ds, u => match u with
    | .ref a => (match K.lookup a with
      | some ⟨.type c, _, .seq its _, _⟩ => decide (c = "tuple") && decide (its.size ≤ sizeLine) && datBs K ds its.toList
      | _ => false)
    | _ => false
  | .list ds, u => match u with
    | .ref a => (match K.lookup a with
      | some ⟨.type c, none, .seq its _, _⟩ => decide (c = "list") && decide (its.size ≤ sizeLine) && datBs K ds its.toList
      | _ => false)
    | _ => false
  | .dict _, _ => false
def datBs (K : PySem.W.Frag) : List PyData → List Value → Bool
  | [], us => match us with
    | [] => true
    | _ :: _ => false
  | d :: ds, us => match us with
    | [] => false
    | u :: us => datB K d u && datBs K ds us
end
mutual
theorem dat_of {K : PySem.W.Frag} : ∀ (d : PyData) (u : Value), datB K d u = true → ∃ v, RelV v u ∧ ∀ F, Dat K F v d
  | .none, u, h => by
    unfold datB at h
    split at h
    · exact ⟨.non, rfl, fun _ => .non⟩
    · cases h
  | .bool b, u, h => by
    unfold datB at h
    split at h
    · have e := beq_iff_eq.mp h
      subst e
      exact ⟨.bl b, rfl, fun _ => .bl b⟩
    · cases h
  | .int i, u, h => by
    unfold datB at h
    split at h
    · have e := of_decide_eq_true h
      subst e
      exact ⟨.int i, ⟨_, rfl⟩, fun _ => .int i⟩
    · cases h
  | .str x, u, h => by
    unfold datB at h
    split at h
    · have e := of_decide_eq_true h
      subst e
      exact ⟨.str x, ⟨_, rfl⟩, fun _ => .str x⟩
    · cases h
  | .tuple ds, u, h => by
    unfold datB at h
    split at h
    · rename_i a
      split at h
      · rename_i c od its n sl q
        obtain ⟨h, h3⟩ := and2 h
        obtain ⟨h1, h2⟩ := and2 h
        obtain ⟨vs, r, hd⟩ := dats_of ds _ h3
        exact ⟨.ref a, rfl, fun F => .tup (.inr ⟨_, its, n, q, congrArg Value.type (of_decide_eq_true h1), rfl, of_decide_eq_true h2, r⟩) (hd F)⟩
      · cases h
    · cases h
  | .list ds, u, h => by
    unfold datB at h
    split at h
    · rename_i a
      split at h
      · rename_i c its n sl q
        obtain ⟨h, h3⟩ := and2 h
        obtain ⟨h1, h2⟩ := and2 h
        obtain ⟨vs, r, hd⟩ := dats_of ds _ h3
        exact ⟨.ref a, rfl, fun F => .lst (.inr ⟨_, its, n, q, congrArg Value.type (of_decide_eq_true h1), rfl, rfl, of_decide_eq_true h2, r⟩) (hd F)⟩
      · cases h
    · cases h
  | .dict _, u, h => by
    unfold datB at h
    cases h
theorem dats_of {K : PySem.W.Frag} : ∀ (ds : List PyData) (us : List Value), datBs K ds us = true → ∃ vs, Vals vs us ∧ ∀ F, DatL K F vs ds
  | [], us, h => by
    unfold datBs at h
    split at h
    · exact ⟨[], .nil, fun _ => .nil⟩
    · cases h
  | d :: ds, us, h => by
    unfold datBs at h
    split at h
    · cases h
    · obtain ⟨h1, h2⟩ := and2 h
      obtain ⟨v, r1, d1⟩ := dat_of d _ h1
      obtain ⟨vs, r2, d2⟩ := dats_of ds _ h2
      exact ⟨v :: vs, .cons r1 r2, fun F => .cons (d1 F) (d2 F)⟩
end
/-- the module's name x is the datum d -/
def conOkB (K : PySem.W.Frag) (q : Str × PyData) : Bool := match PySem.W.nsIn K mainGlobals q.1 with
  | some (some u) => datB K q.2 u
  | _ => false
/-- the object of a table that holds nothing -/
def isTab : Obj → Bool
  | ⟨.none, none, .fields vs, sl⟩ => vs.isEmpty && sl.isEmpty
  | _ => false
theorem isTab_ok {o : Obj} (h : isTab o = true) : o = { cls := .none, data := .fields #[] } := by
  obtain ⟨oc, od, dt, sl⟩ := o
  cases oc <;> first | (cases h; done) | skip
  cases od <;> first | (cases h; done) | skip
  cases dt <;> first | (cases h; done) | skip
  rename_i vs
  have h : (vs.isEmpty && sl.isEmpty) = true := h
  obtain ⟨h1, h2⟩ := and2 h
  rw [Array.isEmpty_iff.mp h1, Array.isEmpty_iff.mp h2]
/-- the tables stand aside -/
def tabsOkB (K T : PySem.W.Frag) : Bool := (csOf K).all fun q => (match T.lookup q.2 with
  | some o => isTab o
  | none => false) && (K.lookup q.2).isNone
def codeOkB (K : PySem.W.Frag) (x : Str) : Bool := match K.lookup (He.ga K x) with
  | some ⟨_, _, .func fd, _⟩ => (match fd.code with
    | .ref a => (csOf K).any fun q => q.1 == a
    | _ => false)
  | _ => false
abbrev AlX : Type := Bool × List He.FnW
def obsX (da : List (Str × PyData)) (fa : List He.Fa) (fn : List He.DefD) (K T : PySem.W.Frag) : AlX := ((He.obsD fa fn K).1 && da.all (conOkB K) && tabsOkB K T && (fn.all fun d => codeOkB K d.at_.1), (He.obsD fa fn K).2)
def SaysX (da : List (Str × PyData)) (fa : List He.Fa) (fn : List He.DefD) (K T : PySem.W.Frag) : Prop := obsX da fa fn K T = He.valD fn
def asX (g : Addr → Option Obj) (n : Nat) : List Addr := (He.asD g n).filter fun a => match g a with
  | some o => !isTab o
  | none => false
def obsXG (n : Nat) (da : List (Str × PyData)) (fa : List He.Fa) (fn : List He.DefD) (g : Addr → Option Obj) : AlX := obsX da fa fn (He.frG g (asX g n)) (He.frG g (He.asD g n))
def hookX (n : Nat) (da : List (Str × PyData)) (fa : List He.Fa) (fn : List He.DefD) : PySem.W.Hook where
  α := AlX
  obs := fun s => obsXG n da fa fn s.heap.get?
  val := fun _ => He.valD fn
  says := fun _ h => ∃ K T : PySem.W.Frag, K.In h ∧ T.In h ∧ SaysX da fa fn K T
  of := fun _ _ e => ⟨_, _, He.frG_in, He.frG_in, e⟩
  keeps := fun _ _ _ ⟨K, T, hK, hT, c⟩ k => ⟨K, T, PySem.W.Frag.In.keeps hK k, PySem.W.Frag.In.keeps hT k, c⟩
theorem obsX_eq {n : Nat} {da : List (Str × PyData)} {fa : List He.Fa} {fn : List He.DefD} {g : Addr → Option Obj} {s : Shared} (h : ∀ a, g a = s.heap.get? a) : obsXG n da fa fn g = (hookX n da fa fn).obs s := by
  have e : g = s.heap.get? := funext h
  subst e
  rfl
theorem SaysX.d {da : List (Str × PyData)} {fa : List He.Fa} {fn : List He.DefD} {K T : PySem.W.Frag} (c : SaysX da fa fn K T) : He.SaysD fa fn K ∧ da.all (conOkB K) = true ∧ tabsOkB K T = true ∧ (fn.all fun d => codeOkB K d.at_.1) = true := by
  have c0 : obsX da fa fn K T = He.valD fn := c
  have c1 : (obsX da fa fn K T).1 = (He.valD fn).1 := by rw [c0]
  have c2 : (obsX da fa fn K T).2 = (He.valD fn).2 := by rw [c0]
  obtain ⟨h123, h4⟩ := and2 (show ((He.obsD fa fn K).1 && da.all (conOkB K) && tabsOkB K T && (fn.all fun d => codeOkB K d.at_.1)) = true from c1)
  obtain ⟨h12, h3⟩ := and2 h123
  obtain ⟨h1, h2⟩ := and2 h12
  have c2 : (He.obsD fa fn K).2 = (He.valD fn).2 := c2
  refine ⟨?_, h2, h3, h4⟩
  show He.obsD fa fn K = He.valD fn
  have e : He.obsD fa fn K = ((He.obsD fa fn K).1, (He.obsD fa fn K).2) := rfl
  rw [e, h1, c2]
  rfl
def Def.d (D : Def) : He.DefD := ⟨(D.x, none), D.x, D.x, defArgs D.st, defBody D.st, defScope D.st, [], []⟩
def Prg.fa (p : Prg) : List He.Fa := p.defs.map (fun D => He.Fa.glo D.x) ++ bltNames.map He.Fa.free
def Prg.fn (p : Prg) : List He.DefD := p.defs.map Def.d
/-- the constants: by names -/
def Prg.da (p : Prg) : List (Str × PyData) := (List.range p.cons.length).filterMap fun n => match p.cons[n]?, p.con n with
  | some x, some d => some (x, d)
  | _, _ => none
theorem Prg.at_ {p : Prg} {K T : PySem.W.Frag} {h : Heap} {mg : Str → Option Value} (X : K.In h) (G : h.Ns mainGlobals mg) (c : SaysX p.da p.fa p.fn K T) : p.At K mg := by
  obtain ⟨c1, c2, c3, c4⟩ := c.d
  refine ⟨fun D hD => ?_, fun x hx => ?_, fun n x d hx hd => ?_⟩
  · obtain ⟨i, hi⟩ := List.getElem?_of_mem hD
    obtain ⟨fd, F⟩ := c1.def_ i (d := D.d) (by show (p.defs.map Def.d)[i]? = _; rw [List.getElem?_map, hi]; rfl)
    have hl : i < p.defs.length := by
      rw [List.getElem?_eq_some_iff] at hi; exact hi.1
    have f := c1.fact i (f := .glo D.x) (by
      show (p.defs.map (fun D => He.Fa.glo D.x) ++ _)[i]? = _
      rw [List.getElem?_append_left (by simpa using hl), List.getElem?_map, hi]; rfl)
    refine ⟨He.ga K D.x, fd, He.glo_ok X G f, F, ?_⟩
    have hc := List.all_eq_true.mp c4 D.d (List.mem_map.mpr ⟨D, hD, rfl⟩)
    obtain ⟨oc, od, dV, kV, doc, pm, an, cdv, ct, osl, rfl, lk, _, _, _⟩ := F.ex
    unfold codeOkB at hc
    rw [show K.lookup (He.ga K D.d.at_.1) = _ from lk] at hc
    dsimp only at hc
    split at hc
    · rename_i a ha
      obtain ⟨q, hq, e⟩ := List.any_eq_true.mp hc
      exact ⟨a, q.2, rfl, by rw [← beq_iff_eq.mp e]; exact hq⟩
    · cases hc
  · obtain ⟨i, hi⟩ := List.getElem?_of_mem hx
    have f := c1.fact (p.defs.length + i) (f := .free x) (by
      show (p.defs.map (fun D => He.Fa.glo D.x) ++ bltNames.map He.Fa.free)[p.defs.length + i]? = _
      rw [List.getElem?_append_right (by simp), List.length_map, Nat.add_sub_cancel_left, List.getElem?_map, hi]; rfl)
    exact He.free_ok X G f
  · have hn : n < p.cons.length := by
      rw [List.getElem?_eq_some_iff] at hx; exact hx.1
    have hm : (x, d) ∈ p.da := List.mem_filterMap.mpr ⟨n, List.mem_range.mpr hn, by rw [hx, hd]⟩
    have hb := List.all_eq_true.mp c2 _ hm
    unfold conOkB at hb
    split at hb
    · rename_i u e
      obtain ⟨v, r, hv⟩ := dat_of d u hb
      exact ⟨v, u, PySem.W.mg_of X G e, r, hv⟩
    · cases hb
end Fx
set_option Elab.async false
set_option linter.all false
set_option maxRecDepth 100000
/-! M28: the law's def, from the head's facts. -/
namespace Fx
open PySem PySem.Spec PyProof.Rows L2
open Classical in
/-- the tables told by what they are -/
noncomputable def extH (K : PySem.W.Frag) (H : Hp) : Hp := fun b => if Tb K b then some (TabO b) else H b
theorem extH_in {K : PySem.W.Frag} {H : Hp} {b : Addr} (h : Tb K b) : extH K H b = some (TabO b) := if_pos h
theorem extH_out {K : PySem.W.Frag} {H : Hp} {b : Addr} (h : ¬ Tb K b) : extH K H b = H b := if_neg h
def Tbl0 (K : PySem.W.Frag) (H : Hp) : Prop := ∀ q, Tb K q → H q = some (.tbl #[])
open Classical in
/-- .. and back -/
noncomputable def bckH (K : PySem.W.Frag) (H : Hp) (h : Heap) : Hp := fun b => if Tb K b then some (.tbl (match h.get? b with
  | some ⟨_, _, .fields ps, _⟩ => ps
  | _ => #[])) else H b
theorem tabO_ok {P : Program} {w : World} {H : Hp} {h : Heap} {b : Addr} {ps : Array Value} (e : h.get? b = some { cls := .none, data := .fields ps }) (ht : TriplesOk ps.toList) : ObjOk P w H h b (TabO b) :=
  ⟨⟨ps, e, ht⟩, ⟨_, e⟩, fun h1 h2 ⟨ps, e, t⟩ k => ⟨ps, k _ e, t⟩⟩
/-- a promise about tables told so holds of tables told the other way -/
theorem FnOk.tabs {P : Program} {w : World} {K : PySem.W.Frag} {mg : Str → Option Value} {base : Heap} {k : Nat} {f : Addr} {fd : FuncData} {ps : List Str} {sp sp2 : Sp} (F : FnOk P w K mg base CX0 k f fd ps sp2)
    (h : ∀ vs H Q E, sp vs H Q E → Tbl0 K H ∧ sp2 vs (extH K H) (fun v H' => (∀ q, Tb K q → H' q = some (TabO q)) ∧ ∀ H2, Q v H2) E) : FnOk P w K mg base CX0 k f fd ps sp := by
  refine ⟨fun vs H Q E q => F.len _ _ _ _ (h _ _ _ _ q).2, fun A outer s H args us vs Q E hr e0 hb hv hs => ?_⟩
  obtain ⟨ht, hs2⟩ := h _ _ _ _ hs
  have nT : ∀ {b : Addr}, H b = none → ¬ Tb K b := fun e z => by rw [ht _ z] at e; cases e
  have okE : HOk P w (extH K H) s.heap := fun b o e => by
    by_cases z : Tb K b
    · rw [extH_in z] at e
      cases e
      exact tabO_ok (show s.heap.get? b = some { cls := .none, data := .fields #[] } from e0.hok b _ (ht b z)) trivial
    · rw [extH_out z] at e
      refine (e0.hok b o e).stay (fun _ _ _ q => q) (fun d q => ?_) fun d xs q => ?_
      · rw [extH_out fun y => by rw [ht d y] at q; cases q]; exact q
      · rw [extH_out fun y => by rw [ht d y] at q; cases q]; exact q
  have e1 : Env0 P w K mg base A outer s (extH K H) := ⟨e0.frames, e0.mod, fun b o e => ⟨(e0.bs b o e).1, (extH_out (nT (e0.bs b o e).2)).trans (e0.bs b o e).2⟩, e0.bsz, e0.funs, fun b hb => (extH_out (nT (e0.frf b hb))).trans (e0.frf b hb), okE, e0.bare⟩
  refine codeAny_mono (F.run A outer s (extH K H) args us vs _ E hr e1 hb hv hs2) fun r s' hc => ?_
  cases r with
  | error e => exact hc
  | ok fl =>
    cases fl with
    | next => exact hc
    | brk => exact hc
    | cont => exact hc
    | ret u =>
      obtain ⟨v, H', os, bare, un, hok, rv, hT, hq⟩ := hc
      have inT : ∀ {b : Addr}, Tb K b → ∃ ps, s'.heap.get? b = some { cls := .none, data := .fields ps } ∧ bckH K H' s'.heap b = some (.tbl ps) := fun {b} z => by
        obtain ⟨⟨ps, e, _⟩, _⟩ := hok b _ (hT b z)
        refine ⟨ps, e, ?_⟩
        unfold bckH
        rw [if_pos z, e]
      have outT : ∀ {b : Addr}, ¬ Tb K b → bckH K H' s'.heap b = H' b := fun z => if_neg z
      refine ⟨v, bckH K H' s'.heap, os, bare, ⟨fun b o e n => un.keep b o e ((extH_out (nT n)).trans n), fun b o e n => un.slot b o e ((extH_out (nT n)).trans n), fun b o e n hx => ?_, un.there, fun b xs e => ?_, fun b o u e => ?_, fun b qs e => ?_⟩, fun b o e => ?_, rv, hq _⟩
      · exact (outT (nT n)).trans (un.free b o e ((extH_out (nT n)).trans n) hx)
      · have z : ¬ Tb K b := fun y => by rw [ht b y] at e; cases e
        exact (outT z).trans (un.tups b xs ((extH_out z).trans e))
      · have z : ¬ Tb K b := fun y => by rw [ht b y] at e; cases e
        exact (outT z).trans (un.frzs b o u ((extH_out z).trans e))
      · by_cases z : Tb K b
        · rw [ht b z] at e
          cases e
          obtain ⟨ps, _, e2⟩ := inT z
          exact ⟨ps, by rw [e2, Array.empty_append]⟩
        · obtain ⟨more, e2⟩ := un.tbls b qs ((extH_out z).trans e)
          exact ⟨more, (outT z).trans e2⟩
      · by_cases z : Tb K b
        · obtain ⟨ps, e2, e3⟩ := inT z
          rw [e3] at e
          cases e
          exact e2
        · rw [outT z] at e
          have back : ∀ {d : Addr} {x : HO}, (∀ φ, x ≠ .ext φ) → H' d = some x → bckH K H' s'.heap d = some x := fun {d x} hx q => by
            rw [outT fun y => by rw [hT d y] at q; exact hx _ (Option.some.inj q).symm]; exact q
          exact (hok b o e).stay (fun _ _ _ q => q) (fun d q => back (fun φ z => by cases z) q) fun d xs q => back (fun φ z => by cases z) q
theorem cs_hd {K : PySem.W.Frag} {q : Addr × Addr} (h : q ∈ csOf K) : PySem.W.codeHdIn K q.1 q.2 = true := by
  unfold csOf at h
  obtain ⟨r, hr, e⟩ := List.mem_filterMap.mp h
  split at e
  · split at e
    · split at e
      · cases e; assumption
      · cases e
    · cases e
  · cases e
theorem law_facts {p : Prg} (o : p.Ok) {i m : Nat} {D : Def} (hD : p.defs[i]? = some D) (hps : D.ps = ([("script" : Str)] : List Str)) (hl : ∀ ns : List Int, ns.length ≤ 63 → ∃ r, callN p.fns p.con m i [.sv false 0 (.list (ns.map .int))] = .ok (.bool true, r))
    {l : PySem.W.OpenLaw} {w : World} {K T : PySem.W.Frag} {h : Heap} {mg : Str → Option Value} {f : Addr} (X : K.In h) (XT : T.In h) (G : h.Ns mainGlobals mg) (hfa : mg D.x = some (.ref f)) (c : SaysX p.da p.fa p.fn K T) :
    LamX.LawAtS l w K CX0 m 63 "script" mg f h := by
  have a := Prg.at_ X G c
  have hm := List.mem_of_getElem? hD
  obtain ⟨f', fd, e, F, C⟩ := a.fn D hm
  have ef : f' = f := by
    rw [hfa] at e
    cases e; rfl
  subst ef
  obtain ⟨_, _, c3, _⟩ := c.d
  have tabs : ∀ q ∈ csOf K, h.get? q.2 = some { cls := .none, data := .fields #[] } ∧ K.lookup q.2 = none := fun q hq => by
    obtain ⟨h1, h2⟩ := and2 (List.all_eq_true.mp c3 q hq)
    split at h1
    · rename_i ob z
      exact ⟨by rw [XT _ _ z, isTab_ok h1], Option.isNone_iff_eq_none.mp h2⟩
    · cases h1
  refine ⟨fd, csOf K, fun vs H Q E => ∃ (a : Addr) (ns : List Int), vs = [.ref a] ∧ ns.length ≤ 63 ∧ SqL K H a (ns.map V.int) ∧ Tbl0 K H ∧ ∀ H', Q (.bl true) H', fun q hq => (tabs q hq).1, fun q hq => (tabs q hq).2, fun q hq => PySem.W.codeHd_of_K X (cs_hd hq), fun s v => ?_, fun H ad ns hn _ ht hs => ⟨ad, ns, rfl, hn, hs, fun q hq => ?_, fun _ => rfl⟩, fun base _ _ hb => ?_⟩
  · have b := FunD.bindsA (ps := D.ps) F (o.bind D hm) s [v] (by rw [hps]; rfl)
    rw [hps] at b
    exact b
  · obtain ⟨r, hr, rfl⟩ := List.mem_map.mp hq
    exact ht r hr
  · have q := law_ok (P := l.prog) (w := w) (base := base) (n := 63) o a (fun r hr => ⟨(hb r hr).code, (hb r hr).bm, (hb r hr).gP⟩) hD hfa F C (by rw [hps]; rfl) hl
    rw [hps] at q
    refine Fx.FnOk.tabs q fun vs H Q E z => ?_
    obtain ⟨ad, ns, rfl, hn, hs, ht, hq⟩ := z
    refine ⟨ht, ad, ns, rfl, hn, ?_, fun r hr => extH_in hr, fun H' h' => ⟨h', hq⟩⟩
    rcases hs with hs | hs
    · rcases hs with hs | ⟨ob, hs⟩
      · exact .inl (.inl ((extH_out fun y => by rw [ht _ y] at hs; cases hs).trans hs))
      · exact .inl (.inr ⟨ob, (extH_out fun y => by rw [ht _ y] at hs; cases hs).trans hs⟩)
    · exact .inr hs
end Fx
set_option Elab.async false
set_option linter.all false
set_option maxRecDepth 100000
/-! N1: reckoning with the tree: calls. -/
namespace Fx
open PySem PySem.Spec PyProof.Rows L2
theorem r_ok {α β : Type} (a : α) (f : α → Rs β) : (Rs.ok a).bind f = f a := rfl
theorem r_bad {α β : Type} (f : α → Rs β) : (Rs.bad : Rs α).bind f = .bad := rfl
theorem r_of {α : Type} (a : α) : Rs.of (some a) = .ok a := rfl
theorem r_no {α : Type} : Rs.of (none : Option α) = .bad := rfl
theorem callN_eq {p : Prg} {m i : Nat} {D : Def} {as : List SV} (hD : p.defs[i]? = some D) (hl : lentOk D.F.lo as = true) : callN p.fns p.con (m + 1) i as = (exs (p.orc m) D.F.ret D.F.body (as ++ List.replicate (D.F.n - as.length) .un)).bind fun r => match r with
          | .rt d e => .ok (d, finD e D.F.np)
          | .nx e => .ok (.none, finD e D.F.np)
          | _ => .bad := by
  have hf : p.fns i = some D.F := by unfold Prg.fns; rw [hD]; rfl
  simp only [callN, hf]
  rw [if_pos hl]
  rfl
def svs (ds : List PyData) : List SV := ds.map (.sv false 0 ·)
/-- what a def gives at values -/
def callV (c : Orc) (f : Nat) (ds : List PyData) : Rs PyData := (c.fn f (svs ds)).bind fun r => .ok r.1
def Fl.val : Fl → Rs PyData
  | .rt d _ => .ok d
  | .nx _ => .ok .none
  | _ => .bad
theorem lentOk_svs : ∀ ds : List PyData, lentOk (ds.map fun _ => false) (svs ds) = true
  | [] => rfl
  | _ :: ds => by
    show ((false == false) && (false || decide (0 = 0)) && _) = true
    have := lentOk_svs ds
    unfold svs at this
    simpa using this
theorem callV_eq {p : Prg} {m i : Nat} {D : Def} {ds : List PyData} (hD : p.defs[i]? = some D) (hl : lentOk D.F.lo (svs ds) = true) : callV (p.orc (m + 1)) i ds = (exs (p.orc m) D.F.ret D.F.body (svs ds ++ List.replicate (D.F.n - ds.length) .un)).bind Fl.val := by
  unfold callV
  show (callN p.fns p.con (m + 1) i (svs ds)).bind _ = _
  rw [callN_eq hD hl]
  have e : (svs ds).length = ds.length := by simp [svs]
  rw [e]
  cases exs (p.orc m) D.F.ret D.F.body (svs ds ++ List.replicate (D.F.n - ds.length) .un) with
  | ok f => cases f <;> rfl
  | ex x => rfl
  | bad => rfl
def allV : Ar → Bool
  | .nil => true
  | .v _ as => allV as
  | .l _ _ => false
theorem lents_allV : ∀ {ar : Ar}, allV ar = true → (lents ar).filterMap id = [] ∧ (∀ r env, lentBack (lents ar) r env = env)
  | .nil, _ => ⟨rfl, fun r env => by cases r <;> rfl⟩
  | .v e as, h => by
    obtain ⟨h1, h2⟩ := lents_allV (ar := as) h
    refine ⟨h1, fun r env => ?_⟩
    cases r with
    | nil => rfl
    | cons sv r =>
      have : lentBack (none :: lents as) (sv :: r) env = lentBack (lents as) r env := by cases sv <;> rfl
      exact this.trans (h2 r env)
  | .l i as, h => by cases h
theorem argSV_allV {c : Orc} : ∀ {ar : Ar} {env : EnvD} {r : List PyData × EnvD}, allV ar = true → evR c ar env = .ok r → ∀ e, argSV (lents ar) r.1 e = some (svs r.1)
  | .nil, env, r, _, h, e => by
    simp only [evR] at h
    cases h; rfl
  | .v a as, env, r, ha, h, e => by
    simp only [evR] at h
    obtain ⟨x, h1, h2⟩ := Rs.bind_ok h
    obtain ⟨z, h3, h4⟩ := Rs.bind_ok h2
    cases h4
    have := argSV_allV (ar := as) ha h3 e
    show (argSV (lents as) z.1 e).map _ = _
    rw [this]; rfl
  | .l i as, _, _, h, _, _ => by cases h
theorem ev_call0 {c : Orc} {f : Nat} {ar : Ar} {env : EnvD} (h : allV ar = true) : ev c (.call f none ar) 0 env = (evR c ar env).bind fun r => (callV c f r.1).bind fun d => .ok (d, r.2) := by
  simp only [ev]
  cases hr : evR c ar env with
  | ok r =>
    show callD c f 0 none (lents ar) r.1 r.2 = (callV c f r.1).bind _
    obtain ⟨h1, h2⟩ := lents_allV h
    unfold callD callV
    rw [if_pos (by rw [h1]; exact List.nodup_nil), argSV_allV h hr]
    show (c.fn f (svs r.1)).bind _ = ((c.fn f (svs r.1)).bind _).bind _
    cases c.fn f (svs r.1) with
    | ok q =>
      show (if isCont q.1 = false ∨ 0 = 0 ∨ 0 = c.ret f then Rs.ok (q.1, lentBack (lents ar) q.2 r.2) else .bad) = .ok (q.1, r.2)
      rw [if_pos (.inr (.inl rfl)), h2]
    | ex x => rfl
    | bad => rfl
  | ex x => rfl
  | bad => rfl
section
variable (c : Orc)
theorem ev_p (p : P) (k : Nat) (env : EnvD) : ev c (.p p) k env = Rs.of (evPk c p k env) := by simp only [ev]
theorem ev_tup (es : Es) (k : Nat) (env : EnvD) : ev c (.tup es) k env = (evs c es 0 env).bind fun r => if r.1.length ≤ 16777216 then .ok (.tuple r.1, r.2) else .bad := by simp only [ev]
theorem ev_lst (es : Es) (k : Nat) (env : EnvD) : ev c (.lst es) k env = (evs c es (k - 1) env).bind fun r => if r.1.length ≤ 16777216 then .ok (.list r.1, r.2) else .bad := by simp only [ev]
theorem ev_b2 (o : B2) (a b : E) (k : Nat) (env : EnvD) : ev c (.b2 o a b) k env = fin c (opd2 c a b (ev c a 0) (ev c b 0)) (fun ds => (g2 (b2 o) ds).bind (own1 k)) env := by simp only [ev]
theorem ev_neg (a : E) (k : Nat) (env : EnvD) : ev c (.neg a) k env = fin c (opd1 c a (ev c a 0)) (g1 (p1 .neg)) env := by simp only [ev]
theorem ev_c2 (o : C2) (a b : E) (k : Nat) (env : EnvD) : ev c (.c2 o a b) k env = fin c (opd2 c a b (ev c a 0) (ev c b 0)) (g2 (c2B o)) env := by simp only [ev]
theorem ev_isN (a : E) (n : Bool) (k : Nat) (env : EnvD) : ev c (.isN a n) k env = fin c (opd1 c a (ev c a 0)) (g1 fun d => some (.bool (isNone d ^^ n))) env := by simp only [ev]
theorem ev_not (a : E) (k : Nat) (env : EnvD) : ev c (.not a) k env = (ev c a 0 env).bind fun r => (Rs.of (truth r.1)).bind fun t => .ok (.bool (!t), r.2) := by simp only [ev]
theorem ev_and (a b : E) (k : Nat) (env : EnvD) : ev c (.and a b) k env = (ev c a 0 env).bind fun r => (Rs.of (truth r.1)).bind fun t => if t = true then ev c b k r.2 else if isCont r.1 = false ∨ k = 0 then .ok r else .bad := by simp only [ev]
theorem ev_or (a b : E) (k : Nat) (env : EnvD) : ev c (.or a b) k env = (ev c a 0 env).bind fun r => (Rs.of (truth r.1)).bind fun t => if t = true then (if isCont r.1 = false ∨ k = 0 then .ok r else .bad) else ev c b k r.2 := by simp only [ev]
theorem ev_ite (t : Tt) (a b : E) (k : Nat) (env : EnvD) : ev c (.ite t a b) k env = (evT c t env).bind fun r => if r.1 = true then ev c a k r.2 else ev c b k r.2 := by simp only [ev]
theorem ev_ix (a b : E) (k : Nat) (env : EnvD) : ev c (.ix a b) k env = fin c (opd2 c a b (ev c a 0) (ev c b 0)) (fun ds => (g2 ixD ds).bind fun d => if k = 0 ∨ isCont d = false then some d else none) env := by simp only [ev]
theorem ev_sl (a : E) (lo hi : Eo) (k : Nat) (env : EnvD) : ev c (.sl a lo hi) k env = (ev c a 0 env).bind fun r => (evO c lo r.2).bind fun l => (evO c hi l.2).bind fun u => (Rs.of ((slD r.1 l.1 u.1).bind (own1 k))).bind fun d => .ok (d, u.2) := by simp only [ev]
theorem ev_isa (t : Ty) (a : E) (k : Nat) (env : EnvD) : ev c (.isa t a) k env = fin c (opd1 c a (ev c a 0)) (g1 (isaD t)) env := by simp only [ev]
theorem ev_bi (b : Bi) (es : Es) (k : Nat) (env : EnvD) : ev c (.bi b es) k env = fin c (evA c es) (fun ds => (bi b ds).bind (own1 k)) env := by simp only [ev]
theorem ev_call_0 (f : Nat) (env : EnvD) : ev c (.call f none .nil) 0 env = (evR c .nil env).bind fun r => (callV c f r.1).bind fun d => .ok (d, r.2) := ev_call0 rfl
theorem ev_call_1 (f : Nat) (a0 : E) (env : EnvD) : ev c (.call f none (.v a0 .nil)) 0 env = (evR c (.v a0 .nil) env).bind fun r => (callV c f r.1).bind fun d => .ok (d, r.2) := ev_call0 rfl
theorem ev_call_2 (f : Nat) (a0 a1 : E) (env : EnvD) : ev c (.call f none (.v a0 (.v a1 .nil))) 0 env = (evR c (.v a0 (.v a1 .nil)) env).bind fun r => (callV c f r.1).bind fun d => .ok (d, r.2) := ev_call0 rfl
theorem ev_call_3 (f : Nat) (a0 a1 a2 : E) (env : EnvD) : ev c (.call f none (.v a0 (.v a1 (.v a2 .nil)))) 0 env = (evR c (.v a0 (.v a1 (.v a2 .nil))) env).bind fun r => (callV c f r.1).bind fun d => .ok (d, r.2) := ev_call0 rfl
theorem ev_call_4 (f : Nat) (a0 a1 a2 a3 : E) (env : EnvD) : ev c (.call f none (.v a0 (.v a1 (.v a2 (.v a3 .nil))))) 0 env = (evR c (.v a0 (.v a1 (.v a2 (.v a3 .nil)))) env).bind fun r => (callV c f r.1).bind fun d => .ok (d, r.2) := ev_call0 rfl
theorem ev_call_5 (f : Nat) (a0 a1 a2 a3 a4 : E) (env : EnvD) : ev c (.call f none (.v a0 (.v a1 (.v a2 (.v a3 (.v a4 .nil)))))) 0 env = (evR c (.v a0 (.v a1 (.v a2 (.v a3 (.v a4 .nil))))) env).bind fun r => (callV c f r.1).bind fun d => .ok (d, r.2) := ev_call0 rfl
theorem ev_call_6 (f : Nat) (a0 a1 a2 a3 a4 a5 : E) (env : EnvD) : ev c (.call f none (.v a0 (.v a1 (.v a2 (.v a3 (.v a4 (.v a5 .nil))))))) 0 env = (evR c (.v a0 (.v a1 (.v a2 (.v a3 (.v a4 (.v a5 .nil)))))) env).bind fun r => (callV c f r.1).bind fun d => .ok (d, r.2) := ev_call0 rfl
end
end Fx
set_option Elab.async false
set_option linter.all false
set_option maxRecDepth 100000
/-! N2: while loops by their turns; Euclid. -/
namespace Fx
open PySem PySem.Spec PyProof.Rows L2
theorem whlN_mono {t : EnvD → Rs (Bool × EnvD)} {b : EnvD → Rs Fl} : ∀ {n m : Nat} {env : EnvD}, n ≤ m → (whlN t b n env).isBad = false → whlN t b m env = whlN t b n env
  | 0, _, _, _, h => by cases h
  | n + 1, 0, _, h, _ => by omega
  | n + 1, m + 1, env, hl, h => by
    simp only [whlN] at h ⊢
    cases ht : t env with
    | ok r =>
      rw [ht] at h
      obtain ⟨c, e⟩ := r
      cases c with
      | false => rfl
      | true =>
        have h : ((b e).bind _ : Rs Fl).isBad = false := h
        show (b e).bind _ = (b e).bind _
        cases hb : b e with
        | ok f =>
          rw [hb] at h
          cases f with
          | nx e' => exact whlN_mono (n := n) (m := m) (by omega) h
          | ct e' => exact whlN_mono (n := n) (m := m) (by omega) h
          | bk e' => rfl
          | rt d e' => rfl
        | ex x => rfl
        | bad => rfl
    | ex x => rfl
    | bad => rfl
theorem whlD_of {t : EnvD → Rs (Bool × EnvD)} {b : EnvD → Rs Fl} {n : Nat} {env : EnvD} {r : Rs Fl} (h : whlN t b n env = r) (hr : r.isBad = false) : whlD t b env = r := by
  have hex : ∃ n, (whlN t b n env).isBad = false := ⟨n, by rw [h]; exact hr⟩
  unfold whlD
  rw [dif_pos hex]
  have hc := hex.choose_spec
  rcases Nat.le_total n hex.choose with hl | hl
  · rw [whlN_mono hl (by rw [h]; exact hr), h]
  · rw [← whlN_mono hl hc, h]
/-! ### Euclid -/
/-- a fraction as the text has it -/
def frac (q : Rat) : PyData := .tuple [.int q.num, .int (q.den : Int)]
/-- how many digits, at most -/
def Sz (k : Nat) (q : Rat) : Prop := q.num.natAbs < 2 ^ k ∧ q.den < 2 ^ k
theorem Sz.le {k l : Nat} {q : Rat} (h : Sz k q) (hl : k ≤ l) : Sz l q := ⟨Nat.lt_of_lt_of_le h.1 (Nat.pow_le_pow_right (by decide) hl), Nat.lt_of_lt_of_le h.2 (Nat.pow_le_pow_right (by decide) hl)⟩
theorem log2_lt {n k : Nat} (hk : 0 < k) (h : n < 2 ^ k) : n.log2 < k := by
  by_cases hn : n = 0
  · subst hn; simpa using hk
  · exact (Nat.log2_lt hn).mpr h
theorem bitsOk_of {a b : Int} {k l : Nat} (h1 : a.natAbs < 2 ^ k) (h2 : b.natAbs < 2 ^ l) (h : k + l ≤ 1000000) : bitsOk a b = true := by
  unfold bitsOk
  have : a.natAbs.log2 ≤ k := by
    by_cases hk : 0 < k
    · exact Nat.le_of_lt (log2_lt hk h1)
    · have : k = 0 := by omega
      subst this
      have : a.natAbs = 0 := by simpa using h1
      rw [this]; decide
  have : b.natAbs.log2 ≤ l := by
    by_cases hk : 0 < l
    · exact Nat.le_of_lt (log2_lt hk h2)
    · have : l = 0 := by omega
      subst this
      have : b.natAbs = 0 := by simpa using h2
      rw [this]; decide
  simp only [Bool.or_eq_true, decide_eq_true_eq]
  right
  omega
/-- Euclid's turns -/
theorem gcd_turn (x y : Nat) (hy : y ≠ 0) : ((x : Int).fmod (y : Int)) = ((x % y : Nat) : Int) := by
  rw [Int.fmod_eq_emod_of_nonneg _ (by omega)]
  rfl
theorem gcd_step (x y : Nat) : Nat.gcd x y = Nat.gcd y (x % y) := by
  rw [Nat.gcd_comm x y, Nat.gcd_rec]
  exact Nat.gcd_comm _ _

abbrev sv0 (d : PyData) : SV := .sv false 0 d
def bGcd : Ss := .cons (.par 0 1 0 0 (.p (.at 1)) (.b2 .mod (.p (.at 0)) (.p (.at 1)))) .nil
theorem turn_gcd (c : Orc) (rk x y : Nat) (hy : y ≠ 0) : exs c rk bGcd [sv0 (.int x), sv0 (.int y)] = .ok (.nx [sv0 (.int y), sv0 (.int (x % y : Nat))]) := by
  have e := gcd_turn x y hy
  have hy' : (y : Int) ≠ 0 := by omega
  simp [bGcd, exs, exS, ev, evPk, evP, slot, opd2, opd, fin, lateE, isP, toP, finO, evPb, g2, Fx.b2, own1, isCont, r_of, r_no, r_ok, r_bad, setS, e, hy, sv0]
theorem test_v1 (c : Orc) (x y : Int) : evT c (.v (.p (.at 1))) [sv0 (.int x), sv0 (.int y)] = .ok (y != 0, [sv0 (.int x), sv0 (.int y)]) := by
  simp [evT, opd1, opd, fin, lateE, toP, finO, evPb, evP, slot, g1, truth, isCont, r_of, r_no, r_ok, r_bad, sv0]
theorem whl_gcd (c : Orc) (rk : Nat) : ∀ (y x : Nat), ∃ n, whlN (evT c (.v (.p (.at 1)))) (exs c rk bGcd) n [sv0 (.int x), sv0 (.int y)] = .ok (.nx [sv0 (.int (Nat.gcd x y : Nat)), sv0 (.int 0)]) := by
  intro y
  induction y using Nat.strongRecOn with
  | _ y ih =>
    intro x
    by_cases hy : y = 0
    · subst hy
      refine ⟨1, ?_⟩
      simp only [whlN, test_v1, r_ok]
      simp
    · obtain ⟨n, hn⟩ := ih (x % y) (Nat.mod_lt _ (by omega)) y
      refine ⟨n + 1, ?_⟩
      have hb : ((y : Int) != 0) = true := by simp [hy]
      simp only [whlN, test_v1, hb, turn_gcd c rk x y hy, r_ok]
      rw [hn, gcd_step x y]
theorem whlD_gcd (c : Orc) (rk x y : Nat) : whlD (evT c (.v (.p (.at 1)))) (exs c rk bGcd) [sv0 (.int x), sv0 (.int y)] = .ok (.nx [sv0 (.int (Nat.gcd x y : Nat)), sv0 (.int 0)]) := by
  obtain ⟨n, hn⟩ := whl_gcd c rk y x
  exact whlD_of hn rfl
/-- Euclid by a for loop with a break -/
def bGcdF : Ss := .cons (.iff (.c2 .eq (.p (.at 1)) (.p (.k (.int 0)))) (.cons .brk .nil) .nil) (.cons (.par 0 1 0 0 (.p (.at 1)) (.b2 .mod (.p (.p1 .int (.at 0))) (.p (.at 1)))) .nil)
theorem turnF_0 (c : Orc) (rk : Nat) (x : Int) (t : SV) : exs c rk bGcdF [sv0 (.int x), sv0 (.int 0), t] = .ok (.bk [sv0 (.int x), sv0 (.int 0), t]) := by
  simp [bGcdF, exs, exS, ev, evT, evPk, evP, slot, opd2, opd, fin, lateE, isP, toP, finO, evPb, g2, c2B, Fx.c2, ii, own1, isCont, r_of, r_no, r_ok, r_bad, setS, sv0]
theorem turnF_1 (c : Orc) (rk x y : Nat) (t : SV) (hy : y ≠ 0) : exs c rk bGcdF [sv0 (.int x), sv0 (.int y), t] = .ok (.nx [sv0 (.int y), sv0 (.int (x % y : Nat)), t]) := by
  have e := gcd_turn x y hy
  have hy' : (y : Int) ≠ 0 := by omega
  simp [bGcdF, exs, exS, ev, evT, evPk, evP, slot, opd2, opd, fin, lateE, isP, toP, finO, evPb, g2, c2B, Fx.c2, ii, Fx.b2, Fx.p1, scal, own1, isCont, r_of, r_no, r_ok, r_bad, setS, e, hy, sv0]
/-- the turns that are left do -/
theorem for_gcd (c : Orc) (rk : Nat) : ∀ (k : Nat) (xs : List PyData) (x y : Nat) (t : SV), (∃ b d, t = .un ∨ t = .sv false b d) → y < 2 ^ k → 2 * k + 1 < xs.length → ∃ t', forL (bindT (.nm 2)) (exs c rk bGcdF) xs [sv0 (.int x), sv0 (.int y), t] = .ok (.nx [sv0 (.int (Nat.gcd x y : Nat)), sv0 (.int 0), t']) := by
  have bind2 : ∀ (z : PyData) (a b t : SV), (∃ b d, t = .un ∨ t = .sv false b d) → bindT (.nm 2) z [a, b, t] = some [a, b, sv0 z] := by
    rintro z a b t ⟨bb, d, rfl | rfl⟩ <;> simp [bindT, setS]
  have done : ∀ (xs : List PyData) (x : Nat) (t : SV), (∃ b d, t = .un ∨ t = .sv false b d) → ∃ t', forL (bindT (.nm 2)) (exs c rk bGcdF) xs [sv0 (.int x), sv0 (.int (0 : Nat)), t] = .ok (.nx [sv0 (.int x), sv0 (.int 0), t']) := by
    intro xs x t ht
    cases xs with
    | nil => exact ⟨t, rfl⟩
    | cons z xs =>
      refine ⟨sv0 z, ?_⟩
      simp only [forL, bind2 z _ _ t ht, r_of, r_ok]
      rw [show ((0 : Nat) : Int) = 0 from rfl, turnF_0]
      rfl
  intro k
  induction k with
  | zero =>
    intro xs x y t ht hy hl
    have : y = 0 := by simpa using hy
    subst this
    rw [Nat.gcd_zero_right]
    exact done xs x t ht
  | succ k ih =>
    intro xs x y t ht hy hl
    by_cases h0 : y = 0
    · subst h0
      rw [Nat.gcd_zero_right]
      exact done xs x t ht
    · match xs, hl with
      | z1 :: z2 :: xs, hl =>
        have step : ∀ (z : PyData) (r : List PyData) (x y : Nat) (t : SV), (∃ b d, t = .un ∨ t = .sv false b d) → y ≠ 0 → forL (bindT (.nm 2)) (exs c rk bGcdF) (z :: r) [sv0 (.int x), sv0 (.int y), t] = forL (bindT (.nm 2)) (exs c rk bGcdF) r [sv0 (.int y), sv0 (.int (x % y : Nat)), sv0 z] := by
          intro z r x y t ht hy
          simp only [forL, bind2 z _ _ t ht, r_of, r_ok]
          rw [turnF_1 c rk x y _ hy]
          rfl
        rw [step z1 _ x y t ht h0, gcd_step x y]
        by_cases h1 : x % y = 0
        · rw [h1, Nat.gcd_zero_right]
          exact done _ y _ ⟨0, z1, .inr rfl⟩
        · rw [step z2 _ y (x % y) _ ⟨0, z1, .inr rfl⟩ h1, gcd_step y (x % y)]
          refine ih xs (x % y) (y % (x % y)) _ ⟨0, z2, .inr rfl⟩ ?_ (by simp at hl; omega)
          -- two turns halve
          have hm : x % y < y := Nat.mod_lt _ (by omega)
          have : y % (x % y) < x % y := Nat.mod_lt _ (by omega)
          have hs : y % (x % y) + (x % y) ≤ y := by
            have := Nat.mod_add_div y (x % y)
            have h2 : 1 ≤ y / (x % y) := (Nat.one_le_div_iff (by omega)).mpr (by omega)
            have h3 := Nat.mul_le_mul_left (x % y) h2
            omega
          have hp : 2 ^ (k + 1) = 2 * 2 ^ k := by rw [Nat.pow_succ]; omega
          omega
end Fx
set_option Elab.async false
set_option linter.all false
set_option maxRecDepth 100000
/-! N3: fractions in lowest terms. -/
namespace Fx
open PySem PySem.Spec PyProof.Rows L2
theorem abs_if (a : Int) : (if a < 0 then -a else a) = (a.natAbs : Int) := by
  split <;> omega
/-- the divisor -/
def bDivisor : Ss := .cons (.par 0 1 0 0 (.p (.p1 .abs (.at 0))) (.p (.p1 .abs (.at 1)))) (.cons (.whl (.v (.p (.at 1))) bGcd) (.cons (.ret (.p (.at 0))) .nil))
theorem divisor_run (c : Orc) (a b : Int) : (exs c 0 bDivisor [sv0 (.int a), sv0 (.int b)]).bind Fl.val = .ok (.int (Int.gcd a b : Nat)) := by
  have e1 : exS c 0 (.par 0 1 0 0 (.p (.p1 .abs (.at 0))) (.p (.p1 .abs (.at 1)))) [sv0 (.int a), sv0 (.int b)] = .ok (.nx [sv0 (.int (a.natAbs : Int)), sv0 (.int (b.natAbs : Int))]) := by
    simp [exS, ev, evPk, evP, slot, Fx.p1, isCont, r_of, r_no, r_ok, r_bad, setS, sv0, abs_if]
  have e2 : exS c 0 (.whl (.v (.p (.at 1))) bGcd) [sv0 (.int (a.natAbs : Int)), sv0 (.int (b.natAbs : Int))] = .ok (.nx [sv0 (.int (Nat.gcd a.natAbs b.natAbs : Nat)), sv0 (.int 0)]) := by
    simp only [exS]
    exact whlD_gcd c 0 a.natAbs b.natAbs
  have e3 : exS c 0 (.ret (.p (.at 0))) [sv0 (.int (Nat.gcd a.natAbs b.natAbs : Nat)), sv0 (.int 0)] = .ok (.rt (.int (Nat.gcd a.natAbs b.natAbs : Nat)) [sv0 (.int (Nat.gcd a.natAbs b.natAbs : Nat)), sv0 (.int 0)]) := by
    simp [exS, ev, evPk, evP, slot, isCont, r_of, r_no, r_ok, r_bad, sv0]
  simp only [bDivisor, exs, e1, e2, e3, r_ok]
  rfl
theorem fdiv_gcd {a b : Int} (hb : b ≠ 0) {s : Int} (hs : (0 < b ∧ s = (Int.gcd a b : Nat)) ∨ (b < 0 ∧ s = -((Int.gcd a b : Nat) : Int))) : a.fdiv s = (Rat.divInt a b).num ∧ b.fdiv s = ((Rat.divInt a b).den : Int) ∧ s ≠ 0 := by
  have hg0 : Int.gcd a b ≠ 0 := by
    intro e
    exact hb (Int.gcd_eq_zero_iff.mp e).2
  have hgp : (0 : Int) < (Int.gcd a b : Nat) := by omega
  obtain ⟨k, hk⟩ := Int.gcd_dvd_left a b
  obtain ⟨l, hl⟩ := Int.gcd_dvd_right a b
  rw [Rat.num_divInt, Rat.den_divInt, if_neg hb, Int.gcd_comm b a]
  generalize hG : ((Int.gcd a b : Nat) : Int) = g at *
  have hgN : (Int.gcd a b) = g.toNat := by omega
  rcases hs with ⟨h1, rfl⟩ | ⟨h1, rfl⟩
  · refine ⟨?_, ?_, by omega⟩
    · rw [Int.sign_eq_one_of_pos h1, Int.one_mul, Int.fdiv_eq_ediv_of_nonneg _ (by omega)]
    · rw [Int.fdiv_eq_ediv_of_nonneg _ (by omega), Int.natCast_ediv, hG]
      congr 1
      omega
  · refine ⟨?_, ?_, by omega⟩
    · rw [Int.sign_eq_neg_one_of_neg h1]
      rw [show (-1 : Int) * a = g * (-k) by rw [hk, Int.mul_neg, Int.neg_mul, Int.one_mul], Int.mul_ediv_cancel_left _ (by omega), show a = (-g) * (-k) by rw [hk, Int.neg_mul_neg], Int.mul_fdiv_cancel_left _ (by omega)]
    · rw [Int.natCast_ediv, hG, show ((b.natAbs : Nat) : Int) = -b by omega]
      rw [show -b = g * (-l) by rw [hl, Int.mul_neg], Int.mul_ediv_cancel_left _ (by omega)]
      have e : b.fdiv (-g) = ((-g) * (-l)).fdiv (-g) := by rw [Int.neg_mul_neg, ← hl]
      rw [e, Int.mul_fdiv_cancel_left _ (by omega)]
theorem gcd_log {a b : Int} {k : Nat} (hk : 0 < k) (hb : b ≠ 0) (h : b.natAbs < 2 ^ k) : (Int.gcd a b).log2 < k := by
  refine log2_lt hk (Nat.lt_of_le_of_lt ?_ h)
  exact Nat.le_of_dvd (by omega) (Nat.gcd_dvd_right _ _)
/-- above, below -> lowest terms; j: the divisor's place -/
def bLowest (j : Nat) : Ss := .cons (.as (.nm 2) 0 (.call j none (.v (.p (.at 0)) (.v (.p (.at 1)) .nil)))) (.cons (.iff (.c2 .lt (.p (.at 1)) (.p (.k (.int 0)))) (.cons (.as (.nm 2) 0 (.p (.p1 .neg (.at 2)))) .nil) .nil)
  (.cons (.ret (.tup (.cons (.b2 .fdiv (.p (.at 0)) (.p (.at 2))) (.cons (.b2 .fdiv (.p (.at 1)) (.p (.at 2))) .nil)))) .nil))
theorem lowest_run (c : Orc) (j : Nat) (hj : ∀ a b : Int, callV c j [.int a, .int b] = .ok (.int (Int.gcd a b : Nat))) (a b : Int) (hb : b ≠ 0) (hs : b.natAbs < 2 ^ 8000) : (exs c 0 (bLowest j) [sv0 (.int a), sv0 (.int b), .un]).bind Fl.val = .ok (frac (Rat.divInt a b)) := by
  have hlog := gcd_log (a := a) (k := 8000) (by decide) hb hs
  by_cases h : b < 0
  · obtain ⟨f1, f2, f3⟩ := fdiv_gcd (a := a) hb (s := -((Int.gcd a b : Nat) : Int)) (.inr ⟨h, rfl⟩)
    have hl : (Int.gcd a b).log2 < 9000 := by omega
    have hz : ¬ (Int.gcd a b = 0) := by omega
    simp [bLowest, exs, exS, ev_call_2, evR, hj, ev_p, ev_tup, ev_b2, evs, evT, evPk, evP, slot, opd2, opd, fin, lateE, isP, toP, finO, evPb, g2, c2B, Fx.c2, ii, Fx.b2, Fx.p1, own1, isCont, r_of, r_no, r_ok, r_bad, setS, sv0, bindT, h, f1, f2, hz, hl, Fl.val, frac]
  · obtain ⟨f1, f2, f3⟩ := fdiv_gcd (a := a) hb (s := ((Int.gcd a b : Nat) : Int)) (.inl ⟨by omega, rfl⟩)
    have hl : (Int.gcd a b).log2 < 9000 := by omega
    have hz : ¬ (Int.gcd a b = 0) := by omega
    simp [bLowest, exs, exS, ev_call_2, evR, hj, ev_p, ev_tup, ev_b2, evs, evT, evPk, evP, slot, opd2, opd, fin, lateE, isP, toP, finO, evPb, g2, c2B, Fx.c2, ii, Fx.b2, Fx.p1, own1, isCont, r_of, r_no, r_ok, r_bad, setS, sv0, bindT, h, f1, f2, hz, hl, Fl.val, frac]
end Fx
set_option Elab.async false
set_option linter.all false
set_option maxRecDepth 100000
/-! N4: the law's own fractions; sums, products. -/
namespace Fx
open PySem PySem.Spec PyProof.Rows L2
/-- Euclid by a for loop -/
def bGcdL : Ss := .cons (.par 0 1 0 0 (.p (.p1 .abs (.at 0))) (.p (.p1 .abs (.at 1)))) (.cons (.for (.nm 2) (.range (.cons (.p (.k (.int 2000))) .nil)) bGcdF) (.cons (.ret (.p (.at 0))) .nil))
theorem gcdL_run (c : Orc) (a b : Int) (hb : b.natAbs < 2 ^ 900) : (exs c 0 bGcdL [sv0 (.int a), sv0 (.int b), .un]).bind Fl.val = .ok (.int (Int.gcd a b : Nat)) := by
  have e1 : exS c 0 (.par 0 1 0 0 (.p (.p1 .abs (.at 0))) (.p (.p1 .abs (.at 1)))) [sv0 (.int a), sv0 (.int b), .un] = .ok (.nx [sv0 (.int (a.natAbs : Int)), sv0 (.int (b.natAbs : Int)), .un]) := by
    simp [exS, ev_p, evPk, evP, slot, Fx.p1, isCont, r_of, r_no, r_ok, r_bad, setS, sv0, abs_if]
  have e0 : ∀ env, evI c (.range (.cons (.p (.k (.int 2000))) .nil)) env = .ok ((List.range 2000).map fun (i : Nat) => PyData.int (i : Int), env) := fun env => by
    simp only [evI, evs, ev_p, evPk, evP, isCont, r_of, r_ok, rangeD]
    rfl
  obtain ⟨t', e2⟩ := for_gcd c 0 900 ((List.range 2000).map fun (i : Nat) => PyData.int (i : Int)) a.natAbs b.natAbs .un ⟨0, .none, .inl rfl⟩ hb (by rw [List.length_map, List.length_range]; decide)
  have e3 : exS c 0 (.ret (.p (.at 0))) [sv0 (.int (Nat.gcd a.natAbs b.natAbs : Nat)), sv0 (.int 0), t'] = .ok (.rt (.int (Nat.gcd a.natAbs b.natAbs : Nat)) [sv0 (.int (Nat.gcd a.natAbs b.natAbs : Nat)), sv0 (.int 0), t']) := by
    simp [exS, ev_p, evPk, evP, slot, isCont, r_of, r_no, r_ok, r_bad, sv0]
  simp only [bGcdL, exs, e1, r_ok]
  simp only [exS, e0, r_ok] at *
  rw [e2]
  simp only [r_ok, e3]
  rfl
/-- lowest terms, the law's way -/
def bFr (j : Nat) : Ss := .cons (.as (.nm 2) 0 (.ite (.c2 .gt (.p (.at 1)) (.p (.k (.int 0)))) (.call j none (.v (.p (.at 0)) (.v (.p (.at 1)) .nil))) (.b2 .sub (.p (.k (.int 0))) (.call j none (.v (.p (.at 0)) (.v (.p (.at 1)) .nil))))))
  (.cons (.ret (.tup (.cons (.b2 .fdiv (.p (.at 0)) (.p (.at 2))) (.cons (.b2 .fdiv (.p (.at 1)) (.p (.at 2))) .nil)))) .nil)
theorem fr_run (c : Orc) (j : Nat) (a b : Int) (hj : callV c j [.int a, .int b] = .ok (.int (Int.gcd a b : Nat))) (hb : b ≠ 0) (hs : b.natAbs < 2 ^ 8000) : (exs c 0 (bFr j) [sv0 (.int a), sv0 (.int b), .un]).bind Fl.val = .ok (frac (Rat.divInt a b)) := by
  have hlog := gcd_log (a := a) (k := 8000) (by decide) hb hs
  have hl : (Int.gcd a b).log2 < 9000 := by omega
  by_cases h : 0 < b
  · obtain ⟨f1, f2, f3⟩ := fdiv_gcd (a := a) hb (s := ((Int.gcd a b : Nat) : Int)) (.inl ⟨h, rfl⟩)
    have hz : ¬ (Int.gcd a b = 0) := by omega
    simp [bFr, exs, exS, ev_call_2, evR, hj, ev_p, ev_tup, ev_b2, ev_ite, evs, evT, evPk, evP, slot, opd2, opd, fin, lateE, isP, toP, finO, evPb, g2, c2B, Fx.c2, ii, Fx.b2, Fx.p1, own1, isCont, r_of, r_no, r_ok, r_bad, setS, sv0, bindT, h, f1, f2, hz, hl, Fl.val, frac]
  · obtain ⟨f1, f2, f3⟩ := fdiv_gcd (a := a) hb (s := -((Int.gcd a b : Nat) : Int)) (.inr ⟨by omega, rfl⟩)
    have hz : ¬ (Int.gcd a b = 0) := by omega
    simp [bFr, exs, exS, ev_call_2, evR, hj, ev_p, ev_tup, ev_b2, ev_ite, evs, evT, evPk, evP, slot, opd2, opd, fin, lateE, isP, toP, finO, evPb, g2, c2B, Fx.c2, ii, Fx.b2, Fx.p1, own1, isCont, r_of, r_no, r_ok, r_bad, setS, sv0, bindT, h, f1, f2, hz, hl, Fl.val, frac]
/-! ### sums, products -/
abbrev pN (i : Nat) : E := .p (.ix (.at i) (.k (.int 0)))
abbrev pD (i : Nat) : E := .p (.ix (.at i) (.k (.int 1)))
def bPlus (j : Nat) : Ss := .cons (.ret (.call j none (.v (.b2 .add (.b2 .mul (pN 0) (pD 1)) (.b2 .mul (pN 1) (pD 0))) (.v (.b2 .mul (pD 0) (pD 1)) .nil)))) .nil
def bMinus (j : Nat) : Ss := .cons (.ret (.call j none (.v (.b2 .sub (.b2 .mul (pN 0) (pD 1)) (.b2 .mul (pN 1) (pD 0))) (.v (.b2 .mul (pD 0) (pD 1)) .nil)))) .nil
def bTimes (j : Nat) : Ss := .cons (.ret (.call j none (.v (.b2 .mul (pN 0) (pN 1)) (.v (.b2 .mul (pD 0) (pD 1)) .nil)))) .nil
def bOver (j : Nat) : Ss := .cons (.ret (.call j none (.v (.b2 .mul (pN 0) (pD 1)) (.v (.b2 .mul (pD 0) (pN 1)) .nil)))) .nil
theorem at0 {α : Type} (x y : α) : L2.atI [x, y] 0 = some x := by simp [L2.atI, L2.ixN]
theorem at1 {α : Type} (x y : α) : L2.atI [x, y] 1 = some y := by simp [L2.atI, L2.ixN]
section
variable (c : Orc) (j : Nat) (p q : Rat) (hp : Sz 400 p) (hq : Sz 400 q)
include hp hq
theorem ok_nd : bitsOk p.num (q.den : Int) = true := bitsOk_of hp.1 (by simpa using hq.2) (by decide)
theorem ok_dn : bitsOk (p.den : Int) q.num = true := bitsOk_of (by simpa using hp.2) hq.1 (by decide)
theorem ok_nn : bitsOk p.num q.num = true := bitsOk_of hp.1 hq.1 (by decide)
theorem ok_dd : bitsOk (p.den : Int) (q.den : Int) = true := bitsOk_of (by simpa using hp.2) (by simpa using hq.2) (by decide)
theorem plus_run : (exs c 0 (bPlus j) [sv0 (frac p), sv0 (frac q)]).bind Fl.val = (callV c j [.int (p.num * q.den + q.num * p.den), .int (p.den * q.den)]) := by
  have h1 := ok_nd p q hp hq
  have h2 := ok_nd q p hq hp
  have h3 := ok_dd p q hp hq
  simp [bPlus, pN, pD, exs, exS, ev_call_2, evR, ev_p, ev_b2, evPk, evP, slot, opd2, opd, fin, lateE, isP, toP, finO, evPb, g2, ixD, at0, at1, Fx.b2, own1, isCont, r_of, r_no, r_ok, r_bad, sv0, frac, h1, h2, h3]
  cases callV c j [.int (p.num * q.den + q.num * p.den), .int (p.den * q.den)] <;> rfl
theorem minus_run : (exs c 0 (bMinus j) [sv0 (frac p), sv0 (frac q)]).bind Fl.val = (callV c j [.int (p.num * q.den - q.num * p.den), .int (p.den * q.den)]) := by
  have h1 := ok_nd p q hp hq
  have h2 := ok_nd q p hq hp
  have h3 := ok_dd p q hp hq
  simp [bMinus, pN, pD, exs, exS, ev_call_2, evR, ev_p, ev_b2, evPk, evP, slot, opd2, opd, fin, lateE, isP, toP, finO, evPb, g2, ixD, at0, at1, Fx.b2, own1, isCont, r_of, r_no, r_ok, r_bad, sv0, frac, h1, h2, h3]
  cases callV c j [.int (p.num * q.den - q.num * p.den), .int (p.den * q.den)] <;> rfl
theorem times_run : (exs c 0 (bTimes j) [sv0 (frac p), sv0 (frac q)]).bind Fl.val = (callV c j [.int (p.num * q.num), .int (p.den * q.den)]) := by
  have h1 := ok_nn p q hp hq
  have h3 := ok_dd p q hp hq
  simp [bTimes, pN, pD, exs, exS, ev_call_2, evR, ev_p, ev_b2, evPk, evP, slot, opd2, opd, fin, lateE, isP, toP, finO, evPb, g2, ixD, at0, at1, Fx.b2, own1, isCont, r_of, r_no, r_ok, r_bad, sv0, frac, h1, h3]
  cases callV c j [.int (p.num * q.num), .int (p.den * q.den)] <;> rfl
theorem over_run : (exs c 0 (bOver j) [sv0 (frac p), sv0 (frac q)]).bind Fl.val = (callV c j [.int (p.num * q.den), .int (p.den * q.num)]) := by
  have h1 := ok_nd p q hp hq
  have h3 := ok_dn p q hp hq
  simp [bOver, pN, pD, exs, exS, ev_call_2, evR, ev_p, ev_b2, evPk, evP, slot, opd2, opd, fin, lateE, isP, toP, finO, evPb, g2, ixD, at0, at1, Fx.b2, own1, isCont, r_of, r_no, r_ok, r_bad, sv0, frac, h1, h3]
  cases callV c j [.int (p.num * q.den), .int (p.den * q.num)] <;> rfl
end
end Fx
set_option Elab.async false
set_option linter.all false
set_option maxRecDepth 100000
/-! N5: the four operations as they are. -/
namespace Fx
open PySem PySem.Spec PyProof.Rows L2
/-- the def j brings to lowest terms -/
def FrAt (c : Orc) (j : Nat) : Prop := ∀ a b : Int, b ≠ 0 → b.natAbs < 2 ^ 900 → callV c j [.int a, .int b] = .ok (frac (Rat.divInt a b))
theorem Sz.den_pos {k : Nat} {q : Rat} (_ : Sz k q) : (q.den : Int) ≠ 0 := by have := q.den_nz; omega
theorem mul_lt {a b k l : Nat} (h1 : a < 2 ^ k) (h2 : b < 2 ^ l) : a * b < 2 ^ (k + l) := by
  rw [Nat.pow_add]
  exact Nat.mul_lt_mul'' h1 h2
theorem plus_eq (p q : Rat) : Rat.divInt (p.num * q.den + q.num * p.den) (p.den * q.den) = p + q := by
  rw [Rat.add_def', ← Rat.divInt_ofNat]; rfl
theorem minus_eq (p q : Rat) : Rat.divInt (p.num * q.den - q.num * p.den) (p.den * q.den) = p - q := by
  rw [Rat.sub_def', ← Rat.divInt_ofNat]; rfl
theorem times_eq (p q : Rat) : Rat.divInt (p.num * q.num) (p.den * q.den) = p * q := by
  rw [Rat.mul_def', ← Rat.divInt_ofNat]; rfl
theorem over_eq (p q : Rat) : Rat.divInt (p.num * q.den) (p.den * q.num) = p / q := by
  rw [Rat.div_def, Rat.inv_def]
  conv => rhs; rw [← Rat.num_divInt_den p]
  rw [Rat.divInt_mul_divInt]
section
variable {c : Orc} {j : Nat} {p q : Rat} (hj : FrAt c j) (hp : Sz 400 p) (hq : Sz 400 q)
include hj hp hq
theorem den_ok : ((p.den : Int) * q.den) ≠ 0 ∧ ((p.den : Int) * q.den).natAbs < 2 ^ 900 := by
  refine ⟨Int.mul_ne_zero hp.den_pos hq.den_pos, ?_⟩
  rw [Int.natAbs_mul]
  exact Nat.lt_of_lt_of_le (mul_lt (by simpa using hp.2) (by simpa using hq.2)) (Nat.pow_le_pow_right (by decide) (by decide))
theorem plus_ok : (exs c 0 (bPlus j) [sv0 (frac p), sv0 (frac q)]).bind Fl.val = .ok (frac (p + q)) := by
  obtain ⟨h1, h2⟩ := den_ok hj hp hq
  rw [plus_run c j p q hp hq, hj _ _ h1 h2, plus_eq]
theorem minus_ok : (exs c 0 (bMinus j) [sv0 (frac p), sv0 (frac q)]).bind Fl.val = .ok (frac (p - q)) := by
  obtain ⟨h1, h2⟩ := den_ok hj hp hq
  rw [minus_run c j p q hp hq, hj _ _ h1 h2, minus_eq]
theorem times_ok : (exs c 0 (bTimes j) [sv0 (frac p), sv0 (frac q)]).bind Fl.val = .ok (frac (p * q)) := by
  obtain ⟨h1, h2⟩ := den_ok hj hp hq
  rw [times_run c j p q hp hq, hj _ _ h1 h2, times_eq]
theorem over_ok (hz : q ≠ 0) : (exs c 0 (bOver j) [sv0 (frac p), sv0 (frac q)]).bind Fl.val = .ok (frac (p / q)) := by
  have hn : q.num ≠ 0 := fun e => hz (Rat.num_eq_zero.mp e)
  have h1 : (p.den : Int) * q.num ≠ 0 := Int.mul_ne_zero hp.den_pos hn
  have h2 : ((p.den : Int) * q.num).natAbs < 2 ^ 900 := by
    rw [Int.natAbs_mul]
    exact Nat.lt_of_lt_of_le (mul_lt (by simpa using hp.2) hq.1) (Nat.pow_le_pow_right (by decide) (by decide))
  rw [over_run c j p q hp hq, hj _ _ h1 h2, over_eq]
end
/-! ### sizes -/
theorem divInt_sz {a b : Int} {k : Nat} (hb : b ≠ 0) (h1 : a.natAbs < 2 ^ k) (h2 : b.natAbs < 2 ^ k) : Sz k (Rat.divInt a b) := by
  constructor
  · rw [Rat.num_divInt]
    refine Nat.lt_of_le_of_lt ?_ h1
    rw [Int.natAbs_ediv_of_dvd]
    · refine Nat.le_trans (Nat.div_le_self _ _) ?_
      rw [Int.natAbs_mul]
      have : b.sign.natAbs = 1 := by
        rcases Int.lt_trichotomy b 0 with h | h | h
        · rw [Int.sign_eq_neg_one_of_neg h]; rfl
        · exact absurd h hb
        · rw [Int.sign_eq_one_of_pos h]; rfl
      rw [this]; omega
    · exact Int.dvd_mul_of_dvd_right (Int.gcd_dvd_right _ _)
  · rw [Rat.den_divInt, if_neg hb]
    exact Nat.lt_of_le_of_lt (Nat.div_le_self _ _) h2
theorem add_sz {p q : Rat} {k l : Nat} (hp : Sz k p) (hq : Sz l q) : Sz (k + l + 1) (p + q) := by
  rw [← plus_eq]
  have a1 := mul_lt hp.1 hq.2
  have a2 := mul_lt hq.1 hp.2
  have a3 := mul_lt hp.2 hq.2
  have e : 2 ^ (k + l + 1) = 2 * 2 ^ (k + l) := by rw [Nat.pow_succ]; omega
  rw [Nat.add_comm l k] at a2
  refine divInt_sz (Int.mul_ne_zero hp.den_pos hq.den_pos) ?_ ?_
  · refine Nat.lt_of_le_of_lt (Int.natAbs_add_le _ _) ?_
    rw [Int.natAbs_mul, Int.natAbs_mul, Int.natAbs_natCast, Int.natAbs_natCast]
    omega
  · rw [Int.natAbs_mul, Int.natAbs_natCast, Int.natAbs_natCast]
    omega
theorem mul_sz {p q : Rat} {k l : Nat} (hp : Sz k p) (hq : Sz l q) : Sz (k + l) (p * q) := by
  rw [← times_eq]
  refine divInt_sz (Int.mul_ne_zero hp.den_pos hq.den_pos) ?_ ?_
  · rw [Int.natAbs_mul]; exact mul_lt hp.1 hq.1
  · rw [Int.natAbs_mul, Int.natAbs_natCast, Int.natAbs_natCast]; exact mul_lt hp.2 hq.2
end Fx
set_option Elab.async false
set_option linter.all false
set_option maxRecDepth 100000
/-! N6: fractions compared. -/
namespace Fx
open PySem PySem.Spec PyProof.Rows L2
theorem frac_ok (q : Rat) : eqOk (frac q) = true := by
  simp [eqOk, frac, SeqAt.shaped, PyData.canLay0, PyData.canLayAll0, PyData.plain, PyData.plainAll, PyData.depth, PyData.depthAll]
theorem frac_eqv (p q : Rat) : PyData.eqv (frac p) (frac q) = decide (p = q) := by
  have e : (p = q) ↔ (p.num = q.num ∧ (p.den : Int) = (q.den : Int)) := by
    constructor
    · rintro rfl; exact ⟨rfl, rfl⟩
    · rintro ⟨h1, h2⟩; exact Rat.ext h1 (by omega)
  have e2 : PyData.eqv (frac p) (frac q) = ((p.num == q.num) && (((p.den : Int) == (q.den : Int)) && true)) := by simp [frac, PyData.eqv, PyData.eqvAll]
  rw [e2, Bool.and_true]
  by_cases h : p = q
  · subst h; simp
  · rw [decide_eq_false h]
    have h' : ¬ (p.num = q.num ∧ (p.den : Int) = (q.den : Int)) := fun z => h (e.mpr z)
    cases h1 : (p.num == q.num) with
    | false => rfl
    | true =>
      cases h2 : ((p.den : Int) == (q.den : Int)) with
      | false => rfl
      | true => exact absurd ⟨beq_iff_eq.mp h1, beq_iff_eq.mp h2⟩ h'
theorem c2_eq (p q : Rat) : Fx.c2 .eq (frac p) (frac q) = some (decide (p = q)) := by
  have h : Fx.c2 .eq (frac p) (frac q) = if eqOk (frac p) = true ∧ eqOk (frac q) = true then some (PyData.eqv (frac p) (frac q)) else none := rfl
  rw [h, if_pos ⟨frac_ok p, frac_ok q⟩, frac_eqv]
theorem c2_ne (p q : Rat) : Fx.c2 .ne (frac p) (frac q) = some (!decide (p = q)) := by
  have h : Fx.c2 .ne (frac p) (frac q) = if eqOk (frac p) = true ∧ eqOk (frac q) = true then some (!PyData.eqv (frac p) (frac q)) else none := rfl
  rw [h, if_pos ⟨frac_ok p, frac_ok q⟩, frac_eqv]
theorem frac0 : frac 0 = .tuple [.int 0, .int 1] := rfl
theorem frac1 : frac 1 = .tuple [.int 1, .int 1] := rfl
theorem frac_cont (q : Rat) : isCont (frac q) = false := rfl
end Fx
set_option Elab.async false
set_option linter.all false
set_option maxRecDepth 100000
/-! N7: comprehensions that map and choose. -/
namespace Fx
open PySem PySem.Spec PyProof.Rows L2
theorem lcL_map {bind : PyData → EnvD → Option EnvD} {own : List Nat} {t : EnvD → Rs (Bool × EnvD)} {f : EnvD → Rs (PyData × EnvD)} {env : EnvD} {p : PyData → Bool} {g : PyData → PyData} : ∀ {xs : List PyData},
    (∀ x ∈ xs, ∃ e1 e2, bind x env = some e1 ∧ t e1 = .ok (p x, e2) ∧ (p x = false → wipeD e2 own = env) ∧ (p x = true → ∃ e3, f e2 = .ok (g x, e3) ∧ wipeD e3 own = env)) → lcL bind own t f xs env = .ok ((xs.filter p).map g, env)
  | [], _ => rfl
  | x :: xs, h => by
    have ih := lcL_map (xs := xs) (bind := bind) (own := own) (t := t) (f := f) (env := env) (p := p) (g := g) fun y hy => h y (List.mem_cons_of_mem _ hy)
    obtain ⟨e1, e2, h1, h2, h3, h4⟩ := h x (List.mem_cons_self ..)
    simp only [lcL, h1, r_of, r_ok, h2, Rs.noEx]
    cases hp : p x with
    | false =>
      rw [List.filter_cons_of_neg (by simp [hp])]
      show lcL bind own t f xs (wipeD e2 own) = _
      rw [h3 hp, ih]
    | true =>
      obtain ⟨e3, h5, h6⟩ := h4 hp
      rw [List.filter_cons_of_pos (by simp [hp])]
      show (f e2).noEx.bind _ = _
      rw [h5]
      show (lcL bind own t f xs (wipeD e3 own)).bind _ = _
      rw [h6, ih]
      rfl
/-- a comprehension, its parts known -/
theorem ev_lc {c : Orc} {own : List Nat} {tg : Tg} {it : It} {ts : Tts} {e : E} {k : Nat} {env : EnvD} {xs : List PyData} {p : PyData → Bool} {g : PyData → PyData} (h0 : ownOk env own = true) (hi : evI c it env = .ok (xs, env)) (hl : xs.length ≤ 16777216)
    (h : ∀ x ∈ xs, ∃ e1 e2, bindT tg x (wipeD env own) = some e1 ∧ evTs c ts e1 = .ok (p x, e2) ∧ (p x = false → wipeD e2 own = wipeD env own) ∧ (p x = true → ∃ e3, ev c e (k - 1) e2 = .ok (g x, e3) ∧ wipeD e3 own = wipeD env own)) (hb : backD env (wipeD env own) own = env) :
    ev c (.lc own tg it ts e) k env = .ok (.list ((xs.filter p).map g), env) := by
  simp only [ev]
  rw [if_neg (by rw [h0]; simp), hi, r_ok]
  dsimp only
  rw [if_neg (by rw [h0]; simp), lcL_map h, r_ok]
  dsimp only
  rw [if_pos (by
    rw [List.length_map]
    exact Nat.le_trans (List.length_filter_le _ _) hl), hb]
theorem ev_lcA {c : Orc} {own : List Nat} {tg : Tg} {it : It} {e : E} {k : Nat} {env : EnvD} {xs : List PyData} {g : PyData → PyData} (h0 : ownOk env own = true) (hi : evI c it env = .ok (xs, env)) (hl : xs.length ≤ 16777216)
    (h : ∀ x ∈ xs, ∃ e1 e3, bindT tg x (wipeD env own) = some e1 ∧ ev c e (k - 1) e1 = .ok (g x, e3) ∧ wipeD e3 own = wipeD env own) (hb : backD env (wipeD env own) own = env) :
    ev c (.lc own tg it .nil e) k env = .ok (.list (xs.map g), env) := by
  have := ev_lc (c := c) (own := own) (tg := tg) (it := it) (ts := .nil) (e := e) (k := k) (env := env) (xs := xs) (p := fun _ => true) (g := g) h0 hi hl (fun x hx => by
    obtain ⟨e1, e3, h1, h2, h3⟩ := h x hx
    exact ⟨e1, e1, h1, by simp only [evTs], fun z => (by cases z), fun _ => ⟨e3, h2, h3⟩⟩) hb
  rw [this, List.filter_eq_self.mpr (fun _ _ => rfl)]
end Fx
set_option Elab.async false
set_option linter.all false
set_option maxRecDepth 100000
/-! N8: more rows of the reckoning. -/
namespace Fx
open PySem PySem.Spec PyProof.Rows L2
section
variable (c : Orc)
theorem ev_mu0 (m : Mu) (i ke : Nat) (es : Es) (k : Nat) (env : EnvD) : ev c (.mu m i [] ke es) k env = if isListS env i = true then (evs c es ke env).bind fun r => (Rs.of (alterS c r.2 i (ke + 1) [] (muF m r.1))).bind fun z => if isCont z.1 = false ∨ k = ke then .ok z else .bad else .bad := by simp only [ev]
theorem for_range1 {rk : Nat} {tg : Tg} {b : Ss} {p : P} {env : EnvD} {n : Int} {xs : List PyData} (h1 : evPk c p 0 env = some (.int n, env)) (h2 : rangeD [.int n] = some xs) : exS c rk (.for tg (.range (.cons (.p p) .nil)) b) env = forL (bindT tg) (exs c rk b) xs env := by
  simp only [exS, evI, evs, ev_p, h1, r_of, r_ok, h2]
theorem for_range2 {rk : Nat} {tg : Tg} {b : Ss} {p q : P} {env : EnvD} {n n' : Int} {xs : List PyData} (h1 : evPk c p 0 env = some (.int n, env)) (h1' : evPk c q 0 env = some (.int n', env)) (h2 : rangeD [.int n, .int n'] = some xs) : exS c rk (.for tg (.range (.cons (.p p) (.cons (.p q) .nil))) b) env = forL (bindT tg) (exs c rk b) xs env := by
  simp only [exS, evI, evs, ev_p, h1, h1', r_of, r_ok, h2]
end
theorem len_range (n : Nat) (hl : n ≤ 100000000) : rangeD [.int (n : Int)] = some ((List.range n).map fun (k : Nat) => PyData.int (k : Int)) := by
  simp only [rangeD]
  rw [if_pos ⟨by omega, by omega⟩, Int.toNat_natCast]
end Fx
set_option Elab.async false
set_option linter.all false
set_option maxRecDepth 100000
/-! N9: calls that lend. -/
namespace Fx
open PySem PySem.Spec PyProof.Rows L2
/-- the first argument is lent, the second a value -/
theorem ev_callL1 {c : Orc} {f i : Nat} {a : E} {env : EnvD} {l : Bool} {k : Nat} {d v r d' : PyData} {k' : Nat} {x : SV} (h0 : env[i]? = some (.sv l k d)) (ha : ev c a 0 env = .ok (v, env))
    (hf : c.fn f [.sv true k d, .sv false 0 v] = .ok (r, [.sv true k' d', x])) : ev c (.call f none (.l i (.v a .nil))) 0 env = .ok (r, env.set i (.sv l k' d')) := by
  have hs : slot env i = some (k, d) := by simp [slot, h0]
  simp only [ev, evR, hs, Option.isSome_some, if_true, ha, r_ok]
  unfold callD
  rw [if_pos (by simp [lents])]
  simp only [lents, argSV, h0, Option.map_some, Option.bind_some, permD, r_of, r_ok, hf]
  rw [if_pos (.inr (.inl trivial))]
  simp only [lentBack, h0]
theorem ev_muP (c : Orc) (m : Mu) (i ke : Nat) (p : P) (ps : List P) (es : Es) (k : Nat) (env : EnvD) : ev c (.mu m i (p :: ps) ke es) k env = (match pathR c env (p :: ps), env[i]? with
      | some js, some (.sv l k0 d) => if pathOk js k0 ke d = true then (evs c es ke (env.set i .un)).bind fun r => (Rs.of (alterAt r.2 i l k0 d (ke + 1) js (muF m r.1))).bind fun z => if isCont z.1 = false ∨ k = ke then .ok z else .bad else .bad
      | _, _ => .bad) := by
  simp only [ev]
  all_goals rfl
theorem fn_eq {p : Prg} {m i : Nat} {D : Def} {as : List SV} (hD : p.defs[i]? = some D) (hl : lentOk D.F.lo as = true) : (p.orc (m + 1)).fn i as = (exs (p.orc m) D.F.ret D.F.body (as ++ List.replicate (D.F.n - as.length) .un)).bind fun r => match r with
          | .rt d e => .ok (d, finD e D.F.np)
          | .nx e => .ok (.none, finD e D.F.np)
          | _ => .bad := callN_eq hD hl
theorem exs_nx {c : Orc} {rk : Nat} {s : S} {ss : Ss} {e e' : EnvD} (h : exS c rk s e = .ok (.nx e')) : exs c rk (.cons s ss) e = exs c rk ss e' := by
  simp only [exs, h, r_ok]
theorem exs_rt {c : Orc} {rk : Nat} {s : S} {ss : Ss} {e e' : EnvD} {d : PyData} (h : exS c rk s e = .ok (.rt d e')) : exs c rk (.cons s ss) e = .ok (.rt d e') := by
  simp only [exs, h, r_ok]
def FreeS (s : SV) : Prop := s = .un ∨ ∃ k d, s = .sv false k d
theorem setS_free {env : EnvD} {i : Nat} {s : SV} {k : Nat} {d : PyData} (h : env[i]? = some s) (hf : FreeS s) : setS env i k d = some (env.set i (.sv false k d)) := by
  rcases hf with rfl | ⟨k', d', rfl⟩ <;> simp [setS, h]
theorem as_ok {c : Orc} {rk i k : Nat} {e : E} {env env' : EnvD} {d : PyData} {s : SV} (he : ev c e k env = .ok (d, env')) (h : env'[i]? = some s) (hf : FreeS s) : exS c rk (.as (.nm i) k e) env = .ok (.nx (env'.set i (.sv false k d))) := by
  simp only [exS, he, r_ok, setS_free h hf, r_of]
theorem bindT2 {i j : Nat} {x y : PyData} {env : EnvD} {s s' : SV} (h : env[i]? = some s) (hf : FreeS s) (h' : (env.set i (.sv false 0 x))[j]? = some s') (hf' : FreeS s') : bindT (.tp (.cons (.nm i) (.cons (.nm j) .nil))) (.tuple [x, y]) env = some ((env.set i (.sv false 0 x)).set j (.sv false 0 y)) := by
  simp [bindT, bindTs, setS_free h hf, setS_free h' hf']
/-- a call with one argument by its name -/
theorem ev_callKw1 (c : Orc) (f : Nat) (a : E) (env : EnvD) : ev c (.call f (some [0]) (.v a .nil)) 0 env = ev c (.call f none (.v a .nil)) 0 env := by
  simp only [ev, evR]
  cases ev c a 0 env with
  | ok r => simp [r_ok, callD, lents, argSV, permD, r_of]
  | ex x => rfl
  | bad => rfl
theorem lcL_mapM {α : Type} {bind : PyData → EnvD → Option EnvD} {own : List Nat} {t : EnvD → Rs (Bool × EnvD)} {f : EnvD → Rs (PyData × EnvD)} {env : EnvD} {p : α → Bool} {φ γ : α → PyData} : ∀ {xs : List α},
    (∀ x ∈ xs, ∃ e1 e2, bind (φ x) env = some e1 ∧ t e1 = .ok (p x, e2) ∧ (p x = false → wipeD e2 own = env) ∧ (p x = true → ∃ e3, f e2 = .ok (γ x, e3) ∧ wipeD e3 own = env)) → lcL bind own t f (xs.map φ) env = .ok ((xs.filter p).map γ, env)
  | [], _ => rfl
  | x :: xs, h => by
    have ih := lcL_mapM (xs := xs) (bind := bind) (own := own) (t := t) (f := f) (env := env) (p := p) (φ := φ) (γ := γ) fun y hy => h y (List.mem_cons_of_mem _ hy)
    obtain ⟨e1, e2, h1, h2, h3, h4⟩ := h x (List.mem_cons_self ..)
    simp only [List.map_cons, lcL, h1, r_of, r_ok, h2, Rs.noEx]
    cases hp : p x with
    | false =>
      rw [List.filter_cons_of_neg (by simp [hp])]
      show lcL bind own t f (xs.map φ) (wipeD e2 own) = _
      rw [h3 hp, ih]
    | true =>
      obtain ⟨e3, h5, h6⟩ := h4 hp
      rw [List.filter_cons_of_pos (by simp [hp])]
      show (f e2).noEx.bind _ = _
      rw [h5]
      show (lcL bind own t f (xs.map φ) (wipeD e3 own)).bind _ = _
      rw [h6, ih]
      rfl
/-- a comprehension that chooses and maps, over things known by a list of one's own -/
theorem ev_lcM {α : Type} {c : Orc} {own : List Nat} {tg : Tg} {it : It} {ts : Tts} {e : E} {k : Nat} {env : EnvD} (xs : List α) (p : α → Bool) (φ γ : α → PyData) (h0 : ownOk env own = true) (hi : evI c it env = .ok (xs.map φ, env)) (hl : xs.length ≤ 16777216)
    (h : ∀ x ∈ xs, ∃ e1 e2, bindT tg (φ x) (wipeD env own) = some e1 ∧ evTs c ts e1 = .ok (p x, e2) ∧ (p x = false → wipeD e2 own = wipeD env own) ∧ (p x = true → ∃ e3, ev c e (k - 1) e2 = .ok (γ x, e3) ∧ wipeD e3 own = wipeD env own)) (hb : backD env (wipeD env own) own = env) :
    ev c (.lc own tg it ts e) k env = .ok (.list ((xs.filter p).map γ), env) := by
  simp only [ev]
  rw [if_neg (by rw [h0]; simp), hi, r_ok]
  dsimp only
  rw [if_neg (by rw [h0]; simp), lcL_mapM h, r_ok]
  dsimp only
  rw [if_pos (by
    rw [List.length_map]
    exact Nat.le_trans (List.length_filter_le _ _) hl), hb]
theorem ev_lcMA {α : Type} {c : Orc} {own : List Nat} {tg : Tg} {it : It} {e : E} {k : Nat} {env : EnvD} (xs : List α) (φ γ : α → PyData) (h0 : ownOk env own = true) (hi : evI c it env = .ok (xs.map φ, env)) (hl : xs.length ≤ 16777216)
    (h : ∀ x ∈ xs, ∃ e1 e3, bindT tg (φ x) (wipeD env own) = some e1 ∧ ev c e (k - 1) e1 = .ok (γ x, e3) ∧ wipeD e3 own = wipeD env own) (hb : backD env (wipeD env own) own = env) :
    ev c (.lc own tg it .nil e) k env = .ok (.list (xs.map γ), env) := by
  have := ev_lcM (c := c) (own := own) (tg := tg) (it := it) (ts := .nil) (e := e) (k := k) (env := env) xs (fun _ => true) φ γ h0 hi hl (fun x hx => by
    obtain ⟨e1, e3, h1, h2, h3⟩ := h x hx
    exact ⟨e1, e1, h1, by simp only [evTs], fun z => (by cases z), fun _ => ⟨e3, h2, h3⟩⟩) hb
  rw [this, List.filter_eq_self.mpr (fun _ _ => rfl)]
end Fx
set_option Elab.async false
set_option linter.all false
set_option maxRecDepth 100000
/-! N10: the laws' tape of draws, a dict of six. -/
namespace Fx
open PySem PySem.Spec PyProof.Rows L2
theorem bits_r {a b : Int} (h : b.natAbs.log2 < 64) : bitsOk a b = true := by
  unfold bitsOk
  rw [decide_eq_true h, Bool.or_true, Bool.true_or]
theorem bits_l {a b : Int} (h : a.natAbs.log2 < 64) : bitsOk a b = true := by
  unfold bitsOk
  rw [decide_eq_true h, Bool.true_or, Bool.true_or]
def bMixed : Ss :=
 (.cons (.as (.nm 2) 0 (.b2 .mod (.p (.p1 .int (.b2 .add (.b2 .add (.b2 .mul (.at 0) (.k (.int 48271))) (.b2 .mul (.at 1) (.k (.int 69621)))) (.k (.int 11))))) (.p (.k (.int 2147483647))))) (.cons (.as (.nm 3) 0 (.b2 .mod (.p (.p1 .int (.b2 .add (.b2 .add (.b2 .mul (.at 2) (.k (.int 16807))) (.b2 .fdiv (.at 2) (.k (.int 127773)))) (.b2 .mul (.at 1) (.k (.int 271)))))) (.p (.k (.int 1000003))))) (.cons (.ret (.b2 .mod (.p (.p1 .int (.b2 .add (.b2 .mul (.at 3) (.at 3)) (.b2 .fdiv (.at 2) (.k (.int 1009)))))) (.p (.k (.int 999983))))) .nil)))
theorem small_log {n : Int} {k : Nat} (h0 : 0 ≤ n) (h : n < 2 ^ k) (hk : 0 < k) : n.natAbs.log2 < k := log2_lt hk (by
  have : ((n.natAbs : Nat) : Int) < ((2 ^ k : Nat) : Int) := by push_cast; omega
  exact Int.ofNat_lt.mp this)
def mix1 (a b : Int) : Int := (a * 48271 + b * 69621 + 11).fmod 2147483647
def mix2 (a b : Int) : Int := (mix1 a b * 16807 + (mix1 a b).fdiv 127773 + b * 271).fmod 1000003
def mixI (a b : Int) : Int := (mix2 a b * mix2 a b + (mix1 a b).fdiv 1009).fmod 999983
theorem mixI_nn (a b : Int) : 0 ≤ mixI a b := by
  unfold mixI
  rw [Int.fmod_eq_emod_of_nonneg _ (by decide)]
  omega
theorem mixed_run (c : Orc) (a b : Int) : (exs c 0 bMixed [sv0 (.int a), sv0 (.int b), .un, .un]).bind Fl.val = .ok (.int (mixI a b)) := by
  have h1 : ∀ x, bitsOk x 48271 = true := fun x => bits_r (by decide)
  have h2 : ∀ x, bitsOk x 69621 = true := fun x => bits_r (by decide)
  have h3 : ∀ x, bitsOk x 16807 = true := fun x => bits_r (by decide)
  have h4 : ∀ x, bitsOk x 271 = true := fun x => bits_r (by decide)
  have h5 : ∀ x : Int, bitsOk (x.fmod 1000003) (x.fmod 1000003) = true := fun x => by
    have e : x.fmod 1000003 = x % 1000003 := Int.fmod_eq_emod_of_nonneg _ (by decide)
    refine bits_r (small_log (k := 64) ?_ ?_ (by decide))
    · rw [e]; omega
    · rw [e]; omega
  have l1 : Nat.log2 127773 < 9000 := by decide
  have l2 : Nat.log2 1009 < 9000 := by decide
  simp [bMixed, exs, exS, ev_p, ev_b2, evPk, evP, slot, opd2, opd, fin, lateE, isP, toP, finO, evPb, g2, scal, Fx.p1, Fx.b2, own1, isCont, r_of, r_no, r_ok, r_bad, setS, sv0, h1, h2, h3, h4, h5, l1, l2, Fl.val, mixI, mix1, mix2]
structure Tape where
  cells : List Int
  at' : Int
  great : Int
  left : Int
  seed : Int
  turn : Int
def tapeD (T : Tape) : PyData := .dict [(.str "cells", .list (T.cells.map .int)), (.str "at", .int T.at'), (.str "great", .int T.great), (.str "left", .int T.left), (.str "seed", .int T.seed), (.str "turn", .int T.turn)]
theorem tape_cells (T : Tape) : ixD (tapeD T) (.str "cells") = some (.list (T.cells.map .int)) := rfl
theorem tape_at (T : Tape) : ixD (tapeD T) (.str "at") = some (.int T.at') := rfl
theorem tape_great (T : Tape) : ixD (tapeD T) (.str "great") = some (.int T.great) := rfl
theorem tape_left (T : Tape) : ixD (tapeD T) (.str "left") = some (.int T.left) := rfl
theorem tape_seed (T : Tape) : ixD (tapeD T) (.str "seed") = some (.int T.seed) := rfl
theorem tape_turn (T : Tape) : ixD (tapeD T) (.str "turn") = some (.int T.turn) := rfl
theorem ix_lst (xs : List PyData) (i : Int) : ixD (.list xs) (.int i) = L2.atI xs i := rfl
theorem ix_tupl (xs : List PyData) (i : Int) : ixD (.tuple xs) (.int i) = L2.atI xs i := rfl
theorem tape_cont (T : Tape) : isCont (tapeD T) = true := rfl
theorem put_at (T : Tape) (v : Int) (l : Bool) (a : SV) (r : EnvD) : dputS (.sv l 1 (tapeD T) :: r) 0 0 (.str "at") (.int v) = some (.sv l 1 (tapeD { T with at' := v }) :: r) := rfl
theorem put_great (T : Tape) (v : Int) (l : Bool) (r : EnvD) : dputS (.sv l 1 (tapeD T) :: r) 0 0 (.str "great") (.int v) = some (.sv l 1 (tapeD { T with great := v }) :: r) := rfl
theorem put_left (T : Tape) (v : Int) (l : Bool) (r : EnvD) : dputS (.sv l 1 (tapeD T) :: r) 0 0 (.str "left") (.int v) = some (.sv l 1 (tapeD { T with left := v }) :: r) := rfl
theorem put_seed (T : Tape) (v : Int) (l : Bool) (r : EnvD) : dputS (.sv l 1 (tapeD T) :: r) 0 0 (.str "seed") (.int v) = some (.sv l 1 (tapeD { T with seed := v }) :: r) := rfl
theorem put_turn (T : Tape) (v : Int) (l : Bool) (r : EnvD) : dputS (.sv l 1 (tapeD T) :: r) 0 0 (.str "turn") (.int v) = some (.sv l 1 (tapeD { T with turn := v }) :: r) := rfl

/-- a slot that may be set -/
abbrev tS0 (l : Bool) (T : Tape) : SV := .sv l 1 (tapeD T)
abbrev tK (x : Str) : P := .ix (.at 0) (.k (.str x))
def sTurn : S := .dput 0 (.k (.str "turn")) 0 (.b2 .add (.p (tK "turn")) (.p (.k (.int 1))))
def bCell (j : Nat) : Ss := (.cons (.as (.nm 3) 0 (.p (.ix (tK "cells") (tK "at")))) (.cons (.dput 0 (.k (.str "at")) 0 (.b2 .add (.p (tK "at")) (.p (.k (.int 1))))) (.cons (.dput 0 (.k (.str "seed")) 0 (.call j none (.v (.b2 .add (.p (tK "seed")) (.p (.at 3))) (.v (.p (tK "at")) .nil)))) (.cons (.dput 0 (.k (.str "left")) 0 (.p (.k (.int 4)))) (.cons (.iff (.c2 .ge (.p (.at 3)) (.b2 .pow (.p (.k (.int 10))) (.p (.k (.int 18)))))
  (.cons (.dput 0 (.k (.str "great")) 0 (.p (.at 3))) (.cons (.dput 0 (.k (.str "left")) 0 (.p (.k (.int 60)))) .nil))
  .nil) .nil)))))
def sCell (j : Nat) : S := .iff (.and (.c2 .eq (.p (tK "left")) (.p (.k (.int 0)))) (.c2 .lt (.p (tK "at")) (.p (.p1 .len (tK "cells"))))) (bCell j) .nil
def sLeft : S := .iff (.c2 .gt (.p (tK "left")) (.p (.k (.int 0)))) (.cons (.dput 0 (.k (.str "left")) 0 (.b2 .sub (.p (tK "left")) (.p (.k (.int 1))))) .nil) .nil
def sSmall (j : Nat) : S := .iff (.c2 .eq (.p (tK "great")) (.p (.k (.int 0)))) (.cons (.ret (.b2 .mod (.bi .int (.cons (.call j none (.v (.p (tK "seed")) (.v (.p (tK "turn")) .nil))) .nil)) (.p (.at 1)))) .nil) .nil
def sDig : S := .as (.nm 2) 0 (.b2 .mod (.p (.p1 .int (tK "great"))) (.p (.k (.int 1009))))
def sGreat : S := .dput 0 (.k (.str "great")) 0 (.b2 .fdiv (.p (tK "great")) (.p (.k (.int 1009))))
def sEnd : S := .iff (.or (.c2 .eq (.p (tK "great")) (.p (.k (.int 0)))) (.c2 .eq (.p (tK "left")) (.p (.k (.int 0))))) (.cons (.dput 0 (.k (.str "great")) 0 (.p (.k (.int 0)))) (.cons (.dput 0 (.k (.str "left")) 0 (.p (.k (.int 0)))) .nil)) .nil
def bDraw (j : Nat) : Ss := .cons sTurn (.cons (sCell j) (.cons sLeft (.cons (sSmall j) (.cons sDig (.cons sGreat (.cons sEnd (.cons (.ret (.b2 .mod (.p (.p1 .int (.at 2))) (.p (.at 1)))) .nil)))))))
def Tape.Ok (T : Tape) : Prop := 0 ≤ T.at'
theorem at_lt (xs : List Int) (i : Int) (h0 : 0 ≤ i) (h : i < xs.length) : ∃ z, L2.atI (xs.map PyData.int) i = some (.int z) := by
  have hn : i.toNat < xs.length := by omega
  refine ⟨xs[i.toNat], ?_⟩
  simp [L2.atI, L2.ixN, h0, h, hn]
section
variable (c : Orc) (j : Nat)
theorem turn_ok (T : Tape) (l : Bool) (r : EnvD) : exS c 0 sTurn (tS0 l T :: r) = .ok (.nx (tS0 l { T with turn := T.turn + 1 } :: r)) := by
  simp [sTurn, exS, ev_b2, evPk, evP, slot, tape_turn, opd2, opd, fin, lateE, isP, toP, finO, evPb, g2, Fx.b2, own1, isCont, r_of, r_ok, put_turn]
theorem left_ok (T : Tape) (l : Bool) (r : EnvD) : ∃ T' : Tape, T'.at' = T.at' ∧ T'.cells = T.cells ∧ exS c 0 sLeft (tS0 l T :: r) = .ok (.nx (tS0 l T' :: r)) := by
  by_cases h : T.left > 0
  · refine ⟨{ T with left := T.left - 1 }, rfl, rfl, ?_⟩
    simp [sLeft, exS, exs, evT, ev_b2, evPk, evP, slot, tape_left, opd2, opd, fin, lateE, isP, toP, finO, evPb, g2, c2B, Fx.c2, ii, Fx.b2, own1, isCont, r_of, r_ok, put_left, h]
  · refine ⟨T, rfl, rfl, ?_⟩
    simp [sLeft, exS, exs, evT, ev_b2, evPk, evP, slot, tape_left, opd2, opd, fin, lateE, isP, toP, finO, evPb, g2, c2B, Fx.c2, ii, Fx.b2, own1, isCont, r_of, r_ok, put_left, h]
theorem dig_ok (T : Tape) (l : Bool) (m : Int) (s2 s3 : SV) (h2 : FreeS s2) : exS c 0 sDig [tS0 l T, sv0 (.int m), s2, s3] = .ok (.nx [tS0 l T, sv0 (.int m), sv0 (.int (T.great.fmod 1009)), s3]) := by
  refine (as_ok (d := .int (T.great.fmod 1009)) (env' := [tS0 l T, sv0 (.int m), s2, s3]) (s := s2) ?_ rfl h2).trans rfl
  simp [ev_b2, evPk, evP, slot, tape_great, opd2, opd, fin, lateE, isP, toP, finO, evPb, g2, Fx.p1, Fx.b2, own1, isCont, r_of, r_ok]
theorem great_ok (T : Tape) (l : Bool) (r : EnvD) : exS c 0 sGreat (tS0 l T :: r) = .ok (.nx (tS0 l { T with great := T.great.fdiv 1009 } :: r)) := by
  have l2 : Nat.log2 1009 < 9000 := by decide
  simp [sGreat, exS, ev_b2, evPk, evP, slot, tape_great, opd2, opd, fin, lateE, isP, toP, finO, evPb, g2, Fx.b2, own1, isCont, r_of, r_ok, put_great, l2]
theorem end_ok (T : Tape) (l : Bool) (r : EnvD) : ∃ T' : Tape, T'.at' = T.at' ∧ T'.cells = T.cells ∧ exS c 0 sEnd (tS0 l T :: r) = .ok (.nx (tS0 l T' :: r)) := by
  by_cases h : T.great = 0
  · refine ⟨{ T with great := 0, left := 0 }, rfl, rfl, ?_⟩
    simp [sEnd, exS, exs, evT, ev_p, evPk, evP, slot, tape_left, tape_great, opd2, opd, fin, lateE, isP, toP, finO, evPb, g2, c2B, Fx.c2, ii, own1, isCont, r_of, r_ok, put_left, put_great, h]
  · by_cases h' : T.left = 0
    · refine ⟨{ T with great := 0, left := 0 }, rfl, rfl, ?_⟩
      simp [sEnd, exS, exs, evT, ev_p, evPk, evP, slot, tape_left, tape_great, opd2, opd, fin, lateE, isP, toP, finO, evPb, g2, c2B, Fx.c2, ii, own1, isCont, r_of, r_ok, put_left, put_great, h, h']
    · refine ⟨T, rfl, rfl, ?_⟩
      simp [sEnd, exS, exs, evT, ev_p, evPk, evP, slot, tape_left, tape_great, opd2, opd, fin, lateE, isP, toP, finO, evPb, g2, c2B, Fx.c2, ii, own1, isCont, r_of, r_ok, put_left, put_great, h, h']
variable (hj : ∀ a b : Int, callV c j [.int a, .int b] = .ok (.int (mixI a b)))
include hj
theorem cell_ok (T : Tape) (hT : T.Ok) (l : Bool) (m : Int) (s2 : SV) : ∃ (T' : Tape) (s3 : SV), T'.Ok ∧ T'.cells = T.cells ∧ FreeS s3 ∧ exS c 0 (sCell j) [tS0 l T, sv0 (.int m), s2, .un] = .ok (.nx [tS0 l T', sv0 (.int m), s2, s3]) := by
  by_cases h : T.left = 0 ∧ T.at' < T.cells.length
  · obtain ⟨h1, h2⟩ := h
    obtain ⟨z, hz⟩ := at_lt T.cells T.at' hT h2
    have a1 : exS c 0 (.as (.nm 3) 0 (.p (.ix (tK "cells") (tK "at")))) [tS0 l T, sv0 (.int m), s2, .un] = .ok (.nx [tS0 l T, sv0 (.int m), s2, sv0 (.int z)]) := by
      simp [exS, ev_p, evPk, evP, slot, tape_at, tape_cells, ix_lst, hz, isCont, r_of, r_ok, setS, sv0]
    have a2 : exS c 0 (.dput 0 (.k (.str "at")) 0 (.b2 .add (.p (tK "at")) (.p (.k (.int 1))))) [tS0 l T, sv0 (.int m), s2, sv0 (.int z)] = .ok (.nx [tS0 l { T with at' := T.at' + 1 }, sv0 (.int m), s2, sv0 (.int z)]) := by
      simp [exS, ev_b2, evPk, evP, slot, tape_at, opd2, opd, fin, lateE, isP, toP, finO, evPb, g2, Fx.b2, own1, isCont, r_of, r_ok, put_at]
    have a3 : exS c 0 (.dput 0 (.k (.str "seed")) 0 (.call j none (.v (.b2 .add (.p (tK "seed")) (.p (.at 3))) (.v (.p (tK "at")) .nil)))) [tS0 l { T with at' := T.at' + 1 }, sv0 (.int m), s2, sv0 (.int z)] = .ok (.nx [tS0 l { T with at' := T.at' + 1, seed := mixI (T.seed + z) (T.at' + 1) }, sv0 (.int m), s2, sv0 (.int z)]) := by
      simp [exS, ev_call_2, evR, hj, ev_p, ev_b2, evPk, evP, slot, tape_at, tape_seed, opd2, opd, fin, lateE, isP, toP, finO, evPb, g2, Fx.b2, own1, isCont, r_of, r_ok, put_seed]
    have a4 : ∀ T : Tape, exS c 0 (.dput 0 (.k (.str "left")) 0 (.p (.k (.int 4)))) [tS0 l T, sv0 (.int m), s2, sv0 (.int z)] = .ok (.nx [tS0 l { T with left := 4 }, sv0 (.int m), s2, sv0 (.int z)]) := fun T => by
      simp [exS, ev_p, evPk, evP, isCont, r_of, r_ok, put_left]
    have t0 : ∀ b : Ss, exS c 0 (.iff (.and (.c2 .eq (.p (tK "left")) (.p (.k (.int 0)))) (.c2 .lt (.p (tK "at")) (.p (.p1 .len (tK "cells"))))) b .nil) [tS0 l T, sv0 (.int m), s2, .un] = exs c 0 b [tS0 l T, sv0 (.int m), s2, .un] := fun b => by
      simp [exS, evT, evP, slot, tape_at, tape_left, tape_cells, opd2, opd, fin, lateE, isP, toP, finO, evPb, g2, c2B, Fx.c2, ii, Fx.p1, isCont, r_of, r_ok, h1, h2]
    have a5 : ∀ T : Tape, ∃ T' : Tape, T'.at' = T.at' ∧ T'.cells = T.cells ∧ exs c 0 (.cons (.iff (.c2 .ge (.p (.at 3)) (.b2 .pow (.p (.k (.int 10))) (.p (.k (.int 18)))))
  (.cons (.dput 0 (.k (.str "great")) 0 (.p (.at 3))) (.cons (.dput 0 (.k (.str "left")) 0 (.p (.k (.int 60)))) .nil))
  .nil) .nil) [tS0 l T, sv0 (.int m), s2, sv0 (.int z)] = .ok (.nx [tS0 l T', sv0 (.int m), s2, sv0 (.int z)]) := fun T => by
      by_cases hg : (1000000000000000000 : Int) ≤ z
      · refine ⟨{ T with great := z, left := 60 }, rfl, rfl, ?_⟩
        simp [exs, exS, evT, ev_p, ev_b2, evPk, evP, slot, opd2, opd, fin, lateE, isP, toP, finO, evPb, g2, c2B, Fx.c2, ii, Fx.b2, own1, isCont, r_of, r_ok, hg, put_great, put_left]
      · refine ⟨T, rfl, rfl, ?_⟩
        simp [exs, exS, evT, ev_p, ev_b2, evPk, evP, slot, opd2, opd, fin, lateE, isP, toP, finO, evPb, g2, c2B, Fx.c2, ii, Fx.b2, own1, isCont, r_of, r_ok, hg, put_great, put_left]
    obtain ⟨T', ht1, ht2, a6⟩ := a5 { T with at' := T.at' + 1, seed := mixI (T.seed + z) (T.at' + 1), left := 4 }
    refine ⟨T', sv0 (.int z), ?_, ht2, .inr ⟨_, _, rfl⟩, (t0 _).trans ((exs_nx a1).trans ((exs_nx a2).trans ((exs_nx a3).trans ((exs_nx (a4 _)).trans a6))))⟩
    show 0 ≤ T'.at'
    rw [ht1]
    have : 0 ≤ T.at' := hT
    show 0 ≤ T.at' + 1
    omega
  · refine ⟨T, .un, hT, rfl, .inl rfl, ?_⟩
    by_cases h1 : T.left = 0
    · have h2 : ¬ T.at' < T.cells.length := fun z => h ⟨h1, z⟩
      simp [sCell, exS, exs, evT, evP, slot, tape_at, tape_left, tape_cells, opd2, opd, fin, lateE, isP, toP, finO, evPb, g2, c2B, Fx.c2, ii, Fx.p1, isCont, r_of, r_ok, h1, h2]
    · simp [sCell, exS, exs, evT, evP, slot, tape_at, tape_left, tape_cells, opd2, opd, fin, lateE, isP, toP, finO, evPb, g2, c2B, Fx.c2, ii, Fx.p1, isCont, r_of, r_ok, h1]
theorem draw_run (T : Tape) (hT : T.Ok) (many : Int) (hm : 0 < many) (l : Bool) : ∃ (T' : Tape) (n : Int) (s2 s3 : SV), T'.Ok ∧ T'.cells = T.cells ∧ 0 ≤ n ∧ n < many ∧ exs c 0 (bDraw j) [tS0 l T, sv0 (.int many), .un, .un] = .ok (.rt (.int n) [tS0 l T', sv0 (.int many), s2, s3]) := by
  have e1 := turn_ok c T l [sv0 (.int many), .un, .un]
  obtain ⟨T2, s3, hT2, hc2, hf, e2⟩ := cell_ok c j hj { T with turn := T.turn + 1 } hT l many .un
  obtain ⟨T3, ha3, hc3, e3⟩ := left_ok c T2 l [sv0 (.int many), .un, s3]
  have hm0 : many ≠ 0 := by omega
  have hr : ∀ x : Int, 0 ≤ x.fmod many ∧ x.fmod many < many := fun x => by
    rw [Int.fmod_eq_emod_of_nonneg _ (by omega)]
    exact ⟨Int.emod_nonneg _ hm0, Int.emod_lt_of_pos _ hm⟩
  have hT3 : T3.Ok := by show 0 ≤ T3.at'; rw [ha3]; exact hT2
  have hch : T3.cells = T.cells := hc3.trans hc2
  by_cases h : T3.great = 0
  · refine ⟨T3, (mixI T3.seed T3.turn).fmod many, .un, s3, hT3, hch, (hr _).1, (hr _).2, (exs_nx e1).trans ((exs_nx e2).trans ((exs_nx e3).trans (exs_rt ?_)))⟩
    simp [sSmall, exS, exs, evT, ev_p, ev_b2, ev_bi, evA, allP, ev_call_2, evR, hj, evPk, evP, slot, tape_great, tape_seed, tape_turn, opd2, opd, fin, lateE, isP, toP, finO, evPb, g2, g1, bi, Fx.p1, c2B, Fx.c2, ii, Fx.b2, own1, isCont, r_of, r_ok, h, hm0]
  · have e4 : exS c 0 (sSmall j) [tS0 l T3, sv0 (.int many), .un, s3] = .ok (.nx [tS0 l T3, sv0 (.int many), .un, s3]) := by
      simp [sSmall, exS, exs, evT, evP, slot, tape_great, opd2, opd, fin, lateE, isP, toP, finO, evPb, g2, c2B, Fx.c2, ii, isCont, r_of, r_ok, h]
    have e5 := dig_ok c T3 l many .un s3 (.inl rfl)
    have e6 := great_ok c T3 l [sv0 (.int many), sv0 (.int (T3.great.fmod 1009)), s3]
    obtain ⟨T4, ha4, hc4, e7⟩ := end_ok c { T3 with great := T3.great.fdiv 1009 } l [sv0 (.int many), sv0 (.int (T3.great.fmod 1009)), s3]
    refine ⟨T4, (T3.great.fmod 1009).fmod many, sv0 (.int (T3.great.fmod 1009)), s3, ?_, hc4.trans hch, (hr _).1, (hr _).2, (exs_nx e1).trans ((exs_nx e2).trans ((exs_nx e3).trans ((exs_nx e4).trans ((exs_nx e5).trans ((exs_nx e6).trans ((exs_nx e7).trans (exs_rt ?_)))))))⟩
    · show 0 ≤ T4.at'
      rw [ha4]
      exact hT3
    · simp [exS, ev_b2, evPk, evP, slot, opd2, opd, fin, lateE, isP, toP, finO, evPb, g2, Fx.p1, Fx.b2, own1, isCont, r_of, r_ok, hm0]
end
end Fx
set_option Elab.async false
set_option linter.all false
set_option maxRecDepth 100000
/-! N11: lowest terms in one def; a draw as an expression. -/
namespace Fx
open PySem PySem.Spec PyProof.Rows L2
def bGcdG : Ss := .cons (.iff (.c2 .eq (.p (.at 4)) (.p (.k (.int 0)))) (.cons .brk .nil) .nil) (.cons (.par 3 4 0 0 (.p (.at 4)) (.b2 .mod (.p (.p1 .int (.at 3))) (.p (.at 4)))) .nil)
section
variable (c : Orc) (a0 b0 : SV)
theorem turnG_0 (x : Int) (t : SV) : exs c 0 bGcdG [a0, b0, t, sv0 (.int x), sv0 (.int 0)] = .ok (.bk [a0, b0, t, sv0 (.int x), sv0 (.int 0)]) := by
  simp [bGcdG, exs, exS, ev, evT, evPk, evP, slot, opd2, opd, fin, lateE, isP, toP, finO, evPb, g2, c2B, Fx.c2, ii, own1, isCont, r_of, r_no, r_ok, r_bad, setS, sv0]
theorem turnG_1 (x y : Nat) (t : SV) (hy : y ≠ 0) : exs c 0 bGcdG [a0, b0, t, sv0 (.int x), sv0 (.int y)] = .ok (.nx [a0, b0, t, sv0 (.int y), sv0 (.int (x % y : Nat))]) := by
  have e := gcd_turn x y hy
  have hy' : (y : Int) ≠ 0 := by omega
  simp [bGcdG, exs, exS, ev, evT, evPk, evP, slot, opd2, opd, fin, lateE, isP, toP, finO, evPb, g2, c2B, Fx.c2, ii, Fx.b2, Fx.p1, scal, own1, isCont, r_of, r_no, r_ok, r_bad, setS, e, hy, sv0]
theorem for_gcdG : ∀ (k : Nat) (xs : List PyData) (x y : Nat) (t : SV), FreeS t → y < 2 ^ k → 2 * k + 1 < xs.length → ∃ t', forL (bindT (.nm 2)) (exs c 0 bGcdG) xs [a0, b0, t, sv0 (.int x), sv0 (.int y)] = .ok (.nx [a0, b0, t', sv0 (.int (Nat.gcd x y : Nat)), sv0 (.int 0)]) := by
  have bind2 : ∀ (z : PyData) (a b t : SV), FreeS t → bindT (.nm 2) z [a0, b0, t, a, b] = some [a0, b0, sv0 z, a, b] := by
    rintro z a b t (rfl | ⟨bb, d, rfl⟩) <;> simp [bindT, setS]
  have done : ∀ (xs : List PyData) (x : Nat) (t : SV), FreeS t → ∃ t', forL (bindT (.nm 2)) (exs c 0 bGcdG) xs [a0, b0, t, sv0 (.int x), sv0 (.int (0 : Nat))] = .ok (.nx [a0, b0, t', sv0 (.int x), sv0 (.int 0)]) := by
    intro xs x t ht
    cases xs with
    | nil => exact ⟨t, rfl⟩
    | cons z xs =>
      refine ⟨sv0 z, ?_⟩
      simp only [forL, bind2 z _ _ t ht, r_of, r_ok]
      rw [show ((0 : Nat) : Int) = 0 from rfl, turnG_0]
      rfl
  intro k
  induction k with
  | zero =>
    intro xs x y t ht hy hl
    have : y = 0 := by simpa using hy
    subst this
    rw [Nat.gcd_zero_right]
    exact done xs x t ht
  | succ k ih =>
    intro xs x y t ht hy hl
    by_cases h0 : y = 0
    · subst h0
      rw [Nat.gcd_zero_right]
      exact done xs x t ht
    · match xs, hl with
      | z1 :: z2 :: xs, hl =>
        have step : ∀ (z : PyData) (r : List PyData) (x y : Nat) (t : SV), FreeS t → y ≠ 0 → forL (bindT (.nm 2)) (exs c 0 bGcdG) (z :: r) [a0, b0, t, sv0 (.int x), sv0 (.int y)] = forL (bindT (.nm 2)) (exs c 0 bGcdG) r [a0, b0, sv0 z, sv0 (.int y), sv0 (.int (x % y : Nat))] := by
          intro z r x y t ht hy
          simp only [forL, bind2 z _ _ t ht, r_of, r_ok]
          rw [turnG_1 c a0 b0 x y _ hy]
          rfl
        rw [step z1 _ x y t ht h0, gcd_step x y]
        by_cases h1 : x % y = 0
        · rw [h1, Nat.gcd_zero_right]
          exact done _ y _ (.inr ⟨0, z1, rfl⟩)
        · rw [step z2 _ y (x % y) _ (.inr ⟨0, z1, rfl⟩) h1, gcd_step y (x % y)]
          refine ih xs (x % y) (y % (x % y)) _ (.inr ⟨0, z2, rfl⟩) ?_ (by simp at hl; omega)
          have hm : x % y < y := Nat.mod_lt _ (by omega)
          have : y % (x % y) < x % y := Nat.mod_lt _ (by omega)
          have hs : y % (x % y) + (x % y) ≤ y := by
            have := Nat.mod_add_div y (x % y)
            have h2 : 1 ≤ y / (x % y) := (Nat.one_le_div_iff (by omega)).mpr (by omega)
            have h3 := Nat.mul_le_mul_left (x % y) h2
            omega
          have hp : 2 ^ (k + 1) = 2 * 2 ^ k := by rw [Nat.pow_succ]; omega
          omega
end
theorem fdiv_neg_of_dvd {a g : Int} (hg : g ≠ 0) (h : g ∣ a) : a.fdiv (-g) = -(a.fdiv g) := by
  obtain ⟨k, rfl⟩ := h
  rw [Int.mul_fdiv_cancel_left _ hg, show g * k = (-g) * (-k) by rw [Int.neg_mul_neg], Int.mul_fdiv_cancel_left _ (by omega)]
def bFr1 (n : Nat) : Ss := .cons (.par 3 4 0 0 (.p (.p1 .abs (.at 0))) (.p (.p1 .abs (.at 1)))) (.cons (.for (.nm 2) (.range (.cons (.p (.k (.int n))) .nil)) bGcdG) (.cons (.ret (.ite (.c2 .gt (.p (.at 1)) (.p (.k (.int 0)))) (.tup (.cons (.b2 .fdiv (.p (.at 0)) (.p (.at 3))) (.cons (.b2 .fdiv (.p (.at 1)) (.p (.at 3))) .nil))) (.tup (.cons (.b2 .sub (.p (.k (.int 0))) (.b2 .fdiv (.p (.at 0)) (.p (.at 3)))) (.cons (.b2 .sub (.p (.k (.int 0))) (.b2 .fdiv (.p (.at 1)) (.p (.at 3)))) .nil))))) .nil))
theorem fr1_run (c : Orc) (n : Nat) (h1 : 1802 ≤ n) (h2 : n ≤ 100000000) (a b : Int) (hb : b ≠ 0) (hs : b.natAbs < 2 ^ 900) : (exs c 0 (bFr1 n) [sv0 (.int a), sv0 (.int b), .un, .un, .un]).bind Fl.val = .ok (frac (Rat.divInt a b)) := by
  have e1 : exS c 0 (.par 3 4 0 0 (.p (.p1 .abs (.at 0))) (.p (.p1 .abs (.at 1)))) [sv0 (.int a), sv0 (.int b), .un, .un, .un] = .ok (.nx [sv0 (.int a), sv0 (.int b), .un, sv0 (.int (a.natAbs : Int)), sv0 (.int (b.natAbs : Int))]) := by
    simp [exS, ev_p, evPk, evP, slot, Fx.p1, isCont, r_of, r_no, r_ok, r_bad, setS, sv0, abs_if]
  obtain ⟨t', e2⟩ := for_gcdG c (sv0 (.int a)) (sv0 (.int b)) 900 ((List.range n).map fun (i : Nat) => PyData.int (i : Int)) a.natAbs b.natAbs .un (.inl rfl) hs (by rw [List.length_map, List.length_range]; omega)
  have e3 : exS c 0 (.for (.nm 2) (.range (.cons (.p (.k (.int n))) .nil)) bGcdG) [sv0 (.int a), sv0 (.int b), .un, sv0 (.int (a.natAbs : Int)), sv0 (.int (b.natAbs : Int))] = .ok (.nx [sv0 (.int a), sv0 (.int b), t', sv0 (.int (Nat.gcd a.natAbs b.natAbs : Nat)), sv0 (.int 0)]) :=
    (for_range1 c (n := (n : Int)) (by simp [evPk, evP, isCont]) (len_range n h2)).trans e2
  have e4 : ((Nat.gcd a.natAbs b.natAbs : Nat) : Int) = ((Int.gcd a b : Nat) : Int) := rfl
  have hlog := gcd_log (a := a) (k := 900) (by decide) hb hs
  have hl : (Int.gcd a b).log2 < 9000 := by omega
  have hgp : 0 < Int.gcd a b := Int.gcd_pos_of_ne_zero_right _ hb
  have hz : ¬ (Int.gcd a b = 0) := by omega
  have key : exS c 0 (.ret (.ite (.c2 .gt (.p (.at 1)) (.p (.k (.int 0)))) (.tup (.cons (.b2 .fdiv (.p (.at 0)) (.p (.at 3))) (.cons (.b2 .fdiv (.p (.at 1)) (.p (.at 3))) .nil))) (.tup (.cons (.b2 .sub (.p (.k (.int 0))) (.b2 .fdiv (.p (.at 0)) (.p (.at 3)))) (.cons (.b2 .sub (.p (.k (.int 0))) (.b2 .fdiv (.p (.at 1)) (.p (.at 3)))) .nil))))) [sv0 (.int a), sv0 (.int b), t', sv0 (.int (Int.gcd a b : Nat)), sv0 (.int 0)] =
      .ok (.rt (frac (Rat.divInt a b)) [sv0 (.int a), sv0 (.int b), t', sv0 (.int (Int.gcd a b : Nat)), sv0 (.int 0)]) := by
    by_cases h : 0 < b
    · obtain ⟨f1, f2, f3⟩ := fdiv_gcd (a := a) hb (s := ((Int.gcd a b : Nat) : Int)) (.inl ⟨h, rfl⟩)
      simp [exS, ev_p, ev_tup, ev_b2, ev_ite, evs, evT, evPk, evP, slot, opd2, opd, fin, lateE, isP, toP, finO, evPb, g2, c2B, Fx.c2, ii, Fx.b2, own1, isCont, r_of, r_no, r_ok, r_bad, sv0, h, f1, f2, hz, hl, frac]
    · obtain ⟨f1, f2, f3⟩ := fdiv_gcd (a := a) hb (s := -((Int.gcd a b : Nat) : Int)) (.inr ⟨by omega, rfl⟩)
      rw [fdiv_neg_of_dvd (by omega) (Int.gcd_dvd_left a b)] at f1
      rw [fdiv_neg_of_dvd (by omega) (Int.gcd_dvd_right a b)] at f2
      simp [exS, ev_p, ev_tup, ev_b2, ev_ite, evs, evT, evPk, evP, slot, opd2, opd, fin, lateE, isP, toP, finO, evPb, g2, c2B, Fx.c2, ii, Fx.b2, own1, isCont, r_of, r_no, r_ok, r_bad, sv0, h, f1, f2, hz, hl, frac]
  rw [e4] at e3
  rw [show bFr1 n = .cons _ (.cons _ (.cons _ .nil)) from rfl, exs_nx e1, exs_nx e3, exs_rt key]
  rfl
/-- the def f draws below its second argument -/
def DrawAt (c : Orc) (f : Nat) : Prop := ∀ (T : Tape) (many : Int), T.Ok → 0 < many → ∃ (T' : Tape) (n : Int) (x : SV), T'.Ok ∧ T'.cells = T.cells ∧ 0 ≤ n ∧ n < many ∧ c.fn f [.sv true 1 (tapeD T), .sv false 0 (.int many)] = .ok (.int n, [.sv true 1 (tapeD T'), x])
theorem ev_draw {c : Orc} {f i : Nat} (h : DrawAt c f) {T : Tape} (hT : T.Ok) {env : EnvD} {l : Bool} {a : E} {many : Int} (h0 : env[i]? = some (.sv l 1 (tapeD T))) (ha : ev c a 0 env = .ok (.int many, env)) (hm : 0 < many) :
    ∃ (T' : Tape) (n : Int), T'.Ok ∧ 0 ≤ n ∧ n < many ∧ ev c (.call f none (.l i (.v a .nil))) 0 env = .ok (.int n, env.set i (.sv l 1 (tapeD T'))) := by
  obtain ⟨T', n, x, h1, h2, h3, h4, h5⟩ := h T many hT hm
  exact ⟨T', n, h1, h3, h4, ev_callL1 h0 ha h5⟩
theorem drawAt_of {p : Prg} {m f j : Nat} {D : Def} (hD : p.defs[f]? = some D) (hb : D.F.body = bDraw j) (hr : D.F.ret = 0) (hn : D.F.n = 4) (hnp : D.F.np = 2) (hl : D.F.lo = [true, false]) (hj : ∀ a b : Int, callV (p.orc m) j [.int a, .int b] = .ok (.int (mixI a b))) : DrawAt (p.orc (m + 1)) f := by
  intro T many hT hm
  obtain ⟨T', n, s2, s3, h1, h2, h3, h4, h5⟩ := draw_run (p.orc m) j hj T hT many hm true
  refine ⟨T', n, sv0 (.int many), h1, h2, h3, h4, ?_⟩
  rw [fn_eq hD (by rw [hl]; rfl), hb, hr, hn, hnp]
  have e0 : ([SV.sv true 1 (tapeD T), SV.sv false 0 (.int many)] ++ List.replicate (4 - [SV.sv true 1 (tapeD T), SV.sv false 0 (.int many)].length) SV.un) = [tS0 true T, sv0 (.int many), .un, .un] := rfl
  rw [e0, h5]
  rfl
end Fx
set_option Elab.async false
set_option linter.all false
set_option maxRecDepth 100000
/-! N12: floors, sizes, generator expressions by their items. -/
namespace Fx
open PySem PySem.Spec PyProof.Rows L2
theorem fdiv_floor (a b : Int) (hb : 0 < b) : a.fdiv b = ((a : Rat) / (b : Rat)).floor := by
  rw [Int.fdiv_eq_ediv_of_nonneg _ (by omega)]
  have hb' : (0 : Rat) < (b : Rat) := Rat.intCast_pos.mpr hb
  have h1 : (a / b) * b ≤ a := Int.ediv_mul_le _ (by omega)
  have h2 : a < (a / b + 1) * b := Int.lt_ediv_add_one_mul_self _ hb
  have h1' : ((a / b : Int) : Rat) ≤ (a : Rat) / (b : Rat) := by
    rw [← Rat.not_lt, Rat.div_lt_iff hb', ← Rat.intCast_mul, Rat.intCast_lt_intCast]
    omega
  have h2' : (a : Rat) / (b : Rat) < ((a / b + 1 : Int) : Rat) := by
    rw [Rat.div_lt_iff hb', ← Rat.intCast_mul, Rat.intCast_lt_intCast]
    exact h2
  have h3 := Rat.le_floor_iff.mpr h1'
  have h4 := Rat.floor_lt_iff.mpr h2'
  omega
theorem num_den (q : Rat) : (q.num : Rat) = q * ((q.den : Int) : Rat) := by
  have h := Rat.num_divInt_den q
  rw [Rat.divInt_eq_div] at h
  have hp : (0 : Rat) < ((q.den : Int) : Rat) := Rat.intCast_pos.mpr (by have := q.den_nz; omega)
  have hd : ((q.den : Int) : Rat) ≠ 0 := fun e => by rw [e] at hp; exact Rat.lt_irrefl hp
  have h2 : (q.num : Rat) / ((q.den : Int) : Rat) * ((q.den : Int) : Rat) = q * ((q.den : Int) : Rat) := by rw [h]
  rw [Rat.div_mul_cancel hd] at h2
  exact h2
theorem den_posI (q : Rat) : (0 : Int) < (q.den : Int) := by have := q.den_nz; omega
theorem den_posR (q : Rat) : (0 : Rat) < ((q.den : Int) : Rat) := Rat.intCast_pos.mpr (den_posI q)
/-- (k a + l b) / (m b) for q = a / b -/
theorem floor_of {x : Rat} {a b : Int} (hb : 0 < b) (h : (a : Rat) = x * (b : Rat)) : a.fdiv b = x.floor := by
  rw [fdiv_floor a b hb, h, Rat.mul_div_cancel]
  have := Rat.intCast_pos.mpr hb
  intro e
  rw [e] at this
  exact Rat.lt_irrefl this
/-! ### sizes, above and below apart -/
def Sq (a b : Nat) (q : Rat) : Prop := q.num.natAbs < 2 ^ a ∧ q.den < 2 ^ b
theorem Sq.sz {a b k : Nat} {q : Rat} (h : Sq a b q) (h1 : a ≤ k) (h2 : b ≤ k) : Sz k q := ⟨Nat.lt_of_lt_of_le h.1 (Nat.pow_le_pow_right (by decide) h1), Nat.lt_of_lt_of_le h.2 (Nat.pow_le_pow_right (by decide) h2)⟩
theorem Sq.le {a b a' b' : Nat} {q : Rat} (h : Sq a b q) (h1 : a ≤ a') (h2 : b ≤ b') : Sq a' b' q := ⟨Nat.lt_of_lt_of_le h.1 (Nat.pow_le_pow_right (by decide) h1), Nat.lt_of_lt_of_le h.2 (Nat.pow_le_pow_right (by decide) h2)⟩
theorem divInt_sq {a b : Int} {k l : Nat} (hb : b ≠ 0) (h1 : a.natAbs < 2 ^ k) (h2 : b.natAbs < 2 ^ l) : Sq k l (Rat.divInt a b) := by
  constructor
  · rw [Rat.num_divInt]
    refine Nat.lt_of_le_of_lt ?_ h1
    rw [Int.natAbs_ediv_of_dvd]
    · refine Nat.le_trans (Nat.div_le_self _ _) ?_
      rw [Int.natAbs_mul]
      have : b.sign.natAbs = 1 := by
        rcases Int.lt_trichotomy b 0 with h | h | h
        · rw [Int.sign_eq_neg_one_of_neg h]; rfl
        · exact absurd h hb
        · rw [Int.sign_eq_one_of_pos h]; rfl
      rw [this]; omega
    · exact Int.dvd_mul_of_dvd_right (Int.gcd_dvd_right _ _)
  · rw [Rat.den_divInt, if_neg hb]
    exact Nat.lt_of_le_of_lt (Nat.div_le_self _ _) h2
theorem add_sq {p q : Rat} {a b a' b' n : Nat} (hp : Sq a b p) (hq : Sq a' b' q) (h1 : a + b' < n) (h2 : a' + b < n) : Sq n (b + b') (p + q) := by
  rw [← plus_eq]
  have a1 := mul_lt hp.1 hq.2
  have a2 := mul_lt hq.1 hp.2
  have a3 := mul_lt hp.2 hq.2
  have e1 : 2 ^ (a + b') ≤ 2 ^ (n - 1) := Nat.pow_le_pow_right (by decide) (by omega)
  have e2 : 2 ^ (a' + b) ≤ 2 ^ (n - 1) := Nat.pow_le_pow_right (by decide) (by omega)
  have e : 2 ^ n = 2 * 2 ^ (n - 1) := by
    rw [show n = (n - 1) + 1 by omega, Nat.pow_succ]
    simp; omega
  have p0 := p.den_nz
  have q0 := q.den_nz
  refine divInt_sq (Int.mul_ne_zero (by omega) (by omega)) ?_ ?_
  · refine Nat.lt_of_le_of_lt (Int.natAbs_add_le _ _) ?_
    rw [Int.natAbs_mul, Int.natAbs_mul, Int.natAbs_natCast, Int.natAbs_natCast]
    omega
  · rw [Int.natAbs_mul, Int.natAbs_natCast, Int.natAbs_natCast]
    omega
theorem mul_sq {p q : Rat} {a b a' b' : Nat} (hp : Sq a b p) (hq : Sq a' b' q) : Sq (a + a') (b + b') (p * q) := by
  rw [← times_eq]
  have p0 := p.den_nz
  have q0 := q.den_nz
  refine divInt_sq (Int.mul_ne_zero (by omega) (by omega)) ?_ ?_
  · rw [Int.natAbs_mul]; exact mul_lt hp.1 hq.1
  · rw [Int.natAbs_mul, Int.natAbs_natCast, Int.natAbs_natCast]; exact mul_lt hp.2 hq.2
theorem neg_sq {p : Rat} {a b : Nat} (h : Sq a b p) : Sq a b (-p) := by
  constructor
  · rw [Rat.neg_num, Int.natAbs_neg]; exact h.1
  · rw [Rat.neg_den]; exact h.2
theorem int_sq {x : Int} {a : Nat} (h : x.natAbs < 2 ^ a) : Sq a 1 (x : Rat) := ⟨by simpa using h, by simp⟩
theorem frac_int (x : Int) : frac (x : Rat) = .tuple [.int x, .int 1] := by
  simp [frac]
/-! ### generator expressions -/
theorem ev_gen (c : Orc) (g : Gc) (tg : Tg) (it : It) (ts : List Qx) (q : Qx) (k : Nat) (env : EnvD) : ev c (.gen g tg it ts q) k env = (evI c it env).bind fun r => (Rs.of ((genL c tg ts q r.1 r.2).bind (genF g))).bind fun d => .ok (d, r.2) := by simp only [ev]
theorem genL_mapM {α : Type} {c : Orc} {tg : Tg} {ts : List Qx} {q : Qx} {env : EnvD} {φ γ : α → PyData} {p : α → Bool} : ∀ {xs : List α}, (∀ x ∈ xs, ∃ e, bindT tg (φ x) env = some e ∧ evQs c ts e = some (p x) ∧ (p x = true → evQ c q e = some (γ x))) → genL c tg ts q (xs.map φ) env = some ((xs.filter p).map γ)
  | [], _ => rfl
  | x :: xs, h => by
    obtain ⟨e, h1, h2, h3⟩ := h x (List.mem_cons_self ..)
    have ih := genL_mapM (xs := xs) fun y hy => h y (List.mem_cons_of_mem _ hy)
    simp only [List.map_cons, genL, h1, h2, Option.bind_some]
    cases hp : p x with
    | false =>
      rw [List.filter_cons_of_neg (by simp [hp])]
      exact ih
    | true =>
      rw [List.filter_cons_of_pos (by simp [hp])]
      show (evQ c q e).bind _ = _
      rw [h3 hp, Option.bind_some, ih]
      rfl
theorem genL_mapA {α : Type} {c : Orc} {tg : Tg} {q : Qx} {env : EnvD} {φ γ : α → PyData} {xs : List α} (h : ∀ x ∈ xs, ∃ e, bindT tg (φ x) env = some e ∧ evQ c q e = some (γ x)) : genL c tg [] q (xs.map φ) env = some (xs.map γ) := by
  have := genL_mapM (c := c) (tg := tg) (ts := []) (q := q) (env := env) (φ := φ) (γ := γ) (p := fun _ => true) (xs := xs) fun x hx => by
    obtain ⟨e, h1, h2⟩ := h x hx
    exact ⟨e, h1, rfl, fun _ => h2⟩
  rw [this, List.filter_eq_self.mpr fun _ _ => rfl]
theorem allInt_map : ∀ ns : List Int, allInt (ns.map .int) = some ns
  | [] => rfl
  | n :: ns => by simp [allInt, allInt_map ns]
theorem enum_map {α : Type} (xs : List α) (φ : α → PyData) : enumL (xs.map φ) = (List.range xs.length).map fun i => .tuple [.int (i : Nat), (xs.map φ).getD i .none] := by
  unfold enumL
  rw [List.length_map]
end Fx
set_option Elab.async false
set_option linter.all false
set_option maxRecDepth 100000
/-! N13: rounding by four rules; predictors in plain Lean. -/
namespace Fx
open PySem PySem.Spec PyProof.Rows L2
inductive Rl where | down | up | near | low
def Rl.str : Rl → Str
  | .down => "down" | .up => "up" | .near => "near" | .low => "low"
def rnd : Rl → Rat → Int
  | .down, q => q.floor
  | .up, q => 0 - (-q).floor
  | .near, q => (q + 1 / 2).floor
  | .low, q => 0 - (1 / 2 - q).floor
theorem fl_bd (q : Rat) : (q.floor : Rat) ≤ q ∧ q < (q.floor : Rat) + 1 := by
  refine ⟨Rat.floor_le q, ?_⟩
  have := Rat.lt_floor_add_one q
  rw [Rat.intCast_add] at this
  exact this
theorem rnd_diff (r : Rl) (x y : Rat) : ((rnd r x - rnd r y : Int) : Rat) - (x - y) < 1 ∧ -1 < ((rnd r x - rnd r y : Int) : Rat) - (x - y) := by
  cases r with
  | down =>
    have h1 := fl_bd x
    have h2 := fl_bd y
    simp only [rnd, Rat.intCast_sub]
    constructor <;> grind
  | up =>
    have h1 := fl_bd (-x)
    have h2 := fl_bd (-y)
    simp only [rnd, Rat.intCast_sub]
    have e0 : ((0 : Int) : Rat) = 0 := rfl
    rw [e0]
    constructor <;> grind
  | near =>
    have h1 := fl_bd (x + 1 / 2)
    have h2 := fl_bd (y + 1 / 2)
    simp only [rnd, Rat.intCast_sub]
    constructor <;> grind
  | low =>
    have h1 := fl_bd (1 / 2 - x)
    have h2 := fl_bd (1 / 2 - y)
    simp only [rnd, Rat.intCast_sub]
    have e0 : ((0 : Int) : Rat) = 0 := rfl
    rw [e0]
    constructor <;> grind
theorem rnd_near (r : Rl) (x : Rat) : (rnd r x : Rat) ≤ x + 1 ∧ x - 1 ≤ (rnd r x : Rat) := by
  have e0 : ((0 : Int) : Rat) = 0 := rfl
  cases r with
  | down =>
    have h1 := fl_bd x
    simp only [rnd]
    constructor <;> grind
  | up =>
    have h1 := fl_bd (-x)
    simp only [rnd, Rat.intCast_sub, e0]
    constructor <;> grind
  | near =>
    have h1 := fl_bd (x + 1 / 2)
    simp only [rnd]
    constructor <;> grind
  | low =>
    have h1 := fl_bd (1 / 2 - x)
    simp only [rnd, Rat.intCast_sub, e0]
    constructor <;> grind
theorem rat_le_num (x : Rat) : x ≤ ((x.num.natAbs : Int) : Rat) ∧ -((x.num.natAbs : Int) : Rat) ≤ x := by
  have h := num_den x
  have hd := den_posR x
  have h1 : (1 : Rat) ≤ ((x.den : Int) : Rat) := by
    have e : (1 : Rat) = ((1 : Int) : Rat) := rfl
    rw [e, Rat.intCast_le_intCast]
    have := den_posI x
    omega
  have a1 : (x.num : Rat) ≤ ((x.num.natAbs : Int) : Rat) := by rw [Rat.intCast_le_intCast]; omega
  have a2 : -((x.num.natAbs : Int) : Rat) ≤ (x.num : Rat) := by rw [← Rat.intCast_neg, Rat.intCast_le_intCast]; omega
  have a0 : (0 : Rat) ≤ ((x.num.natAbs : Int) : Rat) := Rat.intCast_nonneg.mpr (by omega)
  constructor
  · by_cases hx : 0 ≤ x
    · have := Rat.mul_le_mul_of_nonneg_left (a := 1) (b := ((x.den : Int) : Rat)) (c := x) h1 hx
      grind
    · grind
  · by_cases hx : 0 ≤ x
    · grind
    · have := Rat.mul_le_mul_of_nonneg_left (a := 1) (b := ((x.den : Int) : Rat)) (c := -x) h1 (by grind)
      grind
theorem rnd_size (r : Rl) (x : Rat) {k : Nat} (h : x.num.natAbs < 2 ^ k) : (rnd r x).natAbs ≤ 2 ^ k := by
  obtain ⟨h1, h2⟩ := rnd_near r x
  obtain ⟨h3, h4⟩ := rat_le_num x
  have e1 : (1 : Rat) = ((1 : Int) : Rat) := rfl
  have a1 : (rnd r x : Rat) ≤ (((x.num.natAbs : Int) + 1 : Int) : Rat) := by rw [Rat.intCast_add, ← e1]; grind
  have a2 : ((-(x.num.natAbs : Int) - 1 : Int) : Rat) ≤ (rnd r x : Rat) := by rw [Rat.intCast_sub, Rat.intCast_neg, ← e1]; grind
  rw [Rat.intCast_le_intCast] at a1 a2
  omega
/-! ### what is foretold; rows with the latest ahead -/
def lin : List Rat → List Int → Rat
  | t :: ts, r :: R => t * (r : Rat) + lin ts R
  | _, _ => 0
def away (ts : List Rat) (R : List Int) (x : Int) : Bool := decide (1 ≤ (x : Rat) - lin ts R) || decide ((x : Rat) - lin ts R ≤ -1)
def canR (ts : List Rat) : List Int → List Int → Bool
  | _, [] => true
  | R, x :: xs => if away ts R x = true then false else canR ts (x :: R) xs
def readR (ts : List Rat) (r : Rl) : List Int → List Int → List Int
  | _, [] => []
  | R, e :: es => (e + rnd r (lin ts R)) :: readR ts r ((e + rnd r (lin ts R)) :: R) es
def subL : List Int → List Int → List Int
  | a :: as, b :: bs => (a - b) :: subL as bs
  | _, _ => []
theorem lin_sub : ∀ {ts : List Rat} {R R' : List Int}, R.length = R'.length → lin ts (subL R R') = lin ts R - lin ts R'
  | [], R, R', _ => by cases R <;> cases R' <;> simp [lin, subL] <;> grind
  | t :: ts, [], [], _ => by simp [lin, subL]; grind
  | t :: ts, r :: R, r' :: R', h => by
    have ih := lin_sub (ts := ts) (R := R) (R' := R') (by simpa using h)
    simp only [lin, subL, ih, Rat.intCast_sub]
    grind
  | t :: ts, [], _ :: _, h => by simp at h
  | t :: ts, _ :: _, [], h => by simp at h
theorem can_read (ts : List Rat) (r : Rl) : ∀ (es R R' : List Int), R.length = R'.length → canR ts (subL R R') (subL (readR ts r R es) (readR ts r R' es)) = true
  | [], R, R', _ => rfl
  | e :: es, R, R', h => by
    simp only [readR, subL, canR]
    have hd := rnd_diff r (lin ts R) (lin ts R')
    have e0 : e + rnd r (lin ts R) - (e + rnd r (lin ts R')) = rnd r (lin ts R) - rnd r (lin ts R') := by omega
    have ha : away ts (subL R R') (e + rnd r (lin ts R) - (e + rnd r (lin ts R'))) = false := by
      unfold away
      rw [lin_sub h, e0]
      rw [Bool.or_eq_false_iff]
      constructor
      · exact decide_eq_false (by have := hd.1; grind)
      · exact decide_eq_false (by have := hd.2; grind)
    rw [ha, if_neg (by decide)]
    have := can_read ts r es ((e + rnd r (lin ts R)) :: R) ((e + rnd r (lin ts R')) :: R') (by simp [h])
    simpa [subL] using this
theorem lin_int : ∀ {ts : List Rat} (R : List Int), (∀ t ∈ ts, t.den = 1) → ∃ z : Int, lin ts R = (z : Rat)
  | [], R, _ => ⟨0, by cases R <;> rfl⟩
  | t :: ts, [], _ => ⟨0, rfl⟩
  | t :: ts, r :: R, h => by
    obtain ⟨z, hz⟩ := lin_int (ts := ts) R fun u hu => h u (List.mem_cons_of_mem _ hu)
    have ht : (t.num : Rat) = t := by
      have := num_den t
      rw [h t (List.mem_cons_self ..)] at this
      have e1 : (((1 : Nat) : Int) : Rat) = 1 := rfl
      rw [e1, Rat.mul_one] at this
      exact this
    refine ⟨t.num * r + z, ?_⟩
    simp only [lin]
    rw [Rat.intCast_add, Rat.intCast_mul, ht, hz]
theorem can_off (ts : List Rat) (hw : ∀ t ∈ ts, t.den = 1) (x : Int) (post post' : List Int) : ∀ (pre R : List Int), canR ts R (pre ++ x :: post) = true → canR ts R (pre ++ (x + 1) :: post') = false
  | [], R, h => by
    simp only [List.nil_append, canR] at h ⊢
    split at h
    · cases h
    · rename_i ha
      have ha : away ts R x = false := by simpa using ha
      obtain ⟨z, hz⟩ := lin_int R hw
      unfold away at ha ⊢
      rw [hz] at ha ⊢
      rw [Bool.or_eq_false_iff] at ha
      obtain ⟨a1, a2⟩ := ha
      have a1 := of_decide_eq_false a1
      have a2 := of_decide_eq_false a2
      have e1 : (1 : Rat) = ((1 : Int) : Rat) := rfl
      have e2 : (-1 : Rat) = ((-1 : Int) : Rat) := rfl
      rw [← Rat.intCast_sub, e1, Rat.intCast_le_intCast] at a1
      rw [← Rat.intCast_sub, e2, Rat.intCast_le_intCast] at a2
      have : x = z := by omega
      subst this
      rw [if_pos]
      rw [Bool.or_eq_true]
      left
      rw [decide_eq_true_eq, ← Rat.intCast_sub, e1, Rat.intCast_le_intCast]
      omega
  | y :: pre, R, h => by
    simp only [List.cons_append, canR] at h ⊢
    split at h
    · cases h
    · rename_i ha
      rw [if_neg ha]
      exact can_off ts hw x post post' pre (y :: R) h
/-! ### sizes -/
theorem lin_sq {s : Nat} : ∀ {ts : List Rat} {R : List Int}, (∀ t ∈ ts, Sq 3 3 t) → (∀ r ∈ R, r.natAbs < 2 ^ s) → Sq (s + 6 + 5 * ts.length) (4 * ts.length + 1) (lin ts R)
  | [], R, _, _ => by
    have : lin [] R = 0 := by cases R <;> rfl
    rw [this]
    exact ⟨by simp; exact Nat.two_pow_pos _, by simp⟩
  | t :: ts, [], _, _ => by
    show Sq _ _ 0
    exact ⟨by simp; exact Nat.two_pow_pos _, by simp⟩
  | t :: ts, r :: R, h1, h2 => by
    have ih := lin_sq (ts := ts) (R := R) (fun u hu => h1 u (List.mem_cons_of_mem _ hu)) fun u hu => h2 u (List.mem_cons_of_mem _ hu)
    have hp := mul_sq (h1 t (List.mem_cons_self ..)) (int_sq (h2 r (List.mem_cons_self ..)))
    have := add_sq (n := s + 6 + 5 * (t :: ts).length) hp ih (by simp; omega) (by simp; omega)
    refine this.le (Nat.le_refl _) (by simp; omega)
theorem lin_take {ts : List Rat} {R : List Int} {k : Nat} {t : Rat} {r : Int} (h1 : ts[k]? = some t) (h2 : R[k]? = some r) : lin (ts.take (k + 1)) R = lin (ts.take k) R + t * (r : Rat) := by
  induction ts generalizing R k with
  | nil => simp at h1
  | cons u ts ih =>
    cases R with
    | nil => simp at h2
    | cons v R =>
      cases k with
      | zero =>
        simp at h1 h2
        subst h1 h2
        have : lin (ts.take 0) R = 0 := by cases R <;> rfl
        simp only [List.take_succ_cons, List.take_zero, lin]
        grind
      | succ k =>
        have := ih (R := R) (k := k) (by simpa using h1) (by simpa using h2)
        simp only [List.take_succ_cons, lin, this]
        grind
theorem far_iff (q : Rat) : ((q.den : Int) ≤ (if q.num < 0 then -q.num else q.num)) ↔ (1 ≤ q ∨ q ≤ -1) := by
  have h := num_den q
  have hd := den_posR q
  constructor
  · intro h1
    by_cases hn : q.num < 0
    · rw [if_pos hn] at h1
      right
      have a1 : ((q.den : Int) : Rat) ≤ ((-q.num : Int) : Rat) := by rw [Rat.intCast_le_intCast]; exact h1
      rw [Rat.intCast_neg, h] at a1
      rw [← Rat.not_lt]
      intro a2
      have := Rat.mul_lt_mul_of_pos_right a2 hd
      grind
    · rw [if_neg hn] at h1
      left
      have a1 : ((q.den : Int) : Rat) ≤ (q.num : Rat) := by rw [Rat.intCast_le_intCast]; exact h1
      rw [h] at a1
      rw [← Rat.not_lt]
      intro a2
      have := Rat.mul_lt_mul_of_pos_right a2 hd
      grind
  · rintro (h1 | h1)
    · have := Rat.mul_le_mul_of_nonneg_right (c := ((q.den : Int) : Rat)) h1 (Rat.le_of_lt hd)
      have a1 : ((q.den : Int) : Rat) ≤ (q.num : Rat) := by rw [h]; grind
      rw [Rat.intCast_le_intCast] at a1
      have := den_posI q
      split <;> omega
    · have := Rat.mul_le_mul_of_nonneg_right (c := ((q.den : Int) : Rat)) h1 (Rat.le_of_lt hd)
      have a1 : (q.num : Rat) ≤ ((-(q.den : Int) : Int) : Rat) := by rw [h, Rat.intCast_neg]; grind
      rw [Rat.intCast_le_intCast] at a1
      have := den_posI q
      split <;> omega
/-- many times over -/
theorem far_mul {x l : Rat} {b : Int} (hb : 0 < b) {n z : Int} (hz : ((n * b - z : Int) : Rat) = (x - l) * (b : Rat)) : (b ≤ (if n * b - z < 0 then -(n * b - z) else n * b - z)) ↔ (1 ≤ x - l ∨ x - l ≤ -1) := by
  have hd : (0 : Rat) < (b : Rat) := Rat.intCast_pos.mpr hb
  generalize n * b - z = w at hz ⊢
  generalize x - l = q at hz ⊢
  constructor
  · intro h1
    by_cases hn : w < 0
    · rw [if_pos hn] at h1
      right
      have a1 : (b : Rat) ≤ ((-w : Int) : Rat) := by rw [Rat.intCast_le_intCast]; exact h1
      rw [Rat.intCast_neg, hz] at a1
      rw [← Rat.not_lt]
      intro a2
      have := Rat.mul_lt_mul_of_pos_right a2 hd
      grind
    · rw [if_neg hn] at h1
      left
      have a1 : (b : Rat) ≤ (w : Rat) := by rw [Rat.intCast_le_intCast]; exact h1
      rw [hz] at a1
      rw [← Rat.not_lt]
      intro a2
      have := Rat.mul_lt_mul_of_pos_right a2 hd
      grind
  · rintro (h1 | h1)
    · have := Rat.mul_le_mul_of_nonneg_right (c := (b : Rat)) h1 (Rat.le_of_lt hd)
      have a1 : (b : Rat) ≤ (w : Rat) := by rw [hz]; grind
      rw [Rat.intCast_le_intCast] at a1
      split <;> omega
    · have := Rat.mul_le_mul_of_nonneg_right (c := (b : Rat)) h1 (Rat.le_of_lt hd)
      have a1 : (w : Rat) ≤ ((-b : Int) : Rat) := by rw [hz, Rat.intCast_neg]; grind
      rw [Rat.intCast_le_intCast] at a1
      split <;> omega
theorem away_iff (ts : List Rat) (R : List Int) (x : Int) : away ts R x = true ↔ (1 ≤ (x : Rat) - lin ts R ∨ (x : Rat) - lin ts R ≤ -1) := by
  unfold away
  rw [Bool.or_eq_true, decide_eq_true_eq, decide_eq_true_eq]
end Fx
set_option Elab.async false
set_option linter.all false
set_option maxRecDepth 100000
/-! N14: loops by their turns; more rows. -/
namespace Fx
open PySem PySem.Spec PyProof.Rows L2
theorem forL_from {bind : PyData → EnvD → Option EnvD} {body : EnvD → Rs Fl} (env : Nat → EnvD) (f : Nat → PyData) : ∀ (m s : Nat), (∀ k, s ≤ k → k < s + m → ∃ e, bind (f k) (env k) = some e ∧ body e = .ok (.nx (env (k + 1)))) → forL bind body ((List.range' s m).map f) (env s) = .ok (.nx (env (s + m)))
  | 0, s, _ => rfl
  | m + 1, s, h => by
    obtain ⟨e, h1, h2⟩ := h s (Nat.le_refl _) (by omega)
    have ih := forL_from (bind := bind) (body := body) env f m (s + 1) fun k a b => h k (by omega) (by omega)
    rw [List.range'_succ, List.map_cons]
    simp only [forL, h1, r_of, r_ok, h2]
    rw [ih, show s + 1 + m = s + (m + 1) by omega]
/-- the turns of a loop over range(n) -/
theorem forL_range {bind : PyData → EnvD → Option EnvD} {body : EnvD → Rs Fl} (env : Nat → EnvD) (n : Nat) (h : ∀ k, k < n → ∃ e, bind (.int (k : Int)) (env k) = some e ∧ body e = .ok (.nx (env (k + 1)))) : forL bind body ((List.range n).map fun (k : Nat) => PyData.int (k : Int)) (env 0) = .ok (.nx (env n)) := by
  have := forL_from (bind := bind) (body := body) env (fun k => .int (k : Int)) n 0 fun k _ hk => h k (by omega)
  rw [Nat.zero_add] at this
  rw [List.range_eq_range']
  exact this
/-- the loop's own slot ahead of turn k -/
def lv (s : SV) : Nat → SV
  | 0 => s
  | k + 1 => sv0 (.int (k : Int))
theorem lv_free {s : SV} (h : FreeS s) : ∀ k, FreeS (lv s k)
  | 0 => h
  | _ + 1 => .inr ⟨_, _, rfl⟩
theorem fr_sv0 (d : PyData) : FreeS (sv0 d) := .inr ⟨_, _, rfl⟩
theorem map_int_get {xs : List Int} {k : Nat} {x : Int} (h : xs[k]? = some x) : (xs.map PyData.int)[k]? = some (.int x) := by rw [List.getElem?_map, h]; rfl
/-- an argument is a value, the next is lent -/
theorem ev_callVL {c : Orc} {f i : Nat} {a : E} {env : EnvD} {l : Bool} {k : Nat} {d v r d' : PyData} {k' : Nat} {x : SV} (h0 : env[i]? = some (.sv l k d)) (ha : ev c a 0 env = .ok (v, env))
    (hf : c.fn f [.sv false 0 v, .sv true k d] = .ok (r, [x, .sv true k' d'])) : ev c (.call f none (.v a (.l i .nil))) 0 env = .ok (r, env.set i (.sv l k' d')) := by
  have hs : slot env i = some (k, d) := by simp [slot, h0]
  simp only [ev, evR, hs, Option.isSome_some, if_true, ha, r_ok]
  unfold callD
  rw [if_pos (by simp [lents])]
  simp only [lents, argSV, h0, Option.map_some, Option.bind_some, permD, r_of, r_ok, hf]
  rw [if_pos (.inr (.inl trivial))]
  cases x <;> simp only [lentBack, h0]
theorem map_getD {α : Type} {xs : List α} {φ : α → PyData} {k : Nat} {x : α} (h : xs[k]? = some x) : (xs.map φ).getD k .none = φ x := by
  simp [List.getD, h]
/-- a def that returns -/
theorem fn_rt {p : Prg} {m i : Nat} {D : Def} {as : List SV} (env0 : EnvD) {d : PyData} {e : EnvD} {r : List SV} (hD : p.defs[i]? = some D) (hl : lentOk D.F.lo as = true) (he : as ++ List.replicate (D.F.n - as.length) SV.un = env0) (g : exs (p.orc m) D.F.ret D.F.body env0 = .ok (.rt d e)) (hr : finD e D.F.np = r) : (p.orc (m + 1)).fn i as = .ok (d, r) := by
  rw [fn_eq hD hl, he, g, ← hr]
  rfl
theorem callV_rt {p : Prg} {m i : Nat} {D : Def} {ds : List PyData} (env0 : EnvD) {d : PyData} {e : EnvD} (hD : p.defs[i]? = some D) (hl : lentOk D.F.lo (svs ds) = true) (he : svs ds ++ List.replicate (D.F.n - ds.length) SV.un = env0) (g : exs (p.orc m) D.F.ret D.F.body env0 = .ok (.rt d e)) : callV (p.orc (m + 1)) i ds = .ok d := by
  rw [callV_eq hD hl, he, g]
  rfl
theorem cut_from (xs : List PyData) (n : Nat) (h : n ≤ xs.length) : cutD xs (some (n : Int)) none = xs.drop n := by
  unfold cutD
  rw [HT.sIx_nat, HT.sIx_none, Nat.min_eq_left h]
  rw [List.take_of_length_le (by simp)]
theorem cut_to (xs : List PyData) (n : Nat) (h : n ≤ xs.length) : cutD xs none (some (n : Int)) = xs.take n := by
  unfold cutD
  rw [HT.sIx_nat, HT.sIx_none, Nat.min_eq_left h]
  simp
theorem readR_sz {ts : List Rat} {r : Rl} (h : ∀ {R : List Int} {s : Nat}, (∀ x ∈ R, x.natAbs < 2 ^ s) → (lin ts R).num.natAbs < 2 ^ (s + 36)) : ∀ {es R : List Int} {s : Nat}, (∀ x ∈ R, x.natAbs < 2 ^ s) → (∀ e ∈ es, e.natAbs < 16) → ∀ x ∈ readR ts r R es, x.natAbs < 2 ^ (s + 38 * es.length)
  | [], R, s, hR, he, x, hx => by simp [readR] at hx
  | e :: es, R, s, hR, he, x, hx => by
    have h1 := rnd_size r (lin ts R) (h hR)
    have h2 := he e (List.mem_cons_self ..)
    have hv : (e + rnd r (lin ts R)).natAbs < 2 ^ (s + 38) := by
      have e1 : (2 : Nat) ^ (s + 38) = 2 ^ (s + 36) * 4 := by rw [show s + 38 = (s + 36) + 2 by omega, Nat.pow_add]
      have e2 : (2 : Nat) ^ 36 ≤ 2 ^ (s + 36) := Nat.pow_le_pow_right (by decide) (by omega)
      have e3 : (2 : Nat) ^ 36 = 68719476736 := by decide
      omega
    have hle : 2 ^ (s + 38) ≤ 2 ^ (s + 38 * (e :: es).length) := Nat.pow_le_pow_right (by decide) (by simp; omega)
    simp only [readR, List.mem_cons] at hx
    rcases hx with rfl | hx
    · exact Nat.lt_of_lt_of_le hv hle
    · have := readR_sz h (es := es) (R := (e + rnd r (lin ts R)) :: R) (s := s + 38) (fun y hy => by
        rcases List.mem_cons.mp hy with rfl | hy
        · exact hv
        · exact Nat.lt_of_lt_of_le (hR y hy) (Nat.pow_le_pow_right (by decide) (by omega))) (fun y hy => he y (List.mem_cons_of_mem _ hy)) x hx
      rw [show s + 38 * (e :: es).length = s + 38 + 38 * es.length by simp; omega]
      exact this
theorem readR_len {ts : List Rat} {r : Rl} : ∀ {es R : List Int}, (readR ts r R es).length = es.length
  | [], _ => rfl
  | e :: es, R => by simp [readR, readR_len]
theorem for_e {c : Orc} {rk : Nat} {tg : Tg} {b : Ss} {p : P} {env env' : EnvD} {d : PyData} {xs : List PyData} (h1 : evPk c p 0 env = some (d, env')) (h2 : itemsD d = some xs) : exS c rk (.for tg (.e (.p p)) b) env = forL (bindT tg) (exs c rk b) xs env' := by
  simp only [exS, evI, ev_p, h1, r_of, r_ok, h2]
theorem for_it {c : Orc} {rk : Nat} {tg : Tg} {it : It} {b : Ss} {env env' : EnvD} {xs : List PyData} (h : evI c it env = .ok (xs, env')) : exS c rk (.for tg it b) env = forL (bindT tg) (exs c rk b) xs env' := by
  simp only [exS, h, r_ok]
theorem ev_kadd {c : Orc} {f : Nat} {ar : Ar} {en en' : EnvD} {n a : Int} (h : ev c (.call f none ar) 0 en = .ok (.int n, en')) : ev c (.b2 .add (.p (.k (.int a))) (.call f none ar)) 0 en = .ok (.int (a + n), en') := by
  simp [ev_b2, ev_p, evPk, evP, opd2, opd, fin, lateE, isP, toP, finO, g2, Fx.b2, own1, isCont, h, r_of, r_ok]
theorem ev_subk {c : Orc} {f : Nat} {ar : Ar} {en en' : EnvD} {n a : Int} (h : ev c (.call f none ar) 0 en = .ok (.int n, en')) : ev c (.b2 .sub (.call f none ar) (.p (.k (.int a)))) 0 en = .ok (.int (n - a), en') := by
  simp [ev_b2, ev_p, evPk, evPb, evP, opd2, opd, fin, lateE, isP, toP, finO, g2, Fx.b2, own1, isCont, h, r_of, r_ok]
theorem evI_range {c : Orc} {e : E} {env env' : EnvD} {n : Int} {xs : List PyData} (h1 : ev c e 0 env = .ok (.int n, env')) (h2 : rangeD [.int n] = some xs) : evI c (.range (.cons e .nil)) env = .ok (xs, env') := by
  simp only [evI, evs, h1, r_of, r_ok, h2]
theorem evI_rangeN {c : Orc} {e : E} {env env' : EnvD} (n : Nat) (h1 : ev c e 0 env = .ok (.int (n : Int), env')) (hn : n ≤ 100000000) : evI c (.range (.cons e .nil)) env = .ok ((List.range n).map fun (k : Nat) => PyData.int (k : Int), env') := evI_range h1 (len_range n hn)
theorem evI_e {c : Orc} {e : E} {env env' : EnvD} {d : PyData} {xs : List PyData} (h1 : ev c e 0 env = .ok (d, env')) (h2 : itemsD d = some xs) : evI c (.e e) env = .ok (xs, env') := by
  simp only [evI, h1, r_of, r_ok, h2]
theorem ev_ite_t {c : Orc} {t : Tt} {a b : E} {k : Nat} {env env1 : EnvD} {r : PyData × EnvD} (ht : evT c t env = .ok (true, env1)) (h : ev c a k env1 = .ok r) : ev c (.ite t a b) k env = .ok r := by
  rw [ev_ite, ht, r_ok]
  exact h
theorem ev_ite_f {c : Orc} {t : Tt} {a b : E} {k : Nat} {env env1 : EnvD} {r : PyData × EnvD} (ht : evT c t env = .ok (false, env1)) (h : ev c b k env1 = .ok r) : ev c (.ite t a b) k env = .ok r := by
  rw [ev_ite, ht, r_ok]
  exact h
theorem cmp_k {c : Orc} {o : C2} {f : Nat} {ar : Ar} {en en' : EnvD} {n a : Int} {w : Bool} (h : ev c (.call f none ar) 0 en = .ok (.int n, en')) (hw : Fx.c2 o (.int n) (.int a) = some w) : evT c (.c2 o (.call f none ar) (.p (.k (.int a)))) en = .ok (w, en') := by
  simp [evT, ev_p, evPk, evPb, evP, opd2, opd, fin, lateE, isP, toP, finO, g2, c2B, isCont, h, hw, r_of, r_ok]
theorem s_iff_t {c : Orc} {rk : Nat} {t : Tt} {a b : Ss} {env env1 : EnvD} (ht : evT c t env = .ok (true, env1)) : exS c rk (.iff t a b) env = exs c rk a env1 := by
  simp only [exS, ht, r_ok, if_true]
theorem s_iff_f {c : Orc} {rk : Nat} {t : Tt} {a b : Ss} {env env1 : EnvD} (ht : evT c t env = .ok (false, env1)) : exS c rk (.iff t a b) env = exs c rk b env1 := by
  simp only [exS, ht, r_ok]
  rfl
theorem exs_nil (c : Orc) (rk : Nat) (env : EnvD) : exs c rk .nil env = .ok (.nx env) := by simp only [exs]
theorem ev_at {c : Orc} {i : Nat} {env : EnvD} {l : Bool} {d : PyData} (h : env[i]? = some (.sv l 0 d)) : ev c (.p (.at i)) 0 env = .ok (d, env) := by
  simp [ev_p, evPk, evP, slot, h, r_of]
theorem ev_k {c : Orc} {d : PyData} {env : EnvD} (h : isCont d = false) : ev c (.p (.k d)) 0 env = .ok (d, env) := by
  simp [ev_p, evPk, evP, h, r_of]
theorem mul_at {c : Orc} {env : EnvD} {i : Nat} {l : Bool} {d0 d : PyData} {n : Int} (hc : isCont d0 = false) (h : env[i]? = some (.sv l 0 (.int n))) (hb : Fx.b2 .mul (.list [d0]) (.int n) = some d) : ev c (.b2 .mul (.lst (.cons (.p (.k d0)) .nil)) (.p (.at i))) 0 env = .ok (d, env) := by
  have e : (1 : Nat) ≤ 16777216 := by decide
  simp [ev_b2, ev_lst, evs, ev_p, evPk, evPb, evP, slot, h, hc, opd2, opd, fin, lateE, isP, toP, finO, g2, hb, own1, isCont, r_of, r_ok]
theorem mul_lst (a : List PyData) (b : Int) : Fx.b2 .mul (.list a) (.int b) = if b < 9223372036854775808 ∧ -9223372036854775808 ≤ b ∧ a.length * b.toNat ≤ 16777216 then some (.list (List.replicate b.toNat a).flatten) else none := rfl
theorem mul_list (n : Nat) (hn : n ≤ 1000) : Fx.b2 .mul (.list [.int 0]) (.int (n : Int)) = some (.list ((List.replicate n (0 : Int)).map .int)) := by
  have e : ∀ m, (List.replicate m [PyData.int 0]).flatten = List.replicate m (PyData.int 0) := fun m => by
    induction m with
    | zero => rfl
    | succ m ih => rw [List.replicate_succ, List.replicate_succ, List.flatten_cons, ih]; rfl
  have h1 : (n : Int) < 9223372036854775808 ∧ (-9223372036854775808 : Int) ≤ (n : Int) ∧ [PyData.int 0].length * ((n : Int)).toNat ≤ 16777216 := ⟨by omega, by omega, by simp; omega⟩
  refine (mul_lst _ _).trans ((if_pos h1).trans ?_)
  rw [Int.toNat_natCast, e, List.map_replicate]
theorem zeros_l {c : Orc} {env : EnvD} {i n : Nat} (hn : n ≤ 1000) {l : Bool} (h : env[i]? = some (.sv l 0 (.int (n : Int)))) : ev c (.b2 .mul (.lst (.cons (.p (.k (.int 0))) .nil)) (.p (.at i))) 0 env = .ok (.list ((List.replicate n (0 : Int)).map .int), env) := mul_at rfl h (mul_list n hn)
end Fx
set_option Elab.async false
set_option linter.all false
set_option maxRecDepth 100000
/-! N15: lists of draws; lists place by place. -/
namespace Fx
open PySem PySem.Spec PyProof.Rows L2
def Fr0 (s : SV) : Prop := s = .un ∨ ∃ d, s = sv0 d
theorem Fr0.fr {s : SV} (h : Fr0 s) : FreeS s := by
  rcases h with rfl | ⟨d, rfl⟩
  · exact .inl rfl
  · exact .inr ⟨0, d, rfl⟩
def eDrawS (f : Nat) (many a : Int) : E := .b2 .sub (.call f none (.l 0 (.v (.p (.k (.int many))) .nil))) (.p (.k (.int a)))
theorem drawS {c : Orc} {f : Nat} (h : DrawAt c f) {T : Tape} (hT : T.Ok) {l : Bool} (r : EnvD) {many a : Int} (hm : 0 < many) : ∃ (T' : Tape) (n : Int), T'.Ok ∧ -a ≤ n ∧ n < many - a ∧ ev c (eDrawS f many a) 0 (tS0 l T :: r) = .ok (.int n, tS0 l T' :: r) := by
  obtain ⟨T', n, h1, h2, h3, h4⟩ := ev_draw h hT (env := tS0 l T :: r) (i := 0) (a := .p (.k (.int many))) (l := l) rfl (by simp [ev_p, evPk, evP, isCont, r_of]) hm
  exact ⟨T', n - a, h1, by omega, by omega, ev_subk h4⟩
theorem lcL_draws {c : Orc} {f j : Nat} (h : DrawAt c f) {l : Bool} {r : EnvD} {many a : Int} (hm : 0 < many) (hr : r[j]? = some .un) : ∀ (ks : List PyData) (T : Tape), T.Ok → ∃ (T' : Tape) (vs : List Int), T'.Ok ∧ vs.length = ks.length ∧ (∀ v ∈ vs, -a ≤ v ∧ v < many - a) ∧
    lcL (bindT (.nm (j + 1))) [j + 1] (fun e => .ok (true, e)) (ev c (eDrawS f many a) 0) ks (tS0 l T :: r) = .ok (vs.map .int, tS0 l T' :: r)
  | [], T, hT => ⟨T, [], hT, rfl, by simp, rfl⟩
  | x :: ks, T, hT => by
    have hb : bindT (.nm (j + 1)) x (tS0 l T :: r) = some (tS0 l T :: r.set j (sv0 x)) := setS_free (i := j + 1) (s := .un) (by simpa using hr) (.inl rfl)
    obtain ⟨T1, n, o1, a1, b1, e1⟩ := drawS h hT (l := l) (r.set j (sv0 x)) (many := many) (a := a) hm
    obtain ⟨T', vs, o2, l2, s2, ih⟩ := lcL_draws (c := c) (f := f) (j := j) (l := l) h hm hr ks T1 o1
    refine ⟨T', n :: vs, o2, by simp [l2], ?_, ?_⟩
    · intro v hv
      rcases List.mem_cons.mp hv with rfl | hv
      · exact ⟨a1, b1⟩
      · exact s2 v hv
    · have hw : wipeD (tS0 l T1 :: r.set j (sv0 x)) [j + 1] = tS0 l T1 :: r := by
        simp only [wipeD, List.set_cons_succ, List.set_set]
        congr 1
        apply List.ext_getElem?
        intro i
        by_cases e : i = j
        · subst e
          rw [List.getElem?_set_self (List.getElem?_eq_some_iff.mp hr).1, hr]
        · rw [List.getElem?_set_ne (Ne.symm e)]
      simp only [lcL, hb, r_of, r_ok, Rs.noEx, e1, hw, ih, List.map_cons]
/-- a list of draws -/
theorem ev_draws {c : Orc} {f j : Nat} (h : DrawAt c f) {l : Bool} {T T1 : Tape} (hT : T1.Ok) {r : EnvD} {s : SV} (hs : r[j]? = some s) (hf : Fr0 s) {it : It} {ks : List PyData} (hi : evI c it (tS0 l T :: r) = .ok (ks, tS0 l T1 :: r)) (hn : ks.length ≤ 1000) {many a : Int} (hm : 0 < many) :
    ∃ (T' : Tape) (vs : List Int), T'.Ok ∧ vs.length = ks.length ∧ (∀ v ∈ vs, -a ≤ v ∧ v < many - a) ∧ ev c (.lc [j + 1] (.nm (j + 1)) it .nil (eDrawS f many a)) 0 (tS0 l T :: r) = .ok (.list (vs.map .int), tS0 l T' :: r) := by
  have hj : j < r.length := (List.getElem?_eq_some_iff.mp hs).1
  obtain ⟨T', vs, o, hl, hv, e⟩ := lcL_draws (c := c) (f := f) (j := j) h (l := l) (r := r.set j .un) (many := many) (a := a) hm (List.getElem?_set_self hj) ks T1 hT
  refine ⟨T', vs, o, hl, hv, ?_⟩
  have ow : ∀ T : Tape, ownOk (tS0 l T :: r) [j + 1] = true := fun T => by
    simp only [ownOk, List.all_cons, List.all_nil, Bool.and_true, List.getElem?_cons_succ, hs]
    rcases hf with rfl | ⟨d, rfl⟩ <;> rfl
  have w : wipeD (tS0 l T1 :: r) [j + 1] = tS0 l T1 :: r.set j .un := by simp [wipeD]
  have b : backD (tS0 l T1 :: r) (tS0 l T' :: r.set j .un) [j + 1] = tS0 l T' :: r := by
    simp only [backD, List.getElem?_cons_succ, hs, Option.getD_some, List.set_cons_succ, List.set_set]
    congr 1
    apply List.ext_getElem?
    intro i
    by_cases e : i = j
    · subst e
      rw [List.getElem?_set_self hj, hs]
    · rw [List.getElem?_set_ne (Ne.symm e)]
  have et : evTs c .nil = fun e => .ok (true, e) := by funext e; simp only [evTs]
  simp only [ev, et]
  rw [if_neg (by rw [ow]; simp), hi, r_ok]
  dsimp only
  rw [if_neg (by rw [ow]; simp), w, e, r_ok]
  dsimp only
  rw [if_pos (by rw [List.length_map, hl]; omega), b]
theorem ev_drawsI {c : Orc} {f : Nat} (i j : Nat) (hij : i = j + 1) (h : DrawAt c f) {l : Bool} {T T1 : Tape} (hT : T1.Ok) {r : EnvD} {s : SV} (hs : r[j]? = some s) (hf : Fr0 s) {it : It} {ks : List PyData} (hi : evI c it (tS0 l T :: r) = .ok (ks, tS0 l T1 :: r)) (hn : ks.length ≤ 1000) {many a : Int} (hm : 0 < many) :
    ∃ (T' : Tape) (vs : List Int), T'.Ok ∧ vs.length = ks.length ∧ (∀ v ∈ vs, -a ≤ v ∧ v < many - a) ∧ ev c (.lc [i] (.nm i) it .nil (eDrawS f many a)) 0 (tS0 l T :: r) = .ok (.list (vs.map .int), tS0 l T' :: r) := by
  subst hij
  exact ev_draws h hT hs hf hi hn hm
/-! ### place by place -/
theorem range_zip {f : Int → Int → Int} : ∀ {n : Nat} {xs ys : List Int}, xs.length = n → ys.length = n → (List.range n).map (fun k => f (xs.getD k 0) (ys.getD k 0)) = List.zipWith f xs ys
  | 0, xs, ys, h1, h2 => by
    have : xs = [] := List.length_eq_zero_iff.mp h1
    subst this
    rfl
  | n + 1, [], ys, h1, _ => by simp at h1
  | n + 1, _ :: _, [], _, h2 => by simp at h2
  | n + 1, x :: xs, y :: ys, h1, h2 => by
    have ih := range_zip (f := f) (n := n) (xs := xs) (ys := ys) (by simpa using h1) (by simpa using h2)
    rw [List.range_succ_eq_map]
    simp only [List.map_cons, List.map_map, List.zipWith_cons_cons, List.getD_cons_zero]
    rw [← ih]
    congr 1
theorem subL_zip : ∀ (xs ys : List Int), subL xs ys = List.zipWith (fun a b => a - b) xs ys
  | [], ys => by cases ys <;> rfl
  | x :: xs, [] => rfl
  | x :: xs, y :: ys => by simp [subL, subL_zip]
theorem subL_add : ∀ {xs ys : List Int}, xs.length = ys.length → subL (List.zipWith (fun a b => a + b) xs ys) xs = ys
  | [], [], _ => rfl
  | x :: xs, y :: ys, h => by
    have := subL_add (xs := xs) (ys := ys) (by simpa using h)
    simp only [List.zipWith_cons_cons, subL, this]
    congr 1
    omega
  | [], _ :: _, h => by simp at h
  | _ :: _, [], h => by simp at h
theorem subL_rev {xs ys : List Int} (h : xs.length = ys.length) : subL xs.reverse ys.reverse = (subL xs ys).reverse := by
  rw [subL_zip, subL_zip]
  exact (List.reverse_zipWith h).symm
theorem subL_len {xs ys : List Int} (h : xs.length = ys.length) : (subL xs ys).length = xs.length := by
  rw [subL_zip, List.length_zipWith, h, Nat.min_self]
theorem subL_sz {k : Nat} : ∀ {xs ys : List Int}, (∀ x ∈ xs, x.natAbs < 2 ^ k) → (∀ y ∈ ys, y.natAbs < 2 ^ k) → ∀ z ∈ subL xs ys, z.natAbs < 2 ^ (k + 1)
  | [], ys, _, _, z, hz => by cases ys <;> simp [subL] at hz
  | x :: xs, [], _, _, z, hz => by simp [subL] at hz
  | x :: xs, y :: ys, h1, h2, z, hz => by
    have e : 2 ^ (k + 1) = 2 * 2 ^ k := by rw [Nat.pow_succ]; omega
    rcases List.mem_cons.mp hz with rfl | hz
    · have a := h1 x (List.mem_cons_self ..)
      have b := h2 y (List.mem_cons_self ..)
      omega
    · exact subL_sz (fun u hu => h1 u (List.mem_cons_of_mem _ hu)) (fun u hu => h2 u (List.mem_cons_of_mem _ hu)) z hz
theorem addL_sz {k : Nat} : ∀ {xs ys : List Int}, (∀ x ∈ xs, x.natAbs < 2 ^ k) → (∀ y ∈ ys, y.natAbs < 2 ^ k) → ∀ z ∈ List.zipWith (fun a b => a + b) xs ys, z.natAbs < 2 ^ (k + 1)
  | [], ys, _, _, z, hz => by simp at hz
  | x :: xs, [], _, _, z, hz => by simp at hz
  | x :: xs, y :: ys, h1, h2, z, hz => by
    have e : 2 ^ (k + 1) = 2 * 2 ^ k := by rw [Nat.pow_succ]; omega
    rcases List.mem_cons.mp hz with rfl | hz
    · have a := h1 x (List.mem_cons_self ..)
      have b := h2 y (List.mem_cons_self ..)
      show (x + y).natAbs < _
      omega
    · exact addL_sz (fun u hu => h1 u (List.mem_cons_of_mem _ hu)) (fun u hu => h2 u (List.mem_cons_of_mem _ hu)) z hz
end Fx
set_option Elab.async false
set_option linter.all false
set_option maxRecDepth 100000
/-! N16: draws from a tape in any slot; calls by name; lists of fractions compared. -/
namespace Fx
open PySem PySem.Spec PyProof.Rows L2
theorem set_self {α : Type} {xs : List α} {i : Nat} {x : α} (h : xs[i]? = some x) : xs.set i x = xs := by
  apply List.ext_getElem?
  intro j
  by_cases e : j = i
  · subst e
    rw [List.getElem?_set_self (List.getElem?_eq_some_iff.mp h).1, h]
  · rw [List.getElem?_set_ne (Ne.symm e)]
theorem set_comm' {α : Type} {xs : List α} {i j : Nat} (h : i ≠ j) (a b : α) : (xs.set i a).set j b = (xs.set j b).set i a := List.set_comm a b h
def eDrawT (f i : Nat) (many a : Int) : E := .b2 .sub (.call f none (.l i (.v (.p (.k (.int many))) .nil))) (.p (.k (.int a)))
theorem drawK {c : Orc} {f i : Nat} (h : DrawAt c f) {T : Tape} (hT : T.Ok) {l : Bool} {env : EnvD} (h0 : env[i]? = some (.sv l 1 (tapeD T))) {many : Int} (hm : 0 < many) : ∃ (T' : Tape) (n : Int), T'.Ok ∧ 0 ≤ n ∧ n < many ∧ ev c (.call f none (.l i (.v (.p (.k (.int many))) .nil))) 0 env = .ok (.int n, env.set i (.sv l 1 (tapeD T'))) :=
  ev_draw h hT h0 (ev_k rfl) hm
theorem lcL_drawsT {c : Orc} {f i j : Nat} (h : DrawAt c f) (hij : i ≠ j) {l : Bool} {many a : Int} (hm : 0 < many) : ∀ (ks : List PyData) (T : Tape) (base : EnvD), base[i]? = some (.sv l 1 (tapeD T)) → base[j]? = some .un → T.Ok → ∃ (T' : Tape) (vs : List Int), T'.Ok ∧ vs.length = ks.length ∧ (∀ v ∈ vs, -a ≤ v ∧ v < many - a) ∧
    lcL (bindT (.nm j)) [j] (fun e => .ok (true, e)) (ev c (eDrawT f i many a) 0) ks base = .ok (vs.map .int, base.set i (.sv l 1 (tapeD T')))
  | [], T, base, hi, hj, hT => ⟨T, [], hT, rfl, by simp, by rw [set_self hi]; rfl⟩
  | x :: ks, T, base, hi, hj, hT => by
    have hil : i < base.length := (List.getElem?_eq_some_iff.mp hi).1
    have hjl : j < base.length := (List.getElem?_eq_some_iff.mp hj).1
    have hb : bindT (.nm j) x base = some (base.set j (sv0 x)) := setS_free hj (.inl rfl)
    obtain ⟨T1, n, o1, a1, b1, e1⟩ := drawK h hT (env := base.set j (sv0 x)) (by rw [List.getElem?_set_ne (Ne.symm hij)]; exact hi) hm
    have e2 : ev c (eDrawT f i many a) 0 (base.set j (sv0 x)) = _ := ev_subk e1
    obtain ⟨T', vs, o2, l2, s2, ih⟩ := lcL_drawsT (c := c) (f := f) (i := i) (j := j) (l := l) h hij hm ks T1 (base.set i (.sv l 1 (tapeD T1))) (List.getElem?_set_self hil) (by rw [List.getElem?_set_ne hij]; exact hj) o1
    refine ⟨T', (n - a) :: vs, o2, by simp [l2], ?_, ?_⟩
    · intro v hv
      rcases List.mem_cons.mp hv with rfl | hv
      · exact ⟨by omega, by omega⟩
      · exact s2 v hv
    · have hw : wipeD ((base.set j (sv0 x)).set i (.sv l 1 (tapeD T1))) [j] = base.set i (.sv l 1 (tapeD T1)) := by
        simp only [wipeD]
        rw [set_comm' (Ne.symm hij), List.set_set]
        exact set_self (by rw [List.getElem?_set_ne hij]; exact hj)
      rw [List.set_set] at ih
      simp only [lcL, hb, r_of, r_ok, Rs.noEx, e2, hw, ih, List.map_cons]
/-- a list of draws from the tape in slot i -/
theorem ev_drawsT {c : Orc} {f i j : Nat} (h : DrawAt c f) (hij : i ≠ j) {l : Bool} {T : Tape} (hT : T.Ok) {env env1 : EnvD} (h1 : env1[i]? = some (.sv l 1 (tapeD T))) {s s' : SV} (hs : env[j]? = some s) (hf : Fr0 s) (hs' : env1[j]? = some s') (hf' : Fr0 s') {it : It} {ks : List PyData} (hi : evI c it env = .ok (ks, env1)) (hn : ks.length ≤ 1000) {many a : Int} (hm : 0 < many) :
    ∃ (T' : Tape) (vs : List Int), T'.Ok ∧ vs.length = ks.length ∧ (∀ v ∈ vs, -a ≤ v ∧ v < many - a) ∧ ev c (.lc [j] (.nm j) it .nil (eDrawT f i many a)) 0 env = .ok (.list (vs.map .int), env1.set i (.sv l 1 (tapeD T'))) := by
  have hjl : j < env1.length := (List.getElem?_eq_some_iff.mp hs').1
  obtain ⟨T', vs, o, hl, hv, e⟩ := lcL_drawsT (c := c) (f := f) (i := i) (j := j) h hij (l := l) (many := many) (a := a) hm ks T (env1.set j .un) (by rw [List.getElem?_set_ne (Ne.symm hij)]; exact h1) (List.getElem?_set_self hjl) hT
  refine ⟨T', vs, o, hl, hv, ?_⟩
  have ow : ∀ (env : EnvD) (s : SV), env[j]? = some s → Fr0 s → ownOk env [j] = true := fun env s hs hf => by
    simp only [ownOk, List.all_cons, List.all_nil, Bool.and_true, hs]
    rcases hf with rfl | ⟨d, rfl⟩ <;> rfl
  have w : wipeD env1 [j] = env1.set j .un := by simp [wipeD]
  have b : backD env1 ((env1.set j .un).set i (.sv l 1 (tapeD T'))) [j] = env1.set i (.sv l 1 (tapeD T')) := by
    simp only [backD, hs', Option.getD_some]
    rw [set_comm' hij, List.set_set, set_self hs']
  have et : evTs c .nil = fun e => .ok (true, e) := by funext e; simp only [evTs]
  simp only [ev, et]
  rw [if_neg (by rw [ow env s hs hf]; simp), hi, r_ok]
  dsimp only
  rw [if_neg (by rw [ow env1 s' hs' hf']; simp), w, e, r_ok]
  dsimp only
  rw [if_pos (by rw [List.length_map, hl]; omega), b]
/-- the first argument is lent, the second a value whose making changes things -/
theorem ev_callL1E {c : Orc} {f i : Nat} {a : E} {env env1 : EnvD} {l : Bool} {k : Nat} {d v r d' : PyData} {k' : Nat} {x : SV} (h0 : (slot env i).isSome = true) (ha : ev c a 0 env = .ok (v, env1)) (h1 : env1[i]? = some (.sv l k d))
    (hf : c.fn f [.sv true k d, .sv false 0 v] = .ok (r, [.sv true k' d', x])) : ev c (.call f none (.l i (.v a .nil))) 0 env = .ok (r, env1.set i (.sv l k' d')) := by
  simp only [ev, evR, h0, if_true, ha, r_ok]
  unfold callD
  rw [if_pos (by simp [lents])]
  simp only [lents, argSV, h1, Option.map_some, Option.bind_some, permD, r_of, r_ok, hf]
  rw [if_pos (.inr (.inl trivial))]
  simp only [lentBack, h1]
theorem call3' {c : Orc} {f : Nat} {a b d : E} {en e1 e2 e3 : EnvD} {x y z r : PyData} (h1 : ev c a 0 en = .ok (x, e1)) (h2 : ev c b 0 e1 = .ok (y, e2)) (h3 : ev c d 0 e2 = .ok (z, e3)) (h : callV c f [x, y, z] = .ok r) : ev c (.call f none (.v a (.v b (.v d .nil)))) 0 en = .ok (r, e3) := by
  simp only [ev_call_3, evR, h1, h2, h3, r_ok, h]
/-- three arguments by name, the last first -/
theorem call3_210 {c : Orc} {f : Nat} {a b d : E} {en e1 e2 e3 : EnvD} {x y z r : PyData} (h1 : ev c a 0 en = .ok (x, e1)) (h2 : ev c b 0 e1 = .ok (y, e2)) (h3 : ev c d 0 e2 = .ok (z, e3)) (h : callV c f [z, y, x] = .ok r) : ev c (.call f (some [2, 1, 0]) (.v a (.v b (.v d .nil)))) 0 en = .ok (r, e3) := by
  unfold callV at h
  obtain ⟨q, hq, hr⟩ := Rs.bind_ok h
  cases hr
  simp only [ev, evR, h1, h2, h3, r_ok]
  unfold callD
  rw [if_pos (by simp [lents])]
  have e : permD (some [2, 1, 0]) (svs [x, y, z]) = some (svs [z, y, x]) := by
    simp [permD, svs]
  have e' : permD (some [2, 1, 0]) ([none, none, none] : List (Option Nat)) = some [none, none, none] := by simp [permD]
  have hq' : c.fn f (svs [z, y, x]) = .ok q := hq
  simp only [svs, List.map_cons, List.map_nil] at e hq'
  simp only [lents, argSV, Option.map_some, Option.bind_some, e, e', r_of, r_ok, hq']
  rw [if_pos (.inr (.inl trivial))]
  cases q with
  | mk q1 q2 => cases q2 with
    | nil => rfl
    | cons s q2 => cases q2 with
      | nil => cases s <;> rfl
      | cons s2 q2 => cases q2 with
        | nil => cases s <;> cases s2 <;> rfl
        | cons s3 q2 => cases q2 <;> cases s <;> cases s2 <;> cases s3 <;> rfl
theorem fracs_ok : ∀ ts : List Rat, PyData.canLayAll0 (ts.map frac) = true ∧ PyData.plainAll (ts.map frac) = true ∧ PyData.depthAll (ts.map frac) ≤ 4
  | [] => ⟨rfl, by simp [PyData.plainAll], by simp [PyData.depthAll]⟩
  | t :: ts => by
    obtain ⟨h1, h2, h3⟩ := fracs_ok ts
    refine ⟨?_, ?_, ?_⟩
    · simp only [List.map_cons, PyData.canLayAll0, h1, Bool.and_true]
      simp [frac, PyData.canLay0, PyData.canLayAll0]
    · simp only [List.map_cons, PyData.plainAll, h2, Bool.and_true]
      simp [frac, PyData.plain, PyData.plainAll]
    · simp only [List.map_cons, PyData.depthAll]
      have : (frac t).depth ≤ 4 := by simp [frac, PyData.depth, PyData.depthAll]
      omega
theorem fracs_eqOk (ts : List Rat) : eqOk (.list (ts.map frac)) = true := by
  obtain ⟨h1, h2, h3⟩ := fracs_ok ts
  unfold eqOk SeqAt.shaped
  have : (PyData.list (ts.map frac)).depth ≤ 64 := by
    simp only [PyData.depth]
    omega
  simp only [PyData.canLay0, PyData.plain, h1, h2, decide_eq_true this]
  rfl
theorem nil_eqOk : eqOk (.list []) = true := fracs_eqOk []
theorem fracs_nil (ts : List Rat) : Fx.c2 .eq (.list (ts.map frac)) (.list []) = some ts.isEmpty := by
  have h : Fx.c2 .eq (.list (ts.map frac)) (.list []) = if eqOk (.list (ts.map frac)) = true ∧ eqOk (.list []) = true then some (PyData.eqv (.list (ts.map frac)) (.list [])) else none := rfl
  rw [h, if_pos ⟨fracs_eqOk ts, nil_eqOk⟩]
  cases ts <;> simp [PyData.eqv, PyData.eqvAll]
end Fx
set_option Elab.async false
set_option linter.all false
set_option maxRecDepth 100000
set_option maxHeartbeats 0

namespace K49
open PySem PySem.Spec PyProof.Rows L2 Fx
def top (i : Nat) : Stmt := PySem.Challenge.pw_roundladder_k49_whole_differences_that_c.main.body.getD i (.Pass ⟨0, 0, 0, 0⟩)
def b0 : Ss :=
 (.cons (.par 0 1 0 0 (.p (.p1 .abs (.at 0))) (.p (.p1 .abs (.at 1)))) (.cons (.whl (.v (.p (.at 1)))
 (.cons (.par 0 1 0 0 (.p (.at 1)) (.b2 .mod (.p (.at 0)) (.p (.at 1)))) .nil)) (.cons (.ret (.p (.at 0))) .nil)))
def d0 : Def := ⟨"divisor", top 1, ["one", "other"], ["one", "other"], ⟨2, 2, [false, false], 0, b0⟩⟩
def b1 : Ss :=
 (.cons (.ret (.b2 .mul (.b2 .fdiv (.p (.at 0)) (.call 0 none (.v (.p (.at 0)) (.v (.p (.at 1)) .nil)))) (.p (.at 1)))) .nil)
def d1 : Def := ⟨"multiple", top 2, ["one", "other"], ["one", "other"], ⟨2, 2, [false, false], 0, b1⟩⟩
def b2 : Ss :=
 (.cons (.as (.nm 1) 0 (.p (.k (.int 1)))) (.cons (.for (.tp (.cons (.nm 2) (.cons (.nm 3) .nil))) (.e (.p (.at 0)))
 (.cons (.as (.nm 1) 0 (.call 1 none (.v (.p (.at 1)) (.v (.p (.at 3)) .nil)))) .nil)) (.cons (.ret (.tup (.cons (.p (.at 1)) (.cons (.lc [2, 3] (.tp (.cons (.nm 2) (.cons (.nm 3) .nil))) (.e (.p (.at 0))) .nil (.b2 .mul (.p (.at 2)) (.b2 .fdiv (.p (.at 1)) (.p (.at 3))))) .nil)))) .nil)))
def d2 : Def := ⟨"whole_taps", top 4, ["taps", "below", "above", "under"], ["taps"], ⟨1, 4, [false], 0, b2⟩⟩
def b3 : Ss :=
 (.cons (.ret (.gen .sum (.tp (.cons (.nm 2) (.cons (.nm 3) .nil))) (.enum (.p (.at 0))) [] (.p (.b2 .mul (.at 3) (.ix (.at 1) (.b2 .sub (.p1 .neg (.k (.int 1))) (.at 2))))))) .nil)
def d3 : Def := ⟨"tapped", top 5, ["numbers", "before", "at", "tap"], ["numbers", "before"], ⟨2, 4, [false, true], 0, b3⟩⟩
def b4 : Ss :=
 (.cons (.as (.tp (.cons (.nm 5) (.cons (.nm 6) .nil))) 0 (.call 2 none (.v (.p (.ix (.at 0) (.k (.int 0)))) .nil))) (.cons (.as (.nm 3) 1 (.bi .list (.cons (.p (.at 1)) .nil))) (.cons (.for (.nm 4) (.e (.p (.at 2)))
 (.cons (.iff (.c2 .ge (.bi .abs (.cons (.b2 .sub (.b2 .mul (.p (.at 4)) (.p (.at 5))) (.call 3 none (.v (.p (.at 6)) (.l 3 .nil)))) .nil)) (.p (.at 5)))
  (.cons (.ret (.p (.k (.bool false)))) .nil)
  .nil) (.cons (.ex (.mu .append 3 [] 0 (.cons (.p (.at 4)) .nil))) .nil))) (.cons (.ret (.p (.k (.bool true)))) .nil))))
def d4 : Def := ⟨"can_differ", top 6, ["predictor", "past", "later", "row", "number", "below", "whole"], ["predictor", "past", "later"], ⟨3, 7, [false, false, false], 0, b4⟩⟩
def b5 : Ss :=
 (.cons (.as (.nm 2) 0 (.b2 .mod (.p (.p1 .int (.b2 .add (.b2 .add (.b2 .mul (.at 0) (.k (.int 48271))) (.b2 .mul (.at 1) (.k (.int 69621)))) (.k (.int 11))))) (.p (.k (.int 2147483647))))) (.cons (.as (.nm 3) 0 (.b2 .mod (.p (.p1 .int (.b2 .add (.b2 .add (.b2 .mul (.at 2) (.k (.int 16807))) (.b2 .fdiv (.at 2) (.k (.int 127773)))) (.b2 .mul (.at 1) (.k (.int 271)))))) (.p (.k (.int 1000003))))) (.cons (.ret (.b2 .mod (.p (.p1 .int (.b2 .add (.b2 .mul (.at 3) (.at 3)) (.b2 .fdiv (.at 2) (.k (.int 1009)))))) (.p (.k (.int 999983))))) .nil)))
def d5 : Def := ⟨"_law_mixed", top 8, ["number", "trip", "first", "second"], ["number", "trip"], ⟨2, 4, [false, false], 0, b5⟩⟩
def b6 : Ss :=
 (.cons (.ret (.dlit [.inr "cells", .inr "at", .inr "great", .inr "left", .inr "seed", .inr "turn"] (.cons (.bi .list (.cons (.p (.at 0)) .nil)) (.cons (.p (.k (.int 0))) (.cons (.p (.k (.int 0))) (.cons (.p (.k (.int 0))) (.cons (.p (.k (.int 7))) (.cons (.p (.k (.int 0))) .nil)))))))) .nil)
def d6 : Def := ⟨"_law_tape", top 9, ["script"], ["script"], ⟨1, 1, [false], 1, b6⟩⟩
def b7 : Ss :=
 (.cons (.dput 0 (.k (.str "turn")) 0 (.b2 .add (.p (.ix (.at 0) (.k (.str "turn")))) (.p (.k (.int 1))))) (.cons (.iff (.and (.c2 .eq (.p (.ix (.at 0) (.k (.str "left")))) (.p (.k (.int 0)))) (.c2 .lt (.p (.ix (.at 0) (.k (.str "at")))) (.p (.p1 .len (.ix (.at 0) (.k (.str "cells")))))))
 (.cons (.as (.nm 3) 0 (.p (.ix (.ix (.at 0) (.k (.str "cells"))) (.ix (.at 0) (.k (.str "at")))))) (.cons (.dput 0 (.k (.str "at")) 0 (.b2 .add (.p (.ix (.at 0) (.k (.str "at")))) (.p (.k (.int 1))))) (.cons (.dput 0 (.k (.str "seed")) 0 (.call 5 none (.v (.b2 .add (.p (.ix (.at 0) (.k (.str "seed")))) (.p (.at 3))) (.v (.p (.ix (.at 0) (.k (.str "at")))) .nil)))) (.cons (.dput 0 (.k (.str "left")) 0 (.p (.k (.int 4)))) (.cons (.iff (.c2 .ge (.p (.at 3)) (.b2 .pow (.p (.k (.int 10))) (.p (.k (.int 18)))))
  (.cons (.dput 0 (.k (.str "great")) 0 (.p (.at 3))) (.cons (.dput 0 (.k (.str "left")) 0 (.p (.k (.int 60)))) .nil))
  .nil) .nil)))))
 .nil) (.cons (.iff (.c2 .gt (.p (.ix (.at 0) (.k (.str "left")))) (.p (.k (.int 0))))
 (.cons (.dput 0 (.k (.str "left")) 0 (.b2 .sub (.p (.ix (.at 0) (.k (.str "left")))) (.p (.k (.int 1))))) .nil)
 .nil) (.cons (.iff (.c2 .eq (.p (.ix (.at 0) (.k (.str "great")))) (.p (.k (.int 0))))
 (.cons (.ret (.b2 .mod (.bi .int (.cons (.call 5 none (.v (.p (.ix (.at 0) (.k (.str "seed")))) (.v (.p (.ix (.at 0) (.k (.str "turn")))) .nil))) .nil)) (.p (.at 1)))) .nil)
 .nil) (.cons (.as (.nm 2) 0 (.b2 .mod (.p (.p1 .int (.ix (.at 0) (.k (.str "great"))))) (.p (.k (.int 1009))))) (.cons (.dput 0 (.k (.str "great")) 0 (.b2 .fdiv (.p (.ix (.at 0) (.k (.str "great")))) (.p (.k (.int 1009))))) (.cons (.iff (.or (.c2 .eq (.p (.ix (.at 0) (.k (.str "great")))) (.p (.k (.int 0)))) (.c2 .eq (.p (.ix (.at 0) (.k (.str "left")))) (.p (.k (.int 0)))))
 (.cons (.dput 0 (.k (.str "great")) 0 (.p (.k (.int 0)))) (.cons (.dput 0 (.k (.str "left")) 0 (.p (.k (.int 0)))) .nil))
 .nil) (.cons (.ret (.b2 .mod (.p (.p1 .int (.at 2))) (.p (.at 1)))) .nil))))))))
def d7 : Def := ⟨"_law_draw", top 10, ["tape", "many", "digit", "cell"], ["tape", "many"], ⟨2, 4, [true, false], 0, b7⟩⟩
def b8 : Ss :=
 (.cons (.iff (.v (.isa .tuple (.p (.at 1))))
 (.cons (.iff (.or (.not (.v (.isa .tuple (.p (.at 0))))) (.c2 .ne (.p (.p1 .len (.at 0))) (.p (.p1 .len (.at 1)))))
  (.cons (.ret (.p (.k (.bool false)))) .nil)
  .nil) (.cons (.for (.nm 2) (.range (.cons (.p (.p1 .len (.at 1))) .nil))
  (.cons (.iff (.not (.v (.call 8 none (.v (.p (.ix (.at 0) (.at 2))) (.v (.p (.ix (.at 1) (.at 2))) .nil)))))
   (.cons (.ret (.p (.k (.bool false)))) .nil)
   .nil) .nil)) (.cons (.ret (.p (.k (.bool true)))) .nil)))
 .nil) (.cons (.iff (.isN (.p (.at 1)) false)
 (.cons (.ret (.isN (.p (.at 0)) false)) .nil)
 .nil) (.cons (.iff (.v (.isa .str (.p (.at 1))))
 (.cons (.ret (.and (.isa .str (.p (.at 0))) (.c2 .eq (.p (.at 0)) (.p (.at 1))))) .nil)
 .nil) (.cons (.iff (.v (.isa .bool (.p (.at 1))))
 (.cons (.ret (.and (.isa .bool (.p (.at 0))) (.c2 .eq (.p (.at 0)) (.p (.at 1))))) .nil)
 .nil) (.cons (.ret (.and (.isa .int (.p (.at 0))) (.and (.not (.isa .bool (.p (.at 0)))) (.c2 .eq (.p (.at 0)) (.p (.at 1)))))) .nil)))))
def d8 : Def := ⟨"_law_same", top 11, ["actual", "due", "k"], ["actual", "due"], ⟨2, 3, [false, false], 0, b8⟩⟩
def b9 : Ss :=
 (.cons (.par 3 4 0 0 (.p (.p1 .abs (.at 0))) (.p (.p1 .abs (.at 1)))) (.cons (.for (.nm 2) (.range (.cons (.p (.k (.int 100000))) .nil))
 (.cons (.iff (.c2 .eq (.p (.at 4)) (.p (.k (.int 0))))
  (.cons .brk .nil)
  .nil) (.cons (.par 3 4 0 0 (.p (.at 4)) (.b2 .mod (.p (.p1 .int (.at 3))) (.p (.at 4)))) .nil))) (.cons (.ret (.ite (.c2 .gt (.p (.at 1)) (.p (.k (.int 0)))) (.tup (.cons (.b2 .fdiv (.p (.at 0)) (.p (.at 3))) (.cons (.b2 .fdiv (.p (.at 1)) (.p (.at 3))) .nil))) (.tup (.cons (.b2 .sub (.p (.k (.int 0))) (.b2 .fdiv (.p (.at 0)) (.p (.at 3)))) (.cons (.b2 .sub (.p (.k (.int 0))) (.b2 .fdiv (.p (.at 1)) (.p (.at 3)))) .nil))))) .nil)))
def d9 : Def := ⟨"_law_fr", top 12, ["a", "b", "trip", "one", "other"], ["a", "b"], ⟨2, 5, [false, false], 0, b9⟩⟩
def b10 : Ss :=
 (.cons (.ret (.call 9 none (.v (.b2 .add (.b2 .mul (.p (.ix (.at 0) (.k (.int 0)))) (.p (.ix (.at 1) (.k (.int 1))))) (.b2 .mul (.p (.ix (.at 1) (.k (.int 0)))) (.p (.ix (.at 0) (.k (.int 1)))))) (.v (.b2 .mul (.p (.ix (.at 0) (.k (.int 1)))) (.p (.ix (.at 1) (.k (.int 1))))) .nil)))) .nil)
def d10 : Def := ⟨"_law_plus", top 13, ["a", "b"], ["a", "b"], ⟨2, 2, [false, false], 0, b10⟩⟩
def b11 : Ss :=
 (.cons (.ret (.call 9 none (.v (.b2 .sub (.b2 .mul (.p (.ix (.at 0) (.k (.int 0)))) (.p (.ix (.at 1) (.k (.int 1))))) (.b2 .mul (.p (.ix (.at 1) (.k (.int 0)))) (.p (.ix (.at 0) (.k (.int 1)))))) (.v (.b2 .mul (.p (.ix (.at 0) (.k (.int 1)))) (.p (.ix (.at 1) (.k (.int 1))))) .nil)))) .nil)
def d11 : Def := ⟨"_law_minus", top 14, ["a", "b"], ["a", "b"], ⟨2, 2, [false, false], 0, b11⟩⟩
def b12 : Ss :=
 (.cons (.ret (.call 9 none (.v (.b2 .mul (.p (.ix (.at 0) (.k (.int 0)))) (.p (.ix (.at 1) (.k (.int 0))))) (.v (.b2 .mul (.p (.ix (.at 0) (.k (.int 1)))) (.p (.ix (.at 1) (.k (.int 1))))) .nil)))) .nil)
def d12 : Def := ⟨"_law_of_both", top 15, ["a", "b"], ["a", "b"], ⟨2, 2, [false, false], 0, b12⟩⟩
def b13 : Ss :=
 (.cons (.as (.tp (.cons (.nm 2) (.cons (.nm 3) .nil))) 0 (.p (.at 1))) (.cons (.iff (.c2 .eq (.p (.at 0)) (.p (.k (.str "down"))))
 (.cons (.ret (.b2 .fdiv (.p (.at 2)) (.p (.at 3)))) .nil)
 .nil) (.cons (.iff (.c2 .eq (.p (.at 0)) (.p (.k (.str "up"))))
 (.cons (.ret (.b2 .sub (.p (.k (.int 0))) (.b2 .fdiv (.b2 .sub (.p (.k (.int 0))) (.p (.at 2))) (.p (.at 3))))) .nil)
 .nil) (.cons (.iff (.c2 .eq (.p (.at 0)) (.p (.k (.str "near"))))
 (.cons (.ret (.b2 .fdiv (.b2 .add (.b2 .mul (.p (.k (.int 2))) (.p (.at 2))) (.p (.at 3))) (.b2 .mul (.p (.k (.int 2))) (.p (.at 3))))) .nil)
 .nil) (.cons (.ret (.b2 .sub (.p (.k (.int 0))) (.b2 .fdiv (.b2 .sub (.p (.at 3)) (.b2 .mul (.p (.k (.int 2))) (.p (.at 2)))) (.b2 .mul (.p (.k (.int 2))) (.p (.at 3)))))) .nil)))))
def d13 : Def := ⟨"_law_round", top 16, ["rule", "v", "a", "b"], ["rule", "v"], ⟨2, 4, [false, false], 0, b13⟩⟩
def b14 : Ss :=
 (.cons (.as (.nm 2) 1 (.lst .nil)) (.cons (.for (.nm 3) (.range (.cons (.b2 .add (.p (.k (.int 1))) (.call 7 none (.l 0 (.v (.p (.at 1)) .nil)))) .nil))
 (.cons (.ex (.mu .append 2 [] 0 (.cons (.call 9 none (.v (.b2 .sub (.call 7 none (.l 0 (.v (.p (.k (.int 7))) .nil))) (.p (.k (.int 3)))) (.v (.ix (.lst (.cons (.p (.k (.int 1))) (.cons (.p (.k (.int 1))) (.cons (.p (.k (.int 2))) (.cons (.p (.k (.int 3))) (.cons (.p (.k (.int 4))) (.cons (.p (.k (.int 7))) .nil))))))) (.call 7 none (.l 0 (.v (.p (.k (.int 6))) .nil)))) .nil))) .nil))) .nil)) (.cons (.iff (.c2 .eq (.p (.ix (.ix (.at 2) (.p1 .neg (.k (.int 1)))) (.k (.int 0)))) (.p (.k (.int 0))))
 (.cons (.put 2 [] (.p1 .neg (.k (.int 1))) 0 (.ix (.lst (.cons (.tup (.cons (.p (.k (.int 1))) (.cons (.p (.k (.int 1))) .nil))) (.cons (.tup (.cons (.p (.p1 .neg (.k (.int 1)))) (.cons (.p (.k (.int 1))) .nil))) (.cons (.tup (.cons (.p (.k (.int 1))) (.cons (.p (.k (.int 2))) .nil))) (.cons (.tup (.cons (.p (.p1 .neg (.k (.int 2)))) (.cons (.p (.k (.int 3))) .nil))) .nil))))) (.call 7 none (.l 0 (.v (.p (.k (.int 4))) .nil))))) .nil)
 .nil) (.cons (.ret (.tup (.cons (.bi .tuple (.cons (.p (.at 2)) .nil)) (.cons (.ix (.lst (.cons (.p (.k (.str "down"))) (.cons (.p (.k (.str "up"))) (.cons (.p (.k (.str "near"))) (.cons (.p (.k (.str "low"))) .nil))))) (.call 7 none (.l 0 (.v (.p (.k (.int 4))) .nil)))) .nil)))) .nil))))
def d14 : Def := ⟨"_law_predictor", top 17, ["tape", "most", "taps", "k"], ["tape", "most"], ⟨2, 4, [true, false], 0, b14⟩⟩
def b15 : Ss :=
 (.cons (.as (.nm 2) 0 (.tup (.cons (.p (.k (.int 0))) (.cons (.p (.k (.int 1))) .nil)))) (.cons (.for (.nm 3) (.range (.cons (.p (.p1 .len (.at 0))) .nil))
 (.cons (.as (.nm 2) 0 (.call 10 none (.v (.p (.at 2)) (.v (.call 12 none (.v (.p (.ix (.at 0) (.at 3))) (.v (.tup (.cons (.p (.ix (.at 1) (.b2 .sub (.b2 .sub (.p1 .len (.at 1)) (.k (.int 1))) (.at 3)))) (.cons (.p (.k (.int 1))) .nil))) .nil))) .nil)))) .nil)) (.cons (.ret (.p (.at 2))) .nil)))
def d15 : Def := ⟨"_law_exact", top 18, ["taps", "before", "total", "k"], ["taps", "before"], ⟨2, 4, [false, true], 0, b15⟩⟩
def b16 : Ss :=
 (.cons (.as (.tp (.cons (.nm 5) (.cons (.nm 6) .nil))) 0 (.p (.at 0))) (.cons (.as (.nm 3) 1 (.bi .list (.cons (.p (.at 1)) .nil))) (.cons (.for (.nm 4) (.e (.p (.at 2)))
 (.cons (.ex (.mu .append 3 [] 0 (.cons (.b2 .add (.p (.at 4)) (.call 13 none (.v (.p (.at 6)) (.v (.call 15 none (.v (.p (.at 5)) (.l 3 .nil))) .nil)))) .nil))) .nil)) (.cons (.ret (.sl (.p (.at 3)) (.some (.p (.p1 .len (.at 1)))) .none)) .nil))))
def d16 : Def := ⟨"_law_read", top 19, ["predictor", "past", "errors", "rows", "error", "taps", "rule"], ["predictor", "past", "errors"], ⟨3, 7, [false, false, false], 0, b16⟩⟩
def b17 : Ss :=
 (.cons (.as (.nm 3) 1 (.bi .list (.cons (.p (.at 1)) .nil))) (.cons (.for (.nm 4) (.e (.p (.at 2)))
 (.cons (.as (.nm 5) 0 (.call 11 none (.v (.tup (.cons (.p (.at 4)) (.cons (.p (.k (.int 1))) .nil))) (.v (.call 15 none (.v (.p (.ix (.at 0) (.k (.int 0)))) (.l 3 .nil))) .nil)))) (.cons (.iff (.c2 .ge (.p (.p1 .abs (.ix (.at 5) (.k (.int 0))))) (.p (.ix (.at 5) (.k (.int 1)))))
  (.cons (.ret (.p (.k (.bool false)))) .nil)
  .nil) (.cons (.ex (.mu .append 3 [] 0 (.cons (.p (.at 4)) .nil))) .nil)))) (.cons (.ret (.p (.k (.bool true)))) .nil)))
def d17 : Def := ⟨"_law_can_come", top 20, ["predictor", "past", "later", "rows", "one", "away"], ["predictor", "past", "later"], ⟨3, 6, [false, false, false], 0, b17⟩⟩
def b18 : Ss :=
 (.cons (.as (.nm 2) 0 (.p (.p1 .len (.ix (.at 1) (.k (.int 0)))))) (.cons (.as (.nm 3) 0 (.lc [8] (.nm 8) (.range (.cons (.p (.at 2)) .nil)) .nil (.b2 .sub (.call 7 none (.l 0 (.v (.p (.k (.int 21))) .nil))) (.p (.k (.int 10)))))) (.cons (.as (.nm 4) 0 (.ite (.c2 .gt (.call 7 none (.l 0 (.v (.p (.k (.int 8))) .nil))) (.p (.k (.int 0)))) (.lc [8] (.nm 8) (.range (.cons (.p (.at 2)) .nil)) .nil (.b2 .sub (.call 7 none (.l 0 (.v (.p (.k (.int 7))) .nil))) (.p (.k (.int 3))))) (.b2 .mul (.lst (.cons (.p (.k (.int 0))) .nil)) (.p (.at 2))))) (.cons (.iff (.c2 .eq (.call 7 none (.l 0 (.v (.p (.k (.int 6))) .nil))) (.p (.k (.int 0))))
 (.cons (.as (.tp (.cons (.nm 3) (.cons (.nm 4) .nil))) 0 (.tup (.cons (.lc [6] (.nm 6) (.e (.p (.at 3))) .nil (.b2 .mul (.p (.at 6)) (.b2 .add (.b2 .pow (.p (.k (.int 10))) (.p (.k (.int 12)))) (.p (.k (.int 1)))))) (.cons (.lc [6] (.nm 6) (.e (.p (.at 4))) .nil (.b2 .mul (.p (.at 6)) (.b2 .add (.b2 .pow (.p (.k (.int 10))) (.p (.k (.int 9)))) (.p (.k (.int 7)))))) .nil)))) .nil)
 .nil) (.cons (.as (.nm 5) 0 (.lc [8] (.nm 8) (.range (.cons (.b2 .add (.p (.k (.int 1))) (.call 7 none (.l 0 (.v (.p (.k (.int 6))) .nil)))) .nil)) .nil (.b2 .sub (.call 7 none (.l 0 (.v (.p (.k (.int 9))) .nil))) (.p (.k (.int 4)))))) (.cons (.as (.nm 6) 0 (.call 16 none (.v (.p (.at 1)) (.v (.p (.at 3)) (.v (.p (.at 5)) .nil))))) (.cons (.as (.nm 7) 0 (.call 16 none (.v (.p (.at 1)) (.v (.lc [8] (.nm 8) (.range (.cons (.p (.at 2)) .nil)) .nil (.b2 .add (.p (.ix (.at 3) (.at 8))) (.p (.ix (.at 4) (.at 8))))) (.v (.p (.at 5)) .nil))))) (.cons (.ret (.tup (.cons (.bi .tuple (.cons (.p (.at 4)) .nil)) (.cons (.bi .tuple (.cons (.lc [8] (.nm 8) (.range (.cons (.p (.p1 .len (.at 5))) .nil)) .nil (.b2 .sub (.p (.ix (.at 7) (.at 8))) (.p (.ix (.at 6) (.at 8))))) .nil)) .nil)))) .nil))))))))
def d18 : Def := ⟨"_law_rows", top 21, ["tape", "predictor", "many", "true", "past", "errors", "one", "other", "k"], ["tape", "predictor"], ⟨2, 9, [true, false], 0, b18⟩⟩
def b19 : Ss :=
 (.cons (.as (.nm 1) 1 (.call 6 none (.v (.p (.at 0)) .nil))) (.cons (.for (.nm 2) (.range (.cons (.p (.k (.int 3))) .nil))
 (.cons (.as (.nm 3) 0 (.call 14 none (.l 1 (.v (.ite (.c2 .eq (.call 7 none (.l 1 (.v (.p (.k (.int 8))) .nil))) (.p (.k (.int 0)))) (.p (.k (.int 6))) (.p (.k (.int 3)))) .nil)))) (.cons (.as (.tp (.cons (.nm 8) (.cons (.nm 9) .nil))) 0 (.call 18 none (.l 1 (.v (.p (.at 3)) .nil)))) (.cons (.iff (.not (.v (.call 17 none (.v (.p (.at 3)) (.v (.p (.at 8)) (.v (.p (.at 9)) .nil))))))
  (.cons (.ret (.p (.k (.bool false)))) .nil)
  .nil) (.cons (.iff (.not (.v (.call 8 none (.v (.tup (.cons (.call 4 none (.v (.p (.at 3)) (.v (.p (.at 8)) (.v (.p (.at 9)) .nil)))) (.cons (.call 4 (some [2, 1, 0]) (.v (.p (.at 9)) (.v (.p (.at 8)) (.v (.p (.at 3)) .nil)))) .nil))) (.v (.tup (.cons (.p (.k (.bool true))) (.cons (.p (.k (.bool true))) .nil))) .nil)))))
  (.cons (.ret (.p (.k (.bool false)))) .nil)
  .nil) (.cons (.as (.nm 4) 1 (.lst .nil)) (.cons (.for (.nm 5) (.e (.lst (.cons (.p (.k (.int 1))) (.cons (.p (.p1 .neg (.k (.int 1)))) (.cons (.p (.k (.int 2))) (.cons (.p (.p1 .neg (.k (.int 2)))) .nil))))))
  (.cons (.as (.nm 10) 0 (.call 7 none (.l 1 (.v (.p (.p1 .len (.at 9))) .nil)))) (.cons (.ex (.mu .append 4 [] 0 (.cons (.b2 .add (.b2 .add (.sl (.p (.at 9)) .none (.some (.p (.at 10)))) (.tup (.cons (.b2 .add (.p (.ix (.at 9) (.at 10))) (.p (.at 5))) .nil))) (.sl (.p (.at 9)) (.some (.b2 .add (.p (.at 10)) (.p (.k (.int 1))))) .none)) .nil))) .nil))) (.cons (.for (.nm 6) (.range (.cons (.p (.k (.int 3))) .nil))
  (.cons (.ex (.mu .append 4 [] 0 (.cons (.bi .tuple (.cons (.lc [10] (.nm 10) (.range (.cons (.b2 .add (.p (.k (.int 1))) (.call 7 none (.l 1 (.v (.p (.k (.int 3))) .nil)))) .nil)) .nil (.b2 .sub (.call 7 none (.l 1 (.v (.p (.k (.int 7))) .nil))) (.p (.k (.int 3))))) .nil)) .nil))) .nil)) (.cons (.iff (.and (.c2 .eq (.lc [12] (.nm 12) (.e (.p (.ix (.at 3) (.k (.int 0))))) (.cons (.c2 .gt (.p (.ix (.at 12) (.k (.int 1)))) (.p (.k (.int 1)))) .nil) (.p (.at 12))) (.lst .nil)) (.isB (.call 4 none (.v (.p (.at 3)) (.v (.p (.at 8)) (.v (.p (.ix (.at 4) (.k (.int 0)))) .nil)))) true))
  (.cons (.ret (.p (.k (.bool false)))) .nil)
  .nil) (.cons (.for (.nm 7) (.e (.p (.at 4)))
  (.cons (.as (.nm 11) 0 (.call 17 none (.v (.p (.at 3)) (.v (.p (.at 8)) (.v (.p (.at 7)) .nil))))) (.cons (.iff (.not (.v (.call 8 none (.v (.call 4 none (.v (.p (.at 3)) (.v (.p (.at 8)) (.v (.p (.at 7)) .nil)))) (.v (.p (.at 11)) .nil)))))
   (.cons (.ret (.p (.k (.bool false)))) .nil)
   .nil) (.cons (.iff (.not (.v (.call 8 none (.v (.call 4 (some [2, 1, 0]) (.v (.p (.at 7)) (.v (.p (.at 8)) (.v (.p (.at 3)) .nil)))) (.v (.p (.at 11)) .nil)))))
   (.cons (.ret (.p (.k (.bool false)))) .nil)
   .nil) .nil)))) .nil)))))))))) (.cons (.ret (.p (.k (.bool true)))) .nil)))
def d19 : Def := ⟨"law", top 22, ["script", "tape", "trip", "predictor", "others", "by", "once", "row", "past", "later", "k", "due", "tap"], ["script"], ⟨1, 13, [false], 0, b19⟩⟩
def defs : List Def := [d0, d1, d2, d3, d4, d5, d6, d7, d8, d9, d10, d11, d12, d13, d14, d15, d16, d17, d18, d19]
def kws : List (Nat × Nat × List Str × List Nat) := [(4, 0, ["later", "past", "predictor"], [2, 1, 0])]
def cons : List Str := []
def con (n : Nat) : Option PyData := ([] : List PyData)[n]?
def prg : Prg := ⟨defs, kws, cons, con⟩
theorem chk_all : (defs.all fun D => D.ok prg.sig prg.kws prg.cons) = true := by decide +kernel
theorem bd0 : BindP d0 := fun _ _ _ _ _ _ us hl => match us, hl with | [_, _], _ => rfl
theorem bd1 : BindP d1 := fun _ _ _ _ _ _ us hl => match us, hl with | [_, _], _ => rfl
theorem bd2 : BindP d2 := fun _ _ _ _ _ _ us hl => match us, hl with | [_], _ => rfl
theorem bd3 : BindP d3 := fun _ _ _ _ _ _ us hl => match us, hl with | [_, _], _ => rfl
theorem bd4 : BindP d4 := fun _ _ _ _ _ _ us hl => match us, hl with | [_, _, _], _ => rfl
theorem bd5 : BindP d5 := fun _ _ _ _ _ _ us hl => match us, hl with | [_, _], _ => rfl
theorem bd6 : BindP d6 := fun _ _ _ _ _ _ us hl => match us, hl with | [_], _ => rfl
theorem bd7 : BindP d7 := fun _ _ _ _ _ _ us hl => match us, hl with | [_, _], _ => rfl
theorem bd8 : BindP d8 := fun _ _ _ _ _ _ us hl => match us, hl with | [_, _], _ => rfl
theorem bd9 : BindP d9 := fun _ _ _ _ _ _ us hl => match us, hl with | [_, _], _ => rfl
theorem bd10 : BindP d10 := fun _ _ _ _ _ _ us hl => match us, hl with | [_, _], _ => rfl
theorem bd11 : BindP d11 := fun _ _ _ _ _ _ us hl => match us, hl with | [_, _], _ => rfl
theorem bd12 : BindP d12 := fun _ _ _ _ _ _ us hl => match us, hl with | [_, _], _ => rfl
theorem bd13 : BindP d13 := fun _ _ _ _ _ _ us hl => match us, hl with | [_, _], _ => rfl
theorem bd14 : BindP d14 := fun _ _ _ _ _ _ us hl => match us, hl with | [_, _], _ => rfl
theorem bd15 : BindP d15 := fun _ _ _ _ _ _ us hl => match us, hl with | [_, _], _ => rfl
theorem bd16 : BindP d16 := fun _ _ _ _ _ _ us hl => match us, hl with | [_, _, _], _ => rfl
theorem bd17 : BindP d17 := fun _ _ _ _ _ _ us hl => match us, hl with | [_, _, _], _ => rfl
theorem bd18 : BindP d18 := fun _ _ _ _ _ _ us hl => match us, hl with | [_, _], _ => rfl
theorem bd19 : BindP d19 := fun _ _ _ _ _ _ us hl => match us, hl with | [_], _ => rfl
theorem kw0 : KwP d4 0 ["later", "past", "predictor"] [2, 1, 0] := fun _ _ _ _ _ _ us ws h1 h2 => match us, ws, h1, h2 with | [], [_, _, _], _, _ => rfl
theorem prg_ok : prg.Ok where
  chk := fun D hD => List.all_eq_true.mp chk_all D hD
  bind := by
    intro D hD
    have hD : D ∈ defs := hD
    simp only [defs, List.mem_cons, List.not_mem_nil, or_false] at hD
    rcases hD with rfl | rfl | rfl | rfl | rfl | rfl | rfl | rfl | rfl | rfl | rfl | rfl | rfl | rfl | rfl | rfl | rfl | rfl | rfl | rfl
    · exact bd0
    · exact bd1
    · exact bd2
    · exact bd3
    · exact bd4
    · exact bd5
    · exact bd6
    · exact bd7
    · exact bd8
    · exact bd9
    · exact bd10
    · exact bd11
    · exact bd12
    · exact bd13
    · exact bd14
    · exact bd15
    · exact bd16
    · exact bd17
    · exact bd18
    · exact bd19
  kw := by
    intro i n ks js D hk hD
    have hk : (i, n, ks, js) ∈ kws := hk
    simp only [kws, List.mem_cons, List.not_mem_nil, or_false, Prod.mk.injEq] at hk
    rcases hk with ⟨rfl, rfl, rfl, rfl⟩
    · have e : d4 = D := Option.some.inj hD
      subst e
      exact kw0
end K49
set_option Elab.async false
set_option linter.all false
set_option maxRecDepth 100000
set_option maxHeartbeats 4000000
namespace K49
open PySem PySem.Spec PyProof.Rows L2 Fx
theorem divisor_ok (m : Nat) (a b : Int) : callV (prg.orc (m + 1)) 0 [.int a, .int b] = .ok (.int (Int.gcd a b : Nat)) := by
  rw [callV_eq (D := d0) rfl rfl]
  exact divisor_run _ a b
theorem mixed_ok (m : Nat) (a b : Int) : callV (prg.orc (m + 1)) 5 [.int a, .int b] = .ok (.int (mixI a b)) := by
  rw [callV_eq (D := d5) rfl rfl]
  exact mixed_run _ a b
theorem draw_ok (m : Nat) : DrawAt (prg.orc (m + 2)) 7 := drawAt_of (D := d7) (j := 5) rfl rfl rfl rfl rfl rfl (mixed_ok m)
theorem fr_ok (m : Nat) : FrAt (prg.orc (m + 1)) 9 := fun a b hb hs => by
  rw [callV_eq (D := d9) rfl rfl]
  exact fr1_run _ 100000 (by decide) (by decide) a b hb hs
section
variable (m : Nat) {p q : Rat} (hp : Sz 400 p) (hq : Sz 400 q)
include hp hq
theorem l_plus : callV (prg.orc (m + 2)) 10 [frac p, frac q] = .ok (frac (p + q)) := by
  rw [callV_eq (D := d10) rfl rfl]
  exact plus_ok (fr_ok m) hp hq
theorem l_minus : callV (prg.orc (m + 2)) 11 [frac p, frac q] = .ok (frac (p - q)) := by
  rw [callV_eq (D := d11) rfl rfl]
  exact minus_ok (fr_ok m) hp hq
theorem l_times : callV (prg.orc (m + 2)) 12 [frac p, frac q] = .ok (frac (p * q)) := by
  rw [callV_eq (D := d12) rfl rfl]
  exact times_ok (fr_ok m) hp hq
end
/-- of positive numbers -/
def mulI (a b : Int) : Int := a.fdiv (Int.gcd a b : Nat) * b
theorem multiple_ok (m : Nat) (a b : Int) (ha : 0 < a) (hb : 0 < b) (hs : b < 2 ^ 60) : callV (prg.orc (m + 2)) 1 [.int a, .int b] = .ok (.int (mulI a b)) := by
  rw [callV_eq (D := d1) rfl rfl]
  have h1 := divisor_ok m a b
  have hl : (Int.gcd a b).log2 < 9000 := by
    have := gcd_log (a := a) (b := b) (k := 60) (by decide) (by omega) (by omega)
    omega
  have hz : ¬ (Int.gcd a b = 0) := by
    have := Int.gcd_pos_of_ne_zero_right a (b := b) (by omega)
    omega
  have hz' : ¬ (a = 0 ∧ b = 0) := by omega
  have hb' : ∀ x, bitsOk x b = true := fun x => bits_r (small_log (k := 64) (by omega) (by omega) (by decide))
  simp [d1, b1, svs, exs, exS, ev_p, ev_b2, ev_call_2, evR, h1, evPk, evP, slot, opd2, opd, fin, lateE, isP, toP, finO, evPb, g2, Fx.b2, own1, isCont, r_of, r_no, r_ok, r_bad, Fl.val, hz, hz', hl, hb', mulI]
theorem rl_eq (r r' : Rl) : Fx.c2 .eq (.str r.str) (.str r'.str) = some (decide (r.ctorIdx = r'.ctorIdx)) := by
  cases r <;> cases r' <;> (simp [Fx.c2, ii, eqOk, SeqAt.shaped, PyData.canLay0, PyData.plain, PyData.depth, PyData.eqv, Rl.str, Rl.ctorIdx] <;> decide +kernel)
theorem two_log {b : Int} (h0 : 0 < b) (h : b.natAbs < 2 ^ 400) : (2 * b).natAbs.log2 < 9000 := by
  refine Nat.lt_of_lt_of_le (log2_lt (k := 401) (by decide) ?_) (by decide)
  have : (2 : Nat) ^ 401 = 2 * 2 ^ 400 := by rw [Nat.pow_succ]; omega
  omega
theorem round_ok (m : Nat) (r : Rl) (q : Rat) (hs : Sz 400 q) : callV (prg.orc (m + 1)) 13 [.str r.str, frac q] = .ok (.int (rnd r q)) := by
  rw [callV_eq (D := d13) rfl rfl]
  have hd := den_posI q
  have hq := num_den q
  have hd0 : (q.den : Int) ≠ 0 := by omega
  have hdn : ¬ (q.den = 0) := by omega
  have hl1 : q.den.log2 < 9000 := Nat.lt_of_lt_of_le (log2_lt (k := 400) (by decide) hs.2) (by decide)
  have hl2 : (2 * (q.den : Int)).natAbs.log2 < 9000 := two_log hd (by simpa using hs.2)
  have h2a : ∀ x, bitsOk 2 x = true := fun x => bits_l (by decide)
  have f1 : q.num.fdiv (q.den : Int) = q.floor := floor_of hd hq
  have f2 : (0 - q.num).fdiv (q.den : Int) = (-q).floor := floor_of hd (by rw [Rat.intCast_sub, hq]; have e : ((0 : Int) : Rat) = 0 := rfl; grind)
  have e2 : ((2 : Int) : Rat) = 2 := rfl
  have f3 : (2 * q.num + (q.den : Int)).fdiv (2 * (q.den : Int)) = (q + 1 / 2).floor := floor_of (by omega) (by rw [Rat.intCast_add, Rat.intCast_mul, Rat.intCast_mul, hq, e2]; grind)
  have f4 : ((q.den : Int) - 2 * q.num).fdiv (2 * (q.den : Int)) = (1 / 2 - q).floor := floor_of (by omega) (by rw [Rat.intCast_sub, Rat.intCast_mul, Rat.intCast_mul, hq, e2]; grind)
  have f2' : (-q.num).fdiv (q.den : Int) = (-q).floor := by rw [← f2, Int.zero_sub]
  have c : ∀ r', Fx.c2 .eq (.str r.str) (.str (Rl.str r')) = some (decide (r.ctorIdx = r'.ctorIdx)) := rl_eq r
  have c1 : Fx.c2 .eq (.str r.str) (.str "down") = some (decide (r.ctorIdx = 0)) := rl_eq r .down
  have c2 : Fx.c2 .eq (.str r.str) (.str "up") = some (decide (r.ctorIdx = 1)) := rl_eq r .up
  have c3 : Fx.c2 .eq (.str r.str) (.str "near") = some (decide (r.ctorIdx = 2)) := rl_eq r .near
  cases r with
  | down => simp [d13, b13, svs, frac, exs, exS, evT, ev_p, ev_b2, evPk, evP, slot, setS, bindT, bindTs, opd2, opd, fin, lateE, isP, toP, finO, evPb, g2, c2B, c1, c2, c3, Fx.b2, own1, isCont, r_of, r_no, r_ok, r_bad, Fl.val, hdn, hl1, f1, rnd, Rl.ctorIdx]
  | up => simp [d13, b13, svs, frac, exs, exS, evT, ev_p, ev_b2, evPk, evP, slot, setS, bindT, bindTs, opd2, opd, fin, lateE, isP, toP, finO, evPb, g2, c2B, c1, c2, c3, Fx.b2, own1, isCont, r_of, r_no, r_ok, r_bad, Fl.val, hdn, hl1, f2', rnd, Rl.ctorIdx]
  | near => simp [d13, b13, svs, frac, exs, exS, evT, ev_p, ev_b2, evPk, evP, slot, setS, bindT, bindTs, opd2, opd, fin, lateE, isP, toP, finO, evPb, g2, c2B, c1, c2, c3, Fx.b2, own1, isCont, r_of, r_no, r_ok, r_bad, Fl.val, hdn, hl2, h2a, f3, rnd, Rl.ctorIdx]
  | low => simp [d13, b13, svs, frac, exs, exS, evT, ev_p, ev_b2, evPk, evP, slot, setS, bindT, bindTs, opd2, opd, fin, lateE, isP, toP, finO, evPb, g2, c2B, c1, c2, c3, Fx.b2, own1, isCont, r_of, r_no, r_ok, r_bad, Fl.val, hdn, hl2, h2a, f4, rnd, Rl.ctorIdx]
/-! ### what is foretold -/
/-- a tuple of fractions -/
def tapsD (ts : List Rat) : PyData := .tuple (ts.map frac)
def bEx : Ss := (.cons (.as (.nm 2) 0 (.call 10 none (.v (.p (.at 2)) (.v (.call 12 none (.v (.p (.ix (.at 0) (.at 3))) (.v (.tup (.cons (.p (.ix (.at 1) (.b2 .sub (.b2 .sub (.p1 .len (.at 1)) (.k (.int 1))) (.at 3)))) (.cons (.p (.k (.int 1))) .nil))) .nil))) .nil)))) .nil)
theorem atI_nat {α : Type} {xs : List α} {k : Nat} {x : α} (h : xs[k]? = some x) : L2.atI xs (k : Int) = some x := by
  obtain ⟨hk, rfl⟩ := List.getElem?_eq_some_iff.mp h
  simp [L2.atI, L2.ixN, hk]
theorem ex_turn (m : Nat) (ts : List Rat) (row : List Int) (l : Bool) (j : Nat) (k : Nat) {t : Rat} {r : Int} (ht : ts[k]? = some t) (hr : row.reverse[k]? = some r) (q : Rat) (hq : Sz 400 q) (h1 : Sz 400 t) (h2 : Sz 400 (r : Rat)) (h3 : Sz 400 (t * (r : Rat))) :
    exs (prg.orc (m + 2)) 0 bEx [sv0 (tapsD ts), .sv l j (.list (row.map .int)), sv0 (frac q), sv0 (.int k)] = .ok (.nx [sv0 (tapsD ts), .sv l j (.list (row.map .int)), sv0 (frac (q + t * (r : Rat))), sv0 (.int k)]) := by
  have e1 : ixD (tapsD ts) (.int k) = some (frac t) := by
    show L2.atI (ts.map frac) (k : Int) = _
    exact atI_nat (by rw [List.getElem?_map, ht]; rfl)
  have hk : k < row.length := by
    have := (List.getElem?_eq_some_iff.mp hr).1
    simpa using this
  have e2 : ixD (.list (row.map .int)) (.int ((row.length : Int) - 1 - (k : Int))) = some (.int r) := by
    have e : ((row.length : Int) - 1 - (k : Int)) = ((row.length - 1 - k : Nat) : Int) := by omega
    rw [e]
    show L2.atI (row.map PyData.int) _ = _
    refine atI_nat ?_
    rw [List.getElem?_map]
    rw [List.getElem?_reverse (by omega)] at hr
    rw [hr]; rfl
  have f : frac (r : Rat) = .tuple [.int r, .int 1] := frac_int r
  have c1 := l_times m h1 h2
  rw [f] at c1
  have c2 := l_plus m hq h3
  have hc : isCont (tapsD ts) = false := rfl
  simp [bEx, exs, exS, ev_call_2, evR, ev_p, ev_tup, evs, evPk, evP, slot, setS, e1, e2, Fx.p1, Fx.b2, Fx.scal, isCont, frac_cont, hc, r_of, r_ok, c1, c2]
end K49
set_option Elab.async false
set_option linter.all false
set_option maxRecDepth 100000
set_option maxHeartbeats 4000000
namespace K49
open PySem PySem.Spec PyProof.Rows L2 Fx
/-- what holds of a predictor's taps -/
structure TsOk (ts : List Rat) : Prop where
  len : ts.length ≤ 6
  sz : ∀ t ∈ ts, Sq 3 3 t
def RowSz (s : Nat) (R : List Int) : Prop := ∀ r ∈ R, r.natAbs < 2 ^ s
theorem RowSz.le {s s' : Nat} {R : List Int} (h : RowSz s R) (hl : s ≤ s') : RowSz s' R := fun r hr => Nat.lt_of_lt_of_le (h r hr) (Nat.pow_le_pow_right (by decide) hl)
theorem TsOk.lin {ts : List Rat} (h : TsOk ts) {R : List Int} {s : Nat} (hr : RowSz s R) : Sq (s + 36) 25 (lin ts R) := (lin_sq h.sz hr).le (by have := h.len; omega) (by have := h.len; omega)
theorem TsOk.take {ts : List Rat} (h : TsOk ts) (k : Nat) : TsOk (ts.take k) := ⟨by have := h.len; simp; omega, fun t ht => h.sz t (List.mem_of_mem_take ht)⟩
theorem exact_ok (m : Nat) (ts : List Rat) (h : TsOk ts) (row : List Int) (hr : RowSz 360 row) (hl : ts.length ≤ row.length) (j : Nat) : ∃ x, (prg.orc (m + 3)).fn 15 [sv0 (tapsD ts), .sv true j (.list (row.map .int))] = .ok (frac (lin ts row.reverse), [x, .sv true j (.list (row.map .int))]) := by
  have hrr : RowSz 360 row.reverse := fun r hr' => hr r (List.mem_reverse.mp hr')
  let env : Nat → EnvD := fun k => [sv0 (tapsD ts), .sv true j (.list (row.map .int)), sv0 (frac (lin (ts.take k) row.reverse)), lv .un k]
  have hL : forL (bindT (.nm 3)) (exs (prg.orc (m + 2)) 0 bEx) ((List.range ts.length).map fun (k : Nat) => PyData.int (k : Int)) (env 0) = .ok (.nx (env ts.length)) := by
    refine forL_range env ts.length fun k hk => ?_
    have hk' : k < row.reverse.length := by simp; omega
    obtain ⟨t, ht⟩ : ∃ t, ts[k]? = some t := ⟨_, List.getElem?_eq_getElem hk⟩
    obtain ⟨r, hr'⟩ : ∃ r, row.reverse[k]? = some r := ⟨_, List.getElem?_eq_getElem hk'⟩
    have st := h.sz t (List.mem_of_getElem? ht)
    have sr := hrr r (List.mem_of_getElem? hr')
    refine ⟨[sv0 (tapsD ts), .sv true j (.list (row.map .int)), sv0 (frac (lin (ts.take k) row.reverse)), sv0 (.int k)], ?_, ?_⟩
    · exact setS_free (env := env k) (i := 3) (s := lv .un k) rfl (lv_free (.inl rfl) k)
    · rw [ex_turn m ts row true j k ht hr' _ (((h.take k).lin hrr).sz (by decide) (by decide)) (st.sz (by decide) (by decide)) ((int_sq sr).sz (by decide) (by decide)) ((mul_sq st (int_sq sr)).sz (by decide) (by decide))]
      show _ = Rs.ok (Fl.nx [_, _, sv0 (frac (lin (ts.take (k + 1)) row.reverse)), sv0 (.int k)])
      rw [lin_take ht hr']
  have hn : ts.length ≤ 100000000 := by have := h.len; omega
  have z0 : lin (ts.take 0) row.reverse = 0 := by rw [List.take_zero]; cases row.reverse <;> rfl
  have e1 : exS (prg.orc (m + 2)) 0 (.as (.nm 2) 0 (.tup (.cons (.p (.k (.int 0))) (.cons (.p (.k (.int 1))) .nil)))) [sv0 (tapsD ts), .sv true j (.list (row.map .int)), .un, .un] = .ok (.nx (env 0)) := by
    have e2 : env 0 = [sv0 (tapsD ts), .sv true j (.list (row.map .int)), sv0 (frac 0), .un] := by show [_, _, sv0 (frac (lin (ts.take 0) row.reverse)), _] = _; rw [z0]; rfl
    rw [e2]
    simp [exS, ev_tup, evs, ev_p, evPk, evP, isCont, setS, frac0, r_of, r_ok]
  have e2 : exS (prg.orc (m + 2)) 0 (.for (.nm 3) (.range (.cons (.p (.p1 .len (.at 0))) .nil)) bEx) (env 0) = .ok (.nx (env ts.length)) := by
    refine (for_range1 (prg.orc (m + 2)) (n := (ts.length : Int)) ?_ (len_range _ hn)).trans hL
    simp [env, evPk, evP, slot, tapsD, Fx.p1, isCont]
  have e3 : exS (prg.orc (m + 2)) 0 (.ret (.p (.at 2))) (env ts.length) = .ok (.rt (frac (lin ts row.reverse)) (env ts.length)) := by
    have : lin (ts.take ts.length) row.reverse = lin ts row.reverse := by rw [List.take_length]
    simp [env, this, exS, ev_p, evPk, evP, slot, isCont, frac_cont, r_of, r_ok]
  exact ⟨sv0 (tapsD ts), fn_rt (D := d15) [sv0 (tapsD ts), .sv true j (.list (row.map .int)), .un, .un] rfl rfl rfl ((exs_nx e1).trans ((exs_nx e2).trans (exs_rt e3))) rfl⟩
end K49
set_option Elab.async false
set_option linter.all false
set_option maxRecDepth 100000
set_option maxHeartbeats 4000000
namespace K49
open PySem PySem.Spec PyProof.Rows L2 Fx
def predD (ts : List Rat) (r : Rl) : PyData := .tuple [tapsD ts, .str r.str]
abbrev rowS (row : List Int) : SV := .sv false 1 (.list (row.map .int))
def sRd : S := .ex (.mu .append 3 [] 0 (.cons (.b2 .add (.p (.at 4)) (.call 13 none (.v (.p (.at 6)) (.v (.call 15 none (.v (.p (.at 5)) (.l 3 .nil))) .nil)))) .nil))
abbrev rdEnv (a b d : SV) (row : List Int) (x : SV) (ts : List Rat) (r : Rl) : EnvD := [a, b, d, rowS row, x, sv0 (tapsD ts), sv0 (.str r.str)]
theorem rd_c1 (m : Nat) (ts : List Rat) (h : TsOk ts) (r : Rl) (row : List Int) (hr : RowSz 360 row) (hl : ts.length ≤ row.length) (x a b d : SV) :
    ev (prg.orc (m + 4)) (.call 15 none (.v (.p (.at 5)) (.l 3 .nil))) 0 (rdEnv a b d row x ts r) = .ok (frac (lin ts row.reverse), rdEnv a b d row x ts r) := by
  obtain ⟨x, hx⟩ := exact_ok (m + 1) ts h row hr hl 1
  exact ev_callVL (l := false) (k := 1) rfl (by simp [ev_p, evPk, evP, slot, isCont, tapsD, r_of]) hx

theorem x1 (m : Nat) (ts : List Rat) (h : TsOk ts) (r : Rl) (row : List Int) (hr : RowSz 360 row) : callV (prg.orc (m + 4)) 13 [.str r.str, frac (lin ts row.reverse)] = .ok (.int (rnd r (lin ts row.reverse))) := by
  have hrr : RowSz 360 row.reverse := fun r hr' => hr r (List.mem_reverse.mp hr')
  exact round_ok (m + 3) r (lin ts row.reverse) ((h.lin hrr).sz (by decide) (by decide))
theorem x2 (m : Nat) (ts : List Rat) (r : Rl) (row : List Int) (x a b d : SV) : evPk (prg.orc (m + 4)) (.at 6) 0 (rdEnv a b d row x ts r) = some (.str r.str, rdEnv a b d row x ts r) := by
    simp [evPk, evP, slot, isCont]
theorem x3 (c : Orc) (E : E) (z : Int) (v : PyData) (q : PyData) (en : EnvD) (c1 : ev c E 0 en = .ok (v, en)) (c2 : callV c 13 [q, v] = .ok (.int z)) (c3 : evPk c (.at 6) 0 en = some (q, en)) : ev c (.call 13 none (.v (.p (.at 6)) (.v E .nil))) 0 en = .ok (.int z, en) := by
  simp only [ev_call_2, evR, ev_p, c3, r_of, r_ok, c1, c2]
theorem rd_c4 (m : Nat) (ts : List Rat) (h : TsOk ts) (r : Rl) (row : List Int) (hr : RowSz 360 row) (hl : ts.length ≤ row.length) (x a b d : SV) :
    ev (prg.orc (m + 4)) (.call 13 none (.v (.p (.at 6)) (.v (.call 15 none (.v (.p (.at 5)) (.l 3 .nil))) .nil))) 0 (rdEnv a b d row x ts r) = .ok (.int (rnd r (lin ts row.reverse)), rdEnv a b d row x ts r) := 
  x3 _ _ _ _ _ _ (rd_c1 m ts h r row hr hl x a b d) (x1 m ts h r row hr) (x2 m ts r row x a b d)
theorem rd_turn0 (c : Orc) (f : Nat) (ar : Ar) (z e : Int) (row : List Int) (hn : row.length < 1000) (a b d u v : SV) (c4 : ev c (.call f none ar) 0 [a, b, d, rowS row, sv0 (.int e), u, v] = .ok (.int z, [a, b, d, rowS row, sv0 (.int e), u, v])) :
    exs c 0 (.cons (.ex (.mu .append 3 [] 0 (.cons (.b2 .add (.p (.at 4)) (.call f none ar)) .nil))) .nil) [a, b, d, rowS row, sv0 (.int e), u, v] = .ok (.nx [a, b, d, rowS (row ++ [e + z]), sv0 (.int e), u, v]) := by
  have hln : row.length < 16777216 := by omega
  simp [exs, exS, ev_mu0, evs, isListS, slot, ev_b2, evP, opd2, opd, fin, lateE, isP, toP, finO, evPb, g2, c4, Fx.b2, own1, isCont, alterS, pathR, alterAt, alterD, muF, muD, hln, r_of, r_ok]
theorem rd_turn (m : Nat) (ts : List Rat) (h : TsOk ts) (r : Rl) (row : List Int) (hr : RowSz 360 row) (hl : ts.length ≤ row.length) (hn : row.length < 1000) (e : Int) (a b d : SV) :
    exs (prg.orc (m + 4)) 0 (.cons sRd .nil) [a, b, d, rowS row, sv0 (.int e), sv0 (tapsD ts), sv0 (.str r.str)] = .ok (.nx [a, b, d, rowS (row ++ [e + rnd r (lin ts row.reverse)]), sv0 (.int e), sv0 (tapsD ts), sv0 (.str r.str)]) :=
  rd_turn0 _ _ _ _ _ _ hn _ _ _ _ _ (rd_c4 m ts h r row hr hl (sv0 (.int e)) a b d)
/-- what a turn does, whatever the world -/
def RdAt (c : Orc) (ts : List Rat) (r : Rl) : Prop := ∀ (row : List Int), RowSz 360 row → ts.length ≤ row.length → row.length < 1000 → ∀ (e : Int) (a b d : SV),
  exs c 0 (.cons sRd .nil) [a, b, d, rowS row, sv0 (.int e), sv0 (tapsD ts), sv0 (.str r.str)] = .ok (.nx [a, b, d, rowS (row ++ [e + rnd r (lin ts row.reverse)]), sv0 (.int e), sv0 (tapsD ts), sv0 (.str r.str)])
theorem rd_loop (c : Orc) (ts : List Rat) (h : TsOk ts) (r : Rl) (hc : RdAt c ts r) (a b d : SV) : ∀ (es row : List Int) (s : Nat) (x : SV), FreeS x → RowSz s row → (∀ e ∈ es, e.natAbs < 16) → s + 38 * es.length ≤ 360 → ts.length ≤ row.length → row.length + es.length < 1000 →
    ∃ x', FreeS x' ∧ forL (bindT (.nm 4)) (exs c 0 (.cons sRd .nil)) (es.map .int) [a, b, d, rowS row, x, sv0 (tapsD ts), sv0 (.str r.str)] = .ok (.nx [a, b, d, rowS (row ++ readR ts r row.reverse es), x', sv0 (tapsD ts), sv0 (.str r.str)])
  | [], row, s, x, hx, _, _, _, _, _ => ⟨x, hx, by simp [forL, readR]⟩
  | e :: es, row, s, x, hx, hr, he, hs, hl, hn => by
    have t := hc row (hr.le (by omega)) hl (by omega) e a b d
    have hrr : RowSz s row.reverse := fun r hr' => hr r (List.mem_reverse.mp hr')
    have sz : RowSz (s + 38) (row ++ [e + rnd r (lin ts row.reverse)]) := by
      intro y hy
      rcases List.mem_append.mp hy with hy | hy
      · exact (hr.le (by omega)) y hy
      · have := readR_sz (ts := ts) (r := r) (fun {R} {s} hR => (h.lin hR).1) (es := [e]) (R := row.reverse) (s := s) hrr (fun y hy => he y (by simp at hy; simp [hy])) y (by simp [readR] at hy ⊢; exact hy)
        simpa using this
    obtain ⟨x', hx', ih⟩ := rd_loop c ts h r hc a b d es (row ++ [e + rnd r (lin ts row.reverse)]) (s + 38) (sv0 (.int e)) (fr_sv0 _) sz (fun y hy => he y (List.mem_cons_of_mem _ hy)) (by simp at hs; omega) (by simp; omega) (by simp at hn ⊢; omega)
    refine ⟨x', hx', ?_⟩
    have hb : bindT (.nm 4) (.int e) [a, b, d, rowS row, x, sv0 (tapsD ts), sv0 (.str r.str)] = some [a, b, d, rowS row, sv0 (.int e), sv0 (tapsD ts), sv0 (.str r.str)] := setS_free (i := 4) (s := x) rfl hx
    rw [List.map_cons]
    simp only [forL, hb, r_of, r_ok, t]
    rw [ih]
    simp [readR]
theorem ret_from (c : Orc) (ps xs : List PyData) (h : ps.length ≤ xs.length) (a d x u v : SV) : exS c 0 (.ret (.sl (.p (.at 3)) (.some (.p (.p1 .len (.at 1)))) .none)) [a, sv0 (.list ps), d, .sv false 1 (.list xs), x, u, v] = .ok (.rt (.list (xs.drop ps.length)) [a, sv0 (.list ps), d, sv0 (.list xs), x, u, v]) := by
  have e := cut_from xs ps.length h
  simp [exS, ev_sl, evO, ev_p, evPk, evP, slot, isCont, Fx.p1, slD, e, own1, r_of, r_ok]
theorem read_run (c : Orc) (ts : List Rat) (h : TsOk ts) (r : Rl) (hc : RdAt c ts r) (past es : List Int) (hr : RowSz 100 past) (hl : past.length = ts.length) (he : ∀ e ∈ es, e.natAbs < 16) (hes : es.length ≤ 6) :
    ∃ e', exs c 0 b16 [sv0 (predD ts r), sv0 (.list (past.map .int)), sv0 (.list (es.map .int)), .un, .un, .un, .un] = .ok (.rt (.list ((readR ts r past.reverse es).map .int)) e') := by
  have h6 := h.len
  let a := sv0 (predD ts r)
  let b := sv0 (.list (past.map .int))
  let d := sv0 (.list (es.map .int))
  obtain ⟨x', hx', hL⟩ := rd_loop c ts h r hc a b d es past 100 .un (.inl rfl) hr he (by omega) (by omega) (by omega)
  have e1 : exS c 0 (.as (.tp (.cons (.nm 5) (.cons (.nm 6) .nil))) 0 (.p (.at 0))) [a, b, d, .un, .un, .un, .un] = .ok (.nx [a, b, d, .un, .un, sv0 (tapsD ts), sv0 (.str r.str)]) := by
    simp [a, b, d, exS, ev_p, evPk, evP, slot, predD, isCont, bindT, bindTs, setS, r_of, r_ok]
  have e2 : exS c 0 (.as (.nm 3) 1 (.bi .list (.cons (.p (.at 1)) .nil))) [a, b, d, .un, .un, sv0 (tapsD ts), sv0 (.str r.str)] = .ok (.nx [a, b, d, rowS past, .un, sv0 (tapsD ts), sv0 (.str r.str)]) := by
    simp [a, b, d, exS, ev_bi, evA, allP, lateE, toP, opd, fin, finO, evPb, evP, slot, Fx.bi, g1, lstD, own1, isCont, setS, r_of, r_ok]
  have e3 : exS c 0 (.for (.nm 4) (.e (.p (.at 2))) (.cons sRd .nil)) [a, b, d, rowS past, .un, sv0 (tapsD ts), sv0 (.str r.str)] = .ok (.nx [a, b, d, rowS (past ++ readR ts r past.reverse es), x', sv0 (tapsD ts), sv0 (.str r.str)]) := by
    refine Eq.trans ?_ hL
    simp [a, b, d, exS, evI, ev_p, evPk, evP, slot, isCont, itemsD, r_of, r_ok]
  have e4 : exS c 0 (.ret (.sl (.p (.at 3)) (.some (.p (.p1 .len (.at 1)))) .none)) [a, b, d, rowS (past ++ readR ts r past.reverse es), x', sv0 (tapsD ts), sv0 (.str r.str)] = .ok (.rt (.list ((readR ts r past.reverse es).map .int)) [a, b, d, sv0 (.list ((past ++ readR ts r past.reverse es).map .int)), x', sv0 (tapsD ts), sv0 (.str r.str)]) := by
    refine (ret_from c (past.map .int) ((past ++ readR ts r past.reverse es).map .int) (by simp) a d x' _ _).trans ?_
    rw [List.map_append, List.drop_left' (by simp)]
  exact ⟨_, (exs_nx e1).trans ((exs_nx e2).trans ((exs_nx e3).trans (exs_rt e4)))⟩
theorem read_ok (m : Nat) (ts : List Rat) (h : TsOk ts) (r : Rl) (past es : List Int) (hr : RowSz 100 past) (hl : past.length = ts.length) (he : ∀ e ∈ es, e.natAbs < 16) (hes : es.length ≤ 6) :
    callV (prg.orc (m + 5)) 16 [predD ts r, .list (past.map .int), .list (es.map .int)] = .ok (.list ((readR ts r past.reverse es).map .int)) := by
  obtain ⟨e', g⟩ := read_run (prg.orc (m + 4)) ts h r (fun row h1 h2 h3 e a b d => rd_turn m ts h r row h1 h2 h3 e a b d) past es hr hl he hes
  exact callV_rt (D := d16) _ rfl rfl rfl g
end K49
set_option Elab.async false
set_option linter.all false
set_option maxRecDepth 100000
set_option maxHeartbeats 4000000
namespace K49
open PySem PySem.Spec PyProof.Rows L2 Fx
/-! ### can_come -/
def sCa : S := .as (.nm 5) 0 (.call 11 none (.v (.tup (.cons (.p (.at 4)) (.cons (.p (.k (.int 1))) .nil))) (.v (.call 15 none (.v (.p (.ix (.at 0) (.k (.int 0)))) (.l 3 .nil))) .nil)))
def sCb : S := .iff (.c2 .ge (.p (.p1 .abs (.ix (.at 5) (.k (.int 0))))) (.p (.ix (.at 5) (.k (.int 1))))) (.cons (.ret (.p (.k (.bool false)))) .nil) .nil
def sCc : S := .ex (.mu .append 3 [] 0 (.cons (.p (.at 4)) .nil))
def bCan : Ss := .cons sCa (.cons sCb (.cons sCc .nil))
/-- the two calls -/
structure CanAt (c : Orc) (ts : List Rat) : Prop where
  ex : ∀ (row : List Int), RowSz 360 row → ts.length ≤ row.length → ∃ x, c.fn 15 [sv0 (tapsD ts), .sv true 1 (.list (row.map .int))] = .ok (frac (lin ts row.reverse), [x, .sv true 1 (.list (row.map .int))])
  minus : ∀ p q : Rat, Sz 400 p → Sz 400 q → callV c 11 [frac p, frac q] = .ok (frac (p - q))
theorem can_a (c : Orc) (ts : List Rat) (h : TsOk ts) (r : Rl) (hc : CanAt c ts) (row : List Int) (hr : RowSz 300 row) (hl : ts.length ≤ row.length) (one : Int) (ho : one.natAbs < 2 ^ 300) (b d x5 : SV) (h5 : FreeS x5) :
    exS c 0 sCa [sv0 (predD ts r), b, d, rowS row, sv0 (.int one), x5] = .ok (.nx [sv0 (predD ts r), b, d, rowS row, sv0 (.int one), sv0 (frac ((one : Rat) - lin ts row.reverse))]) := by
  obtain ⟨x, hx⟩ := hc.ex row (hr.le (by decide)) hl
  have hrr : RowSz 300 row.reverse := fun r hr' => hr r (List.mem_reverse.mp hr')
  have c1 : ev c (.call 15 none (.v (.p (.ix (.at 0) (.k (.int 0)))) (.l 3 .nil))) 0 [sv0 (predD ts r), b, d, rowS row, sv0 (.int one), x5] = .ok (frac (lin ts row.reverse), [sv0 (predD ts r), b, d, rowS row, sv0 (.int one), x5]) :=
    ev_callVL (l := false) (k := 1) rfl (by simp [ev_p, evPk, evP, slot, predD, ix_tupl, at0, isCont, tapsD, r_of]) hx
  have c2 := hc.minus (one : Rat) (lin ts row.reverse) ((int_sq ho).sz (by decide) (by decide)) ((h.lin hrr).sz (by decide) (by decide))
  rw [frac_int] at c2
  refine as_ok (s := x5) (env' := [sv0 (predD ts r), b, d, rowS row, sv0 (.int one), x5]) ?_ rfl h5
  simp [ev_call_2, evR, ev_tup, evs, ev_p, evPk, evP, slot, isCont, c1, c2, r_of, r_ok]
theorem can_b (c : Orc) (ts : List Rat) (row : List Int) (one : Int) (a b d u v : SV) :
    exS c 0 sCb [a, b, d, u, v, sv0 (frac ((one : Rat) - lin ts row.reverse))] = .ok (if away ts row.reverse one = true then .rt (.bool false) [a, b, d, u, v, sv0 (frac ((one : Rat) - lin ts row.reverse))] else .nx [a, b, d, u, v, sv0 (frac ((one : Rat) - lin ts row.reverse))]) := by
  have hf := far_iff ((one : Rat) - lin ts row.reverse)
  rw [← away_iff] at hf
  generalize (one : Rat) - lin ts row.reverse = q at hf ⊢
  generalize away ts row.reverse one = w at hf ⊢
  cases w with
  | true =>
    have := hf.mpr rfl
    simp [sCb, exS, exs, evT, ev_p, evPk, evP, slot, opd2, opd, fin, lateE, isP, toP, finO, evPb, g2, c2B, Fx.c2, ii, Fx.p1, frac, ix_tupl, at0, at1, isCont, r_of, r_ok, this]
  | false =>
    have := mt hf.mp (by decide)
    simp [sCb, exS, exs, evT, ev_p, evPk, evP, slot, opd2, opd, fin, lateE, isP, toP, finO, evPb, g2, c2B, Fx.c2, ii, Fx.p1, frac, ix_tupl, at0, at1, isCont, r_of, r_ok, this]
theorem app_ok (c : Orc) (row : List Int) (hn : row.length < 1000) (one : Int) (a b d : SV) (r : EnvD) : exS c 0 sCc (a :: b :: d :: rowS row :: sv0 (.int one) :: r) = .ok (.nx (a :: b :: d :: rowS (row ++ [one]) :: sv0 (.int one) :: r)) := by
  have hln : row.length < 16777216 := by omega
  simp [sCc, exS, ev_mu0, evs, isListS, slot, ev_p, evPk, evP, isCont, alterS, pathR, alterAt, alterD, muF, muD, hln, r_of, r_ok]
theorem can_turn (c : Orc) (ts : List Rat) (h : TsOk ts) (r : Rl) (hc : CanAt c ts) (row : List Int) (hr : RowSz 300 row) (hl : ts.length ≤ row.length) (hn : row.length < 1000) (one : Int) (ho : one.natAbs < 2 ^ 300) (b d x5 : SV) (h5 : FreeS x5) :
    ∃ x5', FreeS x5' ∧ exs c 0 bCan [sv0 (predD ts r), b, d, rowS row, sv0 (.int one), x5] = .ok (if away ts row.reverse one = true then .rt (.bool false) [sv0 (predD ts r), b, d, rowS row, sv0 (.int one), x5'] else .nx [sv0 (predD ts r), b, d, rowS (row ++ [one]), sv0 (.int one), x5']) := by
  have e1 := can_a c ts h r hc row hr hl one ho b d x5 h5
  have e2 := can_b c ts row one (sv0 (predD ts r)) b d (rowS row) (sv0 (.int one))
  have e3 := app_ok c row hn one (sv0 (predD ts r)) b d [sv0 (frac ((one : Rat) - lin ts row.reverse))]
  refine ⟨sv0 (frac ((one : Rat) - lin ts row.reverse)), fr_sv0 _, ?_⟩
  cases hw : away ts row.reverse one with
  | true =>
    rw [hw] at e2
    exact (exs_nx e1).trans (exs_rt e2)
  | false =>
    rw [hw] at e2
    exact (exs_nx e1).trans ((exs_nx e2).trans ((exs_nx e3).trans (by simp only [exs]; rfl)))
theorem can_loop (c : Orc) (ts : List Rat) (h : TsOk ts) (r : Rl) (hc : CanAt c ts) (b d : SV) : ∀ (later row : List Int) (x x5 : SV), FreeS x → FreeS x5 → RowSz 300 row → RowSz 300 later → ts.length ≤ row.length → row.length + later.length < 1000 →
    ∃ row' x' x5', forL (bindT (.nm 4)) (exs c 0 bCan) (later.map .int) [sv0 (predD ts r), b, d, rowS row, x, x5] = .ok (if canR ts row.reverse later = true then .nx [sv0 (predD ts r), b, d, rowS row', x', x5'] else .rt (.bool false) [sv0 (predD ts r), b, d, rowS row', x', x5'])
  | [], row, x, x5, _, _, _, _, _, _ => ⟨row, x, x5, rfl⟩
  | one :: later, row, x, x5, hx, h5, hr, hs, hl, hn => by
    have ho := hs one (List.mem_cons_self ..)
    obtain ⟨y, hy, t⟩ := can_turn c ts h r hc row hr hl (by omega) one ho b d x5 h5
    have hb : bindT (.nm 4) (.int one) [sv0 (predD ts r), b, d, rowS row, x, x5] = some [sv0 (predD ts r), b, d, rowS row, sv0 (.int one), x5] := setS_free (i := 4) (s := x) rfl hx
    rw [List.map_cons]
    cases hw : away ts row.reverse one with
    | true =>
      rw [hw] at t
      refine ⟨row, sv0 (.int one), y, ?_⟩
      simp only [forL, hb, r_of, r_ok, t, canR, hw]
      rfl
    | false =>
      rw [hw] at t
      obtain ⟨row', x', x5', ih⟩ := can_loop c ts h r hc b d later (row ++ [one]) (sv0 (.int one)) y (fr_sv0 _) hy (fun z hz => by
        rcases List.mem_append.mp hz with hz | hz
        · exact hr z hz
        · simp at hz; subst hz; exact ho) (fun z hz => hs z (List.mem_cons_of_mem _ hz)) (by simp; omega) (by simp at hn ⊢; omega)
      refine ⟨row', x', x5', ?_⟩
      simp only [forL, hb, r_of, r_ok, t, canR, hw]
      have e : (row ++ [one]).reverse = one :: row.reverse := by simp
      rw [e] at ih
      exact ih
theorem b17_eq : b17 = .cons (.as (.nm 3) 1 (.bi .list (.cons (.p (.at 1)) .nil))) (.cons (.for (.nm 4) (.e (.p (.at 2))) bCan) (.cons (.ret (.p (.k (.bool true)))) .nil)) := rfl
/-- a row, as a tuple or a list -/
def IsRow (d : PyData) (row : List Int) : Prop := d = .tuple (row.map .int) ∨ d = .list (row.map .int)
theorem list_of (c : Orc) {d : PyData} {row : List Int} (h : IsRow d row) (hf : True) (a u : SV) (w : EnvD) : exS c 0 (.as (.nm 3) 1 (.bi .list (.cons (.p (.at 1)) .nil))) (a :: sv0 d :: u :: .un :: w) = .ok (.nx (a :: sv0 d :: u :: rowS row :: w)) := by
  rcases h with rfl | rfl <;> simp [exS, ev_bi, evA, allP, lateE, toP, opd, fin, finO, evPb, evP, slot, Fx.bi, g1, lstD, own1, isCont, setS, r_of, r_ok]
theorem can_run (c : Orc) (ts : List Rat) (h : TsOk ts) (r : Rl) (hc : CanAt c ts) (past later : List Int) (hp : RowSz 300 past) (hs : RowSz 300 later) (hl : ts.length ≤ past.length) (hn : past.length + later.length < 1000) :
    (exs c 0 b17 [sv0 (predD ts r), sv0 (.tuple (past.map .int)), sv0 (.tuple (later.map .int)), .un, .un, .un]).bind Fl.val = .ok (.bool (canR ts past.reverse later)) := by
  obtain ⟨row', x', x5', hL⟩ := can_loop c ts h r hc (sv0 (.tuple (past.map .int))) (sv0 (.tuple (later.map .int))) later past .un .un (.inl rfl) (.inl rfl) hp hs hl hn
  have e1 := list_of c (d := .tuple (past.map .int)) (row := past) (.inl rfl) trivial (sv0 (predD ts r)) (sv0 (.tuple (later.map .int))) [.un, .un]
  have e2 : exS c 0 (.for (.nm 4) (.e (.p (.at 2))) bCan) [sv0 (predD ts r), sv0 (.tuple (past.map .int)), sv0 (.tuple (later.map .int)), rowS past, .un, .un] = .ok (if canR ts past.reverse later = true then .nx [sv0 (predD ts r), sv0 (.tuple (past.map .int)), sv0 (.tuple (later.map .int)), rowS row', x', x5'] else .rt (.bool false) [sv0 (predD ts r), sv0 (.tuple (past.map .int)), sv0 (.tuple (later.map .int)), rowS row', x', x5']) :=
    (for_e (d := .tuple (later.map .int)) (env' := [sv0 (predD ts r), sv0 (.tuple (past.map .int)), sv0 (.tuple (later.map .int)), rowS past, .un, .un]) (by simp [evPk, evP, slot, isCont]) rfl).trans hL
  rw [b17_eq, exs_nx e1]
  cases hw : canR ts past.reverse later with
  | true =>
    rw [hw] at e2
    rw [exs_nx e2]
    simp [exs, exS, ev_p, evPk, evP, isCont, r_of, r_ok, Fl.val]
  | false =>
    rw [hw] at e2
    rw [exs_rt e2]
    rfl
theorem can_come_ok (m : Nat) (ts : List Rat) (h : TsOk ts) (r : Rl) (past later : List Int) (hp : RowSz 300 past) (hs : RowSz 300 later) (hl : ts.length ≤ past.length) (hn : past.length + later.length < 1000) :
    callV (prg.orc (m + 4)) 17 [predD ts r, .tuple (past.map .int), .tuple (later.map .int)] = .ok (.bool (canR ts past.reverse later)) := by
  rw [callV_eq (D := d17) rfl rfl]
  exact can_run (prg.orc (m + 3)) ts h r ⟨fun row h1 h2 => exact_ok m ts h row h1 h2 1, fun p q h1 h2 => l_minus (m + 1) h1 h2⟩ past later hp hs hl hn
end K49
set_option Elab.async false
set_option linter.all false
set_option maxRecDepth 100000
set_option maxHeartbeats 4000000
namespace K49
open PySem PySem.Spec PyProof.Rows L2 Fx
/-! ### whole taps -/
theorem mulI_ok {a b : Int} (ha : 0 < a) (hb : 0 < b) : 0 < mulI a b ∧ a ∣ mulI a b ∧ b ∣ mulI a b ∧ mulI a b ≤ a * b := by
  have hg : (0 : Int) < (Int.gcd a b : Nat) := by
    have := Int.gcd_pos_of_ne_zero_right a (b := b) (by omega)
    omega
  obtain ⟨k, hk⟩ := Int.gcd_dvd_left a b
  obtain ⟨l, hl⟩ := Int.gcd_dvd_right a b
  unfold mulI
  generalize ((Int.gcd a b : Nat) : Int) = g at *
  have e : a.fdiv g = k := by rw [hk, Int.mul_fdiv_cancel_left _ (by omega)]
  rw [e]
  have hkp : 0 < k := by
    rcases Int.lt_trichotomy k 0 with h | h | h
    · have := Int.mul_neg_of_pos_of_neg hg h
      omega
    · subst h; simp at hk; omega
    · exact h
  refine ⟨Int.mul_pos hkp hb, ⟨l, ?_⟩, ⟨k, Int.mul_comm _ _⟩, ?_⟩
  · rw [hk, hl, Int.mul_comm k (g * l), Int.mul_assoc, Int.mul_comm l k, ← Int.mul_assoc]
  · have h1 : k ≤ a := by
      rw [hk]
      have := Int.mul_le_mul_of_nonneg_right (a := 1) (b := g) (c := k) (by omega) (by omega)
      omega
    exact Int.mul_le_mul_of_nonneg_right h1 (by omega)
def belowOf (ts : List Rat) (b : Int) : Int := ts.foldl (fun b t => mulI b (t.den : Int)) b
theorem below_ok : ∀ {ts : List Rat} {b : Int} {k : Nat}, (∀ t ∈ ts, Sq 3 3 t) → 0 < b → b < 2 ^ k → 0 < belowOf ts b ∧ b ∣ belowOf ts b ∧ (∀ t ∈ ts, (t.den : Int) ∣ belowOf ts b) ∧ belowOf ts b < 2 ^ (k + 3 * ts.length)
  | [], b, k, _, hb, hk => ⟨hb, ⟨1, by simp [belowOf]⟩, fun t ht => by simp at ht, by simpa [belowOf] using hk⟩
  | t :: ts, b, k, h, hb, hk => by
    have hd := den_posI t
    obtain ⟨m1, m2, m3, m4⟩ := mulI_ok hb hd
    have hs := (h t (List.mem_cons_self ..)).2
    have hlt : mulI b (t.den : Int) < 2 ^ (k + 3) := by
      refine Int.lt_of_le_of_lt m4 ?_
      have h1 : (t.den : Int) ≤ 8 := by have : (2 : Nat) ^ 3 = 8 := by decide
                                        omega
      have h2 := Int.mul_le_mul_of_nonneg_left (a := (t.den : Int)) (b := 8) (c := b) h1 (by omega)
      have h3 : (2 : Int) ^ (k + 3) = 2 ^ k * 8 := by rw [Int.pow_add]; rfl
      omega
    obtain ⟨i1, i2, i3, i4⟩ := below_ok (ts := ts) (b := mulI b (t.den : Int)) (k := k + 3) (fun u hu => h u (List.mem_cons_of_mem _ hu)) m1 hlt
    refine ⟨i1, Int.dvd_trans m2 i2, fun u hu => ?_, ?_⟩
    · rcases List.mem_cons.mp hu with rfl | hu
      · exact Int.dvd_trans m3 i2
      · exact i3 u hu
    · have e : k + 3 + 3 * ts.length = k + 3 * (t :: ts).length := by simp; omega
      rw [e] at i4
      exact i4
def bBel : Ss := .cons (.as (.nm 1) 0 (.call 1 none (.v (.p (.at 1)) (.v (.p (.at 3)) .nil)))) .nil
theorem bel_loop (c : Orc) (hc : ∀ a b : Int, 0 < a → 0 < b → b < 2 ^ 60 → callV c 1 [.int a, .int b] = .ok (.int (mulI a b))) (a : SV) : ∀ (ts : List Rat) (b : Int) (x y : SV), Fr0 x → Fr0 y → (∀ t ∈ ts, Sq 3 3 t) → 0 < b →
    ∃ x' y', Fr0 x' ∧ Fr0 y' ∧ forL (bindT (.tp (.cons (.nm 2) (.cons (.nm 3) .nil)))) (exs c 0 bBel) (ts.map frac) [a, sv0 (.int b), x, y] = .ok (.nx [a, sv0 (.int (belowOf ts b)), x', y'])
  | [], b, x, y, hx, hy, _, _ => ⟨x, y, hx, hy, rfl⟩
  | t :: ts, b, x, y, hx, hy, h, hb => by
    have hd := den_posI t
    have hs := (h t (List.mem_cons_self ..)).2
    have c1 := hc b (t.den : Int) hb hd (by have : (2 : Nat) ^ 3 = 8 := by decide
                                            omega)
    obtain ⟨x', y', hx', hy', ih⟩ := bel_loop c hc a ts (mulI b (t.den : Int)) (sv0 (.int t.num)) (sv0 (.int (t.den : Int))) (.inr ⟨_, rfl⟩) (.inr ⟨_, rfl⟩) (fun u hu => h u (List.mem_cons_of_mem _ hu)) (mulI_ok hb hd).1
    refine ⟨x', y', hx', hy', ?_⟩
    have hbd : bindT (.tp (.cons (.nm 2) (.cons (.nm 3) .nil))) (frac t) [a, sv0 (.int b), x, y] = some [a, sv0 (.int b), sv0 (.int t.num), sv0 (.int (t.den : Int))] := bindT2 (i := 2) (j := 3) (s := x) (s' := y) rfl hx.fr rfl hy.fr
    have hbody : exs c 0 bBel [a, sv0 (.int b), sv0 (.int t.num), sv0 (.int (t.den : Int))] = .ok (.nx [a, sv0 (.int (mulI b (t.den : Int))), sv0 (.int t.num), sv0 (.int (t.den : Int))]) := by
      simp [bBel, exs, exS, ev_call_2, evR, ev_p, evPk, evP, slot, isCont, c1, setS, sv0, r_of, r_ok]
    rw [List.map_cons]
    simp only [forL, hbd, r_of, r_ok, hbody]
    exact ih
/-- the taps as whole numbers over one below -/
def wholeOf (ts : List Rat) : List Int := ts.map fun t => t.num * (belowOf ts 1).fdiv (t.den : Int)
theorem whole_lc (c : Orc) (ts : List Rat) (h : TsOk ts) (B : Int) (x y : SV) (hx : Fr0 x) (hy : Fr0 y) : ev c (.lc [2, 3] (.tp (.cons (.nm 2) (.cons (.nm 3) .nil))) (.e (.p (.at 0))) .nil (.b2 .mul (.p (.at 2)) (.b2 .fdiv (.p (.at 1)) (.p (.at 3))))) 0 [sv0 (tapsD ts), sv0 (.int B), x, y] =
    .ok (.list (ts.map fun t => .int (t.num * B.fdiv (t.den : Int))), [sv0 (tapsD ts), sv0 (.int B), x, y]) := by
  have ow : ownOk [sv0 (tapsD ts), sv0 (.int B), x, y] [2, 3] = true := by
    rcases hx with rfl | ⟨d, rfl⟩ <;> rcases hy with rfl | ⟨d', rfl⟩ <;> simp [ownOk]
  have w0 : wipeD [sv0 (tapsD ts), sv0 (.int B), x, y] [2, 3] = [sv0 (tapsD ts), sv0 (.int B), .un, .un] := by simp [wipeD]
  refine ev_lcMA ts frac _ ow (by simp [evI, ev_p, evPk, evP, slot, isCont, tapsD, itemsD, r_of, r_ok]) (by have := h.len; omega) ?_ (by simp [backD, wipeD])
  intro t ht
  rw [w0]
  refine ⟨[sv0 (tapsD ts), sv0 (.int B), sv0 (.int t.num), sv0 (.int (t.den : Int))], [sv0 (tapsD ts), sv0 (.int B), sv0 (.int t.num), sv0 (.int (t.den : Int))], bindT2 (i := 2) (j := 3) (s := .un) (s' := .un) rfl (.inl rfl) rfl (.inl rfl), ?_, by simp [wipeD]⟩
  have hs := h.sz t ht
  have hb : ∀ z, bitsOk t.num z = true := fun z => bits_l (Nat.lt_of_lt_of_le (log2_lt (k := 3) (by decide) hs.1) (by decide))
  have hl : t.den.log2 < 9000 := Nat.lt_of_lt_of_le (log2_lt (k := 3) (by decide) hs.2) (by decide)
  have hdn : ¬ t.den = 0 := t.den_nz
  simp [ev_b2, ev_p, evPk, evP, slot, opd2, opd, fin, lateE, isP, toP, finO, evPb, g2, Fx.b2, own1, isCont, hb, hl, hdn, r_of, r_ok]
theorem whole_run (c : Orc) (hc : ∀ a b : Int, 0 < a → 0 < b → b < 2 ^ 60 → callV c 1 [.int a, .int b] = .ok (.int (mulI a b))) (ts : List Rat) (h : TsOk ts) :
    ∃ e, exs c 0 b2 [sv0 (tapsD ts), .un, .un, .un] = .ok (.rt (.tuple [.int (belowOf ts 1), .list ((wholeOf ts).map .int)]) e) := by
  obtain ⟨x', y', hx', hy', hL⟩ := bel_loop c hc (sv0 (tapsD ts)) ts 1 .un .un (.inl rfl) (.inl rfl) h.sz (by decide)
  have e1 : exS c 0 (.as (.nm 1) 0 (.p (.k (.int 1)))) [sv0 (tapsD ts), .un, .un, .un] = .ok (.nx [sv0 (tapsD ts), sv0 (.int 1), .un, .un]) := by
    simp [exS, ev_p, evPk, evP, isCont, setS, r_of, r_ok]
  have e2 : exS c 0 (.for (.tp (.cons (.nm 2) (.cons (.nm 3) .nil))) (.e (.p (.at 0))) bBel) [sv0 (tapsD ts), sv0 (.int 1), .un, .un] = .ok (.nx [sv0 (tapsD ts), sv0 (.int (belowOf ts 1)), x', y']) :=
    (for_e (d := tapsD ts) (xs := ts.map frac) (env' := [sv0 (tapsD ts), sv0 (.int 1), .un, .un]) (by simp [evPk, evP, slot, isCont, tapsD]) rfl).trans hL
  have e3 := whole_lc c ts h (belowOf ts 1) x' y' hx' hy'
  have e5 : (ts.map fun t => PyData.int (t.num * (belowOf ts 1).fdiv (t.den : Int))) = (wholeOf ts).map .int := by simp [wholeOf]
  rw [e5] at e3
  have e4 : ∀ L, ev c L 0 [sv0 (tapsD ts), sv0 (.int (belowOf ts 1)), x', y'] = .ok (.list ((wholeOf ts).map .int), [sv0 (tapsD ts), sv0 (.int (belowOf ts 1)), x', y']) →
      exS c 0 (.ret (.tup (.cons (.p (.at 1)) (.cons L .nil)))) [sv0 (tapsD ts), sv0 (.int (belowOf ts 1)), x', y'] = .ok (.rt (.tuple [.int (belowOf ts 1), .list ((wholeOf ts).map .int)]) [sv0 (tapsD ts), sv0 (.int (belowOf ts 1)), x', y']) := fun L hL => by
    simp [exS, ev_tup, evs, ev_p, evPk, evP, slot, isCont, hL, r_of, r_ok]
  exact ⟨_, (exs_nx e1).trans ((exs_nx e2).trans (exs_rt (e4 _ e3)))⟩
theorem whole_ok (m : Nat) (ts : List Rat) (h : TsOk ts) : callV (prg.orc (m + 3)) 2 [tapsD ts] = .ok (.tuple [.int (belowOf ts 1), .list ((wholeOf ts).map .int)]) := by
  obtain ⟨e, g⟩ := whole_run (prg.orc (m + 2)) (fun a b h1 h2 h3 => multiple_ok m a b h1 h2 h3) ts h
  exact callV_rt (D := d2) _ rfl rfl rfl g
/-! ### tapped -/
def dotI : List Int → List Int → Int
  | n :: ns, r :: R => n * r + dotI ns R
  | _, _ => 0
theorem dot_range : ∀ (ns R : List Int), ns.length ≤ R.length → ((List.range ns.length).map fun i => ns.getD i 0 * R.getD i 0).sum = dotI ns R
  | [], R, _ => by cases R <;> rfl
  | n :: ns, [], h => by simp at h
  | n :: ns, r :: R, h => by
    have ih := dot_range ns R (by simpa using h)
    rw [List.length_cons, List.range_succ_eq_map]
    simp only [List.map_cons, List.map_map, List.sum_cons, dotI, List.getD_cons_zero]
    rw [← ih]
    congr 1
theorem dot_lin (B : Int) : ∀ (ts : List Rat) (R : List Int), (∀ t ∈ ts, (t.den : Int) ∣ B) → ((dotI (ts.map fun t => t.num * B.fdiv (t.den : Int)) R : Int) : Rat) = lin ts R * (B : Rat)
  | [], R, _ => by
    have : lin [] R = 0 := by cases R <;> rfl
    rw [this]
    cases R <;> simp [dotI] <;> grind
  | t :: ts, [], _ => by
    have : lin (t :: ts) [] = 0 := rfl
    rw [this]
    simp [dotI]
  | t :: ts, r :: R, h => by
    have ih := dot_lin B ts R fun u hu => h u (List.mem_cons_of_mem _ hu)
    obtain ⟨k, hk⟩ := h t (List.mem_cons_self ..)
    have hd := den_posI t
    have e : B.fdiv (t.den : Int) = k := by rw [hk, Int.mul_fdiv_cancel_left _ (by omega)]
    simp only [List.map_cons, dotI, lin, Rat.intCast_add, ih, e, Rat.intCast_mul]
    have hb : (B : Rat) = ((t.den : Int) : Rat) * (k : Rat) := by rw [← Rat.intCast_mul, ← hk]
    rw [num_den t, hb]
    grind
end K49
set_option Elab.async false
set_option linter.all false
set_option maxRecDepth 100000
set_option maxHeartbeats 4000000
namespace K49
open PySem PySem.Spec PyProof.Rows L2 Fx
theorem atI_back {α : Type} {xs : List α} {i : Nat} {x : α} (h : xs.reverse[i]? = some x) : L2.atI xs (-1 - (i : Int)) = some x := by
  have hi : i < xs.length := by
    have := (List.getElem?_eq_some_iff.mp h).1
    simpa using this
  rw [List.getElem?_reverse hi] at h
  have e : ((-1 - (i : Int)) + (xs.length : Int)).toNat = xs.length - 1 - i := by omega
  unfold L2.atI L2.ixN
  rw [if_neg (by omega), if_pos (by omega)]
  simp only [e, Option.bind_some]
  first | exact h | (simpa using h)
theorem tapped_run (c : Orc) (ns row : List Int) (hn : ∀ n ∈ ns, n.natAbs < 2 ^ 60) (hl : ns.length ≤ row.length) (hl' : ns.length < 1000) : exs c 0 b3 [sv0 (.list (ns.map .int)), .sv true 1 (.list (row.map .int)), .un, .un] = .ok (.rt (.int (dotI ns row.reverse)) [sv0 (.list (ns.map .int)), .sv true 1 (.list (row.map .int)), .un, .un]) := by
  have g := genL_mapA (c := c) (tg := .tp (.cons (.nm 2) (.cons (.nm 3) .nil))) (q := .p (.b2 .mul (.at 3) (.ix (.at 1) (.b2 .sub (.p1 .neg (.k (.int 1))) (.at 2))))) (env := [sv0 (.list (ns.map .int)), .sv true 1 (.list (row.map .int)), .un, .un]) (xs := List.range ns.length)
    (φ := fun i => .tuple [.int (i : Nat), (ns.map PyData.int).getD i .none]) (γ := fun i => .int (ns.getD i 0 * row.reverse.getD i 0)) fun i hi => by
      have hi := List.mem_range.mp hi
      have hr : i < row.reverse.length := by simp; omega
      obtain ⟨n, h1⟩ : ∃ n, ns[i]? = some n := ⟨_, List.getElem?_eq_getElem hi⟩
      obtain ⟨r, h2⟩ : ∃ r, row.reverse[i]? = some r := ⟨_, List.getElem?_eq_getElem hr⟩
      have e1 : (ns.map PyData.int).getD i .none = .int n := map_getD h1
      have e2 : ns.getD i 0 = n := by simp [List.getD, h1]
      have e3 : row.reverse.getD i 0 = r := by rw [List.getD, h2]; rfl
      have e4 : ixD (.list (row.map .int)) (.int (-1 - (i : Int))) = some (.int r) := by
        show L2.atI (row.map PyData.int) _ = _
        refine atI_back ?_
        rw [← List.map_reverse, List.getElem?_map, h2]; rfl
      have hb : bitsOk n r = true := bits_l (Nat.lt_of_lt_of_le (log2_lt (k := 60) (by decide) (hn n (List.mem_of_getElem? h1))) (by decide))
      rw [e1, e2, e3]
      refine ⟨[sv0 (.list (ns.map .int)), .sv true 1 (.list (row.map .int)), sv0 (.int i), sv0 (.int n)], bindT2 (i := 2) (j := 3) (s := .un) (s' := .un) rfl (.inl rfl) rfl (.inl rfl), ?_⟩
      simp [evQ, evP, slot, Fx.p1, Fx.b2, Fx.scal, isCont, e4, hb]
  have e0 : (List.range ns.length).map (fun i => PyData.int (ns.getD i 0 * row.reverse.getD i 0)) = ((List.range ns.length).map fun i => ns.getD i 0 * row.reverse.getD i 0).map .int := by simp
  have e1 : enumD (.list (ns.map PyData.int)) = some ((List.range ns.length).map fun i => .tuple [.int (i : Nat), (ns.map PyData.int).getD i .none]) := by
    show some (enumL _) = _
    rw [enum_map]
  rw [e0] at g
  have e2 : genF .sum (((List.range ns.length).map fun i => ns.getD i 0 * row.reverse.getD i 0).map .int) = some (.int (dotI ns row.reverse)) := by
    simp only [genF, allInt_map, Option.map_some]
    rw [dot_range ns row.reverse (by simp; omega)]
  refine exs_rt (ss := .nil) ?_
  have e3 : evPk c (.at 0) 0 [sv0 (.list (ns.map .int)), .sv true 1 (.list (row.map .int)), .un, .un] = some (.list (ns.map .int), [sv0 (.list (ns.map .int)), .sv true 1 (.list (row.map .int)), .un, .un]) := by simp [evPk, evP, slot, isCont]
  simp only [exS, ev_gen, evI, ev_p, e3, r_of, r_ok, e1, g, Option.bind_some, e2]
theorem tapped_ok (m : Nat) (ns row : List Int) (hn : ∀ n ∈ ns, n.natAbs < 2 ^ 60) (hl : ns.length ≤ row.length) (hl' : ns.length < 1000) : (prg.orc (m + 1)).fn 3 [sv0 (.list (ns.map .int)), .sv true 1 (.list (row.map .int))] = .ok (.int (dotI ns row.reverse), [sv0 (.list (ns.map .int)), .sv true 1 (.list (row.map .int))]) :=
  fn_rt (D := d3) _ rfl rfl rfl (tapped_run (prg.orc m) ns row hn hl hl') rfl
/-! ### can_differ -/
def sDf : S := .iff (.c2 .ge (.bi .abs (.cons (.b2 .sub (.b2 .mul (.p (.at 4)) (.p (.at 5))) (.call 3 none (.v (.p (.at 6)) (.l 3 .nil)))) .nil)) (.p (.at 5))) (.cons (.ret (.p (.k (.bool false)))) .nil) .nil
def bDf : Ss := .cons sDf (.cons sCc .nil)
/-- whole taps as told -/
structure WOk (ts : List Rat) (B : Int) (ns : List Int) : Prop where
  pos : 0 < B
  sm : B < 2 ^ 60
  len : ns.length = ts.length
  lin : ∀ R, ((dotI ns R : Int) : Rat) = lin ts R * (B : Rat)
theorem df_a (c : Orc) (ts : List Rat) (B : Int) (ns : List Int) (w : WOk ts B ns) (row : List Int) (hc : c.fn 3 [sv0 (.list (ns.map .int)), .sv true 1 (.list (row.map .int))] = .ok (.int (dotI ns row.reverse), [sv0 (.list (ns.map .int)), .sv true 1 (.list (row.map .int))])) (one : Int) (a b d : SV) :
    exS c 0 sDf [a, b, d, rowS row, sv0 (.int one), sv0 (.int B), sv0 (.list (ns.map .int))] = .ok (if away ts row.reverse one = true then .rt (.bool false) [a, b, d, rowS row, sv0 (.int one), sv0 (.int B), sv0 (.list (ns.map .int))] else .nx [a, b, d, rowS row, sv0 (.int one), sv0 (.int B), sv0 (.list (ns.map .int))]) := by
  have hf := far_mul (x := (one : Rat)) (l := lin ts row.reverse) w.pos (n := one) (z := dotI ns row.reverse) (by rw [Rat.intCast_sub, Rat.intCast_mul, w.lin]; grind)
  rw [← away_iff] at hf
  have c1 : ev c (.call 3 none (.v (.p (.at 6)) (.l 3 .nil))) 0 [a, b, d, rowS row, sv0 (.int one), sv0 (.int B), sv0 (.list (ns.map .int))] = .ok (.int (dotI ns row.reverse), [a, b, d, rowS row, sv0 (.int one), sv0 (.int B), sv0 (.list (ns.map .int))]) :=
    ev_callVL (l := false) (k := 1) rfl (by simp [ev_p, evPk, evP, slot, isCont, r_of]) hc
  have hb : ∀ z, bitsOk z B = true := fun z => bits_r (small_log (k := 64) (by have := w.pos; omega) (by have := w.sm; omega) (by decide))
  generalize dotI ns row.reverse = z at c1 hf
  generalize away ts row.reverse one = q at hf ⊢
  cases q with
  | true =>
    have := hf.mpr rfl
    simp [sDf, exS, exs, evT, ev_p, ev_b2, ev_bi, evA, allP, evPk, evP, slot, opd2, opd, fin, lateE, isP, toP, finO, evPb, g2, g1, Fx.bi, Fx.p1, Fx.b2, own1, c2B, Fx.c2, ii, isCont, c1, hb, r_of, r_ok, this]
  | false =>
    have := mt hf.mp (by decide)
    simp [sDf, exS, exs, evT, ev_p, ev_b2, ev_bi, evA, allP, evPk, evP, slot, opd2, opd, fin, lateE, isP, toP, finO, evPb, g2, g1, Fx.bi, Fx.p1, Fx.b2, own1, c2B, Fx.c2, ii, isCont, c1, hb, r_of, r_ok, this]
def TapAt (c : Orc) (ns : List Int) : Prop := ∀ row : List Int, ns.length ≤ row.length → c.fn 3 [sv0 (.list (ns.map .int)), .sv true 1 (.list (row.map .int))] = .ok (.int (dotI ns row.reverse), [sv0 (.list (ns.map .int)), .sv true 1 (.list (row.map .int))])
theorem df_loop (c : Orc) (ts : List Rat) (B : Int) (ns : List Int) (w : WOk ts B ns) (hc : TapAt c ns) (a b d : SV) : ∀ (later row : List Int) (x : SV), FreeS x → ts.length ≤ row.length → row.length + later.length < 1000 →
    ∃ row' x', forL (bindT (.nm 4)) (exs c 0 bDf) (later.map .int) [a, b, d, rowS row, x, sv0 (.int B), sv0 (.list (ns.map .int))] = .ok (if canR ts row.reverse later = true then .nx [a, b, d, rowS row', x', sv0 (.int B), sv0 (.list (ns.map .int))] else .rt (.bool false) [a, b, d, rowS row', x', sv0 (.int B), sv0 (.list (ns.map .int))])
  | [], row, x, _, _, _ => ⟨row, x, rfl⟩
  | one :: later, row, x, hx, hl, hn => by
    have t1 := df_a c ts B ns w row (hc row (by rw [w.len]; exact hl)) one a b d
    have t2 := app_ok c row (by omega) one a b d [sv0 (.int B), sv0 (.list (ns.map .int))]
    have hb : bindT (.nm 4) (.int one) [a, b, d, rowS row, x, sv0 (.int B), sv0 (.list (ns.map .int))] = some [a, b, d, rowS row, sv0 (.int one), sv0 (.int B), sv0 (.list (ns.map .int))] := setS_free (i := 4) (s := x) rfl hx
    rw [List.map_cons]
    cases hw : away ts row.reverse one with
    | true =>
      rw [hw] at t1
      refine ⟨row, sv0 (.int one), ?_⟩
      have t : exs c 0 bDf [a, b, d, rowS row, sv0 (.int one), sv0 (.int B), sv0 (.list (ns.map .int))] = .ok (.rt (.bool false) [a, b, d, rowS row, sv0 (.int one), sv0 (.int B), sv0 (.list (ns.map .int))]) := exs_rt t1
      simp only [forL, hb, r_of, r_ok, t, canR, hw]
      rfl
    | false =>
      rw [hw] at t1
      have t : exs c 0 bDf [a, b, d, rowS row, sv0 (.int one), sv0 (.int B), sv0 (.list (ns.map .int))] = .ok (.nx [a, b, d, rowS (row ++ [one]), sv0 (.int one), sv0 (.int B), sv0 (.list (ns.map .int))]) := (exs_nx t1).trans ((exs_nx t2).trans (by simp only [exs]))
      obtain ⟨row', x', ih⟩ := df_loop c ts B ns w hc a b d later (row ++ [one]) (sv0 (.int one)) (fr_sv0 _) (by simp; omega) (by simp at hn ⊢; omega)
      refine ⟨row', x', ?_⟩
      simp only [forL, hb, r_of, r_ok, t, canR, hw]
      have e : (row ++ [one]).reverse = one :: row.reverse := by simp
      rw [e] at ih
      exact ih
theorem b4_eq : b4 = .cons (.as (.tp (.cons (.nm 5) (.cons (.nm 6) .nil))) 0 (.call 2 none (.v (.p (.ix (.at 0) (.k (.int 0)))) .nil))) (.cons (.as (.nm 3) 1 (.bi .list (.cons (.p (.at 1)) .nil))) (.cons (.for (.nm 4) (.e (.p (.at 2))) bDf) (.cons (.ret (.p (.k (.bool true)))) .nil))) := rfl
theorem df_run (c : Orc) (ts : List Rat) (r : Rl) (B : Int) (ns : List Int) (w : WOk ts B ns) (hw : callV c 2 [tapsD ts] = .ok (.tuple [.int B, .list (ns.map .int)])) (hc : TapAt c ns) (past later : List Int) (hl : ts.length ≤ past.length) (hn : past.length + later.length < 1000) :
    (exs c 0 b4 [sv0 (predD ts r), sv0 (.tuple (past.map .int)), sv0 (.tuple (later.map .int)), .un, .un, .un, .un]).bind Fl.val = .ok (.bool (canR ts past.reverse later)) := by
  have e0 : exS c 0 (.as (.tp (.cons (.nm 5) (.cons (.nm 6) .nil))) 0 (.call 2 none (.v (.p (.ix (.at 0) (.k (.int 0)))) .nil))) [sv0 (predD ts r), sv0 (.tuple (past.map .int)), sv0 (.tuple (later.map .int)), .un, .un, .un, .un] = .ok (.nx [sv0 (predD ts r), sv0 (.tuple (past.map .int)), sv0 (.tuple (later.map .int)), .un, .un, sv0 (.int B), sv0 (.list (ns.map .int))]) := by
    have e : evPk c (.ix (.at 0) (.k (.int 0))) 0 [sv0 (predD ts r), sv0 (.tuple (past.map .int)), sv0 (.tuple (later.map .int)), .un, .un, .un, .un] = some (tapsD ts, [sv0 (predD ts r), sv0 (.tuple (past.map .int)), sv0 (.tuple (later.map .int)), .un, .un, .un, .un]) := by simp [evPk, evP, slot, predD, ix_tupl, at0, isCont, tapsD]
    simp only [exS, ev_call_1, evR, ev_p, e, r_of, r_ok, hw]
    simp [bindT, bindTs, setS, r_of, r_ok]
  have e1 := list_of c (d := .tuple (past.map .int)) (row := past) (.inl rfl) trivial (sv0 (predD ts r)) (sv0 (.tuple (later.map .int))) [.un, sv0 (.int B), sv0 (.list (ns.map .int))]
  obtain ⟨row', x', hL⟩ := df_loop c ts B ns w hc (sv0 (predD ts r)) (sv0 (.tuple (past.map .int))) (sv0 (.tuple (later.map .int))) later past .un (.inl rfl) hl hn
  have e2 : exS c 0 (.for (.nm 4) (.e (.p (.at 2))) bDf) [sv0 (predD ts r), sv0 (.tuple (past.map .int)), sv0 (.tuple (later.map .int)), rowS past, .un, sv0 (.int B), sv0 (.list (ns.map .int))] = .ok (if canR ts past.reverse later = true then .nx [sv0 (predD ts r), sv0 (.tuple (past.map .int)), sv0 (.tuple (later.map .int)), rowS row', x', sv0 (.int B), sv0 (.list (ns.map .int))] else .rt (.bool false) [sv0 (predD ts r), sv0 (.tuple (past.map .int)), sv0 (.tuple (later.map .int)), rowS row', x', sv0 (.int B), sv0 (.list (ns.map .int))]) :=
    (for_e (d := .tuple (later.map .int)) (env' := [sv0 (predD ts r), sv0 (.tuple (past.map .int)), sv0 (.tuple (later.map .int)), rowS past, .un, sv0 (.int B), sv0 (.list (ns.map .int))]) (by simp [evPk, evP, slot, isCont]) rfl).trans hL
  rw [b4_eq, exs_nx e0, exs_nx e1]
  cases hw : canR ts past.reverse later with
  | true =>
    rw [hw] at e2
    rw [exs_nx e2]
    simp [exs, exS, ev_p, evPk, evP, isCont, r_of, r_ok, Fl.val]
  | false =>
    rw [hw] at e2
    rw [exs_rt e2]
    rfl
theorem whole_w (ts : List Rat) (h : TsOk ts) : WOk ts (belowOf ts 1) (wholeOf ts) ∧ ∀ n ∈ wholeOf ts, n.natAbs < 2 ^ 60 := by
  obtain ⟨h1, h2, h3, h4⟩ := below_ok (b := 1) (k := 1) h.sz (by decide) (by decide)
  have hl := h.len
  have h5 : belowOf ts 1 < 2 ^ 20 := Int.lt_of_lt_of_le h4 (by
    have : (2 : Nat) ^ (1 + 3 * ts.length) ≤ 2 ^ 20 := Nat.pow_le_pow_right (by decide) (by omega)
    exact_mod_cast this)
  refine ⟨⟨h1, Int.lt_of_lt_of_le h5 (by decide), by simp [wholeOf], fun R => dot_lin _ ts R h3⟩, fun n hn => ?_⟩
  obtain ⟨t, ht, rfl⟩ := List.mem_map.mp hn
  have hs := (h.sz t ht).1
  have hd := den_posI t
  rw [Int.fdiv_eq_ediv_of_nonneg _ (by omega), Int.natAbs_mul]
  have a1 : (belowOf ts 1 / (t.den : Int)).natAbs ≤ (belowOf ts 1).natAbs := Int.natAbs_ediv_le_natAbs _ _
  have a2 : (belowOf ts 1).natAbs < 2 ^ 20 := by omega
  exact Nat.lt_of_lt_of_le (mul_lt hs (Nat.lt_of_le_of_lt a1 a2)) (by decide)
theorem differ_ok (m : Nat) (ts : List Rat) (h : TsOk ts) (r : Rl) (past later : List Int) (hl : ts.length ≤ past.length) (hn : past.length + later.length < 1000) :
    callV (prg.orc (m + 4)) 4 [predD ts r, .tuple (past.map .int), .tuple (later.map .int)] = .ok (.bool (canR ts past.reverse later)) := by
  obtain ⟨w, hs⟩ := whole_w ts h
  have h6 := h.len
  rw [callV_eq (D := d4) rfl rfl]
  exact df_run (prg.orc (m + 3)) ts r _ _ w (whole_ok m ts h) (fun row hl => tapped_ok (m + 2) _ row hs hl (by rw [w.len]; omega)) past later hl hn
end K49
set_option Elab.async false
set_option linter.all false
set_option maxRecDepth 100000
set_option maxHeartbeats 4000000
namespace K49
open PySem PySem.Spec PyProof.Rows L2 Fx
theorem tape_ok (m : Nat) (ns : List Int) : ∃ r, (prg.orc (m + 1)).fn 6 [sv0 (.list (ns.map .int))] = .ok (tapeD ⟨ns, 0, 0, 0, 7, 0⟩, r) := by
  have g : ∀ c : Orc, exs c 1 b6 [sv0 (.list (ns.map .int))] = .ok (.rt (tapeD ⟨ns, 0, 0, 0, 7, 0⟩) [sv0 (.list (ns.map .int))]) := fun c => by
    have e : ([Sum.inr "cells", .inr "at", .inr "great", .inr "left", .inr "seed", .inr "turn"] : List Key).Nodup := by decide
    refine exs_rt (ss := .nil) ?_
    simp only [exS, ev, evs]
    simp [ev_bi, ev_p, evA, allP, evPk, evP, slot, lateE, toP, opd, fin, finO, evPb, Fx.bi, g1, lstD, own1, isCont, r_of, r_ok, e]
    rfl
  exact ⟨_, fn_rt (D := d6) _ rfl rfl rfl (g _) rfl⟩
/-- a draw below a number that is written -/
theorem draw0 {c : Orc} (h : DrawAt c 7) {T : Tape} (hT : T.Ok) {l : Bool} (r : EnvD) {many : Int} (hm : 0 < many) : ∃ (T' : Tape) (n : Int), T'.Ok ∧ 0 ≤ n ∧ n < many ∧ ev c (.call 7 none (.l 0 (.v (.p (.k (.int many))) .nil))) 0 (tS0 l T :: r) = .ok (.int n, tS0 l T' :: r) :=
  ev_draw h hT (i := 0) rfl (by simp [ev_p, evPk, evP, isCont, r_of]) hm
theorem six_ix (n : Int) (h0 : 0 ≤ n) (h : n < 6) : ∃ d : Int, 0 < d ∧ d < 8 ∧ ixD (.list [.int 1, .int 1, .int 2, .int 3, .int 4, .int 7]) (.int n) = some (.int d) := by
  have : n = 0 ∨ n = 1 ∨ n = 2 ∨ n = 3 ∨ n = 4 ∨ n = 5 := by omega
  rcases this with rfl | rfl | rfl | rfl | rfl | rfl <;> exact ⟨_, by decide, by decide, rfl⟩
theorem four_ix (n : Int) (h0 : 0 ≤ n) (h : n < 4) : ∃ t : Rat, Sq 3 3 t ∧ ixD (.list [.tuple [.int 1, .int 1], .tuple [.int (-1), .int 1], .tuple [.int 1, .int 2], .tuple [.int (-2), .int 3]]) (.int n) = some (frac t) := by
  have : n = 0 ∨ n = 1 ∨ n = 2 ∨ n = 3 := by omega
  rcases this with rfl | rfl | rfl | rfl
  · exact ⟨⟨1, 1, by decide, by decide⟩, ⟨by decide, by decide⟩, rfl⟩
  · exact ⟨⟨-1, 1, by decide, by decide⟩, ⟨by decide, by decide⟩, rfl⟩
  · exact ⟨⟨1, 2, by decide, by decide⟩, ⟨by decide, by decide⟩, rfl⟩
  · exact ⟨⟨-2, 3, by decide, by decide⟩, ⟨by decide, by decide⟩, rfl⟩
theorem rule_ix (n : Int) (h0 : 0 ≤ n) (h : n < 4) : ∃ r : Rl, ixD (.list [.str "down", .str "up", .str "near", .str "low"]) (.int n) = some (.str r.str) := by
  have : n = 0 ∨ n = 1 ∨ n = 2 ∨ n = 3 := by omega
  rcases this with rfl | rfl | rfl | rfl
  · exact ⟨.down, rfl⟩
  · exact ⟨.up, rfl⟩
  · exact ⟨.near, rfl⟩
  · exact ⟨.low, rfl⟩
def eSix : E := (.ix (.lst (.cons (.p (.k (.int 1))) (.cons (.p (.k (.int 1))) (.cons (.p (.k (.int 2))) (.cons (.p (.k (.int 3))) (.cons (.p (.k (.int 4))) (.cons (.p (.k (.int 7))) .nil))))))) (.call 7 none (.l 0 (.v (.p (.k (.int 6))) .nil))))
def sTp : S := (.ex (.mu .append 2 [] 0 (.cons (.call 9 none (.v (.b2 .sub (.call 7 none (.l 0 (.v (.p (.k (.int 7))) .nil))) (.p (.k (.int 3)))) (.v eSix .nil))) .nil)))
theorem six_ev {c : Orc} {en en' : EnvD} {n d : Int} (h : ev c (.call 7 none (.l 0 (.v (.p (.k (.int 6))) .nil))) 0 en = .ok (.int n, en')) (hx : ixD (.list [.int 1, .int 1, .int 2, .int 3, .int 4, .int 7]) (.int n) = some (.int d)) : ev c eSix 0 en = .ok (.int d, en') := by
  simp [eSix, ev_ix, ev_lst, evs, ev_p, evPk, evP, opd2, opd, fin, lateE, isP, toP, finO, g2, isCont, h, hx, r_of, r_ok]
theorem app_gen {c : Orc} {E : E} {en en' : EnvD} {d : PyData} {xs : List PyData} (hl : isListS en 2 = true) (h : ev c E 0 en = .ok (d, en')) (hx : en'[2]? = some (.sv false 1 (.list xs))) (hn : xs.length < 16777216) : exS c 0 (.ex (.mu .append 2 [] 0 (.cons E .nil))) en = .ok (.nx (en'.set 2 (.sv false 1 (.list (xs ++ [d]))))) := by
  simp [exS, ev_mu0, evs, hl, h, alterS, pathR, alterAt, alterD, muF, muD, hx, hn, isCont, r_of, r_ok]
theorem tp_turn (c : Orc) (hd : DrawAt c 7) (hf : FrAt c 9) (T : Tape) (hT : T.Ok) (l : Bool) (s1 s3 : SV) (ts : List Rat) (hn : ts.length < 1000) :
    ∃ T' t, T'.Ok ∧ Sq 3 3 t ∧ exs c 0 (.cons sTp .nil) [tS0 l T, s1, .sv false 1 (.list (ts.map frac)), s3] = .ok (.nx [tS0 l T', s1, .sv false 1 (.list ((ts ++ [t]).map frac)), s3]) := by
  obtain ⟨T1, n1, o1, a1, b1, e1⟩ := draw0 hd hT (l := l) [s1, .sv false 1 (.list (ts.map frac)), s3] (many := 7) (by decide)
  obtain ⟨T2, n2, o2, a2, b2, e2⟩ := draw0 hd o1 (l := l) [s1, .sv false 1 (.list (ts.map frac)), s3] (many := 6) (by decide)
  obtain ⟨d, d1, d2, hx⟩ := six_ix n2 a2 b2
  have e3 := six_ev e2 hx
  have e4 := hf (n1 - 3) d (by omega) (Nat.lt_of_lt_of_le (m := 2 ^ 3) (by omega) (Nat.pow_le_pow_right (by decide) (by decide)))
  have e5 : ev c (.call 9 none (.v (.b2 .sub (.call 7 none (.l 0 (.v (.p (.k (.int 7))) .nil))) (.p (.k (.int 3)))) (.v eSix .nil))) 0 [tS0 l T, s1, .sv false 1 (.list (ts.map frac)), s3] = .ok (frac (Rat.divInt (n1 - 3) d), [tS0 l T2, s1, .sv false 1 (.list (ts.map frac)), s3]) := by
    simp [ev_call_2, evR, ev_b2, evP, opd2, opd, fin, lateE, isP, toP, finO, evPb, g2, Fx.b2, own1, isCont, e1, e3, e4, r_of, r_ok]
  refine ⟨T2, Rat.divInt (n1 - 3) d, o2, divInt_sq (by omega) (by omega) (by omega), ?_⟩
  refine (exs_nx (app_gen (xs := ts.map frac) (by simp [isListS, slot]) e5 rfl (by simp; omega))).trans ?_
  simp [exs]
theorem tp_loop (c : Orc) (hd : DrawAt c 7) (hf : FrAt c 9) (l : Bool) (s1 : SV) : ∀ (ks : List Nat) (T : Tape) (ts : List Rat) (s3 : SV), T.Ok → FreeS s3 → ts.length + ks.length < 1000 → (∀ t ∈ ts, Sq 3 3 t) →
    ∃ (T' : Tape) (ts' : List Rat) (s3' : SV), T'.Ok ∧ FreeS s3' ∧ (∀ t ∈ ts', Sq 3 3 t) ∧ ts'.length = ts.length + ks.length ∧ forL (bindT (.nm 3)) (exs c 0 (.cons sTp .nil)) (ks.map fun (k : Nat) => PyData.int (k : Int)) [tS0 l T, s1, .sv false 1 (.list (ts.map frac)), s3] = .ok (.nx [tS0 l T', s1, .sv false 1 (.list (ts'.map frac)), s3'])
  | [], T, ts, s3, hT, h3, _, hs => ⟨T, ts, s3, hT, h3, hs, by simp, rfl⟩
  | k :: ks, T, ts, s3, hT, h3, hn, hs => by
    obtain ⟨T1, t, o1, st, e⟩ := tp_turn c hd hf T hT l s1 (sv0 (.int k)) ts (by omega)
    obtain ⟨T', ts', s3', o2, f2, s2, l2, ih⟩ := tp_loop c hd hf l s1 ks T1 (ts ++ [t]) (sv0 (.int k)) o1 (fr_sv0 _) (by simp at hn ⊢; omega) (fun u hu => by
      rcases List.mem_append.mp hu with hu | hu
      · exact hs u hu
      · simp at hu; subst hu; exact st)
    refine ⟨T', ts', s3', o2, f2, s2, by simp at l2 ⊢; omega, ?_⟩
    have hb : bindT (.nm 3) (.int (k : Int)) [tS0 l T, s1, .sv false 1 (.list (ts.map frac)), s3] = some [tS0 l T, s1, .sv false 1 (.list (ts.map frac)), sv0 (.int k)] := setS_free (i := 3) (s := s3) rfl h3
    rw [List.map_cons]
    simp only [forL, hb, r_of, r_ok, e]
    exact ih
def sFix : S := .iff (.c2 .eq (.p (.ix (.ix (.at 2) (.p1 .neg (.k (.int 1)))) (.k (.int 0)))) (.p (.k (.int 0))))
 (.cons (.put 2 [] (.p1 .neg (.k (.int 1))) 0 (.ix (.lst (.cons (.tup (.cons (.p (.k (.int 1))) (.cons (.p (.k (.int 1))) .nil))) (.cons (.tup (.cons (.p (.p1 .neg (.k (.int 1)))) (.cons (.p (.k (.int 1))) .nil))) (.cons (.tup (.cons (.p (.k (.int 1))) (.cons (.p (.k (.int 2))) .nil))) (.cons (.tup (.cons (.p (.p1 .neg (.k (.int 2)))) (.cons (.p (.k (.int 3))) .nil))) .nil))))) (.call 7 none (.l 0 (.v (.p (.k (.int 4))) .nil))))) .nil) .nil
theorem four_ev {c : Orc} {en en' : EnvD} {n : Int} {t : Rat} (h : ev c (.call 7 none (.l 0 (.v (.p (.k (.int 4))) .nil))) 0 en = .ok (.int n, en')) (hx : ixD (.list [.tuple [.int 1, .int 1], .tuple [.int (-1), .int 1], .tuple [.int 1, .int 2], .tuple [.int (-2), .int 3]]) (.int n) = some (frac t)) :
    ev c (.ix (.lst (.cons (.tup (.cons (.p (.k (.int 1))) (.cons (.p (.k (.int 1))) .nil))) (.cons (.tup (.cons (.p (.p1 .neg (.k (.int 1)))) (.cons (.p (.k (.int 1))) .nil))) (.cons (.tup (.cons (.p (.k (.int 1))) (.cons (.p (.k (.int 2))) .nil))) (.cons (.tup (.cons (.p (.p1 .neg (.k (.int 2)))) (.cons (.p (.k (.int 3))) .nil))) .nil))))) (.call 7 none (.l 0 (.v (.p (.k (.int 4))) .nil)))) 0 en = .ok (frac t, en') := by
  simp [ev_ix, ev_lst, ev_tup, evs, ev_p, evPk, evP, Fx.p1, opd2, opd, fin, lateE, isP, toP, finO, g2, isCont, h, hx, r_of, r_ok]
theorem last_ix {ts : List Rat} (h : ts ≠ []) : ixD (.list (ts.map frac)) (.int (-1)) = some (frac (ts.getLast h)) := by
  show L2.atI (ts.map frac) (-1) = _
  have hl : 0 < ts.length := List.length_pos_iff.mpr h
  have e : ((-1 : Int) + ((ts.map frac).length : Int)).toNat = ts.length - 1 := by simp; omega
  unfold L2.atI L2.ixN
  rw [if_neg (by omega), if_pos (by simp; omega)]
  simp only [e, Option.bind_some]
  rw [List.getElem?_map, List.getLast_eq_getElem, List.getElem?_eq_getElem (by omega)]
  rfl
theorem fix_ok (c : Orc) (hd : DrawAt c 7) (T : Tape) (hT : T.Ok) (l : Bool) (s1 s3 : SV) (ts : List Rat) (hne : ts ≠ []) (hs : ∀ t ∈ ts, Sq 3 3 t) :
    ∃ (T' : Tape) (ts' : List Rat), T'.Ok ∧ (∀ t ∈ ts', Sq 3 3 t) ∧ ts'.length = ts.length ∧ exS c 0 sFix [tS0 l T, s1, .sv false 1 (.list (ts.map frac)), s3] = .ok (.nx [tS0 l T', s1, .sv false 1 (.list (ts'.map frac)), s3]) := by
  have hx := last_ix hne
  have hx0 : ∀ q : Rat, ixD (frac q) (.int 0) = some (.int q.num) := fun q => at0 _ _
  by_cases h0 : (ts.getLast hne).num = 0
  · obtain ⟨T1, n1, o1, a1, b1, e1⟩ := draw0 hd hT (l := l) [s1, .sv false 1 (.list (ts.map frac)), s3] (many := 4) (by decide)
    obtain ⟨t, st, hx4⟩ := four_ix n1 a1 b1
    have e2 := four_ev e1 hx4
    have hl : 0 < ts.length := List.length_pos_iff.mpr hne
    refine ⟨T1, ts.set (ts.length - 1) t, o1, fun u hu => ?_, by simp, ?_⟩
    · rcases List.mem_or_eq_of_mem_set hu with hu | rfl
      · exact hs u hu
      · exact st
    · have ei : L2.ixN (ts.map frac).length (-1) = some (ts.length - 1) := by
        unfold L2.ixN
        rw [if_neg (by omega), if_pos (by simp; omega)]
        simp; omega
      have ei' : L2.ixN ts.length (-1) = some (ts.length - 1) := by simpa using ei
      have eg : (ts.map frac)[ts.length - 1]? = some (frac (ts[ts.length - 1]'(by omega))) := by rw [List.getElem?_map, List.getElem?_eq_getElem (by omega)]; rfl
      have eg' : ts[ts.length - 1]? = some (ts[ts.length - 1]'(by omega)) := List.getElem?_eq_getElem (by omega)
      have t0 : evT c (.c2 .eq (.p (.ix (.ix (.at 2) (.p1 .neg (.k (.int 1)))) (.k (.int 0)))) (.p (.k (.int 0)))) [tS0 l T, s1, .sv false 1 (.list (ts.map frac)), s3] = .ok (true, [tS0 l T, s1, .sv false 1 (.list (ts.map frac)), s3]) := by
        simp [evT, evP, slot, Fx.p1, opd2, opd, fin, lateE, isP, toP, finO, evPb, g2, c2B, Fx.c2, ii, isCont, hx, hx0, h0, r_of, r_ok]
      simp only [sFix, exS, t0, r_ok]
      simp only [if_true]
      refine (exs_nx (e' := [tS0 l T1, s1, .sv false 1 (.list ((ts.set (ts.length - 1) t).map frac)), s3]) ?_).trans (by simp only [exs])
      simp only [exS, e2, r_ok]
      simp [evP, Fx.p1, alterS, pathR, alterAt, alterD, putF', ei', eg', r_of, r_ok, List.map_set]
  · refine ⟨T, ts, hT, hs, rfl, ?_⟩
    simp [sFix, exS, exs, evT, evP, slot, Fx.p1, opd2, opd, fin, lateE, isP, toP, finO, evPb, g2, c2B, Fx.c2, ii, isCont, hx, hx0, h0, r_of, r_ok]
def eRule : E := (.ix (.lst (.cons (.p (.k (.str "down"))) (.cons (.p (.k (.str "up"))) (.cons (.p (.k (.str "near"))) (.cons (.p (.k (.str "low"))) .nil))))) (.call 7 none (.l 0 (.v (.p (.k (.int 4))) .nil))))
theorem rule_ev {c : Orc} {en en' : EnvD} {n : Int} {r : Rl} (h : ev c (.call 7 none (.l 0 (.v (.p (.k (.int 4))) .nil))) 0 en = .ok (.int n, en')) (hx : ixD (.list [.str "down", .str "up", .str "near", .str "low"]) (.int n) = some (.str r.str)) : ev c eRule 0 en = .ok (.str r.str, en') := by
  simp [eRule, ev_ix, ev_lst, evs, ev_p, evPk, evP, opd2, opd, fin, lateE, isP, toP, finO, g2, isCont, h, hx, r_of, r_ok]
theorem b14_eq : b14 = .cons (.as (.nm 2) 1 (.lst .nil)) (.cons (.for (.nm 3) (.range (.cons (.b2 .add (.p (.k (.int 1))) (.call 7 none (.l 0 (.v (.p (.at 1)) .nil)))) .nil)) (.cons sTp .nil)) (.cons sFix (.cons (.ret (.tup (.cons (.bi .tuple (.cons (.p (.at 2)) .nil)) (.cons eRule .nil)))) .nil))) := rfl
theorem pred_run (c : Orc) (hd : DrawAt c 7) (hf : FrAt c 9) (T : Tape) (hT : T.Ok) (l : Bool) (most : Int) (h0 : 0 < most) (h6 : most ≤ 6) :
    ∃ (T' : Tape) (ts : List Rat) (r : Rl) (e : EnvD), T'.Ok ∧ TsOk ts ∧ 0 < ts.length ∧ exs c 0 b14 [tS0 l T, sv0 (.int most), .un, .un] = .ok (.rt (predD ts r) (tS0 l T' :: sv0 (.int most) :: e)) := by
  have e1 : exS c 0 (.as (.nm 2) 1 (.lst .nil)) [tS0 l T, sv0 (.int most), .un, .un] = .ok (.nx [tS0 l T, sv0 (.int most), .sv false 1 (.list (([] : List Rat).map frac)), .un]) := by
    simp [exS, ev_lst, evs, setS, r_of, r_ok]
  obtain ⟨T1, n1, o1, a1, b1, d1⟩ := ev_draw hd hT (env := [tS0 l T, sv0 (.int most), .sv false 1 (.list (([] : List Rat).map frac)), .un]) (i := 0) (a := .p (.at 1)) (l := l) rfl (by simp [ev_p, evPk, evP, slot, isCont, r_of]) h0
  obtain ⟨T2, ts, s3, o2, f2, s2, l2, hL⟩ := tp_loop c hd hf l (sv0 (.int most)) (List.range (1 + n1).toNat) T1 [] .un o1 (.inl rfl) (by simp; omega) (by simp)
  have e2 : exS c 0 (.for (.nm 3) (.range (.cons (.b2 .add (.p (.k (.int 1))) (.call 7 none (.l 0 (.v (.p (.at 1)) .nil)))) .nil)) (.cons sTp .nil)) [tS0 l T, sv0 (.int most), .sv false 1 (.list (([] : List Rat).map frac)), .un] = .ok (.nx [tS0 l T2, sv0 (.int most), .sv false 1 (.list (ts.map frac)), s3]) := by
    refine (for_it (env' := [tS0 l T1, sv0 (.int most), .sv false 1 (.list (([] : List Rat).map frac)), .un]) ?_).trans hL
    have hr := len_range (1 + n1).toNat (by omega)
    rw [show (((1 + n1).toNat : Nat) : Int) = 1 + n1 by omega] at hr
    have d1' : ev c (.b2 .add (.p (.k (.int 1))) (.call 7 none (.l 0 (.v (.p (.at 1)) .nil)))) 0 [tS0 l T, sv0 (.int most), .sv false 1 (.list (([] : List Rat).map frac)), .un] = .ok (.int (1 + n1), [tS0 l T1, sv0 (.int most), .sv false 1 (.list (([] : List Rat).map frac)), .un]) := by
      have d1'' : ev c (.call 7 none (.l 0 (.v (.p (.at 1)) .nil))) 0 [tS0 l T, sv0 (.int most), .sv false 1 (.list (([] : List Rat).map frac)), .un] = .ok (.int n1, [tS0 l T1, sv0 (.int most), .sv false 1 (.list (([] : List Rat).map frac)), .un]) := d1
      exact ev_kadd d1''
    simp only [evI, evs, d1', r_ok, hr, r_of]
  have hlen : ts.length = (1 + n1).toNat := by simpa using l2
  have hne : ts ≠ [] := by
    intro e
    rw [e] at hlen
    simp at hlen
    omega
  obtain ⟨T3, ts', o3, s3', l3, e3⟩ := fix_ok c hd T2 o2 l (sv0 (.int most)) s3 ts hne s2
  obtain ⟨T4, n4, o4, a4, b4, d4⟩ := draw0 hd o3 (l := l) [sv0 (.int most), .sv false 1 (.list (ts'.map frac)), s3] (many := 4) (by decide)
  obtain ⟨r, hx⟩ := rule_ix n4 a4 b4
  have e4 := rule_ev d4 hx
  have e5 : exS c 0 (.ret (.tup (.cons (.bi .tuple (.cons (.p (.at 2)) .nil)) (.cons eRule .nil)))) [tS0 l T3, sv0 (.int most), .sv false 1 (.list (ts'.map frac)), s3] = .ok (.rt (predD ts' r) [tS0 l T4, sv0 (.int most), .sv false 1 (.list (ts'.map frac)), s3]) := by
    simp [exS, ev_tup, evs, ev_bi, evA, allP, evP, slot, lateE, toP, opd, fin, finO, evPb, Fx.bi, g1, tupD, own1, isCont, e4, r_of, r_ok, predD, tapsD]
  refine ⟨T4, ts', r, [.sv false 1 (.list (ts'.map frac)), s3], o4, ⟨by omega, s3'⟩, by omega, ?_⟩
  rw [b14_eq]
  exact (exs_nx e1).trans ((exs_nx e2).trans ((exs_nx e3).trans (exs_rt e5)))
/-- the def gives a predictor -/
def PredAt (c : Orc) : Prop := ∀ (T : Tape) (most : Int), T.Ok → 0 < most → most ≤ 6 → ∃ (T' : Tape) (ts : List Rat) (r : Rl) (x : SV), T'.Ok ∧ TsOk ts ∧ 0 < ts.length ∧ c.fn 14 [.sv true 1 (tapeD T), sv0 (.int most)] = .ok (predD ts r, [.sv true 1 (tapeD T'), x])
theorem pred_ok (m : Nat) : PredAt (prg.orc (m + 3)) := by
  intro T most hT h0 h6
  obtain ⟨T', ts, r, e, h1, h2, h3, g⟩ := pred_run (prg.orc (m + 2)) (draw_ok m) (fr_ok (m + 1)) T hT true most h0 h6
  exact ⟨T', ts, r, sv0 (.int most), h1, h2, h3, fn_rt (D := d14) [tS0 true T, sv0 (.int most), .un, .un] rfl rfl rfl g rfl⟩
end K49
set_option Elab.async false
set_option linter.all false
set_option maxRecDepth 100000
set_option maxHeartbeats 4000000
namespace K49
open PySem PySem.Spec PyProof.Rows L2 Fx
abbrev iL (xs : List Int) : PyData := .list (xs.map .int)
abbrev eK (l : Bool) (T : Tape) (p a2 a3 a4 a5 a6 a7 a8 : SV) : EnvD := [tS0 l T, p, a2, a3, a4, a5, a6, a7, a8]
abbrev rK (p a2 a3 a4 a5 a6 a7 a8 : SV) : EnvD := [p, a2, a3, a4, a5, a6, a7, a8]
def rgN (i : Nat) : Fx.It := .range (.cons (.p (.at i)) .nil)
theorem rgN_ok {c : Orc} {env : EnvD} {i n : Nat} {l : Bool} (h : env[i]? = some (.sv l 0 (.int (n : Int)))) (hn : n ≤ 1000) : evI c (rgN i) env = .ok ((List.range n).map fun (k : Nat) => PyData.int (k : Int), env) := evI_rangeN n (ev_at h) (by omega)
def s3 : S := .as (.nm 3) 0 (.lc [8] (.nm 8) (rgN 2) .nil (eDrawS 7 21 10))
theorem r3 (c : Orc) (hd : DrawAt c 7) (T : Tape) (hT : T.Ok) (l : Bool) (p a3 a4 a5 a6 a7 a8 : SV) (h3 : FreeS a3) (h8 : Fr0 a8) (n : Nat) (hn : n ≤ 6) : ∃ (T' : Tape) (xs : List Int), T'.Ok ∧ xs.length = n ∧ (∀ x ∈ xs, x.natAbs < 2 ^ 4) ∧
    exS c 0 s3 (eK l T p (sv0 (.int (n : Int))) a3 a4 a5 a6 a7 a8) = .ok (.nx (eK l T' p (sv0 (.int (n : Int))) (sv0 (iL xs)) a4 a5 a6 a7 a8)) := by
  obtain ⟨T', vs, o, hl, hv, e⟩ := ev_drawsI 8 7 rfl hd (l := l) (T := T) hT (r := rK p (sv0 (.int (n : Int))) a3 a4 a5 a6 a7 a8) (s := a8) rfl h8 (rgN_ok (i := 2) rfl (by omega)) (by simp; omega) (many := 21) (a := 10) (by decide)
  exact ⟨T', vs, o, by simpa using hl, fun x hx => by have := hv x hx; omega, as_ok (i := 3) (s := a3) e rfl h3⟩
def s4 : S := .as (.nm 4) 0 (.ite (.c2 .gt (.call 7 none (.l 0 (.v (.p (.k (.int 8))) .nil))) (.p (.k (.int 0)))) (.lc [8] (.nm 8) (rgN 2) .nil (eDrawS 7 7 3)) (.b2 .mul (.lst (.cons (.p (.k (.int 0))) .nil)) (.p (.at 2))))
theorem r4 (c : Orc) (hd : DrawAt c 7) (T : Tape) (hT : T.Ok) (l : Bool) (p a3 a4 a5 a6 a7 a8 : SV) (h4 : FreeS a4) (h8 : Fr0 a8) (n : Nat) (hn : n ≤ 6) : ∃ (T' : Tape) (xs : List Int), T'.Ok ∧ xs.length = n ∧ (∀ x ∈ xs, x.natAbs < 2 ^ 4) ∧
    exS c 0 s4 (eK l T p (sv0 (.int (n : Int))) a3 a4 a5 a6 a7 a8) = .ok (.nx (eK l T' p (sv0 (.int (n : Int))) a3 (sv0 (iL xs)) a5 a6 a7 a8)) := by
  obtain ⟨T1, n1, o1, a1, b1, e1⟩ := draw0 hd hT (l := l) (rK p (sv0 (.int (n : Int))) a3 a4 a5 a6 a7 a8) (many := 8) (by decide)
  by_cases h : 0 < n1
  · obtain ⟨T', vs, o, hl, hv, e⟩ := ev_drawsI 8 7 rfl hd (l := l) (T := T1) o1 (r := rK p (sv0 (.int (n : Int))) a3 a4 a5 a6 a7 a8) (s := a8) rfl h8 (rgN_ok (i := 2) rfl (by omega)) (by simp; omega) (many := 7) (a := 3) (by decide)
    exact ⟨T', vs, o, by simpa using hl, fun x hx => by have := hv x hx; omega, as_ok (i := 4) (s := a4) (ev_ite_t (cmp_k (w := true) e1 (by simp [Fx.c2, ii, h])) e) rfl h4⟩
  · exact ⟨T1, List.replicate n 0, o1, by simp, fun x hx => by rw [(List.mem_replicate.mp hx).2]; decide, as_ok (i := 4) (s := a4) (ev_ite_f (cmp_k (w := false) e1 (by simp [Fx.c2, ii, h])) (zeros_l (by omega) rfl)) rfl h4⟩
/-- a list, each times a number -/
theorem times_lc (c : Orc) (env : EnvD) (i : Nat) (l0 : Bool) (xs : List Int) (hx : env[i]? = some (.sv l0 0 (iL xs))) (s6 : SV) (h6 : env[6]? = some s6) (hf : Fr0 s6) (hn : xs.length ≤ 1000) (a b : Int) (m : Nat) (he : ∀ en : EnvD, ev c (.b2 .add (.b2 .pow (.p (.k (.int 10))) (.p (.k (.int a)))) (.p (.k (.int b)))) 0 en = .ok (.int (m : Int), en)) (hm : m < 2 ^ 60) :
    ev c (.lc [6] (.nm 6) (.e (.p (.at i))) .nil (.b2 .mul (.p (.at 6)) (.b2 .add (.b2 .pow (.p (.k (.int 10))) (.p (.k (.int a)))) (.p (.k (.int b)))))) 0 env = .ok (iL (xs.map fun x => x * m), env) := by
  have h6l : 6 < env.length := (List.getElem?_eq_some_iff.mp h6).1
  have ow : ownOk env [6] = true := by
    simp only [ownOk, List.all_cons, List.all_nil, Bool.and_true, h6]
    rcases hf with rfl | ⟨d, rfl⟩ <;> rfl
  have w0 : wipeD env [6] = env.set 6 .un := by simp [wipeD]
  have hb : ∀ x : Int, bitsOk x (m : Int) = true := fun x => bits_r (small_log (k := 64) (by omega) (by omega) (by decide))
  have := ev_lcMA (c := c) (own := [6]) (tg := .nm 6) (it := .e (.p (.at i))) (e := .b2 .mul (.p (.at 6)) (.b2 .add (.b2 .pow (.p (.k (.int 10))) (.p (.k (.int a)))) (.p (.k (.int b))))) (k := 0) (env := env) xs .int (fun x => .int (x * m)) ow (evI_e (ev_at hx) rfl) (by omega) (fun x hx' => by
    rw [w0]
    refine ⟨env.set 6 (sv0 (.int x)), env.set 6 (sv0 (.int x)), ?_, ?_, by simp [wipeD]⟩
    · have := setS_free (env := env.set 6 .un) (i := 6) (s := .un) (k := 0) (d := .int x) (List.getElem?_set_self h6l) (.inl rfl)
      rw [List.set_set] at this
      exact this
    · have hg : (env.set 6 (sv0 (.int x)))[6]? = some (sv0 (.int x)) := List.getElem?_set_self h6l
      have he' := he (env.set 6 (sv0 (.int x)))
      rw [ev_b2]
      simp only [opd2, opd, fin, lateE, isP, toP, evP, slot, hg, Option.isSome_some, if_true, he', r_ok]
      simp [finO, evPb, evP, slot, h6l, g2, Fx.b2, hb, own1, isCont, r_of, r_ok]) (by
    rw [w0]
    simp only [backD, h6, Option.getD_some, List.set_set]
    apply List.ext_getElem?
    intro j
    by_cases e : j = 6
    · subst e
      rw [List.getElem?_set_self h6l, h6]
    · rw [List.getElem?_set_ne (Ne.symm e)])
  rw [this]
  simp [iL]
end K49
set_option Elab.async false
set_option linter.all false
set_option maxRecDepth 100000
set_option maxHeartbeats 4000000
namespace K49
open PySem PySem.Spec PyProof.Rows L2 Fx
/-- place by place, over range -/
theorem zip_lc (c : Orc) (o : B2) (f : Int → Int → Int) (ho : ∀ a b, Fx.b2 o (.int a) (.int b) = some (.int (f a b))) (env : EnvD) (i j : Nat) (hi8 : i ≠ 8) (hj8 : j ≠ 8) (li lj : Bool) (xs ys : List Int) (hx : env[i]? = some (.sv li 0 (iL xs))) (hy : env[j]? = some (.sv lj 0 (iL ys))) (s8 : SV) (h8 : env[8]? = some s8) (hf : Fr0 s8) (n : Nat) (hxl : xs.length = n) (hyl : ys.length = n) (hn : n ≤ 1000) (it : Fx.It) (hit : evI c it env = .ok ((List.range n).map fun (k : Nat) => PyData.int (k : Int), env)) :
    ev c (.lc [8] (.nm 8) it .nil (.b2 o (.p (.ix (.at i) (.at 8))) (.p (.ix (.at j) (.at 8))))) 0 env = .ok (iL (List.zipWith f xs ys), env) := by
  have h8l : 8 < env.length := (List.getElem?_eq_some_iff.mp h8).1
  have ow : ownOk env [8] = true := by
    simp only [ownOk, List.all_cons, List.all_nil, Bool.and_true, h8]
    rcases hf with rfl | ⟨d, rfl⟩ <;> rfl
  have w0 : wipeD env [8] = env.set 8 .un := by simp [wipeD]
  have := ev_lcMA (c := c) (own := [8]) (tg := .nm 8) (it := it) (e := .b2 o (.p (.ix (.at i) (.at 8))) (.p (.ix (.at j) (.at 8)))) (k := 0) (env := env) (List.range n) (fun (k : Nat) => .int (k : Int)) (fun k => .int (f (xs.getD k 0) (ys.getD k 0))) ow hit (by simp; omega) (fun k hk => by
    have hk := List.mem_range.mp hk
    rw [w0]
    refine ⟨env.set 8 (sv0 (.int k)), env.set 8 (sv0 (.int k)), ?_, ?_, by simp [wipeD]⟩
    · have := setS_free (env := env.set 8 .un) (i := 8) (s := .un) (k := 0) (d := .int k) (List.getElem?_set_self h8l) (.inl rfl)
      rw [List.set_set] at this
      exact this
    · have hg : (env.set 8 (sv0 (.int k)))[8]? = some (sv0 (.int k)) := List.getElem?_set_self h8l
      have hgi : (env.set 8 (sv0 (.int k)))[i]? = some (.sv li 0 (iL xs)) := by rw [List.getElem?_set_ne (Ne.symm hi8)]; exact hx
      have hgj : (env.set 8 (sv0 (.int k)))[j]? = some (.sv lj 0 (iL ys)) := by rw [List.getElem?_set_ne (Ne.symm hj8)]; exact hy
      obtain ⟨x, ex⟩ : ∃ x, xs[k]? = some x := ⟨_, List.getElem?_eq_getElem (by omega)⟩
      obtain ⟨y, ey⟩ : ∃ y, ys[k]? = some y := ⟨_, List.getElem?_eq_getElem (by omega)⟩
      have e1 : ixD (iL xs) (.int k) = some (.int x) := atI_nat (map_int_get ex)
      have e2 : ixD (iL ys) (.int k) = some (.int y) := atI_nat (map_int_get ey)
      have e3 : xs.getD k 0 = x := by rw [List.getD, ex]; rfl
      have e4 : ys.getD k 0 = y := by rw [List.getD, ey]; rfl
      rw [e3, e4, ev_b2]
      generalize env.set 8 (sv0 (PyData.int k)) = en at *
      simp [opd2, opd, fin, lateE, isP, toP, evP, slot, hg, hgi, hgj, e1, e2, finO, evPb, g2, ho, own1, isCont, r_of, r_ok]) (by
    rw [w0]
    simp only [backD, h8, Option.getD_some, List.set_set]
    apply List.ext_getElem?
    intro j
    by_cases e : j = 8
    · subst e
      rw [List.getElem?_set_self h8l, h8]
    · rw [List.getElem?_set_ne (Ne.symm e)])
  rw [this]
  have e := range_zip (f := f) hxl hyl
  show Rs.ok (PyData.list _, env) = .ok (iL (List.zipWith f xs ys), env)
  rw [← e]
  simp [iL]
def lcM (i : Nat) (a b : Int) : E := .lc [6] (.nm 6) (.e (.p (.at i))) .nil (.b2 .mul (.p (.at 6)) (.b2 .add (.b2 .pow (.p (.k (.int 10))) (.p (.k (.int a)))) (.p (.k (.int b)))))
def s5 : S := .iff (.c2 .eq (.call 7 none (.l 0 (.v (.p (.k (.int 6))) .nil))) (.p (.k (.int 0)))) (.cons (.as (.tp (.cons (.nm 3) (.cons (.nm 4) .nil))) 0 (.tup (.cons (lcM 3 12 1) (.cons (lcM 4 9 7) .nil)))) .nil) .nil
theorem tup2 {c : Orc} {a b : E} {en en1 en2 : EnvD} {x y : PyData} (h1 : ev c a 0 en = .ok (x, en1)) (h2 : ev c b 0 en1 = .ok (y, en2)) : ev c (.tup (.cons a (.cons b .nil))) 0 en = .ok (.tuple [x, y], en2) := by
  simp [ev_tup, evs, h1, h2, r_ok]
theorem p12 (c : Orc) (en : EnvD) : ev c (.b2 .add (.b2 .pow (.p (.k (.int 10))) (.p (.k (.int 12)))) (.p (.k (.int 1)))) 0 en = .ok (.int ((1000000000001 : Nat) : Int), en) := by
  simp [ev_b2, ev_p, evPk, evPb, evP, opd2, opd, fin, lateE, isP, toP, finO, g2, Fx.b2, own1, isCont, r_of, r_ok]
theorem p9 (c : Orc) (en : EnvD) : ev c (.b2 .add (.b2 .pow (.p (.k (.int 10))) (.p (.k (.int 9)))) (.p (.k (.int 7)))) 0 en = .ok (.int ((1000000007 : Nat) : Int), en) := by
  simp [ev_b2, ev_p, evPk, evPb, evP, opd2, opd, fin, lateE, isP, toP, finO, g2, Fx.b2, own1, isCont, r_of, r_ok]
theorem mul_szL {xs : List Int} {m : Nat} (h : ∀ x ∈ xs, x.natAbs < 2 ^ 4) (hm : m < 2 ^ 40) : ∀ y ∈ xs.map (fun x => x * (m : Int)), y.natAbs < 2 ^ 44 := fun y hy => by
  obtain ⟨x, hx, rfl⟩ := List.mem_map.mp hy
  have := mul_lt (h x hx) hm
  rw [Int.natAbs_mul, Int.natAbs_natCast]
  exact this
theorem r5 (c : Orc) (hd : DrawAt c 7) (T : Tape) (hT : T.Ok) (l : Bool) (p a2 a5 a6 a7 a8 : SV) (h6 : Fr0 a6) (xs ys : List Int) (n : Nat) (hn : n ≤ 6) (hxl : xs.length = n) (hyl : ys.length = n) (hx : ∀ x ∈ xs, x.natAbs < 2 ^ 4) (hy : ∀ x ∈ ys, x.natAbs < 2 ^ 4) : ∃ (T' : Tape) (xs' ys' : List Int), T'.Ok ∧ xs'.length = n ∧ ys'.length = n ∧ (∀ x ∈ xs', x.natAbs < 2 ^ 44) ∧ (∀ x ∈ ys', x.natAbs < 2 ^ 44) ∧
    exS c 0 s5 (eK l T p a2 (sv0 (iL xs)) (sv0 (iL ys)) a5 a6 a7 a8) = .ok (.nx (eK l T' p a2 (sv0 (iL xs')) (sv0 (iL ys')) a5 a6 a7 a8)) := by
  obtain ⟨T1, n1, o1, a1, b1, e1⟩ := draw0 hd hT (l := l) (rK p a2 (sv0 (iL xs)) (sv0 (iL ys)) a5 a6 a7 a8) (many := 6) (by decide)
  have le4 : ∀ zs : List Int, (∀ x ∈ zs, x.natAbs < 2 ^ 4) → ∀ x ∈ zs, x.natAbs < 2 ^ 44 := fun zs h x hx => Nat.lt_of_lt_of_le (h x hx) (by decide)
  by_cases h : n1 = 0
  · have u1 := times_lc c (eK l T1 p a2 (sv0 (iL xs)) (sv0 (iL ys)) a5 a6 a7 a8) 3 false xs rfl a6 rfl h6 (by omega) 12 1 1000000000001 (p12 c) (by decide)
    have u2 := times_lc c (eK l T1 p a2 (sv0 (iL xs)) (sv0 (iL ys)) a5 a6 a7 a8) 4 false ys rfl a6 rfl h6 (by omega) 9 7 1000000007 (p9 c) (by decide)
    refine ⟨T1, xs.map (fun x => x * ((1000000000001 : Nat) : Int)), ys.map (fun x => x * ((1000000007 : Nat) : Int)), o1, by simpa using hxl, by simpa using hyl, mul_szL hx (by decide), mul_szL hy (by decide), ?_⟩
    refine (s_iff_t (cmp_k (w := true) e1 (by simp [Fx.c2, ii, h]))).trans ((exs_nx ?_).trans (exs_nil _ _ _))
    have u3 := tup2 u1 u2
    generalize iL (xs.map fun x => x * ((1000000000001 : Nat) : Int)) = A at u3 ⊢
    generalize iL (ys.map fun x => x * ((1000000007 : Nat) : Int)) = B at u3 ⊢
    simp only [lcM, exS, u3, r_ok]
    simp [bindT, bindTs, setS, r_of, r_ok]
  · exact ⟨T1, xs, ys, o1, hxl, hyl, le4 _ hx, le4 _ hy, (s_iff_f (cmp_k (w := false) e1 (by simp [Fx.c2, ii, h]))).trans (exs_nil _ _ _)⟩
def s6 : S := .as (.nm 5) 0 (.lc [8] (.nm 8) (.range (.cons (.b2 .add (.p (.k (.int 1))) (.call 7 none (.l 0 (.v (.p (.k (.int 6))) .nil)))) .nil)) .nil (eDrawS 7 9 4))
theorem r6 (c : Orc) (hd : DrawAt c 7) (T : Tape) (hT : T.Ok) (l : Bool) (p a2 a3 a4 a5 a6 a7 a8 : SV) (h5 : FreeS a5) (h8 : Fr0 a8) : ∃ (T' : Tape) (es : List Int), T'.Ok ∧ 0 < es.length ∧ es.length ≤ 6 ∧ (∀ x ∈ es, x.natAbs < 16) ∧
    exS c 0 s6 (eK l T p a2 a3 a4 a5 a6 a7 a8) = .ok (.nx (eK l T' p a2 a3 a4 (sv0 (iL es)) a6 a7 a8)) := by
  obtain ⟨T1, n1, o1, a1, b1, e1⟩ := draw0 hd hT (l := l) (rK p a2 a3 a4 a5 a6 a7 a8) (many := 6) (by decide)
  have e2 := ev_kadd (a := 1) e1
  rw [show 1 + n1 = (((1 + n1).toNat : Nat) : Int) by omega] at e2
  obtain ⟨T', vs, o, hl, hv, e⟩ := ev_drawsI 8 7 rfl hd (l := l) (T := T) o1 (r := rK p a2 a3 a4 a5 a6 a7 a8) (s := a8) rfl h8 (evI_rangeN _ e2 (by omega)) (by simp; omega) (many := 9) (a := 4) (by decide)
  have hl : vs.length = (1 + n1).toNat := by simpa using hl
  exact ⟨T', vs, o, by omega, by omega, fun x hx => by have := hv x hx; omega, as_ok (i := 5) (s := a5) e rfl h5⟩
end K49
set_option Elab.async false
set_option linter.all false
set_option maxRecDepth 100000
set_option maxHeartbeats 4000000
namespace K49
open PySem PySem.Spec PyProof.Rows L2 Fx
/-- what a def reads back -/
def ReadAt (c : Orc) : Prop := ∀ (ts : List Rat) (r : Rl) (past es : List Int), TsOk ts → RowSz 100 past → past.length = ts.length → (∀ e ∈ es, e.natAbs < 16) → es.length ≤ 6 → callV c 16 [predD ts r, iL past, iL es] = .ok (iL (readR ts r past.reverse es))
def s7 : S := .as (.nm 6) 0 (.call 16 none (.v (.p (.at 1)) (.v (.p (.at 3)) (.v (.p (.at 5)) .nil))))
theorem call3 {c : Orc} {f : Nat} {a b d : E} {en e1 e2 e3 : EnvD} {x y z r : PyData} (h1 : ev c a 0 en = .ok (x, e1)) (h2 : ev c b 0 e1 = .ok (y, e2)) (h3 : ev c d 0 e2 = .ok (z, e3)) (h : callV c f [x, y, z] = .ok r) : ev c (.call f none (.v a (.v b (.v d .nil)))) 0 en = .ok (r, e3) := by
  simp only [ev_call_3, evR, h1, h2, h3, r_ok, h]
theorem r7 (c : Orc) (hr : ReadAt c) (l : Bool) (T : Tape) (ts : List Rat) (r : Rl) (h : TsOk ts) (a2 a4 a6 a7 a8 : SV) (h6 : FreeS a6) (xs es : List Int) (hx : RowSz 100 xs) (hl : xs.length = ts.length) (he : ∀ e ∈ es, e.natAbs < 16) (hel : es.length ≤ 6) :
    exS c 0 s7 (eK l T (sv0 (predD ts r)) a2 (sv0 (iL xs)) a4 (sv0 (iL es)) a6 a7 a8) = .ok (.nx (eK l T (sv0 (predD ts r)) a2 (sv0 (iL xs)) a4 (sv0 (iL es)) (sv0 (iL (readR ts r xs.reverse es))) a7 a8)) :=
  as_ok (i := 6) (s := a6) (call3 (ev_at (i := 1) rfl) (ev_at (i := 3) rfl) (ev_at (i := 5) rfl) (hr ts r xs es h hx hl he hel)) rfl h6
def zipE (o : B2) (i j : Nat) (it : Fx.It) : E := .lc [8] (.nm 8) it .nil (.b2 o (.p (.ix (.at i) (.at 8))) (.p (.ix (.at j) (.at 8))))
def s8 : S := .as (.nm 7) 0 (.call 16 none (.v (.p (.at 1)) (.v (zipE .add 3 4 (rgN 2)) (.v (.p (.at 5)) .nil))))
theorem r8 (c : Orc) (hr : ReadAt c) (l : Bool) (T : Tape) (ts : List Rat) (r : Rl) (h : TsOk ts) (a6 a7 a8 : SV) (h7 : FreeS a7) (h8 : Fr0 a8) (xs ys es : List Int) (hx : RowSz 44 xs) (hy : RowSz 44 ys) (hl : xs.length = ts.length) (hl' : ys.length = ts.length) (he : ∀ e ∈ es, e.natAbs < 16) (hel : es.length ≤ 6) :
    exS c 0 s8 (eK l T (sv0 (predD ts r)) (sv0 (.int (ts.length : Int))) (sv0 (iL xs)) (sv0 (iL ys)) (sv0 (iL es)) a6 a7 a8) = .ok (.nx (eK l T (sv0 (predD ts r)) (sv0 (.int (ts.length : Int))) (sv0 (iL xs)) (sv0 (iL ys)) (sv0 (iL es)) a6 (sv0 (iL (readR ts r (List.zipWith (fun a b => a + b) xs ys).reverse es))) a8)) := by
  have h6 := h.len
  have z := zip_lc c .add (fun a b => a + b) (fun a b => rfl) (eK l T (sv0 (predD ts r)) (sv0 (.int (ts.length : Int))) (sv0 (iL xs)) (sv0 (iL ys)) (sv0 (iL es)) a6 a7 a8) 3 4 (by decide) (by decide) false false xs ys rfl rfl a8 rfl h8 ts.length hl hl' (by omega) (rgN 2) (rgN_ok rfl (by omega))
  have hs : RowSz 100 (List.zipWith (fun a b => a + b) xs ys) := fun v hv => Nat.lt_of_lt_of_le (addL_sz hx hy v hv) (Nat.pow_le_pow_right (by decide) (by decide))
  exact as_ok (i := 7) (s := a7) (call3 (ev_at (i := 1) rfl) z (ev_at (i := 5) rfl) (hr ts r _ es h hs (by rw [List.length_zipWith, hl, hl', Nat.min_self]) he hel)) rfl h7
def s9 : S := .ret (.tup (.cons (.bi .tuple (.cons (.p (.at 4)) .nil)) (.cons (.bi .tuple (.cons (zipE .sub 7 6 (.range (.cons (.p (.p1 .len (.at 5))) .nil))) .nil)) .nil)))
theorem tup_at {c : Orc} {i : Nat} {env : EnvD} {l : Bool} {xs : List PyData} (h : env[i]? = some (.sv l 0 (.list xs))) : ev c (.bi .tuple (.cons (.p (.at i)) .nil)) 0 env = .ok (.tuple xs, env) := by
  simp [ev_bi, evA, allP, lateE, toP, opd, fin, finO, evPb, evP, slot, h, Fx.bi, g1, tupD, own1, isCont, r_of, r_ok]
theorem tup_lc {c : Orc} {own : List Nat} {tg : Tg} {it : Fx.It} {ts : Tts} {e : E} {en en' : EnvD} {xs : List PyData} (h : ev c (.lc own tg it ts e) 0 en = .ok (.list xs, en')) : ev c (.bi .tuple (.cons (.lc own tg it ts e) .nil)) 0 en = .ok (.tuple xs, en') := by
  simp [ev_bi, evA, allP, lateE, toP, opd, fin, finO, h, Fx.bi, g1, tupD, own1, isCont, r_of, r_ok]
theorem r9 (c : Orc) (l : Bool) (T : Tape) (p a2 a3 a8 : SV) (h8 : Fr0 a8) (ys es us vs : List Int) (hes : es.length ≤ 6) (hu : us.length = es.length) (hv : vs.length = es.length) :
    exS c 0 s9 (eK l T p a2 a3 (sv0 (iL ys)) (sv0 (iL es)) (sv0 (iL us)) (sv0 (iL vs)) a8) = .ok (.rt (.tuple [.tuple (ys.map .int), .tuple ((subL vs us).map .int)]) (eK l T p a2 a3 (sv0 (iL ys)) (sv0 (iL es)) (sv0 (iL us)) (sv0 (iL vs)) a8)) := by
  have e0 : ev c (.p (.p1 .len (.at 5))) 0 (eK l T p a2 a3 (sv0 (iL ys)) (sv0 (iL es)) (sv0 (iL us)) (sv0 (iL vs)) a8) = .ok (.int (es.length : Int), eK l T p a2 a3 (sv0 (iL ys)) (sv0 (iL es)) (sv0 (iL us)) (sv0 (iL vs)) a8) := by
    simp [ev_p, evPk, evP, slot, Fx.p1, isCont, r_of]
  have z := zip_lc c .sub (fun a b => a - b) (fun a b => rfl) (eK l T p a2 a3 (sv0 (iL ys)) (sv0 (iL es)) (sv0 (iL us)) (sv0 (iL vs)) a8) 7 6 (by decide) (by decide) false false vs us rfl rfl a8 rfl h8 es.length hv hu (by omega) (.range (.cons (.p (.p1 .len (.at 5))) .nil)) (evI_rangeN _ e0 (by omega))
  rw [← subL_zip] at z
  have e1 := tup2 (tup_at (c := c) (i := 4) (env := eK l T p a2 a3 (sv0 (iL ys)) (sv0 (iL es)) (sv0 (iL us)) (sv0 (iL vs)) a8) (l := false) (xs := ys.map .int) rfl) (tup_lc z)
  show exS c 0 (.ret _) _ = _
  simp only [zipE, exS, e1, r_ok]
def s2 : S := .as (.nm 2) 0 (.p (.p1 .len (.ix (.at 1) (.k (.int 0)))))
theorem r2 (c : Orc) (l : Bool) (T : Tape) (ts : List Rat) (r : Rl) (a2 a3 a4 a5 a6 a7 a8 : SV) (h2 : FreeS a2) : exS c 0 s2 (eK l T (sv0 (predD ts r)) a2 a3 a4 a5 a6 a7 a8) = .ok (.nx (eK l T (sv0 (predD ts r)) (sv0 (.int (ts.length : Int))) a3 a4 a5 a6 a7 a8)) := by
  refine as_ok (i := 2) (s := a2) (env' := eK l T (sv0 (predD ts r)) a2 a3 a4 a5 a6 a7 a8) ?_ rfl h2
  simp [ev_p, evPk, evP, slot, predD, ix_tupl, at0, tapsD, Fx.p1, isCont, r_of]
theorem b18_eq : b18 = .cons s2 (.cons s3 (.cons s4 (.cons s5 (.cons s6 (.cons s7 (.cons s8 (.cons s9 .nil))))))) := rfl
theorem rows_run (c : Orc) (hd : DrawAt c 7) (hr : ReadAt c) (T : Tape) (hT : T.Ok) (l : Bool) (ts : List Rat) (r : Rl) (h : TsOk ts) :
    ∃ (T' : Tape) (past later : List Int) (e : EnvD), T'.Ok ∧ RowSz 44 past ∧ RowSz 290 later ∧ past.length = ts.length ∧ 0 < later.length ∧ later.length ≤ 6 ∧ canR ts past.reverse later = true ∧
      exs c 0 b18 (eK l T (sv0 (predD ts r)) .un .un .un .un .un .un .un) = .ok (.rt (.tuple [.tuple (past.map .int), .tuple (later.map .int)]) (tS0 l T' :: sv0 (predD ts r) :: e)) := by
  have h6 := h.len
  have q2 := r2 c l T ts r .un .un .un .un .un .un .un (.inl rfl)
  obtain ⟨T3, xs, o3, l3, v3, q3⟩ := r3 c hd T hT l (sv0 (predD ts r)) .un .un .un .un .un .un (.inl rfl) (.inl rfl) ts.length h6
  obtain ⟨T4, ys, o4, l4, v4, q4⟩ := r4 c hd T3 o3 l (sv0 (predD ts r)) (sv0 (iL xs)) .un .un .un .un .un (.inl rfl) (.inl rfl) ts.length h6
  obtain ⟨T5, xs', ys', o5, l5, l5', v5, v5', q5⟩ := r5 c hd T4 o4 l (sv0 (predD ts r)) (sv0 (.int (ts.length : Int))) .un .un .un .un (.inl rfl) xs ys ts.length h6 l3 l4 v3 v4
  obtain ⟨T6, es, o6, p6, l6, v6, q6⟩ := r6 c hd T5 o5 l (sv0 (predD ts r)) (sv0 (.int (ts.length : Int))) (sv0 (iL xs')) (sv0 (iL ys')) .un .un .un .un (.inl rfl) (.inl rfl)
  have q7 := r7 c hr l T6 ts r h (sv0 (.int (ts.length : Int))) (sv0 (iL ys')) .un .un .un (.inl rfl) xs' es (fun v hv => Nat.lt_of_lt_of_le (v5 v hv) (by decide)) l5 v6 l6
  have q8 := r8 c hr l T6 ts r h (sv0 (iL (readR ts r xs'.reverse es))) .un .un (.inl rfl) (.inl rfl) xs' ys' es v5 v5' l5 l5' v6 l6
  have q9 := r9 c l T6 (sv0 (predD ts r)) (sv0 (.int (ts.length : Int))) (sv0 (iL xs')) .un (.inl rfl) ys' es (readR ts r xs'.reverse es) (readR ts r (List.zipWith (fun a b => a + b) xs' ys').reverse es) l6 readR_len readR_len
  have hz : RowSz 45 (List.zipWith (fun a b => a + b) xs' ys') := addL_sz v5 v5'
  have rv : ∀ {k : Nat} {zs : List Int}, RowSz k zs → RowSz k zs.reverse := fun h r hr => h r (List.mem_reverse.mp hr)
  have sz1 : RowSz 289 (readR ts r xs'.reverse es) := fun v hv => Nat.lt_of_lt_of_le (readR_sz (fun hR => (h.lin hR).1) (rv v5) v6 v hv) (Nat.pow_le_pow_right (by decide) (by omega))
  have sz2 : RowSz 289 (readR ts r (List.zipWith (fun a b => a + b) xs' ys').reverse es) := fun v hv => Nat.lt_of_lt_of_le (readR_sz (fun hR => (h.lin hR).1) (rv hz) v6 v hv) (Nat.pow_le_pow_right (by decide) (by omega))
  have hlz : (List.zipWith (fun a b => a + b) xs' ys').length = xs'.length := by rw [List.length_zipWith, l5, l5', Nat.min_self]
  have hc := can_read ts r es (List.zipWith (fun a b => a + b) xs' ys').reverse xs'.reverse (by rw [List.length_reverse, List.length_reverse, hlz])
  rw [subL_rev hlz, subL_add (by rw [l5, l5'])] at hc
  refine ⟨T6, ys', subL (readR ts r (List.zipWith (fun a b => a + b) xs' ys').reverse es) (readR ts r xs'.reverse es), rK (sv0 (predD ts r)) (sv0 (.int (ts.length : Int))) (sv0 (iL xs')) (sv0 (iL ys')) (sv0 (iL es)) (sv0 (iL (readR ts r xs'.reverse es))) (sv0 (iL (readR ts r (List.zipWith (fun a b => a + b) xs' ys').reverse es))) .un |>.tail, o6, v5', fun z hz => subL_sz sz2 sz1 z hz, l5', ?_, ?_, hc, ?_⟩
  · rw [subL_len (by rw [readR_len, readR_len]), readR_len]; exact p6
  · rw [subL_len (by rw [readR_len, readR_len]), readR_len]; exact l6
  · rw [b18_eq]
    exact (exs_nx q2).trans ((exs_nx q3).trans ((exs_nx q4).trans ((exs_nx q5).trans ((exs_nx q6).trans ((exs_nx q7).trans ((exs_nx q8).trans (exs_rt q9)))))))
def RowsAt (c : Orc) : Prop := ∀ (T : Tape) (ts : List Rat) (r : Rl), T.Ok → TsOk ts → ∃ (T' : Tape) (past later : List Int) (x : SV), T'.Ok ∧ RowSz 44 past ∧ RowSz 290 later ∧ past.length = ts.length ∧ 0 < later.length ∧ later.length ≤ 6 ∧ canR ts past.reverse later = true ∧
  c.fn 18 [.sv true 1 (tapeD T), sv0 (predD ts r)] = .ok (.tuple [.tuple (past.map .int), .tuple (later.map .int)], [.sv true 1 (tapeD T'), x])
theorem rows_ok (m : Nat) : RowsAt (prg.orc (m + 6)) := by
  intro T ts r hT h
  obtain ⟨T', past, later, e, h1, h2, h3, h4, h5, h6, h7, g⟩ := rows_run (prg.orc (m + 5)) (draw_ok (m + 3)) (fun ts r past es h hp hl he hel => read_ok m ts h r past es hp hl he hel) T hT true ts r h
  exact ⟨T', past, later, sv0 (predD ts r), h1, h2, h3, h4, h5, h6, h7, fn_rt (D := d18) _ rfl rfl rfl g rfl⟩
end K49
set_option Elab.async false
set_option linter.all false
set_option maxRecDepth 100000
set_option maxHeartbeats 4000000
namespace K49
open PySem PySem.Spec PyProof.Rows L2 Fx
/-! ### same -/
theorem bool_eqOk (b : Bool) : eqOk (.bool b) = true := by simp [eqOk, SeqAt.shaped, PyData.canLay0, PyData.plain, PyData.depth]
theorem bool_c2 (b : Bool) : Fx.c2 .eq (.bool b) (.bool b) = some true := by
  have h : Fx.c2 .eq (.bool b) (.bool b) = if eqOk (.bool b) = true ∧ eqOk (.bool b) = true then some (PyData.eqv (.bool b) (.bool b)) else none := rfl
  rw [h, if_pos ⟨bool_eqOk b, bool_eqOk b⟩]
  cases b <;> simp [PyData.eqv]
theorem bool_pl (b : Bool) : (PyData.bool b).plain = true := by simp [PyData.plain]
theorem same_bool_run (c : Orc) (b : Bool) : (exs c 0 b8 [sv0 (.bool b), sv0 (.bool b), .un]).bind Fl.val = .ok (.bool true) := by
  have h1 := bool_pl b
  have h2 := bool_c2 b
  simp [b8, exs, exS, evT, ev_isa, ev_and, ev_c2, ev_p, evPk, evP, slot, isaD, isTy, h1, h2, isNone, truth, opd1, opd2, opd, fin, lateE, isP, toP, finO, evPb, g1, g2, c2B, own1, isCont, r_of, r_ok, Fl.val]
theorem same_bool (m : Nat) (b : Bool) : callV (prg.orc (m + 1)) 8 [.bool b, .bool b] = .ok (.bool true) := by
  rw [callV_eq (D := d8) rfl rfl]
  exact same_bool_run _ b
abbrev tt2 : PyData := .tuple [.bool true, .bool true]
def bSm : Ss := (.cons (.iff (.not (.v (.call 8 none (.v (.p (.ix (.at 0) (.at 2))) (.v (.p (.ix (.at 1) (.at 2))) .nil)))))
   (.cons (.ret (.p (.k (.bool false)))) .nil)
   .nil) .nil)
theorem sm_turn (c : Orc) (h : ∀ b, callV c 8 [.bool b, .bool b] = .ok (.bool true)) (k : Nat) (hk : k < 2) : exs c 0 bSm [sv0 tt2, sv0 tt2, sv0 (.int k)] = .ok (.nx [sv0 tt2, sv0 tt2, sv0 (.int k)]) := by
  have e : ixD tt2 (.int (k : Int)) = some (.bool true) := by
    have : k = 0 ∨ k = 1 := by omega
    rcases this with rfl | rfl <;> rfl
  simp [bSm, exs, exS, evT, ev_call_2, evR, ev_p, evPk, evP, slot, e, h, truth, opd1, opd, fin, lateE, isP, toP, finO, evPb, g1, isCont, r_of, r_ok]
theorem same_tup_run (c : Orc) (h : ∀ b, callV c 8 [.bool b, .bool b] = .ok (.bool true)) : (exs c 0 b8 [sv0 tt2, sv0 tt2, .un]).bind Fl.val = .ok (.bool true) := by
  have hL := forL_range (bind := bindT (.nm 2)) (body := exs c 0 bSm) (fun k => [sv0 tt2, sv0 tt2, lv .un k]) 2 fun k hk =>
    ⟨[sv0 tt2, sv0 tt2, sv0 (.int k)], setS_free (i := 2) (s := lv .un k) rfl (lv_free (.inl rfl) k), sm_turn c h k hk⟩
  have e1 : exS c 0 (.for (.nm 2) (.range (.cons (.p (.p1 .len (.at 1))) .nil)) bSm) [sv0 tt2, sv0 tt2, .un] = .ok (.nx [sv0 tt2, sv0 tt2, sv0 (.int 1)]) :=
    (for_it (env' := [sv0 tt2, sv0 tt2, .un]) (evI_rangeN 2 (by simp [ev_p, evPk, evP, slot, Fx.p1, isCont, r_of]) (by decide))).trans hL
  have hp : tt2.plain = true := by simp [tt2, PyData.plain, PyData.plainAll]
  have e2 : exS c 0 (.iff (.or (.not (.v (.isa .tuple (.p (.at 0))))) (.c2 .ne (.p (.p1 .len (.at 0))) (.p (.p1 .len (.at 1))))) (.cons (.ret (.p (.k (.bool false)))) .nil) .nil) [sv0 tt2, sv0 tt2, .un] = .ok (.nx [sv0 tt2, sv0 tt2, .un]) := by
    simp only [tt2] at hp ⊢
    simp [exS, exs, evT, ev_isa, evP, slot, isaD, isTy, hp, Fx.p1, truth, opd1, opd2, opd, fin, lateE, isP, toP, finO, evPb, g1, g2, c2B, Fx.c2, ii, isCont, r_of, r_ok]
  have e3 : evT c (.v (.isa .tuple (.p (.at 1)))) [sv0 tt2, sv0 tt2, .un] = .ok (true, [sv0 tt2, sv0 tt2, .un]) := by
    simp only [tt2] at hp ⊢
    simp [evT, ev_isa, evP, slot, isaD, isTy, hp, truth, opd1, opd, fin, lateE, isP, toP, finO, evPb, g1, isCont, r_of, r_ok]
  have e4 : exS c 0 (.ret (.p (.k (.bool true)))) [sv0 tt2, sv0 tt2, sv0 (.int 1)] = .ok (.rt (.bool true) [sv0 tt2, sv0 tt2, sv0 (.int 1)]) := by
    simp [exS, ev_p, evPk, evP, isCont, r_of, r_ok]
  have g : exs c 0 b8 [sv0 tt2, sv0 tt2, .un] = .ok (.rt (.bool true) [sv0 tt2, sv0 tt2, sv0 (.int 1)]) :=
    exs_rt ((s_iff_t e3).trans ((exs_nx e2).trans ((exs_nx e1).trans (exs_rt e4))))
  rw [g]
  rfl
theorem same_tup (m : Nat) : callV (prg.orc (m + 2)) 8 [tt2, tt2] = .ok (.bool true) := by
  rw [callV_eq (D := d8) rfl rfl]
  exact same_tup_run _ (same_bool m)
/-! ### the law's world -/
abbrev tL (xs : List Int) : PyData := .tuple (xs.map .int)
structure LawAt (c : Orc) : Prop where
  dr : DrawAt c 7
  pr : PredAt c
  rw' : RowsAt c
  can : ∀ (ts : List Rat) (r : Rl) (past later : List Int), TsOk ts → RowSz 300 past → RowSz 300 later → ts.length ≤ past.length → past.length + later.length < 1000 → callV c 17 [predD ts r, tL past, tL later] = .ok (.bool (canR ts past.reverse later))
  dif : ∀ (ts : List Rat) (r : Rl) (past later : List Int), TsOk ts → ts.length ≤ past.length → past.length + later.length < 1000 → callV c 4 [predD ts r, tL past, tL later] = .ok (.bool (canR ts past.reverse later))
  sm : ∀ b, callV c 8 [.bool b, .bool b] = .ok (.bool true)
  sm2 : callV c 8 [tt2, tt2] = .ok (.bool true)
theorem law_at (m : Nat) : LawAt (prg.orc (m + 6)) where
  dr := draw_ok (m + 4)
  pr := pred_ok (m + 3)
  rw' := rows_ok m
  can := fun ts r past later h h1 h2 h3 h4 => can_come_ok (m + 2) ts h r past later h1 h2 h3 h4
  dif := fun ts r past later h h3 h4 => differ_ok (m + 2) ts h r past later h3 h4
  sm := same_bool (m + 5)
  sm2 := same_tup (m + 4)
abbrev eL (d0 : PyData) (T : Tape) (s2 s3 s4 s5 s6 s7 s8 s9 s10 s11 s12 : SV) : EnvD := [sv0 d0, tS0 false T, s2, s3, s4, s5, s6, s7, s8, s9, s10, s11, s12]
theorem call2 {c : Orc} {f : Nat} {a b : E} {en e1 e2 : EnvD} {x y r : PyData} (h1 : ev c a 0 en = .ok (x, e1)) (h2 : ev c b 0 e1 = .ok (y, e2)) (h : callV c f [x, y] = .ok r) : ev c (.call f none (.v a (.v b .nil))) 0 en = .ok (r, e2) := by
  simp only [ev_call_2, evR, h1, h2, r_ok, h]
theorem not_call {c : Orc} {f : Nat} {pm : Option (List Nat)} {ar : Ar} {en en' : EnvD} {b : Bool} (h : ev c (.call f pm ar) 0 en = .ok (.bool b, en')) : evT c (.not (.v (.call f pm ar))) en = .ok (!b, en') := by
  simp [evT, opd1, opd, fin, lateE, isP, toP, finO, g1, truth, h, r_of, r_ok]
def t1 : S := .as (.nm 3) 0 (.call 14 none (.l 1 (.v (.ite (.c2 .eq (.call 7 none (.l 1 (.v (.p (.k (.int 8))) .nil))) (.p (.k (.int 0)))) (.p (.k (.int 6))) (.p (.k (.int 3)))) .nil)))
theorem t1_ok (c : Orc) (w : LawAt c) (d0 : PyData) (T : Tape) (hT : T.Ok) (s2 s3 s4 s5 s6 s7 s8 s9 s10 s11 s12 : SV) (h3 : FreeS s3) : ∃ (T' : Tape) (ts : List Rat) (r : Rl), T'.Ok ∧ TsOk ts ∧ 0 < ts.length ∧
    exS c 0 t1 (eL d0 T s2 s3 s4 s5 s6 s7 s8 s9 s10 s11 s12) = .ok (.nx (eL d0 T' s2 (sv0 (predD ts r)) s4 s5 s6 s7 s8 s9 s10 s11 s12)) := by
  obtain ⟨T1, n1, o1, a1, b1, e1⟩ := drawK w.dr hT (i := 1) (l := false) (env := eL d0 T s2 s3 s4 s5 s6 s7 s8 s9 s10 s11 s12) (many := 8) rfl (by decide)
  have key : ∀ most : Int, 0 < most → most ≤ 6 → ev c (.ite (.c2 .eq (.call 7 none (.l 1 (.v (.p (.k (.int 8))) .nil))) (.p (.k (.int 0)))) (.p (.k (.int 6))) (.p (.k (.int 3)))) 0 (eL d0 T s2 s3 s4 s5 s6 s7 s8 s9 s10 s11 s12) = .ok (.int most, eL d0 T1 s2 s3 s4 s5 s6 s7 s8 s9 s10 s11 s12) → ∃ (T' : Tape) (ts : List Rat) (r : Rl), T'.Ok ∧ TsOk ts ∧ 0 < ts.length ∧
    exS c 0 t1 (eL d0 T s2 s3 s4 s5 s6 s7 s8 s9 s10 s11 s12) = .ok (.nx (eL d0 T' s2 (sv0 (predD ts r)) s4 s5 s6 s7 s8 s9 s10 s11 s12)) := fun most h0 h6 e => by
    obtain ⟨T', ts, r, x, o2, ht, hl, hf⟩ := w.pr T1 most o1 h0 h6
    have e2 := ev_callL1E (i := 1) (by simp [slot]) e (l := false) (k := 1) (d := tapeD T1) rfl hf
    exact ⟨T', ts, r, o2, ht, hl, as_ok (i := 3) (s := s3) e2 rfl h3⟩
  by_cases h : n1 = 0
  · exact key 6 (by decide) (by decide) (ev_ite_t (cmp_k (w := true) e1 (by simp [Fx.c2, ii, h])) (ev_k rfl))
  · exact key 3 (by decide) (by decide) (ev_ite_f (cmp_k (w := false) e1 (by simp [Fx.c2, ii, h])) (ev_k rfl))
def t2 : S := .as (.tp (.cons (.nm 8) (.cons (.nm 9) .nil))) 0 (.call 18 none (.l 1 (.v (.p (.at 3)) .nil)))
theorem t2_ok (c : Orc) (w : LawAt c) (d0 : PyData) (T : Tape) (hT : T.Ok) (ts : List Rat) (r : Rl) (ht : TsOk ts) (s2 s4 s5 s6 s7 s8 s9 s10 s11 s12 : SV) (h8 : FreeS s8) (h9 : FreeS s9) : ∃ (T' : Tape) (past later : List Int), T'.Ok ∧ RowSz 44 past ∧ RowSz 290 later ∧ past.length = ts.length ∧ 0 < later.length ∧ later.length ≤ 6 ∧ canR ts past.reverse later = true ∧
    exS c 0 t2 (eL d0 T s2 (sv0 (predD ts r)) s4 s5 s6 s7 s8 s9 s10 s11 s12) = .ok (.nx (eL d0 T' s2 (sv0 (predD ts r)) s4 s5 s6 s7 (sv0 (tL past)) (sv0 (tL later)) s10 s11 s12)) := by
  obtain ⟨T', past, later, x, o, v1, v2, l1, p2, l2, hc, hf⟩ := w.rw' T ts r hT ht
  have e1 := ev_callL1E (c := c) (f := 18) (i := 1) (a := .p (.at 3)) (env := eL d0 T s2 (sv0 (predD ts r)) s4 s5 s6 s7 s8 s9 s10 s11 s12) (by simp [slot]) (ev_at rfl) (l := false) (k := 1) (d := tapeD T) rfl hf
  refine ⟨T', past, later, o, v1, v2, l1, p2, l2, hc, ?_⟩
  have hb : bindT (.tp (.cons (.nm 8) (.cons (.nm 9) .nil))) (.tuple [tL past, tL later]) (eL d0 T' s2 (sv0 (predD ts r)) s4 s5 s6 s7 s8 s9 s10 s11 s12) = some (eL d0 T' s2 (sv0 (predD ts r)) s4 s5 s6 s7 (sv0 (tL past)) (sv0 (tL later)) s10 s11 s12) := bindT2 (i := 8) (j := 9) (s := s8) (s' := s9) rfl h8 rfl h9
  simp only [t2, exS, e1, r_ok]
  show (Rs.of (bindT _ _ (eL d0 T' s2 (sv0 (predD ts r)) s4 s5 s6 s7 s8 s9 s10 s11 s12))).bind _ = _
  rw [hb]
  rfl
end K49
set_option Elab.async false
set_option linter.all false
set_option maxRecDepth 100000
set_option maxHeartbeats 4000000
namespace K49
open PySem PySem.Spec PyProof.Rows L2 Fx
section
variable (c : Orc) (w : LawAt c) (d0 : PyData) (T : Tape) (ts : List Rat) (r : Rl) (ht : TsOk ts) (past later : List Int)
include w ht
def eCan (x : Nat) : E := .call 17 none (.v (.p (.at 3)) (.v (.p (.at 8)) (.v (.p (.at x)) .nil)))
def eDif (x : Nat) : E := .call 4 none (.v (.p (.at 3)) (.v (.p (.at 8)) (.v (.p (.at x)) .nil)))
def eDifK (x : Nat) : E := .call 4 (some [2, 1, 0]) (.v (.p (.at x)) (.v (.p (.at 8)) (.v (.p (.at 3)) .nil)))
theorem can_ev {env : EnvD} {x : Nat} (h3 : env[3]? = some (sv0 (predD ts r))) (h8 : env[8]? = some (sv0 (tL past))) (hx : env[x]? = some (sv0 (tL later))) (hp : RowSz 300 past) (hl : RowSz 300 later) (h1 : ts.length ≤ past.length) (h2 : past.length + later.length < 1000) : ev c (eCan x) 0 env = .ok (.bool (canR ts past.reverse later), env) :=
  call3 (ev_at h3) (ev_at h8) (ev_at hx) (w.can ts r past later ht hp hl h1 h2)
theorem dif_ev {env : EnvD} {x : Nat} (h3 : env[3]? = some (sv0 (predD ts r))) (h8 : env[8]? = some (sv0 (tL past))) (hx : env[x]? = some (sv0 (tL later))) (h1 : ts.length ≤ past.length) (h2 : past.length + later.length < 1000) : ev c (eDif x) 0 env = .ok (.bool (canR ts past.reverse later), env) :=
  call3 (ev_at h3) (ev_at h8) (ev_at hx) (w.dif ts r past later ht h1 h2)
theorem difK_ev {env : EnvD} {x : Nat} (h3 : env[3]? = some (sv0 (predD ts r))) (h8 : env[8]? = some (sv0 (tL past))) (hx : env[x]? = some (sv0 (tL later))) (h1 : ts.length ≤ past.length) (h2 : past.length + later.length < 1000) : ev c (eDifK x) 0 env = .ok (.bool (canR ts past.reverse later), env) :=
  call3_210 (ev_at hx) (ev_at h8) (ev_at h3) (w.dif ts r past later ht h1 h2)
end
def rF : Ss := .cons (.ret (.p (.k (.bool false)))) .nil
def t3 : S := .iff (.not (.v (eCan 9))) rF .nil
def t4 : S := .iff (.not (.v (.call 8 none (.v (.tup (.cons (eDif 9) (.cons (eDifK 9) .nil))) (.v (.tup (.cons (.p (.k (.bool true))) (.cons (.p (.k (.bool true))) .nil))) .nil))))) rF .nil
theorem not_pass {c : Orc} {E : E} {a : Ss} {env : EnvD} (h : evT c (.not (.v E)) env = .ok (!true, env)) : exS c 0 (.iff (.not (.v E)) a .nil) env = .ok (.nx env) := (s_iff_f h).trans (exs_nil _ _ _)
theorem t3_ok (c : Orc) (w : LawAt c) (ts : List Rat) (r : Rl) (ht : TsOk ts) (past later : List Int) {env : EnvD} (h3 : env[3]? = some (sv0 (predD ts r))) (h8 : env[8]? = some (sv0 (tL past))) (h9 : env[9]? = some (sv0 (tL later))) (hp : RowSz 300 past) (hl : RowSz 300 later) (h1 : ts.length ≤ past.length) (h2 : past.length + later.length < 1000) (hc : canR ts past.reverse later = true) : exS c 0 t3 env = .ok (.nx env) := by
  have e := can_ev c w ts r ht past later h3 h8 h9 hp hl h1 h2
  rw [hc] at e
  exact not_pass (not_call e)
theorem t4_ok (c : Orc) (w : LawAt c) (ts : List Rat) (r : Rl) (ht : TsOk ts) (past later : List Int) {env : EnvD} (h3 : env[3]? = some (sv0 (predD ts r))) (h8 : env[8]? = some (sv0 (tL past))) (h9 : env[9]? = some (sv0 (tL later))) (h1 : ts.length ≤ past.length) (h2 : past.length + later.length < 1000) (hc : canR ts past.reverse later = true) : exS c 0 t4 env = .ok (.nx env) := by
  have e1 := dif_ev c w ts r ht past later h3 h8 h9 h1 h2
  have e2 := difK_ev c w ts r ht past later h3 h8 h9 h1 h2
  rw [hc] at e1 e2
  exact not_pass (not_call (call2 (tup2 e1 e2) (tup2 (ev_k rfl) (ev_k rfl)) w.sm2))
def t5 : S := .as (.nm 4) 1 (.lst .nil)
abbrev rowsS (rows : List (List Int)) : SV := .sv false 1 (.list (rows.map tL))
theorem t5_ok (c : Orc) (d0 : PyData) (T : Tape) (s2 s3 s4 s5 s6 s7 s8 s9 s10 s11 s12 : SV) (h4 : FreeS s4) : exS c 0 t5 (eL d0 T s2 s3 s4 s5 s6 s7 s8 s9 s10 s11 s12) = .ok (.nx (eL d0 T s2 s3 (rowsS []) s5 s6 s7 s8 s9 s10 s11 s12)) := by
  refine as_ok (i := 4) (s := s4) (env' := eL d0 T s2 s3 s4 s5 s6 s7 s8 s9 s10 s11 s12) ?_ rfl h4
  simp [ev_lst, evs, r_ok]
/-- one place changed -/
def modL (xs : List Int) (k : Nat) (by' : Int) : List Int := xs.take k ++ (xs.getD k 0 + by') :: xs.drop (k + 1)
theorem modL_len {xs : List Int} {k : Nat} {b : Int} (h : k < xs.length) : (modL xs k b).length = xs.length := by
  simp [modL]; omega
theorem modL_sz {xs : List Int} {k : Nat} {b : Int} (hk : k < xs.length) (h : RowSz 290 xs) (hb : b.natAbs < 3) : RowSz 291 (modL xs k b) := by
  intro v hv
  have e : (2 : Nat) ^ 291 = 2 * 2 ^ 290 := by rw [Nat.pow_succ]; omega
  have e2 : (4 : Nat) ≤ 2 ^ 290 := Nat.le_trans (by decide : (4 : Nat) ≤ 2 ^ 2) (Nat.pow_le_pow_right (by decide) (by decide))
  simp only [modL, List.mem_append, List.mem_cons] at hv
  rcases hv with hv | rfl | hv
  · have := h v (List.mem_of_mem_take hv); omega
  · obtain ⟨x, ex⟩ : ∃ x, xs[k]? = some x := ⟨_, List.getElem?_eq_getElem hk⟩
    have := h x (List.mem_of_getElem? ex)
    rw [List.getD, ex, Option.getD_some]
    omega
  · have := h v (List.mem_of_mem_drop hv); omega
def sK : S := .as (.nm 10) 0 (.call 7 none (.l 1 (.v (.p (.p1 .len (.at 9))) .nil)))
def sM : S := .ex (.mu .append 4 [] 0 (.cons (.b2 .add (.b2 .add (.sl (.p (.at 9)) .none (.some (.p (.at 10)))) (.tup (.cons (.b2 .add (.p (.ix (.at 9) (.at 10))) (.p (.at 5))) .nil))) (.sl (.p (.at 9)) (.some (.b2 .add (.p (.at 10)) (.p (.k (.int 1))))) .none)) .nil))
theorem app4 {c : Orc} {E : E} {en en' : EnvD} {row : List Int} {rows : List (List Int)} (hl : isListS en 4 = true) (h : ev c E 0 en = .ok (tL row, en')) (hx : en'[4]? = some (rowsS rows)) (hn : rows.length < 1000) : exS c 0 (.ex (.mu .append 4 [] 0 (.cons E .nil))) en = .ok (.nx (en'.set 4 (rowsS (rows ++ [row])))) := by
  have hn' : rows.length < 16777216 := by omega
  simp [exS, ev_mu0, evs, hl, h, alterS, pathR, alterAt, alterD, muF, muD, hx, hn', isCont, r_of, r_ok]
  show List.set en' 4 (SV.sv false 1 (PyData.list _)) = List.set en' 4 (SV.sv false 1 (PyData.list _))
  rw [List.map_append]
  rfl
theorem mod_ev (c : Orc) (later : List Int) (k : Nat) (hk : k < later.length) (hl : later.length ≤ 100) (b : Int) {env : EnvD} (h9 : env[9]? = some (sv0 (tL later))) (h10 : env[10]? = some (sv0 (.int (k : Int)))) (h5 : env[5]? = some (sv0 (.int b))) :
    ev c (.b2 .add (.b2 .add (.sl (.p (.at 9)) .none (.some (.p (.at 10)))) (.tup (.cons (.b2 .add (.p (.ix (.at 9) (.at 10))) (.p (.at 5))) .nil))) (.sl (.p (.at 9)) (.some (.b2 .add (.p (.at 10)) (.p (.k (.int 1))))) .none)) 0 env = .ok (tL (modL later k b), env) := by
  have c1 := cut_to (later.map PyData.int) k (by simp; omega)
  have c2 := cut_from (later.map PyData.int) (k + 1) (by simp; omega)
  have ek : (((k + 1 : Nat)) : Int) = (k : Int) + 1 := by omega
  rw [ek] at c2
  obtain ⟨x, ex⟩ : ∃ x, later[k]? = some x := ⟨_, List.getElem?_eq_getElem hk⟩
  have e1 : ixD (tL later) (.int (k : Int)) = some (.int x) := atI_nat (map_int_get ex)
  have e2 : later.getD k 0 = x := by rw [List.getD, ex]; rfl
  have a1 : ev c (.sl (.p (.at 9)) .none (.some (.p (.at 10)))) 0 env = .ok (.tuple ((later.map PyData.int).take k), env) := by
    simp only [ev_sl, ev_at h9, evO, ev_at h10, r_ok, slD, c1]
    rfl
  have a2 : ev c (.tup (.cons (.b2 .add (.p (.ix (.at 9) (.at 10))) (.p (.at 5))) .nil)) 0 env = .ok (.tuple [.int (x + b)], env) := by
    simp [ev_tup, evs, ev_b2, evP, slot, h9, h10, h5, e1, opd2, opd, fin, lateE, isP, toP, finO, evPb, g2, Fx.b2, own1, isCont, r_of, r_ok]
  have a4 : ev c (.b2 .add (.p (.at 10)) (.p (.k (.int 1)))) 0 env = .ok (.int ((k : Int) + 1), env) := by
    simp [ev_b2, evP, slot, h10, opd2, opd, fin, lateE, isP, toP, finO, evPb, g2, Fx.b2, own1, isCont, r_of, r_ok]
  have a3 : ev c (.sl (.p (.at 9)) (.some (.b2 .add (.p (.at 10)) (.p (.k (.int 1))))) .none) 0 env = .ok (.tuple ((later.map PyData.int).drop (k + 1)), env) := by
    simp only [ev_sl, ev_at h9, evO, a4, r_ok, slD, c2]
    rfl
  have b1 : ∀ xs ys : List PyData, xs.length + ys.length ≤ 1000 → ∀ (A B : E), isP A = false → isP B = false → ev c A 0 env = .ok (.tuple xs, env) → ev c B 0 env = .ok (.tuple ys, env) → ev c (.b2 .add A B) 0 env = .ok (.tuple (xs ++ ys), env) := fun xs ys hn A B pa pb hA hB => by
    have hn' : xs.length + ys.length ≤ 16777216 := by omega
    have l1 : lateE A (isP B) = false := by rw [pb]; cases A <;> first | rfl | (cases pa)
    have l2 : lateE B true = false := by cases B <;> first | rfl | (cases pb)
    simp [ev_b2, opd2, opd, fin, l1, l2, hA, hB, finO, g2, Fx.b2, own1, isCont, hn', r_of, r_ok]
  have f1 := b1 _ _ (by simp; omega) _ _ rfl rfl a1 a2
  have f2 := b1 _ _ (by simp; omega) _ _ rfl rfl f1 a3
  rw [f2]
  simp [tL, modL, ex, List.map_take, List.map_drop]
theorem by_turn (c : Orc) (w : LawAt c) (d0 : PyData) (T : Tape) (hT : T.Ok) (s2 s3 s6 s7 s8 s10 s11 s12 : SV) (rows : List (List Int)) (hn : rows.length < 100) (later : List Int) (hp : 0 < later.length) (hl : later.length ≤ 6) (b : Int) (h10 : Fr0 s10) : ∃ (T' : Tape) (k : Nat), T'.Ok ∧ k < later.length ∧
    exs c 0 (.cons sK (.cons sM .nil)) (eL d0 T s2 s3 (rowsS rows) (sv0 (.int b)) s6 s7 s8 (sv0 (tL later)) s10 s11 s12) = .ok (.nx (eL d0 T' s2 s3 (rowsS (rows ++ [modL later k b])) (sv0 (.int b)) s6 s7 s8 (sv0 (tL later)) (sv0 (.int (k : Int))) s11 s12)) := by
  obtain ⟨T', n, o, a1, b1, e⟩ := ev_draw w.dr hT (env := eL d0 T s2 s3 (rowsS rows) (sv0 (.int b)) s6 s7 s8 (sv0 (tL later)) s10 s11 s12) (i := 1) (l := false) (a := .p (.p1 .len (.at 9))) (many := (later.length : Int)) rfl (by simp [ev_p, evPk, evP, slot, Fx.p1, isCont, r_of]) (by omega)
  refine ⟨T', n.toNat, o, by omega, ?_⟩
  have en : n = ((n.toNat : Nat) : Int) := by omega
  rw [en] at e
  have q1 := as_ok (rk := 0) (i := 10) (s := s10) e rfl h10.fr
  have q2 := mod_ev c later n.toNat (by omega) (by omega) b (env := eL d0 T' s2 s3 (rowsS rows) (sv0 (.int b)) s6 s7 s8 (sv0 (tL later)) (sv0 (.int ((n.toNat : Nat) : Int))) s11 s12) rfl rfl rfl
  have q3 := app4 (rows := rows) (by simp [isListS, slot]) q2 rfl (by omega)
  exact (exs_nx q1).trans ((exs_nx q3).trans (exs_nil _ _ _))
def t6 : S := .for (.nm 5) (.e (.lst (.cons (.p (.k (.int 1))) (.cons (.p (.p1 .neg (.k (.int 1)))) (.cons (.p (.k (.int 2))) (.cons (.p (.p1 .neg (.k (.int 2)))) .nil)))))) (.cons sK (.cons sM .nil))
/-- rows that may be asked about -/
def RsOk (rows : List (List Int)) : Prop := ∀ row ∈ rows, RowSz 300 row ∧ row.length ≤ 6
theorem t6_ok (c : Orc) (w : LawAt c) (d0 : PyData) (T : Tape) (hT : T.Ok) (s2 s3 s5 s6 s7 s8 s10 s11 s12 : SV) (h5 : FreeS s5) (h10 : Fr0 s10) (later : List Int) (hp : 0 < later.length) (hl : later.length ≤ 6) (hs : RowSz 290 later) : ∃ (T' : Tape) (k : Nat) (rows : List (List Int)) (s5' s10' : SV), T'.Ok ∧ k < later.length ∧ RsOk (modL later k 1 :: rows) ∧ rows.length = 3 ∧ FreeS s5' ∧ Fr0 s10' ∧
    exS c 0 t6 (eL d0 T s2 s3 (rowsS []) s5 s6 s7 s8 (sv0 (tL later)) s10 s11 s12) = .ok (.nx (eL d0 T' s2 s3 (rowsS (modL later k 1 :: rows)) s5' s6 s7 s8 (sv0 (tL later)) s10' s11 s12)) := by
  obtain ⟨T1, k1, o1, p1, e1⟩ := by_turn c w d0 T hT s2 s3 s6 s7 s8 s10 s11 s12 [] (by decide) later hp hl 1 h10
  obtain ⟨T2, k2, o2, p2, e2⟩ := by_turn c w d0 T1 o1 s2 s3 s6 s7 s8 (sv0 (.int k1)) s11 s12 ([] ++ [modL later k1 1]) (by simp) later hp hl (-1) (.inr ⟨_, rfl⟩)
  obtain ⟨T3, k3, o3, p3, e3⟩ := by_turn c w d0 T2 o2 s2 s3 s6 s7 s8 (sv0 (.int k2)) s11 s12 ([] ++ [modL later k1 1] ++ [modL later k2 (-1)]) (by simp) later hp hl 2 (.inr ⟨_, rfl⟩)
  obtain ⟨T4, k4, o4, p4, e4⟩ := by_turn c w d0 T3 o3 s2 s3 s6 s7 s8 (sv0 (.int k3)) s11 s12 ([] ++ [modL later k1 1] ++ [modL later k2 (-1)] ++ [modL later k3 2]) (by simp) later hp hl (-2) (.inr ⟨_, rfl⟩)
  have sz : ∀ (k : Nat) (b : Int), k < later.length → b.natAbs < 3 → RowSz 300 (modL later k b) ∧ (modL later k b).length ≤ 6 := fun k b hk hb => ⟨(modL_sz hk hs hb).le (by decide), by rw [modL_len hk]; exact hl⟩
  refine ⟨T4, k1, [modL later k2 (-1), modL later k3 2, modL later k4 (-2)], sv0 (.int (-2)), sv0 (.int k4), o4, p1, ?_, rfl, fr_sv0 _, .inr ⟨_, rfl⟩, ?_⟩
  · intro row hr
    simp only [List.mem_cons, List.not_mem_nil, or_false] at hr
    rcases hr with rfl | rfl | rfl | rfl
    · exact sz _ _ p1 (by decide)
    · exact sz _ _ p2 (by decide)
    · exact sz _ _ p3 (by decide)
    · exact sz _ _ p4 (by decide)
  · have hi : evI c (.e (.lst (.cons (.p (.k (.int 1))) (.cons (.p (.p1 .neg (.k (.int 1)))) (.cons (.p (.k (.int 2))) (.cons (.p (.p1 .neg (.k (.int 2)))) .nil)))))) (eL d0 T s2 s3 (rowsS []) s5 s6 s7 s8 (sv0 (tL later)) s10 s11 s12) = .ok ([.int 1, .int (-1), .int 2, .int (-2)], eL d0 T s2 s3 (rowsS []) s5 s6 s7 s8 (sv0 (tL later)) s10 s11 s12) := by
      refine evI_e (d := .list [.int 1, .int (-1), .int 2, .int (-2)]) ?_ rfl
      simp [ev_lst, evs, ev_p, evPk, evP, Fx.p1, isCont, r_of, r_ok]
    have bd : ∀ (T : Tape) (rows : List (List Int)) (s5 s10 : SV) (d : PyData), FreeS s5 → bindT (.nm 5) d (eL d0 T s2 s3 (rowsS rows) s5 s6 s7 s8 (sv0 (tL later)) s10 s11 s12) = some (eL d0 T s2 s3 (rowsS rows) (sv0 d) s6 s7 s8 (sv0 (tL later)) s10 s11 s12) := fun T rows s5 s10 d h => setS_free (i := 5) (s := s5) rfl h
    refine (for_it hi).trans ?_
    simp only [forL, bd T [] s5 s10 (.int 1) h5, r_of, r_ok, e1]
    simp only [bd T1 _ (sv0 (.int 1)) _ (.int (-1)) (fr_sv0 _), r_of, r_ok, e2]
    simp only [bd T2 _ (sv0 (.int (-1))) _ (.int 2) (fr_sv0 _), r_of, r_ok, e3]
    simp only [bd T3 _ (sv0 (.int 2)) _ (.int (-2)) (fr_sv0 _), r_of, r_ok, e4]
    rfl
end K49
set_option Elab.async false
set_option linter.all false
set_option maxRecDepth 100000
set_option maxHeartbeats 4000000
namespace K49
open PySem PySem.Spec PyProof.Rows L2 Fx
def sR : S := .ex (.mu .append 4 [] 0 (.cons (.bi .tuple (.cons (.lc [10] (.nm 10) (.range (.cons (.b2 .add (.p (.k (.int 1))) (.call 7 none (.l 1 (.v (.p (.k (.int 3))) .nil)))) .nil)) .nil (eDrawT 7 1 7 3)) .nil)) .nil))
theorem rnd_turn (c : Orc) (w : LawAt c) (d0 : PyData) (T : Tape) (hT : T.Ok) (s2 s3 s5 s6 s7 s8 s9 s10 s11 s12 : SV) (rows : List (List Int)) (hn : rows.length < 100) (h10 : Fr0 s10) : ∃ (T' : Tape) (row : List Int), T'.Ok ∧ RowSz 300 row ∧ row.length ≤ 6 ∧
    exs c 0 (.cons sR .nil) (eL d0 T s2 s3 (rowsS rows) s5 s6 s7 s8 s9 s10 s11 s12) = .ok (.nx (eL d0 T' s2 s3 (rowsS (rows ++ [row])) s5 s6 s7 s8 s9 s10 s11 s12)) := by
  obtain ⟨T1, n1, o1, a1, b1, e1⟩ := drawK w.dr hT (i := 1) (l := false) (env := eL d0 T s2 s3 (rowsS rows) s5 s6 s7 s8 s9 s10 s11 s12) (many := 3) rfl (by decide)
  have e2 := ev_kadd (a := 1) e1
  rw [show 1 + n1 = (((1 + n1).toNat : Nat) : Int) by omega] at e2
  obtain ⟨T', vs, o, hl, hv, e⟩ := ev_drawsT (i := 1) (j := 10) w.dr (by decide) (l := false) (T := T1) o1 (env1 := eL d0 T1 s2 s3 (rowsS rows) s5 s6 s7 s8 s9 s10 s11 s12) rfl (s := s10) rfl h10 (s' := s10) rfl h10 (evI_rangeN _ e2 (by omega)) (by simp; omega) (many := 7) (a := 3) (by decide)
  have hl : vs.length = (1 + n1).toNat := by simpa using hl
  refine ⟨T', vs, o, fun v hv' => ?_, by omega, ?_⟩
  · have := hv v hv'
    have h3 : v.natAbs < 2 ^ 3 := by omega
    exact Nat.lt_of_lt_of_le h3 (Nat.pow_le_pow_right (by decide) (by decide))
  · have q := app4 (rows := rows) (by simp [isListS, slot]) (tup_lc e) rfl (by omega)
    exact (exs_nx q).trans (exs_nil _ _ _)
def t7 : S := .for (.nm 6) (.range (.cons (.p (.k (.int 3))) .nil)) (.cons sR .nil)
theorem t7_loop (c : Orc) (w : LawAt c) (d0 : PyData) (s2 s3 s5 s7 s8 s9 s10 s11 s12 : SV) (h10 : Fr0 s10) : ∀ (ks : List Nat) (T : Tape) (rows : List (List Int)) (s6 : SV), T.Ok → FreeS s6 → RsOk rows → rows.length + ks.length < 100 → ∃ (T' : Tape) (more : List (List Int)) (s6' : SV), T'.Ok ∧ FreeS s6' ∧ RsOk (rows ++ more) ∧ (rows ++ more).length = rows.length + ks.length ∧
    forL (bindT (.nm 6)) (exs c 0 (.cons sR .nil)) (ks.map fun (k : Nat) => PyData.int (k : Int)) (eL d0 T s2 s3 (rowsS rows) s5 s6 s7 s8 s9 s10 s11 s12) = .ok (.nx (eL d0 T' s2 s3 (rowsS (rows ++ more)) s5 s6' s7 s8 s9 s10 s11 s12))
  | [], T, rows, s6, hT, h6, hr, _ => ⟨T, [], s6, hT, h6, by simpa using hr, by simp, by simp [forL]⟩
  | k :: ks, T, rows, s6, hT, h6, hr, hn => by
    obtain ⟨T1, row, o1, v1, l1, e1⟩ := rnd_turn c w d0 T hT s2 s3 s5 (sv0 (.int k)) s7 s8 s9 s10 s11 s12 rows (by omega) h10
    obtain ⟨T', more, s6', o2, f2, r2, n2, ih⟩ := t7_loop c w d0 s2 s3 s5 s7 s8 s9 s10 s11 s12 h10 ks T1 (rows ++ [row]) (sv0 (.int k)) o1 (fr_sv0 _) (fun u hu => by
      rcases List.mem_append.mp hu with hu | hu
      · exact hr u hu
      · simp at hu; subst hu; exact ⟨v1, l1⟩) (by simp at hn ⊢; omega)
    have ea : rows ++ [row] ++ more = rows ++ (row :: more) := by simp
    rw [ea] at r2 n2 ih
    refine ⟨T', row :: more, s6', o2, f2, r2, by simp at n2 ⊢; omega, ?_⟩
    have hb : bindT (.nm 6) (.int (k : Int)) (eL d0 T s2 s3 (rowsS rows) s5 s6 s7 s8 s9 s10 s11 s12) = some (eL d0 T s2 s3 (rowsS rows) s5 (sv0 (.int k)) s7 s8 s9 s10 s11 s12) := setS_free (i := 6) (s := s6) rfl h6
    rw [List.map_cons]
    simp only [forL, hb, r_of, r_ok, e1]
    exact ih
theorem t7_ok (c : Orc) (w : LawAt c) (d0 : PyData) (T : Tape) (hT : T.Ok) (s2 s3 s5 s6 s7 s8 s9 s10 s11 s12 : SV) (h6 : FreeS s6) (h10 : Fr0 s10) (rows : List (List Int)) (hr : RsOk rows) (hn : rows.length = 4) : ∃ (T' : Tape) (more : List (List Int)) (s6' : SV), T'.Ok ∧ FreeS s6' ∧ RsOk (rows ++ more) ∧
    exS c 0 t7 (eL d0 T s2 s3 (rowsS rows) s5 s6 s7 s8 s9 s10 s11 s12) = .ok (.nx (eL d0 T' s2 s3 (rowsS (rows ++ more)) s5 s6' s7 s8 s9 s10 s11 s12)) := by
  obtain ⟨T', more, s6', o, f, r, _, e⟩ := t7_loop c w d0 s2 s3 s5 s7 s8 s9 s10 s11 s12 h10 (List.range 3) T rows s6 hT h6 hr (by simp; omega)
  exact ⟨T', more, s6', o, f, r, (for_it (evI_rangeN 3 (ev_k rfl) (by decide))).trans e⟩
/-! ### whole taps tell -/
def eNo : E := .lc [12] (.nm 12) (.e (.p (.ix (.at 3) (.k (.int 0))))) (.cons (.c2 .gt (.p (.ix (.at 12) (.k (.int 1)))) (.p (.k (.int 1)))) .nil) (.p (.at 12))
theorem no_ev (c : Orc) (d0 : PyData) (T : Tape) (ts : List Rat) (r : Rl) (hl : ts.length ≤ 6) (s2 s4 s5 s6 s7 s8 s9 s10 s11 s12 : SV) (h12 : Fr0 s12) : ev c eNo 0 (eL d0 T s2 (sv0 (predD ts r)) s4 s5 s6 s7 s8 s9 s10 s11 s12) = .ok (.list ((ts.filter fun t => decide (1 < t.den)).map frac), eL d0 T s2 (sv0 (predD ts r)) s4 s5 s6 s7 s8 s9 s10 s11 s12) := by
  have ow : ownOk (eL d0 T s2 (sv0 (predD ts r)) s4 s5 s6 s7 s8 s9 s10 s11 s12) [12] = true := by
    rcases h12 with rfl | ⟨d, rfl⟩ <;> rfl
  have e0 : ev c (.p (.ix (.at 3) (.k (.int 0)))) 0 (eL d0 T s2 (sv0 (predD ts r)) s4 s5 s6 s7 s8 s9 s10 s11 s12) = .ok (tapsD ts, eL d0 T s2 (sv0 (predD ts r)) s4 s5 s6 s7 s8 s9 s10 s11 s12) := by
    simp [ev_p, evPk, evP, slot, predD, ix_tupl, at0, isCont, tapsD, r_of]
  refine ev_lcM ts (fun t => decide (1 < t.den)) frac frac ow (evI_e e0 rfl) (by omega) (fun t _ => ?_) rfl
  refine ⟨eL d0 T s2 (sv0 (predD ts r)) s4 s5 s6 s7 s8 s9 s10 s11 (sv0 (frac t)), eL d0 T s2 (sv0 (predD ts r)) s4 s5 s6 s7 s8 s9 s10 s11 (sv0 (frac t)), ?_, ?_, fun _ => rfl, fun _ => ⟨eL d0 T s2 (sv0 (predD ts r)) s4 s5 s6 s7 s8 s9 s10 s11 (sv0 (frac t)), ev_at rfl, rfl⟩⟩
  · exact setS_free (env := eL d0 T s2 (sv0 (predD ts r)) s4 s5 s6 s7 s8 s9 s10 s11 .un) (i := 12) (s := .un) rfl (.inl rfl)
  · have hx : ixD (frac t) (.int 1) = some (.int (t.den : Int)) := at1 _ _
    have ht : evT c (.c2 .gt (.p (.ix (.at 12) (.k (.int 1)))) (.p (.k (.int 1)))) (eL d0 T s2 (sv0 (predD ts r)) s4 s5 s6 s7 s8 s9 s10 s11 (sv0 (frac t))) = .ok (decide (1 < t.den), eL d0 T s2 (sv0 (predD ts r)) s4 s5 s6 s7 s8 s9 s10 s11 (sv0 (frac t))) := by
      have : decide ((1 : Int) < (t.den : Int)) = decide (1 < t.den) := by
        by_cases h : 1 < t.den
        · rw [decide_eq_true h, decide_eq_true (by omega)]
        · rw [decide_eq_false h, decide_eq_false (by omega)]
      simp [evT, evP, slot, hx, opd2, opd, fin, lateE, isP, toP, finO, evPb, g2, c2B, Fx.c2, ii, isCont, frac_cont, r_of, r_ok, this]
    simp only [evTs, ht, r_ok]
    cases decide (1 < t.den) <;> rfl
theorem eq_nil {c : Orc} {own : List Nat} {tg : Tg} {it : Fx.It} {tt : Tts} {e : E} {en en' : EnvD} {qs : List Rat} (h : ev c (.lc own tg it tt e) 0 en = .ok (.list (qs.map frac), en')) : evT c (.c2 .eq (.lc own tg it tt e) (.lst .nil)) en = .ok (qs.isEmpty, en') := by
  simp [evT, ev_lst, evs, opd2, opd, fin, lateE, isP, toP, finO, g2, c2B, h, fracs_nil, isCont, r_of, r_ok]
theorem isB_call {c : Orc} {f : Nat} {pm : Option (List Nat)} {ar : Ar} {en en' : EnvD} {b : Bool} (h : ev c (.call f pm ar) 0 en = .ok (.bool b, en')) : evT c (.isB (.call f pm ar) true) en = .ok (b, en') := by
  simp [evT, opd1, opd, fin, lateE, isP, toP, finO, g1, isBool, h, r_of, r_ok]
theorem and_f {c : Orc} {t u : Tt} {en en' : EnvD} (h : evT c t en = .ok (false, en')) : evT c (.and t u) en = .ok (false, en') := by
  simp [evT, h, r_ok]
theorem and_t {c : Orc} {t u : Tt} {en en' en2 : EnvD} {b : Bool} (h : evT c t en = .ok (true, en')) (h2 : evT c u en' = .ok (b, en2)) : evT c (.and t u) en = .ok (b, en2) := by
  simp [evT, h, h2, r_ok]
def t8 : S := .iff (.and (.c2 .eq eNo (.lst .nil)) (.isB (.call 4 none (.v (.p (.at 3)) (.v (.p (.at 8)) (.v (.p (.ix (.at 4) (.k (.int 0)))) .nil)))) true)) rF .nil
theorem off_can (ts : List Rat) (hw : (ts.filter fun t => decide (1 < t.den)).isEmpty = true) (R later : List Int) (k : Nat) (hk : k < later.length) (hc : canR ts R later = true) : canR ts R (modL later k 1) = false := by
  have hd : ∀ t ∈ ts, t.den = 1 := fun t ht => by
    have := List.isEmpty_iff.mp hw
    have h2 := List.filter_eq_nil_iff.mp this t ht
    have h3 := t.den_nz
    simp at h2
    omega
  have e : later = later.take k ++ later[k] :: later.drop (k + 1) := by
    rw [← List.drop_eq_getElem_cons hk, List.take_append_drop]
  rw [e] at hc
  have := can_off ts hd later[k] (later.drop (k + 1)) (later.drop (k + 1)) (later.take k) R hc
  unfold modL
  rw [List.getD, List.getElem?_eq_getElem hk]
  exact this
theorem t8_ok (c : Orc) (w : LawAt c) (d0 : PyData) (T : Tape) (ts : List Rat) (r : Rl) (ht : TsOk ts) (past later : List Int) (k : Nat) (hk : k < later.length) (hl : later.length ≤ 6) (hp : past.length = ts.length) (hc : canR ts past.reverse later = true) (rows : List (List Int)) (s2 s5 s6 s7 s9 s10 s11 s12 : SV) (h12 : Fr0 s12) :
    exS c 0 t8 (eL d0 T s2 (sv0 (predD ts r)) (rowsS (modL later k 1 :: rows)) s5 s6 s7 (sv0 (tL past)) s9 s10 s11 s12) = .ok (.nx (eL d0 T s2 (sv0 (predD ts r)) (rowsS (modL later k 1 :: rows)) s5 s6 s7 (sv0 (tL past)) s9 s10 s11 s12)) := by
  have h6 := ht.len
  have e1 := eq_nil (no_ev c d0 T ts r ht.len s2 (rowsS (modL later k 1 :: rows)) s5 s6 s7 (sv0 (tL past)) s9 s10 s11 s12 h12)
  refine (s_iff_f ?_).trans (exs_nil _ _ _)
  cases hw : (ts.filter fun t => decide (1 < t.den)).isEmpty with
  | false =>
    rw [hw] at e1
    exact and_f e1
  | true =>
    rw [hw] at e1
    have e3 : ev c (.p (.ix (.at 4) (.k (.int 0)))) 0 (eL d0 T s2 (sv0 (predD ts r)) (rowsS (modL later k 1 :: rows)) s5 s6 s7 (sv0 (tL past)) s9 s10 s11 s12) = .ok (tL (modL later k 1), eL d0 T s2 (sv0 (predD ts r)) (rowsS (modL later k 1 :: rows)) s5 s6 s7 (sv0 (tL past)) s9 s10 s11 s12) := by
      have hx : ixD (.list ((modL later k 1 :: rows).map tL)) (.int 0) = some (tL (modL later k 1)) := atI_nat (k := 0) rfl
      simp only [ev_p, evPk, evP, slot, List.getElem?_cons_succ, List.getElem?_cons_zero, Option.bind_some, hx, Option.map_some]
      rfl
    have e2 := call3 (f := 4) (ev_at (c := c) (i := 3) (env := eL d0 T s2 (sv0 (predD ts r)) (rowsS (modL later k 1 :: rows)) s5 s6 s7 (sv0 (tL past)) s9 s10 s11 s12) rfl) (ev_at (i := 8) rfl) e3 (w.dif ts r past (modL later k 1) ht (by omega) (by rw [modL_len hk]; omega))
    rw [off_can ts hw past.reverse later k hk hc] at e2
    exact and_t e1 (isB_call e2)
end K49
set_option Elab.async false
set_option linter.all false
set_option maxRecDepth 100000
set_option maxHeartbeats 4000000
namespace K49
open PySem PySem.Spec PyProof.Rows L2 Fx
def uD : S := .as (.nm 11) 0 (eCan 7)
def uA : S := .iff (.not (.v (.call 8 none (.v (eDif 7) (.v (.p (.at 11)) .nil))))) rF .nil
def uB : S := .iff (.not (.v (.call 8 none (.v (eDifK 7) (.v (.p (.at 11)) .nil))))) rF .nil
def t9 : S := .for (.nm 7) (.e (.p (.at 4))) (.cons uD (.cons uA (.cons uB .nil)))
theorem ask_turn (c : Orc) (w : LawAt c) (d0 : PyData) (T : Tape) (ts : List Rat) (r : Rl) (ht : TsOk ts) (past row : List Int) (hp : RowSz 44 past) (hl : past.length = ts.length) (hr : RowSz 300 row ∧ row.length ≤ 6) (s2 s4 s5 s6 s9 s10 s11 s12 : SV) (h11 : FreeS s11) :
    exs c 0 (.cons uD (.cons uA (.cons uB .nil))) (eL d0 T s2 (sv0 (predD ts r)) s4 s5 s6 (sv0 (tL row)) (sv0 (tL past)) s9 s10 s11 s12) = .ok (.nx (eL d0 T s2 (sv0 (predD ts r)) s4 s5 s6 (sv0 (tL row)) (sv0 (tL past)) s9 s10 (sv0 (.bool (canR ts past.reverse row))) s12)) := by
  have h6 := ht.len
  have h7 := hr.2
  have e1 := as_ok (rk := 0) (i := 11) (s := s11) (can_ev c w ts r ht past row (x := 7) (env := eL d0 T s2 (sv0 (predD ts r)) s4 s5 s6 (sv0 (tL row)) (sv0 (tL past)) s9 s10 s11 s12) rfl rfl rfl (hp.le (by decide)) hr.1 (by omega) (by omega)) rfl h11
  have d1 := dif_ev c w ts r ht past row (x := 7) (env := eL d0 T s2 (sv0 (predD ts r)) s4 s5 s6 (sv0 (tL row)) (sv0 (tL past)) s9 s10 (sv0 (.bool (canR ts past.reverse row))) s12) rfl rfl rfl (by omega) (by omega)
  have d2 := difK_ev c w ts r ht past row (x := 7) (env := eL d0 T s2 (sv0 (predD ts r)) s4 s5 s6 (sv0 (tL row)) (sv0 (tL past)) s9 s10 (sv0 (.bool (canR ts past.reverse row))) s12) rfl rfl rfl (by omega) (by omega)
  have f1 := not_pass (a := rF) (not_call (call2 d1 (ev_at (i := 11) rfl) (w.sm _)))
  have f2 := not_pass (a := rF) (not_call (call2 d2 (ev_at (i := 11) rfl) (w.sm _)))
  exact (exs_nx e1).trans ((exs_nx f1).trans ((exs_nx f2).trans (exs_nil _ _ _)))
theorem ask_loop (c : Orc) (w : LawAt c) (d0 : PyData) (T : Tape) (ts : List Rat) (r : Rl) (ht : TsOk ts) (past : List Int) (hp : RowSz 44 past) (hl : past.length = ts.length) (s2 s4 s5 s6 s9 s10 s12 : SV) : ∀ (rows : List (List Int)) (s7 s11 : SV), RsOk rows → FreeS s7 → FreeS s11 → ∃ s7' s11', FreeS s7' ∧ FreeS s11' ∧
    forL (bindT (.nm 7)) (exs c 0 (.cons uD (.cons uA (.cons uB .nil)))) (rows.map tL) (eL d0 T s2 (sv0 (predD ts r)) s4 s5 s6 s7 (sv0 (tL past)) s9 s10 s11 s12) = .ok (.nx (eL d0 T s2 (sv0 (predD ts r)) s4 s5 s6 s7' (sv0 (tL past)) s9 s10 s11' s12))
  | [], s7, s11, _, h7, h11 => ⟨s7, s11, h7, h11, rfl⟩
  | row :: rows, s7, s11, hr, h7, h11 => by
    have e := ask_turn c w d0 T ts r ht past row hp hl (hr row (List.mem_cons_self ..)) s2 s4 s5 s6 s9 s10 s11 s12 h11
    obtain ⟨s7', s11', f7, f11, ih⟩ := ask_loop c w d0 T ts r ht past hp hl s2 s4 s5 s6 s9 s10 s12 rows (sv0 (tL row)) (sv0 (.bool (canR ts past.reverse row))) (fun x hx => hr x (List.mem_cons_of_mem _ hx)) (fr_sv0 _) (fr_sv0 _)
    refine ⟨s7', s11', f7, f11, ?_⟩
    have hb : bindT (.nm 7) (tL row) (eL d0 T s2 (sv0 (predD ts r)) s4 s5 s6 s7 (sv0 (tL past)) s9 s10 s11 s12) = some (eL d0 T s2 (sv0 (predD ts r)) s4 s5 s6 (sv0 (tL row)) (sv0 (tL past)) s9 s10 s11 s12) := setS_free (i := 7) (s := s7) rfl h7
    rw [List.map_cons]
    simp only [forL, hb, r_of, r_ok, e]
    exact ih
theorem t9_ok (c : Orc) (w : LawAt c) (d0 : PyData) (T : Tape) (ts : List Rat) (r : Rl) (ht : TsOk ts) (past : List Int) (hp : RowSz 44 past) (hl : past.length = ts.length) (s2 s5 s6 s7 s9 s10 s11 s12 : SV) (rows : List (List Int)) (hr : RsOk rows) (h7 : FreeS s7) (h11 : FreeS s11) : ∃ s4' s7' s11', FreeS s4' ∧ FreeS s7' ∧ FreeS s11' ∧
    exS c 0 t9 (eL d0 T s2 (sv0 (predD ts r)) (rowsS rows) s5 s6 s7 (sv0 (tL past)) s9 s10 s11 s12) = .ok (.nx (eL d0 T s2 (sv0 (predD ts r)) s4' s5 s6 s7' (sv0 (tL past)) s9 s10 s11' s12)) := by
  obtain ⟨s7', s11', f7, f11, e⟩ := ask_loop c w d0 T ts r ht past hp hl s2 (sv0 (.list (rows.map tL))) s5 s6 s9 s10 s12 rows s7 s11 hr h7 h11
  refine ⟨_, s7', s11', fr_sv0 _, f7, f11, (for_e (d := .list (rows.map tL)) (xs := rows.map tL) ?_ rfl).trans e⟩
  simp [evPk, evP, slot, isCont]
structure Sl where
  (s3 s4 s5 s6 s7 s8 s9 s10 s11 s12 : SV)
structure Sl.Ok (s : Sl) : Prop where
  h3 : FreeS s.s3
  h4 : FreeS s.s4
  h5 : FreeS s.s5
  h6 : FreeS s.s6
  h7 : FreeS s.s7
  h8 : FreeS s.s8
  h9 : FreeS s.s9
  h10 : Fr0 s.s10
  h11 : FreeS s.s11
  h12 : Fr0 s.s12
abbrev eS (d0 : PyData) (T : Tape) (s2 : SV) (s : Sl) : EnvD := eL d0 T s2 s.s3 s.s4 s.s5 s.s6 s.s7 s.s8 s.s9 s.s10 s.s11 s.s12
def ssT : Ss := .cons t1 (.cons t2 (.cons t3 (.cons t4 (.cons t5 (.cons t6 (.cons t7 (.cons t8 (.cons t9 .nil))))))))
theorem turn19 (c : Orc) (w : LawAt c) (d0 : PyData) (T : Tape) (hT : T.Ok) (s2 : SV) (s : Sl) (h : s.Ok) : ∃ (T' : Tape) (s' : Sl), T'.Ok ∧ s'.Ok ∧ exs c 0 ssT (eS d0 T s2 s) = .ok (.nx (eS d0 T' s2 s')) := by
  obtain ⟨T1, ts, r, o1, ht, hl0, e1⟩ := t1_ok c w d0 T hT s2 s.s3 s.s4 s.s5 s.s6 s.s7 s.s8 s.s9 s.s10 s.s11 s.s12 h.h3
  obtain ⟨T2, past, later, o2, vp, vl, lp, p0, ll, hc, e2⟩ := t2_ok c w d0 T1 o1 ts r ht s2 s.s4 s.s5 s.s6 s.s7 s.s8 s.s9 s.s10 s.s11 s.s12 h.h8 h.h9
  have h6 := ht.len
  have e3 := t3_ok c w ts r ht past later (env := eL d0 T2 s2 (sv0 (predD ts r)) s.s4 s.s5 s.s6 s.s7 (sv0 (tL past)) (sv0 (tL later)) s.s10 s.s11 s.s12) rfl rfl rfl (vp.le (by decide)) (vl.le (by decide)) (by omega) (by omega) hc
  have e4 := t4_ok c w ts r ht past later (env := eL d0 T2 s2 (sv0 (predD ts r)) s.s4 s.s5 s.s6 s.s7 (sv0 (tL past)) (sv0 (tL later)) s.s10 s.s11 s.s12) rfl rfl rfl (by omega) (by omega) hc
  have e5 := t5_ok c d0 T2 s2 (sv0 (predD ts r)) s.s4 s.s5 s.s6 s.s7 (sv0 (tL past)) (sv0 (tL later)) s.s10 s.s11 s.s12 h.h4
  obtain ⟨T3, k, rows, s5', s10', o3, hk, hr, hn, f5, f10, e6⟩ := t6_ok c w d0 T2 o2 s2 (sv0 (predD ts r)) s.s5 s.s6 s.s7 (sv0 (tL past)) s.s10 s.s11 s.s12 h.h5 h.h10 later p0 ll vl
  obtain ⟨T4, more, s6', o4, f6, hr', e7⟩ := t7_ok c w d0 T3 o3 s2 (sv0 (predD ts r)) s5' s.s6 s.s7 (sv0 (tL past)) (sv0 (tL later)) s10' s.s11 s.s12 h.h6 f10 _ hr (by simp [hn])
  have e8 := t8_ok c w d0 T4 ts r ht past later k hk ll lp hc (rows ++ more) s2 s5' s6' s.s7 (sv0 (tL later)) s10' s.s11 s.s12 h.h12
  obtain ⟨s4', s7', s11', f4, f7, f11, e9⟩ := t9_ok c w d0 T4 ts r ht past vp lp s2 s5' s6' s.s7 (sv0 (tL later)) s10' s.s11 s.s12 (modL later k 1 :: rows ++ more) hr' h.h7 h.h11
  refine ⟨T4, ⟨sv0 (predD ts r), s4', s5', s6', s7', sv0 (tL past), sv0 (tL later), s10', s11', s.s12⟩, o4, ⟨fr_sv0 _, f4, f5, f6, f7, fr_sv0 _, fr_sv0 _, f10, f11, h.h12⟩, ?_⟩
  exact (exs_nx e1).trans ((exs_nx e2).trans ((exs_nx e3).trans ((exs_nx e4).trans ((exs_nx e5).trans ((exs_nx e6).trans ((exs_nx e7).trans ((exs_nx e8).trans ((exs_nx e9).trans (exs_nil _ _ _)))))))))
theorem loop19 (c : Orc) (w : LawAt c) (d0 : PyData) : ∀ (ks : List Nat) (T : Tape) (s2 : SV) (s : Sl), T.Ok → FreeS s2 → s.Ok → ∃ (T' : Tape) (s2' : SV) (s' : Sl), forL (bindT (.nm 2)) (exs c 0 ssT) (ks.map fun (k : Nat) => PyData.int (k : Int)) (eS d0 T s2 s) = .ok (.nx (eS d0 T' s2' s'))
  | [], T, s2, s, _, _, _ => ⟨T, s2, s, rfl⟩
  | k :: ks, T, s2, s, h1, h2, h3 => by
    obtain ⟨T1, s1, g1, g2, g3⟩ := turn19 c w d0 T h1 (sv0 (.int (k : Int))) s h3
    obtain ⟨T', s2', s', h⟩ := loop19 c w d0 ks T1 (sv0 (.int (k : Int))) s1 g1 (fr_sv0 _) g2
    refine ⟨T', s2', s', ?_⟩
    have hb : bindT (.nm 2) (.int (k : Int)) (eS d0 T s2 s) = some (eS d0 T (sv0 (.int k)) s) := setS_free (i := 2) (s := s2) rfl h2
    rw [List.map_cons]
    simp only [forL, hb, r_of, r_ok, g3]
    exact h
theorem b19_eq : b19 = .cons (.as (.nm 1) 1 (.call 6 none (.v (.p (.at 0)) .nil))) (.cons (.for (.nm 2) (.range (.cons (.p (.k (.int 3))) .nil)) ssT) (.cons (.ret (.p (.k (.bool true)))) .nil)) := rfl
end K49
set_option Elab.async false
set_option linter.all false
set_option maxRecDepth 100000
set_option maxHeartbeats 4000000
namespace K49
open PySem PySem.Spec PyProof.Rows L2 Fx
theorem orc_fn (p : Prg) (m f : Nat) (as : List SV) : callN p.fns p.con m f as = (p.orc m).fn f as := rfl
theorem law_run (c : Orc) (w : LawAt c) (ns : List Int) (rb : List SV) (hb : c.fn 6 [SV.sv false 0 (PyData.list (ns.map .int))] = .ok (tapeD ⟨ns, 0, 0, 0, 7, 0⟩, rb)) (hr : c.ret 6 = 1) : ∃ e, exs c 0 b19 [sv0 (.list (ns.map .int)), .un, .un, .un, .un, .un, .un, .un, .un, .un, .un, .un, .un] = .ok (.rt (.bool true) e) := by
  have hT : Tape.Ok ⟨ns, 0, 0, 0, 7, 0⟩ := by show (0 : Int) ≤ 0; decide
  obtain ⟨T', s2', s', hL⟩ := loop19 c w (.list (ns.map .int)) (List.range 3) ⟨ns, 0, 0, 0, 7, 0⟩ .un ⟨.un, .un, .un, .un, .un, .un, .un, .un, .un, .un⟩ hT (.inl rfl) ⟨.inl rfl, .inl rfl, .inl rfl, .inl rfl, .inl rfl, .inl rfl, .inl rfl, .inl rfl, .inl rfl, .inl rfl⟩
  have e1 : ev c (.call 6 none (.v (.p (.at 0)) .nil)) 1 [sv0 (.list (ns.map .int)), .un, .un, .un, .un, .un, .un, .un, .un, .un, .un, .un, .un] = .ok (tapeD ⟨ns, 0, 0, 0, 7, 0⟩, [sv0 (.list (ns.map .int)), .un, .un, .un, .un, .un, .un, .un, .un, .un, .un, .un, .un]) := by
    simp [ev, evR, evPk, evP, slot, sv0, isCont, callD, lents, argSV, permD, lentBack, hb, hr, r_of, r_ok]
    cases rb <;> rfl
  have e2 := as_ok (rk := 0) (i := 1) (s := .un) e1 rfl (.inl rfl)
  have e3 : exS c 0 (.for (.nm 2) (.range (.cons (.p (.k (.int 3))) .nil)) ssT) (eS (.list (ns.map .int)) ⟨ns, 0, 0, 0, 7, 0⟩ .un ⟨.un, .un, .un, .un, .un, .un, .un, .un, .un, .un⟩) = .ok (.nx (eS (.list (ns.map .int)) T' s2' s')) :=
    (for_it (evI_rangeN 3 (ev_k rfl) (by decide))).trans hL
  have e4 : exS c 0 (.ret (.p (.k (.bool true)))) (eS (.list (ns.map .int)) T' s2' s') = .ok (.rt (.bool true) (eS (.list (ns.map .int)) T' s2' s')) := by
    simp [exS, ev_p, evPk, evP, isCont, r_of, r_ok]
  refine ⟨eS (.list (ns.map .int)) T' s2' s', ?_⟩
  rw [b19_eq]
  exact (exs_nx e2).trans ((exs_nx e3).trans (exs_rt e4))
theorem law_true (ns : List Int) (h : ns.length ≤ 63) : ∃ r, callN prg.fns prg.con 16 19 [.sv false 0 (.list (ns.map .int))] = .ok (.bool true, r) := by
  obtain ⟨rb, hb⟩ := tape_ok 14 ns
  obtain ⟨e, g⟩ := law_run (prg.orc 15) (law_at 9) ns rb hb rfl
  refine ⟨finD e 1, ?_⟩
  have hF : (prg.orc 16).fn 19 [sv0 (.list (ns.map .int))] = .ok (.bool true, finD e 1) := by
    refine (fn_eq (p := prg) (m := 15) (i := 19) (D := d19) (as := [sv0 (.list (ns.map .int))]) rfl rfl).trans ?_
    have e0 : [sv0 (.list (ns.map .int))] ++ List.replicate (d19.F.n - [sv0 (.list (ns.map .int))].length) SV.un = [sv0 (.list (ns.map .int)), .un, .un, .un, .un, .un, .un, .un, .un, .un, .un, .un, .un] := rfl
    rw [e0, show d19.F.body = b19 from rfl, show d19.F.ret = 0 from rfl, g, r_ok]
    rfl
  exact (orc_fn prg 16 19 _).trans hF
end K49
set_option Elab.async false
set_option linter.all false
set_option maxRecDepth 100000
set_option maxHeartbeats 0

namespace K49
open PySem PySem.Spec PyProof.Rows L2 Fx
abbrev R : PySem.W.OpenRow := PySem.W.OpenLaw.row PySem.Challenge.rw_roundladder_k49_whole_differences_that_c
abbrev hk : PySem.W.Hook := hookX 5 prg.da prg.fa prg.fn
def ob (s : PySem.W.SharedT) : AlX := obsXG 5 prg.da prg.fa prg.fn (HandSHeadRun.getT s)
theorem ob_eq (s : PySem.W.SharedT) : ob s = hk.obs s.abs := obsX_eq (HandSHeadRun.getT_eq s)
def loose0 : List Str := ["divisor", "multiple", "whole_taps", "tapped", "can_differ", "_law_mixed", "_law_tape", "_law_draw", "_law_same", "_law_fr", "_law_plus", "_law_minus", "_law_of_both", "_law_round", "_law_predictor", "_law_exact", "_law_read", "_law_can_come", "_law_rows"]
def loose : List Str := loose0
theorem run (w : World) : HandSHeadRun.RunEq R (PySem.W.view R.prog [22]) hk ob 3000 loose w := by
  intro os
  kernel_rfl
end K49
open PySem PySem.W PySem.Calls PyProof.Rows
theorem PySem.Challenge.cw_roundladder_k49_whole_differences_that_c_holds : PySem.Challenge.rw_roundladder_k49_whole_differences_that_c.Holds := by
  w_on; o_law
  refine HandSHeadRun.head_any (r := OpenLaw.row PySem.Challenge.rw_roundladder_k49_whole_differences_that_c) (q := view (OpenLaw.row PySem.Challenge.rw_roundladder_k49_whole_differences_that_c).prog [22]) (H := K49.hk) (ob := K49.ob) (M := 3000) (loose := K49.loose) (d := HandSHeadRun.topDef (OpenLaw.row PySem.Challenge.rw_roundladder_k49_whole_differences_that_c).prog 22) (kwd := []) K49.ob_eq
    (by kernel_rfl) (fun s => by kernel_rfl) K49.run (by kernel_rfl) (by kernel_rfl) (by kernel_rfl) (by rfl) (by first | assumption | decide +kernel) (by decide +kernel) ⟨rfl, rfl, rfl, rfl, rfl, by decide +kernel⟩ ?hw ?hc
  case hw => w_witness2
  case hc =>
    refine LamX.walk_ofTsE (l := PySem.Challenge.rw_roundladder_k49_whole_differences_that_c) (n := 63) (k := 16) (x := "script") (CX := fun _ => L2.CX0) rfl (by decide) (by kernel_rfl) ⟨rfl, by decide, by decide⟩ ?F (fun _ _ _ _ _ z => z)
    intro w mg fa h Y G hmg0
    obtain ⟨K, T, KX, TX, c⟩ := Y
    have hmg : mg K49.d19.x = some (.ref fa) := by
      have e : (HandSHeadRun.topDef (OpenLaw.row PySem.Challenge.rw_roundladder_k49_whole_differences_that_c).prog 22).name = K49.d19.x := by kernel_rfl
      rw [← e]
      exact hmg0
    exact ⟨K, KX, Fx.law_facts (l := PySem.Challenge.rw_roundladder_k49_whole_differences_that_c) (w := w) K49.prg_ok (i := 19) (m := 16) (D := K49.d19) rfl rfl K49.law_true KX TX G hmg c⟩
