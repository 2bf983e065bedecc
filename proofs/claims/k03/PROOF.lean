import PyProof.Rows.All
import Wide.All
import OpenK.AllK
import Wide.FinOn
import PySem.Challenge.RW_heardweights_k03_whole_beliefs_of_two_se
import HandS.ForMost
import HandS.Nested
import HandS.IsInst
import HandS.Gcd
import HandS.Wide
import HandS.WideBits
import HandS.TupAny
import HandS.ExcInit
import HandS.HeadHook1
import HandS.Conv
import HandS.Zip
import HandS.SortInts
import KE.KSortedAny
import HandS.Defaults
import HandS.HeadHook2
import KE.SortData
import KE.DataCmp
import KE.KDictZip
import PyProof.CollectWalk
import PyProof.TupleOfGen
import HandS.DictTup
import KE.GoesNew
import KE.GoesEnum
import PyProof.StrOps2
import HandS.TupMul
import HandS.HeadHook4
import HandS.Set
import HandS.SetFor
import HandS.SetTxt0
import HandS.HeadWalk
import HandS.HeadEnd
import HandS.NestedK
import KE.KNestM
import HandS.Dict
import HandS.Head0
import HandS.Head1
import HandS.Head2
import HandS.Head3
set_option Elab.async false
section
set_option linter.all false
set_option maxRecDepth 100000
set_option maxHeartbeats 4000000
/-! P1: data told as PyData, what may be seen of the heap, cells (mutable lists that one frame owns or borrows). -/
namespace PD
open PySem PySem.Spec PyProof.Rows L2

abbrev D := PyData
def keyD : Key → D
  | .inl i => .int i
  | .inr s => .str s
/-- at a: an exception of the module's class nm, its fields fs -/
def excAt (K : PySem.W.Frag) (H : Hp) (a : Addr) (nm : Str) (fs : List (Str × V)) : Prop := ∃ od : Option Addr, H a = some (exo a (He.ga K nm) od) ∧ ((od = none ∧ fs = []) ∨ ∃ dx, od = some dx ∧ H dx = some (exd dx fs))
mutual
/-- the value v is the datum, by the (visible part of the) heap; an exception is told as a dict with a key None: its class's name, its fields -/
def Rp (K : PySem.W.Frag) (H : Hp) (v : V) : D → Prop
  | .none => v = .non
  | .bool b => v = .bl b
  | .int i => v = .int i
  | .str s => v = .str s
  | .list ds => ∃ a xs, v = .ref a ∧ Rd H a (.lst xs) ∧ RpA K H xs ds
  | .tuple ds => ∃ a xs, v = .ref a ∧ SqT K H a xs ∧ RpA K H xs ds
  | .dict kvs => ∃ a, v = .ref a ∧
      ((∃ ps : List (Key × V), H a = some (.dK ps) ∧ ps.map (fun p => keyD p.1) = kvs.map (·.1) ∧ RpP K H (ps.map (·.2)) kvs) ∨
       (∃ ps : List (List Key × V), H a = some (.dT ps) ∧ ps.map (fun p => PyData.tuple (p.1.map keyD)) = kvs.map (·.1) ∧ RpP K H (ps.map (·.2)) kvs) ∨
       ∃ (nm : Str) (fs : List (Str × V)), excAt K H a nm fs ∧ PyData.none :: fs.map (fun p => PyData.str p.1) = kvs.map (·.1) ∧ RpP K H (.str nm :: fs.map (·.2)) kvs)
def RpA (K : PySem.W.Frag) (H : Hp) (vs : List V) : List D → Prop
  | [] => vs = []
  | d :: ds => ∃ v r, vs = v :: r ∧ Rp K H v d ∧ RpA K H r ds
def RpP (K : PySem.W.Frag) (H : Hp) (vs : List V) : List (D × D) → Prop
  | [] => vs = []
  | (_, d) :: ds => ∃ v r, vs = v :: r ∧ Rp K H v d ∧ RpP K H r ds
end

/-! ### more of the heap, more to be seen -/
abbrev XT (H H' : Hp) : Prop := LamX.ExtN H H'
theorem XT.rd {H H' : Hp} (e : XT H H') {a : Addr} {u : HO} (h : Rd H a u) (n : ∀ ps, u ≠ .tbl ps) : Rd H' a u := by
  rcases h with h | ⟨o, h⟩
  · exact .inl (e _ _ h n)
  · exact .inr ⟨o, e _ _ h (fun ps z => by cases z)⟩
theorem XT.sqT {K : PySem.W.Frag} {H H' : Hp} (e : XT H H') {a : Addr} {xs : List V} (h : SqT K H a xs) : SqT K H' a xs := by
  rcases h with h | h
  · exact .inl (e.rd h fun ps z => by cases z)
  · exact .inr h
theorem exd_tbl {e : Addr} {fs : List (Str × V)} {ps : Array Value} : exd e fs ≠ .tbl ps := fun z => by
  unfold exd at z
  cases z
theorem excAt.xt {K : PySem.W.Frag} {H H' : Hp} {a : Addr} {nm : Str} {fs : List (Str × V)} (x : excAt K H a nm fs) (e : XT H H') : excAt K H' a nm fs := by
  obtain ⟨od, h1, h2⟩ := x
  refine ⟨od, e _ _ h1 (fun ps => exo_tbl), h2.imp id ?_⟩
  rintro ⟨dx, e1, e2⟩
  exact ⟨dx, e1, e _ _ e2 (fun ps => exd_tbl)⟩
section
variable {K : PySem.W.Frag} {H H' : Hp} (e : XT H H')
include e
mutual
theorem Rp.mono : ∀ (d : D) (v : V), Rp K H v d → Rp K H' v d
  | .none, _, h => h
  | .bool _, _, h => h
  | .int _, _, h => h
  | .str _, _, h => h
  | .list ds, _, ⟨a, xs, e1, h1, h2⟩ => ⟨a, xs, e1, e.rd h1 (fun ps z => by cases z), RpA.mono ds _ h2⟩
  | .tuple ds, _, ⟨a, xs, e1, h1, h2⟩ => ⟨a, xs, e1, e.sqT h1, RpA.mono ds _ h2⟩
  | .dict kvs, _, ⟨a, e1, h⟩ => ⟨a, e1, h.elim (fun ⟨ps, h1, h2, h3⟩ => .inl ⟨ps, e _ _ h1 (fun ps z => by cases z), h2, RpP.mono kvs _ h3⟩)
      (fun h => .inr (h.elim (fun ⟨ps, h1, h2, h3⟩ => .inl ⟨ps, e _ _ h1 (fun ps z => by cases z), h2, RpP.mono kvs _ h3⟩)
        fun ⟨nm, fs, h1, h2, h3⟩ => .inr ⟨nm, fs, h1.xt e, h2, RpP.mono kvs _ h3⟩))⟩
theorem RpA.mono : ∀ (ds : List D) (vs : List V), RpA K H vs ds → RpA K H' vs ds
  | [], _, h => h
  | d :: ds, _, ⟨v, r, e1, h1, h2⟩ => ⟨v, r, e1, Rp.mono d v h1, RpA.mono ds r h2⟩
theorem RpP.mono : ∀ (ds : List (D × D)) (vs : List V), RpP K H vs ds → RpP K H' vs ds
  | [], _, h => h
  | (_, d) :: ds, _, ⟨v, r, e1, h1, h2⟩ => ⟨v, r, e1, Rp.mono d v h1, RpP.mono ds r h2⟩
end
end

/-! ### data without lists and dicts: no cell can touch them -/
mutual
def flat : D → Bool
  | .none => true
  | .bool _ => true
  | .int _ => true
  | .str _ => true
  | .list _ => false
  | .tuple ds => flatA ds
  | .dict _ => false
def flatA : List D → Bool
  | [] => true
  | d :: ds => flat d && flatA ds
end
/-- tuples are seen in H' as in H -/
def TuS (H H' : Hp) : Prop := ∀ a xs, Rd H a (.tup xs) → Rd H' a (.tup xs)
section
variable {K : PySem.W.Frag} {H H' : Hp} (e : TuS H H')
include e
mutual
theorem Rp.ofFlat : ∀ (d : D) (v : V), flat d = true → Rp K H v d → Rp K H' v d
  | .none, _, _, h => h
  | .bool _, _, _, h => h
  | .int _, _, _, h => h
  | .str _, _, _, h => h
  | .list _, _, f, _ => by simp [flat] at f
  | .tuple ds, _, f, ⟨a, xs, e1, h1, h2⟩ => ⟨a, xs, e1, h1.elim (fun z => .inl (e _ _ z)) .inr, RpA.ofFlat ds _ (by simpa [flat] using f) h2⟩
  | .dict _, _, f, _ => by simp [flat] at f
theorem RpA.ofFlat : ∀ (ds : List D) (vs : List V), flatA ds = true → RpA K H vs ds → RpA K H' vs ds
  | [], _, _, h => h
  | d :: ds, _, f, ⟨v, r, e1, h1, h2⟩ => by
    have f' : flat d = true ∧ flatA ds = true := by simpa [flatA] using f
    exact ⟨v, r, e1, Rp.ofFlat d v f'.1 h1, RpA.ofFlat ds r f'.2 h2⟩
end
end
theorem RpA.length {K : PySem.W.Frag} {H : Hp} : ∀ {ds : List D} {vs : List V}, RpA K H vs ds → vs.length = ds.length
  | [], _, h => by rw [show _ = [] from h]; rfl
  | d :: ds, _, ⟨v, r, e1, h1, h2⟩ => by rw [e1, List.length_cons, List.length_cons, RpA.length h2]
theorem RpA.get {K : PySem.W.Frag} {H : Hp} : ∀ {ds : List D} {vs : List V} {i : Nat} {d : D}, RpA K H vs ds → ds[i]? = some d → ∃ v, vs[i]? = some v ∧ Rp K H v d
  | [], _, i, d, _, h => by simp at h
  | d :: ds, _, 0, _, ⟨v, r, e1, h1, h2⟩, h => by
    simp at h
    subst h
    exact ⟨v, by rw [e1]; rfl, h1⟩
  | d :: ds, _, i + 1, d', ⟨v, r, e1, h1, h2⟩, h => by
    obtain ⟨w, a, b⟩ := RpA.get (i := i) (d := d') h2 (by simpa using h)
    exact ⟨w, by rw [e1]; simpa using a, b⟩
theorem RpA.app {K : PySem.W.Frag} {H : Hp} : ∀ {ds : List D} {vs : List V} {es : List D} {ws : List V}, RpA K H vs ds → RpA K H ws es → RpA K H (vs ++ ws) (ds ++ es)
  | [], _, _, _, h, g => by rw [show _ = [] from h]; exact g
  | d :: ds, _, _, _, ⟨v, r, e1, h1, h2⟩, g => ⟨v, r ++ _, by rw [e1]; rfl, h1, RpA.app h2 g⟩
theorem RpA.one {K : PySem.W.Frag} {H : Hp} {v : V} {d : D} (h : Rp K H v d) : RpA K H [v] [d] := ⟨v, [], rfl, h, rfl⟩
theorem RpA.take {K : PySem.W.Frag} {H : Hp} : ∀ (n : Nat) {ds : List D} {vs : List V}, RpA K H vs ds → RpA K H (vs.take n) (ds.take n)
  | 0, _, _, _ => by simp [RpA]
  | n + 1, [], _, h => by rw [show _ = [] from h]; simp [RpA]
  | n + 1, d :: ds, _, ⟨v, r, e1, h1, h2⟩ => by rw [e1]; exact ⟨v, r.take n, rfl, h1, RpA.take n h2⟩
theorem RpA.drop {K : PySem.W.Frag} {H : Hp} : ∀ (n : Nat) {ds : List D} {vs : List V}, RpA K H vs ds → RpA K H (vs.drop n) (ds.drop n)
  | 0, _, _, h => h
  | n + 1, [], _, h => by rw [show _ = [] from h]; simp [RpA]
  | n + 1, d :: ds, _, ⟨v, r, e1, h1, h2⟩ => by rw [e1]; exact RpA.drop n h2
theorem RpA.rev {K : PySem.W.Frag} {H : Hp} : ∀ {ds : List D} {vs : List V}, RpA K H vs ds → RpA K H vs.reverse ds.reverse
  | [], _, h => by rw [show _ = [] from h]; simp [RpA]
  | d :: ds, _, ⟨v, r, e1, h1, h2⟩ => by rw [e1, List.reverse_cons, List.reverse_cons]; exact RpA.app (RpA.rev h2) (RpA.one h1)
theorem RpA.set {K : PySem.W.Frag} {H : Hp} {v : V} {d : D} (h : Rp K H v d) : ∀ (j : Nat) {ds : List D} {vs : List V}, RpA K H vs ds → RpA K H (vs.set j v) (ds.set j d)
  | _, [], _, h => by rw [show _ = [] from h]; simp [RpA]
  | 0, _ :: ds, _, ⟨v, r, e1, h1, h2⟩ => by rw [e1]; exact ⟨_, r, rfl, h, h2⟩
  | j + 1, _ :: ds, _, ⟨v, r, e1, h1, h2⟩ => by rw [e1]; exact ⟨v, _, rfl, h1, RpA.set h j h2⟩

/-! ### what is hidden -/
noncomputable def hid (H : Hp) (Z : Addr → Prop) : Hp := fun a => open Classical in if Z a then none else H a
theorem hid_of {H : Hp} {Z : Addr → Prop} {a : Addr} (n : ¬ Z a) : hid H Z a = H a := by unfold hid; rw [if_neg n]
theorem of_hid {H : Hp} {Z : Addr → Prop} {a : Addr} {o : HO} (h : hid H Z a = some o) : H a = some o ∧ ¬ Z a := by
  by_cases z : Z a
  · unfold hid at h; rw [if_pos z] at h; cases h
  · rw [hid_of z] at h; exact ⟨h, z⟩
theorem hid_rd {H : Hp} {Z : Addr → Prop} {a : Addr} {u : HO} (h : Rd (hid H Z) a u) : Rd H a u ∧ ¬ Z a := by
  rcases h with h | ⟨o, h⟩
  · exact ⟨.inl (of_hid h).1, (of_hid h).2⟩
  · exact ⟨.inr ⟨o, (of_hid h).1⟩, (of_hid h).2⟩
theorem hid_rd_of {H : Hp} {Z : Addr → Prop} {a : Addr} {u : HO} (h : Rd H a u) (n : ¬ Z a) : Rd (hid H Z) a u := by
  unfold Rd
  rw [hid_of n]
  exact h
theorem hid_sqT {K : PySem.W.Frag} {H : Hp} {Z : Addr → Prop} {a : Addr} {xs : List V} (h : SqT K (hid H Z) a xs) : SqT K H a xs := h.elim (fun z => .inl (hid_rd z).1) .inr
theorem hid_xt (H : Hp) (Z : Addr → Prop) : XT (hid H Z) H := fun _ _ h _ => (of_hid h).1
theorem hid_le {H : Hp} {Z Z' : Addr → Prop} (h : ∀ a, Z' a → Z a) : XT (hid H Z) (hid H Z') := fun a o e _ => by
  have q := of_hid e
  rw [hid_of (fun z => q.2 (h a z))]
  exact q.1
/-- not tracked, or a table -/
def Fr (H : Hp) (a : Addr) : Prop := H a = none ∨ ∃ ps, H a = some (.tbl ps)
theorem fr_up {H : Hp} {a x : Addr} {o : HO} (ho : ∀ ps, o ≠ .tbl ps) (f : Fr (upd H a o) x) : Fr H x := by
  unfold Fr at f ⊢
  by_cases h : x = a
  · rw [h, upd_same] at f
    rcases f with f | ⟨ps, f⟩
    · cases f
    · exact absurd (Option.some.inj f) (ho ps)
  · rw [upd_ne h] at f; exact f
theorem fr_not {H : Hp} {a : Addr} {o : HO} (e : H a = some o) (t : ∀ ps, o ≠ .tbl ps) (f : Fr H a) : False := by
  rcases f with f | ⟨ps, f⟩ <;> rw [e] at f
  · cases f
  · exact t ps (Option.some.inj f)
/-- nothing outside W is changed; what is tracked stays tracked -/
structure Fw (W : Addr → Prop) (H H' : Hp) : Prop where
  keep : ∀ a o, H a = some o → ¬ W a → (∀ ps, o ≠ .tbl ps) → H' a = some o
  there : ∀ a, Fr H' a → Fr H a
theorem Fw.refl (W : Addr → Prop) (H : Hp) : Fw W H H := ⟨fun _ _ h _ _ => h, fun _ h => h⟩
theorem Fw.trans {W : Addr → Prop} {H H1 H2 : Hp} (a : Fw W H H1) (b : Fw W H1 H2) : Fw W H H2 := ⟨fun c o h n t => b.keep c o (a.keep c o h n t) n t, fun c h => a.there c (b.there c h)⟩
theorem Fw.mono {W W' : Addr → Prop} {H H1 : Hp} (a : Fw W H H1) (h : ∀ x, W x → W' x) : Fw W' H H1 := ⟨fun c o e n t => a.keep c o e (fun z => n (h c z)) t, a.there⟩
theorem Fw.same {W : Addr → Prop} {H H1 : Hp} (h : Same H H1) : Fw W H H1 := ⟨fun c o e _ _ => h c o e, fun c e => by
  unfold Fr at e ⊢
  cases q : H c with
  | none => exact .inl rfl
  | some o => rw [h c o q] at e; exact e⟩
theorem Fw.xt {W Z : Addr → Prop} {H H' : Hp} (f : Fw W H H') (h : ∀ a, W a → Z a) : XT (hid H Z) (hid H' Z) := fun a o e t => by
  have q := of_hid e
  rw [hid_of q.2]
  exact f.keep a o q.1 (fun z => q.2 (h a z)) t
theorem Same.xt {Z : Addr → Prop} {H H' : Hp} (f : Same H H') : XT (hid H Z) (hid H' Z) := fun a o e _ => by
  have q := of_hid e
  rw [hid_of q.2]
  exact f a o q.1

/-! ### cells, slots, the state of a frame -/
inductive Cell where
  | lst (xs : List D) | dct (kvs : List (Str × D))
/-- what a cell is in the heap: a list, a dict -/
def cellO : HO → Bool
  | .lst _ => true
  | .dK _ => true
  | _ => false
def keyed (ks : List Str) (ws : List V) : List (Key × V) := List.zipWith (fun k w => (.inr k, w)) ks ws
def CellAt (K : PySem.W.Frag) (Hv H : Hp) (a : Addr) : Cell → Prop
  | .lst xs => ∃ vs, H a = some (.lst vs) ∧ RpA K Hv vs xs
  | .dct kvs => ∃ ws, H a = some (.dK (keyed (kvs.map (·.1)) ws)) ∧ RpA K Hv ws (kvs.map (·.2))
def flatC : Cell → Bool
  | .lst xs => flatA xs
  | .dct kvs => flatA (kvs.map (·.2))
inductive Slot where
  | non | val (d : D) | own (k : Nat) | fn (G : List D → Option D)
/-- what a value may do that is no datum -/
structure Fx where
  rel : Hp → V → (List D → Option D) → Prop
  mono : ∀ {H H' : Hp} {v : V} {G : List D → Option D}, XT H H' → rel H v G → rel H' v G
def SlotAt (K : PySem.W.Frag) (Φ : Fx) (Hv : Hp) (A : List Addr) (o : Option (Option V)) : Slot → Prop
  | .non => True
  | .val d => ∃ v, o = some (some v) ∧ Rp K Hv v d
  | .own k => ∃ a, A[k]? = some a ∧ o = some (some (.ref a))
  | .fn G => ∃ v, o = some (some v) ∧ Φ.rel Hv v G
/-- the frame's slots σ are the data ρ, the cells at A hold μ; Z: what the callers hide -/
structure Rep (K : PySem.W.Frag) (T : List (Addr × Str)) (Φ : Fx) (A : List Addr) (Z : Addr → Prop) (σ : L2.St) (H : Hp) (ρ : List Slot) (μ : List Cell) : Prop where
  len : ρ.length = σ.length
  alen : A.length = μ.length
  nd : A.Nodup
  zo : ∀ a, Z a → a ∉ A ∧ ¬ Fr H a
  tabs : LamX.Tabs T H
  cell : ∀ (k : Nat) (c : Cell) (a : Addr), μ[k]? = some c → A[k]? = some a → CellAt K (hid H fun a => Z a ∨ a ∈ A) H a c
  slot : ∀ (i : Nat) (s : Slot), ρ[i]? = some s → SlotAt K Φ (hid H fun a => Z a ∨ a ∈ A) A σ[i]? s
/-- the cell k is read as a value by names that B lets -/
def Bo (B : Nat → Bool) (ρ : List Slot) (k : Nat) : Prop := ∃ i, B i = true ∧ ρ[i]? = some (.own k)
def Wr (B : Nat → Bool) (ρ : List Slot) (A : List Addr) (a : Addr) : Prop := ∃ k, A[k]? = some a ∧ ¬ Bo B ρ k
abbrev Zw (B : Nat → Bool) (ρ : List Slot) (A : List Addr) (Z : Addr → Prop) (a : Addr) : Prop := Z a ∨ Wr B ρ A a
theorem Wr.mem {B : Nat → Bool} {ρ : List Slot} {A : List Addr} {a : Addr} (h : Wr B ρ A a) : a ∈ A := let ⟨_, e, _⟩ := h; List.mem_of_getElem? e
theorem CellAt.xt {K : PySem.W.Frag} {Hv Hv' H H' : Hp} {a : Addr} {c : Cell} (h : CellAt K Hv H a c) (e : XT Hv Hv') (ea : ∀ o, H a = some o → (∀ ps, o ≠ .tbl ps) → H' a = some o) : CellAt K Hv' H' a c := by
  cases c with
  | lst xs => obtain ⟨vs, h1, h2⟩ := h; exact ⟨vs, ea _ h1 (fun ps z => by cases z), RpA.mono e _ _ h2⟩
  | dct xs => obtain ⟨vs, h1, h2⟩ := h; exact ⟨vs, ea _ h1 (fun ps z => by cases z), RpA.mono e _ _ h2⟩
theorem SlotAt.xt {K : PySem.W.Frag} {Φ : Fx} {Hv Hv' : Hp} {A : List Addr} {o : Option (Option V)} {s : Slot} (h : SlotAt K Φ Hv A o s) (e : XT Hv Hv') : SlotAt K Φ Hv' A o s := by
  cases s with
  | non => trivial
  | val d => obtain ⟨v, h1, h2⟩ := h; exact ⟨v, h1, Rp.mono e _ _ h2⟩
  | own k => exact h
  | fn G => obtain ⟨v, h1, h2⟩ := h; exact ⟨v, h1, Φ.mono e h2⟩
/-- the heap grew -/
theorem Rep.same {K : PySem.W.Frag} {T : List (Addr × Str)} {Φ : Fx} {A : List Addr} {Z : Addr → Prop} {σ : L2.St} {H H' : Hp} {ρ : List Slot} {μ : List Cell} (R : Rep K T Φ A Z σ H ρ μ) (h : Same H H') : Rep K T Φ A Z σ H' ρ μ where
  len := R.len
  alen := R.alen
  nd := R.nd
  zo := fun a z => ⟨(R.zo a z).1, fun e => (R.zo a z).2 ((Fw.same (W := fun _ => True) h).there a e)⟩
  tabs := R.tabs.ext h
  cell := fun k c a e1 e2 => (R.cell k c a e1 e2).xt (Same.xt h) fun o e _ => h _ _ e
  slot := fun i s e => (R.slot i s e).xt (Same.xt h)
end PD
end
section
set_option linter.all false
set_option maxRecDepth 100000
set_option maxHeartbeats 4000000
/-! P2: expressions, tests, argument lists by what they mean over data. -/
namespace PD
open PySem PySem.Spec PyProof.Rows L2

abbrev ME := List Slot → List Cell → Option (D × List Cell)
abbrev MT := List Slot → List Cell → Option (Bool × List Cell)
abbrev MA := List Slot → List Cell → Option (List D × List Cell)

section
variable {K : PySem.W.Frag} {T : List (Addr × Str)} {Φ : Fx} {A : List Addr} {Z : Addr → Prop} {σ : L2.St} {H H' : Hp} {ρ : List Slot} {μ : List Cell} {B : Nat → Bool}
theorem Rep.cellAt (R : Rep K T Φ A Z σ H ρ μ) {a : Addr} (h : a ∈ A) : ∃ o, H a = some o ∧ cellO o = true := by
  obtain ⟨k, hk⟩ := List.mem_iff_getElem?.mp h
  have hl : k < μ.length := by rw [← R.alen]; exact (List.getElem?_eq_some_iff.mp hk).1
  have q := R.cell k μ[k] a (List.getElem?_eq_getElem hl) hk
  cases e : μ[k] with
  | lst xs => rw [e] at q; obtain ⟨vs, h1, _⟩ := q; exact ⟨_, h1, rfl⟩
  | dct xs => rw [e] at q; obtain ⟨vs, h1, _⟩ := q; exact ⟨_, h1, rfl⟩
theorem Rep.tracked (R : Rep K T Φ A Z σ H ρ μ) : ∀ a, Zw B ρ A Z a → H a ≠ none := fun a z => by
  rcases z with z | z
  · exact fun e => (R.zo a z).2 (.inl e)
  · obtain ⟨vs, e, _⟩ := R.cellAt z.mem
    rw [e]; intro q; cases q
theorem Rep.trackF (R : Rep K T Φ A Z σ H ρ μ) : ∀ a, Zw B ρ A Z a → ¬ Fr H a := fun a z => by
  rcases z with z | z
  · exact (R.zo a z).2
  · obtain ⟨vs, e, co⟩ := R.cellAt z.mem
    exact fun q => fr_not e (fun ps z => by rw [z] at co; cases co) q
theorem zw_le {a : Addr} (h : Zw B ρ A Z a) : Z a ∨ a ∈ A := h.elim .inl fun z => .inr z.mem
/-- fewer are hidden from what is read here than from what stands in a slot -/
theorem Rep.see (H : Hp) : XT (hid H fun a => Z a ∨ a ∈ A) (hid H (Zw B ρ A Z)) := hid_le fun _ h => zw_le h
theorem fw_xt (f : Fw (Wr B ρ A) H H') : XT (hid H (Zw B ρ A Z)) (hid H' (Zw B ρ A Z)) := f.xt fun _ h => .inr h
end

def tE (K : PySem.W.Frag) (T : List (Addr × Str)) (Φ : Fx) (B : Nat → Bool) (m : ME) : TE := fun σ H Q => ∃ A Z ρ μ d μ', Rep K T Φ A Z σ H ρ μ ∧ m ρ μ = some (d, μ') ∧
  ∀ v H', Fw (Wr B ρ A) H H' → Rep K T Φ A Z σ H' ρ μ' → Rp K (hid H' (Zw B ρ A Z)) v d → Q v H'
def tT (K : PySem.W.Frag) (T : List (Addr × Str)) (Φ : Fx) (B : Nat → Bool) (m : MT) : TT := fun σ H Q => ∃ A Z ρ μ d μ', Rep K T Φ A Z σ H ρ μ ∧ m ρ μ = some (d, μ') ∧
  ∀ H', Fw (Wr B ρ A) H H' → Rep K T Φ A Z σ H' ρ μ' → Q d H'
def tA (K : PySem.W.Frag) (T : List (Addr × Str)) (Φ : Fx) (B : Nat → Bool) (m : MA) : TA := fun σ H Q => ∃ A Z ρ μ ds μ', Rep K T Φ A Z σ H ρ μ ∧ m ρ μ = some (ds, μ') ∧
  ∀ vs H', Fw (Wr B ρ A) H H' → Rep K T Φ A Z σ H' ρ μ' → RpA K (hid H' (Zw B ρ A Z)) vs ds → Q vs H'
abbrev PDe (X : Cx) (T : List (Addr × Str)) (Φ : Fx) (B : Nat → Bool) (e : Expr) (m : ME) : Prop := PE X e (tE X.K T Φ B m)
abbrev PDt (X : Cx) (T : List (Addr × Str)) (Φ : Fx) (B : Nat → Bool) (e : Expr) (m : MT) : Prop := PT X e (tT X.K T Φ B m)
abbrev PDw (X : Cx) (T : List (Addr × Str)) (Φ : Fx) (B : Nat → Bool) (e : Expr) (m : MT) : Prop := PW X e (tT X.K T Φ B m)
abbrev PDa (X : Cx) (T : List (Addr × Str)) (Φ : Fx) (B : Nat → Bool) (es : List Expr) (m : MA) : Prop := PA X es (tA X.K T Φ B m)

theorem PE.cons {X : Cx} {e : Expr} {t t' : TE} (h : PE X e t) (hc : ∀ σ H Q, t' σ H Q → t σ H Q) : PE X e t' := ⟨fun pins s σ H Q I q => h.run pins s σ H Q I (hc σ H Q q)⟩
theorem PT.cons {X : Cx} {e : Expr} {t t' : L2.TT} (h : PT X e t) (hc : ∀ σ H Q, t' σ H Q → t σ H Q) : PT X e t' := ⟨fun pins s σ H Q I q => h.run pins s σ H Q I (hc σ H Q q)⟩
theorem PW.cons {X : Cx} {e : Expr} {t t' : L2.TT} (h : PW X e t) (hc : ∀ σ H Q, t' σ H Q → t σ H Q) : PW X e t' := ⟨fun wh pins s σ H Q I q => h.run wh pins s σ H Q I (hc σ H Q q)⟩
theorem PA.cons {X : Cx} {es : List Expr} {t t' : TA} (h : PA X es t) (hc : ∀ σ H Q, t' σ H Q → t σ H Q) : PA X es t' := ⟨fun pos pins s σ H Q I q => h.run pos pins s σ H Q I (hc σ H Q q)⟩

/-! ### what the operators mean -/
abbrev G1 := D → Option D
abbrev G2 := D → D → Option D
abbrev GL := List D → Option D
/-- the layer's rule r does g -/
def RD1 (K : PySem.W.Frag) (r : V → Hp → VK → Prop) (g : G1) : Prop := ∀ (H : Hp) (Z : Addr → Prop) (x : V) (d1 d : D) (Q : VK), (∀ a, Z a → H a ≠ none) → Rp K (hid H Z) x d1 → g d1 = some d →
  (∀ v H', Same H H' → Rp K (hid H' Z) v d → Q v H') → r x H Q
def RD (K : PySem.W.Frag) (r : R2) (g : G2) : Prop := ∀ (H : Hp) (Z : Addr → Prop) (x y : V) (d1 d2 d : D) (Q : VK), (∀ a, Z a → H a ≠ none) → Rp K (hid H Z) x d1 → Rp K (hid H Z) y d2 → g d1 d2 = some d →
  (∀ v H', Same H H' → Rp K (hid H' Z) v d → Q v H') → r x y H Q
def RL (K : PySem.W.Frag) (r : List V → Hp → VK → Prop) (g : GL) : Prop := ∀ (H : Hp) (Z : Addr → Prop) (xs : List V) (ds : List D) (d : D) (Q : VK), (∀ a, Z a → H a ≠ none) → RpA K (hid H Z) xs ds → g ds = some d →
  (∀ v H', Same H H' → Rp K (hid H' Z) v d → Q v H') → r xs H Q
/-- the same of a test -/
def RDt (K : PySem.W.Frag) (r : V → Hp → (Bool → Hp → Prop) → Prop) (g : D → Option Bool) : Prop := ∀ (H : Hp) (Z : Addr → Prop) (x : V) (d1 : D) (b : Bool) (Q : Bool → Hp → Prop), Rp K (hid H Z) x d1 → g d1 = some b → Q b H → r x H Q

def eC (d : D) : ME := fun _ μ => some (d, μ)
def eVar (i : Nat) : ME := fun ρ μ => match ρ[i]? with
  | some (.val d) => some (d, μ)
  | _ => none
def eOwn (i : Nat) : ME := fun ρ μ => match ρ[i]? with
  | some (.own k) => match μ[k]? with
    | some (.lst xs) => some (.list xs, μ)
    | _ => none
  | _ => none
def e1 (g : G1) (a : ME) : ME := fun ρ μ => (a ρ μ).bind fun p => (g p.1).map fun d => (d, p.2)
def e2 (g : G2) (a b : ME) : ME := fun ρ μ => (a ρ μ).bind fun p => (b ρ p.2).bind fun q => (g p.1 q.1).map fun d => (d, q.2)
def eL (g : GL) (a : MA) : ME := fun ρ μ => (a ρ μ).bind fun p => (g p.1).map fun d => (d, p.2)
def aN : MA := fun _ μ => some ([], μ)
def aC (a : ME) (r : MA) : MA := fun ρ μ => (a ρ μ).bind fun p => (r ρ p.2).map fun q => (p.1 :: q.1, q.2)
def eIf (t : MT) (a b : ME) : ME := fun ρ μ => (t ρ μ).bind fun p => if p.1 = true then a ρ p.2 else b ρ p.2
def gBool : D → Option Bool
  | .bool b => some b
  | _ => none
def tV (a : ME) : MT := fun ρ μ => (a ρ μ).bind fun p => (gBool p.1).map fun b => (b, p.2)
def tAnd (a b : MT) : MT := fun ρ μ => (a ρ μ).bind fun p => if p.1 = true then b ρ p.2 else some (false, p.2)
def tOr (a b : MT) : MT := fun ρ μ => (a ρ μ).bind fun p => if p.1 = true then some (true, p.2) else b ρ p.2
def tNot (a : MT) : MT := fun ρ μ => (a ρ μ).map fun p => (!p.1, p.2)
/-- and, or, not as values: bools alone -/
def eAnd (a b : ME) : ME := fun ρ μ => (a ρ μ).bind fun p => (gBool p.1).bind fun c => if c = true then b ρ p.2 else some (.bool false, p.2)
def eOr (a b : ME) : ME := fun ρ μ => (a ρ μ).bind fun p => (gBool p.1).bind fun c => if c = true then some (.bool true, p.2) else b ρ p.2
def eNot (a : ME) : ME := fun ρ μ => (a ρ μ).bind fun p => (gBool p.1).map fun c => (.bool (!c), p.2)

section
variable {X : Cx} {T : List (Addr × Str)} {Φ : Fx} {B : Nat → Bool} {a b c : Expr} {es : List Expr} {ma mb mc : ME} {mas : MA} {mt mu : MT} {pos : Pos}

theorem same_fw {W : Addr → Prop} {H H' : Hp} (h : Same H H') : Fw W H H' := Fw.same h
theorem pd_of_const {e : Expr} {v : V} {d : D} (h : PE X e (tC v)) (hp : ∀ H, Rp X.K H v d) : PDe X T Φ B e (eC d) := PE.cons h fun σ H Q ⟨A, Z, ρ, μ, d', μ', R, hm, k⟩ => by
  cases hm
  exact k v H (Fw.refl _ _) R (hp _)
theorem pd_int {i : Int} {j : Nat} : PDe X T Φ B (.Constant (.int i) j pos) (eC (.int i)) := pd_of_const pe_int fun _ => rfl
theorem pd_bl {i : Bool} {j : Nat} : PDe X T Φ B (.Constant (.bool i) j pos) (eC (.bool i)) := pd_of_const pe_bl fun _ => rfl
theorem pd_non {j : Nat} : PDe X T Φ B (.Constant .none j pos) (eC .none) := pd_of_const pe_non fun _ => rfl
theorem pd_str {x : Str} {j : Nat} : PDe X T Φ B (.Constant (.str x) j pos) (eC (.str x)) := pd_of_const pe_str fun _ => rfl
theorem pd_glob {x : Str} {v : V} {u : Value} {d : D} (hg : Gl X x) (hm : X.mg x = some u) (r : RelV v u) (hp : ∀ H, Rp X.K H v d) (hd : (x == ("__debug__" : Str)) = false := by decide) : PDe X T Φ B (.Name x pos) (eC d) := pd_of_const (pe_glob hg hm r hd) hp
theorem pd_var (i : Nat) {x : Str} (hN : X.N[i]? = some x := by rfl) (hv : Vis X.env.scope x := by first | exact Or.inl rfl | exact Or.inr (Or.inl rfl) | exact Or.inr (Or.inr rfl)) (hd : (x == ("__debug__" : Str)) = false := by decide)
    (hcd : (x == ("__classdict__" : Str)) = false := by decide) : PDe X T Φ B (.Name x pos) (eVar i) := PE.cons (pe_var hN hv hd hcd) fun σ H Q ⟨A, Z, ρ, μ, d, μ', R, hm, k⟩ => by
  unfold eVar at hm
  split at hm
  · rename_i d' e
    cases hm
    obtain ⟨v, h1, h2⟩ := R.slot i _ e
    exact ⟨v, h1, k v H (Fw.refl _ _) R (Rp.mono (Rep.see H) _ _ h2)⟩
  · cases hm
theorem pd_own (i : Nat) {x : Str} (hB : B i = true := by rfl) (hN : X.N[i]? = some x := by rfl) (hv : Vis X.env.scope x := by first | exact Or.inl rfl | exact Or.inr (Or.inl rfl) | exact Or.inr (Or.inr rfl)) (hd : (x == ("__debug__" : Str)) = false := by decide)
    (hcd : (x == ("__classdict__" : Str)) = false := by decide) : PDe X T Φ B (.Name x pos) (eOwn i) := PE.cons (pe_var hN hv hd hcd) fun σ H Q ⟨A, Z, ρ, μ, d, μ', R, hm, k⟩ => by
  unfold eOwn at hm
  split at hm
  · rename_i kk e
    split at hm
    · rename_i xs em
      cases hm
      obtain ⟨a, h1, h2⟩ := R.slot i _ e
      obtain ⟨vs, h3, h4⟩ := R.cell kk _ a em h1
      refine ⟨.ref a, h2, k _ H (Fw.refl _ _) R ⟨a, vs, rfl, hid_rd_of (.inl h3) ?_, RpA.mono (Rep.see H) _ _ h4⟩⟩
      rintro (z | ⟨k', h5, h6⟩)
      · exact (R.zo a z).1 (List.mem_of_getElem? h1)
      · have : k' = kk := by
          obtain ⟨l1, q1⟩ := List.getElem?_eq_some_iff.mp h5
          obtain ⟨l2, q2⟩ := List.getElem?_eq_some_iff.mp h1
          exact (List.getElem_inj R.nd).mp (q1.trans q2.symm)
        subst this
        exact h6 ⟨i, hB, e⟩
    · cases hm
  · cases hm

/-! unfoldings -/
theorem e2_some {g : G2} {ρ : List Slot} {μ μ' : List Cell} {d : D} (h : e2 g ma mb ρ μ = some (d, μ')) : ∃ d1 μ1 d2, ma ρ μ = some (d1, μ1) ∧ mb ρ μ1 = some (d2, μ') ∧ g d1 d2 = some d := by
  unfold e2 at h
  cases e1 : ma ρ μ with
  | none => rw [e1] at h; cases h
  | some p =>
    rw [e1, Option.bind_some] at h
    cases e2 : mb ρ p.2 with
    | none => rw [e2] at h; cases h
    | some q =>
      rw [e2, Option.bind_some] at h
      cases e3 : g p.1 q.1 with
      | none => rw [e3] at h; cases h
      | some r => rw [e3] at h; cases h; exact ⟨p.1, p.2, q.1, rfl, e2, e3⟩
theorem tE_bin {g : G2} {r : R2} (hr : RD X.K r g) (σ : L2.St) (H : Hp) (Q : VK) (h : tE X.K T Φ B (e2 g ma mb) σ H Q) : tOp r (tE X.K T Φ B ma) (tE X.K T Φ B mb) σ H Q := by
  obtain ⟨A, Z, ρ, μ, d, μ', R, hm, k⟩ := h
  obtain ⟨d1, μ1, d2, h1, h2, h3⟩ := e2_some hm
  refine ⟨A, Z, ρ, μ, d1, μ1, R, h1, fun x H1 f1 R1 p1 => ⟨A, Z, ρ, μ1, d2, μ', R1, h2, fun y H2 f2 R2 p2 => ?_⟩⟩
  refine hr H2 _ x y d1 d2 d Q R2.tracked (Rp.mono (fw_xt f2) _ _ p1) p2 h3 fun v H3 s3 p3 => ?_
  exact k v H3 ((f1.trans f2).trans (Fw.same s3)) (R2.same s3) p3
theorem pd_op {op : Operator} {r : R2} {g : G2} (ho : OpR X (binaryOp op) r) (hr : RD X.K r g) (ha : PDe X T Φ B a ma) (hb : PDe X T Φ B b mb) : PDe X T Φ B (.BinOp a op b pos) (e2 g ma mb) := PE.cons (pe_op ho ha hb) (tE_bin hr)
theorem pd_cmp {op : CmpOp} {r : R2} {g : G2} (ho : OpR X (compareOp op) r) (hr : RD X.K r g) (ha : PDe X T Φ B a ma) (hb : PDe X T Φ B b mb) (hm : behindInMarks op b = false := by first | exact nomark _ | rfl) : PDe X T Φ B (.Compare a [op] [b] pos) (e2 g ma mb) :=
  PE.cons (pe_cmpR ho ha hb hm) (tE_bin hr)
theorem pd_ix {r : R2} {g : G2} (ho : IxR X r) (hr : RD X.K r g) (ha : PDe X T Φ B a ma) (hb : PDe X T Φ B b mb) (hs : PlainIx b := by intro _ _; rfl) : PDe X T Φ B (.Subscript a b pos) (e2 g ma mb) := PE.cons (pe_ix ho ha hb hs) (tE_bin hr)
theorem pd_un {op : UnaryOp} {r : V → Hp → VK → Prop} {g : G1} (ho : UnR X (unaryOp op) r) (hr : RD1 X.K r g) (ha : PDe X T Φ B a ma) : PDe X T Φ B (.UnaryOp op a pos) (e1 g ma) := PE.cons (pe_un ho ha) fun σ H Q ⟨A, Z, ρ, μ, d, μ', R, hm, k⟩ => by
  unfold e1 at hm
  cases e : ma ρ μ with
  | none => rw [e] at hm; cases hm
  | some p =>
    rw [e, Option.bind_some] at hm
    cases e' : g p.1 with
    | none => rw [e'] at hm; cases hm
    | some q =>
      rw [e'] at hm; cases hm
      exact ⟨A, Z, ρ, μ, p.1, p.2, R, e, fun x H1 f1 R1 p1 => hr H1 _ x _ _ Q R1.tracked p1 e' fun v H2 s2 p2 => k v H2 (f1.trans (Fw.same s2)) (R1.same s2) p2⟩

/-! argument lists of data -/
theorem pa_n : PDa X T Φ B [] aN := PA.cons pa_nil fun σ H Q ⟨A, Z, ρ, μ, d, μ', R, hm, k⟩ => by
  cases hm
  exact k [] H (Fw.refl _ _) R rfl
theorem aC_some {ρ : List Slot} {μ μ' : List Cell} {ds : List D} (h : aC ma mas ρ μ = some (ds, μ')) : ∃ d μ1 r, ma ρ μ = some (d, μ1) ∧ mas ρ μ1 = some (r, μ') ∧ ds = d :: r := by
  unfold aC at h
  cases e1 : ma ρ μ with
  | none => rw [e1] at h; cases h
  | some p =>
    rw [e1, Option.bind_some] at h
    cases e2 : mas ρ p.2 with
    | none => rw [e2] at h; cases h
    | some q => rw [e2] at h; cases h; exact ⟨p.1, p.2, q.1, rfl, e2, rfl⟩
theorem pa_c (ha : PDe X T Φ B a ma) (hr : PDa X T Φ B es mas) (hs : starEach (a :: es) X.env = (false, eval a X.env) :: starEach es X.env := by rfl) : PDa X T Φ B (a :: es) (aC ma mas) := PA.cons (pa_cons ha hr hs) fun σ H Q ⟨A, Z, ρ, μ, ds, μ', R, hm, k⟩ => by
  obtain ⟨d, μ1, r, h1, h2, rfl⟩ := aC_some hm
  refine ⟨A, Z, ρ, μ, d, μ1, R, h1, fun x H1 f1 R1 p1 => ⟨A, Z, ρ, μ1, r, μ', R1, h2, fun y H2 f2 R2 p2 => ?_⟩⟩
  exact k _ H2 (f1.trans f2) R2 ⟨x, y, rfl, Rp.mono (fw_xt f2) _ _ p1, p2⟩
theorem eL_some {g : GL} {ρ : List Slot} {μ μ' : List Cell} {d : D} (h : eL g mas ρ μ = some (d, μ')) : ∃ ds, mas ρ μ = some (ds, μ') ∧ g ds = some d := by
  unfold eL at h
  cases e : mas ρ μ with
  | none => rw [e] at h; cases h
  | some p =>
    rw [e, Option.bind_some] at h
    cases e' : g p.1 with
    | none => rw [e'] at h; cases h
    | some q => rw [e'] at h; cases h; exact ⟨p.1, rfl, e'⟩
theorem tE_list {g : GL} {r : List V → Hp → VK → Prop} (hr : RL X.K r g) (σ : L2.St) (H : Hp) (Q : VK) (h : tE X.K T Φ B (eL g mas) σ H Q) : tA X.K T Φ B mas σ H fun vs H1 => r vs H1 Q := by
  obtain ⟨A, Z, ρ, μ, d, μ', R, hm, k⟩ := h
  obtain ⟨ds, h1, h2⟩ := eL_some hm
  exact ⟨A, Z, ρ, μ, ds, μ', R, h1, fun vs H1 f1 R1 p1 => hr H1 _ vs ds d Q R1.tracked p1 h2 fun v H2 s2 p2 => k v H2 (f1.trans (Fw.same s2)) (R1.same s2) p2⟩
/-- a built-in function, a built-in class by its name -/
theorem pd_callB {x : Str} {p : Pos} {id : String} {r : List V → Hp → VK → Prop} {g : GL} (hc : CallR X (.builtin id) r) (hr : RL X.K r g) (hg : Gl X x) (hm : X.mg x = none) (hv : bootBuiltins x = some (.builtin id)) (ha : PDa X T Φ B (a :: es) mas)
    (hn : x ≠ "__name__" := by decide) (hdb : (x == ("__debug__" : Str)) = false := by decide) (he : starEach (a :: es) X.env = (false, eval a X.env) :: starEach es X.env := by rfl) (hpl : (backTo pos (starEach es X.env)).any (·.1) = false := by rfl) :
    PDe X T Φ B (.Call (.Name x p) (a :: es) [] pos) (eL g mas) := PE.cons (pe_callB hc hg hm hv ha hn hdb he hpl) (tE_list hr)
theorem pd_callTy {x : Str} {p : Pos} {n : String} {r : List V → Hp → VK → Prop} {g : GL} (hc : CallR X (.type n) r) (hr : RL X.K r g) (hg : Gl X x) (hm : X.mg x = none) (hv : bootBuiltins x = some (.type n)) (ha : PDa X T Φ B (a :: es) mas)
    (hn : x ≠ "__name__" := by decide) (hdb : (x == ("__debug__" : Str)) = false := by decide) (he : starEach (a :: es) X.env = (false, eval a X.env) :: starEach es X.env := by rfl) (hpl : (backTo pos (starEach es X.env)).any (·.1) = false := by rfl) :
    PDe X T Φ B (.Call (.Name x p) (a :: es) [] pos) (eL g mas) := PE.cons (pe_callTy hc hg hm hv ha hn hdb he hpl) (tE_list hr)
/-- a module's name for a built-in function -/
theorem pd_callBf {x : Str} {p : Pos} {id : String} {r : List V → Hp → VK → Prop} {g : GL} (hc : CallR X (.builtin id) r) (hr : RL X.K r g) (hg : Gl X x) (hm : X.mg x = some (.builtin id)) (ha : PDa X T Φ B (a :: es) mas)
    (hdb : (x == ("__debug__" : Str)) = false := by decide) (he : starEach (a :: es) X.env = (false, eval a X.env) :: starEach es X.env := by rfl) (hpl : (backTo pos (starEach es X.env)).any (·.1) = false := by rfl) :
    PDe X T Φ B (.Call (.Name x p) (a :: es) [] pos) (eL g mas) := PE.cons (pe_callBfun hc hg hm ha hdb he hpl) (tE_list hr)
/-- displays -/
def gTup : GL := fun ds => if ds.length ≤ sizeLine then some (.tuple ds) else none
def gLst : GL := fun ds => if ds.length ≤ sizeLine then some (.list ds) else none
theorem same_upd {H : Hp} {p : Addr} {o : HO} (h : H p = none) : Same H (upd H p o) := fun b u e => by rw [upd_ne (ne_of_none e h)]; exact e
theorem rp_new_lst {K : PySem.W.Frag} {H : Hp} {Z : Addr → Prop} {p : Addr} {vs : List V} {ds : List D} (hz : ∀ a, Z a → H a ≠ none) (hp : H p = none) (h : RpA K (hid H Z) vs ds) : Rp K (hid (upd H p (.lst vs)) Z) (.ref p) (.list ds) :=
  ⟨p, vs, rfl, hid_rd_of (.inl upd_same) (fun z => hz p z hp), RpA.mono (Same.xt (same_upd hp)) _ _ h⟩
theorem rp_new_tup {K : PySem.W.Frag} {H : Hp} {Z : Addr → Prop} {p : Addr} {vs : List V} {ds : List D} (hz : ∀ a, Z a → H a ≠ none) (hp : H p = none) (h : RpA K (hid H Z) vs ds) : Rp K (hid (upd H p (.tup vs)) Z) (.ref p) (.tuple ds) :=
  ⟨p, vs, rfl, .inl (hid_rd_of (.inl upd_same) (fun z => hz p z hp)), RpA.mono (Same.xt (same_upd hp)) _ _ h⟩
theorem rl_tup {K : PySem.W.Frag} : RL K (fun xs H Q => xs.length ≤ sizeLine ∧ ∀ p, H p = none → Q (.ref p) (upd H p (.tup xs))) gTup := fun H Z xs ds d Q hz h hg k => by
  unfold gTup at hg
  split at hg
  · rename_i hl
    cases hg
    exact ⟨by rw [h.length]; exact hl, fun p hp => k _ _ (same_upd hp) (rp_new_tup hz hp h)⟩
  · cases hg
theorem rl_lst {K : PySem.W.Frag} : RL K (fun xs H Q => xs.length ≤ sizeLine ∧ ∀ p, H p = none → Q (.ref p) (upd H p (.lst xs))) gLst := fun H Z xs ds d Q hz h hg k => by
  unfold gLst at hg
  split at hg
  · rename_i hl
    cases hg
    exact ⟨by rw [h.length]; exact hl, fun p hp => k _ _ (same_upd hp) (rp_new_lst hz hp h)⟩
  · cases hg
theorem pd_tup {j : Nat} (h : PDa X T Φ B es mas) : PDe X T Φ B (.Tuple es j pos) (eL gTup mas) := PE.cons (pe_tup h) (tE_list rl_tup)
theorem pd_lst (h : PDa X T Φ B es mas) : PDe X T Φ B (.List es pos) (eL gLst mas) := PE.cons (pe_lst h) (tE_list rl_lst)

/-! ### tests -/
theorem tV_some {ρ : List Slot} {μ μ' : List Cell} {t : Bool} (h : tV ma ρ μ = some (t, μ')) : ma ρ μ = some (.bool t, μ') := by
  unfold tV at h
  cases e : ma ρ μ with
  | none => rw [e] at h; cases h
  | some p =>
    rw [e, Option.bind_some] at h
    obtain ⟨d, μ2⟩ := p
    cases d with
    | bool b => cases h; rfl
    | none => cases h
    | int _ => cases h
    | str _ => cases h
    | list _ => cases h
    | tuple _ => cases h
    | dict _ => cases h
theorem tB_of (σ : L2.St) (H : Hp) (Q : Bool → Hp → Prop) (h : tT X.K T Φ B (tV ma) σ H Q) : tTest (tE X.K T Φ B ma) σ H Q := by
  obtain ⟨A, Z, ρ, μ, d, μ', R, hm, k⟩ := h
  refine ⟨A, Z, ρ, μ, _, μ', R, tV_some hm, fun v H1 f1 R1 p1 => ?_⟩
  exact ⟨d, show v = .bl d from p1, k H1 f1 R1⟩
/-- an expression as a test -/
theorem pt_v (h : PDe X T Φ B a ma) (he : ∀ whole, isTrue a X.env whole = (do let v ← whole; standAt a.pos; holding [v] (truthy v)) := by intro _; rfl) : PDt X T Φ B a (tV ma) := PT.cons (pt_val h he) tB_of
theorem pt_cmp {op : CmpOp} {r : R2} {g : G2} (ho : OpR X (compareOp op) r) (hr : RD X.K r g) (ha : PDe X T Φ B a ma) (hb : PDe X T Φ B b mb) (hm : behindInMarks op b = false := by first | exact nomark _ | rfl) : PDt X T Φ B (.Compare a [op] [b] pos) (tV (e2 g ma mb)) :=
  PT.cons (pt_cmpR ho ha hb hm) fun σ H Q ⟨A, Z, ρ, μ, d, μ', R, hm', k⟩ => by
    obtain ⟨A2, Z2, ρ2, μ2, d2, μ2', R2, hm2, k2⟩ := show tE X.K T Φ B (e2 g ma mb) σ H (fun x H' => ∃ k, x = .bl k ∧ Q k H') from ⟨A, Z, ρ, μ, _, μ', R, tV_some hm', fun v H1 f1 R1 p1 => ⟨d, show v = .bl d from p1, k H1 f1 R1⟩⟩
    exact tE_bin hr σ H _ ⟨A2, Z2, ρ2, μ2, d2, μ2', R2, hm2, k2⟩
theorem pt_not (h : PDt X T Φ B a mt) : PDt X T Φ B (.UnaryOp .Not a pos) (tNot mt) := PT.cons (L2.pt_not h) fun σ H Q ⟨A, Z, ρ, μ, d, μ', R, hm, k⟩ => by
  unfold tNot at hm
  cases e : mt ρ μ with
  | none => rw [e] at hm; cases hm
  | some p =>
    rw [e] at hm; cases hm
    exact ⟨A, Z, ρ, μ, p.1, p.2, R, e, k⟩
theorem pw_1a (h : PDt X T Φ B a mt) : PDw X T Φ B (.BoolOp .And [a] pos) mt := pw_and1 h
theorem pw_1o (h : PDt X T Φ B a mt) : PDw X T Φ B (.BoolOp .Or [a] pos) mt := pw_or1 h
theorem tAnd_some {ρ : List Slot} {μ μ' : List Cell} {t : Bool} (h : tAnd mt mu ρ μ = some (t, μ')) : ∃ c μ1, mt ρ μ = some (c, μ1) ∧ if c = true then mu ρ μ1 = some (t, μ') else (t = false ∧ μ' = μ1) := by
  unfold tAnd at h
  cases e : mt ρ μ with
  | none => rw [e] at h; cases h
  | some p =>
    rw [e, Option.bind_some] at h
    obtain ⟨c, μ1⟩ := p
    refine ⟨c, μ1, rfl, ?_⟩
    cases c with
    | true => exact h
    | false => cases h; exact ⟨rfl, rfl⟩
theorem tOr_some {ρ : List Slot} {μ μ' : List Cell} {t : Bool} (h : tOr mt mu ρ μ = some (t, μ')) : ∃ c μ1, mt ρ μ = some (c, μ1) ∧ if c = true then (t = true ∧ μ' = μ1) else mu ρ μ1 = some (t, μ') := by
  unfold tOr at h
  cases e : mt ρ μ with
  | none => rw [e] at h; cases h
  | some p =>
    rw [e, Option.bind_some] at h
    obtain ⟨c, μ1⟩ := p
    refine ⟨c, μ1, rfl, ?_⟩
    cases c with
    | false => exact h
    | true => cases h; exact ⟨rfl, rfl⟩
theorem pw_a {rest : List Expr} (ha : PDt X T Φ B a mt) (hb : PDw X T Φ B (.BoolOp .And (b :: rest) pos) mu) : PDw X T Φ B (.BoolOp .And (a :: b :: rest) pos) (tAnd mt mu) := PW.cons (pw_and ha hb) fun σ H Q ⟨A, Z, ρ, μ, d, μ', R, hm, k⟩ => by
  obtain ⟨c, μ1, h1, h2⟩ := tAnd_some hm
  refine ⟨A, Z, ρ, μ, c, μ1, R, h1, fun H1 f1 R1 => ?_⟩
  cases c with
  | true => exact iteT ⟨A, Z, ρ, μ1, d, μ', R1, h2, fun H2 f2 R2 => k H2 (f1.trans f2) R2⟩
  | false => obtain ⟨rfl, rfl⟩ := h2; exact iteF (k H1 f1 R1)
theorem pw_o {rest : List Expr} (ha : PDt X T Φ B a mt) (hb : PDw X T Φ B (.BoolOp .Or (b :: rest) pos) mu) : PDw X T Φ B (.BoolOp .Or (a :: b :: rest) pos) (tOr mt mu) := PW.cons (pw_or ha hb) fun σ H Q ⟨A, Z, ρ, μ, d, μ', R, hm, k⟩ => by
  obtain ⟨c, μ1, h1, h2⟩ := tOr_some hm
  refine ⟨A, Z, ρ, μ, c, μ1, R, h1, fun H1 f1 R1 => ?_⟩
  cases c with
  | true => obtain ⟨rfl, rfl⟩ := h2; exact iteT (k H1 f1 R1)
  | false => exact iteF ⟨A, Z, ρ, μ1, d, μ', R1, h2, fun H2 f2 R2 => k H2 (f1.trans f2) R2⟩
theorem pt_w (h : PDw X T Φ B a mt) : PDt X T Φ B a mt := h.pt
theorem pd_if (hc : PDt X T Φ B c mt) (ha : PDe X T Φ B a ma) (hb : PDe X T Φ B b mb) : PDe X T Φ B (.IfExp c a b pos) (eIf mt ma mb) := PE.cons (pe_ifExp hc ha hb) fun σ H Q ⟨A, Z, ρ, μ, d, μ', R, hm, k⟩ => by
  unfold eIf at hm
  cases e : mt ρ μ with
  | none => rw [e] at hm; cases hm
  | some p =>
    rw [e, Option.bind_some] at hm
    obtain ⟨t, μ1⟩ := p
    refine ⟨A, Z, ρ, μ, t, μ1, R, e, fun H1 f1 R1 => ?_⟩
    cases t with
    | true => exact iteT ⟨A, Z, ρ, μ1, d, μ', R1, hm, fun v H2 f2 R2 => k v H2 (f1.trans f2) R2⟩
    | false => exact iteF ⟨A, Z, ρ, μ1, d, μ', R1, hm, fun v H2 f2 R2 => k v H2 (f1.trans f2) R2⟩
theorem gBool_some {d : D} {c : Bool} (h : gBool d = some c) : d = .bool c := by cases d <;> simp [gBool] at h; rw [h]
theorem pd_1a {op : BoolOp} (h : PDe X T Φ B a ma) : PDe X T Φ B (.BoolOp op [a] pos) ma := pe_one h
theorem pd_and {rest : List Expr} (ha : PDe X T Φ B a ma) (hb : PDe X T Φ B (.BoolOp .And (b :: rest) pos) mb) : PDe X T Φ B (.BoolOp .And (a :: b :: rest) pos) (eAnd ma mb) := PE.cons (pe_and ha hb) fun σ H Q ⟨A, Z, ρ, μ, d, μ', R, hm, k⟩ => by
  unfold eAnd at hm
  cases e : ma ρ μ with
  | none => rw [e] at hm; cases hm
  | some p =>
    rw [e, Option.bind_some] at hm
    cases e' : gBool p.1 with
    | none => rw [e'] at hm; cases hm
    | some t =>
      rw [e', Option.bind_some] at hm
      refine ⟨A, Z, ρ, μ, p.1, p.2, R, e, fun x H1 f1 R1 p1 => ?_⟩
      rw [gBool_some e'] at p1
      refine ⟨t, p1, ?_⟩
      cases t with
      | true => exact iteT ⟨A, Z, ρ, p.2, d, μ', R1, hm, fun v H2 f2 R2 => k v H2 (f1.trans f2) R2⟩
      | false => cases hm; exact iteF (k _ H1 f1 R1 rfl)
theorem pd_or {rest : List Expr} (ha : PDe X T Φ B a ma) (hb : PDe X T Φ B (.BoolOp .Or (b :: rest) pos) mb) : PDe X T Φ B (.BoolOp .Or (a :: b :: rest) pos) (eOr ma mb) := PE.cons (pe_or ha hb) fun σ H Q ⟨A, Z, ρ, μ, d, μ', R, hm, k⟩ => by
  unfold eOr at hm
  cases e : ma ρ μ with
  | none => rw [e] at hm; cases hm
  | some p =>
    rw [e, Option.bind_some] at hm
    cases e' : gBool p.1 with
    | none => rw [e'] at hm; cases hm
    | some t =>
      rw [e', Option.bind_some] at hm
      refine ⟨A, Z, ρ, μ, p.1, p.2, R, e, fun x H1 f1 R1 p1 => ?_⟩
      rw [gBool_some e'] at p1
      refine ⟨t, p1, ?_⟩
      cases t with
      | true => cases hm; exact iteT (k _ H1 f1 R1 rfl)
      | false => exact iteF ⟨A, Z, ρ, p.2, d, μ', R1, hm, fun v H2 f2 R2 => k v H2 (f1.trans f2) R2⟩
theorem pd_not (h : PDe X T Φ B a ma) : PDe X T Φ B (.UnaryOp .Not a pos) (eNot ma) := PE.cons (pe_not h) fun σ H Q ⟨A, Z, ρ, μ, d, μ', R, hm, k⟩ => by
  unfold eNot at hm
  cases e : ma ρ μ with
  | none => rw [e] at hm; cases hm
  | some p =>
    rw [e, Option.bind_some] at hm
    cases e' : gBool p.1 with
    | none => rw [e'] at hm; cases hm
    | some t =>
      rw [e'] at hm; cases hm
      refine ⟨A, Z, ρ, μ, p.1, p.2, R, e, fun x H1 f1 R1 p1 => ?_⟩
      rw [gBool_some e'] at p1
      exact ⟨t, p1, k _ H1 f1 R1 rfl⟩
end
end PD
end
section
set_option linter.all false
set_option maxRecDepth 100000
set_option maxHeartbeats 4000000
/-! P3: statements, targets, loops, defs by what they mean over data. -/
namespace PD
open PySem PySem.Spec PyProof.Rows L2

inductive Fl where
  | next (ρ : List Slot) (μ : List Cell) | brk (ρ : List Slot) (μ : List Cell) | cont (ρ : List Slot) (μ : List Cell) | ret (d : D) (μ : List Cell)
abbrev MS := Nat → List Slot → List Cell → Option Fl
abbrev MG := D → List Slot → List Cell → Option (List Slot × List Cell)
def B0 : Nat → Bool := fun _ => false
theorem wr0 {ρ : List Slot} {A : List Addr} {a : Addr} : Wr B0 ρ A a ↔ a ∈ A := ⟨Wr.mem, fun h => by
  obtain ⟨k, hk⟩ := List.mem_iff_getElem?.mp h
  exact ⟨k, hk, fun ⟨i, e, _⟩ => by cases e⟩⟩
theorem zw0 {ρ : List Slot} {A : List Addr} {Z : Addr → Prop} {a : Addr} : Zw B0 ρ A Z a ↔ (Z a ∨ a ∈ A) := by
  constructor
  · exact zw_le
  · exact fun h => h.elim .inl fun z => .inr (wr0.mpr z)

/-- a block was run: nothing but the cells changed, new cells are new -/
structure Fs (A A' : List Addr) (H H' : Hp) : Prop where
  fw : Fw (· ∈ A) H H'
  ext : ∃ more, A' = A ++ more ∧ ∀ a ∈ more, Fr H a
theorem Fs.refl (A : List Addr) (H : Hp) : Fs A A H H := ⟨Fw.refl _ _, [], by simp, by simp⟩
theorem Fs.trans {A A1 A2 : List Addr} {H H1 H2 : Hp} (a : Fs A A1 H H1) (b : Fs A1 A2 H1 H2) : Fs A A2 H H2 := by
  obtain ⟨m1, e1, h1⟩ := a.ext
  obtain ⟨m2, e2, h2⟩ := b.ext
  refine ⟨⟨fun c o h n t => b.fw.keep c o (a.fw.keep c o h n t) ?_ t, fun c h => a.fw.there c (b.fw.there c h)⟩, m1 ++ m2, by rw [e2, e1, List.append_assoc], fun c hc => ?_⟩
  · rw [e1, List.mem_append]
    rintro (z | z)
    · exact n z
    · exact fr_not h t (h1 c z)
  · rcases List.mem_append.mp hc with z | z
    · exact h1 c z
    · exact a.fw.there c (h2 c z)
theorem Fs.of {A : List Addr} {H H' : Hp} (f : Fw (· ∈ A) H H') : Fs A A H H' := ⟨f, [], by simp, by simp⟩
theorem Fs.xt {A A' : List Addr} {Z : Addr → Prop} {H H' : Hp} (f : Fs A A' H H') : XT (hid H fun a => Z a ∨ a ∈ A) (hid H' fun a => Z a ∨ a ∈ A') := fun a o e t => by
  obtain ⟨m, em, hm⟩ := f.ext
  have q := of_hid e
  rw [hid_of]
  · exact f.fw.keep a o q.1 (fun z => q.2 (.inr z)) t
  · rintro (z | z)
    · exact q.2 (.inl z)
    · rw [em, List.mem_append] at z
      rcases z with z | z
      · exact q.2 (.inr z)
      · exact fr_not q.1 t (hm a z)
theorem Fs.fw' {A A' A0 : List Addr} {H H1 H' : Hp} (a : Fs A0 A H H1) (b : Fw (· ∈ A) H1 H') : Fs A0 A H H' := a.trans (Fs.of b)
theorem Fs.sub {A A' : List Addr} {H H' : Hp} (f : Fs A A' H H') : ∃ more, A' = A ++ more := let ⟨m, e, _⟩ := f.ext; ⟨m, e⟩

/-- what stands at a return: the value, the cells that were lent -/
def RetOk (K : PySem.W.Frag) (T : List (Addr × Str)) (A : List Addr) (Z : Addr → Prop) (n0 : Nat) (H H' : Hp) (v : V) (d : D) (μ' : List Cell) : Prop :=
  Fw (· ∈ A) H H' ∧ LamX.Tabs T H' ∧ n0 ≤ μ'.length ∧ (∀ (k : Nat) (c : Cell) (a : Addr), k < n0 → μ'[k]? = some c → A[k]? = some a → CellAt K (hid H' fun a => Z a ∨ a ∈ A.take n0) H' a c) ∧
    Rp K (hid H' fun a => Z a ∨ a ∈ A.take n0) v d
def AftS (K : PySem.W.Frag) (T : List (Addr × Str)) (Φ : Fx) (A : List Addr) (Z : Addr → Prop) (n0 : Nat) (H : Hp) (Dn : Ends) : Fl → Prop
  | .next ρ' μ' => ∀ σ' H' A', Fs A A' H H' → Rep K T Φ A' Z σ' H' ρ' μ' → Dn.nx σ' H'
  | .brk ρ' μ' => ∀ σ' H' A', Fs A A' H H' → Rep K T Φ A' Z σ' H' ρ' μ' → Dn.bk σ' H'
  | .cont ρ' μ' => ∀ σ' H' A', Fs A A' H H' → Rep K T Φ A' Z σ' H' ρ' μ' → Dn.ct σ' H'
  | .ret d μ' => ∀ v H', RetOk K T A Z n0 H H' v d μ' → Dn.rt v H'
def tS (K : PySem.W.Frag) (T : List (Addr × Str)) (Φ : Fx) (m : MS) : TS := fun Dn σ H => ∃ A Z n0 ρ μ fl, Rep K T Φ A Z σ H ρ μ ∧ n0 ≤ A.length ∧ m n0 ρ μ = some fl ∧ AftS K T Φ A Z n0 H Dn fl
def tG (K : PySem.W.Frag) (T : List (Addr × Str)) (Φ : Fx) (g : MG) : TG := fun v σ H Q => ∃ A Z ρ μ d ρ' μ', Rep K T Φ A Z σ H ρ μ ∧ Rp K (hid H fun a => Z a ∨ a ∈ A) v d ∧ g d ρ μ = some (ρ', μ') ∧
  ∀ σ' H', Fw (· ∈ A) H H' → Rep K T Φ A Z σ' H' ρ' μ' → Q σ' H'
abbrev PDs (X : Cx) (T : List (Addr × Str)) (Φ : Fx) (st : Stmt) (m : MS) : Prop := PS X st (tS X.K T Φ m)
abbrev PDss (X : Cx) (T : List (Addr × Str)) (Φ : Fx) (st : List Stmt) (m : MS) : Prop := PSs X st (tS X.K T Φ m)
abbrev PDg (X : Cx) (T : List (Addr × Str)) (Φ : Fx) (tg : Expr) (g : MG) : Prop := PG X tg (tG X.K T Φ g)
theorem PS.cons {X : Cx} {e : Stmt} {t t' : TS} (h : PS X e t) (hc : ∀ D σ H, t' D σ H → t D σ H) : PS X e t' := ⟨fun pins s σ H D I q => h.run pins s σ H D I (hc D σ H q)⟩
theorem PSs.cons {X : Cx} {e : List Stmt} {t t' : TS} (h : PSs X e t) (hc : ∀ D σ H, t' D σ H → t D σ H) : PSs X e t' := ⟨fun pins s σ H D I q => h.run pins s σ H D I (hc D σ H q)⟩
theorem PG.cons {X : Cx} {e : Expr} {t t' : TG} (h : PG X e t) (hc : ∀ v σ H Q, t' v σ H Q → t v σ H Q) : PG X e t' := ⟨fun pins s σ H v u Q I r q => h.run pins s σ H v u Q I r (hc v σ H Q q)⟩

section
variable {K : PySem.W.Frag} {T : List (Addr × Str)} {Φ : Fx} {A A' : List Addr} {Z : Addr → Prop} {σ : L2.St} {H H' : Hp} {ρ : List Slot} {μ : List Cell} {B : Nat → Bool}
theorem RetOk.later {n0 : Nat} {H1 : Hp} {v : V} {d : D} {μ' : List Cell} (hn : n0 ≤ A.length) (f : Fs A A' H H1) (h : RetOk K T A' Z n0 H1 H' v d μ') : RetOk K T A Z n0 H H' v d μ' := by
  obtain ⟨f1, tb, hl, hc, hp⟩ := h
  obtain ⟨m, em, hm⟩ := f.ext
  have et : A'.take n0 = A.take n0 := by rw [em, List.take_append_of_le_length hn]
  refine ⟨⟨fun c o e n t => f1.keep c o (f.fw.keep c o e n t) ?_ t, fun c h => f.fw.there c (f1.there c h)⟩, tb, hl, fun k c a hk e1 e2 => ?_, by rw [← et]; exact hp⟩
  · rw [em, List.mem_append]
    rintro (z | z)
    · exact n z
    · exact fr_not e t (hm c z)
  · rw [← et]
    refine hc k c a hk e1 ?_
    rw [em, List.getElem?_append_left (Nat.lt_of_lt_of_le hk hn)]
    exact e2
theorem AftS.later {n0 : Nat} {H1 : Hp} {Dn : Ends} {fl : Fl} (hn : n0 ≤ A.length) (f : Fs A A' H H1) (k : AftS K T Φ A Z n0 H Dn fl) : AftS K T Φ A' Z n0 H1 Dn fl := by
  cases fl with
  | next ρ2 μ2 => exact fun σ2 H2 A2 f2 R2 => k σ2 H2 A2 (f.trans f2) R2
  | brk ρ2 μ2 => exact fun σ2 H2 A2 f2 R2 => k σ2 H2 A2 (f.trans f2) R2
  | cont ρ2 μ2 => exact fun σ2 H2 A2 f2 R2 => k σ2 H2 A2 (f.trans f2) R2
  | ret d μ2 => exact fun v H2 q => k v H2 (q.later hn f)
/-- a slot gets a datum -/
theorem Rep.setVal (R : Rep K T Φ A Z σ H ρ μ) (i : Nat) {v : V} {d : D} (h : Rp K (hid H fun a => Z a ∨ a ∈ A) v d) : Rep K T Φ A Z (σ.set i (some v)) H (ρ.set i (.val d)) μ where
  len := by rw [List.length_set, List.length_set]; exact R.len
  alen := R.alen
  nd := R.nd
  zo := R.zo
  tabs := R.tabs
  cell := R.cell
  slot := fun j s e => by
    by_cases hj : i = j
    · subst hj
      by_cases hl : i < ρ.length
      · rw [List.getElem?_set_self hl] at e
        cases e
        exact ⟨v, List.getElem?_set_self (by rw [← R.len]; exact hl), h⟩
      · rw [List.getElem?_eq_none (by rw [List.length_set]; omega)] at e; cases e
    · rw [List.getElem?_set_ne hj] at e
      rw [List.getElem?_set_ne hj]
      exact R.slot j s e
end

/-! ### targets -/
def gN (i : Nat) : MG := fun d ρ μ => some (ρ.set i (.val d), μ)
abbrev MGs := List D → List Slot → List Cell → Option (List Slot × List Cell)
def gsN : MGs := fun ds ρ μ => if ds.isEmpty then some (ρ, μ) else none
def gsC (g : MG) (r : MGs) : MGs := fun ds ρ μ => match ds with
  | d :: ds => (g d ρ μ).bind fun p => r ds p.1 p.2
  | [] => none
def gT (n : Nat) (g : MGs) : MG := fun d ρ μ => match d with
  | .tuple ds => if ds.length = n then g ds ρ μ else none
  | _ => none
def tGs (K : PySem.W.Frag) (T : List (Addr × Str)) (Φ : Fx) (g : MGs) : TGs := fun vs σ H Q => ∃ A Z ρ μ ds ρ' μ', Rep K T Φ A Z σ H ρ μ ∧ RpA K (hid H fun a => Z a ∨ a ∈ A) vs ds ∧ g ds ρ μ = some (ρ', μ') ∧
  ∀ σ' H', Fw (· ∈ A) H H' → Rep K T Φ A Z σ' H' ρ' μ' → Q σ' H'
abbrev PDgs (X : Cx) (T : List (Addr × Str)) (Φ : Fx) (tg : List Expr) (g : MGs) : Prop := PGs X tg (tGs X.K T Φ g)
theorem PGs.cons {X : Cx} {e : List Expr} {t t' : TGs} (h : PGs X e t) (hc : ∀ v σ H Q, t' v σ H Q → t v σ H Q) : PGs X e t' := ⟨fun pins s σ H v u Q I r q => h.run pins s σ H v u Q I r (hc v σ H Q q)⟩
section
variable {X : Cx} {T : List (Addr × Str)} {Φ : Fx} {B : Nat → Bool} {pos : Pos}
theorem pg_n (i : Nat) {x : Str} (hN : X.N.Nodup) (hi : X.N[i]? = some x := by rfl) (hx : Loc X.env.scope x := by first | exact Or.inl rfl | exact Or.inr rfl) (hf : X.fn x = true ∨ X.env.scope.names.lookup x = some .local := by first | exact .inl rfl | exact .inr rfl) : PDg X T Φ (.Name x pos) (gN i) :=
  PG.cons (pg_name hN hi hx hf) fun v σ H Q ⟨A, Z, ρ, μ, d, ρ', μ', R, hp, hg, k⟩ => by
    cases hg
    exact k _ H (Fw.refl _ _) (R.setVal i hp)
theorem pgs_n : PDgs X T Φ [] gsN := PGs.cons pgs_nil fun vs σ H Q ⟨A, Z, ρ, μ, ds, ρ', μ', R, hp, hg, k⟩ => by
  unfold gsN at hg
  cases ds with
  | nil => cases hg; exact ⟨hp, k σ H (Fw.refl _ _) R⟩
  | cons d ds => cases hg
theorem pgs_c {e : Expr} {es : List Expr} {g : MG} {gs : MGs} (h1 : PDg X T Φ e g) (h2 : PDgs X T Φ es gs) (hs : (assignEach (e :: es) X.env).map (·.2) = assign e X.env :: (assignEach es X.env).map (·.2) := by rfl) : PDgs X T Φ (e :: es) (gsC g gs) :=
  PGs.cons (pgs_cons h1 h2 hs) fun vs σ H Q ⟨A, Z, ρ, μ, ds, ρ', μ', R, hp, hg, k⟩ => by
    unfold gsC at hg
    cases ds with
    | nil => cases hg
    | cons d ds =>
      obtain ⟨v, r, rfl, hp1, hp2⟩ := hp
      have hg : (g d ρ μ).bind (fun p => gs ds p.1 p.2) = some (ρ', μ') := hg
      cases e1 : g d ρ μ with
      | none => rw [e1] at hg; cases hg
      | some p =>
        rw [e1, Option.bind_some] at hg
        refine ⟨v, r, rfl, A, Z, ρ, μ, d, p.1, p.2, R, hp1, e1, fun σ1 H1 f1 R1 => ⟨A, Z, p.1, p.2, ds, ρ', μ', R1, RpA.mono (f1.xt fun _ h => .inr h) _ _ hp2, hg, fun σ2 H2 f2 R2 => k σ2 H2 (f1.trans f2) R2⟩⟩
theorem pg_t {es : List Expr} {j n : Nat} {gs : MGs} (hc : X.calm = true) (h : PDgs X T Φ es gs) (hn : (assignEach es X.env).length = n := by rfl) (hst : (assignEach es X.env).findIdx? (·.1) = none := by rfl) : PDg X T Φ (.Tuple es j pos) (gT n gs) :=
  PG.cons (pg_tup hc h hn hst) fun v σ H Q ⟨A, Z, ρ, μ, d, ρ', μ', R, hp, hg, k⟩ => by
    unfold gT at hg
    split at hg
    · rename_i ds
      split at hg
      · rename_i hl
        obtain ⟨a, xs, rfl, h1, h2⟩ := hp
        exact ⟨a, xs, rfl, hid_sqT h1, by rw [h2.length]; exact hl, A, Z, ρ, μ, ds, ρ', μ', R, h2, hg, k⟩
      · cases hg
    · cases hg
end

/-! ### statements -/
def sNil : MS := fun _ ρ μ => some (.next ρ μ)
def sSeq (a b : MS) : MS := fun n ρ μ => (a n ρ μ).bind fun fl => match fl with
  | .next ρ' μ' => b n ρ' μ'
  | fl => some fl
def sIf (t : MT) (a b : MS) : MS := fun n ρ μ => (t ρ μ).bind fun p => if p.1 = true then a n ρ p.2 else b n ρ p.2
def sEx (a : ME) : MS := fun _ ρ μ => (a ρ μ).bind fun p => some (.next ρ p.2)
/-- the value told may be read of the names in B, if these are cells of this frame's own -/
def okB (B : Nat → Bool) (n0 : Nat) (ρ : List Slot) : Bool := ρ.zipIdx.all fun p => match p.1 with
  | .own k => !B p.2 || decide (n0 ≤ k)
  | _ => true
def sRet (B : Nat → Bool) (a : ME) : MS := fun n ρ μ => (a ρ μ).bind fun p => if okB B n ρ || flat p.1 then some (.ret p.1 p.2) else none
def sRetN : MS := fun _ _ μ => some (.ret .none μ)
def sAs (a : ME) (g : MG) : MS := fun _ ρ μ => (a ρ μ).bind fun p => (g p.1 ρ p.2).bind fun q => some (.next q.1 q.2)
/-- the value is flat: it may be read of cells -/
def sAsF (a : ME) (g : MG) : MS := fun _ ρ μ => (a ρ μ).bind fun p => if flat p.1 then (g p.1 ρ p.2).bind fun q => some (.next q.1 q.2) else none
def sNever : MS := fun _ _ _ => none
section
variable {X : Cx} {T : List (Addr × Str)} {Φ : Fx} {B : Nat → Bool} {a b c : Expr} {es : List Expr} {ma mb mc : ME} {mt : MT} {pos : Pos} {st : Stmt} {sts : List Stmt} {ms mr : MS} {g : MG}
theorem ss_nil : PDss X T Φ [] sNil := PSs.cons pss_nil fun Dn σ H ⟨A, Z, n0, ρ, μ, fl, R, hn, hm, k⟩ => by
  cases hm
  exact k σ H A (Fs.refl _ _) R
theorem seq_of (Dn : Ends) (σ : L2.St) (H : Hp) (h : tS X.K T Φ (sSeq ms mr) Dn σ H) : tSeq (tS X.K T Φ ms) (tS X.K T Φ mr) Dn σ H := by
  obtain ⟨A, Z, n0, ρ, μ, fl, R, hn, hm, k⟩ := h
  unfold sSeq at hm
  cases e : ms n0 ρ μ with
  | none => rw [e] at hm; cases hm
  | some f1 =>
    rw [e, Option.bind_some] at hm
    refine ⟨A, Z, n0, ρ, μ, f1, R, hn, e, ?_⟩
    cases f1 with
    | next ρ1 μ1 =>
      intro σ1 H1 A1 f1 R1
      obtain ⟨m1, em, hm1⟩ := f1.ext
      exact ⟨A1, Z, n0, ρ1, μ1, fl, R1, by rw [em, List.length_append]; omega, hm, k.later hn f1⟩
    | brk ρ1 μ1 => cases hm; exact k
    | cont ρ1 μ1 => cases hm; exact k
    | ret d μ1 => cases hm; exact k
theorem ss_c (h1 : PDs X T Φ st ms) (h2 : PDss X T Φ sts mr) : PDss X T Φ (st :: sts) (sSeq ms mr) := PSs.cons (pss_cons h1 h2) seq_of
theorem ss_1 (h1 : PDs X T Φ st ms) : PDss X T Φ [st] ms := pss_one h1
theorem s_never : PDs X T Φ st sNever := PS.cons ps_never fun Dn σ H ⟨A, Z, n0, ρ, μ, fl, R, hn, hm, k⟩ => by cases hm
theorem s_pass : PDs X T Φ (.Pass pos) sNil := PS.cons ps_pass fun Dn σ H ⟨A, Z, n0, ρ, μ, fl, R, hn, hm, k⟩ => by
  cases hm
  exact k σ H A (Fs.refl _ _) R
theorem s_doc {x : Str} {j : Nat} {pos' : Pos} : PDs X T Φ (.Expr (.Constant (.str x) j pos) pos') sNil := PS.cons ps_doc fun Dn σ H ⟨A, Z, n0, ρ, μ, fl, R, hn, hm, k⟩ => by
  cases hm
  exact k σ H A (Fs.refl _ _) R
def sBrk : MS := fun _ ρ μ => some (.brk ρ μ)
def sCont : MS := fun _ ρ μ => some (.cont ρ μ)
theorem s_brk : PDs X T Φ (.Break pos) sBrk := PS.cons ps_break fun Dn σ H ⟨A, Z, n0, ρ, μ, fl, R, hn, hm, k⟩ => by
  cases hm
  exact k σ H A (Fs.refl _ _) R
theorem s_cont : PDs X T Φ (.Continue pos) sCont := PS.cons ps_continue fun Dn σ H ⟨A, Z, n0, ρ, μ, fl, R, hn, hm, k⟩ => by
  cases hm
  exact k σ H A (Fs.refl _ _) R
theorem s_ex (ha : PDe X T Φ B a ma) (hs : swapsWith a none pos.line X.env = pure false := by rfl) : PDs X T Φ (.Expr a pos) (sEx ma) := PS.cons (ps_expr ha hs) fun Dn σ H ⟨A, Z, n0, ρ, μ, fl, R, hn, hm, k⟩ => by
  unfold sEx at hm
  cases e : ma ρ μ with
  | none => rw [e] at hm; cases hm
  | some p =>
    rw [e] at hm; cases hm
    exact ⟨A, Z, ρ, μ, p.1, p.2, R, e, fun v H1 f1 R1 p1 => k σ H1 A (Fs.of (f1.mono fun _ h => h.mem)) R1⟩
theorem okB_own {n0 : Nat} {ρ : List Slot} (h : okB B n0 ρ = true) {i k : Nat} (hB : B i = true) (e : ρ[i]? = some (.own k)) : n0 ≤ k := by
  unfold okB at h
  rw [List.all_eq_true] at h
  have hm : (Slot.own k, i) ∈ ρ.zipIdx := by
    rw [List.mem_zipIdx_iff_getElem?]
    exact e
  have q := h _ hm
  simpa [hB] using q
theorem CellAt.hid {K : PySem.W.Frag} {H : Hp} {Z Z' : Addr → Prop} {a : Addr} {c : Cell} (h : CellAt K (hid H Z) H a c) (e : ∀ x, Z' x → Z x) : CellAt K (PD.hid H Z') H a c := h.xt (hid_le e) fun o q _ => q
theorem ret_of {A : List Addr} {Z : Addr → Prop} {n0 : Nat} {σ : L2.St} {H H1 : Hp} {ρ : List Slot} {μ1 : List Cell} {v : V} {d : D} (hn : n0 ≤ A.length) (ho : (okB B n0 ρ || flat d) = true) (f1 : Fw (Wr B ρ A) H H1) (R1 : Rep X.K T Φ A Z σ H1 ρ μ1)
    (p1 : Rp X.K (hid H1 (Zw B ρ A Z)) v d) : RetOk X.K T A Z n0 H H1 v d μ1 := by
  refine ⟨f1.mono fun _ h => h.mem, R1.tabs, by rw [← R1.alen]; exact hn, fun k c a hk e1 e2 => (R1.cell k c a e1 e2).hid fun x h => h.elim .inl fun z => .inr (List.mem_of_mem_take z), ?_⟩
  rcases Bool.or_eq_true_iff.mp ho with ho | ho
  · refine Rp.mono (hid_le fun a z => ?_) _ _ p1
    rcases z with z | z
    · exact .inl z
    · obtain ⟨k, hk⟩ := List.mem_iff_getElem?.mp z
      have hkn : k < n0 := by
        have := (List.getElem?_eq_some_iff.mp hk).1
        rw [List.length_take] at this
        omega
      rw [List.getElem?_take_of_lt hkn] at hk
      exact .inr ⟨k, hk, fun ⟨i, hB, e⟩ => absurd (okB_own ho hB e) (by omega)⟩
  · refine Rp.ofFlat (fun a xs h => ?_) _ _ ho p1
    have q := hid_rd h
    refine hid_rd_of q.1 ?_
    rintro (z | z)
    · exact q.2 (.inl z)
    · obtain ⟨vs, e, co⟩ := R1.cellAt (List.mem_of_mem_take z)
      rcases q.1 with w | ⟨o, w⟩ <;> rw [e] at w <;> cases w <;> cases co
theorem s_ret (ha : PDe X T Φ B a ma) : PDs X T Φ (.Return (some a) pos) (sRet B ma) := PS.cons (ps_ret ha) fun Dn σ H ⟨A, Z, n0, ρ, μ, fl, R, hn, hm, k⟩ => by
  unfold sRet at hm
  cases e : ma ρ μ with
  | none => rw [e] at hm; cases hm
  | some p =>
    rw [e, Option.bind_some] at hm
    split at hm
    · rename_i ho
      cases hm
      exact ⟨A, Z, ρ, μ, p.1, p.2, R, e, fun v H1 f1 R1 p1 => k v H1 (ret_of hn ho f1 R1 p1)⟩
    · cases hm
theorem s_retN : PDs X T Φ (.Return none pos) sRetN := PS.cons ps_retN fun Dn σ H ⟨A, Z, n0, ρ, μ, fl, R, hn, hm, k⟩ => by
  cases hm
  exact k .non H (ret_of (B := B0) (d := .none) hn (by simp [flat]) (Fw.refl _ _) R rfl)
theorem if_of (Dn : Ends) (σ : L2.St) (H : Hp) (h : tS X.K T Φ (sIf mt ms mr) Dn σ H) : tIfS (tT X.K T Φ B mt) (tS X.K T Φ ms) (tS X.K T Φ mr) Dn σ H := by
  obtain ⟨A, Z, n0, ρ, μ, fl, R, hn, hm, k⟩ := h
  unfold sIf at hm
  cases e : mt ρ μ with
  | none => rw [e] at hm; cases hm
  | some p =>
    rw [e, Option.bind_some] at hm
    obtain ⟨t, μ1⟩ := p
    refine ⟨A, Z, ρ, μ, t, μ1, R, e, fun H1 f1 R1 => ?_⟩
    have fs : Fs A A H H1 := Fs.of (f1.mono fun _ h => h.mem)
    have k' := AftS.later hn fs k
    cases t with
    | true => exact iteT ⟨A, Z, n0, ρ, μ1, fl, R1, hn, hm, k'⟩
    | false => exact iteF ⟨A, Z, n0, ρ, μ1, fl, R1, hn, hm, k'⟩
theorem s_if (hc : PDt X T Φ B c mt) (ha : PDss X T Φ sts ms) {sts' : List Stmt} (hb : PDss X T Φ sts' mr) : PDs X T Φ (.If c sts sts' pos) (sIf mt ms mr) := PS.cons (ps_if hc ha hb) if_of
theorem asg_of (Dn : Ends) (σ : L2.St) (H : Hp) (h : tS X.K T Φ (sAs ma g) Dn σ H) : tAsg (tE X.K T Φ B0 ma) (tG X.K T Φ g) Dn σ H := by
  obtain ⟨A, Z, n0, ρ, μ, fl, R, hn, hm, k⟩ := h
  unfold sAs at hm
  cases e : ma ρ μ with
  | none => rw [e] at hm; cases hm
  | some p =>
    rw [e, Option.bind_some] at hm
    cases e' : g p.1 ρ p.2 with
    | none => rw [e'] at hm; cases hm
    | some q =>
      rw [e'] at hm; cases hm
      refine ⟨A, Z, ρ, μ, p.1, p.2, R, e, fun v H1 f1 R1 p1 => ⟨A, Z, ρ, p.2, p.1, q.1, q.2, R1, Rp.mono (hid_le fun a h => zw0.mpr h) _ _ p1, e', fun σ2 H2 f2 R2 => ?_⟩⟩
      exact k σ2 H2 A (Fs.of ((f1.mono fun _ h => h.mem).trans f2)) R2
theorem asgF_of (Dn : Ends) (σ : L2.St) (H : Hp) (h : tS X.K T Φ (sAsF ma g) Dn σ H) : tAsg (tE X.K T Φ B ma) (tG X.K T Φ g) Dn σ H := by
  obtain ⟨A, Z, n0, ρ, μ, fl, R, hn, hm, k⟩ := h
  unfold sAsF at hm
  cases e : ma ρ μ with
  | none => rw [e] at hm; cases hm
  | some p =>
    rw [e, Option.bind_some] at hm
    split at hm
    · rename_i hfl
      cases e' : g p.1 ρ p.2 with
      | none => rw [e'] at hm; cases hm
      | some q =>
        rw [e'] at hm; cases hm
        refine ⟨A, Z, ρ, μ, p.1, p.2, R, e, fun v H1 f1 R1 p1 => ⟨A, Z, ρ, p.2, p.1, q.1, q.2, R1, ?_, e', fun σ2 H2 f2 R2 => ?_⟩⟩
        · refine Rp.ofFlat (fun a xs h => ?_) _ _ hfl p1
          have q := hid_rd h
          refine hid_rd_of q.1 ?_
          rintro (z | z)
          · exact q.2 (.inl z)
          · obtain ⟨vs, e, co⟩ := R1.cellAt z
            rcases q.1 with w | ⟨o, w⟩ <;> rw [e] at w <;> cases w <;> cases co
        · exact k σ2 H2 A (Fs.of ((f1.mono fun _ h => h.mem).trans f2)) R2
    · cases hm
theorem s_as {tg : Expr} (ha : PDe X T Φ B0 a ma) (hg : PDg X T Φ tg g) (hs : swapsWithSole [tg] a pos.line X.env = pure false := by rfl) (hw : swappedStores [tg] a X.env = pure none := by rfl) (h1 : (assignEach [tg] X.env).map (·.2) = [assign tg X.env] := by rfl) :
    PDs X T Φ (.Assign [tg] a pos) (sAs ma g) := PS.cons (ps_asg ha hg hs hw h1) asg_of
theorem s_asF {tg : Expr} (ha : PDe X T Φ B a ma) (hg : PDg X T Φ tg g) (hs : swapsWithSole [tg] a pos.line X.env = pure false := by rfl) (hw : swappedStores [tg] a X.env = pure none := by rfl) (h1 : (assignEach [tg] X.env).map (·.2) = [assign tg X.env] := by rfl) :
    PDs X T Φ (.Assign [tg] a pos) (sAsF ma g) := PS.cons (ps_asg ha hg hs hw h1) asgF_of
/-- name = value -/
theorem s_set (i : Nat) {x : Str} {pos' : Pos} (hN : X.N.Nodup) (ha : PDe X T Φ B0 a ma) (hi : X.N[i]? = some x := by rfl) (hx : Loc X.env.scope x := by first | exact Or.inl rfl | exact Or.inr rfl) (hs : swapsWith a (some (.Name x pos')) pos.line X.env = pure false := by rfl)
    (hf : X.fn x = true ∨ X.env.scope.names.lookup x = some .local := by first | exact .inl rfl | exact .inr rfl) : PDs X T Φ (.Assign [.Name x pos'] a pos) (sAs ma (gN i)) := PS.cons (ps_set hN hi hx ha hs hf) fun Dn σ H ⟨A, Z, n0, ρ, μ, fl, R, hn, hm, k⟩ => by
  unfold sAs at hm
  cases e : ma ρ μ with
  | none => rw [e] at hm; cases hm
  | some p =>
    rw [e] at hm; cases hm
    refine ⟨A, Z, ρ, μ, p.1, p.2, R, e, fun v H1 f1 R1 p1 => ?_⟩
    exact k _ H1 A (Fs.of (f1.mono fun _ h => h.mem)) (R1.setVal i (Rp.mono (hid_le fun a h => zw0.mpr h) _ _ p1))
theorem s_setF (i : Nat) {x : Str} {pos' : Pos} (hN : X.N.Nodup) (ha : PDe X T Φ B a ma) (hi : X.N[i]? = some x := by rfl) (hx : Loc X.env.scope x := by first | exact Or.inl rfl | exact Or.inr rfl) (hs : swapsWith a (some (.Name x pos')) pos.line X.env = pure false := by rfl)
    (hf : X.fn x = true ∨ X.env.scope.names.lookup x = some .local := by first | exact .inl rfl | exact .inr rfl) : PDs X T Φ (.Assign [.Name x pos'] a pos) (sAsF ma (gN i)) := PS.cons (ps_set hN hi hx ha hs hf) fun Dn σ H h => by
  obtain ⟨A, Z, n0, ρ, μ, fl, R, hn, hm, k⟩ := h
  unfold sAsF at hm
  cases e : ma ρ μ with
  | none => rw [e] at hm; cases hm
  | some p =>
    rw [e, Option.bind_some] at hm
    split at hm
    · rename_i hfl
      cases hm
      refine ⟨A, Z, ρ, μ, p.1, p.2, R, e, fun v H1 f1 R1 p1 => ?_⟩
      refine k _ H1 A (Fs.of (f1.mono fun _ h => h.mem)) (R1.setVal i (Rp.ofFlat (fun a xs h => ?_) _ _ hfl p1))
      have q := hid_rd h
      refine hid_rd_of q.1 ?_
      rintro (z | z)
      · exact q.2 (.inl z)
      · obtain ⟨vs, e, co⟩ := R1.cellAt z
        rcases q.1 with w | ⟨o, w⟩ <;> rw [e] at w <;> cases w <;> cases co
    · cases hm
end
end PD
end
section
set_option linter.all false
set_option maxRecDepth 100000
set_option maxHeartbeats 4000000
/-! P4: loops; defs and their calls, cells lent to a call; cells made, filled, read. -/
namespace PD
open PySem PySem.Spec PyProof.Rows L2

/-! ### what is walked -/
/-- the walk J gives the data ds, as long as what Hv tells is to be seen -/
def ItOk (K : PySem.W.Frag) (J : It) (Hv : Hp) (ds : List D) : Prop := ∀ (H : Hp) (Z' : Addr → Prop), (∀ a, Z' a → H a ≠ none) → XT Hv (hid H Z') →
  (∀ i, ds.length ≤ i → J.stop i H) ∧ ∀ i d, ds[i]? = some d → J.go i H ∧ ∀ x H', J.yld i H x H' → Same H H' ∧ Rp K (hid H' Z') x d
def tI (K : PySem.W.Frag) (T : List (Addr × Str)) (Φ : Fx) (B : Nat → Bool) (m : MA) : TI := fun σ H R => ∃ A Z ρ μ ds μ', Rep K T Φ A Z σ H ρ μ ∧ m ρ μ = some (ds, μ') ∧
  ∀ J H', Fw (Wr B ρ A) H H' → Rep K T Φ A Z σ H' ρ μ' → ItOk K J (hid H' (Zw B ρ A Z)) ds → R J H'
abbrev PDi (X : Cx) (T : List (Addr × Str)) (Φ : Fx) (B : Nat → Bool) (tg e : Expr) (m : MA) : Prop := PI X tg e (tI X.K T Φ B m)
theorem PI.cons {X : Cx} {tg e : Expr} {t t' : TI} (h : PI X tg e t) (hc : ∀ σ H Q, t' σ H Q → t σ H Q) : PI X tg e t' := ⟨fun pins s σ H Q I q => h.run pins s σ H Q I (hc σ H Q q)⟩
/-- cells beyond the m-th are no cells any more: who holds one holds its list -/
def truncS (m : Nat) (μ : List Cell) : Slot → Slot
  | .own k => if k < m then .own k else match μ[k]? with
    | some (.lst xs) => .val (.list xs)
    | _ => .non
  | s => s
theorem Rep.trunc {K : PySem.W.Frag} {T : List (Addr × Str)} {Φ : Fx} {A : List Addr} {Z : Addr → Prop} {σ : L2.St} {H : Hp} {ρ : List Slot} {μ : List Cell} (R : Rep K T Φ A Z σ H ρ μ) (m : Nat) : Rep K T Φ (A.take m) Z σ H (ρ.map (truncS m μ)) (μ.take m) := by
  have le : ∀ a, (Z a ∨ a ∈ A.take m) → (Z a ∨ a ∈ A) := fun a h => h.elim .inl fun z => .inr (List.mem_of_mem_take z)
  refine ⟨by rw [List.length_map]; exact R.len, by rw [List.length_take, List.length_take, R.alen], R.nd.sublist (List.take_sublist _ _), fun a z => ⟨fun h => (R.zo a z).1 (List.mem_of_mem_take h), (R.zo a z).2⟩, R.tabs, fun k c a e1 e2 => ?_, fun i s e => ?_⟩
  · have hk : k < m := by have := (List.getElem?_eq_some_iff.mp e1).1; rw [List.length_take] at this; omega
    rw [List.getElem?_take_of_lt hk] at e1 e2
    exact (R.cell k c a e1 e2).hid le
  · rw [List.getElem?_map] at e
    cases e0 : ρ[i]? with
    | none => rw [e0] at e; cases e
    | some s0 =>
      rw [e0] at e
      have e : truncS m μ s0 = s := Option.some.inj e
      have q := (R.slot i s0 e0).xt (hid_le (H := H) le)
      cases s0 with
      | non => rw [← e]; trivial
      | val d => rw [← e]; exact q
      | fn G => rw [← e]; exact q
      | own k =>
        obtain ⟨a, h1, h2⟩ := q
        unfold truncS at e
        dsimp only at e
        split at e
        · rename_i hk
          rw [← e]
          exact ⟨a, by rw [List.getElem?_take_of_lt hk]; exact h1, h2⟩
        · rename_i hk
          split at e
          · rename_i xs em
            rw [← e]
            obtain ⟨vs, h3, h4⟩ := R.cell k _ a em h1
            refine ⟨.ref a, h2, a, vs, rfl, hid_rd_of (.inl h3) ?_, RpA.mono (hid_le le) _ _ h4⟩
            rintro (z | z)
            · exact (R.zo a z).1 (List.mem_of_getElem? h1)
            · obtain ⟨k', h5⟩ := List.mem_iff_getElem?.mp z
              have hk' : k' < m := by have := (List.getElem?_eq_some_iff.mp h5).1; rw [List.length_take] at this; omega
              rw [List.getElem?_take_of_lt hk'] at h5
              obtain ⟨l1, q1⟩ := List.getElem?_eq_some_iff.mp h5
              obtain ⟨l2, q2⟩ := List.getElem?_eq_some_iff.mp h1
              have := (List.getElem_inj R.nd).mp (q1.trans q2.symm)
              omega
          · rw [← e]; trivial
def forD (g : MG) (b : MS) (n0 m : Nat) : List D → List Slot → List Cell → Option Fl
  | [], ρ, μ => some (.next ρ μ)
  | d :: ds, ρ, μ => (g d ρ μ).bind fun p => (b n0 p.1 p.2).bind fun fl => match fl with
    | .next ρ' μ' => forD g b n0 m ds (ρ'.map (truncS m μ')) (μ'.take m)
    | .cont ρ' μ' => forD g b n0 m ds (ρ'.map (truncS m μ')) (μ'.take m)
    | .brk ρ' μ' => some (.next ρ' μ')
    | .ret d μ' => some (.ret d μ')
def sFor (mi : MA) (g : MG) (b : MS) : MS := fun n ρ μ => (mi ρ μ).bind fun p => forD g b n p.2.length p.1 ρ p.2
section
variable {X : Cx} {T : List (Addr × Str)} {Φ : Fx} {B : Nat → Bool} {tg it c : Expr} {mi : MA} {mt : MT} {pos : Pos} {sts : List Stmt} {ms : MS} {g : MG}
theorem for_of (Dn : Ends) (σ : L2.St) (H : Hp) (h : tS X.K T Φ (sFor mi g ms) Dn σ H) : tFor (tI X.K T Φ B0 mi) (tG X.K T Φ g) (tS X.K T Φ ms) Dn σ H := by
  obtain ⟨A, Z, n0, ρ, μ, fl, R, hn, hm, k⟩ := h
  unfold sFor at hm
  cases e : mi ρ μ with
  | none => rw [e] at hm; cases hm
  | some p =>
    rw [e, Option.bind_some] at hm
    obtain ⟨ds, μ1⟩ := p
    refine ⟨A, Z, ρ, μ, ds, μ1, R, e, fun J H1 f1 R1 it => ?_⟩
    have it : ItOk X.K J (hid H1 fun a => Z a ∨ a ∈ A) ds := by
      intro H2 Z2 hz hx
      refine it H2 Z2 hz fun a o e t => hx a o ?_ t
      have q := of_hid e
      rw [hid_of fun z => q.2 (zw0.mpr z)]
      exact q.1
    have hm' : forD g ms n0 A.length ds ρ μ1 = some fl := by rw [R1.alen]; exact hm
    refine ⟨fun i m σ' H' => ∃ ρ' μ', m = ds.length - i ∧ Rep X.K T Φ A Z σ' H' ρ' μ' ∧ forD g ms n0 A.length (ds.drop i) ρ' μ' = some fl ∧ Fs A A H1 H',
      ⟨ds.length, ρ, μ1, by simp, R1, by simpa using hm', Fs.refl _ _⟩, ?_⟩
    rintro i m σ' H' ⟨ρ', μ', em, R', hf, fs⟩
    have k' : AftS X.K T Φ A Z n0 H' Dn fl := k.later hn ((Fs.of (f1.mono fun _ h => h.mem)).trans fs)
    obtain ⟨hs, hg⟩ := it H' (fun a => Z a ∨ a ∈ A) (fun a z => z.elim (fun z e => (R'.zo a z).2 (.inl e)) fun z => by obtain ⟨vs, e, _⟩ := R'.cellAt z; rw [e]; intro q; cases q) fs.xt
    by_cases hi : i < ds.length
    · right
      have ed : ds[i]? = some ds[i] := List.getElem?_eq_getElem hi
      obtain ⟨go, yl⟩ := hg i ds[i] ed
      refine ⟨go, fun σ2 H2 => ∃ ρ2 μ2, Rep X.K T Φ A Z σ2 H2 ρ2 μ2 ∧ forD g ms n0 A.length (ds.drop (i + 1)) ρ2 μ2 = some fl ∧ Fs A A H1 H2, fun σ2 H2 ⟨ρ2, μ2, a, b, c⟩ => ⟨ds.length - (i + 1), by omega, ρ2, μ2, rfl, a, b, c⟩, fun x H2 hy => ?_⟩
      obtain ⟨sm, px⟩ := yl x H2 hy
      rw [List.drop_eq_getElem_cons hi] at hf
      have hf : (g ds[i] ρ' μ').bind (fun p => (ms n0 p.1 p.2).bind fun fl => match fl with
        | .next ρ' μ' => forD g ms n0 A.length (ds.drop (i + 1)) (ρ'.map (truncS A.length μ')) (μ'.take A.length)
        | .cont ρ' μ' => forD g ms n0 A.length (ds.drop (i + 1)) (ρ'.map (truncS A.length μ')) (μ'.take A.length)
        | .brk ρ' μ' => some (.next ρ' μ')
        | .ret d μ' => some (.ret d μ')) = some fl := hf
      cases e1 : g ds[i] ρ' μ' with
      | none => rw [e1] at hf; cases hf
      | some p1 =>
        rw [e1, Option.bind_some] at hf
        cases e2 : ms n0 p1.1 p1.2 with
        | none => rw [e2] at hf; cases hf
        | some f2 =>
          rw [e2, Option.bind_some] at hf
          refine ⟨A, Z, ρ', μ', ds[i], p1.1, p1.2, R'.same sm, px, e1, fun σ3 H3 f3 R3 => ⟨A, Z, n0, p1.1, p1.2, f2, R3, hn, e2, ?_⟩⟩
          have fs3 : Fs A A H1 H3 := fs.trans ((Fs.of (Fw.same sm)).trans (Fs.of f3))
          have again : ∀ {ρ4 : List Slot} {μ4 : List Cell}, forD g ms n0 A.length (ds.drop (i + 1)) (ρ4.map (truncS A.length μ4)) (μ4.take A.length) = some fl → ∀ (σ' : L2.St) (H' : Hp) (A' : List Addr), Fs A A' H3 H' → Rep X.K T Φ A' Z σ' H' ρ4 μ4 →
              ∃ ρ2 μ2, Rep X.K T Φ A Z σ' H' ρ2 μ2 ∧ forD g ms n0 A.length (ds.drop (i + 1)) ρ2 μ2 = some fl ∧ Fs A A H1 H' := fun {ρ4 μ4} hq σ' H' A' f4 R4 => by
            obtain ⟨mo, em, hmo⟩ := f4.ext
            have et : A'.take A.length = A := by rw [em, List.take_left']; rfl
            have R5 := R4.trunc A.length
            rw [et] at R5
            exact ⟨_, _, R5, hq, fs3.trans (Fs.of f4.fw)⟩
          cases f2 with
          | next ρ4 μ4 => exact again hf
          | cont ρ4 μ4 => exact again hf
          | brk ρ4 μ4 =>
            cases hf
            exact fun σ4 H4 A4 f4 R4 => k'.later hn ((Fs.of (Fw.same sm)).trans (Fs.of f3)) σ4 H4 A4 f4 R4
          | ret d μ4 =>
            cases hf
            exact fun v H4 q => (k'.later hn ((Fs.of (Fw.same sm)).trans (Fs.of f3))) v H4 q
    · left
      have hi' : ds.length ≤ i := by omega
      refine ⟨hs i hi', ?_⟩
      rw [List.drop_eq_nil_of_le hi'] at hf
      have hf : some (Fl.next ρ' μ') = some fl := hf
      cases hf
      exact k' σ' H' A (Fs.refl _ _) R'
theorem s_for (hp : PassesOwn (model X.prog X.w) X.A X.env X.xe) (hc : X.calm = true) (hi : PDi X T Φ B0 tg it mi) (hg : PDg X T Φ tg g) (hb : PDss X T Φ sts ms) (hs : ∀ x, foldedSetIterable it X.env x = pure x := by intro _; rfl) :
    PDs X T Φ (.For tg it sts [] pos) (sFor mi g ms) := PS.cons (ps_for hp hc hi hg hb hs) for_of
/-! while: as many turns as it takes -/
def whD (t : MT) (b : MS) (m : Nat) : Nat → Nat → List Slot → List Cell → Option Fl
  | 0, _, _, _ => none
  | f + 1, n0, ρ, μ => (t ρ μ).bind fun p => if p.1 = true then (b n0 ρ p.2).bind fun fl => match fl with
      | .next ρ' μ' => whD t b m f n0 (ρ'.map (truncS m μ')) (μ'.take m)
      | .cont ρ' μ' => whD t b m f n0 (ρ'.map (truncS m μ')) (μ'.take m)
      | .brk ρ' μ' => some (.next ρ' μ')
      | .ret d μ' => some (.ret d μ')
    else some (.next ρ p.2)
theorem whD_mono {t : MT} {b : MS} {m : Nat} {fl : Fl} : ∀ {f n0 : Nat} {ρ : List Slot} {μ : List Cell}, whD t b m f n0 ρ μ = some fl → whD t b m (f + 1) n0 ρ μ = some fl
  | 0, _, _, _, h => by cases h
  | f + 1, n0, ρ, μ, h => by
    unfold whD at h ⊢
    cases e : t ρ μ with
    | none => rw [e] at h; cases h
    | some p =>
      rw [e, Option.bind_some] at h
      rw [Option.bind_some]
      split at h
      · rename_i ht
        rw [if_pos ht]
        cases e2 : b n0 ρ p.2 with
        | none => rw [e2] at h; cases h
        | some f2 =>
          rw [e2, Option.bind_some] at h
          rw [Option.bind_some]
          cases f2 with
          | next ρ4 μ4 => exact whD_mono h
          | cont ρ4 μ4 => exact whD_mono h
          | brk ρ4 μ4 => exact h
          | ret d μ4 => exact h
      · rename_i ht
        rw [if_neg ht]
        exact h
theorem whD_le {t : MT} {b : MS} {m : Nat} {fl : Fl} {f f' n0 : Nat} {ρ : List Slot} {μ : List Cell} (h : whD t b m f n0 ρ μ = some fl) (hl : f ≤ f') : whD t b m f' n0 ρ μ = some fl := by
  induction hl with
  | refl => exact h
  | step _ ih => exact whD_mono ih
noncomputable def sWhile (t : MT) (b : MS) : MS := fun n ρ μ => open Classical in if h : ∃ r, ∃ f, whD t b μ.length f n ρ μ = some r then some h.choose else none
theorem sWhile_of {t : MT} {b : MS} {n0 f : Nat} {ρ : List Slot} {μ : List Cell} {fl : Fl} (h : whD t b μ.length f n0 ρ μ = some fl) : sWhile t b n0 ρ μ = some fl := by
  have hex : ∃ r, ∃ f, whD t b μ.length f n0 ρ μ = some r := ⟨fl, f, h⟩
  unfold sWhile
  rw [dif_pos hex]
  obtain ⟨f', h'⟩ := hex.choose_spec
  have h1 := whD_le h (Nat.le_max_left f f')
  have h2 := whD_le h' (Nat.le_max_right f f')
  rw [h1] at h2
  exact h2.symm
theorem of_sWhile {t : MT} {b : MS} {n0 : Nat} {ρ : List Slot} {μ : List Cell} {fl : Fl} (h : sWhile t b n0 ρ μ = some fl) : ∃ f, whD t b μ.length f n0 ρ μ = some fl := by
  unfold sWhile at h
  split at h
  · rename_i hex
    have e : hex.choose = fl := Option.some.inj h
    obtain ⟨f, q⟩ := hex.choose_spec
    exact ⟨f, by rw [← e]; exact q⟩
  · cases h
theorem while_of (Dn : Ends) (σ : L2.St) (H : Hp) (h : tS X.K T Φ (sWhile mt ms) Dn σ H) : tWhile (tT X.K T Φ B mt) (tS X.K T Φ ms) Dn σ H := by
  obtain ⟨A, Z, n0, ρ, μ, fl, R, hn, hm, k⟩ := h
  obtain ⟨f, hf⟩ := of_sWhile hm
  rw [← R.alen] at hf
  refine ⟨fun m σ' H' => ∃ ρ' μ', Rep X.K T Φ A Z σ' H' ρ' μ' ∧ whD mt ms A.length m n0 ρ' μ' = some fl ∧ Fs A A H H', ⟨f, ρ, μ, R, hf, Fs.refl _ _⟩, ?_⟩
  rintro m σ' H' ⟨ρ', μ', R', hf, fs⟩
  cases m with
  | zero => cases hf
  | succ f =>
    unfold whD at hf
    cases e : mt ρ' μ' with
    | none => rw [e] at hf; cases hf
    | some p =>
      rw [e, Option.bind_some] at hf
      obtain ⟨c, μ1⟩ := p
      refine ⟨A, Z, ρ', μ', c, μ1, R', e, fun H1 f1 R1 => ?_⟩
      have fs1 : Fs A A H H1 := fs.trans (Fs.of (f1.mono fun _ h => h.mem))
      have k' : AftS X.K T Φ A Z n0 H1 Dn fl := k.later hn fs1
      cases c with
      | false =>
        refine iteF ?_
        have hf : some (Fl.next ρ' μ1) = some fl := hf
        cases hf
        exact k' σ' H1 A (Fs.refl _ _) R1
      | true =>
        refine iteT ?_
        have hf : ((ms n0 ρ' μ1).bind fun fl => match fl with
          | .next ρ' μ' => whD mt ms A.length f n0 (ρ'.map (truncS A.length μ')) (μ'.take A.length)
          | .cont ρ' μ' => whD mt ms A.length f n0 (ρ'.map (truncS A.length μ')) (μ'.take A.length)
          | .brk ρ' μ' => some (.next ρ' μ')
          | .ret d μ' => some (.ret d μ')) = some fl := hf
        cases e2 : ms n0 ρ' μ1 with
        | none => rw [e2] at hf; cases hf
        | some f2 =>
          rw [e2, Option.bind_some] at hf
          refine ⟨fun σ2 H2 => ∃ ρ2 μ2, Rep X.K T Φ A Z σ2 H2 ρ2 μ2 ∧ whD mt ms A.length f n0 ρ2 μ2 = some fl ∧ Fs A A H H2, fun σ2 H2 ⟨ρ2, μ2, a, b, c⟩ => ⟨f, by omega, ρ2, μ2, a, b, c⟩, ⟨A, Z, n0, ρ', μ1, f2, R1, hn, e2, ?_⟩⟩
          have again : ∀ {ρ4 : List Slot} {μ4 : List Cell}, whD mt ms A.length f n0 (ρ4.map (truncS A.length μ4)) (μ4.take A.length) = some fl → ∀ (σ' : L2.St) (H' : Hp) (A' : List Addr), Fs A A' H1 H' → Rep X.K T Φ A' Z σ' H' ρ4 μ4 →
              ∃ ρ2 μ2, Rep X.K T Φ A Z σ' H' ρ2 μ2 ∧ whD mt ms A.length f n0 ρ2 μ2 = some fl ∧ Fs A A H H' := fun {ρ4 μ4} hq σ' H' A' f4 R4 => by
            obtain ⟨mo, em, hmo⟩ := f4.ext
            have et : A'.take A.length = A := by rw [em, List.take_left']; rfl
            have R5 := R4.trunc A.length
            rw [et] at R5
            exact ⟨_, _, R5, hq, fs1.trans (Fs.of f4.fw)⟩
          cases f2 with
          | next ρ4 μ4 => exact again hf
          | cont ρ4 μ4 => exact again hf
          | brk ρ4 μ4 => cases hf; exact k'
          | ret d μ4 => cases hf; exact k'
theorem s_while (hp : PassesOwn (model X.prog X.w) X.A X.env X.xe) (hc : PDt X T Φ B c mt) (hb : PDss X T Φ sts ms) : PDs X T Φ (.While c sts [] pos) (sWhile mt ms) := PS.cons (ps_while hp hc hb) while_of
end

/-! ### cells made, filled -/
section
variable {K : PySem.W.Frag} {T : List (Addr × Str)} {Φ : Fx} {A : List Addr} {Z Z' : Addr → Prop} {σ : L2.St} {H : Hp} {ρ : List Slot} {μ : List Cell}
theorem Rep.weakZ (R : Rep K T Φ A Z σ H ρ μ) (h : ∀ a, Z' a → Z a) : Rep K T Φ A Z' σ H ρ μ :=
  have le : ∀ a, (Z' a ∨ a ∈ A) → (Z a ∨ a ∈ A) := fun a q => q.elim (fun z => .inl (h a z)) .inr
  ⟨R.len, R.alen, R.nd, fun a z => R.zo a (h a z), R.tabs, fun k c a e1 e2 => (R.cell k c a e1 e2).hid le, fun i s e => (R.slot i s e).xt (hid_le le)⟩
/-- one more address is hidden: a new one -/
theorem Rep.more (R : Rep K T Φ A Z σ H ρ μ) {a : Addr} {o : HO} (hn : H a = none) (ho : ∀ ps, o ≠ .tbl ps := by intro _ z; cases z) : Rep K T Φ A (fun x => Z x ∨ x = a) σ (upd H a o) ρ μ := by
  have xt : XT (hid H fun x => Z x ∨ x ∈ A) (hid (upd H a o) fun x => (Z x ∨ x = a) ∨ x ∈ A) := fun x u e t => by
    have q := of_hid e
    have nx : x ≠ a := ne_of_none q.1 hn
    rw [hid_of, upd_ne nx]
    · exact q.1
    · rintro ((z | z) | z)
      · exact q.2 (.inl z)
      · exact nx z
      · exact q.2 (.inr z)
  refine ⟨R.len, R.alen, R.nd, fun x z => ?_, R.tabs.ext (same_upd hn), fun k c x e1 e2 => (R.cell k c x e1 e2).xt xt fun u e t => ?_, fun i s e => (R.slot i s e).xt xt⟩
  · rcases z with z | z
    · exact ⟨(R.zo x z).1, fun e => (R.zo x z).2 ((Fw.same (W := fun _ => True) (same_upd hn)).there x e)⟩
    · subst z
      refine ⟨fun z => ?_, fun q => fr_not upd_same ho q⟩
      obtain ⟨vs, e, _⟩ := R.cellAt z
      rw [hn] at e; cases e
  · rw [upd_ne (ne_of_none e hn)]; exact e
/-- a new list becomes a cell, its name's slot the i-th -/
theorem Rep.pushC {a : Addr} {c0 : Cell} (R : Rep K T Φ A (fun x => Z x ∨ x = a) σ H ρ μ) (nz : ¬ Z a) (hc : CellAt K (hid H fun x => (Z x ∨ x = a) ∨ x ∈ A) H a c0) (i : Nat) :
    Rep K T Φ (A ++ [a]) Z (σ.set i (some (.ref a))) H (ρ.set i (.own μ.length)) (μ ++ [c0]) := by
  have na : a ∉ A := (R.zo a (.inr rfl)).1
  have le : XT (hid H fun x => (Z x ∨ x = a) ∨ x ∈ A) (hid H fun x => Z x ∨ x ∈ A ++ [a]) := hid_le fun x q => by
    rcases q with z | z
    · exact .inl (.inl z)
    · rcases List.mem_append.mp z with z | z
      · exact .inr z
      · exact .inl (.inr (by simpa using z))
  have up : ∀ {j : Nat} {x : Addr}, A[j]? = some x → (A ++ [a])[j]? = some x := fun {j x} e => by rw [List.getElem?_append_left (List.getElem?_eq_some_iff.mp e).1]; exact e
  refine ⟨by rw [List.length_set, List.length_set]; exact R.len, by rw [List.length_append, List.length_append, R.alen]; rfl, ?_, fun x z => ⟨fun h => ?_, (R.zo x (.inl z)).2⟩, R.tabs, fun k c x e1 e2 => ?_, fun j s e => ?_⟩
  · rw [List.nodup_append]
    exact ⟨R.nd, by simp, fun x hx y hy e => na (by rw [show y = a by simpa using hy] at e; rw [← e]; exact hx)⟩
  · rcases List.mem_append.mp h with h | h
    · exact (R.zo x (.inl z)).1 h
    · rw [show x = a by simpa using h] at z; exact nz z
  · by_cases hk : k < μ.length
    · rw [List.getElem?_append_left hk] at e1
      rw [List.getElem?_append_left (by rw [R.alen]; exact hk)] at e2
      exact (R.cell k c x e1 e2).xt le fun _ q _ => q
    · have ek : k = μ.length := by
        have := (List.getElem?_eq_some_iff.mp e1).1
        rw [List.length_append] at this
        simp at this
        omega
      subst ek
      rw [List.getElem?_append_right (Nat.le_refl _), Nat.sub_self] at e1
      rw [List.getElem?_append_right (by rw [R.alen]; exact Nat.le_refl _), R.alen, Nat.sub_self] at e2
      cases e1
      cases e2
      exact hc.xt le fun _ q _ => q
  · by_cases hj : i = j
    · subst hj
      by_cases hl : i < ρ.length
      · rw [List.getElem?_set_self hl] at e
        cases e
        exact ⟨a, by rw [List.getElem?_append_right (by rw [R.alen]; exact Nat.le_refl _), R.alen, Nat.sub_self]; rfl, List.getElem?_set_self (by rw [← R.len]; exact hl)⟩
      · rw [List.getElem?_eq_none (by rw [List.length_set]; omega)] at e; cases e
    · rw [List.getElem?_set_ne hj] at e
      rw [List.getElem?_set_ne hj]
      have q := (R.slot j s e).xt le
      cases s with
      | non => trivial
      | val d => exact q
      | fn G => exact q
      | own k => obtain ⟨x, q1, q2⟩ := q; exact ⟨x, up q1, q2⟩
theorem Rep.push {a : Addr} {vs : List V} {ds : List D} (R : Rep K T Φ A (fun x => Z x ∨ x = a) σ H ρ μ) (nz : ¬ Z a) (h1 : H a = some (.lst vs)) (h2 : RpA K (hid H fun x => (Z x ∨ x = a) ∨ x ∈ A) vs ds) (i : Nat) :
    Rep K T Φ (A ++ [a]) Z (σ.set i (some (.ref a))) H (ρ.set i (.own μ.length)) (μ ++ [.lst ds]) := R.pushC (c0 := .lst ds) nz ⟨vs, h1, h2⟩ i
/-- a cell is written -/
theorem Rep.putC (R : Rep K T Φ A Z σ H ρ μ) {k : Nat} {a : Addr} {o0 : HO} {c0 : Cell} (hk : A[k]? = some a) (ho : cellO o0 = true) (h : CellAt K (hid H fun x => Z x ∨ x ∈ A) (upd H a o0) a c0) : Rep K T Φ A Z σ (upd H a o0) ρ (μ.set k c0) := by
  have ma : a ∈ A := List.mem_of_getElem? hk
  have xt : XT (hid H fun x => Z x ∨ x ∈ A) (hid (upd H a o0) fun x => Z x ∨ x ∈ A) := fun x u e t => by
    have q := of_hid e
    rw [hid_of q.2, upd_ne (show x ≠ a from fun z => q.2 (.inr (by rw [z]; exact ma)))]
    exact q.1
  have nt : ∀ b o, H b = some o → cellO o = false → upd H a o0 b = some o := fun b o e n => by
    rw [upd_ne]
    · exact e
    · rintro rfl
      obtain ⟨w, e', co⟩ := R.cellAt ma
      rw [e] at e'
      cases e'
      rw [n] at co
      cases co
  refine ⟨R.len, by rw [List.length_set]; exact R.alen, R.nd, fun x z => ⟨(R.zo x z).1, fun e => ?_⟩, fun p hp => ?_, fun j c x e1 e2 => ?_, fun i s e => (R.slot i s e).xt xt⟩
  · exact (R.zo x z).2 (fr_up (fun ps z => by rw [z] at ho; cases ho) e)
  · obtain ⟨ps, q1, q2, q3⟩ := R.tabs p hp
    refine ⟨ps, nt _ _ q1 rfl, q2, fun pos cv hc => ?_⟩
    obtain ⟨c, e1, e2⟩ := q3 pos cv hc
    exact ⟨c, e1, nt _ _ e2 rfl⟩
  · by_cases hj : k = j
    · subst hj
      rw [hk] at e2
      cases e2
      by_cases hl : k < μ.length
      · rw [List.getElem?_set_self hl] at e1
        cases e1
        exact h.xt xt fun _ q _ => q
      · rw [List.getElem?_eq_none (by rw [List.length_set]; omega)] at e1; cases e1
    · rw [List.getElem?_set_ne hj] at e1
      have nx : x ≠ a := by
        rintro rfl
        obtain ⟨l1, q1⟩ := List.getElem?_eq_some_iff.mp e2
        obtain ⟨l2, q2⟩ := List.getElem?_eq_some_iff.mp hk
        exact hj ((List.getElem_inj R.nd).mp (q2.trans q1.symm))
      exact (R.cell j c x e1 e2).xt xt fun o q _ => by rw [upd_ne nx]; exact q
theorem Rep.put (R : Rep K T Φ A Z σ H ρ μ) {k : Nat} {a : Addr} {vs : List V} {ds : List D} (hk : A[k]? = some a) (h : RpA K (hid H fun x => Z x ∨ x ∈ A) vs ds) : Rep K T Φ A Z σ (upd H a (.lst vs)) ρ (μ.set k (.lst ds)) := R.putC (c0 := .lst ds) hk rfl ⟨vs, upd_same, h⟩
end
/-- an expression that makes a new list -/
def tF (K : PySem.W.Frag) (T : List (Addr × Str)) (Φ : Fx) (B : Nat → Bool) (m : MA) : TE := fun σ H Q => ∃ A Z ρ μ ds μ', Rep K T Φ A Z σ H ρ μ ∧ m ρ μ = some (ds, μ') ∧
  ∀ a vs H', Fw (Wr B ρ A) H H' → ¬ Z a → Rep K T Φ A (fun x => Z x ∨ x = a) σ H' ρ μ' → Fr H a → H' a = some (.lst vs) → RpA K (hid H' (Zw B ρ A fun x => Z x ∨ x = a)) vs ds → Q (.ref a) H'
abbrev PDf (X : Cx) (T : List (Addr × Str)) (Φ : Fx) (B : Nat → Bool) (e : Expr) (m : MA) : Prop := PE X e (tF X.K T Φ B m)
/-- .. as a value -/
def eF (m : MA) : ME := fun ρ μ => (m ρ μ).map fun p => (.list p.1, p.2)
def sNew (i : Nat) (m : MA) : MS := fun _ ρ μ => (m ρ μ).bind fun p => some (.next (ρ.set i (.own p.2.length)) (p.2 ++ [.lst p.1]))
def cellL (ρ : List Slot) (μ : List Cell) (i : Nat) : Option (Nat × List D) := match ρ[i]? with
  | some (.own k) => match μ[k]? with
    | some (.lst xs) => some (k, xs)
    | _ => none
  | _ => none
def noBo (B : Nat → Bool) (ρ : List Slot) (k : Nat) : Bool := ρ.zipIdx.all fun p => match p.1 with
  | .own k' => !B p.2 || k' != k
  | _ => true
def mLst (mas : MA) : MA := fun ρ μ => (mas ρ μ).bind fun p => if p.1.length ≤ sizeLine then some p else none
def sApp (s : Bool) (B : Nat → Bool) (i : Nat) (m : ME) : MS := fun _ ρ μ => (cellL ρ μ i).bind fun _ => (m ρ μ).bind fun p => (cellL ρ p.2 i).bind fun q => if q.2.length < sizeLine ∧ (s || flat p.1) = true ∧ noBo B ρ q.1 = true then some (.next ρ (p.2.set q.1 (.lst (q.2 ++ [p.1])))) else none
section
variable {X : Cx} {T : List (Addr × Str)} {Φ : Fx} {B : Nat → Bool} {a b : Expr} {es : List Expr} {ma : ME} {mf mas : MA} {pos : Pos}
theorem pd_f (h : PDf X T Φ B a mf) : PDe X T Φ B a (eF mf) := PE.cons h fun σ H Q ⟨A, Z, ρ, μ, d, μ', R, hm, k⟩ => by
  unfold eF at hm
  cases e : mf ρ μ with
  | none => rw [e] at hm; cases hm
  | some p =>
    rw [e] at hm; cases hm
    refine ⟨A, Z, ρ, μ, p.1, p.2, R, e, fun l vs H1 f1 nz R1 n0 h1 h2 => k _ H1 f1 (R1.weakZ fun _ z => .inl z) ⟨l, vs, rfl, hid_rd_of (.inl h1) ?_, RpA.mono (hid_le fun x z => z.elim (fun z => .inl (.inl z)) .inr) _ _ h2⟩⟩
    rintro (z | z)
    · exact nz z
    · exact (R1.zo l (.inr rfl)).1 z.mem
theorem tF_new {σ : L2.St} {H H1 : Hp} {Q : VK} {A : List Addr} {Z : Addr → Prop} {ρ : List Slot} {μ' : List Cell} {ds : List D} {vs : List V} {l : Addr} (f1 : Fw (Wr B ρ A) H H1) (R1 : Rep X.K T Φ A Z σ H1 ρ μ') (hl : H1 l = none) (hp : RpA X.K (hid H1 (Zw B ρ A Z)) vs ds)
    (k : ∀ a vs H', Fw (Wr B ρ A) H H' → ¬ Z a → Rep X.K T Φ A (fun x => Z x ∨ x = a) σ H' ρ μ' → Fr H a → H' a = some (.lst vs) → RpA X.K (hid H' (Zw B ρ A fun x => Z x ∨ x = a)) vs ds → Q (.ref a) H') : Q (.ref l) (upd H1 l (.lst vs)) := by
  refine k l vs _ (f1.trans (Fw.same (same_upd hl))) (fun z => (R1.zo l z).2 (.inl hl)) (R1.more hl) (f1.there l (.inl hl)) upd_same (RpA.mono (fun x u e t => ?_) _ _ hp)
  have q := of_hid e
  have nx : x ≠ l := ne_of_none q.1 hl
  rw [hid_of, upd_ne nx]
  · exact q.1
  · rintro ((z | z) | z)
    · exact q.2 (.inl z)
    · exact nx z
    · exact q.2 (.inr z)
theorem pf_lst (h : PDa X T Φ B es mas) : PDf X T Φ B (.List es pos) (mLst mas) := PE.cons (pe_lst h) fun σ H Q ⟨A, Z, ρ, μ, ds, μ', R, hm, k⟩ => by
  unfold mLst at hm
  cases e : mas ρ μ with
  | none => rw [e] at hm; cases hm
  | some p =>
    rw [e, Option.bind_some] at hm
    split at hm
    · rename_i hl
      cases hm
      exact ⟨A, Z, ρ, μ, _, _, R, e, fun vs H1 f1 R1 p1 => ⟨by rw [p1.length]; exact hl, fun l hn => tF_new (B := B) f1 R1 hn p1 k⟩⟩
    · cases hm
theorem s_new (i : Nat) {x : Str} {pos' : Pos} (hN : X.N.Nodup) (ha : PDf X T Φ B0 a mf) (hi : X.N[i]? = some x := by rfl) (hx : Loc X.env.scope x := by first | exact Or.inl rfl | exact Or.inr rfl) (hs : swapsWith a (some (.Name x pos')) pos.line X.env = pure false := by rfl)
    (hf : X.fn x = true ∨ X.env.scope.names.lookup x = some .local := by first | exact .inl rfl | exact .inr rfl) : PDs X T Φ (.Assign [.Name x pos'] a pos) (sNew i mf) := PS.cons (ps_set hN hi hx ha hs hf) fun Dn σ H ⟨A, Z, n0, ρ, μ, fl, R, hn, hm, k⟩ => by
  unfold sNew at hm
  cases e : mf ρ μ with
  | none => rw [e] at hm; cases hm
  | some p =>
    rw [e] at hm; cases hm
    refine ⟨A, Z, ρ, μ, p.1, p.2, R, e, fun l vs H1 f1 nz R1 n1 h1 h2 => ?_⟩
    refine k _ H1 (A ++ [l]) ⟨f1.mono fun _ h => h.mem, [l], rfl, fun x hx => by rw [show x = l by simpa using hx]; exact n1⟩ (R1.push nz h1 (RpA.mono (hid_le fun x z => ?_) _ _ h2) i)
    exact zw0.mpr z
theorem cellL_some {ρ : List Slot} {μ : List Cell} {i k : Nat} {xs : List D} (h : cellL ρ μ i = some (k, xs)) : ρ[i]? = some (.own k) ∧ μ[k]? = some (.lst xs) := by
  unfold cellL at h
  split at h
  · rename_i k' e
    split at h
    · rename_i ys em
      cases h
      exact ⟨e, em⟩
    · cases h
  · cases h
theorem noBo_of {ρ : List Slot} {k : Nat} (h : noBo B ρ k = true) : ¬ Bo B ρ k := by
  rintro ⟨i, hB, e⟩
  unfold noBo at h
  rw [List.all_eq_true] at h
  have q := h (Slot.own k, i) (by rw [List.mem_zipIdx_iff_getElem?]; exact e)
  simp [hB] at q
/-- what is read of no cell, or has no list in it, may be kept -/
theorem keep_of {A : List Addr} {Z : Addr → Prop} {σ : L2.St} {H1 : Hp} {ρ : List Slot} {μ1 : List Cell} {v : V} {d : D} (R1 : Rep X.K T Φ A Z σ H1 ρ μ1) (h : flat d = true ∨ ∀ j, B j = false) (p1 : Rp X.K (hid H1 (Zw B ρ A Z)) v d) : Rp X.K (hid H1 fun a => Z a ∨ a ∈ A) v d := by
  rcases h with h | h
  · refine Rp.ofFlat (fun a xs h => ?_) _ _ h p1
    have q := hid_rd h
    refine hid_rd_of q.1 ?_
    rintro (z | z)
    · exact q.2 (.inl z)
    · obtain ⟨vs, e, co⟩ := R1.cellAt z
      rcases q.1 with w | ⟨o, w⟩ <;> rw [e] at w <;> cases w <;> cases co
  · have : B = B0 := funext h
    subst this
    exact Rp.mono (hid_le fun a h => zw0.mpr h) _ _ p1
theorem wr_of {A : List Addr} {ρ : List Slot} {k : Nat} {a : Addr} (h : noBo B ρ k = true) (e : A[k]? = some a) : Wr B ρ A a := ⟨k, e, noBo_of h⟩
theorem s_app (sb : Bool) (i : Nat) {x : Str} {p apos cpos : Pos} (hB : sb = true → B = B0) (ha : PDe X T Φ B a ma) (hN : X.N[i]? = some x := by rfl) (hv : Vis X.env.scope x := by first | exact Or.inl rfl | exact Or.inr (Or.inl rfl) | exact Or.inr (Or.inr rfl)) (hd : (x == ("__debug__" : Str)) = false := by decide) (hcd : (x == ("__classdict__" : Str)) = false := by decide)
    (hst : starEach [a] X.env = (false, eval a X.env) :: starEach [] X.env := by rfl)
    (he : PE X (.Call (.Attribute (.Name x p) "append" apos) [a] [] cpos) (tBM X.K "list" rAppend (tVar i) (tCons (tE X.K T Φ B ma) tNil))) (hs : swapsWith (.Call (.Attribute (.Name x p) "append" apos) [a] [] cpos) none pos.line X.env = pure false := by rfl) :
    PDs X T Φ (.Expr (.Call (.Attribute (.Name x p) "append" apos) [a] [] cpos) pos) (sApp sb B i ma) := PS.cons (ps_expr he hs) fun Dn σ H ⟨A, Z, n0, ρ, μ, fl, R, hn, hm, k⟩ => by
  unfold sApp at hm
  cases e0 : cellL ρ μ i with
  | none => rw [e0] at hm; cases hm
  | some c0 =>
  rw [e0, Option.bind_some] at hm
  obtain ⟨k0, xs0⟩ := c0
  obtain ⟨s01, s02⟩ := cellL_some e0
  cases e : ma ρ μ with
  | none => rw [e] at hm; cases hm
  | some q =>
    rw [e, Option.bind_some] at hm
    cases e2 : cellL ρ q.2 i with
    | none => rw [e2] at hm; cases hm
    | some c =>
      rw [e2, Option.bind_some] at hm
      split at hm
      · rename_i hc
        cases hm
        obtain ⟨c1, c2⟩ := c
        obtain ⟨s1, s2⟩ := cellL_some e2
        obtain ⟨l, a1, a2⟩ := R.slot i _ s1
        have kk : k0 = c1 := by rw [s1] at s01; cases s01; rfl
        subst kk
        obtain ⟨vs0, hl0, _⟩ := R.cell k0 _ l s02 a1
        refine ⟨.ref l, a2, .inl ⟨rfl, vs0, .inl (.inl hl0)⟩, A, Z, ρ, μ, q.1, q.2, R, e, fun y H1 f1 R1 p1 => ?_⟩
        obtain ⟨vs, h1, h2⟩ := R1.cell k0 (.lst _) l s2 a1
        refine ⟨l, vs, y, rfl, rfl, h1, by rw [h2.length]; exact hc.1, ?_⟩
        refine k σ _ A (Fs.of ((f1.mono fun _ h => h.mem).trans ⟨fun b o eb nb t => ?_, fun b eb => ?_⟩)) (R1.put a1 (RpA.app h2 (RpA.one (keep_of R1 ((Bool.or_eq_true_iff.mp hc.2.1).symm.imp_right fun z => by rw [hB z]; intro; rfl) p1))))
        · rw [upd_ne (show b ≠ l from fun z => nb (by rw [z]; exact List.mem_of_getElem? a1))]; exact eb
        · exact fr_up (fun ps z => by cases z) eb
      · cases hm
end
end PD
end
section
set_option linter.all false
set_option maxRecDepth 100000
set_option maxHeartbeats 4000000
/-! P5: defs: their promise, their calls; cells lent to a call. -/
namespace PD
open PySem PySem.Spec PyProof.Rows L2

abbrev FD := List Slot → List Cell → Option (D × List Cell)
def noFx : Fx := ⟨fun _ _ _ => False, fun _ h => h⟩
def spD (K : PySem.W.Frag) (T : List (Addr × Str)) (n : Nat) (F : FD) : Sp := fun vs H Q _ => vs.length = n ∧ ∃ A Z as cs d cs', Rep K T noFx A Z (vs.map some) H as cs ∧ F as cs = some (d, cs') ∧
  ∀ v H', Fw (· ∈ A) H H' → Rep K T noFx A Z (vs.map some) H' as cs' → Rp K (hid H' fun a => Z a ∨ a ∈ A) v d → Q v H'
/-- what the body m does with the arguments as, n names more being its own, the lent cells cs -/
def bodyF (n : Nat) (m : MS) : FD := fun as cs => (m cs.length (as ++ List.replicate n .non) cs).bind fun fl => match fl with
  | .ret d μ' => some (d, μ'.take cs.length)
  | .next _ μ' => some (.none, μ'.take cs.length)
  | _ => none
abbrev CtxF (P : Program) (w : World) (K : PySem.W.Frag) (mg : Str → Option Value) (base : Heap) (N : List Str) (qual : Str) (sc : Scope) (f : Addr) (cd : Value) (A : Around) (outer : List Env) (s : Shared) (H : Hp) (E : XK) : Cx := (cxOf CX0 P w K mg base N qual sc f cd A outer s H E).nox
section
variable {P : Program} {w : World} {K : PySem.W.Frag} {mg : Str → Option Value} {base : Heap} {T : List (Addr × Str)}
theorem entry_of {Φ : Fx} {N ps : List Str} {m : MS} {vs : List V} {H : Hp} {Q : VK} {A : List Addr} {Z : Addr → Prop} {as : List Slot} {cs : List Cell} {d : D} {cs' : List Cell} (hl : vs.length = ps.length) (R : Rep K T Φ A Z (vs.map some) H as cs) (hm : bodyF (N.length - ps.length) m as cs = some (d, cs'))
    (k : ∀ v H', Fw (· ∈ A) H H' → Rep K T Φ A Z (vs.map some) H' as cs' → Rp K (hid H' fun a => Z a ∨ a ∈ A) v d → Q v H') : tS K T Φ m { nx := fun _ H' => Q .non H', rt := Q } (L2.start N vs) H := by
  unfold bodyF at hm
  have la : as.length = vs.length := by rw [R.len, List.length_map]
  have R0 : Rep K T Φ A Z (L2.start N vs) H (as ++ List.replicate (N.length - ps.length) .non) cs := by
    refine ⟨by unfold L2.start; rw [List.length_append, List.length_append, List.length_replicate, List.length_replicate, List.length_map, la, hl], R.alen, R.nd, R.zo, R.tabs, R.cell, fun i s' e => ?_⟩
    unfold L2.start
    by_cases hi : i < as.length
    · rw [List.getElem?_append_left hi] at e
      rw [List.getElem?_append_left (by rw [List.length_map, ← la]; exact hi)]
      exact R.slot i s' e
    · rw [List.getElem?_append_right (by omega), List.getElem?_replicate] at e
      split at e
      · cases e; trivial
      · cases e
  cases e : m cs.length (as ++ List.replicate (N.length - ps.length) .non) cs with
  | none => rw [e] at hm; cases hm
  | some fl =>
    rw [e, Option.bind_some] at hm
    refine ⟨A, Z, cs.length, _, cs, fl, R0, by rw [R.alen]; exact Nat.le_refl _, e, ?_⟩
    have tk : A.take cs.length = A := by rw [← R.alen, List.take_length]
    have fin : ∀ {v : V} {H' : Hp} {d' : D} {μ' : List Cell}, RetOk K T A Z cs.length H H' v d' μ' → d' = d → μ'.take cs.length = cs' → Q v H' := by
      rintro v H' d' μ' ⟨f1, tb, hle, hc, hp⟩ rfl rfl
      rw [tk] at hc hp
      refine k v H' f1 ⟨R.len, by rw [List.length_take, R.alen]; omega, R.nd, fun a z => ⟨(R.zo a z).1, fun e => (R.zo a z).2 (f1.there a e)⟩, tb, fun j c a e1 e2 => ?_, fun i s e => (R.slot i s e).xt (f1.xt fun _ h => .inr h)⟩ hp
      have hj : j < cs.length := by have := (List.getElem?_eq_some_iff.mp e1).1; rw [List.length_take] at this; omega
      rw [List.getElem?_take_of_lt hj] at e1
      exact hc j c a hj e1 e2
    cases fl with
    | ret d' μ' =>
      cases hm
      exact fun v H' q => fin q rfl rfl
    | next ρ' μ' =>
      cases hm
      intro σ' H' A' fs R'
      obtain ⟨mo, em, hmo⟩ := fs.ext
      have q : RetOk K T A' Z cs.length H' H' .non .none μ' := ⟨Fw.refl _ _, R'.tabs, by rw [← R'.alen, em, List.length_append, R.alen]; omega, fun j c a hj e1 e2 => (R'.cell j c a e1 e2).hid fun x h => h.elim .inl fun z => .inr (List.mem_of_mem_take z), rfl⟩
      exact fin (q.later (by rw [R.alen]; exact Nat.le_refl _) fs) rfl rfl
    | brk _ _ => cases hm
    | cont _ _ => cases hm
def codeV (K : PySem.W.Frag) (f : Addr) : Value := match K.lookup f with
  | some ⟨_, _, .func fd, _⟩ => fd.code
  | _ => .none
theorem fnd_of {x qual : Str} {st : Stmt} {f : Addr} {fd : FuncData} {N ps : List Str} {k : Nat} {m : MS} (F : Fun K x qual st f fd) (S : FnScope N ps (defScope st))
    (hb : ∀ (cd : Value), cd = codeV K f → ∀ (A : Around) (outer : List Env) (s : Shared) (H : Hp) (E : XK), Room k (A.deeper (envOfC qual (defScope st) s.heap.objs.size f cd)) → PDss (CtxF P w K mg base N qual (defScope st) f cd A outer s H E) T noFx (defBody st) m) :
    FnOk P w K mg base CX0 (k + 1) f fd ps (spD K T ps.length (bodyF (N.length - ps.length) m)) := by
  obtain ⟨oc, od, kV, doc, pm, an, cdv, ct, osl, rfl, lk, hcd⟩ := F.ex
  refine fn_of lk hcd S (fun vs H Q E h => h.1) fun A outer s H vs Q E hr h => ⟨_, (hb cdv (by unfold codeV; rw [lk]) A outer s H E hr).nox, ?_⟩
  obtain ⟨hl, A, Z, as, cs, d, cs', R, hm, k⟩ := h
  exact entry_of hl R hm k
end

/-! ### arguments: data, or cells lent -/
inductive Arg where
  | v (d : D) | l (k : Nat)
abbrev MAr := List Slot → List Cell → Option (List Arg × List Cell)
def ArgAt (K : PySem.W.Frag) (Hv : Hp) (W : Addr → Prop) (A : List Addr) (x : V) : Arg → Prop
  | .v d => Rp K Hv x d
  | .l k => ∃ a, A[k]? = some a ∧ x = .ref a ∧ W a
def ArgsAt (K : PySem.W.Frag) (Hv : Hp) (W : Addr → Prop) (A : List Addr) (xs : List V) : List Arg → Prop
  | [] => xs = []
  | d :: ds => ∃ v r, xs = v :: r ∧ ArgAt K Hv W A v d ∧ ArgsAt K Hv W A r ds
def tAr (K : PySem.W.Frag) (T : List (Addr × Str)) (Φ : Fx) (B : Nat → Bool) (m : MAr) : TA := fun σ H Q => ∃ A Z ρ μ ds μ', Rep K T Φ A Z σ H ρ μ ∧ m ρ μ = some (ds, μ') ∧
  ∀ vs H', Fw (Wr B ρ A) H H' → Rep K T Φ A Z σ H' ρ μ' → ArgsAt K (hid H' (Zw B ρ A Z)) (Wr B ρ A) A vs ds → Q vs H'
abbrev PDr (X : Cx) (T : List (Addr × Str)) (Φ : Fx) (B : Nat → Bool) (es : List Expr) (m : MAr) : Prop := PA X es (tAr X.K T Φ B m)
def rN : MAr := fun _ μ => some ([], μ)
def rV (a : ME) (r : MAr) : MAr := fun ρ μ => (a ρ μ).bind fun p => (r ρ p.2).map fun q => (.v p.1 :: q.1, q.2)
def rL (B : Nat → Bool) (i : Nat) (r : MAr) : MAr := fun ρ μ => match ρ[i]? with
  | some (.own k) => if noBo B ρ k then (r ρ μ).map fun q => (.l k :: q.1, q.2) else none
  | _ => none
def lentOf : List Arg → List Nat
  | [] => []
  | .v _ :: r => lentOf r
  | .l k :: r => k :: lentOf r
def slotsOf : Nat → List Arg → List Slot
  | _, [] => []
  | j, .v d :: r => .val d :: slotsOf j r
  | j, .l _ :: r => .own j :: slotsOf (j + 1) r
def cellsOf (μ : List Cell) : List Nat → Option (List Cell)
  | [] => some []
  | k :: ks => match μ[k]? with
    | some c => (cellsOf μ ks).map (c :: ·)
    | none => none
def setCells : List Cell → List Nat → List Cell → List Cell
  | μ, k :: ks, c :: cs => setCells (μ.set k c) ks cs
  | μ, _, _ => μ
def nodupB : List Nat → Bool
  | [] => true
  | k :: ks => !ks.contains k && nodupB ks
def flatCs : List Cell → Bool
  | [] => true
  | c :: cs => flatC c && flatCs cs
def eCall (n : Nat) (F : FD) (r : MAr) : ME := fun ρ μ => (r ρ μ).bind fun p => (cellsOf p.2 (lentOf p.1)).bind fun cs => if nodupB (lentOf p.1) && (slotsOf 0 p.1).length == n then (F (slotsOf 0 p.1) cs).bind fun q => if flatCs q.2 then some (q.1, setCells p.2 (lentOf p.1) q.2) else none else none
theorem nodupB_of : ∀ {ks : List Nat}, nodupB ks = true → ks.Nodup
  | [], _ => List.nodup_nil
  | k :: ks, h => by
    have h : (!ks.contains k) = true ∧ nodupB ks = true := by simpa [nodupB] using h
    exact List.nodup_cons.mpr ⟨by simpa using h.1, nodupB_of h.2⟩
theorem flatCs_get : ∀ {cs : List Cell} {j : Nat} {c : Cell}, flatCs cs = true → cs[j]? = some c → flatC c = true
  | [], _, _, _, e => by simp at e
  | c :: cs, 0, _, h, e => by
    simp at e
    subst e
    exact (Bool.and_eq_true_iff.mp h).1
  | c :: cs, j + 1, _, h, e => flatCs_get (j := j) (Bool.and_eq_true_iff.mp h).2 (by simpa using e)
theorem cellsOf_get {μ : List Cell} : ∀ {ks : List Nat} {cs : List Cell}, cellsOf μ ks = some cs → cs.length = ks.length ∧ ∀ (j : Nat) (k : Nat), ks[j]? = some k → cs[j]? = μ[k]? ∧ k < μ.length
  | [], cs, h => by cases h; exact ⟨rfl, fun j k e => by simp at e⟩
  | k :: ks, cs, h => by
    unfold cellsOf at h
    split at h
    · rename_i c e
      cases e2 : cellsOf μ ks with
      | none => rw [e2] at h; cases h
      | some r =>
        rw [e2] at h
        have h : c :: r = cs := Option.some.inj h
        obtain ⟨h1, h2⟩ := cellsOf_get e2
        subst h
        refine ⟨by simp [h1], fun j k' ej => ?_⟩
        cases j with
        | zero => simp at ej; subst ej; exact ⟨by simpa using e.symm, (List.getElem?_eq_some_iff.mp e).1⟩
        | succ j => exact (by simpa using h2 j k' (by simpa using ej))
    · cases h
theorem setCells_length : ∀ (ks : List Nat) (cs μ : List Cell), (setCells μ ks cs).length = μ.length
  | [], [], _ => rfl
  | [], _ :: _, _ => rfl
  | k :: ks, [], _ => rfl
  | k :: ks, c :: cs, μ => by
    show (setCells (μ.set k c) ks cs).length = _
    rw [setCells_length ks cs, List.length_set]
theorem setCells_ne : ∀ (ks : List Nat) (cs μ : List Cell) (k : Nat), k ∉ ks → (setCells μ ks cs)[k]? = μ[k]?
  | [], [], _, _, _ => rfl
  | [], _ :: _, _, _, _ => rfl
  | _ :: _, [], _, _, _ => rfl
  | k' :: ks, c :: cs, μ, k, h => by
    show (setCells (μ.set k' c) ks cs)[k]? = _
    rw [setCells_ne ks cs _ k (fun z => h (List.mem_cons_of_mem _ z)), List.getElem?_set_ne (fun z => h (by rw [z]; exact List.mem_cons_self))]
theorem setCells_at : ∀ (ks : List Nat) (cs μ : List Cell) (j k : Nat) (c : Cell), ks.Nodup → ks[j]? = some k → cs[j]? = some c → k < μ.length → (setCells μ ks cs)[k]? = some c
  | [], _, _, _, _, _, _, h, _, _ => by simp at h
  | _ :: _, [], _, _, _, _, _, _, h, _ => by simp at h
  | k' :: ks, c' :: cs, μ, 0, k, c, nd, h1, h2, hl => by
    simp at h1 h2
    subst h1 h2
    show (setCells (μ.set k' c') ks cs)[k']? = _
    rw [setCells_ne ks cs _ k' (List.nodup_cons.mp nd).1, List.getElem?_set_self hl]
  | k' :: ks, c' :: cs, μ, j + 1, k, c, nd, h1, h2, hl => by
    show (setCells (μ.set k' c') ks cs)[k]? = _
    exact setCells_at ks cs _ j k c (List.nodup_cons.mp nd).2 (by simpa using h1) (by simpa using h2) (by rw [List.length_set]; exact hl)
theorem args_slots {K : PySem.W.Frag} {Hv : Hp} {W : Addr → Prop} {A : List Addr} : ∀ (as : List Arg) (vs : List V) (A0 : List Addr), ArgsAt K Hv W A vs as →
    (slotsOf A0.length as).length = vs.length ∧ ∀ (i : Nat) (s : Slot), (slotsOf A0.length as)[i]? = some s → SlotAt K noFx Hv (A0 ++ (lentOf as).map fun k => (A[k]?).getD 0) (vs.map some)[i]? s
  | [], vs, A0, h => by
    rw [show vs = [] from h]
    exact ⟨rfl, fun i s e => by simp [slotsOf] at e⟩
  | .v d :: r, vs, A0, ⟨v, vr, e1, h1, h2⟩ => by
    subst e1
    obtain ⟨q1, q2⟩ := args_slots r vr A0 h2
    refine ⟨by simp [slotsOf, q1], fun i s e => ?_⟩
    cases i with
    | zero => simp [slotsOf] at e; subst e; exact ⟨v, rfl, h1⟩
    | succ i => exact (by simpa [slotsOf, lentOf] using q2 i s (by simpa [slotsOf] using e))
  | .l k :: r, vs, A0, ⟨v, vr, e1, ⟨a, ha, ea, hw⟩, h2⟩ => by
    subst e1
    have q := args_slots r vr (A0 ++ [(A[k]?).getD 0]) h2
    rw [List.length_append, List.length_singleton, List.append_assoc] at q
    obtain ⟨q1, q2⟩ := q
    refine ⟨by simp [slotsOf, q1], fun i s e => ?_⟩
    cases i with
    | zero =>
      simp [slotsOf] at e
      subst e
      refine ⟨a, ?_, by simp [ea]⟩
      rw [List.getElem?_append_right (Nat.le_refl _), Nat.sub_self]
      simp [lentOf, ha]
    | succ i => exact (by simpa [slotsOf, lentOf] using q2 i s (by simpa [slotsOf] using e))
theorem args_lent {K : PySem.W.Frag} {Hv : Hp} {W : Addr → Prop} {A : List Addr} : ∀ {as : List Arg} {vs : List V}, ArgsAt K Hv W A vs as → ∀ k ∈ lentOf as, ∃ a, A[k]? = some a ∧ W a
  | [], _, _, k, hk => by simp [lentOf] at hk
  | .v d :: r, vs, ⟨v, vr, e1, h1, h2⟩, k, hk => args_lent h2 k hk
  | .l k' :: r, vs, ⟨v, vr, e1, ⟨a, ha, ea, hw⟩, h2⟩, k, hk => by
    rcases List.mem_cons.mp hk with e | hk
    · exact ⟨a, by rw [e]; exact ha, hw⟩
    · exact args_lent h2 k hk
section
variable {X : Cx} {T : List (Addr × Str)} {Φ : Fx} {B : Nat → Bool} {a b : Expr} {es : List Expr} {ma : ME} {mr : MAr} {pos : Pos}
theorem pr_n : PDr X T Φ B [] rN := PA.cons pa_nil fun σ H Q ⟨A, Z, ρ, μ, d, μ', R, hm, k⟩ => by
  cases hm
  exact k [] H (Fw.refl _ _) R rfl
theorem ArgsAt.mono {K : PySem.W.Frag} {Hv Hv' : Hp} {W : Addr → Prop} {A : List Addr} (e : XT Hv Hv') : ∀ {as : List Arg} {vs : List V}, ArgsAt K Hv W A vs as → ArgsAt K Hv' W A vs as
  | [], _, h => h
  | .v d :: r, vs, ⟨v, vr, e1, h1, h2⟩ => ⟨v, vr, e1, Rp.mono e _ _ h1, ArgsAt.mono e h2⟩
  | .l k' :: r, vs, ⟨v, vr, e1, h1, h2⟩ => ⟨v, vr, e1, h1, ArgsAt.mono e h2⟩
theorem pr_v (ha : PDe X T Φ B a ma) (hr : PDr X T Φ B es mr) (hs : starEach (a :: es) X.env = (false, eval a X.env) :: starEach es X.env := by rfl) : PDr X T Φ B (a :: es) (rV ma mr) := PA.cons (pa_cons ha hr hs) fun σ H Q ⟨A, Z, ρ, μ, ds, μ', R, hm, k⟩ => by
  unfold rV at hm
  cases e : ma ρ μ with
  | none => rw [e] at hm; cases hm
  | some p =>
    rw [e, Option.bind_some] at hm
    cases e' : mr ρ p.2 with
    | none => rw [e'] at hm; cases hm
    | some q =>
      rw [e'] at hm; cases hm
      refine ⟨A, Z, ρ, μ, p.1, p.2, R, e, fun x H1 f1 R1 p1 => ⟨A, Z, ρ, p.2, q.1, q.2, R1, e', fun y H2 f2 R2 p2 => ?_⟩⟩
      exact k _ H2 (f1.trans f2) R2 ⟨x, y, rfl, Rp.mono (fw_xt f2) _ _ p1, p2⟩
theorem pr_l (i : Nat) {x : Str} {p : Pos} (hr : PDr X T Φ B es mr) (hN : X.N[i]? = some x := by rfl) (hv : Vis X.env.scope x := by first | exact Or.inl rfl | exact Or.inr (Or.inl rfl) | exact Or.inr (Or.inr rfl)) (hd : (x == ("__debug__" : Str)) = false := by decide)
    (hcd : (x == ("__classdict__" : Str)) = false := by decide) (hs : starEach (.Name x p :: es) X.env = (false, eval (.Name x p) X.env) :: starEach es X.env := by rfl) : PDr X T Φ B (.Name x p :: es) (rL B i mr) := PA.cons (pa_cons (pe_var hN hv hd hcd) hr hs) fun σ H Q ⟨A, Z, ρ, μ, ds, μ', R, hm, k⟩ => by
  unfold rL at hm
  split at hm
  · rename_i kk e
    split at hm
    · rename_i hb
      cases e' : mr ρ μ with
      | none => rw [e'] at hm; cases hm
      | some q =>
        rw [e'] at hm; cases hm
        obtain ⟨l, h1, h2⟩ := R.slot i _ e
        exact ⟨.ref l, h2, A, Z, ρ, μ, q.1, q.2, R, e', fun y H2 f2 R2 p2 => k _ H2 f2 R2 ⟨.ref l, y, rfl, ⟨l, h1, rfl, wr_of hb h1⟩, p2⟩⟩
    · cases hm
  · cases hm
theorem call_of {n : Nat} {F : FD} (σ : L2.St) (H : Hp) (Q : VK) (h : tE X.K T Φ B (eCall n F mr) σ H Q) : tCall (spD X.K T n F) [] E0 (tAr X.K T Φ B mr) σ H Q := by
  obtain ⟨A, Z, ρ, μ, d, μ', R, hm, k⟩ := h
  unfold eCall at hm
  cases e : mr ρ μ with
  | none => rw [e] at hm; cases hm
  | some p =>
    rw [e, Option.bind_some] at hm
    obtain ⟨as, μ1⟩ := p
    dsimp only at hm
    cases e2 : cellsOf μ1 (lentOf as) with
    | none => rw [e2] at hm; cases hm
    | some cs =>
      rw [e2, Option.bind_some] at hm
      split at hm
      · rename_i hnd0
        have hnd := (Bool.and_eq_true_iff.mp hnd0).1
        have hlen := beq_iff_eq.mp (Bool.and_eq_true_iff.mp hnd0).2
        cases e3 : F (slotsOf 0 as) cs with
        | none => rw [e3] at hm; cases hm
        | some q =>
          rw [e3, Option.bind_some] at hm
          split at hm
          · rename_i hfl
            cases hm
            refine ⟨A, Z, ρ, μ, as, μ1, R, e, fun vs H1 f1 R1 p1 => ?_⟩
            show spD X.K T n F (vs ++ []) H1 Q E0
            rw [List.append_nil]
            have nd := nodupB_of hnd
            obtain ⟨c1, c2⟩ := cellsOf_get e2
            obtain ⟨s1, s2⟩ := args_slots as vs [] p1
            have lt := args_lent p1
            -- the lent cells' addresses
            generalize hA' : (lentOf as).map (fun k => (A[k]?).getD 0) = A' at s2
            have getA : ∀ (j : Nat) (x : Addr), A'[j]? = some x → ∃ k, (lentOf as)[j]? = some k ∧ A[k]? = some x ∧ Wr B ρ A x := fun j x ej => by
              rw [← hA', List.getElem?_map] at ej
              cases ek : (lentOf as)[j]? with
              | none => rw [ek] at ej; cases ej
              | some kk =>
                rw [ek] at ej
                obtain ⟨x', h1, h2⟩ := lt kk (List.mem_of_getElem? ek)
                have ej : (A[kk]?).getD 0 = x := Option.some.inj ej
                rw [h1] at ej
                have ej : x' = x := ej
                subst ej
                exact ⟨kk, rfl, h1, h2⟩
            have memA : ∀ x, x ∈ A' → Wr B ρ A x := fun x hx => by
              obtain ⟨j, hj⟩ := List.mem_iff_getElem?.mp hx
              obtain ⟨_, _, _, w⟩ := getA j x hj
              exact w
            have ndA : A'.Nodup := by
              rw [← hA']
              refine (List.pairwise_map).mpr (nd.imp_of_mem fun {x y} hx hy ne e => ?_)
              obtain ⟨x', h1, _⟩ := lt x hx
              obtain ⟨y', h2, _⟩ := lt y hy
              rw [h1, h2] at e
              have e : x' = y' := e
              subst e
              obtain ⟨l1, q1⟩ := List.getElem?_eq_some_iff.mp h1
              obtain ⟨l2, q2⟩ := List.getElem?_eq_some_iff.mp h2
              exact ne ((List.getElem_inj R.nd).mp (q1.trans q2.symm))
            let Z' : Addr → Prop := fun x => Zw B ρ A Z x ∧ x ∉ A'
            have hz : ∀ x, (Z' x ∨ x ∈ A') ↔ Zw B ρ A Z x := fun x => ⟨fun h => h.elim (fun z => z.1) fun z => .inr (memA x z), fun h => by
              by_cases hx : x ∈ A'
              · exact .inr hx
              · exact .inl ⟨h, hx⟩⟩
            have hzf : (fun x => Z' x ∨ x ∈ A') = Zw B ρ A Z := funext fun x => propext (hz x)
            have RC : Rep X.K T noFx A' Z' (vs.map some) H1 (slotsOf 0 as) cs := by
              refine ⟨by rw [List.length_map]; exact s1, by rw [← hA', List.length_map, c1], ndA, fun x z => ⟨z.2, R1.trackF x z.1⟩, R1.tabs, fun j c x e1 e4 => ?_, fun i s es => ?_⟩
              · obtain ⟨kk, ek, eA, _⟩ := getA j x e4
                rw [(c2 j kk ek).1] at e1
                exact (R1.cell kk c x e1 eA).hid fun y h => zw_le ((hz y).mp h)
              · rw [hzf]
                exact (by simpa using s2 i s es)
            refine ⟨by rw [← hlen]; exact s1.symm, A', Z', slotsOf 0 as, cs, q.1, q.2, RC, e3, fun v H2 f2 RC2 p2 => ?_⟩
            have fW : Fw (Wr B ρ A) H1 H2 := f2.mono memA
            have fA : Fw (fun x => x ∈ A) H1 H2 := fW.mono fun _ h => h.mem
            have isl : ∀ x ∈ A, ∃ ws, H2 x = some ws ∧ cellO ws = true := fun x hx => by
              by_cases h' : x ∈ A'
              · exact RC2.cellAt h'
              · obtain ⟨ws, ew, co⟩ := R1.cellAt hx
                exact ⟨ws, f2.keep x _ ew h' (fun ps z => by rw [z] at co; cases co), co⟩
            have tus : TuS (hid H2 (Zw B ρ A Z)) (hid H2 fun x => Z x ∨ x ∈ A) := fun x xs h => by
              have q := hid_rd h
              refine hid_rd_of q.1 ?_
              rintro (z | z)
              · exact q.2 (.inl z)
              · obtain ⟨ws, ew, co⟩ := isl x z
                rcases q.1 with w | ⟨o, w⟩ <;> rw [ew] at w <;> cases w <;> cases co
            have lq : q.2.length = (lentOf as).length := by rw [← RC2.alen, RC.alen, c1]
            refine k v H2 (f1.trans fW) ⟨R1.len, by rw [setCells_length]; exact R1.alen, R1.nd, fun x z => ⟨(R1.zo x z).1, fun e => (R1.zo x z).2 (f2.there x e)⟩, RC2.tabs, fun kk c x ec ex => ?_, fun i s es => (R1.slot i s es).xt (fA.xt fun _ h => .inr h)⟩ (by rw [hzf] at p2; exact p2)
            by_cases hk : kk ∈ lentOf as
            · obtain ⟨j, hj⟩ := List.mem_iff_getElem?.mp hk
              have hjl : j < q.2.length := by rw [lq]; exact (List.getElem?_eq_some_iff.mp hj).1
              have ej := setCells_at (lentOf as) q.2 μ1 j kk q.2[j] nd hj (List.getElem?_eq_getElem hjl) (c2 j kk hj).2
              rw [ej] at ec
              cases ec
              have ea : A'[j]? = some x := by rw [← hA', List.getElem?_map, hj]; show some ((A[kk]?).getD 0) = _; rw [ex]; rfl
              have qc := RC2.cell j _ x (List.getElem?_eq_getElem hjl) ea
              rw [hzf] at qc
              have hf := flatCs_get hfl (List.getElem?_eq_getElem hjl)
              cases ecell : q.2[j] with
              | lst xs =>
                rw [ecell] at qc hf
                obtain ⟨ws, w1, w2⟩ := qc
                exact ⟨ws, w1, RpA.ofFlat tus _ _ hf w2⟩
              | dct xs =>
                rw [ecell] at qc hf
                obtain ⟨ws, w1, w2⟩ := qc
                exact ⟨ws, w1, RpA.ofFlat tus _ _ hf w2⟩
            · rw [setCells_ne _ _ _ _ hk] at ec
              have nx : x ∉ A' := fun hx => by
                obtain ⟨j, hj⟩ := List.mem_iff_getElem?.mp hx
                obtain ⟨k2, e5, e6, _⟩ := getA j x hj
                obtain ⟨l1, q1⟩ := List.getElem?_eq_some_iff.mp ex
                obtain ⟨l2, q2⟩ := List.getElem?_eq_some_iff.mp e6
                have := (List.getElem_inj R.nd).mp (q1.trans q2.symm)
                exact hk (this ▸ List.mem_of_getElem? e5)
              exact (R1.cell kk c x ec ex).xt (fA.xt fun _ h => .inr h) fun o eo t => f2.keep x o eo nx t
          · cases hm
      · cases hm
variable {k n : Nat} {f : Addr} {fd : FuncData} {ps : List Str} {F : FD} {x : Str} {p : Pos}
theorem pd_call (G : FnOk X.prog X.w X.K X.mg X.base CX0 k f fd ps (spD X.K T n F)) (hr : Room k X.A) (hg : Gl X x) (hm : X.mg x = some (.ref f)) (hk : PySem.W.keepIn X.K (.ref f) = true) (hb : Binds X.K fd ps []) (ha : PDr X T Φ B (a :: es) mr)
    (hdb : (x == ("__debug__" : Str)) = false := by decide) (he : starEach (a :: es) X.env = (false, eval a X.env) :: starEach es X.env := by rfl) (hpl : (backTo pos (starEach es X.env)).any (·.1) = false := by rfl) :
    PDe X T Φ B (.Call (.Name x p) (a :: es) [] pos) (eCall n F mr) := PE.cons (pe_call G hr hg hm hk hb .nil pass0 ha hdb he hpl) call_of
theorem pd_call0 (G : FnOk X.prog X.w X.K X.mg X.base CX0 k f fd ps (spD X.K T n F)) (hr : Room k X.A) (hg : Gl X x) (hm : X.mg x = some (.ref f)) (hk : PySem.W.keepIn X.K (.ref f) = true) (hb : Binds X.K fd ps [])
    (hdb : (x == ("__debug__" : Str)) = false := by decide) : PDe X T Φ B (.Call (.Name x p) [] [] pos) (eCall n F rN) := PE.cons (pe_call0 G hr hg hm hk hb .nil pass0 hdb) fun σ H Q h => by
  obtain ⟨A, Z, ρ, μ, ds, μ', R, hm, k⟩ := call_of σ H Q h
  cases hm
  exact k [] H (Fw.refl _ _) R rfl
end
end PD
end
section
set_option linter.all false
set_option maxRecDepth 100000
set_option maxHeartbeats 4000000
/-! P6: list comprehensions by what they mean over data. -/
namespace PD
open PySem PySem.Spec PyProof.Rows L2

def isOwn (ρ : List Slot) (i : Nat) : Bool := match ρ[i]? with
  | some (.own _) => true
  | _ => false
def SameOwn (ρ ρ' : List Slot) : Prop := ∀ (i k : Nat), ρ'[i]? = some (.own k) ↔ ρ[i]? = some (.own k)
theorem SameOwn.bo {B : Nat → Bool} {ρ ρ' : List Slot} (h : SameOwn ρ ρ') (k : Nat) : Bo B ρ' k ↔ Bo B ρ k := ⟨fun ⟨i, a, b⟩ => ⟨i, a, (h i k).mp b⟩, fun ⟨i, a, b⟩ => ⟨i, a, (h i k).mpr b⟩⟩
theorem SameOwn.wr {B : Nat → Bool} {ρ ρ' : List Slot} {A : List Addr} (h : SameOwn ρ ρ') : Wr B ρ' A = Wr B ρ A := funext fun a => propext ⟨fun ⟨k, e, n⟩ => ⟨k, e, fun z => n ((h.bo k).mpr z)⟩, fun ⟨k, e, n⟩ => ⟨k, e, fun z => n ((h.bo k).mp z)⟩⟩
theorem SameOwn.refl (ρ : List Slot) : SameOwn ρ ρ := fun _ _ => Iff.rfl
theorem SameOwn.trans {ρ ρ1 ρ2 : List Slot} (a : SameOwn ρ ρ1) (b : SameOwn ρ1 ρ2) : SameOwn ρ ρ2 := fun i k => (b i k).trans (a i k)
theorem sameOwn_set {ρ : List Slot} {i : Nat} {s : Slot} (h : isOwn ρ i = false) (hs : ∀ k, s ≠ .own k) : SameOwn ρ (ρ.set i s) := fun j k => by
  by_cases hj : i = j
  · subst hj
    by_cases hl : i < ρ.length
    · rw [List.getElem?_set_self hl]
      constructor
      · intro e; exact absurd (Option.some.inj e) (hs k)
      · intro e; unfold isOwn at h; rw [e] at h; cases h
    · rw [List.getElem?_eq_none (by rw [List.length_set]; omega), List.getElem?_eq_none (by omega)]
  · rw [List.getElem?_set_ne hj]
def wipeD (ρ : List Slot) : List Nat → List Slot
  | [] => ρ
  | v :: vs => (wipeD ρ vs).set v .non
def noOwn (ρ : List Slot) : List Nat → Bool
  | [] => true
  | v :: vs => !isOwn ρ v && noOwn ρ vs
theorem wipeD_own {ρ : List Slot} : ∀ {vs : List Nat}, noOwn ρ vs = true → SameOwn ρ (wipeD ρ vs)
  | [], _ => SameOwn.refl _
  | v :: vs, h => by
    have h : (!isOwn ρ v) = true ∧ noOwn ρ vs = true := by simpa [noOwn] using h
    have q := wipeD_own h.2
    refine q.trans (sameOwn_set ?_ fun k z => by cases z)
    have : isOwn ρ v = false := by simpa using h.1
    unfold isOwn at this ⊢
    cases e : (wipeD ρ vs)[v]? with
    | none => rfl
    | some s =>
      cases s with
      | own k => rw [(q v k).mp e] at this; cases this
      | non => rfl
      | val _ => rfl
      | fn _ => rfl
theorem set_none_twice {σ : L2.St} {v : Nat} : (σ.set v none).set v none = σ.set v none := by rw [List.set_set]
theorem wipe_set {σ : L2.St} {i : Nat} {x : Option V} : ∀ {vs : List Nat}, i ∈ vs → wipe (σ.set i x) vs = wipe σ vs
  | [], h => by cases h
  | v :: vs, h => by
    show (wipe (σ.set i x) vs).set v none = (wipe σ vs).set v none
    rcases List.mem_cons.mp h with e | h
    · subst e
      have : ∀ (ws : List Nat), (wipe (σ.set i x) ws).set i none = (wipe σ ws).set i none := by
        intro ws
        induction ws with
        | nil => show (σ.set i x).set i none = σ.set i none; rw [List.set_set]
        | cons w ws ih =>
          show ((wipe (σ.set i x) ws).set w none).set i none = ((wipe σ ws).set w none).set i none
          by_cases hw : w = i
          · subst hw; rw [List.set_set, List.set_set]; exact ih
          · rw [List.set_comm _ _ hw, ih, List.set_comm _ _ hw]
      exact this vs
    · rw [wipe_set h]
theorem wipe_wipe {σ : L2.St} : ∀ (ws vs : List Nat), (∀ w ∈ ws, w ∈ vs) → wipe (wipe σ ws) vs = wipe σ vs
  | [], vs, _ => rfl
  | w :: ws, vs, h => by
    show wipe ((wipe σ ws).set w none) vs = _
    rw [wipe_set (h w List.mem_cons_self), wipe_wipe ws vs fun x hx => h x (List.mem_cons_of_mem _ hx)]
section
variable {K : PySem.W.Frag} {T : List (Addr × Str)} {Φ : Fx} {A : List Addr} {Z : Addr → Prop} {σ σ2 : L2.St} {H H' : Hp} {ρ ρ2 : List Slot} {μ μ2 : List Cell} {B : Nat → Bool}
theorem Rep.wiped (R : Rep K T Φ A Z σ H ρ μ) : ∀ vs : List Nat, Rep K T Φ A Z (wipe σ vs) H (wipeD ρ vs) μ
  | [] => R
  | v :: vs => by
    have R' := R.wiped vs
    refine ⟨by show ((wipeD ρ vs).set v .non).length = ((wipe σ vs).set v none).length; rw [List.length_set, List.length_set]; exact R'.len, R'.alen, R'.nd, R'.zo, R'.tabs, R'.cell, fun i s e => ?_⟩
    have e : ((wipeD ρ vs).set v .non)[i]? = some s := e
    show SlotAt K Φ _ A ((wipe σ vs).set v none)[i]? s
    by_cases hi : v = i
    · subst hi
      by_cases hl : v < (wipeD ρ vs).length
      · rw [List.getElem?_set_self hl] at e; cases e; trivial
      · rw [List.getElem?_eq_none (by rw [List.length_set]; omega)] at e; cases e
    · rw [List.getElem?_set_ne hi] at e
      rw [List.getElem?_set_ne hi]
      exact R'.slot i s e
/-- the slots as they were, cells and tables as they are -/
theorem Rep.mix (R : Rep K T Φ A Z σ H ρ μ) (R2 : Rep K T Φ A Z σ2 H' ρ2 μ2) (x : XT (hid H fun a => Z a ∨ a ∈ A) (hid H' fun a => Z a ∨ a ∈ A)) : Rep K T Φ A Z σ H' ρ μ2 :=
  ⟨R.len, R2.alen, R.nd, R2.zo, R2.tabs, R2.cell, fun i s e => (R.slot i s e).xt x⟩
/-- what is hidden is written -/
theorem Rep.hidPut {a : Addr} {xs ys : List V} (R : Rep K T Φ A Z σ H ρ μ) (hz : Z a) (ha : H a = some (.lst xs)) : Rep K T Φ A Z σ (upd H a (.lst ys)) ρ μ := by
  have na : a ∉ A := (R.zo a hz).1
  have xt : XT (hid H fun x => Z x ∨ x ∈ A) (hid (upd H a (.lst ys)) fun x => Z x ∨ x ∈ A) := fun x u e t => by
    have q := of_hid e
    rw [hid_of q.2, upd_ne (show x ≠ a from fun z => q.2 (.inl (by rw [z]; exact hz)))]
    exact q.1
  have nt : ∀ b o, H b = some o → (∀ vs, o ≠ .lst vs) → upd H a (.lst ys) b = some o := fun b o e n => by
    rw [upd_ne]
    · exact e
    · rintro rfl
      rw [e] at ha
      cases ha
      exact n _ rfl
  refine ⟨R.len, R.alen, R.nd, fun x z => ⟨(R.zo x z).1, fun e => ?_⟩, fun p hp => ?_, fun j c x e1 e2 => (R.cell j c x e1 e2).xt xt fun o q _ => ?_, fun i s e => (R.slot i s e).xt xt⟩
  · exact (R.zo x z).2 (fr_up (fun ps z => by cases z) e)
  · obtain ⟨ps, q1, q2, q3⟩ := R.tabs p hp
    refine ⟨ps, nt _ _ q1 (fun vs z => by cases z), q2, fun pos cv hc => ?_⟩
    obtain ⟨c, e1, e2⟩ := q3 pos cv hc
    exact ⟨c, e1, nt _ _ e2 (fun vs z => by unfold LamX.CodeO at z; cases z)⟩
  · rw [upd_ne (show x ≠ a from fun z => na (by rw [← z]; exact List.mem_of_getElem? e2))]; exact q
end

/-! ### targets of a block -/
def tGc (K : PySem.W.Frag) (T : List (Addr × Str)) (Φ : Fx) (w : List Nat) (g : MG) : TG := fun v σ H Q => ∃ A Z ρ μ d ρ' μ', Rep K T Φ A Z σ H ρ μ ∧ Rp K (hid H fun a => Z a ∨ a ∈ A) v d ∧ g d ρ μ = some (ρ', μ') ∧
  ∀ σ', Rep K T Φ A Z σ' H ρ' μ' → wipe σ' w = wipe σ w → SameOwn ρ ρ' → Q σ' H
def tGcs (K : PySem.W.Frag) (T : List (Addr × Str)) (Φ : Fx) (w : List Nat) (g : MGs) : TGs := fun vs σ H Q => ∃ A Z ρ μ ds ρ' μ', Rep K T Φ A Z σ H ρ μ ∧ RpA K (hid H fun a => Z a ∨ a ∈ A) vs ds ∧ g ds ρ μ = some (ρ', μ') ∧
  ∀ σ', Rep K T Φ A Z σ' H ρ' μ' → wipe σ' w = wipe σ w → SameOwn ρ ρ' → Q σ' H
abbrev PDc (X : Cx) (T : List (Addr × Str)) (Φ : Fx) (w : List Nat) (tg : Expr) (g : MG) : Prop := PG X tg (tGc X.K T Φ w g)
abbrev PDcs (X : Cx) (T : List (Addr × Str)) (Φ : Fx) (w : List Nat) (tg : List Expr) (g : MGs) : Prop := PGs X tg (tGcs X.K T Φ w g)
def gcN (i : Nat) : MG := fun d ρ μ => if isOwn ρ i then none else some (ρ.set i (.val d), μ)
section
variable {X : Cx} {T : List (Addr × Str)} {Φ : Fx} {B : Nat → Bool} {pos : Pos} {w : List Nat}
theorem pc_n (i : Nat) {x : Str} (hw : i ∈ w) (hN : X.N.Nodup) (hi : X.N[i]? = some x := by rfl) (hx : Loc X.env.scope x := by first | exact Or.inl rfl | exact Or.inr rfl) (hf : X.fn x = true ∨ X.env.scope.names.lookup x = some .local := by first | exact .inr rfl | exact .inl rfl) : PDc X T Φ w (.Name x pos) (gcN i) :=
  PG.cons (pg_name hN hi hx hf) fun v σ H Q ⟨A, Z, ρ, μ, d, ρ', μ', R, hp, hg, k⟩ => by
    unfold gcN at hg
    split at hg
    · cases hg
    · rename_i ho
      cases hg
      exact k _ (R.setVal i hp) (wipe_set hw) (sameOwn_set (by simpa using ho) fun k z => by cases z)
theorem pcs_n : PDcs X T Φ w [] gsN := PGs.cons pgs_nil fun vs σ H Q ⟨A, Z, ρ, μ, ds, ρ', μ', R, hp, hg, k⟩ => by
  unfold gsN at hg
  cases ds with
  | nil => cases hg; exact ⟨hp, k σ R rfl (SameOwn.refl _)⟩
  | cons d ds => cases hg
theorem pcs_c {e : Expr} {es : List Expr} {g : MG} {gs : MGs} (h1 : PDc X T Φ w e g) (h2 : PDcs X T Φ w es gs) (hs : (assignEach (e :: es) X.env).map (·.2) = assign e X.env :: (assignEach es X.env).map (·.2) := by rfl) : PDcs X T Φ w (e :: es) (gsC g gs) :=
  PGs.cons (pgs_cons h1 h2 hs) fun vs σ H Q ⟨A, Z, ρ, μ, ds, ρ', μ', R, hp, hg, k⟩ => by
    unfold gsC at hg
    cases ds with
    | nil => cases hg
    | cons d ds =>
      obtain ⟨v, r, rfl, hp1, hp2⟩ := hp
      have hg : (g d ρ μ).bind (fun p => gs ds p.1 p.2) = some (ρ', μ') := hg
      cases e1 : g d ρ μ with
      | none => rw [e1] at hg; cases hg
      | some p =>
        rw [e1, Option.bind_some] at hg
        exact ⟨v, r, rfl, A, Z, ρ, μ, d, p.1, p.2, R, hp1, e1, fun σ1 R1 w1 o1 => ⟨A, Z, p.1, p.2, ds, ρ', μ', R1, hp2, hg, fun σ2 R2 w2 o2 => k σ2 R2 (w2.trans w1) (o1.trans o2)⟩⟩
theorem pc_t {es : List Expr} {j n : Nat} {gs : MGs} (hc : X.calm = true) (h : PDcs X T Φ w es gs) (hn : (assignEach es X.env).length = n := by rfl) (hst : (assignEach es X.env).findIdx? (·.1) = none := by rfl) : PDc X T Φ w (.Tuple es j pos) (gT n gs) :=
  PG.cons (pg_tup hc h hn hst) fun v σ H Q ⟨A, Z, ρ, μ, d, ρ', μ', R, hp, hg, k⟩ => by
    unfold gT at hg
    split at hg
    · rename_i ds
      split at hg
      · rename_i hl
        obtain ⟨a, xs, rfl, h1, h2⟩ := hp
        exact ⟨a, xs, rfl, hid_sqT h1, by rw [h2.length]; exact hl, A, Z, ρ, μ, ds, ρ', μ', R, h2, hg, k⟩
      · cases hg
    · cases hg
end
def tTrue : MT := fun _ μ => some (true, μ)
abbrev PDts (X : Cx) (T : List (Addr × Str)) (Φ : Fx) (B : Nat → Bool) (es : List Expr) (m : MT) : Prop := PTs X es (tT X.K T Φ B m)
section
variable {X : Cx} {T : List (Addr × Str)} {Φ : Fx} {B : Nat → Bool} {c : Expr} {mt : MT}
theorem pts_0 : PDts X T Φ B [] tTrue := ⟨fun pins s σ H Q I ⟨A, Z, ρ, μ, d, μ', R, hm, k⟩ => by
  cases hm
  exact pts_nil.run pins s σ H Q I (k H (Fw.refl _ _) R)⟩
theorem pts_1 (h : PDt X T Φ B c mt) : PDts X T Φ B [c] mt := pts_one h
end
def lcD (g : MG) (t : MT) (e : ME) (ρ0 : List Slot) : List D → List Cell → Option (List D × List Cell)
  | [], μ => some ([], μ)
  | d :: ds, μ => (g d ρ0 μ).bind fun p => (t p.1 p.2).bind fun q => if q.1 = true then (e p.1 q.2).bind fun r => (lcD g t e ρ0 ds r.2).map fun z => (r.1 :: z.1, z.2) else lcD g t e ρ0 ds q.2
/-- s: what is walked is read of no cell, or is flat -/
def mLc (s : Bool) (mi : MA) (vs : List Nat) (g : MG) (t : MT) (e : ME) : MA := fun ρ μ => (mi ρ μ).bind fun p => if noOwn ρ vs && (s || flatA p.1) && decide (p.1.length ≤ sizeLine) then lcD g t e (wipeD ρ vs) p.1 p.2 else none
theorem flatA_get : ∀ {ds : List D} {i : Nat} {d : D}, flatA ds = true → ds[i]? = some d → flat d = true
  | [], _, _, _, e => by simp at e
  | d :: ds, 0, _, h, e => by
    simp at e
    subst e
    exact (Bool.and_eq_true_iff.mp h).1
  | d :: ds, j + 1, _, h, e => flatA_get (i := j) (Bool.and_eq_true_iff.mp h).2 (by simpa using e)
section
variable {X : Cx} {T : List (Addr × Str)} {Φ : Fx} {B : Nat → Bool} {mi : MA} {vs : List Nat} {g : MG} {mt : MT} {me : ME}
theorem lc_of {sb : Bool} (hsb : sb = true → B = B0) (σ : L2.St) (H : Hp) (Q : VK) (h : tF X.K T Φ B (mLc sb mi vs g mt me) σ H Q) : tLc (tI X.K T Φ B mi) (tGc X.K T Φ vs g) (tT X.K T Φ B mt) (tE X.K T Φ B me) vs σ H Q := by
  obtain ⟨A, Z, ρ, μ, res, μ', R, hm, k⟩ := h
  unfold mLc at hm
  cases e : mi ρ μ with
  | none => rw [e] at hm; cases hm
  | some p =>
    rw [e, Option.bind_some] at hm
    obtain ⟨ds, μ1⟩ := p
    dsimp only at hm
    split at hm
    · rename_i hc
      simp only [Bool.and_eq_true, decide_eq_true_eq] at hc
      obtain ⟨⟨hno, hfl⟩, hsz⟩ := hc
      refine ⟨A, Z, ρ, μ, ds, μ1, R, e, fun J H1 f1 R1 it Dn hD => ?_⟩
      have ow := wipeD_own hno
      have nzD : ¬ Z Dn := fun z => (R1.zo Dn z).2 (.inl hD)
      have Rb := R1.more (o := .lst []) hD
      have nDA : Dn ∉ A := (Rb.zo Dn (.inr rfl)).1
      have xtB : ∀ {Ha Hb : Hp}, Fw (fun a => Wr B ρ A a ∨ a = Dn) Ha Hb → XT (hid Ha (Zw B ρ A fun x => Z x ∨ x = Dn)) (hid Hb (Zw B ρ A fun x => Z x ∨ x = Dn)) := fun f => f.xt fun a z => z.elim .inr fun z => .inl (.inr z)
      have xtS : ∀ {Ha Hb : Hp}, Fw (fun a => Wr B ρ A a ∨ a = Dn) Ha Hb → XT (hid Ha fun a => (Z a ∨ a = Dn) ∨ a ∈ A) (hid Hb fun a => (Z a ∨ a = Dn) ∨ a ∈ A) := fun f => f.xt fun a z => z.elim (fun z => .inr z.mem) fun z => .inl (.inr z)
      have toA : ∀ {Ha Hb : Hp}, Fw (Wr B ρ A) Ha Hb → Fw (fun a => Wr B ρ A a ∨ a = Dn) Ha Hb := fun f => f.mono fun _ z => .inl z
      refine ⟨fun i m Hi => ∃ (acc : List V) (dacc rest : List D) (μi : List Cell), m = ds.length - i ∧ Rep X.K T Φ A (fun x => Z x ∨ x = Dn) (wipe σ vs) Hi (wipeD ρ vs) μi ∧ Hi Dn = some (.lst acc) ∧ RpA X.K (hid Hi (Zw B ρ A fun x => Z x ∨ x = Dn)) acc dacc ∧ acc.length ≤ i ∧
        Fw (fun a => Wr B ρ A a ∨ a = Dn) (upd H1 Dn (.lst [])) Hi ∧ lcD g mt me (wipeD ρ vs) (ds.drop i) μi = some (rest, μ') ∧ dacc ++ rest = res, ⟨ds.length, [], [], res, μ1, by simp, Rb.wiped vs, upd_same, rfl, Nat.le_refl _, Fw.refl _ _, by simpa using hm, rfl⟩, ?_⟩
      rintro i m Hi ⟨acc, dacc, rest, μi, em, Ri, hacc, pacc, lacc, fi, hl, er⟩
      have vis : XT (hid H1 (Zw B ρ A Z)) (hid Hi (Zw B ρ A fun x => Z x ∨ x = Dn)) := fun a o eo t => by
        have q := of_hid eo
        have na : a ≠ Dn := ne_of_none q.1 hD
        rw [hid_of]
        · refine fi.keep a o (by rw [upd_ne na]; exact q.1) ?_ t
          rintro (z | z)
          · exact q.2 (.inr z)
          · exact na z
        · rintro ((z | z) | z)
          · exact q.2 (.inl z)
          · exact na z
          · exact q.2 (.inr z)
      have trk : ∀ a, Zw B ρ A (fun x => Z x ∨ x = Dn) a → Hi a ≠ none := fun a z => by
        have z' : Zw B (wipeD ρ vs) A (fun x => Z x ∨ x = Dn) a := by rcases z with z | z; exact .inl z; exact .inr (by rw [ow.wr]; exact z)
        exact Ri.tracked a z'
      obtain ⟨hs, hgo⟩ := it Hi (Zw B ρ A fun x => Z x ∨ x = Dn) trk vis
      by_cases hi : i < ds.length
      · right
        obtain ⟨go, yl⟩ := hgo i ds[i] (List.getElem?_eq_getElem hi)
        refine ⟨go, fun H2 => ∃ (acc : List V) (dacc rest : List D) (μi : List Cell), Rep X.K T Φ A (fun x => Z x ∨ x = Dn) (wipe σ vs) H2 (wipeD ρ vs) μi ∧ H2 Dn = some (.lst acc) ∧ RpA X.K (hid H2 (Zw B ρ A fun x => Z x ∨ x = Dn)) acc dacc ∧ acc.length ≤ i + 1 ∧
          Fw (fun a => Wr B ρ A a ∨ a = Dn) (upd H1 Dn (.lst [])) H2 ∧ lcD g mt me (wipeD ρ vs) (ds.drop (i + 1)) μi = some (rest, μ') ∧ dacc ++ rest = res,
          fun H2 ⟨acc, dacc, rest, μi, a, b, c, d, e, f, g⟩ => ⟨ds.length - (i + 1), by omega, acc, dacc, rest, μi, rfl, a, b, c, d, e, f, g⟩, fun x H2 hy => ?_⟩
        obtain ⟨sm, px⟩ := yl x H2 hy
        rw [List.drop_eq_getElem_cons hi] at hl
        have hl : (g ds[i] (wipeD ρ vs) μi).bind (fun p => (mt p.1 p.2).bind fun q => if q.1 = true then (me p.1 q.2).bind fun r => (lcD g mt me (wipeD ρ vs) (ds.drop (i + 1)) r.2).map fun z => (r.1 :: z.1, z.2) else lcD g mt me (wipeD ρ vs) (ds.drop (i + 1)) q.2) = some (rest, μ') := hl
        cases e1 : g ds[i] (wipeD ρ vs) μi with
        | none => rw [e1] at hl; cases hl
        | some p1 =>
          obtain ⟨ρ1, μ2⟩ := p1
          rw [e1, Option.bind_some] at hl
          dsimp only at hl
          cases e2 : mt ρ1 μ2 with
          | none => rw [e2] at hl; cases hl
          | some q1 =>
            obtain ⟨t, μ3⟩ := q1
            rw [e2, Option.bind_some] at hl
            have Ri2 := Ri.same sm
            have px' : Rp X.K (hid H2 fun a => (Z a ∨ a = Dn) ∨ a ∈ A) x ds[i] := by
              have q : Rp X.K (hid H2 (Zw B (wipeD ρ vs) A fun x => Z x ∨ x = Dn)) x ds[i] := by
                refine Rp.mono (hid_le fun a z => ?_) _ _ px
                rcases z with z | z
                · exact .inl z
                · exact .inr (by rw [ow.wr] at z; exact z)
              refine keep_of Ri2 ?_ q
              rcases Bool.or_eq_true_iff.mp hfl with z | z
              · exact .inr fun j => by rw [hsb z]; rfl
              · exact .inl (flatA_get z (List.getElem?_eq_getElem hi))
            refine ⟨A, fun x => Z x ∨ x = Dn, wipeD ρ vs, μi, ds[i], ρ1, μ2, Ri2, px', e1, fun σ2 R2 w2 o2 => ⟨by rw [w2]; exact wipe_wipe vs vs fun _ h => h, ?_⟩⟩
            have oo : SameOwn ρ ρ1 := ow.trans o2
            refine ⟨A, fun x => Z x ∨ x = Dn, ρ1, μ2, t, μ3, R2, e2, fun H3 f3 R3 => ?_⟩
            rw [oo.wr] at f3
            have f13 : Fw (fun a => Wr B ρ A a ∨ a = Dn) Hi H3 := (Fw.same sm).trans (toA f3)
            cases t with
            | false =>
              refine iteF ?_
              have hl : lcD g mt me (wipeD ρ vs) (ds.drop (i + 1)) μ3 = some (rest, μ') := hl
              exact ⟨acc, dacc, rest, μ3, Ri.mix R3 (xtS f13), f3.keep Dn _ (sm Dn _ hacc) (fun z => nDA z.mem) (fun ps z => by cases z), RpA.mono (xtB f13) _ _ pacc, by omega, fi.trans f13, hl, er⟩
            | true =>
              refine iteT ?_
              have hl : (me ρ1 μ3).bind (fun r => (lcD g mt me (wipeD ρ vs) (ds.drop (i + 1)) r.2).map fun z => (r.1 :: z.1, z.2)) = some (rest, μ') := hl
              cases e3 : me ρ1 μ3 with
              | none => rw [e3] at hl; cases hl
              | some r1 =>
                obtain ⟨yd, μ4⟩ := r1
                rw [e3, Option.bind_some] at hl
                cases e4 : lcD g mt me (wipeD ρ vs) (ds.drop (i + 1)) μ4 with
                | none => rw [e4] at hl; cases hl
                | some z =>
                  rw [e4] at hl
                  cases hl
                  refine ⟨A, fun x => Z x ∨ x = Dn, ρ1, μ3, yd, μ4, R3, e3, fun y H4 f4 R4 p4 => ?_⟩
                  rw [oo.wr] at f4
                  have f14 : Fw (fun a => Wr B ρ A a ∨ a = Dn) Hi H4 := f13.trans (toA f4)
                  have hacc4 : H4 Dn = some (.lst acc) := f4.keep Dn _ (f3.keep Dn _ (sm Dn _ hacc) (fun z => nDA z.mem) (fun ps z => by cases z)) (fun z => nDA z.mem) (fun ps z => by cases z)
                  have p4 : Rp X.K (hid H4 (Zw B ρ A fun x => Z x ∨ x = Dn)) y yd := by
                    have : Zw B ρ1 A (fun x => Z x ∨ x = Dn) = Zw B ρ A (fun x => Z x ∨ x = Dn) := by unfold Zw; rw [oo.wr]
                    rw [this] at p4
                    exact p4
                  have fu : Fw (fun a => Wr B ρ A a ∨ a = Dn) H4 (upd H4 Dn (.lst (acc ++ [y]))) := ⟨fun b o eb nb t => by rw [upd_ne (show b ≠ Dn from fun z => nb (.inr z))]; exact eb, fun b eb => fr_up (fun ps z => by cases z) eb⟩
                  refine ⟨acc, hacc4, by have := sizeLine_eq; omega, acc ++ [y], dacc ++ [yd], z.1, μ4, ?_, upd_same, RpA.app (RpA.mono (xtB (f14.trans fu)) _ _ pacc) (RpA.one (Rp.mono (xtB fu) _ _ p4)), by rw [List.length_append]; simp; omega, (fi.trans f14).trans fu, e4, by rw [← er]; simp⟩
                  exact Ri.mix (R4.hidPut (.inr rfl) hacc4) (xtS (f14.trans fu))
      · left
        have hi' : ds.length ≤ i := by omega
        refine ⟨hs i hi', ?_⟩
        rw [List.drop_eq_nil_of_le hi'] at hl
        have hl : some (([] : List D), μi) = some (rest, μ') := hl
        cases hl
        rw [List.append_nil] at er
        subst er
        refine k Dn acc Hi (f1.trans ⟨fun a o ea na t => ?_, fun a ea => ?_⟩) nzD (Rb.mix Ri (xtS fi)) (f1.there _ (.inl hD)) hacc pacc
        · have nD : a ≠ Dn := ne_of_none ea hD
          exact fi.keep a o (by rw [upd_ne nD]; exact ea) (fun z => z.elim na nD) t
        · exact fr_up (fun ps z => by cases z) (fi.there a ea)
    · cases hm
theorem pf_lc {sb : Bool} {elt tg iter : Expr} {ifs : List Expr} {scope : Scope} {own : List (Str × Nat)} {pos : Pos} (hsb : sb = true → B = B0) (hc : X.calm = true) (hN : X.N.Nodup) (hi : PDi X T Φ B tg iter mi) (ok : BlkOk X.N X.env.scope scope own)
    (hg : ∀ (s : Shared) (H : Hp) (C : Addr) (cl : List (Str × Addr)) (fp : List Addr), PDc (X.blk s H scope (compEnvC scope cl C X.env) fp) T Φ (own.map (·.2)) tg g) (ht : ∀ (s : Shared) (H : Hp) (C : Addr) (cl : List (Str × Addr)) (fp : List Addr), PDts (X.blk s H scope (compEnvC scope cl C X.env) fp) T Φ B ifs mt)
    (he : ∀ (s : Shared) (H : Hp) (C : Addr) (cl : List (Str × Addr)) (fp : List Addr), PDe (X.blk s H scope (compEnvC scope cl C X.env) fp) T Φ B elt me) (hs : ∀ x, foldedSetIterable iter X.env x = pure x := by intro _; rfl) :
    PDf X T Φ B (.ListComp elt [⟨tg, iter, ifs, 0⟩] scope pos) (mLc sb mi (own.map (·.2)) g mt me) := PE.cons (pe_lc hc hN hi ok hg ht he hs) (lc_of hsb)
end
end PD
end
section
set_option linter.all false
set_option maxRecDepth 100000
set_option maxHeartbeats 4000000
/-! P7: ==, in, over data. -/
namespace PD
open PySem PySem.Spec PyProof.Rows L2

def eqL (f : D → D → Option Bool) : List D → List D → Option Bool
  | [], [] => some true
  | x :: xs, y :: ys => (f x y).bind fun p => (eqL f xs ys).map (p && ·)
  | [], _ :: _ => some false
  | _ :: _, [] => some false
def b2 (b : Bool) : Int := if b then 1 else 0
/-- == of two data, n levels deep -/
def eqF : Nat → D → D → Option Bool
  | 0, _, _ => none
  | n + 1, .list a, .list b => if a.length = b.length then eqL (eqF n) a b else some false
  | n + 1, .tuple a, .tuple b => eqL (eqF n) a b
  | _ + 1, .list _, .tuple _ => some false
  | _ + 1, .tuple _, .list _ => some false
  | _ + 1, .none, .none => some true
  | _ + 1, .bool a, .bool b => some (a == b)
  | _ + 1, .int a, .int b => some (a == b)
  | _ + 1, .bool a, .int b => some (b2 a == b)
  | _ + 1, .int a, .bool b => some (a == b2 b)
  | _ + 1, .str a, .str b => some (a == b)
  | _ + 1, .dict _, _ => none
  | _ + 1, _, .dict _ => none
  | _ + 1, .none, _ => some false
  | _ + 1, .bool _, _ => some false
  | _ + 1, .int _, _ => some false
  | _ + 1, .str _, _ => some false
  | _ + 1, .list _, _ => some false
  | _ + 1, .tuple _, _ => some false

section
variable {X : Cx} {pins : List (Addr × Obj)} {σ : L2.St} {H : Hp} {s : Shared}
theorem eqL_all {f : D → D → Option Bool} {e : Nat → Bool} : ∀ {ds es : List D} {r : Bool}, eqL f ds es = some r → (∀ (j : Nat) (d e' : D), ds[j]? = some d → es[j]? = some e' → f d e' = some (e j)) →
    ((List.range (min ds.length es.length)).all e && ds.length == es.length) = r
  | [], [], r, h, _ => by cases h; rfl
  | [], _ :: _, r, h, _ => by cases h; rfl
  | _ :: _, [], r, h, _ => by cases h; simp
  | x :: xs, y :: ys, r, h, he => by
    have h : (f x y).bind (fun p => (eqL f xs ys).map (p && ·)) = some r := h
    rw [he 0 x y rfl rfl, Option.bind_some] at h
    cases e2 : eqL f xs ys with
    | none => rw [e2] at h; cases h
    | some q =>
      rw [e2] at h
      have h : (e 0 && q) = r := Option.some.inj h
      have ih := eqL_all (e := fun j => e (j + 1)) e2 fun j d e' h1 h2 => he (j + 1) d e' (by simpa using h1) (by simpa using h2)
      rw [← h, ← ih, List.length_cons, List.length_cons, Nat.succ_min_succ, List.range_succ_eq_map, List.all_cons, List.all_map]
      simp only [Bool.and_assoc]
      congr 1
      congr 1
      rw [Bool.eq_iff_iff]
      simp
theorem eqL_get {f : D → D → Option Bool} : ∀ {ds es : List D} {r : Bool} {j : Nat} {d e : D}, eqL f ds es = some r → ds[j]? = some d → es[j]? = some e → ∃ b, f d e = some b
  | [], _, _, _, _, _, _, h, _ => by simp at h
  | _ :: _, [], _, _, _, _, _, _, h => by simp at h
  | x :: xs, y :: ys, r, j, d, e, h, h1, h2 => by
    have h : (f x y).bind (fun p => (eqL f xs ys).map (p && ·)) = some r := h
    cases e1 : f x y with
    | none => rw [e1] at h; cases h
    | some p =>
      rw [e1, Option.bind_some] at h
      cases e2 : eqL f xs ys with
      | none => rw [e2] at h; cases h
      | some q =>
        cases j with
        | zero => simp at h1 h2; subst h1 h2; exact ⟨p, e1⟩
        | succ j => exact eqL_get e2 (by simpa using h1) (by simpa using h2)
theorem eqL_same {f : D → D → Option Bool} (hf : ∀ d e v b, Rp X.K H v d → Rp X.K H v e → f d e = some b → b = true) : ∀ {ds es : List D} {vs : List V} {r : Bool}, RpA X.K H vs ds → RpA X.K H vs es → eqL f ds es = some r → r = true
  | [], [], _, r, _, _, h => by cases h; rfl
  | [], _ :: _, _, r, h1, ⟨_, _, e, _, _⟩, h => by rw [show _ = [] from h1] at e; cases e
  | _ :: _, [], _, r, ⟨_, _, e, _, _⟩, h1, h => by rw [show _ = [] from h1] at e; cases e
  | x :: xs, y :: ys, _, r, ⟨v, w, e0, g1, g2⟩, ⟨v', w', e0', k1, k2⟩, h => by
    rw [e0] at e0'
    cases e0'
    have h : (f x y).bind (fun p => (eqL f xs ys).map (p && ·)) = some r := h
    cases e1 : f x y with
    | none => rw [e1] at h; cases h
    | some p =>
      rw [e1, Option.bind_some] at h
      cases e2 : eqL f xs ys with
      | none => rw [e2] at h; cases h
      | some q =>
        rw [e2] at h
        have h : (p && q) = r := Option.some.inj h
        rw [← h, hf x y v p g1 k1 e1, eqL_same hf g2 k2 e2]; rfl
theorem ne_lt {a : Addr} {xs ys : List V} (I : Inv X pins σ H s) (h1 : SqL X.K H a xs) (h2 : SqT X.K H a ys) : False := by
  obtain ⟨its, _, pl, _⟩ := I.list h1
  obtain ⟨its2, _, pt, _⟩ := I.tuple h2
  obtain ⟨o, q1, q2, _⟩ := pl.isList
  obtain ⟨o', q3, q4, _⟩ := pt
  rw [q1] at q3
  cases q3
  rw [q2] at q4
  exact absurd (Value.type.inj q4) (by decide)
theorem eqF_same (I : Inv X pins σ H s) : ∀ (n : Nat) (d e : D) (v : V) (b : Bool), Rp X.K H v d → Rp X.K H v e → eqF n d e = some b → b = true
  | 0, _, _, _, _, _, _, h => by cases h
  | n + 1, d, e, v, b, h1, h2, h => by
    cases d with
    | none => rw [show v = .non from h1] at h2; cases e <;> first | (cases h; rfl) | exact nomatch h2 | (obtain ⟨_, q⟩ := h2; exact nomatch q.1) | (obtain ⟨_, _, q, _⟩ := h2; exact nomatch q)
    | bool x => rw [show v = .bl x from h1] at h2; cases e <;> first | exact nomatch (show (none : Option Bool) = some b from h) | (obtain ⟨_, _, q, _⟩ := h2; exact nomatch q) | (cases h2; cases h; simp; done) | exact nomatch h2
    | int x => rw [show v = .int x from h1] at h2; cases e <;> first | exact nomatch (show (none : Option Bool) = some b from h) | (obtain ⟨_, _, q, _⟩ := h2; exact nomatch q) | (cases h2; cases h; simp; done) | exact nomatch h2
    | str x => rw [show v = .str x from h1] at h2; cases e <;> first | exact nomatch (show (none : Option Bool) = some b from h) | (obtain ⟨_, _, q, _⟩ := h2; exact nomatch q) | (cases h2; cases h; simp; done) | exact nomatch h2
    | list ds =>
      obtain ⟨a, xs, rfl, g1, g2⟩ := h1
      cases e with
      | list es =>
        obtain ⟨a', ys, e2, k1, k2⟩ := h2
        cases e2
        have := I.list_inj (.inl g1) (.inl k1)
        subst this
        have h : (if ds.length = es.length then eqL (eqF n) ds es else some false) = some b := h
        rw [if_pos (by rw [← g2.length, ← k2.length])] at h
        exact eqL_same (eqF_same I n) g2 k2 h
      | tuple es => obtain ⟨a', ys, e2, k1, k2⟩ := h2; cases e2; exact (ne_lt I (.inl g1) k1).elim
      | dict _ => cases h
      | none => exact nomatch h2
      | bool _ => exact nomatch h2
      | int _ => exact nomatch h2
      | str _ => exact nomatch h2
    | tuple ds =>
      obtain ⟨a, xs, rfl, g1, g2⟩ := h1
      cases e with
      | tuple es =>
        obtain ⟨a', ys, e2, k1, k2⟩ := h2
        cases e2
        have := I.tuple_inj g1 k1
        subst this
        exact eqL_same (eqF_same I n) g2 k2 (show eqL (eqF n) ds es = some b from h)
      | list es => obtain ⟨a', ys, e2, k1, k2⟩ := h2; cases e2; exact (ne_lt I (.inl k1) g1).elim
      | dict _ => cases h
      | none => exact nomatch h2
      | bool _ => exact nomatch h2
      | int _ => exact nomatch h2
      | str _ => exact nomatch h2
    | dict _ => cases e <;> cases h
theorem getV {xs : List V} {us : List Value} (r : Vals xs us) {j : Nat} (h : j < us.toArray.size) : ∃ x, xs[j]? = some x ∧ RelV x us.toArray[j] := by
  have hl : j < us.length := by simpa using h
  have hx : j < xs.length := by rw [r.length]; exact hl
  obtain ⟨u, e, q⟩ := r.get (List.getElem?_eq_getElem hx)
  rw [List.getElem?_eq_getElem hl] at e
  cases e
  exact ⟨_, List.getElem?_eq_getElem hx, by simpa using q⟩
theorem RpA.at {ds : List D} {vs : List V} {j : Nat} {v : V} {K : PySem.W.Frag} {H : Hp} (h : RpA K H vs ds) (e : vs[j]? = some v) : ∃ d, ds[j]? = some d ∧ Rp K H v d := by
  have hl : j < ds.length := by rw [← h.length]; exact (List.getElem?_eq_some_iff.mp e).1
  obtain ⟨w, e', q⟩ := h.get (List.getElem?_eq_getElem hl)
  rw [e] at e'
  cases e'
  exact ⟨_, List.getElem?_eq_getElem hl, q⟩
open SeqAt in
theorem eqAt_rp (I : Inv X pins σ H s) : ∀ (n : Nat) (A : Around) (d e : D) (x y : V) (v u : Value) (b : Bool), A.units + n < cLine → Rp X.K H x d → Rp X.K H y e → RelV x v → RelV y u → eqF n d e = some b → EqAt A s v u b
  | 0, _, _, _, _, _, _, _, _, _, _, _, _, _, h => by cases h
  | n + 1, A, d, e, x, y, v, u, b, hu, h1, h2, r1, r2, h => by
    have hu0 : A.units < cLine := by omega
    have hin : A.in1.units + n < cLine := by show A.units + 1 + n < cLine; omega
    cases d with
    | none =>
      cases (show x = .non from h1); cases r1
      cases e with
      | none => cases (show y = .non from h2); cases r2; cases h; exact EqAt.same _
      | bool z => cases (show y = .bl z from h2); cases r2; cases h; exact EqAt.none_bool z
      | int z => cases (show y = .int z from h2); obtain ⟨t, rfl⟩ := r2; cases h; exact EqAt.none_int z t
      | str z => cases (show y = .str z from h2); obtain ⟨t, rfl⟩ := r2; cases h; exact EqAt.none_str z t
      | list es => obtain ⟨a, ys, rfl, k1, k2⟩ := h2; cases r2; cases h; obtain ⟨its, _, pl, _⟩ := I.list (.inl k1); exact EqAt.none_list pl.isList hu0
      | tuple es => obtain ⟨a, ys, rfl, k1, k2⟩ := h2; cases r2; cases h; obtain ⟨its, _, pl, _⟩ := I.tuple k1; exact EqAt.none_tuple pl hu0
      | dict _ => cases h
    | bool w =>
      cases (show x = .bl w from h1); cases r1
      cases e with
      | none => cases (show y = .non from h2); cases r2; cases h; exact EqAt.bool_none w
      | bool z => cases (show y = .bl z from h2); cases r2; cases h; exact EqAt.bool_bool w z
      | int z => cases (show y = .int z from h2); obtain ⟨t, rfl⟩ := r2; cases h; exact EqAt.bool_int w z t
      | str z => cases (show y = .str z from h2); obtain ⟨t, rfl⟩ := r2; cases h; exact EqAt.bool_str w z t
      | list es => obtain ⟨a, ys, rfl, k1, k2⟩ := h2; cases r2; cases h; obtain ⟨its, _, pl, _⟩ := I.list (.inl k1); exact EqAt.bool_list w pl.isList hu0
      | tuple es => obtain ⟨a, ys, rfl, k1, k2⟩ := h2; cases r2; cases h; obtain ⟨its, _, pl, _⟩ := I.tuple k1; exact EqAt.bool_tuple w pl hu0
      | dict _ => cases h
    | int w =>
      cases (show x = .int w from h1); obtain ⟨t0, rfl⟩ := r1
      cases e with
      | none => cases (show y = .non from h2); cases r2; cases h; exact EqAt.int_none w t0
      | bool z => cases (show y = .bl z from h2); cases r2; cases h; exact EqAt.int_bool w t0 z
      | int z => cases (show y = .int z from h2); obtain ⟨t, rfl⟩ := r2; cases h; exact EqAt.int_int w t0 z t
      | str z => cases (show y = .str z from h2); obtain ⟨t, rfl⟩ := r2; cases h; exact EqAt.int_str w t0 z t
      | list es => obtain ⟨a, ys, rfl, k1, k2⟩ := h2; cases r2; cases h; obtain ⟨its, _, pl, _⟩ := I.list (.inl k1); exact EqAt.int_list w t0 pl.isList hu0
      | tuple es => obtain ⟨a, ys, rfl, k1, k2⟩ := h2; cases r2; cases h; obtain ⟨its, _, pl, _⟩ := I.tuple k1; exact EqAt.int_tuple w t0 pl hu0
      | dict _ => cases h
    | str w =>
      cases (show x = .str w from h1); obtain ⟨t0, rfl⟩ := r1
      cases e with
      | none => cases (show y = .non from h2); cases r2; cases h; exact EqAt.str_none w t0
      | bool z => cases (show y = .bl z from h2); cases r2; cases h; exact EqAt.str_bool w t0 z
      | int z => cases (show y = .int z from h2); obtain ⟨t, rfl⟩ := r2; cases h; exact EqAt.str_int w t0 z t
      | str z => cases (show y = .str z from h2); obtain ⟨t, rfl⟩ := r2; cases h; exact EqAt.str_str w t0 z t
      | list es => obtain ⟨a, ys, rfl, k1, k2⟩ := h2; cases r2; cases h; obtain ⟨its, _, pl, _⟩ := I.list (.inl k1); exact EqAt.str_list w t0 pl.isList hu0
      | tuple es => obtain ⟨a, ys, rfl, k1, k2⟩ := h2; cases r2; cases h; obtain ⟨its, _, pl, _⟩ := I.tuple k1; exact EqAt.str_tuple w t0 pl hu0
      | dict _ => cases h
    | list ds =>
      obtain ⟨a, xs, rfl, g1, g2⟩ := id h1
      cases r1
      obtain ⟨its, rv, pl, _⟩ := I.list (.inl g1)
      cases e with
      | none => cases (show y = .non from h2); cases r2; cases h; exact EqAt.list_none pl.isList hu0
      | bool z => cases (show y = .bl z from h2); cases r2; cases h; exact EqAt.list_bool z pl.isList hu0
      | int z => cases (show y = .int z from h2); obtain ⟨t, rfl⟩ := r2; cases h; exact EqAt.list_int z t pl.isList hu0
      | str z => cases (show y = .str z from h2); obtain ⟨t, rfl⟩ := r2; cases h; exact EqAt.list_str z t pl.isList hu0
      | tuple es => obtain ⟨a', ys, rfl, k1, k2⟩ := h2; cases r2; cases h; obtain ⟨its', _, pl', _⟩ := I.tuple k1; exact EqAt.list_tuple pl.isList pl' hu0
      | dict _ => cases h
      | list es =>
        obtain ⟨a', ys, rfl, k1, k2⟩ := id h2
        cases r2
        obtain ⟨its', rv', pl', _⟩ := I.list (.inl k1)
        by_cases ha : a = a'
        · subst ha
          rw [eqF_same I (n + 1) _ _ _ _ h1 h2 h]
          exact EqAt.same _
        · refine EqAt.of_refs ha ?_
          have l1 := rv.length
          have l2 := rv'.length
          rw [g2.length] at l1
          rw [k2.length] at l2
          have h : (if ds.length = es.length then eqL (eqF n) ds es else some false) = some b := h
          by_cases hl : ds.length = es.length
          · rw [if_pos hl] at h
            have q := RcAt.lists (A := A) (s := s) (e := fun j => ((ds[j]?).bind fun d => (es[j]?).bind fun e => eqF n d e).getD false) pl.isList pl'.isList (by simp; omega) hu0 fun j j1 j2 => by
              obtain ⟨xv, ex, rx⟩ := getV rv j1
              obtain ⟨yv, ey, ry⟩ := getV rv' j2
              obtain ⟨dd, ed, pd⟩ := g2.at ex
              obtain ⟨de, ee, pe⟩ := k2.at ey
              obtain ⟨bb, eb⟩ := eqL_get h ed ee
              have : (((ds[j]?).bind fun d => (es[j]?).bind fun e => eqF n d e).getD false) = bb := by rw [ed, Option.bind_some, ee, Option.bind_some, eb]; rfl
              rw [this]
              exact eqAt_rp I n A.in1 dd de xv yv _ _ bb hin pd pe rx ry eb
            have t := eqL_all (e := fun j => ((ds[j]?).bind fun d => (es[j]?).bind fun e => eqF n d e).getD false) h fun j d e' e1 e2 => by
              obtain ⟨bb, eb⟩ := eqL_get h e1 e2
              rw [e1, Option.bind_some, e2, Option.bind_some, eb]; rfl
            rw [← t]
            have : (List.range its.toArray.size) = List.range (min ds.length es.length) := by congr 1; simp; omega
            rw [this] at q
            have hb : (ds.length == es.length) = true := by simpa using hl
            rw [hb, Bool.and_true]
            exact q
          · rw [if_neg hl] at h
            cases h
            exact RcAt.lists_lengths pl.isList pl'.isList (by simp; omega) hu0
    | tuple ds =>
      obtain ⟨a, xs, rfl, g1, g2⟩ := id h1
      cases r1
      obtain ⟨its, rv, pl, _⟩ := I.tuple g1
      cases e with
      | none => cases (show y = .non from h2); cases r2; cases h; exact EqAt.tuple_none pl hu0
      | bool z => cases (show y = .bl z from h2); cases r2; cases h; exact EqAt.tuple_bool z pl hu0
      | int z => cases (show y = .int z from h2); obtain ⟨t, rfl⟩ := r2; cases h; exact EqAt.tuple_int z t pl hu0
      | str z => cases (show y = .str z from h2); obtain ⟨t, rfl⟩ := r2; cases h; exact EqAt.tuple_str z t pl hu0
      | list es => obtain ⟨a', ys, rfl, k1, k2⟩ := h2; cases r2; cases h; obtain ⟨its', _, pl', _⟩ := I.list (.inl k1); exact EqAt.tuple_list pl pl'.isList hu0
      | dict _ => cases h
      | tuple es =>
        obtain ⟨a', ys, rfl, k1, k2⟩ := id h2
        cases r2
        obtain ⟨its', rv', pl', _⟩ := I.tuple k1
        by_cases ha : a = a'
        · subst ha
          rw [eqF_same I (n + 1) _ _ _ _ h1 h2 h]
          exact EqAt.same _
        · refine EqAt.of_refs ha ?_
          have l1 := rv.length
          have l2 := rv'.length
          rw [g2.length] at l1
          rw [k2.length] at l2
          have h : eqL (eqF n) ds es = some b := h
          have q := RcAt.tuples (A := A) (s := s) (e := fun j => ((ds[j]?).bind fun d => (es[j]?).bind fun e => eqF n d e).getD false) pl pl' hu0 fun j j1 j2 => by
            obtain ⟨xv, ex, rx⟩ := getV rv j1
            obtain ⟨yv, ey, ry⟩ := getV rv' j2
            obtain ⟨dd, ed, pd⟩ := g2.at ex
            obtain ⟨de, ee, pe⟩ := k2.at ey
            obtain ⟨bb, eb⟩ := eqL_get h ed ee
            have : (((ds[j]?).bind fun d => (es[j]?).bind fun e => eqF n d e).getD false) = bb := by rw [ed, Option.bind_some, ee, Option.bind_some, eb]; rfl
            rw [this]
            exact eqAt_rp I n A.in1 dd de xv yv _ _ bb hin pd pe rx ry eb
          have t := eqL_all (e := fun j => ((ds[j]?).bind fun d => (es[j]?).bind fun e => eqF n d e).getD false) h fun j d e' e1 e2 => by
            obtain ⟨bb, eb⟩ := eqL_get h e1 e2
            rw [e1, Option.bind_some, e2, Option.bind_some, eb]; rfl
          rw [← t]
          have z1 : its.toArray.size = ds.length := by simp; omega
          have z2 : its'.toArray.size = es.length := by simp; omega
          rw [z1, z2] at q
          exact q
    | dict _ => cases e <;> cases h
open SeqAt in
theorem rcAt_rp (I : Inv X pins σ H s) {n : Nat} {A : Around} {d e : D} {x y : V} {v u : Value} {b : Bool} (hu : A.units + (n + 1) < cLine) (h1 : Rp X.K H x d) (h2 : Rp X.K H y e) (r1 : RelV x v) (r2 : RelV y u) (h : eqF (n + 1) d e = some b) : RcAt A s v u b := by
    have hu0 : A.units < cLine := by omega
    have hin : A.in1.units + n < cLine := by show A.units + 1 + n < cLine; omega
    cases d with
    | none =>
      cases (show x = .non from h1); cases r1
      cases e with
      | none => cases (show y = .non from h2); cases r2; cases h; exact RcAt.none_none
      | bool z => cases (show y = .bl z from h2); cases r2; cases h; exact RcAt.none_bool z
      | int z => cases (show y = .int z from h2); obtain ⟨t, rfl⟩ := r2; cases h; exact RcAt.none_int z t
      | str z => cases (show y = .str z from h2); obtain ⟨t, rfl⟩ := r2; cases h; exact RcAt.none_str z t
      | list es => obtain ⟨a, ys, rfl, k1, k2⟩ := h2; cases r2; cases h; obtain ⟨its, _, pl, _⟩ := I.list (.inl k1); exact RcAt.none_list pl.isList hu0
      | tuple es => obtain ⟨a, ys, rfl, k1, k2⟩ := h2; cases r2; cases h; obtain ⟨its, _, pl, _⟩ := I.tuple k1; exact RcAt.none_tuple pl hu0
      | dict _ => cases h
    | bool w =>
      cases (show x = .bl w from h1); cases r1
      cases e with
      | none => cases (show y = .non from h2); cases r2; cases h; exact RcAt.bool_none w
      | bool z => cases (show y = .bl z from h2); cases r2; cases h; exact RcAt.bool_bool w z
      | int z => cases (show y = .int z from h2); obtain ⟨t, rfl⟩ := r2; cases h; exact RcAt.bool_int w z t
      | str z => cases (show y = .str z from h2); obtain ⟨t, rfl⟩ := r2; cases h; exact RcAt.bool_str w z t
      | list es => obtain ⟨a, ys, rfl, k1, k2⟩ := h2; cases r2; cases h; obtain ⟨its, _, pl, _⟩ := I.list (.inl k1); exact RcAt.bool_list w pl.isList hu0
      | tuple es => obtain ⟨a, ys, rfl, k1, k2⟩ := h2; cases r2; cases h; obtain ⟨its, _, pl, _⟩ := I.tuple k1; exact RcAt.bool_tuple w pl hu0
      | dict _ => cases h
    | int w =>
      cases (show x = .int w from h1); obtain ⟨t0, rfl⟩ := r1
      cases e with
      | none => cases (show y = .non from h2); cases r2; cases h; exact RcAt.int_none w t0
      | bool z => cases (show y = .bl z from h2); cases r2; cases h; exact RcAt.int_bool w t0 z
      | int z => cases (show y = .int z from h2); obtain ⟨t, rfl⟩ := r2; cases h; exact RcAt.int_int w t0 z t
      | str z => cases (show y = .str z from h2); obtain ⟨t, rfl⟩ := r2; cases h; exact RcAt.int_str w t0 z t
      | list es => obtain ⟨a, ys, rfl, k1, k2⟩ := h2; cases r2; cases h; obtain ⟨its, _, pl, _⟩ := I.list (.inl k1); exact RcAt.int_list w t0 pl.isList hu0
      | tuple es => obtain ⟨a, ys, rfl, k1, k2⟩ := h2; cases r2; cases h; obtain ⟨its, _, pl, _⟩ := I.tuple k1; exact RcAt.int_tuple w t0 pl hu0
      | dict _ => cases h
    | str w =>
      cases (show x = .str w from h1); obtain ⟨t0, rfl⟩ := r1
      cases e with
      | none => cases (show y = .non from h2); cases r2; cases h; exact RcAt.str_none w t0
      | bool z => cases (show y = .bl z from h2); cases r2; cases h; exact RcAt.str_bool w t0 z
      | int z => cases (show y = .int z from h2); obtain ⟨t, rfl⟩ := r2; cases h; exact RcAt.str_int w t0 z t
      | str z => cases (show y = .str z from h2); obtain ⟨t, rfl⟩ := r2; cases h; exact RcAt.str_str w t0 z t
      | list es => obtain ⟨a, ys, rfl, k1, k2⟩ := h2; cases r2; cases h; obtain ⟨its, _, pl, _⟩ := I.list (.inl k1); exact RcAt.str_list w t0 pl.isList hu0
      | tuple es => obtain ⟨a, ys, rfl, k1, k2⟩ := h2; cases r2; cases h; obtain ⟨its, _, pl, _⟩ := I.tuple k1; exact RcAt.str_tuple w t0 pl hu0
      | dict _ => cases h
    | list ds =>
      obtain ⟨a, xs, rfl, g1, g2⟩ := id h1
      cases r1
      obtain ⟨its, rv, pl, _⟩ := I.list (.inl g1)
      cases e with
      | none => cases (show y = .non from h2); cases r2; cases h; exact RcAt.list_none pl.isList hu0
      | bool z => cases (show y = .bl z from h2); cases r2; cases h; exact RcAt.list_bool z pl.isList hu0
      | int z => cases (show y = .int z from h2); obtain ⟨t, rfl⟩ := r2; cases h; exact RcAt.list_int z t pl.isList hu0
      | str z => cases (show y = .str z from h2); obtain ⟨t, rfl⟩ := r2; cases h; exact RcAt.list_str z t pl.isList hu0
      | tuple es => obtain ⟨a', ys, rfl, k1, k2⟩ := h2; cases r2; cases h; obtain ⟨its', _, pl', _⟩ := I.tuple k1; exact RcAt.list_tuple pl.isList pl' hu0
      | dict _ => cases h
      | list es =>
        obtain ⟨a', ys, rfl, k1, k2⟩ := id h2
        cases r2
        obtain ⟨its', rv', pl', _⟩ := I.list (.inl k1)
        · skip
          have l1 := rv.length
          have l2 := rv'.length
          rw [g2.length] at l1
          rw [k2.length] at l2
          have h : (if ds.length = es.length then eqL (eqF n) ds es else some false) = some b := h
          by_cases hl : ds.length = es.length
          · rw [if_pos hl] at h
            have q := RcAt.lists (A := A) (s := s) (e := fun j => ((ds[j]?).bind fun d => (es[j]?).bind fun e => eqF n d e).getD false) pl.isList pl'.isList (by simp; omega) hu0 fun j j1 j2 => by
              obtain ⟨xv, ex, rx⟩ := getV rv j1
              obtain ⟨yv, ey, ry⟩ := getV rv' j2
              obtain ⟨dd, ed, pd⟩ := g2.at ex
              obtain ⟨de, ee, pe⟩ := k2.at ey
              obtain ⟨bb, eb⟩ := eqL_get h ed ee
              have : (((ds[j]?).bind fun d => (es[j]?).bind fun e => eqF n d e).getD false) = bb := by rw [ed, Option.bind_some, ee, Option.bind_some, eb]; rfl
              rw [this]
              exact eqAt_rp I n A.in1 dd de xv yv _ _ bb hin pd pe rx ry eb
            have t := eqL_all (e := fun j => ((ds[j]?).bind fun d => (es[j]?).bind fun e => eqF n d e).getD false) h fun j d e' e1 e2 => by
              obtain ⟨bb, eb⟩ := eqL_get h e1 e2
              rw [e1, Option.bind_some, e2, Option.bind_some, eb]; rfl
            rw [← t]
            have : (List.range its.toArray.size) = List.range (min ds.length es.length) := by congr 1; simp; omega
            rw [this] at q
            have hb : (ds.length == es.length) = true := by simpa using hl
            rw [hb, Bool.and_true]
            exact q
          · rw [if_neg hl] at h
            cases h
            exact RcAt.lists_lengths pl.isList pl'.isList (by simp; omega) hu0
    | tuple ds =>
      obtain ⟨a, xs, rfl, g1, g2⟩ := id h1
      cases r1
      obtain ⟨its, rv, pl, _⟩ := I.tuple g1
      cases e with
      | none => cases (show y = .non from h2); cases r2; cases h; exact RcAt.tuple_none pl hu0
      | bool z => cases (show y = .bl z from h2); cases r2; cases h; exact RcAt.tuple_bool z pl hu0
      | int z => cases (show y = .int z from h2); obtain ⟨t, rfl⟩ := r2; cases h; exact RcAt.tuple_int z t pl hu0
      | str z => cases (show y = .str z from h2); obtain ⟨t, rfl⟩ := r2; cases h; exact RcAt.tuple_str z t pl hu0
      | list es => obtain ⟨a', ys, rfl, k1, k2⟩ := h2; cases r2; cases h; obtain ⟨its', _, pl', _⟩ := I.list (.inl k1); exact RcAt.tuple_list pl pl'.isList hu0
      | dict _ => cases h
      | tuple es =>
        obtain ⟨a', ys, rfl, k1, k2⟩ := id h2
        cases r2
        obtain ⟨its', rv', pl', _⟩ := I.tuple k1
        · skip
          have l1 := rv.length
          have l2 := rv'.length
          rw [g2.length] at l1
          rw [k2.length] at l2
          have h : eqL (eqF n) ds es = some b := h
          have q := RcAt.tuples (A := A) (s := s) (e := fun j => ((ds[j]?).bind fun d => (es[j]?).bind fun e => eqF n d e).getD false) pl pl' hu0 fun j j1 j2 => by
            obtain ⟨xv, ex, rx⟩ := getV rv j1
            obtain ⟨yv, ey, ry⟩ := getV rv' j2
            obtain ⟨dd, ed, pd⟩ := g2.at ex
            obtain ⟨de, ee, pe⟩ := k2.at ey
            obtain ⟨bb, eb⟩ := eqL_get h ed ee
            have : (((ds[j]?).bind fun d => (es[j]?).bind fun e => eqF n d e).getD false) = bb := by rw [ed, Option.bind_some, ee, Option.bind_some, eb]; rfl
            rw [this]
            exact eqAt_rp I n A.in1 dd de xv yv _ _ bb hin pd pe rx ry eb
          have t := eqL_all (e := fun j => ((ds[j]?).bind fun d => (es[j]?).bind fun e => eqF n d e).getD false) h fun j d e' e1 e2 => by
            obtain ⟨bb, eb⟩ := eqL_get h e1 e2
            rw [e1, Option.bind_some, e2, Option.bind_some, eb]; rfl
          rw [← t]
          have z1 : its.toArray.size = ds.length := by simp; omega
          have z2 : its'.toArray.size = es.length := by simp; omega
          rw [z1, z2] at q
          exact q
    | dict _ => cases e <;> cases h
open SeqAt in
theorem rcNeAt_rp (I : Inv X pins σ H s) {n : Nat} {A : Around} {d e : D} {x y : V} {v u : Value} {b : Bool} (hu : A.units + (n + 1) < cLine) (h1 : Rp X.K H x d) (h2 : Rp X.K H y e) (r1 : RelV x v) (r2 : RelV y u) (h : eqF (n + 1) d e = some b) : RcNeAt A s v u (!b) := by
    have hu0 : A.units < cLine := by omega
    have hin : A.in1.units + n < cLine := by show A.units + 1 + n < cLine; omega
    cases d with
    | none =>
      cases (show x = .non from h1); cases r1
      cases e with
      | none => cases (show y = .non from h2); cases r2; cases h; exact RcNeAt.none_none
      | bool z => cases (show y = .bl z from h2); cases r2; cases h; exact RcNeAt.none_bool z
      | int z => cases (show y = .int z from h2); obtain ⟨t, rfl⟩ := r2; cases h; exact RcNeAt.none_int z t
      | str z => cases (show y = .str z from h2); obtain ⟨t, rfl⟩ := r2; cases h; exact RcNeAt.none_str z t
      | list es => obtain ⟨a, ys, rfl, k1, k2⟩ := h2; cases r2; cases h; obtain ⟨its, _, pl, _⟩ := I.list (.inl k1); exact RcNeAt.none_list pl.isList hu0
      | tuple es => obtain ⟨a, ys, rfl, k1, k2⟩ := h2; cases r2; cases h; obtain ⟨its, _, pl, _⟩ := I.tuple k1; exact RcNeAt.none_tuple pl hu0
      | dict _ => cases h
    | bool w =>
      cases (show x = .bl w from h1); cases r1
      cases e with
      | none => cases (show y = .non from h2); cases r2; cases h; exact RcNeAt.bool_none w
      | bool z => cases (show y = .bl z from h2); cases r2; cases h; exact RcNeAt.bool_bool w z
      | int z => cases (show y = .int z from h2); obtain ⟨t, rfl⟩ := r2; cases h; exact RcNeAt.bool_int w z t
      | str z => cases (show y = .str z from h2); obtain ⟨t, rfl⟩ := r2; cases h; exact RcNeAt.bool_str w z t
      | list es => obtain ⟨a, ys, rfl, k1, k2⟩ := h2; cases r2; cases h; obtain ⟨its, _, pl, _⟩ := I.list (.inl k1); exact RcNeAt.bool_list w pl.isList hu0
      | tuple es => obtain ⟨a, ys, rfl, k1, k2⟩ := h2; cases r2; cases h; obtain ⟨its, _, pl, _⟩ := I.tuple k1; exact RcNeAt.bool_tuple w pl hu0
      | dict _ => cases h
    | int w =>
      cases (show x = .int w from h1); obtain ⟨t0, rfl⟩ := r1
      cases e with
      | none => cases (show y = .non from h2); cases r2; cases h; exact RcNeAt.int_none w t0
      | bool z => cases (show y = .bl z from h2); cases r2; cases h; exact RcNeAt.int_bool w t0 z
      | int z => cases (show y = .int z from h2); obtain ⟨t, rfl⟩ := r2; cases h; exact RcNeAt.int_int w t0 z t
      | str z => cases (show y = .str z from h2); obtain ⟨t, rfl⟩ := r2; cases h; exact RcNeAt.int_str w t0 z t
      | list es => obtain ⟨a, ys, rfl, k1, k2⟩ := h2; cases r2; cases h; obtain ⟨its, _, pl, _⟩ := I.list (.inl k1); exact RcNeAt.int_list w t0 pl.isList hu0
      | tuple es => obtain ⟨a, ys, rfl, k1, k2⟩ := h2; cases r2; cases h; obtain ⟨its, _, pl, _⟩ := I.tuple k1; exact RcNeAt.int_tuple w t0 pl hu0
      | dict _ => cases h
    | str w =>
      cases (show x = .str w from h1); obtain ⟨t0, rfl⟩ := r1
      cases e with
      | none => cases (show y = .non from h2); cases r2; cases h; exact RcNeAt.str_none w t0
      | bool z => cases (show y = .bl z from h2); cases r2; cases h; exact RcNeAt.str_bool w t0 z
      | int z => cases (show y = .int z from h2); obtain ⟨t, rfl⟩ := r2; cases h; exact RcNeAt.str_int w t0 z t
      | str z => cases (show y = .str z from h2); obtain ⟨t, rfl⟩ := r2; cases h; exact RcNeAt.str_str w t0 z t
      | list es => obtain ⟨a, ys, rfl, k1, k2⟩ := h2; cases r2; cases h; obtain ⟨its, _, pl, _⟩ := I.list (.inl k1); exact RcNeAt.str_list w t0 pl.isList hu0
      | tuple es => obtain ⟨a, ys, rfl, k1, k2⟩ := h2; cases r2; cases h; obtain ⟨its, _, pl, _⟩ := I.tuple k1; exact RcNeAt.str_tuple w t0 pl hu0
      | dict _ => cases h
    | list ds =>
      obtain ⟨a, xs, rfl, g1, g2⟩ := id h1
      cases r1
      obtain ⟨its, rv, pl, _⟩ := I.list (.inl g1)
      cases e with
      | none => cases (show y = .non from h2); cases r2; cases h; exact RcNeAt.list_none pl.isList hu0
      | bool z => cases (show y = .bl z from h2); cases r2; cases h; exact RcNeAt.list_bool z pl.isList hu0
      | int z => cases (show y = .int z from h2); obtain ⟨t, rfl⟩ := r2; cases h; exact RcNeAt.list_int z t pl.isList hu0
      | str z => cases (show y = .str z from h2); obtain ⟨t, rfl⟩ := r2; cases h; exact RcNeAt.list_str z t pl.isList hu0
      | tuple es => obtain ⟨a', ys, rfl, k1, k2⟩ := h2; cases r2; cases h; obtain ⟨its', _, pl', _⟩ := I.tuple k1; exact RcNeAt.list_tuple pl.isList pl' hu0
      | dict _ => cases h
      | list es =>
        obtain ⟨a', ys, rfl, k1, k2⟩ := id h2
        cases r2
        obtain ⟨its', rv', pl', _⟩ := I.list (.inl k1)
        · skip
          have l1 := rv.length
          have l2 := rv'.length
          rw [g2.length] at l1
          rw [k2.length] at l2
          have h : (if ds.length = es.length then eqL (eqF n) ds es else some false) = some b := h
          by_cases hl : ds.length = es.length
          · rw [if_pos hl] at h
            have q := RcNeAt.lists (A := A) (s := s) (e := fun j => ((ds[j]?).bind fun d => (es[j]?).bind fun e => eqF n d e).getD false) pl.isList pl'.isList (by simp; omega) hu0 fun j j1 j2 => by
              obtain ⟨xv, ex, rx⟩ := getV rv j1
              obtain ⟨yv, ey, ry⟩ := getV rv' j2
              obtain ⟨dd, ed, pd⟩ := g2.at ex
              obtain ⟨de, ee, pe⟩ := k2.at ey
              obtain ⟨bb, eb⟩ := eqL_get h ed ee
              have : (((ds[j]?).bind fun d => (es[j]?).bind fun e => eqF n d e).getD false) = bb := by rw [ed, Option.bind_some, ee, Option.bind_some, eb]; rfl
              rw [this]
              exact eqAt_rp I n A.in1 dd de xv yv _ _ bb hin pd pe rx ry eb
            have t := eqL_all (e := fun j => ((ds[j]?).bind fun d => (es[j]?).bind fun e => eqF n d e).getD false) h fun j d e' e1 e2 => by
              obtain ⟨bb, eb⟩ := eqL_get h e1 e2
              rw [e1, Option.bind_some, e2, Option.bind_some, eb]; rfl
            rw [← t]
            have : (List.range its.toArray.size) = List.range (min ds.length es.length) := by congr 1; simp; omega
            rw [this] at q
            have hb : (ds.length == es.length) = true := by simpa using hl
            rw [hb, Bool.and_true]
            exact q
          · rw [if_neg hl] at h
            cases h
            exact RcNeAt.lists_lengths pl.isList pl'.isList (by simp; omega) hu0
    | tuple ds =>
      obtain ⟨a, xs, rfl, g1, g2⟩ := id h1
      cases r1
      obtain ⟨its, rv, pl, _⟩ := I.tuple g1
      cases e with
      | none => cases (show y = .non from h2); cases r2; cases h; exact RcNeAt.tuple_none pl hu0
      | bool z => cases (show y = .bl z from h2); cases r2; cases h; exact RcNeAt.tuple_bool z pl hu0
      | int z => cases (show y = .int z from h2); obtain ⟨t, rfl⟩ := r2; cases h; exact RcNeAt.tuple_int z t pl hu0
      | str z => cases (show y = .str z from h2); obtain ⟨t, rfl⟩ := r2; cases h; exact RcNeAt.tuple_str z t pl hu0
      | list es => obtain ⟨a', ys, rfl, k1, k2⟩ := h2; cases r2; cases h; obtain ⟨its', _, pl', _⟩ := I.list (.inl k1); exact RcNeAt.tuple_list pl pl'.isList hu0
      | dict _ => cases h
      | tuple es =>
        obtain ⟨a', ys, rfl, k1, k2⟩ := id h2
        cases r2
        obtain ⟨its', rv', pl', _⟩ := I.tuple k1
        · skip
          have l1 := rv.length
          have l2 := rv'.length
          rw [g2.length] at l1
          rw [k2.length] at l2
          have h : eqL (eqF n) ds es = some b := h
          have q := RcNeAt.tuples (A := A) (s := s) (e := fun j => ((ds[j]?).bind fun d => (es[j]?).bind fun e => eqF n d e).getD false) pl pl' hu0 fun j j1 j2 => by
            obtain ⟨xv, ex, rx⟩ := getV rv j1
            obtain ⟨yv, ey, ry⟩ := getV rv' j2
            obtain ⟨dd, ed, pd⟩ := g2.at ex
            obtain ⟨de, ee, pe⟩ := k2.at ey
            obtain ⟨bb, eb⟩ := eqL_get h ed ee
            have : (((ds[j]?).bind fun d => (es[j]?).bind fun e => eqF n d e).getD false) = bb := by rw [ed, Option.bind_some, ee, Option.bind_some, eb]; rfl
            rw [this]
            exact eqAt_rp I n A.in1 dd de xv yv _ _ bb hin pd pe rx ry eb
          have t := eqL_all (e := fun j => ((ds[j]?).bind fun d => (es[j]?).bind fun e => eqF n d e).getD false) h fun j d e' e1 e2 => by
            obtain ⟨bb, eb⟩ := eqL_get h e1 e2
            rw [e1, Option.bind_some, e2, Option.bind_some, eb]; rfl
          rw [← t]
          have z1 : its.toArray.size = ds.length := by simp; omega
          have z2 : its'.toArray.size = es.length := by simp; omega
          rw [z1, z2] at q
          exact q
    | dict _ => cases e <;> cases h
end
end PD
end
section
set_option linter.all false
set_option maxRecDepth 100000
set_option maxHeartbeats 4000000
/-! P8: the operators over data. -/
namespace PD
open PySem PySem.Spec PyProof.Rows L2

/-! ### ==, !=, in, not in -/
def gEq : G2 := fun d e => (eqF 40 d e).map .bool
def gNe : G2 := fun d e => (eqF 40 d e).map fun b => .bool (!b)
def rEq40 (K : PySem.W.Frag) : R2 := fun x y H Q => ∃ d e b, Rp K H x d ∧ Rp K H y e ∧ eqF 40 d e = some b ∧ Q (.bl b) H
def rNe40 (K : PySem.W.Frag) : R2 := fun x y H Q => ∃ d e b, Rp K H x d ∧ Rp K H y e ∧ eqF 40 d e = some b ∧ Q (.bl (!b)) H
/-- of a list's or a tuple's items x is one -/
def anyF (x : D) : List D → Option Bool
  | [] => some false
  | y :: ys => (eqF 39 y x).bind fun p => (anyF x ys).map (p || ·)
def itemsOf : D → Option (List D)
  | .list ds => some ds
  | .tuple ds => some ds
  | _ => none
def signIn (x z : Str) : Option Bool := match x.cps.toList with
  | [c] => some (decide (c ∈ z.cps.toList))
  | _ => none
def gInB : D → D → Option Bool
  | .str x, .str z => signIn x z
  | x, .list ds => anyF x ds
  | x, .tuple ds => anyF x ds
  | _, _ => none
def gIn : G2 := fun x y => (gInB x y).map .bool
def gNotIn : G2 := fun x y => (gInB x y).map fun b => .bool (!b)
section
variable {X : Cx}
theorem hidRp {K : PySem.W.Frag} {H : Hp} {Z : Addr → Prop} {v : V} {d : D} (h : Rp K (hid H Z) v d) : Rp K H v d := Rp.mono (hid_xt H Z) _ _ h
theorem hidRpA {K : PySem.W.Frag} {H : Hp} {Z : Addr → Prop} {v : List V} {d : List D} (h : RpA K (hid H Z) v d) : RpA K H v d := RpA.mono (hid_xt H Z) _ _ h
theorem or_eq40 (hu : X.A.units + 64 < cLine) : OpR X (compareOp .Eq) (rEq40 X.K) := by
  intro pins s σ H x y v u Q I rx ry h
  obtain ⟨d, e, b, h1, h2, h3, q⟩ := h
  exact rcAt_rp I (n := 39) (A := X.A) (by omega) h1 h2 rx ry h3 X.prog X.w X.xe _ ⟨.bl b, H, I, rfl, q⟩
theorem or_ne40 (hu : X.A.units + 64 < cLine) : OpR X (compareOp .NotEq) (rNe40 X.K) := by
  intro pins s σ H x y v u Q I rx ry h
  obtain ⟨d, e, b, h1, h2, h3, q⟩ := h
  exact rcNeAt_rp I (n := 39) (A := X.A) (by omega) h1 h2 rx ry h3 X.prog X.w X.xe _ ⟨.bl _, H, I, rfl, q⟩
theorem rd_eq {K : PySem.W.Frag} : RD K (rEq40 K) gEq := fun H Z x y d1 d2 d Q hz h1 h2 hg k => by
  unfold gEq at hg
  cases e : eqF 40 d1 d2 with
  | none => rw [e] at hg; cases hg
  | some b => rw [e] at hg; cases hg; exact ⟨d1, d2, b, hidRp h1, hidRp h2, e, k _ H (Same.refl H) rfl⟩
theorem rd_ne {K : PySem.W.Frag} : RD K (rNe40 K) gNe := fun H Z x y d1 d2 d Q hz h1 h2 hg k => by
  unfold gNe at hg
  cases e : eqF 40 d1 d2 with
  | none => rw [e] at hg; cases hg
  | some b => rw [e] at hg; cases hg; exact ⟨d1, d2, b, hidRp h1, hidRp h2, e, k _ H (Same.refl H) rfl⟩
/-! in -/
theorem anyF_get {x : D} : ∀ {ds : List D} {r : Bool}, anyF x ds = some r → ∀ (j : Nat) (d : D), ds[j]? = some d → ∃ b, eqF 39 d x = some b ∧ (b = true → r = true)
  | [], _, _, j, d, h => by simp at h
  | y :: ys, r, h, j, d, hd => by
    have h : (eqF 39 y x).bind (fun p => (anyF x ys).map (p || ·)) = some r := h
    cases e1 : eqF 39 y x with
    | none => rw [e1] at h; cases h
    | some p =>
      rw [e1, Option.bind_some] at h
      cases e2 : anyF x ys with
      | none => rw [e2] at h; cases h
      | some q =>
        rw [e2] at h
        have h : (p || q) = r := Option.some.inj h
        cases j with
        | zero => simp at hd; subst hd; exact ⟨p, e1, fun z => by rw [← h, z]; rfl⟩
        | succ j =>
          obtain ⟨b, h1, h2⟩ := anyF_get e2 j d (by simpa using hd)
          exact ⟨b, h1, fun z => by rw [← h, h2 z]; simp⟩
theorem anyF_true {x : D} : ∀ {ds : List D}, anyF x ds = some true → ∃ (j : Nat) (d : D), ds[j]? = some d ∧ eqF 39 d x = some true
  | [], h => by cases h
  | y :: ys, h => by
    have h : (eqF 39 y x).bind (fun p => (anyF x ys).map (p || ·)) = some true := h
    cases e1 : eqF 39 y x with
    | none => rw [e1] at h; cases h
    | some p =>
      rw [e1, Option.bind_some] at h
      cases e2 : anyF x ys with
      | none => rw [e2] at h; cases h
      | some q =>
        rw [e2] at h
        have h : (p || q) = true := Option.some.inj h
        rcases Bool.or_eq_true_iff.mp h with z | z
        · subst z; exact ⟨0, y, rfl, e1⟩
        · subst z
          obtain ⟨j, d, h1, h2⟩ := anyF_true e2
          exact ⟨j + 1, d, by simpa using h1, h2⟩
open SeqAt in
theorem in_items {pins : List (Addr × Obj)} {s : Shared} {σ : L2.St} {H : Hp} (I : Inv X pins σ H s) (hu : X.A.units + 64 < cLine) {x : V} {v : Value} {d : D} {vs : List V} {its : List Value} {ds : List D} {r : Bool} (rx : RelV x v) (hx : Rp X.K H x d) (rv : Vals vs its) (hd : RpA X.K H vs ds) (h : anyF d ds = some r) :
    ∃ e : Value → Bool, (∀ y, y ∈ its.toArray → EqAt X.A.in1 s y v (e y)) ∧ its.toArray.any e = r := by
  classical
  have at_ : ∀ (j : Nat) (u : Value), its[j]? = some u → ∃ b, ds[j]?.bind (fun dd => eqF 39 dd d) = some b ∧ EqAt X.A.in1 s u v b := fun j u eu => by
    have hj : j < vs.length := by rw [rv.length]; exact (List.getElem?_eq_some_iff.mp eu).1
    obtain ⟨u', e1, r1⟩ := rv.get (List.getElem?_eq_getElem hj)
    rw [eu] at e1
    cases e1
    obtain ⟨dd, e2, p2⟩ := hd.at (List.getElem?_eq_getElem hj)
    obtain ⟨b, e3, _⟩ := anyF_get h j dd e2
    exact ⟨b, by rw [e2, Option.bind_some, e3], eqAt_rp I 39 X.A.in1 dd d _ x u v b (by show X.A.units + 1 + 39 < cLine; omega) p2 hx r1 rx e3⟩
  refine ⟨fun u => decide (∃ j : Nat, its[j]? = some u ∧ ds[j]?.bind (fun dd => eqF 39 dd d) = some true), fun y hy => ?_, ?_⟩
  · by_cases hex : ∃ j : Nat, its[j]? = some y ∧ ds[j]?.bind (fun dd => eqF 39 dd d) = some true
    · obtain ⟨j, h1, h2⟩ := id hex
      obtain ⟨b, h3, h4⟩ := at_ j y h1
      rw [h2] at h3
      cases h3
      dsimp only
      rw [decide_eq_true hex]
      exact h4
    · obtain ⟨j, hj⟩ := List.mem_iff_getElem?.mp (show y ∈ its by simpa using hy)
      obtain ⟨b, h3, h4⟩ := at_ j y hj
      dsimp only
      rw [decide_eq_false hex]
      cases b with
      | false => exact h4
      | true => exact absurd ⟨j, hj, h3⟩ hex
  · rw [show its.toArray.any (fun u => decide (∃ j : Nat, its[j]? = some u ∧ ds[j]?.bind (fun dd => eqF 39 dd d) = some true)) = its.any (fun u => decide (∃ j : Nat, its[j]? = some u ∧ ds[j]?.bind (fun dd => eqF 39 dd d) = some true)) by simp]
    cases r with
    | true =>
      obtain ⟨j, dd, h1, h2⟩ := anyF_true h
      have hj : j < its.length := by rw [← rv.length, hd.length]; exact (List.getElem?_eq_some_iff.mp h1).1
      exact List.any_eq_true.mpr ⟨its[j], List.getElem_mem hj, decide_eq_true ⟨j, List.getElem?_eq_getElem hj, by rw [h1, Option.bind_some, h2]⟩⟩
    | false =>
      refine List.any_eq_false.mpr fun u hu' q => ?_
      obtain ⟨j, h1, h2⟩ := of_decide_eq_true q
      cases e : ds[j]? with
      | none => rw [e] at h2; cases h2
      | some dd =>
        rw [e, Option.bind_some] at h2
        obtain ⟨b, h3, h4⟩ := anyF_get h j dd e
        rw [h2] at h3
        cases h3
        exact absurd (h4 rfl) (by decide)
def rIn40 (K : PySem.W.Frag) (neg : Bool) : R2 := fun x y H Q => ∃ d a vs ds r, y = .ref a ∧ (SqL K H a vs ∨ SqT K H a vs) ∧ Rp K H x d ∧ RpA K H vs ds ∧ anyF d ds = some r ∧ Q (.bl (if neg then !r else r)) H
theorem or_in40 (hu : X.A.units + 64 < cLine) : OpR X (compareOp .In) (rIn40 X.K false) := by
  intro pins s σ H x y v u Q I rx ry h
  obtain ⟨d, a, vs, ds, r, rfl, hs, hx, hd, h, q⟩ := h
  cases ry
  rcases hs with hs | hs
  · obtain ⟨its, rv, pl, _⟩ := I.list hs
    obtain ⟨e, h1, h2⟩ := in_items I hu rx hx rv hd h
    exact SeqAt.in_listAt e pl.isList h1 ⟨.bl _, H, I, rfl, by rw [h2]; exact q⟩
  · obtain ⟨its, rv, pl, _⟩ := I.tuple hs
    obtain ⟨e, h1, h2⟩ := in_items I hu rx hx rv hd h
    exact SeqAt.in_tupleAt e pl h1 ⟨.bl _, H, I, rfl, by rw [h2]; exact q⟩
theorem or_notIn40 (hu : X.A.units + 64 < cLine) : OpR X (compareOp .NotIn) (rIn40 X.K true) := by
  intro pins s σ H x y v u Q I rx ry h
  obtain ⟨d, a, vs, ds, r, rfl, hs, hx, hd, h, q⟩ := h
  cases ry
  rcases hs with hs | hs
  · obtain ⟨its, rv, pl, _⟩ := I.list hs
    obtain ⟨e, h1, h2⟩ := in_items I hu rx hx rv hd h
    exact SeqAt.notIn_listAt e pl.isList h1 ⟨.bl _, H, I, rfl, by rw [h2]; exact q⟩
  · obtain ⟨its, rv, pl, _⟩ := I.tuple hs
    obtain ⟨e, h1, h2⟩ := in_items I hu rx hx rv hd h
    exact SeqAt.notIn_tupleAt e pl h1 ⟨.bl _, H, I, rfl, by rw [h2]; exact q⟩
def rSign (neg : Bool) : R2 := fun x y H Q => ∃ (c : Nat) (z : Str), x = .str ⟨#[c]⟩ ∧ y = .str z ∧ Q (.bl (if neg then !decide (c ∈ z.cps.toList) else decide (c ∈ z.cps.toList))) H
theorem or_in (hu : X.A.units + 64 < cLine) : OpR X (compareOp .In) (fun x y H Q => rIn40 X.K false x y H Q ∨ rSign false x y H Q) := OpR.or (or_in40 hu) op_in_sign
theorem or_notIn (hu : X.A.units + 64 < cLine) : OpR X (compareOp .NotIn) (fun x y H Q => rIn40 X.K true x y H Q ∨ rSign true x y H Q) := OpR.or (or_notIn40 hu) op_notIn_sign
theorem signIn_some {x z : Str} {b : Bool} (h : signIn x z = some b) : ∃ c, x = ⟨#[c]⟩ ∧ b = decide (c ∈ z.cps.toList) := by
  unfold signIn at h
  split at h
  · rename_i c e
    cases h
    refine ⟨c, ?_, rfl⟩
    obtain ⟨⟨l⟩⟩ := x
    have e : l = [c] := e
    rw [e]
  · cases h
theorem in_cases {K : PySem.W.Frag} {neg : Bool} {H : Hp} {Z : Addr → Prop} {x y : V} {d1 d2 : D} {b : Bool} {Q : VK} (h1 : Rp K (hid H Z) x d1) (h2 : Rp K (hid H Z) y d2) (hg : gInB d1 d2 = some b) (q : Q (.bl (if neg then !b else b)) H) : rIn40 K neg x y H Q ∨ rSign neg x y H Q := by
  have seqL : ∀ ds, d2 = .list ds → anyF d1 ds = some b → rIn40 K neg x y H Q ∨ rSign neg x y H Q := fun ds e h => by
    subst e
    obtain ⟨a, vs, e, k1, k2⟩ := h2
    exact .inl ⟨d1, a, vs, ds, b, e, .inl (.inl (hid_rd k1).1), hidRp h1, hidRpA k2, h, q⟩
  have seqT : ∀ ds, d2 = .tuple ds → anyF d1 ds = some b → rIn40 K neg x y H Q ∨ rSign neg x y H Q := fun ds e h => by
    subst e
    obtain ⟨a, vs, e, k1, k2⟩ := h2
    exact .inl ⟨d1, a, vs, ds, b, e, .inr (hid_sqT k1), hidRp h1, hidRpA k2, h, q⟩
  cases d2 with
  | list ds => exact seqL ds rfl (by cases d1 <;> exact hg)
  | tuple ds => exact seqT ds rfl (by cases d1 <;> exact hg)
  | str z =>
    cases d1 with
    | str w =>
      obtain ⟨c, e, eb⟩ := signIn_some hg
      subst e eb
      exact .inr ⟨c, z, h1, h2, q⟩
    | none => cases hg
    | bool _ => cases hg
    | int _ => cases hg
    | list _ => cases hg
    | tuple _ => cases hg
    | dict _ => cases hg
  | none => cases d1 <;> cases hg
  | bool _ => cases d1 <;> cases hg
  | int _ => cases d1 <;> cases hg
  | dict _ => cases d1 <;> cases hg
theorem rd_in {K : PySem.W.Frag} : RD K (fun x y H Q => rIn40 K false x y H Q ∨ rSign false x y H Q) gIn := fun H Z x y d1 d2 d Q hz h1 h2 hg k => by
  unfold gIn at hg
  cases e : gInB d1 d2 with
  | none => rw [e] at hg; cases hg
  | some b => rw [e] at hg; cases hg; exact in_cases h1 h2 e (k _ H (Same.refl H) rfl)
theorem rd_notIn {K : PySem.W.Frag} : RD K (fun x y H Q => rIn40 K true x y H Q ∨ rSign true x y H Q) gNotIn := fun H Z x y d1 d2 d Q hz h1 h2 hg k => by
  unfold gNotIn at hg
  cases e : gInB d1 d2 with
  | none => rw [e] at hg; cases hg
  | some b => rw [e] at hg; cases hg; exact in_cases (neg := true) h1 h2 e (k _ H (Same.refl H) rfl)
end
end PD
end
section
set_option linter.all false
set_option maxRecDepth 100000
set_option maxHeartbeats 4000000
/-! P9: arithmetic, order, parts, built-ins over data; what is walked. -/
namespace PD
open PySem PySem.Spec PyProof.Rows L2

/-! ### sizes of numbers -/
def mulOk (i j : Int) : Bool := decide (i.natAbs.log2 < 64) || decide (j.natAbs.log2 < 64) || decide (i.natAbs.log2 + j.natAbs.log2 < 1000000)
def divOk (j : Int) : Bool := decide (0 < j) && decide (j.natAbs.log2 < 9000)
def gAdd : G2
  | .int i, .int j => some (.int (i + j))
  | .str x, .str y => if x.length + y.length ≤ sizeLine then some (.str (x ++ y)) else none
  | .list a, .list b => if a.length + b.length ≤ sizeLine then some (.list (a ++ b)) else none
  | .tuple a, .tuple b => if a.length + b.length ≤ sizeLine then some (.tuple (a ++ b)) else none
  | _, _ => none
def gSub : G2
  | .int i, .int j => some (.int (i - j))
  | _, _ => none
def gMul : G2
  | .int i, .int j => if mulOk i j then some (.int (i * j)) else none
  | _, _ => none
def gDiv : G2
  | .int i, .int j => if divOk j then some (.int (i / j)) else none
  | _, _ => none
def gMod : G2
  | .int i, .int j => if 0 < j then some (.int (i % j)) else none
  | _, _ => none
def gPow : G2
  | .int i, .int j => if 0 ≤ j ∧ j ≤ 1000000 ∧ i.natAbs < 2 ^ 64 then some (.int (i ^ j.toNat)) else none
  | _, _ => none
def gNeg : G1
  | .int i => some (.int (-i))
  | _ => none
def gLt : G2
  | .int i, .int j => some (.bool (decide (i < j)))
  | .str x, .str y => some (.bool (decide (x.cps.toList < y.cps.toList)))
  | _, _ => none
def gLe : G2
  | .int i, .int j => some (.bool (decide (i ≤ j)))
  | _, _ => none
def gGt : G2
  | .int i, .int j => some (.bool (decide (j < i)))
  | _, _ => none
def gGe : G2
  | .int i, .int j => some (.bool (decide (j ≤ i)))
  | _, _ => none
section
variable {X : Cx} {K : PySem.W.Frag}
theorem log2_natAbs {i : Int} {n : Nat} (h : i.natAbs.log2 < n) : -(2 ^ n) < i ∧ i < 2 ^ n := by
  have h1 : i.natAbs < 2 ^ n := by
    by_cases h0 : i.natAbs = 0
    · rw [h0]; exact Nat.two_pow_pos n
    · exact (Nat.log2_lt h0).mp h
  have h2 : (i.natAbs : Int) < 2 ^ n := by exact_mod_cast h1
  omega
def rMulI : R2 := fun x y H Q => ∃ i j, x = .int i ∧ y = .int j ∧ mulOk i j = true ∧ Q (.int (i * j)) H
theorem or_mulI : OpR X (binaryOp .Mult) rMulI := by
  intro pins s σ H x y v u Q I rx ry h
  obtain ⟨i, j, rfl, rfl, hk, q⟩ := h
  unfold mulOk at hk
  simp only [Bool.or_eq_true, decide_eq_true_eq] at hk
  rcases hk with (hk | hk) | hk
  · exact op_mul pins s σ H _ _ v u Q I rx ry ⟨i, j, rfl, rfl, .inl (log2_natAbs hk), q⟩
  · exact op_mul pins s σ H _ _ v u Q I rx ry ⟨i, j, rfl, rfl, .inr (log2_natAbs hk), q⟩
  · exact op_mulW pins s σ H _ _ v u Q I rx ry ⟨i, j, rfl, rfl, hk, q⟩
/-- lists, known ones too -/
def rCat' : R2 := fun x y H Q => ∃ l b xs zs, x = .ref l ∧ y = .ref b ∧ Rd H l (.lst xs) ∧ Rd H b (.lst zs) ∧ xs.length + zs.length ≤ sizeLine ∧ ∀ p, H p = none → Q (.ref p) (upd H p (.lst (xs ++ zs)))
theorem or_cat : OpR X (binaryOp .Add) rCat' := by
  intro pins s σ H x y v u Q I rx ry h
  obtain ⟨l, b, xs, zs, rfl, rfl, hl, hb, hz, q⟩ := h
  cases rx
  cases ry
  obtain ⟨_, its, n, r, e⟩ := hl.ok I.hok
  obtain ⟨_, its2, n2, r2, e2⟩ := hb.ok I.hok
  have s1 := r.length
  have s2 := r2.length
  refine PySem.P.add_list e e2 ?_ (by simp only [List.size_toArray]; omega)
  have ea : its.toArray ++ its2.toArray = (its ++ its2).toArray := by simp
  rw [ea]
  have hn : H s.heap.objs.size = none := I.hok.fresh (Nat.le_refl _)
  refine ⟨.ref s.heap.objs.size, _, I.laid (t' := s.toks) (fun b o e => Heap.get?_push_of_some _ e) (Nat.le_refl _) (show ObjOk X.prog X.w _ _ _ (.lst (xs ++ zs)) from ⟨by rw [List.length_append]; exact hz, its ++ its2, 0, r.append r2, Heap.get?_push_size _ rfl⟩), rfl, q _ hn⟩
theorem or_add : OpR X (binaryOp .Add) (fun x y H Q => (rI0 (fun i j => .int (i + j)) x y H Q ∨ ∃ i j, x = .str i ∧ y = .str j ∧ i.length + j.length ≤ sizeLine ∧ Q (.str (i ++ j)) H) ∨ rCat' x y H Q ∨ rCatA X.K x y H Q) := OpR.or (OpR.or op_add op_add_str) (OpR.or or_cat op_catA)
theorem rd_add : RD K (fun x y H Q => (rI0 (fun i j => .int (i + j)) x y H Q ∨ ∃ i j, x = .str i ∧ y = .str j ∧ i.length + j.length ≤ sizeLine ∧ Q (.str (i ++ j)) H) ∨ rCat' x y H Q ∨ rCatA K x y H Q) gAdd := fun H Z x y d1 d2 d Q hz h1 h2 hg k => by
  unfold gAdd at hg
  split at hg
  · cases hg
    exact .inl (.inl ⟨_, _, h1, h2, k _ H (Same.refl H) rfl⟩)
  · split at hg
    · rename_i hl
      cases hg
      exact .inl (.inr ⟨_, _, h1, h2, hl, k _ H (Same.refl H) rfl⟩)
    · cases hg
  · split at hg
    · rename_i hl
      cases hg
      obtain ⟨l, vs, rfl, k1, k2⟩ := h1
      obtain ⟨l', ws, rfl, j1, j2⟩ := h2
      exact .inr (.inl ⟨l, l', vs, ws, rfl, rfl, (hid_rd k1).1, (hid_rd j1).1, by rw [k2.length, j2.length]; exact hl, fun p hp => k _ _ (same_upd hp) (rp_new_lst hz hp (RpA.app k2 j2))⟩)
    · cases hg
  · split at hg
    · rename_i a b hl
      cases hg
      obtain ⟨l, vs, rfl, k1, k2⟩ := id h1
      obtain ⟨l', ws, rfl, j1, j2⟩ := id h2
      refine .inr (.inr ⟨l, l', vs, ws, rfl, rfl, hid_sqT k1, hid_sqT j1, by rw [k2.length, j2.length]; exact hl, fun e => ?_, fun _ e => ?_, fun _ _ p hp => k _ _ (same_upd hp) (rp_new_tup hz hp (RpA.app k2 j2))⟩)
      · have : a = [] := List.length_eq_zero_iff.mp (by rw [← k2.length, e]; rfl)
        subst this
        exact k _ H (Same.refl H) h2
      · have : b = [] := List.length_eq_zero_iff.mp (by rw [← j2.length, e]; rfl)
        subst this
        refine k _ H (Same.refl H) ?_
        rw [List.append_nil]
        exact h1
    · cases hg
  · cases hg
theorem rd_sub : RD K (rI0 fun i j => .int (i - j)) gSub := fun H Z x y d1 d2 d Q hz h1 h2 hg k => by
  unfold gSub at hg
  split at hg
  · cases hg; exact ⟨_, _, h1, h2, k _ H (Same.refl H) rfl⟩
  · cases hg
def rRep' : R2 := fun x y H Q => ∃ l k xs, x = .ref l ∧ y = .int k ∧ H l = some (.lst xs) ∧ -(2 ^ 63) ≤ k ∧ k < 2 ^ 63 ∧ xs.length * k.toNat ≤ sizeLine ∧ ∀ p, H p = none → Q (.ref p) (upd H p (.lst (List.replicate k.toNat xs).flatten))
theorem RpA.rep {H : Hp} {vs : List V} {ds : List D} (h : RpA K H vs ds) : ∀ n, RpA K H (List.replicate n vs).flatten (List.replicate n ds).flatten
  | 0 => rfl
  | n + 1 => by rw [List.replicate_succ, List.replicate_succ, List.flatten_cons, List.flatten_cons]; exact RpA.app h (RpA.rep h n)
theorem rd_mul : RD K rMulI gMul := fun H Z x y d1 d2 d Q hz h1 h2 hg k => by
  unfold gMul at hg
  split at hg
  · split at hg
    · rename_i hm
      cases hg; exact ⟨_, _, h1, h2, hm, k _ H (Same.refl H) rfl⟩
    · cases hg
  · cases hg
theorem rd_div : RD K (rI CDivW fun i j => .int (i / j)) gDiv := fun H Z x y d1 d2 d Q hz h1 h2 hg k => by
  unfold gDiv at hg
  split at hg
  · split at hg
    · rename_i hm
      unfold divOk at hm
      simp only [Bool.and_eq_true, decide_eq_true_eq] at hm
      cases hg; exact ⟨_, _, h1, h2, hm, k _ H (Same.refl H) rfl⟩
    · cases hg
  · cases hg
theorem rd_mod : RD K (rI (fun _ j => 0 < j) fun i j => .int (i % j)) gMod := fun H Z x y d1 d2 d Q hz h1 h2 hg k => by
  unfold gMod at hg
  split at hg
  · split at hg
    · rename_i hm
      cases hg; exact ⟨_, _, h1, h2, hm, k _ H (Same.refl H) rfl⟩
    · cases hg
  · cases hg
theorem rd_pow : RD K (rI CPow fun i j => .int (i ^ j.toNat)) gPow := fun H Z x y d1 d2 d Q hz h1 h2 hg k => by
  unfold gPow at hg
  split at hg
  · split at hg
    · rename_i hm
      cases hg; exact ⟨_, _, h1, h2, hm, k _ H (Same.refl H) rfl⟩
    · cases hg
  · cases hg
theorem rd_neg : RD1 K (rU fun i => .int (-i)) gNeg := fun H Z x d1 d Q hz h1 hg k => by
  unfold gNeg at hg
  split at hg
  · cases hg; exact ⟨_, h1, k _ H (Same.refl H) rfl⟩
  · cases hg
theorem rd_le : RD K (rI0 fun i j => .bl (decide (i ≤ j))) gLe := fun H Z x y d1 d2 d Q hz h1 h2 hg k => by
  unfold gLe at hg
  split at hg
  · cases hg; exact ⟨_, _, h1, h2, k _ H (Same.refl H) rfl⟩
  · cases hg
theorem rd_gt : RD K (rI0 fun i j => .bl (decide (j < i))) gGt := fun H Z x y d1 d2 d Q hz h1 h2 hg k => by
  unfold gGt at hg
  split at hg
  · cases hg; exact ⟨_, _, h1, h2, k _ H (Same.refl H) rfl⟩
  · cases hg
theorem rd_ge : RD K (rI0 fun i j => .bl (decide (j ≤ i))) gGe := fun H Z x y d1 d2 d Q hz h1 h2 hg k => by
  unfold gGe at hg
  split at hg
  · cases hg; exact ⟨_, _, h1, h2, k _ H (Same.refl H) rfl⟩
  · cases hg
theorem or_lt : OpR X (compareOp .Lt) (fun x y H Q => rI0 (fun i j => .bl (decide (i < j))) x y H Q ∨ ∃ i j, x = .str i ∧ y = .str j ∧ Q (.bl (decide (i.cps.toList < j.cps.toList))) H) := OpR.or op_lt op_lt_str
theorem rd_lt : RD K (fun x y H Q => rI0 (fun i j => .bl (decide (i < j))) x y H Q ∨ ∃ i j, x = .str i ∧ y = .str j ∧ Q (.bl (decide (i.cps.toList < j.cps.toList))) H) gLt := fun H Z x y d1 d2 d Q hz h1 h2 hg k => by
  unfold gLt at hg
  split at hg
  · cases hg; exact .inl ⟨_, _, h1, h2, k _ H (Same.refl H) rfl⟩
  · cases hg; exact .inr ⟨_, _, h1, h2, k _ H (Same.refl H) rfl⟩
  · cases hg
/-! is None -/
def isNoneD : D → Bool
  | .none => true
  | _ => false
def gIsN : G1 := fun d => some (.bool (isNoneD d))
def gNotN : G1 := fun d => some (.bool (!isNoneD d))
theorem rp_none {H : Hp} {v : V} {d : D} (h : Rp K H v d) : decide (v = .non) = isNoneD d := by
  cases d with
  | none => cases (show v = .non from h); rfl
  | bool b => cases (show v = .bl b from h); rfl
  | int i => cases (show v = .int i from h); rfl
  | str x => cases (show v = .str x from h); rfl
  | list ds => obtain ⟨a, xs, rfl, _⟩ := h; rfl
  | tuple ds => obtain ⟨a, xs, rfl, _⟩ := h; rfl
  | dict ds => obtain ⟨a, rfl, _⟩ := h; rfl
variable {T : List (Addr × Str)} {Φ : Fx} {B : Nat → Bool} {a b c : Expr} {ma mb mc : ME} {pos pos' : Pos} {j : Nat}
theorem pd_isN (ha : PDe X T Φ B a ma) : PDe X T Φ B (.Compare a [.Is] [.Constant .none j pos'] pos) (e1 gIsN ma) := PE.cons (pe_cmp (pc_isN ha)) fun σ H Q ⟨A, Z, ρ, μ, d, μ', R, hm, k⟩ => by
  unfold e1 at hm
  cases e : ma ρ μ with
  | none => rw [e] at hm; cases hm
  | some p =>
    rw [e, Option.bind_some] at hm
    refine ⟨A, Z, ρ, μ, p.1, p.2, R, e, fun x H1 f1 R1 p1 => ?_⟩
    dsimp only
    rw [rp_none p1]
    cases hm
    exact k _ H1 f1 R1 rfl
theorem pd_notN (ha : PDe X T Φ B a ma) : PDe X T Φ B (.Compare a [.IsNot] [.Constant .none j pos'] pos) (e1 gNotN ma) := PE.cons (pe_cmp (pc_notN ha)) fun σ H Q ⟨A, Z, ρ, μ, d, μ', R, hm, k⟩ => by
  unfold e1 at hm
  cases e : ma ρ μ with
  | none => rw [e] at hm; cases hm
  | some p =>
    rw [e, Option.bind_some] at hm
    refine ⟨A, Z, ρ, μ, p.1, p.2, R, e, fun x H1 f1 R1 p1 => ?_⟩
    dsimp only
    rw [rp_none p1]
    cases hm
    exact k _ H1 f1 R1 rfl
/-! two comparisons in a row -/
def e3 (g g' : G2) (a b c : ME) : ME := fun ρ μ => (a ρ μ).bind fun p => (b ρ p.2).bind fun q => (g p.1 q.1).bind fun r => (gBool r).bind fun t => if t = true then (c ρ q.2).bind fun w => (g' q.1 w.1).map fun z => (z, w.2) else some (.bool false, q.2)
theorem pd_chain {op op' : CmpOp} {r r' : R2} {g g' : G2} (ho : OpR X (compareOp op) r) (hr : RD X.K r g) (ho' : OpR X (compareOp op') r') (hr' : RD X.K r' g') (ha : PDe X T Φ B a ma) (hb : PDe X T Φ B b mb) (hc : PDe X T Φ B c mc) (hm : lastMarks [op, op'] [b, c] = false := by with_unfolding_all rfl) :
    PDe X T Φ B (.Compare a [op, op'] [b, c] pos) (e3 g g' ma mb mc) := PE.cons (pe_chain ho ho' ha hb hc hm) fun σ H Q ⟨A, Z, ρ, μ, d, μ', R, hm, k⟩ => by
  unfold e3 at hm
  cases e : ma ρ μ with
  | none => rw [e] at hm; cases hm
  | some p =>
    rw [e, Option.bind_some] at hm
    cases e' : mb ρ p.2 with
    | none => rw [e'] at hm; cases hm
    | some q =>
      rw [e', Option.bind_some] at hm
      cases e2 : g p.1 q.1 with
      | none => rw [e2] at hm; cases hm
      | some w =>
        rw [e2, Option.bind_some] at hm
        cases e3 : gBool w with
        | none => rw [e3] at hm; cases hm
        | some t =>
          rw [e3, Option.bind_some] at hm
          refine ⟨A, Z, ρ, μ, p.1, p.2, R, e, fun x H1 f1 R1 p1 => ⟨A, Z, ρ, p.2, q.1, q.2, R1, e', fun y H2 f2 R2 p2 => ?_⟩⟩
          refine hr H2 _ x y _ _ w _ R2.tracked (Rp.mono (fw_xt f2) _ _ p1) p2 e2 fun v H3 s3 p3 => ?_
          rw [gBool_some e3] at p3
          refine ⟨t, p3, ?_⟩
          have R3 := R2.same s3
          have f3 : Fw (Wr B ρ A) H H3 := (f1.trans f2).trans (Fw.same s3)
          cases t with
          | false => cases hm; exact iteF (k _ H3 f3 R3 rfl)
          | true =>
            refine iteT ?_
            have hm : (mc ρ q.2).bind (fun w => (g' q.1 w.1).map fun z => (z, w.2)) = some (d, μ') := hm
            cases e4 : mc ρ q.2 with
            | none => rw [e4] at hm; cases hm
            | some u =>
              rw [e4, Option.bind_some] at hm
              cases e5 : g' q.1 u.1 with
              | none => rw [e5] at hm; cases hm
              | some z =>
                rw [e5] at hm; cases hm
                refine ⟨A, Z, ρ, q.2, u.1, u.2, R3, e4, fun y4 H4 f4 R4 p4 => ?_⟩
                exact hr' H4 _ y y4 _ _ _ Q R4.tracked (Rp.mono (fw_xt f4) _ _ (Rp.mono (Same.xt s3) _ _ p2)) p4 e5 fun v5 H5 s5 p5 => k v5 H5 ((f3.trans f4).trans (Fw.same s5)) (R4.same s5) p5
/-! ### parts -/
def gIx : G2
  | .list xs, .int i => atI xs i
  | .tuple xs, .int i => atI xs i
  | .str z, .int i => if z.length ≤ sizeLine then (atI z.cps.toList i).map fun c => .str ⟨#[c]⟩ else none
  | _, _ => none
theorem atI_rp {H : Hp} {vs : List V} {ds : List D} {i : Int} {d : D} (h : RpA K H vs ds) (e : atI ds i = some d) : ∃ v, atI vs i = some v ∧ Rp K H v d := by
  unfold atI at e ⊢
  rw [h.length]
  cases e' : ixN ds.length i with
  | none => rw [e'] at e; cases e
  | some j =>
    rw [e', Option.bind_some] at e
    rw [Option.bind_some]
    exact h.get e
theorem rd_ix : RD K (rIx K) gIx := fun H Z x y d1 d2 d Q hz h1 h2 hg k => by
  unfold gIx at hg
  split at hg
  · obtain ⟨a, vs, rfl, k1, k2⟩ := h1
    obtain ⟨v, e, p⟩ := atI_rp k2 hg
    exact .inl ⟨a, vs, _, v, rfl, h2, .inl (hid_rd k1).1, e, k v H (Same.refl H) p⟩
  · obtain ⟨a, vs, rfl, k1, k2⟩ := h1
    obtain ⟨v, e, p⟩ := atI_rp k2 hg
    exact .inr (.inl ⟨a, vs, _, v, rfl, h2, hid_sqT k1, e, k v H (Same.refl H) p⟩)
  · split at hg
    · rename_i z i hl
      cases e : atI z.cps.toList i with
      | none => rw [e] at hg; cases hg
      | some c =>
        rw [e] at hg; cases hg
        exact .inr (.inr ⟨_, _, c, h1, h2, hl, e, k _ H (Same.refl H) rfl⟩)
    · cases hg
  · cases hg
/-- a slice's parts -/
def pN : List Slot → List Cell → Option (Option Int × List Cell) := fun _ μ => some (none, μ)
def pS (m : ME) : List Slot → List Cell → Option (Option Int × List Cell) := fun ρ μ => (m ρ μ).bind fun p => match p.1 with
  | .int i => some (some i, p.2)
  | _ => none
abbrev MP := List Slot → List Cell → Option (Option Int × List Cell)
def tP (K : PySem.W.Frag) (T : List (Addr × Str)) (Φ : Fx) (B : Nat → Bool) (m : MP) : TO := fun σ H Q => ∃ A Z ρ μ o μ', Rep K T Φ A Z σ H ρ μ ∧ m ρ μ = some (o, μ') ∧ ∀ H', Fw (Wr B ρ A) H H' → Rep K T Φ A Z σ H' ρ μ' → Q o H'
abbrev PDp (X : Cx) (T : List (Addr × Str)) (Φ : Fx) (B : Nat → Bool) (e : Option Expr) (m : MP) : Prop := PO X e (tP X.K T Φ B m)
theorem PO.cons {e : Option Expr} {t t' : TO} (h : PO X e t) (hc : ∀ σ H Q, t' σ H Q → t σ H Q) : PO X e t' := ⟨fun pins s σ H Q I q => h.run pins s σ H Q I (hc σ H Q q)⟩
theorem pp_n : PDp X T Φ B none pN := PO.cons po_none fun σ H Q ⟨A, Z, ρ, μ, o, μ', R, hm, k⟩ => by
  cases hm
  exact k H (Fw.refl _ _) R
theorem pp_s (ha : PDe X T Φ B a ma) : PDp X T Φ B (some a) (pS ma) := PO.cons (po_some ha) fun σ H Q ⟨A, Z, ρ, μ, o, μ', R, hm, k⟩ => by
  unfold pS at hm
  cases e : ma ρ μ with
  | none => rw [e] at hm; cases hm
  | some p =>
    rw [e, Option.bind_some] at hm
    split at hm
    · rename_i i ei
      cases hm
      refine ⟨A, Z, ρ, μ, p.1, p.2, R, e, fun x H1 f1 R1 p1 => ?_⟩
      rw [ei] at p1
      exact ⟨i, p1, k H1 f1 R1⟩
    · cases hm
def cutD (xs : List D) (lo hi : Option Int) : List D := (xs.drop (HT.sIx xs.length 0 lo)).take (HT.sIx xs.length xs.length hi - HT.sIx xs.length 0 lo)
def gSl (d : D) (lo hi : Option Int) : Option D := match d with
  | .list xs => some (.list (cutD xs lo hi))
  | .tuple xs => some (.tuple (cutD xs lo hi))
  | .str z => if z.length ≤ sizeLine then some (.str (cutS z lo hi)) else none
  | _ => none
def eSl (a : ME) (lo hi : MP) : ME := fun ρ μ => (a ρ μ).bind fun p => (lo ρ p.2).bind fun l => (hi ρ l.2).bind fun h => (gSl p.1 l.1 h.1).map fun d => (d, h.2)
theorem cut_rp {H : Hp} {vs : List V} {ds : List D} {lo hi : Option Int} (h : RpA K H vs ds) : RpA K H (cutV vs lo hi) (cutD ds lo hi) := by
  unfold cutV cutD
  rw [h.length]
  exact RpA.take _ (RpA.drop _ h)
def rSlAll (K : PySem.W.Frag) : V → Option Int → Option Int → Hp → VK → Prop := fun x lo hi H Q => rSlL K x lo hi H Q ∨ rSlA K x lo hi H Q ∨ rSlS x lo hi H Q
theorem sl_all : SlR X (rSlAll X.K) := SlR.or sl_list (SlR.or sl_tupA sl_str)
theorem cut_whole {xs : List D} {lo hi : Option Int} (h : HT.sIx xs.length 0 lo = 0 ∧ HT.sIx xs.length xs.length hi = xs.length) : cutD xs lo hi = xs := by
  unfold cutD
  rw [h.1, h.2]
  simp
theorem rd_sl (H : Hp) (Z : Addr → Prop) (x : V) (d1 d : D) (lo hi : Option Int) (Q : VK) (hz : ∀ a, Z a → H a ≠ none) (h1 : Rp K (hid H Z) x d1) (hg : gSl d1 lo hi = some d) (k : ∀ v H', Same H H' → Rp K (hid H' Z) v d → Q v H') : rSlAll K x lo hi H Q := by
  unfold gSl at hg
  split at hg
  · cases hg
    obtain ⟨a, vs, rfl, k1, k2⟩ := h1
    exact .inl ⟨a, vs, rfl, .inl (hid_rd k1).1, fun p hp => k _ _ (same_upd hp) (rp_new_lst hz hp (cut_rp k2))⟩
  · cases hg
    obtain ⟨a, vs, rfl, k1, k2⟩ := id h1
    refine .inr (.inl ⟨a, vs, rfl, hid_sqT k1, fun e => ?_, fun _ p hp => k _ _ (same_upd hp) (rp_new_tup hz hp (cut_rp k2))⟩)
    rw [k2.length] at e
    exact k _ H (Same.refl H) (by rw [cut_whole e]; exact h1)
  · split at hg
    · rename_i hl
      cases hg
      exact .inr (.inr ⟨_, h1, hl, k _ H (Same.refl H) rfl⟩)
    · cases hg
  · cases hg
theorem pd_sl {lo hi : Option Expr} {ml mh : MP} {p2 : Pos} (ha : PDe X T Φ B a ma) (hl : PDp X T Φ B lo ml) (hh : PDp X T Φ B hi mh) : PDe X T Φ B (.Subscript a (.Slice lo hi none p2) pos) (eSl ma ml mh) := PE.cons (pe_slice sl_all ha hl hh) fun σ H Q ⟨A, Z, ρ, μ, d, μ', R, hm, k⟩ => by
  unfold eSl at hm
  cases e : ma ρ μ with
  | none => rw [e] at hm; cases hm
  | some p =>
    rw [e, Option.bind_some] at hm
    cases e1 : ml ρ p.2 with
    | none => rw [e1] at hm; cases hm
    | some l =>
      rw [e1, Option.bind_some] at hm
      cases e2 : mh ρ l.2 with
      | none => rw [e2] at hm; cases hm
      | some h =>
        rw [e2, Option.bind_some] at hm
        cases e3 : gSl p.1 l.1 h.1 with
        | none => rw [e3] at hm; cases hm
        | some z =>
          rw [e3] at hm; cases hm
          refine ⟨A, Z, ρ, μ, p.1, p.2, R, e, fun x H1 f1 R1 p1 => ⟨A, Z, ρ, p.2, l.1, l.2, R1, e1, fun H2 f2 R2 => ⟨A, Z, ρ, l.2, h.1, h.2, R2, e2, fun H3 f3 R3 => ?_⟩⟩⟩
          exact rd_sl H3 _ x p.1 _ l.1 h.1 Q R3.tracked (Rp.mono (fw_xt (f2.trans f3)) _ _ p1) e3 fun v H4 s4 p4 => k v H4 (((f1.trans f2).trans f3).trans (Fw.same s4)) (R3.same s4) p4
end
end PD
end
section
set_option linter.all false
set_option maxRecDepth 100000
set_option maxHeartbeats 4000000
/-! P10: built-in functions over data; what is walked. -/
namespace PD
open PySem PySem.Spec PyProof.Rows L2

def intsOf : List D → Option (List Int)
  | [] => some []
  | .int i :: r => (intsOf r).map (i :: ·)
  | _ => none
def strsOf : List D → Option (List Str)
  | [] => some []
  | .str i :: r => (strsOf r).map (i :: ·)
  | _ => none
def boolsOf : List D → Option (List Bool)
  | [] => some []
  | .bool i :: r => (boolsOf r).map (i :: ·)
  | _ => none
section
variable {X : Cx} {K : PySem.W.Frag}
theorem intsOf_rp {H : Hp} : ∀ {ds : List D} {vs : List V} {ns : List Int}, RpA K H vs ds → intsOf ds = some ns → vs = ns.map V.int
  | [], vs, ns, h, e => by cases e; exact h
  | d :: ds, vs, ns, ⟨v, r, e1, h1, h2⟩, e => by
    unfold intsOf at e
    split at e
    · rename_i h; cases h
    · rename_i i r' h
      cases h
      cases e2 : intsOf ds with
      | none => rw [e2] at e; cases e
      | some ms =>
        rw [e2] at e; cases e
        rw [e1, intsOf_rp h2 e2, show v = .int i from h1]
        rfl
    · cases e
theorem strsOf_rp {H : Hp} : ∀ {ds : List D} {vs : List V} {ns : List Str}, RpA K H vs ds → strsOf ds = some ns → vs = ns.map V.str
  | [], vs, ns, h, e => by cases e; exact h
  | d :: ds, vs, ns, ⟨v, r, e1, h1, h2⟩, e => by
    unfold strsOf at e
    split at e
    · rename_i h; cases h
    · rename_i i r' h
      cases h
      cases e2 : strsOf ds with
      | none => rw [e2] at e; cases e
      | some ms =>
        rw [e2] at e; cases e
        rw [e1, strsOf_rp h2 e2, show v = .str i from h1]
        rfl
    · cases e
theorem boolsOf_rp {H : Hp} : ∀ {ds : List D} {vs : List V} {ns : List Bool}, RpA K H vs ds → boolsOf ds = some ns → vs = ns.map V.bl
  | [], vs, ns, h, e => by cases e; exact h
  | d :: ds, vs, ns, ⟨v, r, e1, h1, h2⟩, e => by
    unfold boolsOf at e
    split at e
    · rename_i h; cases h
    · rename_i i r' h
      cases h
      cases e2 : boolsOf ds with
      | none => rw [e2] at e; cases e
      | some ms =>
        rw [e2] at e; cases e
        rw [e1, boolsOf_rp h2 e2, show v = .bl i from h1]
        rfl
    · cases e
theorem rp_ints {H : Hp} (f : D → Option Unit := fun _ => none) : ∀ (ns : List Int), RpA K H (ns.map V.int) (ns.map PyData.int)
  | [] => rfl
  | n :: ns => ⟨_, _, rfl, rfl, rp_ints (f := f) ns⟩
theorem rp_strs {H : Hp} : ∀ (ns : List Str), RpA K H (ns.map V.str) (ns.map PyData.str)
  | [] => rfl
  | n :: ns => ⟨_, _, rfl, rfl, rp_strs ns⟩
/-- one argument -/
def gl1 (g : G1) : GL
  | [d] => g d
  | _ => none
def gl2 (g : G2) : GL
  | [d, e] => g d e
  | _ => none
theorem rl1 {r : List V → Hp → VK → Prop} {g : G1} (h : ∀ (H : Hp) (Z : Addr → Prop) (x : V) (d1 d : D) (Q : VK), (∀ a, Z a → H a ≠ none) → Rp K (hid H Z) x d1 → g d1 = some d → (∀ v H', Same H H' → Rp K (hid H' Z) v d → Q v H') → r [x] H Q) : RL K r (gl1 g) := fun H Z xs ds d Q hz hp hg k => by
  unfold gl1 at hg
  split at hg
  · obtain ⟨v, r, rfl, h1, h2⟩ := hp
    cases (show r = [] from h2)
    exact h H Z v _ d Q hz h1 hg k
  · cases hg
theorem rl2 {r : List V → Hp → VK → Prop} {g : G2} (h : ∀ (H : Hp) (Z : Addr → Prop) (x y : V) (d1 d2 d : D) (Q : VK), (∀ a, Z a → H a ≠ none) → Rp K (hid H Z) x d1 → Rp K (hid H Z) y d2 → g d1 d2 = some d → (∀ v H', Same H H' → Rp K (hid H' Z) v d → Q v H') → r [x, y] H Q) : RL K r (gl2 g) := fun H Z xs ds d Q hz hp hg k => by
  unfold gl2 at hg
  split at hg
  · obtain ⟨v, r, rfl, h1, w, r2, rfl, h2, h3⟩ := hp
    cases (show r2 = [] from h3)
    exact h H Z v w _ _ d Q hz h1 h2 hg k
  · cases hg
def gLen : G1
  | .list ds => some (.int ds.length)
  | .tuple ds => some (.int ds.length)
  | .str x => if x.length ≤ sizeLine then some (.int x.length) else none
  | _ => none
theorem rl_len : RL K (fun xs H Q => ∃ x n, xs = [x] ∧ LenV K x H n ∧ Q (.int n) H) (gl1 gLen) := rl1 fun H Z x d1 d Q hz h hg k => by
  unfold gLen at hg
  split at hg
  · cases hg
    obtain ⟨a, vs, rfl, k1, k2⟩ := h
    exact ⟨.ref a, vs.length, rfl, .inl ⟨vs, .inl (hid_rd k1).1, rfl⟩, by rw [k2.length]; exact k _ H (Same.refl H) rfl⟩
  · cases hg
    obtain ⟨a, vs, rfl, k1, k2⟩ := h
    exact ⟨.ref a, vs.length, rfl, .inr ⟨vs, hid_sqT k1, rfl⟩, by rw [k2.length]; exact k _ H (Same.refl H) rfl⟩
  · split at hg
    · rename_i x hl
      cases hg
      exact ⟨_, x.length, rfl, by rw [show _ = V.str x from h]; exact ⟨hl, rfl⟩, k _ H (Same.refl H) rfl⟩
    · cases hg
  · cases hg
def gInt : G1
  | .int i => some (.int i)
  | .bool b => some (.int (b2 b))
  | _ => none
theorem rl_int : RL K (fun xs H Q => (∃ i, xs = [.int i] ∧ Q (.int i) H) ∨ ∃ k, xs = [.bl k] ∧ Q (.int (if k then 1 else 0)) H) (gl1 gInt) := rl1 fun H Z x d1 d Q hz h hg k => by
  unfold gInt at hg
  split at hg
  · cases hg; exact .inl ⟨_, by rw [show x = _ from h], k _ H (Same.refl H) rfl⟩
  · cases hg; exact .inr ⟨_, by rw [show x = _ from h], k _ H (Same.refl H) rfl⟩
  · cases hg
def gAbs : G1
  | .int i => some (.int (if i < 0 then -i else i))
  | _ => none
theorem rl_abs : RL K (fun xs H Q => ∃ i, xs = [.int i] ∧ Q (.int (if i < 0 then -i else i)) H) (gl1 gAbs) := rl1 fun H Z x d1 d Q hz h hg k => by
  unfold gAbs at hg
  split at hg
  · cases hg; exact ⟨_, by rw [show x = _ from h], k _ H (Same.refl H) rfl⟩
  · cases hg
def gMax2 : G2
  | .int i, .int j => some (.int (if j > i then j else i))
  | _, _ => none
def gMin2 : G2
  | .int i, .int j => some (.int (if j < i then j else i))
  | _, _ => none
theorem rl_max2 : RL K (fun xs H Q => ∃ i j, xs = [.int i, .int j] ∧ Q (.int (if j > i then j else i)) H) (gl2 gMax2) := rl2 fun H Z x y d1 d2 d Q hz h h' hg k => by
  unfold gMax2 at hg
  split at hg
  · cases hg; exact ⟨_, _, by rw [show x = _ from h, show y = _ from h'], k _ H (Same.refl H) rfl⟩
  · cases hg
theorem rl_min2 : RL K (fun xs H Q => ∃ i j, xs = [.int i, .int j] ∧ Q (.int (if j < i then j else i)) H) (gl2 gMin2) := rl2 fun H Z x y d1 d2 d Q hz h h' hg k => by
  unfold gMin2 at hg
  split at hg
  · cases hg; exact ⟨_, _, by rw [show x = _ from h, show y = _ from h'], k _ H (Same.refl H) rfl⟩
  · cases hg
def gSum : G1
  | .list ds => (intsOf ds).map fun ns => .int ns.sum
  | _ => none
theorem rl_sum : RL K (rSum K) (gl1 gSum) := rl1 fun H Z x d1 d Q hz h hg k => by
  unfold gSum at hg
  split at hg
  · obtain ⟨a, vs, rfl, k1, k2⟩ := h
    rename_i ds
    cases e : intsOf ds with
    | none => rw [e] at hg; cases hg
    | some ns =>
      rw [e] at hg; cases hg
      refine ⟨a, ns, rfl, .inl ?_, k _ H (Same.refl H) rfl⟩
      rw [← intsOf_rp k2 e]
      exact (hid_rd k1).1
  · cases hg
def gAll : G1
  | .list ds => (boolsOf ds).map fun bs => .bool (bs.all id)
  | _ => none
def gAny : G1
  | .list ds => (boolsOf ds).map fun bs => .bool (bs.any id)
  | _ => none
theorem rl_all : RL K (rAll K) (gl1 gAll) := rl1 fun H Z x d1 d Q hz h hg k => by
  unfold gAll at hg
  split at hg
  · obtain ⟨a, vs, rfl, k1, k2⟩ := h
    rename_i ds
    cases e : boolsOf ds with
    | none => rw [e] at hg; cases hg
    | some ns =>
      rw [e] at hg; cases hg
      refine ⟨a, ns, rfl, .inl ?_, k _ H (Same.refl H) rfl⟩
      rw [← boolsOf_rp k2 e]
      exact (hid_rd k1).1
  · cases hg
theorem rl_any : RL K (rAny K) (gl1 gAny) := rl1 fun H Z x d1 d Q hz h hg k => by
  unfold gAny at hg
  split at hg
  · obtain ⟨a, vs, rfl, k1, k2⟩ := h
    rename_i ds
    cases e : boolsOf ds with
    | none => rw [e] at hg; cases hg
    | some ns =>
      rw [e] at hg; cases hg
      refine ⟨a, ns, rfl, .inl ?_, k _ H (Same.refl H) rfl⟩
      rw [← boolsOf_rp k2 e]
      exact (hid_rd k1).1
  · cases hg
def gList : G1
  | .list ds => some (.list ds)
  | .tuple ds => some (.list ds)
  | _ => none
theorem rl_list : RL K (fun xs H Q => ∃ p ys, xs = [.ref p] ∧ (SqL K H p ys ∨ SqT K H p ys) ∧ ∀ l, H l = none → Q (.ref l) (upd H l (.lst ys))) (gl1 gList) := rl1 fun H Z x d1 d Q hz h hg k => by
  unfold gList at hg
  split at hg
  · cases hg
    obtain ⟨a, vs, rfl, k1, k2⟩ := h
    exact ⟨a, vs, rfl, .inl (.inl (hid_rd k1).1), fun l hl => k _ _ (same_upd hl) (rp_new_lst hz hl k2)⟩
  · cases hg
    obtain ⟨a, vs, rfl, k1, k2⟩ := h
    exact ⟨a, vs, rfl, .inr (hid_sqT k1), fun l hl => k _ _ (same_upd hl) (rp_new_lst hz hl k2)⟩
  · cases hg
def gTuple : G1
  | .list ds => some (.tuple ds)
  | .tuple ds => some (.tuple ds)
  | _ => none
theorem rl_tuple : RL K (fun xs H Q => ∃ p ys, xs = [.ref p] ∧ ((SqL K H p ys ∧ ∀ l, H l = none → Q (.ref l) (upd H l (.tup ys))) ∨ (SqT K H p ys ∧ Q (.ref p) H))) (gl1 gTuple) := rl1 fun H Z x d1 d Q hz h hg k => by
  unfold gTuple at hg
  split at hg
  · cases hg
    obtain ⟨a, vs, rfl, k1, k2⟩ := h
    exact ⟨a, vs, rfl, .inl ⟨.inl (hid_rd k1).1, fun l hl => k _ _ (same_upd hl) (rp_new_tup hz hl k2)⟩⟩
  · cases hg
    obtain ⟨a, vs, rfl, k1, k2⟩ := id h
    exact ⟨a, vs, rfl, .inr ⟨hid_sqT k1, k _ H (Same.refl H) h⟩⟩
  · cases hg
def gDivmod : G2
  | .int i, .int j => if 0 < j ∧ j < 1073741824 then some (.tuple [.int (i / j), .int (i % j)]) else none
  | _, _ => none
theorem rl_divmod : RL K (fun xs H Q => ∃ i j, xs = [.int i, .int j] ∧ CDiv i j ∧ ∀ p, H p = none → Q (.ref p) (upd H p (.tup [.int (i / j), .int (i % j)]))) (gl2 gDivmod) := rl2 fun H Z x y d1 d2 d Q hz h h' hg k => by
  unfold gDivmod at hg
  split at hg
  · split at hg
    · rename_i hm
      cases hg
      exact ⟨_, _, by rw [show x = _ from h, show y = _ from h'], hm, fun p hp => k _ _ (same_upd hp) (rp_new_tup hz hp ⟨_, _, rfl, rfl, _, _, rfl, rfl, rfl⟩)⟩
    · cases hg
  · cases hg
def gGcd : G2
  | .int i, .int j => some (.int ((Nat.gcd i.natAbs j.natAbs : Nat) : Int))
  | _, _ => none
theorem rl_gcd : RL K rGcd (gl2 gGcd) := rl2 fun H Z x y d1 d2 d Q hz h h' hg k => by
  unfold gGcd at hg
  split at hg
  · cases hg
    exact ⟨_, _, by rw [show x = _ from h, show y = _ from h'], k _ H (Same.refl H) rfl⟩
  · cases hg
/-! isinstance -/
def tyN : D → String
  | .none => "NoneType"
  | .bool _ => "bool"
  | .int _ => "int"
  | .str _ => "str"
  | .list _ => "list"
  | .tuple _ => "tuple"
  | .dict _ => "dict"
/-- an exception's datum -/
def isX : D → Bool
  | .dict ((.none, _) :: _) => true
  | _ => false
theorem ty_rp {H : Hp} {x : V} {d : D} (hx : isX d = false) (h : Rp K H x d) : TyX K H x (.type (tyN d)) := by
  cases d with
  | none => cases (show x = .non from h); exact .base .non
  | bool b => cases (show x = .bl b from h); exact .base (.bl b)
  | int b => cases (show x = .int b from h); exact .base (.int b)
  | str b => cases (show x = .str b from h); exact .base (.str b)
  | list ds =>
    obtain ⟨a, vs, rfl, k1, k2⟩ := h
    rcases k1 with k1 | ⟨o, k1⟩
    · exact .base (.lst k1)
    · exact .base (.frz k1)
  | tuple ds =>
    obtain ⟨a, vs, rfl, k1, k2⟩ := h
    rcases k1 with (k1 | ⟨o, k1⟩) | ⟨o, its, n, e, c, _⟩
    · exact .base (.tup k1)
    · exact .fTuple k1
    · exact .kTuple e c
  | dict ds =>
    obtain ⟨a, rfl, (⟨ps, k1, _⟩ | ⟨ps, k1, _⟩ | ⟨nm, fs, _, k2, _⟩)⟩ := h
    · exact .base (.dK k1)
    · exact .base (.dT k1)
    · cases ds with
      | nil => cases k2
      | cons q r =>
        obtain ⟨q1, q2⟩ := q
        have e : PyData.none = q1 := (List.cons.inj k2).1
        subst e
        cases hx
def isInt : D → Bool
  | .int _ => true
  | .bool _ => true
  | _ => false
def isBool : D → Bool
  | .bool _ => true
  | _ => false
def isStr : D → Bool
  | .str _ => true
  | _ => false
def isTup : D → Bool
  | .tuple _ => true
  | _ => false
def isLst : D → Bool
  | .list _ => true
  | _ => false
theorem kit_int (d : D) : kitB (tyN d) "int" = some (isInt d) := by cases d <;> (simp only [tyN, isInt]; decide +kernel)
theorem kit_bool (d : D) : kitB (tyN d) "bool" = some (isBool d) := by cases d <;> (simp only [tyN, isBool]; decide +kernel)
theorem kit_str (d : D) : kitB (tyN d) "str" = some (isStr d) := by cases d <;> (simp only [tyN, isStr]; decide +kernel)
theorem kit_tup (d : D) : kitB (tyN d) "tuple" = some (isTup d) := by cases d <;> (simp only [tyN, isTup]; decide +kernel)
theorem kit_lst (d : D) : kitB (tyN d) "list" = some (isLst d) := by cases d <;> (simp only [tyN, isLst]; decide +kernel)
end
def eIs (g : D → Bool) (a : ME) : ME := fun ρ μ => (a ρ μ).bind fun p => if isX p.1 = true then none else some (.bool (g p.1), p.2)
section
variable {X : Cx} {T : List (Addr × Str)} {Φ : Fx} {B : Nat → Bool} {a b : Expr} {ma mb : ME} {pos p q : Pos}
theorem pd_isi {tn : String} {tx : Str} {g : D → Bool} (hk : ∀ d, kitB (tyN d) tn = some (g d)) (hg : Gl X "isinstance") (hm : X.mg "isinstance" = none) (hv : bootBuiltins "isinstance" = some (.builtin "isinstance")) (hg2 : Gl X tx) (hm2 : X.mg tx = none) (hv2 : bootBuiltins tx = some (.type tn)) (ha : PDe X T Φ B a ma)
    (hn : tx ≠ "__name__" := by decide) (hd : (tx == ("__debug__" : Str)) = false := by decide) (h1 : starEach [a, .Name tx q] X.env = (false, eval a X.env) :: starEach [.Name tx q] X.env := by rfl) (h2 : starEach [.Name tx q] X.env = (false, eval (.Name tx q) X.env) :: starEach [] X.env := by rfl)
    (hpl : (backTo pos (starEach [.Name tx q] X.env)).any (·.1) = false := by rfl) :
    PDe X T Φ B (.Call (.Name "isinstance" p) [a, .Name tx q] [] pos) (eIs g ma) :=
  PE.cons (pe_callB call_isi hg hm hv (pa_cons ha (pa_cons (pe_bltn (v := .ty tn) hg2 hm2 hv2 rfl hn hd) pa_nil h2) h1) (by decide) (by decide) h1 hpl) fun σ H Q ⟨A, Z, ρ, μ, d, μ', R, hm, k⟩ => by
    unfold eIs at hm
    cases e : ma ρ μ with
    | none => rw [e] at hm; cases hm
    | some p =>
      rw [e, Option.bind_some] at hm
      split at hm
      · cases hm
      rename_i hx
      cases hm
      exact ⟨A, Z, ρ, μ, p.1, p.2, R, e, fun x H1 f1 R1 p1 => ⟨x, .ty tn, .type (tyN p.1), .type tn, g p.1, rfl, .ty tn, ty_rp (by simpa using hx) (hidRp p1), kit_ty (hk _), k _ H1 f1 R1 rfl⟩⟩
end
/-! ### what is walked -/
section
variable {X : Cx} {T : List (Addr × Str)} {Φ : Fx} {B : Nat → Bool} {tg a b : Expr} {ma mb : ME} {pos p q : Pos}
theorem sqT_le {K : PySem.W.Frag} {Hv H : Hp} {Z : Addr → Prop} {a : Addr} {xs : List V} (x : XT Hv (hid H Z)) (h : SqT K Hv a xs) : SqT K H a xs := hid_sqT (x.sqT h)
theorem sqL_le {K : PySem.W.Frag} {Hv H : Hp} {Z : Addr → Prop} {a : Addr} {xs : List V} (x : XT Hv (hid H Z)) (h : Rd Hv a (.lst xs)) : SqL K H a xs := .inl (hid_rd (x.rd h fun ps z => by cases z)).1
/-- a list is one list -/
theorem rd_inj {H : Hp} {a : Addr} {xs ys : List V} (h : Rd H a (.lst xs)) (h' : Rd H a (.lst ys)) : xs = ys := by
  rcases h with h | ⟨o, h⟩ <;> rcases h' with h' | ⟨o', h'⟩ <;> rw [h] at h' <;> cases h' <;> rfl
def seqItems (a : ME) : MA := fun ρ μ => (a ρ μ).bind fun p => (itemsOf p.1).map fun ds => (ds, p.2)
def lstItems (a : ME) : MA := fun ρ μ => (a ρ μ).bind fun p => match p.1 with
  | .list ds => some (ds, p.2)
  | _ => none
def tupItems (a : ME) : MA := fun ρ μ => (a ρ μ).bind fun p => match p.1 with
  | .tuple ds => some (ds, p.2)
  | _ => none
def strItems (a : ME) : MA := fun ρ μ => (a ρ μ).bind fun p => match p.1 with
  | .str x => some (x.cps.toList.map fun c => .str ⟨#[c]⟩, p.2)
  | _ => none
theorem lt_of_some {α : Type} {l : List α} {i : Nat} {x : α} (h : l[i]? = some x) : i < l.length := (List.getElem?_eq_some_iff.mp h).1
theorem pi_l (ha : PDe X T Φ B a ma) : PDi X T Φ B tg a (lstItems ma) := PI.cons (pi_list ha) fun σ H R' ⟨A, Z, ρ, μ, ds, μ', R, hm, k⟩ => by
  unfold lstItems at hm
  cases e : ma ρ μ with
  | none => rw [e] at hm; cases hm
  | some p =>
    rw [e, Option.bind_some] at hm
    obtain ⟨d, μ1⟩ := p
    cases d with
    | list ds' =>
      cases hm
      refine ⟨A, Z, ρ, μ, _, _, R, e, fun x H1 f1 R1 p1 => ?_⟩
      obtain ⟨l, vs, rfl, k1, k2⟩ := p1
      refine ⟨l, rfl, ⟨vs, .inl (hid_rd k1).1⟩, k _ H1 f1 R1 fun H2 Z2 hz xt => ⟨fun i hi => ⟨vs, sqL_le xt k1, by rw [k2.length]; exact hi⟩, fun i d hd => ?_⟩⟩
      obtain ⟨v, e1, p1⟩ := k2.get hd
      refine ⟨⟨vs, v, sqL_le xt k1, e1⟩, fun x H' ⟨eH, hx⟩ => ⟨by rw [eH]; exact Same.refl _, ?_⟩⟩
      have := hx vs (sqL_le xt k1)
      rw [e1] at this
      cases this
      rw [eH]
      exact Rp.mono xt _ _ p1
    | none => cases hm
    | bool _ => cases hm
    | int _ => cases hm
    | str _ => cases hm
    | tuple _ => cases hm
    | dict _ => cases hm
theorem pi_t (ha : PDe X T Φ B a ma) : PDi X T Φ B tg a (tupItems ma) := PI.cons (pi_tup ha) fun σ H R' ⟨A, Z, ρ, μ, ds, μ', R, hm, k⟩ => by
  unfold tupItems at hm
  cases e : ma ρ μ with
  | none => rw [e] at hm; cases hm
  | some p =>
    rw [e, Option.bind_some] at hm
    obtain ⟨d, μ1⟩ := p
    cases d with
    | tuple ds' =>
      cases hm
      refine ⟨A, Z, ρ, μ, _, _, R, e, fun x H1 f1 R1 p1 => ?_⟩
      obtain ⟨l, vs, rfl, k1, k2⟩ := p1
      refine ⟨l, rfl, ⟨vs, hid_sqT k1⟩, k _ H1 f1 R1 fun H2 Z2 hz xt => ⟨fun i hi => ⟨vs, sqT_le xt k1, by rw [k2.length]; exact hi⟩, fun i d hd => ?_⟩⟩
      obtain ⟨v, e1, p1⟩ := k2.get hd
      refine ⟨⟨vs, v, sqT_le xt k1, e1⟩, fun x H' ⟨eH, hx⟩ => ⟨by rw [eH]; exact Same.refl _, ?_⟩⟩
      have := hx vs (sqT_le xt k1)
      rw [e1] at this
      cases this
      rw [eH]
      exact Rp.mono xt _ _ p1
    | none => cases hm
    | bool _ => cases hm
    | int _ => cases hm
    | str _ => cases hm
    | list _ => cases hm
    | dict _ => cases hm
theorem pi_s (ha : PDe X T Φ B a ma) : PDi X T Φ B tg a (strItems ma) := PI.cons (pi_str ha) fun σ H R' ⟨A, Z, ρ, μ, ds, μ', R, hm, k⟩ => by
  unfold strItems at hm
  cases e : ma ρ μ with
  | none => rw [e] at hm; cases hm
  | some p =>
    rw [e, Option.bind_some] at hm
    obtain ⟨d, μ1⟩ := p
    cases d with
    | str x =>
      cases hm
      refine ⟨A, Z, ρ, μ, _, _, R, e, fun v H1 f1 R1 p1 => ⟨x, p1, k _ H1 f1 R1 fun H2 Z2 hz xt => ⟨fun i hi => ?_, fun i d hd => ?_⟩⟩⟩
      · show x.cps.size ≤ i
        simpa using hi
      · rw [List.getElem?_map] at hd
        cases ec : x.cps.toList[i]? with
        | none => rw [ec] at hd; cases hd
        | some c =>
          rw [ec] at hd
          have hd : PyData.str ⟨#[c]⟩ = d := Option.some.inj hd
          subst hd
          refine ⟨(show i < x.cps.size by have := lt_of_some ec; simpa using this), fun v H' ⟨eH, c', e1, e2⟩ => ⟨by rw [eH]; exact Same.refl _, ?_⟩⟩
          have : c' = c := by
            rw [← Array.getElem?_toList, ec] at e1
            exact (Option.some.inj e1).symm
          subst this
          exact e2
    | none => cases hm
    | bool _ => cases hm
    | int _ => cases hm
    | list _ => cases hm
    | tuple _ => cases hm
    | dict _ => cases hm
/-- range(n), range(a, b) -/
def rngD (lo : Int) (n : Nat) : List D := (List.range n).map fun i : Nat => .int (lo + (i : Int))
def okR (i : Int) : Bool := decide (-(2 ^ 62) ≤ i) && decide (i < 2 ^ 62)
def rng1 (a : MA) : MA := fun ρ μ => (a ρ μ).bind fun p => match p.1 with
  | [.int j] => if okR j then some (rngD 0 j.toNat, p.2) else none
  | _ => none
def rng2 (a : MA) : MA := fun ρ μ => (a ρ μ).bind fun p => match p.1 with
  | [.int i, .int j] => if okR i && okR j then some (rngD i (j - i).toNat, p.2) else none
  | _ => none
theorem it_rng {K : PySem.W.Frag} {Hv : Hp} (lo : Int) (n : Nat) : ItOk K (Itr lo n) Hv (rngD lo n) := fun H2 Z2 hz xt => by
  have hl : (rngD lo n).length = n := by unfold rngD; simp
  refine ⟨fun i hi => by rw [hl] at hi; exact hi, fun i d hd => ?_⟩
  have hi : i < n := by have := lt_of_some hd; rw [hl] at this; exact this
  refine ⟨hi, fun x H' ⟨eH, ex⟩ => ⟨by rw [eH]; exact Same.refl _, ?_⟩⟩
  unfold rngD at hd
  rw [List.getElem?_map, List.getElem?_range hi] at hd
  cases hd
  exact ex
theorem pi_r1 {mas : MA} (hg : Gl X "range") (hm : X.mg "range" = none) (ha : PDa X T Φ B [a] mas) (hs : starEach [a] X.env = [(false, eval a X.env)] := by rfl) : PDi X T Φ B tg (.Call (.Name "range" p) [a] [] pos) (rng1 mas) := PI.cons (pi_range1 hg hm ha hs) fun σ H R' ⟨A, Z, ρ, μ, ds, μ', R, hm, k⟩ => by
  unfold rng1 at hm
  cases e : mas ρ μ with
  | none => rw [e] at hm; cases hm
  | some w =>
    rw [e, Option.bind_some] at hm
    obtain ⟨as, μ1⟩ := w
    refine ⟨A, Z, ρ, μ, as, μ1, R, e, fun vs H1 f1 R1 p1 => ?_⟩
    split at hm
    · rename_i j ej
      have ej : as = [.int j] := ej
      subst ej
      obtain ⟨v, r, rfl, h1, h2⟩ := p1
      cases (show r = [] from h2)
      cases (show v = .int j from h1)
      split at hm
      · rename_i ho
        unfold okR at ho
        simp only [Bool.and_eq_true, decide_eq_true_eq] at ho
        cases hm
        exact ⟨j, rfl, ho.1, ho.2, k _ H1 f1 R1 (it_rng 0 _)⟩
      · cases hm
    · cases hm
theorem pi_r2 {mas : MA} (hg : Gl X "range") (hm : X.mg "range" = none) (ha : PDa X T Φ B [a, b] mas) (hs : starEach [a, b] X.env = [(false, eval a X.env), (false, eval b X.env)] := by rfl) (hs2 : starEach [b] X.env = [(false, eval b X.env)] := by rfl) : PDi X T Φ B tg (.Call (.Name "range" p) [a, b] [] pos) (rng2 mas) := PI.cons (pi_range2 hg hm ha hs hs2) fun σ H R' ⟨A, Z, ρ, μ, ds, μ', R, hm, k⟩ => by
  unfold rng2 at hm
  cases e : mas ρ μ with
  | none => rw [e] at hm; cases hm
  | some w =>
    rw [e, Option.bind_some] at hm
    obtain ⟨as, μ1⟩ := w
    refine ⟨A, Z, ρ, μ, as, μ1, R, e, fun vs H1 f1 R1 p1 => ?_⟩
    split at hm
    · rename_i i j ej
      have ej : as = [.int i, .int j] := ej
      subst ej
      obtain ⟨v, r, rfl, h1, v2, r2, rfl, h2, h3⟩ := p1
      cases (show r2 = [] from h3)
      cases (show v = .int i from h1)
      cases (show v2 = .int j from h2)
      split at hm
      · rename_i ho
        unfold okR at ho
        simp only [Bool.and_eq_true, decide_eq_true_eq] at ho
        cases hm
        exact ⟨i, j, rfl, ⟨ho.1.1, ho.1.2, ho.2.1, ho.2.2⟩, k _ H1 f1 R1 (it_rng i _)⟩
      · cases hm
    · cases hm
/-- enumerate(a list), zip(two lists, two tuples) -/
def enumD : Nat → List D → List D
  | _, [] => []
  | i, d :: ds => .tuple [.int i, d] :: enumD (i + 1) ds
theorem enumD_length : ∀ (i : Nat) (ds : List D), (enumD i ds).length = ds.length
  | _, [] => rfl
  | i, d :: ds => by show (enumD (i + 1) ds).length + 1 = _; rw [enumD_length]; rfl
theorem enumD_get : ∀ (i : Nat) (ds : List D) (j : Nat), (enumD i ds)[j]? = (ds[j]?).map fun d => .tuple [.int ((i + j : Nat) : Int), d]
  | _, [], j => by simp [enumD]
  | i, d :: ds, 0 => rfl
  | i, d :: ds, j + 1 => by
    show (enumD (i + 1) ds)[j]? = _
    rw [enumD_get, show i + 1 + j = i + (j + 1) by omega]
    rfl
def enumItems (a : MA) : MA := fun ρ μ => (a ρ μ).bind fun p => match p.1 with
  | [.list ds] => some (enumD 0 ds, p.2)
  | _ => none
theorem pi_en {es : List Expr} {kk : Nat} {tpos : Pos} {mas : MA} (hg : Gl X "enumerate") (hm : X.mg "enumerate" = none) (ha : PDa X T Φ B [a] mas) (hs : starEach [a] X.env = [(false, eval a X.env)] := by rfl) : PDi X T Φ B (.Tuple es kk tpos) (.Call (.Name "enumerate" p) [a] [] pos) (enumItems mas) :=
  PI.cons (pi_enum hg hm ha hs) fun σ H R' ⟨A, Z, ρ, μ, ds, μ', R, hm, k⟩ => by
  unfold enumItems at hm
  cases e : mas ρ μ with
  | none => rw [e] at hm; cases hm
  | some w =>
    rw [e, Option.bind_some] at hm
    obtain ⟨as, μ1⟩ := w
    refine ⟨A, Z, ρ, μ, as, μ1, R, e, fun vs H1 f1 R1 p1 => ?_⟩
    split at hm
    · rename_i ds' ej
      have ej : as = [.list ds'] := ej
      subst ej
      cases hm
      obtain ⟨v, r, rfl, ⟨l, xs, rfl, k1, k2⟩, h2⟩ := p1
      cases (show r = [] from h2)
      refine ⟨l, xs, rfl, .inl (hid_rd k1).1, k _ H1 f1 R1 fun H2 Z2 hz xt => ⟨fun i hi => ⟨xs, sqL_le xt k1, by rw [k2.length]; rw [enumD_length] at hi; exact hi⟩, fun i d hd => ?_⟩⟩
      rw [enumD_get, Nat.zero_add] at hd
      cases ed : ds'[i]? with
      | none => rw [ed] at hd; cases hd
      | some d' =>
        rw [ed] at hd
        have hd : PyData.tuple [.int ((i : Nat) : Int), d'] = d := Option.some.inj hd
        subst hd
        obtain ⟨v, e1, p1⟩ := k2.get ed
        refine ⟨⟨xs, v, sqL_le xt k1, e1⟩, fun x H' ⟨t, x', ex, ht, eH, hx⟩ => ?_⟩
        have := hx xs (sqL_le xt k1)
        rw [e1] at this
        cases this
        subst ex eH
        exact ⟨same_upd ht, rp_new_tup hz ht ⟨_, _, rfl, rfl, _, _, rfl, Rp.mono xt _ _ p1, rfl⟩⟩
    · cases hm
def zipD : List D → List D → List D
  | x :: xs, y :: ys => .tuple [x, y] :: zipD xs ys
  | _, _ => []
theorem zipD_get : ∀ (xs ys : List D) (j : Nat), (zipD xs ys)[j]? = (xs[j]?).bind fun x => (ys[j]?).map fun y => .tuple [x, y]
  | [], ys, j => by simp [zipD]
  | x :: xs, [], j => by simp [zipD]
  | x :: xs, y :: ys, 0 => rfl
  | x :: xs, y :: ys, j + 1 => by
    show (zipD xs ys)[j]? = _
    rw [zipD_get]
    rfl
theorem zipD_length : ∀ (xs ys : List D), (zipD xs ys).length = min xs.length ys.length
  | [], ys => by simp [zipD]
  | x :: xs, [] => by simp [zipD]
  | x :: xs, y :: ys => by show (zipD xs ys).length + 1 = _; rw [zipD_length, List.length_cons, List.length_cons]; omega
def zipItems (a : MA) : MA := fun ρ μ => (a ρ μ).bind fun p => match p.1 with
  | [.list ds, .list es] => some (zipD ds es, p.2)
  | [.tuple ds, .tuple es] => some (zipD ds es, p.2)
  | _ => none
theorem pi_z {es : List Expr} {kk : Nat} {tpos : Pos} {mas : MA} (hg : Gl X "zip") (hm : X.mg "zip" = none) (ha : PDa X T Φ B [a, b] mas) (hs : starEach [a, b] X.env = (false, eval a X.env) :: starEach [b] X.env := by rfl) (hpl : (backTo pos (starEach [b] X.env)).any (·.1) = false := by rfl) :
    PDi X T Φ B (.Tuple es kk tpos) (.Call (.Name "zip" p) [a, b] [] pos) (zipItems mas) :=
  PI.cons (RZ.pi_zipA hg hm ha hs hpl) fun σ H R' ⟨A, Z, ρ, μ, ds, μ', R, hm, k⟩ => by
  unfold zipItems at hm
  cases e : mas ρ μ with
  | none => rw [e] at hm; cases hm
  | some w =>
    rw [e, Option.bind_some] at hm
    obtain ⟨as, μ1⟩ := w
    refine ⟨A, Z, ρ, μ, as, μ1, R, e, fun vs H1 f1 R1 p1 => ?_⟩
    split at hm
    · rename_i ds' es' ej
      have ej : as = [.list ds', .list es'] := ej
      subst ej
      cases hm
      obtain ⟨v, r, rfl, ⟨l, xs, rfl, k1, k2⟩, v2, r2, rfl, ⟨l2, ys, rfl, j1, j2⟩, h3⟩ := p1
      cases (show r2 = [] from h3)
      refine ⟨l, l2, xs, ys, rfl, .inl ⟨.inl (hid_rd k1).1, .inl (hid_rd j1).1, k _ H1 f1 R1 fun H2 Z2 hz xt => ⟨fun i hi => ⟨xs, ys, sqL_le xt k1, sqL_le xt j1, by rw [k2.length, j2.length]; rw [zipD_length] at hi; omega⟩, fun i d hd => ?_⟩⟩⟩
      rw [zipD_get] at hd
      cases ed : ds'[i]? with
      | none => rw [ed] at hd; cases hd
      | some d1 =>
        rw [ed, Option.bind_some] at hd
        cases ee : es'[i]? with
        | none => rw [ee] at hd; cases hd
        | some d2 =>
          rw [ee] at hd
          have hd : PyData.tuple [d1, d2] = d := Option.some.inj hd
          subst hd
          obtain ⟨v, e1, p1⟩ := k2.get ed
          obtain ⟨v', e2, p2⟩ := j2.get ee
          refine ⟨⟨xs, ys, v, v', sqL_le xt k1, sqL_le xt j1, e1, e2⟩, fun x H' ⟨t, x1, x2, ex, ht, eH, hx, hy⟩ => ?_⟩
          have q1 := hx xs (sqL_le xt k1)
          have q2 := hy ys (sqL_le xt j1)
          rw [e1] at q1
          rw [e2] at q2
          cases q1
          cases q2
          subst ex eH
          exact ⟨same_upd ht, rp_new_tup hz ht ⟨_, _, rfl, Rp.mono xt _ _ p1, _, _, rfl, Rp.mono xt _ _ p2, rfl⟩⟩
    · rename_i ds' es' ej
      have ej : as = [.tuple ds', .tuple es'] := ej
      subst ej
      cases hm
      obtain ⟨v, r, rfl, ⟨l, xs, rfl, k1, k2⟩, v2, r2, rfl, ⟨l2, ys, rfl, j1, j2⟩, h3⟩ := p1
      cases (show r2 = [] from h3)
      refine ⟨l, l2, xs, ys, rfl, .inr ⟨hid_sqT k1, hid_sqT j1, k _ H1 f1 R1 fun H2 Z2 hz xt => ⟨fun i hi => ⟨xs, ys, sqT_le xt k1, sqT_le xt j1, by rw [k2.length, j2.length]; rw [zipD_length] at hi; omega⟩, fun i d hd => ?_⟩⟩⟩
      rw [zipD_get] at hd
      cases ed : ds'[i]? with
      | none => rw [ed] at hd; cases hd
      | some d1 =>
        rw [ed, Option.bind_some] at hd
        cases ee : es'[i]? with
        | none => rw [ee] at hd; cases hd
        | some d2 =>
          rw [ee] at hd
          have hd : PyData.tuple [d1, d2] = d := Option.some.inj hd
          subst hd
          obtain ⟨v, e1, p1⟩ := k2.get ed
          obtain ⟨v', e2, p2⟩ := j2.get ee
          refine ⟨⟨xs, ys, v, v', sqT_le xt k1, sqT_le xt j1, e1, e2⟩, fun x H' ⟨t, x1, x2, ex, ht, eH, hx, hy⟩ => ?_⟩
          have q1 := hx xs (sqT_le xt k1)
          have q2 := hy ys (sqT_le xt j1)
          rw [e1] at q1
          rw [e2] at q2
          cases q1
          cases q2
          subst ex eH
          exact ⟨same_upd ht, rp_new_tup hz ht ⟨_, _, rfl, Rp.mono xt _ _ p1, _, _, rfl, Rp.mono xt _ _ p2, rfl⟩⟩
    · cases hm
end
end PD
end
section
set_option linter.all false
set_option maxRecDepth 100000
set_option maxHeartbeats 4000000
/-! P11: functions as values: lambdas with parameters handed to defs. -/
namespace PD
open PySem PySem.Spec PyProof.Rows L2

abbrev GF := List D → Option D
/-- the data seen in H are seen in H' (code objects and tables aside) -/
def XD (H H' : Hp) : Prop := ∀ b o, H b = some o → (∀ ps, o ≠ .tbl ps) → (∀ q, o ≠ LamX.CodeO b q) → H' b = some o
theorem XD.rd {H H' : Hp} (e : XD H H') {a : Addr} {u : HO} (h : Rd H a u) (n : ∀ ps, u ≠ .tbl ps) (n2 : ∀ q, u ≠ LamX.CodeO a q) : Rd H' a u := by
  rcases h with h | ⟨o, h⟩
  · exact .inl (e _ _ h n n2)
  · exact .inr ⟨o, e _ _ h (fun ps z => by cases z) fun q z => by unfold LamX.CodeO at z; cases z⟩
/-- a heap of one object -/
def heap1 (b : Addr) (o : Obj) : Heap := { objs := Array.replicate (b + 1) o }
def codeObj (q : Str) : Obj := { cls := .none, data := .fields #[.none, .str q 0] }
theorem heap1_get (b : Addr) (q : Str) : (heap1 b (codeObj q)).get? b = some (codeObj q) := by
  have e : (heap1 b (codeObj q)).objs[b]? = some (codeObj q) := by simp [heap1]
  unfold Heap.get?
  rw [e]
  rfl
theorem exo_code {b C : Addr} {d : Option Addr} {q : Str} : exo b C d ≠ LamX.CodeO b q := fun z => by
  unfold exo LamX.CodeO at z
  have e := congrFun (HO.ext.inj z) (heap1 b (codeObj q))
  have r : ∃ (oc : Obj) (vs : Array Value) (t : Tok), (heap1 b (codeObj q)).get? b = some oc ∧ oc.data = .fields vs ∧ vs[1]? = some (.str q t) := ⟨_, _, 0, heap1_get b q, rfl, rfl⟩
  rw [← e] at r
  obtain ⟨t1, h⟩ := r
  rw [heap1_get] at h
  cases h
theorem exd_code {b : Addr} {fs : List (Str × V)} {q : Str} : exd b fs ≠ LamX.CodeO b q := fun z => by
  unfold exd LamX.CodeO at z
  have e := congrFun (HO.ext.inj z) (heap1 b (codeObj q))
  have r : ∃ (oc : Obj) (vs : Array Value) (t : Tok), (heap1 b (codeObj q)).get? b = some oc ∧ oc.data = .fields vs ∧ vs[1]? = some (.str q t) := ⟨_, _, 0, heap1_get b q, rfl, rfl⟩
  rw [← e] at r
  obtain ⟨mA, hn, _⟩ := r
  obtain ⟨o, es, ep, h1, h2, _⟩ := hn
  rw [heap1_get] at h1
  cases h1
  cases h2
theorem excAt.xd {K : PySem.W.Frag} {H H' : Hp} {a : Addr} {nm : Str} {fs : List (Str × V)} (x : excAt K H a nm fs) (e : XD H H') : excAt K H' a nm fs := by
  obtain ⟨od, h1, h2⟩ := x
  refine ⟨od, e _ _ h1 (fun ps => exo_tbl) (fun q => exo_code), h2.imp id ?_⟩
  rintro ⟨dx, e1, e2⟩
  exact ⟨dx, e1, e _ _ e2 (fun ps => exd_tbl) fun q => exd_code⟩
theorem lst_code {a : Addr} {xs : List V} {q : Str} : HO.lst xs ≠ LamX.CodeO a q := fun z => by unfold LamX.CodeO at z; cases z
theorem tup_code {a : Addr} {xs : List V} {q : Str} : HO.tup xs ≠ LamX.CodeO a q := fun z => by unfold LamX.CodeO at z; cases z
theorem dK_code {a : Addr} {xs : List (Key × V)} {q : Str} : HO.dK xs ≠ LamX.CodeO a q := fun z => by unfold LamX.CodeO at z; cases z
theorem dT_code {a : Addr} {xs : List (List Key × V)} {q : Str} : HO.dT xs ≠ LamX.CodeO a q := fun z => by unfold LamX.CodeO at z; cases z
section
variable {K : PySem.W.Frag} {H H' : Hp} (e : XD H H')
include e
mutual
theorem Rp.monoD : ∀ (d : D) (v : V), Rp K H v d → Rp K H' v d
  | .none, _, h => h
  | .bool _, _, h => h
  | .int _, _, h => h
  | .str _, _, h => h
  | .list ds, _, ⟨a, xs, e1, h1, h2⟩ => ⟨a, xs, e1, e.rd h1 (fun ps z => by cases z) fun q => lst_code, RpA.monoD ds _ h2⟩
  | .tuple ds, _, ⟨a, xs, e1, h1, h2⟩ => ⟨a, xs, e1, h1.elim (fun z => .inl (e.rd z (fun ps z => by cases z) fun q => tup_code)) .inr, RpA.monoD ds _ h2⟩
  | .dict kvs, _, ⟨a, e1, h⟩ => ⟨a, e1, h.elim (fun ⟨ps, h1, h2, h3⟩ => .inl ⟨ps, e _ _ h1 (fun ps z => by cases z) (fun q => dK_code), h2, RpP.monoD kvs _ h3⟩)
      (fun h => .inr (h.elim (fun ⟨ps, h1, h2, h3⟩ => .inl ⟨ps, e _ _ h1 (fun ps z => by cases z) (fun q => dT_code), h2, RpP.monoD kvs _ h3⟩)
        fun ⟨nm, fs, h1, h2, h3⟩ => .inr ⟨nm, fs, h1.xd e, h2, RpP.monoD kvs _ h3⟩))⟩
theorem RpA.monoD : ∀ (ds : List D) (vs : List V), RpA K H vs ds → RpA K H' vs ds
  | [], _, h => h
  | d :: ds, _, ⟨v, r, e1, h1, h2⟩ => ⟨v, r, e1, Rp.monoD d v h1, RpA.monoD ds r h2⟩
theorem RpP.monoD : ∀ (ds : List (D × D)) (vs : List V), RpP K H vs ds → RpP K H' vs ds
  | [], _, h => h
  | (_, d) :: ds, _, ⟨v, r, e1, h1, h2⟩ => ⟨v, r, e1, Rp.monoD d v h1, RpP.monoD ds r h2⟩
end
end
theorem Rep.calm {K : PySem.W.Frag} {T : List (Addr × Str)} {Φ : Fx} {A : List Addr} {Z : Addr → Prop} {σ : L2.St} {H H' : Hp} {ρ : List Slot} {μ : List Cell} (R : Rep K T Φ A Z σ H ρ μ) (f : Fw (fun _ => False) H H') (tb : LamX.Tabs T H') : Rep K T Φ A Z σ H' ρ μ :=
  ⟨R.len, R.alen, R.nd, fun a z => ⟨(R.zo a z).1, fun e => (R.zo a z).2 (f.there a e)⟩, tb, fun k c a e1 e2 => (R.cell k c a e1 e2).xt (f.xt fun _ h => h.elim) fun o e t => f.keep a o e id t, fun i s e => (R.slot i s e).xt (f.xt fun _ h => h.elim)⟩

/-! ### what a function value promises -/
section
variable (P : Program) (w : World) (K : PySem.W.Frag) (mg : Str → Option Value) (base : Heap) (T : List (Addr × Str)) (kk : Nat)
/-- the function at f does G in each state behind (s0, H0), as long as Ψ is to be seen -/
def FnV (fs0 : List Addr) (s0 : Shared) (H0 : Hp) (f : Addr) (Ψ : Hp → Prop) (G : GF) : Prop :=
  ∀ (fs1 : List Addr) (A : Around) (outer : List Env) (s1 : Shared) (H1 : Hp) (us : List Value) (vs : List V) (ds : List D) (d : D) (Q : VK) (Z : Addr → Prop),
    Room kk A → Env0 P w K mg base A outer s1 H1 → (∀ b ∈ frs outer, b ∈ fs1) → (∀ b ∈ fs1, b ∈ fs0 ∨ s0.heap.objs.size ≤ b) → s0.heap.objs.size ≤ s1.heap.objs.size → Un fs1 [] H0 H1 s0.heap s1.heap → Ψ (hid H1 Z) → (∀ a, Z a → ¬ Fr H1 a) → LamX.Tabs T H1 →
    Vals vs us → RpA K (hid H1 Z) vs ds → G ds = some d → (∀ v H', Fw (fun _ => False) H1 H' → LamX.Tabs T H' → Rp K (hid H' Z) v d → Q v H') → codeAny (model P w) A (.call (.ref f) ⟨us, []⟩) (CR CX0 outer P w H1 s1 Q E0) s1
structure FxAt (Φ : Fx) (fs0 : List Addr) (s0 : Shared) (H0 : Hp) : Prop where
  at_ : ∀ Hv v G, Φ.rel Hv v G → ∃ f, v = .ref f ∧ ∀ (fs1 : List Addr) (s1 : Shared) (H1 : Hp), (∀ b ∈ fs1, b ∈ fs0 ∨ s0.heap.objs.size ≤ b) → s0.heap.objs.size ≤ s1.heap.objs.size → Un fs1 [] H0 H1 s0.heap s1.heap → PySem.W.FnAt f s1.heap
  run : ∀ f G, FnV P w K mg base T kk fs0 s0 H0 f (fun Hv => Φ.rel Hv (.ref f) G) G
/-- the promise of a def that may be handed functions -/
def HoOk (k : Nat) (f : Addr) (fd : FuncData) (ps : List Str) (F : FD) : Prop :=
  ∀ (A : Around) (outer : List Env) (s : Shared) (H : Hp) (args : Args) (us : List Value) (vs : List V) (Q : VK) (Φ : Fx) (Z : Addr → Prop) (as : List Slot) (d : D),
    Room k A → Env0 P w K mg base A outer s H → BindsTo s fd args (ps.zip us) → Vals vs us → vs.length = ps.length → FxAt P w K mg base T kk Φ (frs outer) s H → Rep K T Φ [] Z (vs.map some) H as [] → F as [] = some (d, []) →
    (∀ v H', Fw (fun _ => False) H H' → LamX.Tabs T H' → Rp K (hid H' Z) v d → Q v H') → codeAny (model P w) A (.call (.ref f) args) (CR CX0 outer P w H s Q E0) s
end
section
variable {P : Program} {w : World} {K : PySem.W.Frag} {mg : Str → Option Value} {base : Heap} {T : List (Addr × Str)} {kk : Nat}
theorem fx_no {fs0 : List Addr} {s0 : Shared} {H0 : Hp} : FxAt P w K mg base T kk noFx fs0 s0 H0 := ⟨fun _ _ _ h => h.elim, fun f G fs1 A outer s1 H1 us vs ds d Q Z _ _ _ _ _ _ h => h.elim⟩
theorem FxAt.later {Φ : Fx} {fs0 fs1 : List Addr} {s0 s1 : Shared} {H0 H1 : Hp} (x : FxAt P w K mg base T kk Φ fs0 s0 H0) (hfs : ∀ b ∈ fs1, b ∈ fs0 ∨ s0.heap.objs.size ≤ b) (sz : s0.heap.objs.size ≤ s1.heap.objs.size) (un : Un fs1 [] H0 H1 s0.heap s1.heap) : FxAt P w K mg base T kk Φ fs1 s1 H1 := by
  have cmb : ∀ {fs2 : List Addr} {s2 : Shared} {H2 : Hp}, (∀ b ∈ fs2, b ∈ fs1 ∨ s1.heap.objs.size ≤ b) → Un fs2 [] H1 H2 s1.heap s2.heap → (∀ b ∈ fs1 ++ fs2, b ∈ fs0 ∨ s0.heap.objs.size ≤ b) ∧ Un (fs1 ++ fs2) [] H0 H2 s0.heap s2.heap := fun {fs2 s2 H2} h u =>
    ⟨fun b hb => (List.mem_append.mp hb).elim (hfs b) fun z => (h b z).elim (hfs b) fun z => .inr (Nat.le_trans sz z), (un.mono (fun b hb => List.mem_append_left _ hb) fun b hb => hb).trans (u.mono (fun b hb => List.mem_append_right _ hb) fun b hb => hb)⟩
  refine ⟨fun Hv v G h => ?_, fun f G fs2 A outer s2 H2 us vs ds d Q Z hr e0 ho h z u hΨ => ?_⟩
  · obtain ⟨f, e, q⟩ := x.at_ Hv v G h
    exact ⟨f, e, fun fs2 s2 H2 h z u => q _ s2 H2 (cmb h u).1 (Nat.le_trans sz z) (cmb h u).2⟩
  · exact x.run f G (fs1 ++ fs2) A outer s2 H2 us vs ds d Q Z hr e0 (fun b hb => List.mem_append_right _ (ho b hb)) (cmb h u).1 (Nat.le_trans sz z) (cmb h u).2 hΨ
theorem FxAt.mono {Φ : Fx} {fs0 : List Addr} {s0 : Shared} {H0 : Hp} {j : Nat} (x : FxAt P w K mg base T j Φ fs0 s0 H0) (h : j ≤ kk) : FxAt P w K mg base T kk Φ fs0 s0 H0 := ⟨x.at_, fun f G fs1 A outer s1 H1 us vs ds d Q Z hr => x.run f G fs1 A outer s1 H1 us vs ds d Q Z (hr.mono h)⟩
/-- THE RULE for a def that may be handed functions -/
theorem ho_of {x qual : Str} {st : Stmt} {f : Addr} {fd : FuncData} {N ps : List Str} {k : Nat} {m : MS} (F : Fun K x qual st f fd) (S : FnScope N ps (defScope st))
    (hb : ∀ (cd : Value), cd = codeV K f → ∀ (A : Around) (outer : List Env) (s : Shared) (H : Hp) (Φ : Fx), Room k (A.deeper (envOfC qual (defScope st) s.heap.objs.size f cd)) → FxAt P w K mg base T kk Φ (frs outer) s H → PDss (CtxF P w K mg base N qual (defScope st) f cd A outer s H E0) T Φ (defBody st) m) :
    HoOk P w K mg base T kk (k + 1) f fd ps (bodyF (N.length - ps.length) m) := by
  intro A outer s H args us vs Q Φ Z as d hr e0 hbi r hl hx R hm k'
  obtain ⟨oc, od, kV, doc, pm, an, cdv, ct, osl, rfl, lk, hcd⟩ := F.ex
  refine LamX.run_ofS lk hcd S hr e0 hbi r hl fun hr' => ?_
  refine ⟨_, (hb cdv (by unfold codeV; rw [lk]) A outer s H Φ hr' hx).nox, ?_⟩
  refine entry_of hl R hm fun v H' f1 R1 p1 => ?_
  refine k' v H' (f1.mono fun x h => by simp at h) R1.tabs ?_
  have e : (fun a => Z a ∨ a ∈ ([] : List Addr)) = Z := funext fun a => propext ⟨fun h => h.elim id fun z => by simp at z, .inl⟩
  rw [e] at p1
  exact p1
end
section
variable {X : Cx} {T : List (Addr × Str)} {Φ : Fx} {B : Nat → Bool} {a : Expr} {es : List Expr} {ma : ME} {mas : MA} {pos p : Pos} {kk : Nat} {x : Str}
abbrev FxX (X : Cx) (T : List (Addr × Str)) (kk : Nat) (Φ : Fx) : Prop := FxAt X.prog X.w X.K X.mg X.base T kk Φ X.fs X.s_0 X.H_0
theorem stk_sub {pins : List (Addr × Obj)} {σ : L2.St} {H : Hp} {s : Shared} (I : Inv X pins σ H s) : ∀ b ∈ frs X.stack, b ∈ X.fs ∨ X.s_0.heap.objs.size ≤ b := fun b hb => by
  rcases List.mem_cons.mp (I.stkSub b hb) with e | e
  · exact .inr (by rw [e]; exact I.ok.above)
  · exact .inl e
theorem stk_un {pins : List (Addr × Obj)} {σ : L2.St} {H : Hp} {s : Shared} (I : Inv X pins σ H s) (hex : X.ex = []) : Un (frs X.stack ++ X.fs) [] X.H_0 H X.s_0.heap s.heap := by
  have u := I.base
  rw [hex] at u
  exact u.mono (fun b hb => List.mem_append_right _ hb) fun b hb => hb
theorem FxX.now {pins : List (Addr × Obj)} {σ : L2.St} {H : Hp} {s : Shared} (hΦ : FxX X T kk Φ) (I : Inv X pins σ H s) (hex : X.ex = []) : FxAt X.prog X.w X.K X.mg X.base T kk Φ (frs X.stack ++ X.fs) s H :=
  FxAt.later hΦ (fun b hb => (List.mem_append.mp hb).elim (stk_sub I b) .inl) I.sz (stk_un I hex)
/-- x(..), x a name that holds a function -/
def eFn (i : Nat) (ma : MA) : ME := fun ρ μ => match ρ[i]? with
  | some (.fn G) => (ma ρ μ).bind fun p => (G p.1).map fun d => (d, p.2)
  | _ => none
theorem zw_nil {B : Nat → Bool} {ρ : List Slot} {Z : Addr → Prop} : Zw B ρ [] Z = Z := funext fun a => propext ⟨fun h => h.elim id fun ⟨k, e, _⟩ => by simp at e, .inl⟩
theorem pd_fn (i : Nat) (hΦ : FxX X T kk Φ) (hex : X.ex = []) (hr : Room kk X.A) (ha : PDa X T Φ B (a :: es) mas) (hN : X.N[i]? = some x := by rfl) (hv : Vis X.env.scope x := by first | exact Or.inl rfl | exact Or.inr (Or.inl rfl) | exact Or.inr (Or.inr rfl))
    (hd : (x == ("__debug__" : Str)) = false := by decide) (hcd : (x == ("__classdict__" : Str)) = false := by decide) (he : starEach (a :: es) X.env = (false, eval a X.env) :: starEach es X.env := by rfl) (hpl : (backTo pos (starEach es X.env)).any (·.1) = false := by rfl) :
    PDe X T Φ B (.Call (.Name x p) (a :: es) [] pos) (eFn i mas) := by
  refine ⟨fun pins s σ H Q I h => ?_⟩
  obtain ⟨A, Z, ρ, μ, d, μ', R, hm, k⟩ := h
  unfold eFn at hm
  split at hm
  · rename_i G eG
    cases e : mas ρ μ with
    | none => rw [e] at hm; cases hm
    | some q =>
      rw [e, Option.bind_some] at hm
      cases e2 : G q.1 with
      | none => rw [e2] at hm; cases hm
      | some d' =>
        rw [e2] at hm
        cases hm
        obtain ⟨v, hs, hrel⟩ := R.slot i _ eG
        obtain ⟨f, rfl, hat⟩ := hΦ.at_ _ _ _ hrel
        have fnAt : ∀ {σ' : L2.St} {H' : Hp} {s' : Shared}, Inv X pins σ' H' s' → PySem.W.FnAt f s'.heap := fun {σ' H' s'} I' => hat X.fs s' H' (fun b hb => .inl hb) I'.sz (by have u := I'.base; rw [hex] at u; exact u)
        refine wpAny_Call_Name_kw (thn ((pe_var (pos := p) hN hv hd hcd).run pins s σ H (fun v H1 => v = .ref f ∧ H1 = H) I ⟨.ref f, hs, rfl, rfl⟩) fun u s1 ⟨v, H1, I1, r1, q1⟩ => ?_)
        obtain ⟨ev, eH⟩ := q1
        subst ev
        rw [eH] at I1
        obtain rfl : u = Value.ref f := r1
        refine PySem.W.callWith_F (first := []) (fnAt I1) (thn (ha.run pos pins s1 σ H (fun vs H2 => Fw (Wr B ρ A) H H2 ∧ Rep X.K T Φ A Z σ H2 ρ q.2 ∧ RpA X.K (hid H2 (Zw B ρ A Z)) vs q.1) I1 ⟨A, Z, ρ, μ, q.1, q.2, R, e, fun vs H2 f2 R2 p2 => ⟨f2, R2, p2⟩⟩) fun us s2 ⟨vs, H2, I2, r, f2, R2, p2⟩ => ⟨fnAt I2, ?_⟩) he hpl
        show wpAny _ _ (call (.ref f) us) _ _ _
        obtain ⟨v', hs', hrel'⟩ := R2.slot i _ eG
        have ev : v' = V.ref f := by rw [hs] at hs'; cases hs'; rfl
        subst ev
        refine wpAny_call (codeAny_mono (hΦ.run f G (frs X.stack ++ X.fs) X.A X.stack s2 H2 us vs q.1 _ Q (Zw B ρ A Z) hr I2.env0 (fun b hb => List.mem_append_left _ hb) (fun b hb => (List.mem_append.mp hb).elim (stk_sub I2 b) .inl) I2.sz (stk_un I2 hex) (Φ.mono (Rep.see H2) hrel') R2.trackF R2.tabs r p2 e2 fun v H3 f3 t3 p3 => ?_) fun r s' hq => ?_)
        · exact k v H3 (f2.trans (f3.mono fun _ h => h.elim)) (R2.calm f3 t3) p3
        · cases r with
          | error e => exact (show False from hq).elim
          | ok fl =>
            cases fl with
            | ret u => exact I2.after hq
            | next => exact False.elim hq
            | brk => exact False.elim hq
            | cont => exact False.elim hq
  · cases hm
end
end PD
end
section
set_option linter.all false
set_option maxRecDepth 100000
set_option maxHeartbeats 4000000
/-! P12: lambdas made, handed on. -/
namespace PD
open PySem PySem.Spec PyProof.Rows L2 NdefX LamX

abbrev LamF (q : Str) (params : Arguments) (scope : Scope) (cl : List (Str × Addr)) (c' : Addr) : NF := ⟨"<lambda>", q, params, [], scope, cl, c'⟩
abbrev LamC (X : Cx) (N : List Str) (params : Arguments) (scope : Scope) (f c' : Addr) (cl : List (Str × Addr)) (A : Around) (outer : List Env) (s : Shared) (H : Hp) : Cx :=
  ncx CX0 X.prog X.w X.K X.mg X.base N (LamF (X.env.qual ++ "<lambda>") params scope cl c') f A outer s H E0
def lamG (n e : Nat) (mb : ME) (cap : List Slot) : GF := fun ds => if ds.length = n then (mb (ds.map .val ++ cap ++ List.replicate e .non) []).map (·.1) else none
def capO : Option Slot → Slot
  | some (.val d) => .val d
  | some (.fn G) => .fn G
  | _ => .non
def capS (ρ : List Slot) (js : List Nat) : List Slot := js.map fun j => capO ρ[j]?
def lamFx (K : PySem.W.Frag) (Φ : Fx) (f c' : Addr) (q : Str) (cap : List Slot) (ws : List (Option V)) (G : GF) : Fx where
  rel Hv v G' := v = .ref f ∧ G' = G ∧ Hv c' = some (CodeO c' q) ∧ ∀ (i : Nat) (s : Slot), cap[i]? = some s → SlotAt K Φ Hv [] ws[i]? s
  mono := fun {H H' v G} e h => ⟨h.1, h.2.1, e _ _ h.2.2.1 codeO_ne, fun i s q => SlotAt.xt (h.2.2.2 i s q) e⟩
section
variable {P : Program} {w : World} {K : PySem.W.Frag} {mg : Str → Option Value} {base : Heap} {T : List (Addr × Str)} {kk : Nat}
theorem FxAt.fewer {Φ : Fx} {fs0 fs : List Addr} {s0 : Shared} {H0 : Hp} (x : FxAt P w K mg base T kk Φ fs0 s0 H0) (h : ∀ b ∈ fs, b ∈ fs0) : FxAt P w K mg base T kk Φ fs s0 H0 := by
  have le : ∀ {fs1 : List Addr}, (∀ b ∈ fs1, b ∈ fs ∨ s0.heap.objs.size ≤ b) → ∀ b ∈ fs1, b ∈ fs0 ∨ s0.heap.objs.size ≤ b := fun q b hb => (q b hb).elim (fun z => .inl (h b z)) .inr
  refine ⟨fun Hv v G hr => ?_, fun f G fs1 A outer s1 H1 us vs ds d Q Z hr e0 ho hf => x.run f G fs1 A outer s1 H1 us vs ds d Q Z hr e0 ho (le hf)⟩
  obtain ⟨f, e, q⟩ := x.at_ Hv v G hr
  exact ⟨f, e, fun fs1 s1 H1 hf => q fs1 s1 H1 (le hf)⟩
theorem cells_un {cl : List (Str × Addr)} {fr : List Str} {ws : List (Option V)} {h h1 : Heap} {H H1 : Hp} {fs : List Addr} (C : CellsAt cl fr ws h H) (un : Un fs [] H H1 h h1) : CellsAt cl fr ws h1 H1 := by
  have kp : ∀ {c : Addr} {v : Option Value}, H c = none → h.IsCell c v → h1.IsCell c v := fun {c v} n ⟨o, ho, hd⟩ => by
    obtain ⟨sl, q⟩ := un.any ho n (by simp)
    exact ⟨_, q, hd⟩
  refine ⟨C.len, fun y c e => ?_, C.inj, fun i y e => ?_⟩
  · obtain ⟨n, v, o, ho, hd⟩ := C.all y c e
    exact ⟨un.free c o ho n (by simp), v, kp n ⟨o, ho, hd⟩⟩
  · obtain ⟨c, hc, hv⟩ := C.has i y e
    refine ⟨c, hc, fun v ev => ?_⟩
    obtain ⟨u, r, z⟩ := hv v ev
    exact ⟨u, r, kp (C.all y c hc).1 z⟩
end
section
variable {X : Cx} {T : List (Addr × Str)} {Φ : Fx} {B : Nat → Bool} {pins : List (Addr × Obj)} {σ : L2.St} {H : Hp} {s : Shared}
theorem lam_fx {kb kΦ : Nat} {f c' : Addr} {pm ctv : Value} {params : Arguments} {body : Expr} {scope : Scope} {cl : List (Str × Addr)} {N ps fr : List Str} {ws : List (Option V)} {cap : List Slot} {mb : ME} (I : Inv X pins σ H s) (hex : X.ex = [])
    (hf : s.heap.get? f = some (PySem.W.kla_obj "<lambda>" (X.env.qual ++ "<lambda>") params body scope cl pm c' ctv)) (hfn : H f = none) (hfr : f ∉ frs X.stack) (C : CellsAt cl fr ws s.heap H) (S : NScope N ps fr scope)
    (hbind : ∀ us : List Value, us.length = ps.length → bindArgs (PySem.W.kla_fn "<lambda>" (X.env.qual ++ "<lambda>") params body scope cl pm (.ref c') ctv) ⟨us, []⟩ = pure (ps.zip us)) (hcap : cap.length = fr.length) (hΦ : FxX X T kΦ Φ)
    (hb : ∀ (A : Around) (outer : List Env) (s1 : Shared) (H1 : Hp), Room kb (LamC X N params scope f c' cl A outer s1 H1).A → FxX (LamC X N params scope f c' cl A outer s1 H1) T kΦ Φ → PDe (LamC X N params scope f c' cl A outer s1 H1) T Φ B body mb) :
    FxAt X.prog X.w X.K X.mg X.base T (kb + 1) (lamFx X.K Φ f c' (X.env.qual ++ "<lambda>") cap ws (lamG ps.length (N.length - ps.length - fr.length) mb cap)) (frs X.stack) s H := by
  have lt := Heap.lt_size hf
  have nf : ∀ {fs1 : List Addr}, (∀ b ∈ fs1, b ∈ frs X.stack ∨ s.heap.objs.size ≤ b) → f ∉ fs1 := fun {fs1} h z => (h f z).elim hfr fun q => Nat.lt_irrefl _ (Nat.lt_of_lt_of_le lt q)
  refine ⟨fun Hv v G h => ⟨f, And.left h, fun fs1 s1 H1 hfs _ un => ⟨_, _, _, _, un.keep f _ hf hfn (nf hfs) (by simp)⟩⟩, ?_⟩
  intro f' G fs1 A outer s1 H1 us vs ds d Q Z hr e0 ho hfs hsz un hΨ hz hT r pd hG k
  obtain ⟨ef, rfl, hc, hcp⟩ := (show V.ref f' = V.ref f ∧ G = _ ∧ hid H1 Z c' = some (CodeO c' (X.env.qual ++ "<lambda>")) ∧ ∀ (i : Nat) (s : Slot), cap[i]? = some s → SlotAt X.K Φ (hid H1 Z) [] ws[i]? s from hΨ)
  cases ef
  have of1 := un.keep f _ hf hfn (nf hfs) (by simp)
  have hcO := (of_hid hc).1
  unfold lamG at hG
  split at hG
  · rename_i hl
    cases em : mb (ds.map .val ++ cap ++ List.replicate (N.length - ps.length - fr.length) .non) [] with
    | none => rw [em] at hG; cases hG
    | some q =>
      rw [em] at hG
      cases hG
      have lv : vs.length = ps.length := by rw [pd.length]; exact hl
      have lim : s1.heap.NoLimit := e0.mod.nolimit.keeps fun b o e => (e0.bs b o e).1
      refine PySem.W.kla_callFunE hr.depth of1 rfl S.co S.gen rfl (codeO_at e0.hok hcO) ?_
      rw [hbind us (by rw [← r.length]; exact lv)]
      refine wpAny_pure (wpAny_newFunctionEnv S.nocell (fun ⟨n, _⟩ hy => S.par n (List.of_mem_zip hy).1) (fun h₁ hns hsb => ⟨lim.fresh _ hsb, ?_⟩) S.kind)
      show codeAny _ _ (.expr body (envF (LamF (X.env.qual ++ "<lambda>") params scope cl c') f s1.heap.objs.size)) _ _
      have kp : ∀ b o, s1.heap.get? b = some o → h₁.get? b = some o := fun b o e => hsb.extBut b o (Nat.ne_of_lt (Heap.lt_size e)) (Heap.get?_push_of_some _ e)
      have C1 := cells_un C un
      have J : Inv (LamC X N params scope f c' cl A outer s1 H1) [] (startF N vs ws) H1 { s1 with heap := h₁, toks := s1.toks + (ps.zip us).length } := inv_startN S hr.hd e0 lv r C1 hns kp
      have x1 : FxX (LamC X N params scope f c' cl A outer s1 H1) T kΦ Φ := by
        have y := FxX.now hΦ I hex
        exact (y.later (fs1 := fs1) (fun b hb => (hfs b hb).elim (fun z => .inl (List.mem_append_left _ z)) .inr) hsz un).fewer ho
      refine PySem.W.kla_codeExpr (wpAny_mono ((hb A outer s1 H1 (hr.deeper _) x1).run [] _ _ H1 Q J ?_) (fun v s' hq => ?_) fun e s' hq => hq)
      · refine ⟨[], Z, _, [], q.1, q.2, ⟨?_, rfl, List.nodup_nil, fun a z => ⟨by simp, hz a z⟩, hT, fun k c a e1 => by simp at e1, fun i sl e => ?_⟩, em, fun v H' f1 R1 p1 => k v H' (f1.mono fun a ⟨j, e, _⟩ => by simp at e) R1.tabs (by rw [zw_nil] at p1; exact p1)⟩
        · have := C.len
          have := hcap
          unfold startF
          simp only [List.length_append, List.length_map, List.length_replicate]
          omega
        · have hzz : (fun a => Z a ∨ a ∈ ([] : List Addr)) = Z := funext fun a => propext ⟨fun h => h.elim id fun z => by simp at z, .inl⟩
          rw [hzz]
          have lc : ws.length = fr.length := C.len
          unfold startF
          by_cases h1 : i < ds.length
          · rw [List.append_assoc, List.getElem?_append_left (by rw [List.length_map]; exact h1), List.getElem?_map, List.getElem?_eq_getElem h1] at e
            have e : Slot.val ds[i] = sl := Option.some.inj e
            obtain ⟨v, ev, pv⟩ := pd.get (List.getElem?_eq_getElem h1)
            rw [← e]
            refine ⟨v, ?_, pv⟩
            rw [List.getElem?_append_left (by rw [List.length_map]; omega), List.getElem?_map, ev]
            rfl
          · rw [List.append_assoc, List.getElem?_append_right (by rw [List.length_map]; omega), List.length_map] at e
            rw [List.getElem?_append_right (by rw [List.length_map]; omega), List.length_map]
            have ei : i - vs.length = i - ds.length := by omega
            rw [ei]
            by_cases h2 : i - ds.length < cap.length
            · rw [List.getElem?_append_left h2] at e
              rw [List.getElem?_append_left (by omega)]
              exact hcp _ _ e
            · rw [List.getElem?_append_right (by omega), List.getElem?_replicate] at e
              split at e
              · cases e; trivial
              · cases e
      · obtain ⟨w', H', J', rv, q⟩ := hq
        exact ⟨w', H', J'.os, J'.bare, J'.base, J'.hok, rv, q⟩
  · cases hG
end

/-! ### arguments of which the last is a function -/
abbrev MF := List Slot → List Cell → Option ((List D × GF) × List Cell)
/-- the value v is the function G at s, H; Zw is hidden -/
def FnArg (X : Cx) (T : List (Addr × Str)) (kk : Nat) (H : Hp) (s : Shared) (Zw : Addr → Prop) (v : V) (G : GF) : Prop :=
  ∃ (Φ : Fx) (Zl : Addr → Prop), FxAt X.prog X.w X.K X.mg X.base T kk Φ (frs X.stack) s H ∧ (∀ a, Zl a → Zw a) ∧ (∀ a, Zw a → Zl a ∨ ∃ q, H a = some (CodeO a q)) ∧ Φ.rel (hid H Zl) v G
structure PL (X : Cx) (T : List (Addr × Str)) (Φ : Fx) (B : Nat → Bool) (kk : Nat) (es : List Expr) (m : MF) : Prop where
  run : ∀ (pos : Pos) (pins : List (Addr × Obj)) (s : Shared) (σ : L2.St) (H : Hp) (Post : List Value → Shared → Prop) (A : List Addr) (Z : Addr → Prop) (ρ : List Slot) (μ : List Cell) (ds : List D) (G : GF) (μ' : List Cell), Inv X pins σ H s → Rep X.K T Φ A Z σ H ρ μ → m ρ μ = some ((ds, G), μ') →
    (∀ vs us v u H1 s1, Inv X pins σ H1 s1 → Vals vs us → RelV v u → Fw (Wr B ρ A) H H1 → Rep X.K T Φ A Z σ H1 ρ μ' → RpA X.K (hid H1 (Zw B ρ A Z)) vs ds → FnArg X T kk H1 s1 (Zw B ρ A Z) v G → Post (us ++ [u]) s1) →
    wpAny (model X.prog X.w) X.A (spliced (backTo pos (starEach es X.env))) Post X.xe s
def lC (a : ME) (r : MF) : MF := fun ρ μ => (a ρ μ).bind fun p => (r ρ p.2).map fun q => ((p.1 :: q.1.1, q.1.2), q.2)
def lLam (n e : Nat) (js : List Nat) (mb : ME) : MF := fun ρ μ => some (([], lamG n e mb (capS ρ js)), μ)
def fnG (n : Nat) (F : FD) : GF := fun ds => if ds.length = n then (F (ds.map .val) []).map (·.1) else none
def lFn (G : GF) : MF := fun ρ μ => some (([], G), μ)
def eHo (n : Nat) (F : FD) (m : MF) : ME := fun ρ μ => (m ρ μ).bind fun p => (F (p.1.1.map .val ++ [.fn p.1.2]) []).bind fun q => if q.2.isEmpty && p.1.1.length + 1 == n then some (q.1, p.2) else none
section
variable {X : Cx} {T : List (Addr × Str)} {Φ : Fx} {B : Nat → Bool} {kk : Nat} {a : Expr} {es : List Expr} {ma : ME} {ml : MF} {pos p : Pos} {x : Str}
theorem pl_c (ha : PDe X T Φ B a ma) (hr : PL X T Φ B kk es ml) (hs : starEach (a :: es) X.env = (false, eval a X.env) :: starEach es X.env := by rfl) : PL X T Φ B kk (a :: es) (lC ma ml) := by
  refine ⟨fun pos pins s σ H Post A Z ρ μ ds G μ' I R hm k => ?_⟩
  unfold lC at hm
  cases e1 : ma ρ μ with
  | none => rw [e1] at hm; cases hm
  | some p =>
    rw [e1, Option.bind_some] at hm
    cases e2 : ml ρ p.2 with
    | none => rw [e2] at hm; cases hm
    | some q =>
      rw [e2] at hm
      cases hm
      rw [hs]
      show wpAny _ _ (spliced ((false, eval a X.env) :: backTo pos (starEach es X.env))) _ _ s
      refine Calls.spliced_cons (thn (ha.run pins s σ H (fun v H1 => Fw (Wr B ρ A) H H1 ∧ Rep X.K T Φ A Z σ H1 ρ p.2 ∧ Rp X.K (hid H1 (Zw B ρ A Z)) v p.1) I ⟨A, Z, ρ, μ, p.1, p.2, R, e1, fun v H1 f1 R1 p1 => ⟨f1, R1, p1⟩⟩) fun u s1 ⟨v, H1, I1, r1, f1, R1, p1⟩ => ?_)
      refine hr.run pos pins s1 σ H1 _ A Z ρ p.2 q.1.1 q.1.2 q.2 I1 R1 e2 fun vs us v2 u2 H2 s2 I2 r2 r3 f2 R2 p2 fa => ?_
      exact k (v :: vs) (u :: us) v2 u2 H2 s2 I2 (.cons r1 r2) r3 (f1.trans f2) R2 ⟨v, vs, rfl, Rp.mono (fw_xt f2) _ _ p1, p2⟩ fa
/-- a lambda -/
theorem pl_lam {kb kΦ : Nat} {c P : Addr} {params : Arguments} {body : Expr} {scope : Scope} {lpos : Pos} {N ps fr : List Str} {js : List Nat} {mb : ME} (hex : X.ex = []) (TB : TabB X.base X.mg c P) (hcode : X.env.code = .ref c) (hm : (P, X.env.qual ++ "<lambda>") ∈ T)
    (hu : ∀ p ∈ T, p.1 = P → p.2 = X.env.qual ++ "<lambda>") (hdef : defaultsOf params X.env = ([], [])) (hfree : ∀ y ∈ scope.names, y.2 = .free → X.env.scope.names.lookup y.1 = some .cell ∨ X.env.scope.names.lookup y.1 = some .free)
    (hfr : ∀ y ∈ fr, (y, NameKind.free) ∈ scope.names) (hjs : js.map (fun j => X.N[j]?) = fr.map some) (S : NScope N ps fr scope) (hl : js.length = fr.length)
    (hbind : ∀ (q : Str) (cl : List (Str × Addr)) (pm cv ctv : Value) (us : List Value), us.length = ps.length → bindArgs (PySem.W.kla_fn "<lambda>" q params body scope cl pm cv ctv) ⟨us, []⟩ = pure (ps.zip us)) (hΦ : FxX X T kΦ Φ)
    (hb : ∀ (f c' : Addr) (cl : List (Str × Addr)) (A : Around) (outer : List Env) (s1 : Shared) (H1 : Hp), Room kb (LamC X N params scope f c' cl A outer s1 H1).A → FxX (LamC X N params scope f c' cl A outer s1 H1) T kΦ Φ → PDe (LamC X N params scope f c' cl A outer s1 H1) T Φ B0 body mb) :
    PL X T Φ B (kb + 1) [.Lambda params body scope lpos] (lLam ps.length (N.length - ps.length - fr.length) js mb) := by
  refine ⟨fun pos pins s σ H Post A Z ρ μ ds G μ' I R hmm k => ?_⟩
  cases hmm
  show wpAny _ _ (spliced ((false, eval (.Lambda params body scope lpos) X.env) :: backTo pos (starEach [] X.env))) _ _ s
  have cp : Caps X (cloFrom X.env.cells scope.names []) fr js := Caps.made I.ok hfree hfr hjs
  have hfree' : ∀ y ∈ scope.names, y.2 = .free → ∃ c, X.env.cells.lookup y.1 = some c := fun y hy e => (hfree y hy e).elim (fun z => I.ok.has _ (.inl z)) fun z => I.ok.has _ (.inr z)
  refine Calls.spliced_cons (lam_make2 I TB hcode hm hu R.tabs hdef hfree' fun f c' pm' ctv H1 s' I1 eN T1 hf hfn hfnf hco => ?_)
  refine Calls.spliced_nil ?_
  have f1 : Fw (fun _ => False) H H1 := ⟨fun a o e _ t => eN a o e t, fun b f => by
    cases q : H b with
    | none => exact .inl q
    | some o =>
      by_cases t : ∃ ps, o = .tbl ps
      · obtain ⟨ps, rfl⟩ := t
        exact .inr ⟨ps, q⟩
      · exact (fr_not (eN b o q fun ps z => t ⟨ps, z⟩) (fun ps z => t ⟨ps, z⟩) f).elim⟩
  have R1 := R.calm f1 T1
  refine k [] [] (.ref f) (.ref f) H1 s' I1 .nil rfl (f1.mono fun _ h => h.elim) R1 rfl ?_
  have C := cells_of I1 cp
  have x := lam_fx (cap := capS ρ js) (ws := js.map (slotAt σ)) (mb := mb) (B := B0) I1 hex hf hfn hfnf C S (fun us hl => hbind _ _ _ _ _ us hl) (by unfold capS; rw [List.length_map]; exact hl) hΦ (fun A outer s1 H1 => hb f c' _ A outer s1 H1)
  refine ⟨_, fun b => Zw B ρ A Z b ∧ b ≠ c', x, fun b h => h.1, fun b h => ?_, rfl, rfl, ?_, fun i sl e => ?_⟩
  · by_cases hb : b = c'
    · exact .inr ⟨_, by rw [hb]; exact hco⟩
    · exact .inl ⟨h, hb⟩
  · rw [hid_of fun z => z.2 rfl]
    exact hco
  · have e' : (js.map fun j => capO ρ[j]?)[i]? = some sl := e
    rw [List.getElem?_map] at e'
    rw [List.getElem?_map]
    cases ej : js[i]? with
    | none => rw [ej] at e'; cases e'
    | some j =>
      rw [ej] at e'
      have e' : capO ρ[j]? = sl := Option.some.inj e'
      have le : XT (hid H1 fun a => Z a ∨ a ∈ A) (hid H1 fun b => Zw B ρ A Z b ∧ b ≠ c') := hid_le fun b h => zw_le h.1
      cases er : ρ[j]? with
      | none => rw [er] at e'; rw [← e']; trivial
      | some s0 =>
        have q := (R1.slot j s0 er).xt le
        rw [er] at e'
        cases s0 with
        | non => rw [← e']; trivial
        | own kc => rw [← e']; trivial
        | val d =>
          rw [← e']
          obtain ⟨v, h1, h2⟩ := q
          exact ⟨v, by show some (slotAt σ j) = _; rw [slotAt_of h1], h2⟩
        | fn G =>
          rw [← e']
          obtain ⟨v, h1, h2⟩ := q
          exact ⟨v, by show some (slotAt σ j) = _; rw [slotAt_of h1], h2⟩

theorem hid_nil {H : Hp} {Z : Addr → Prop} : (hid H fun a => Z a ∨ a ∈ ([] : List Addr)) = hid H Z := by
  have hzz : (fun a => Z a ∨ a ∈ ([] : List Addr)) = Z := funext fun a => propext ⟨fun h => h.elim id fun z => by simp at z, .inl⟩
  rw [hzz]
theorem rep_vals {K : PySem.W.Frag} {Φ : Fx} {Z : Addr → Prop} {H : Hp} {vs : List V} {ds : List D} (hz : ∀ a, Z a → ¬ Fr H a) (hT : Tabs T H) (pd : RpA K (hid H Z) vs ds) : Rep K T Φ [] Z (vs.map some) H (ds.map .val) [] := by
  refine ⟨by rw [List.length_map, List.length_map, pd.length], rfl, List.nodup_nil, fun a z => ⟨by simp, hz a z⟩, hT, fun k c a e1 => by simp at e1, fun i sl e => ?_⟩
  rw [hid_nil]
  rw [List.getElem?_map] at e
  cases ei : ds[i]? with
  | none => rw [ei] at e; cases e
  | some d =>
    rw [ei] at e
    have e : Slot.val d = sl := Option.some.inj e
    rw [← e]
    obtain ⟨v, ev, pv⟩ := pd.get ei
    exact ⟨v, by rw [List.getElem?_map, ev]; rfl, pv⟩
/-- a def by its name, of data -/
theorem pl_fn {k n : Nat} {f : Addr} {fd : FuncData} {ps : List Str} {F : FD} {q : Str} {st : Stmt} (G : FnOk X.prog X.w X.K X.mg X.base CX0 k f fd ps (spD X.K T n F)) (Fu : Fun X.K x q st f fd) (hr : k ≤ kk) (hg : Gl X x) (hm : X.mg x = some (.ref f)) (hb : Binds X.K fd ps [])
    (hd : (x == ("__debug__" : Str)) = false := by decide) : PL X T Φ B kk [.Name x p] (lFn (fnG n F)) := by
  refine ⟨fun pos pins s σ H Post A Z ρ μ ds G' μ' I R hmm kp => ?_⟩
  cases hmm
  show wpAny _ _ (spliced ((false, eval (.Name x p) X.env) :: backTo pos (starEach [] X.env))) _ _ s
  refine Calls.spliced_cons (thn ((pe_glob (v := .ref f) hg hm rfl hd).run pins s σ H (fun v H1 => v = .ref f ∧ H1 = H) I ⟨rfl, rfl⟩) fun u s1 ⟨v, H1, I1, r1, q1⟩ => ?_)
  obtain ⟨ev, eH⟩ := q1
  subst ev
  rw [eH] at I1
  obtain rfl : u = Value.ref f := r1
  refine Calls.spliced_nil ?_
  refine kp [] [] (.ref f) (.ref f) H s1 I1 .nil rfl (Fw.refl _ _) R rfl ?_
  obtain ⟨oc, od, kV, doc, pm, an, cdv, ct, osl, rfl, lk, hcd⟩ := Fu.ex
  refine ⟨⟨fun _ v G' => v = .ref f ∧ G' = fnG n F, fun _ h => h⟩, Zw B ρ A Z, ⟨fun Hv v G' h => ⟨f, h.1, fun fs1 s2 H2 _ _ un => ?_⟩, ?_⟩, fun _ h => h, fun _ h => .inl h, rfl, rfl⟩
  · obtain ⟨sl, q⟩ := un.any (I1.kIn _ _ lk) (I1.bs f _ (I1.mod.kin _ _ lk)).2 (by simp)
    exact ⟨_, _, _, _, q⟩
  · intro f' G' fs1 A1 outer s2 H2 us vs ds d Q Z2 hr2 e0 ho hfs hsz un hΨ hz hT r pd hG k
    obtain ⟨ef, rfl⟩ := (show V.ref f' = V.ref f ∧ G' = fnG n F from hΨ)
    cases ef
    unfold fnG at hG
    split at hG
    · rename_i hl
      cases em : F (ds.map .val) [] with
      | none => rw [em] at hG; cases hG
      | some q =>
        rw [em] at hG
        cases hG
        have sp : spD X.K T n F vs H2 Q E0 := ⟨by rw [pd.length]; exact hl, [], Z2, ds.map .val, [], q.1, q.2, rep_vals hz hT pd, em, fun v H' f1 R1 p1 => k v H' (f1.mono fun a h => by simp at h) R1.tabs (by rw [hid_nil] at p1; exact p1)⟩
        have lp := G.len _ _ _ _ sp
        refine G.run A1 outer s2 H2 _ us vs Q E0 (hr2.mono hr) e0 ?_ r sp
        have := hb s2 us (e0.mod.kin.keeps fun b o e => (e0.bs b o e).1) (by rw [List.append_nil, ← r.length]; exact lp)
        rw [List.append_nil] at this
        exact this
    · cases hG
/-- THE RULE: x(e, .., function) -/
theorem pd_ho {k : Nat} {f : Addr} {fd : FuncData} {ps : List Str} {F : FD} {n : Nat} (G : HoOk X.prog X.w X.K X.mg X.base T kk k f fd ps F) (hr : Room k X.A) (hg : Gl X x) (hm : X.mg x = some (.ref f)) (hk : PySem.W.keepIn X.K (.ref f) = true) (hb : Binds X.K fd ps []) (ha : PL X T Φ B kk (a :: es) ml)
    (hn : ps.length = n := by rfl)
    (hdb : (x == ("__debug__" : Str)) = false := by decide) (he : starEach (a :: es) X.env = (false, eval a X.env) :: starEach es X.env := by rfl) (hpl : (backTo pos (starEach es X.env)).any (·.1) = false := by rfl) :
    PDe X T Φ B (.Call (.Name x p) (a :: es) [] pos) (eHo n F ml) := by
  refine ⟨fun pins s σ H Q I h => ?_⟩
  obtain ⟨A, Z, ρ, μ, d, μ', R, hmm, kq⟩ := h
  unfold eHo at hmm
  cases e1 : ml ρ μ with
  | none => rw [e1] at hmm; cases hmm
  | some q =>
    rw [e1, Option.bind_some] at hmm
    obtain ⟨⟨ds, G'⟩, μ1⟩ := q
    dsimp only at hmm
    cases e2 : F (ds.map .val ++ [.fn G']) [] with
    | none => rw [e2] at hmm; cases hmm
    | some q2 =>
      rw [e2, Option.bind_some] at hmm
      obtain ⟨d2, cs2⟩ := q2
      dsimp only at hmm
      split at hmm
      · rename_i hemp
        cases hmm
        obtain ⟨hemp, hln⟩ := Bool.and_eq_true_iff.mp hemp
        have hln : ds.length + 1 = n := beq_iff_eq.mp hln
        have hc : cs2 = [] := List.isEmpty_iff.mp hemp
        subst hc
        refine wpAny_Call_Name_kw (ld_glob I hg hm ?_ hdb)
        refine PySem.W.callWith_K (h₀ := X.base) I.ok.mod.kin hk (ha.run pos pins s σ H _ A Z ρ μ ds G' μ' I R e1 fun vs us v u H1 s1 I1 r r2 f1 R1 p1 fa => ⟨I1.kIn, ?_⟩) he hpl
        show wpAny _ _ (call (.ref f) (us ++ [u])) _ _ _
        obtain ⟨Φ', Zl, fx, le1, le2, rel⟩ := fa
        have rr : Vals (vs ++ [v]) (us ++ [u]) := r.append (.cons r2 .nil)
        have hl : (vs ++ [v]).length = ps.length := by
          rw [hn, ← hln]
          simp [p1.length]
        have hz : ∀ a, Zl a → ¬ Fr H1 a := fun a z => R1.trackF a (le1 a z)
        have RC : Rep X.K T Φ' [] Zl ((vs ++ [v]).map some) H1 (ds.map .val ++ [.fn G']) [] := by
          have R0 := rep_vals (Φ := Φ') hz R1.tabs (RpA.mono (hid_le le1) _ _ p1)
          refine ⟨by simp [p1.length], rfl, List.nodup_nil, R0.zo, R0.tabs, R0.cell, fun i sl e => ?_⟩
          by_cases hi : i < ds.length
          · rw [List.getElem?_append_left (by rw [List.length_map]; exact hi)] at e
            rw [List.map_append, List.getElem?_append_left (by rw [List.length_map, p1.length]; exact hi)]
            exact R0.slot i sl e
          · rw [List.getElem?_append_right (by rw [List.length_map]; omega), List.length_map] at e
            rw [List.map_append, List.getElem?_append_right (by rw [List.length_map, p1.length]; omega), List.length_map, p1.length]
            cases ei : i - ds.length with
            | zero =>
              rw [ei] at e
              cases e
              exact ⟨v, rfl, by rw [hid_nil]; exact rel⟩
            | succ j => rw [ei] at e; simp at e
        have bt := hb s1 (us ++ [u]) I1.kIn (by rw [List.append_nil, ← rr.length]; exact hl)
        rw [List.append_nil] at bt
        refine wpAny_call (codeAny_mono (G X.A X.stack s1 H1 ⟨us ++ [u], []⟩ (us ++ [u]) (vs ++ [v]) Q Φ' Zl _ _ hr I1.env0 bt rr hl fx RC e2 fun v2 H2 f2 t2 p2 => ?_) fun r s' hq => ?_)
        · refine kq v2 H2 (f1.trans (f2.mono fun _ h => h.elim)) (R1.calm f2 t2) (Rp.monoD (fun b o e nt nc => ?_) _ _ p2)
          have q := of_hid e
          rw [hid_of]
          · exact q.1
          · intro z
            rcases le2 b z with z | ⟨qq, e'⟩
            · exact q.2 z
            · have := f2.keep b _ e' id codeO_ne
              rw [q.1] at this
              exact nc qq (Option.some.inj this)
        · cases r with
          | error e => exact (show False from hq).elim
          | ok fl =>
            cases fl with
            | ret u => exact I1.after hq
            | next => exact False.elim hq
            | brk => exact False.elim hq
            | cont => exact False.elim hq
      · cases hmm
end
end PD
end
section
set_option linter.all false
set_option maxRecDepth 100000
set_option maxHeartbeats 4000000
/-! P13: names that hold data or cells; items of cells stored. -/
namespace PD
open PySem PySem.Spec PyProof.Rows L2

def eAny (i : Nat) : ME := fun ρ μ => match ρ[i]? with
  | some (.val d) => some (d, μ)
  | some (.own k) => match μ[k]? with
    | some (.lst xs) => some (.list xs, μ)
    | _ => none
  | _ => none
def gPut (i : Nat) (mi : ME) : MG := fun d ρ μ => (mi ρ μ).bind fun p => match p.1 with
  | .int k => (cellL ρ p.2 i).bind fun q => (ixN q.2.length k).map fun j => (ρ, p.2.set q.1 (.lst (q.2.set j d)))
  | _ => none
section
variable {X : Cx} {T : List (Addr × Str)} {Φ : Fx} {B : Nat → Bool} {a b : Expr} {mi : ME} {pos : Pos}
theorem pd_any (i : Nat) {x : Str} (hB : B i = true := by rfl) (hN : X.N[i]? = some x := by rfl) (hv : Vis X.env.scope x := by first | exact Or.inl rfl | exact Or.inr (Or.inl rfl) | exact Or.inr (Or.inr rfl)) (hd : (x == ("__debug__" : Str)) = false := by decide)
    (hcd : (x == ("__classdict__" : Str)) = false := by decide) : PDe X T Φ B (.Name x pos) (eAny i) := by
  have h1 : PDe X T Φ B (.Name x pos) (eVar i) := pd_var i hN hv hd hcd
  have h2 : PDe X T Φ B (.Name x pos) (eOwn i) := pd_own i hB hN hv hd hcd
  refine ⟨fun pins s σ H Q I ⟨A, Z, ρ, μ, d, μ', R, hm, k⟩ => ?_⟩
  unfold eAny at hm
  split at hm
  · rename_i d' e
    exact h1.run pins s σ H Q I ⟨A, Z, ρ, μ, d, μ', R, by unfold eVar; rw [e]; exact hm, k⟩
  · rename_i k' e
    exact h2.run pins s σ H Q I ⟨A, Z, ρ, μ, d, μ', R, by unfold eOwn; rw [e]; exact hm, k⟩
  · cases hm
/-- x[e] = v, x a cell -/
theorem pg_put (i : Nat) {x : Str} {p : Pos} (hi : PDe X T Φ B0 b mi) (hN : X.N[i]? = some x := by rfl) (hv : Vis X.env.scope x := by first | exact Or.inl rfl | exact Or.inr (Or.inl rfl) | exact Or.inr (Or.inr rfl)) (hd : (x == ("__debug__" : Str)) = false := by decide)
    (hcd : (x == ("__classdict__" : Str)) = false := by decide)
    (ha : ∀ v, assign (.Subscript (.Name x p) b pos) X.env v = (do
      let ov ← holding [v] (eval (.Name x p) X.env)
      let iv ← holding [v, ov] (eval b X.env)
      standAt pos
      holding [v, ov, iv] (setItem ov iv v)
      release [v, ov, iv] []) := by intro _; rfl) : PDg X T Φ (.Subscript (.Name x p) b pos) (gPut i mi) :=
  PG.cons (pg_sub (pe_var (i := i) hN hv hd hcd) hi set_list ha) fun v σ H Q ⟨A, Z, ρ, μ, d, ρ', μ', R, hp, hg, k⟩ => by
    unfold gPut at hg
    cases e : mi ρ μ with
    | none => rw [e] at hg; cases hg
    | some q =>
      rw [e, Option.bind_some] at hg
      split at hg
      · rename_i kk ei
        cases e2 : cellL ρ q.2 i with
        | none => rw [e2] at hg; cases hg
        | some c =>
          rw [e2, Option.bind_some] at hg
          cases e3 : ixN c.2.length kk with
          | none => rw [e3] at hg; cases hg
          | some j =>
            rw [e3] at hg
            cases hg
            obtain ⟨c1, c2⟩ := c
            obtain ⟨s1, s2⟩ := cellL_some e2
            obtain ⟨l, a1, a2⟩ := R.slot i _ s1
            refine ⟨.ref l, a2, A, Z, ρ, μ, q.1, q.2, R, e, fun y H1 f1 R1 p1 => ?_⟩
            rw [ei] at p1
            obtain ⟨vs, h1, h2⟩ := R1.cell c1 _ l s2 a1
            have p1 : y = .int kk := p1
            refine ⟨l, vs, kk, j, rfl, p1, h1, by rw [h2.length]; exact e3, ?_⟩
            have f1' : Fw (· ∈ A) H H1 := f1.mono fun _ h => h.mem
            have hp' := Rp.mono (f1'.xt (Z := fun a => Z a ∨ a ∈ A) fun _ h => .inr h) _ _ hp
            refine k σ _ (f1'.trans ⟨fun b o eb nb t => ?_, fun b eb => fr_up (fun ps z => by cases z) eb⟩) (R1.put a1 (RpA.set hp' j h2))
            rw [upd_ne (show b ≠ l from fun z => nb (by rw [z]; exact List.mem_of_getElem? a1))]; exact eb
      · cases hg
end
end PD
end
section
set_option linter.all false
set_option maxRecDepth 100000
set_option maxHeartbeats 4000000
/-! P14: the words that the printed derivations use. -/
namespace PD
open PySem PySem.Spec PyProof.Rows L2

theorem hu_of {k : Nat} {A : Around} (r : Room k A) : A.units + 64 < cLine := by have := r.un; omega
/-- a def of the top that keeps F, called with data and lent cells -/
structure Def (P : Program) (w : World) (K : PySem.W.Frag) (mg : Str → Option Value) (base : Heap) (T : List (Addr × Str)) (k : Nat) (x qual : Str) (st : Stmt) (ps : List Str) (n : Nat) (F : FD) : Prop where
  ex : ∃ (f : Addr) (fd : FuncData), FnOk P w K mg base CX0 k f fd ps (spD K T n F) ∧ mg x = some (.ref f) ∧ PySem.W.keepIn K (.ref f) = true ∧ Binds K fd ps [] ∧ Fun K x qual st f fd
  len : ps.length = n
section
variable {P : Program} {w : World} {K : PySem.W.Frag} {mg : Str → Option Value} {base : Heap} {T : List (Addr × Str)}
theorem fun_D {x qual : Str} {st : Stmt} {f : Addr} {fd : FuncData} (F : FunD K x qual (defArgs st) (defBody st) (defScope st) [] [] f fd) : Fun K x qual st f fd := by
  obtain ⟨oc, od, dV, kV, doc, pm, an, cdv, ct, osl, rfl, lk, hcd, hD, hK⟩ := F.ex
  rcases hD with ⟨_, rfl⟩ | ⟨e, _⟩
  · exact ⟨⟨oc, od, kV, doc, pm, an, cdv, ct, osl, rfl, lk, hcd⟩, F.kp⟩
  · exact absurd rfl e
theorem def_of {x qual : Str} {st : Stmt} {f : Addr} {N ps : List Str} {k n : Nat} {m : MS} (F : ∃ fd, FunD K x qual (defArgs st) (defBody st) (defScope st) [] [] f fd) (hm : mg x = some (.ref f)) (S : FnScope N ps (defScope st)) (hn : ps.length = n)
    (hbi : ∀ (kV doc pm : Value) (an : Option Addr) (cdv ct : Value) (us : List Value), us.length = ps.length → bindArgs (PySem.W.fnOf x qual (defArgs st) (defBody st) (defScope st) .none kV doc pm an cdv ct) ⟨us, []⟩ = pure (ps.zip us))
    (hb : ∀ (cd : Value), cd = codeV K f → ∀ (A : Around) (outer : List Env) (s : Shared) (H : Hp) (E : XK), Room k (CtxF P w K mg base N qual (defScope st) f cd A outer s H E).A → PDss (CtxF P w K mg base N qual (defScope st) f cd A outer s H E) T noFx (defBody st) m) :
    Def P w K mg base T (k + 1) x qual st ps n (bodyF (N.length - n) m) := by
  obtain ⟨fd, F⟩ := F
  subst hn
  exact ⟨⟨f, fd, fnd_of (fun_D F) S hb, hm, F.kp, F.bindsN hbi, fun_D F⟩, rfl⟩
end
section
variable {X : Cx} {T : List (Addr × Str)} {Φ : Fx} {B : Nat → Bool} {a b c : Expr} {es : List Expr} {ma mb mc : ME} {mas : MA} {mr : MAr} {mt : MT} {pos p q : Pos} {k j n : Nat} {F : FD} {x qual : Str} {st : Stmt} {ps : List Str}
theorem pd_d (D : Def X.prog X.w X.K X.mg X.base T j x qual st ps n F) (hr : Room k X.A) (hg : Gl X x) (ha : PDr X T Φ B (a :: es) mr) (hj : j ≤ k := by decide)
    (hdb : (x == ("__debug__" : Str)) = false := by decide) (he : starEach (a :: es) X.env = (false, eval a X.env) :: starEach es X.env := by rfl) (hpl : (backTo pos (starEach es X.env)).any (·.1) = false := by rfl) :
    PDe X T Φ B (.Call (.Name x p) (a :: es) [] pos) (eCall n F mr) := by
  obtain ⟨f, fd, G, hm, hk, hb, _⟩ := D.ex
  exact pd_call G (hr.mono hj) hg hm hk hb ha hdb he hpl
theorem pd_d0 (D : Def X.prog X.w X.K X.mg X.base T j x qual st ps n F) (hr : Room k X.A) (hg : Gl X x) (hj : j ≤ k := by decide) (hdb : (x == ("__debug__" : Str)) = false := by decide) : PDe X T Φ B (.Call (.Name x p) [] [] pos) (eCall n F rN) := by
  obtain ⟨f, fd, G, hm, hk, hb, _⟩ := D.ex
  exact pd_call0 G (hr.mono hj) hg hm hk hb hdb
/-! keywords alone -/
def permL {α : Type} (π : List Nat) (l : List α) : List α := π.filterMap fun i => l[i]?
theorem permL_get {R : V → Value → Prop} : ∀ {π : List Nat} {zs : List V} {ws : List Value}, zs.length = ws.length → (∀ (i : Nat) (v : V) (u : Value), zs[i]? = some v → ws[i]? = some u → R v u) → Paired R (permL π zs) (permL π ws)
  | [], _, _, _, _ => .nil
  | i :: π, zs, ws, hl, h => by
    have q := permL_get (π := π) hl h
    unfold permL at q ⊢
    rw [List.filterMap_cons, List.filterMap_cons]
    cases e : zs[i]? with
    | none =>
      rw [List.getElem?_eq_none (show ws.length ≤ i by have := List.getElem?_eq_none_iff.mp e; omega)]
      exact q
    | some v =>
      have hi : i < ws.length := by have := (List.getElem?_eq_some_iff.mp e).1; omega
      rw [List.getElem?_eq_getElem hi]
      exact .cons (h i v _ e (List.getElem?_eq_getElem hi)) q
theorem permL_rp {K : PySem.W.Frag} {H : Hp} : ∀ {π : List Nat} {zs : List V} {ds : List D}, RpA K H zs ds → RpA K H (permL π zs) (permL π ds)
  | [], _, _, _ => rfl
  | i :: π, zs, ds, h => by
    have q := permL_rp (π := π) h
    unfold permL at q ⊢
    rw [List.filterMap_cons, List.filterMap_cons]
    cases e : ds[i]? with
    | none =>
      rw [List.getElem?_eq_none (show zs.length ≤ i by have := List.getElem?_eq_none_iff.mp e; have := h.length; omega)]
      exact q
    | some d =>
      obtain ⟨v, ev, pv⟩ := h.get e
      rw [ev]
      exact ⟨v, _, rfl, pv, q⟩
abbrev PDk (X : Cx) (T : List (Addr × Str)) (Φ : Fx) (B : Nat → Bool) (kws : List Keyword) (m : MA) : Prop := PK X kws (tA X.K T Φ B m)
theorem PK.cons {X : Cx} {es : List Keyword} {t t' : TA} (h : PK X es t) (hc : ∀ σ H Q, t' σ H Q → t σ H Q) : PK X es t' := ⟨fun pos pins s σ H Q I q => h.run pos pins s σ H Q I (hc σ H Q q)⟩
theorem pk_n : PDk X T Φ B [] aN := PK.cons pk_nil fun σ H Q ⟨A, Z, ρ, μ, d, μ', R, hm, k⟩ => by
  cases hm
  exact k [] H (Fw.refl _ _) R rfl
theorem pk_c {kws : List Keyword} {nm : Option Str} {kp : Pos} (ha : PDe X T Φ B a ma) (hr : PDk X T Φ B kws mas) : PDk X T Φ B (⟨nm, a, kp⟩ :: kws) (aC ma mas) := PK.cons (pk_cons ha hr) fun σ H Q ⟨A, Z, ρ, μ, ds, μ', R, hm, k⟩ => by
  obtain ⟨d, μ1, r, h1, h2, rfl⟩ := aC_some hm
  refine ⟨A, Z, ρ, μ, d, μ1, R, h1, fun x H1 f1 R1 p1 => ⟨A, Z, ρ, μ1, r, μ', R1, h2, fun y H2 f2 R2 p2 => ?_⟩⟩
  exact k _ H2 (f1.trans f2) R2 ⟨x, y, rfl, Rp.mono (fw_xt f2) _ _ p1, p2⟩
def eCallK (n : Nat) (F : FD) (π : List Nat) (m : MA) : ME := fun ρ μ => (m ρ μ).bind fun p => if p.1.length == n && (permL π p.1).length == n then (F ((permL π p.1).map .val) []).bind fun q => if q.2.isEmpty then some (q.1, p.2) else none else none
theorem pd_k {kws : List Keyword} {ks : List Str} {π : List Nat} (D : Def X.prog X.w X.K X.mg X.base T j x qual st ps n F) (hr : Room k X.A) (hg : Gl X x) (hkw : PDk X T Φ B kws mas)
    (hb : ∀ (kV doc pm : Value) (an : Option Addr) (cdv ct : Value) (ws : List Value), ws.length = n → bindArgs (PySem.W.fnOf x qual (defArgs st) (defBody st) (defScope st) .none kV doc pm an cdv ct) ⟨[], ks.zip ws⟩ = pure (ps.zip (permL π ws)))
    (hj : j ≤ k := by decide) (hall : (backToKw pos (keywordEach kws X.env)).all (·.1.isSome) = true := by rfl) (hks : (backToKw pos (keywordEach kws X.env)).filterMap (·.1) = ks := by rfl) (hdb : (x == ("__debug__" : Str)) = false := by decide)
    (hpl : ((backTo pos (starEach [] X.env)).any (·.1) || (backToKw pos (keywordEach kws X.env)).any (·.1.isNone)) = false := by rfl) : PDe X T Φ B (.Call (.Name x p) [] kws pos) (eCallK n F π mas) := by
  refine ⟨fun pins s σ H Q I ⟨A, Z, ρ, μ, d, μ', R, hmm, kq⟩ => ?_⟩
  obtain ⟨f, fd, G, hm, hk, _, Fu⟩ := D.ex
  unfold eCallK at hmm
  cases e : mas ρ μ with
  | none => rw [e] at hmm; cases hmm
  | some w =>
    rw [e, Option.bind_some] at hmm
    obtain ⟨ds, μ1⟩ := w
    dsimp only at hmm
    split at hmm
    · rename_i hc
      obtain ⟨hc1, hc2⟩ := Bool.and_eq_true_iff.mp hc
      have hc1 : ds.length = n := beq_iff_eq.mp hc1
      have hc2 : (permL π ds).length = n := beq_iff_eq.mp hc2
      cases e3 : F ((permL π ds).map .val) [] with
      | none => rw [e3] at hmm; cases hmm
      | some q =>
        rw [e3, Option.bind_some] at hmm
        split at hmm
        · rename_i hemp
          cases hmm
          obtain ⟨q1, q2⟩ := q
          have hemp : q2 = [] := List.isEmpty_iff.mp hemp
          subst hemp
          refine wpAny_Call_Name_kw (ld_glob I hg hm ?_ hdb)
          refine PySem.W.callWith_KW0 (h₀ := X.base) I.ok.mod.kin hk hall ?_ hpl
          refine thn (hkw.run pos pins s σ H (fun vs H1 => Fw (Wr B ρ A) H H1 ∧ Rep X.K T Φ A Z σ H1 ρ μ' ∧ RpA X.K (hid H1 (Zw B ρ A Z)) vs ds) I ⟨A, Z, ρ, μ, _, μ', R, e, fun vs H1 f1 R1 p1 => ⟨f1, R1, p1⟩⟩) fun ws s2 ⟨zs, H2, I2, rz, f1, R1, p1⟩ => ⟨I2.kIn, ?_⟩
          rw [hks]
          show wpAny _ _ (call (.ref f) [] (ks.zip ws)) _ _ _
          have hz : ∀ a, Zw B ρ A Z a → ¬ Fr H2 a := R1.trackF
          have pp := permL_rp (π := π) p1
          have RC := rep_vals (Φ := noFx) hz R1.tabs pp
          have lw : ws.length = n := by rw [← rz.length, p1.length, hc1]
          have bt : BindsTo s2 fd ⟨[], ks.zip ws⟩ (ps.zip (permL π ws)) := by
            obtain ⟨oc, od, kV, doc, pm, an, cdv, ct, osl, rfl, _, _⟩ := Fu.ex
            exact .of_eq (hb kV doc pm an cdv ct ws lw)
          have rr : Vals (permL π zs) (permL π ws) := permL_get rz.length fun i v u ev eu => by
            obtain ⟨u', e1, e2⟩ := rz.get ev
            rw [eu] at e1
            cases e1
            exact e2
          have sp : spD X.K T n F (permL π zs) H2 Q E0 := ⟨by rw [pp.length]; exact hc2, [], Zw B ρ A Z, (permL π ds).map .val, [], q1, [], RC, e3, fun v H' f2 R2 p2 => kq v H' (f1.trans (f2.mono fun a h => by simp at h)) (R1.calm (f2.mono fun a h => by simp at h) R2.tabs) (by rw [hid_nil] at p2; exact p2)⟩
          refine wpAny_call (codeAny_mono (G.run X.A X.stack s2 H2 ⟨[], ks.zip ws⟩ (permL π ws) (permL π zs) Q E0 (hr.mono hj) I2.env0 bt rr sp) fun r s' hq => ?_)
          cases r with
          | error e => exact (show False from hq).elim
          | ok fl =>
            cases fl with
            | ret u => exact I2.after hq
            | next => exact False.elim hq
            | brk => exact False.elim hq
            | cont => exact False.elim hq
        · cases hmm
    · cases hmm
theorem o_add (ha : PDe X T Φ B a ma) (hb : PDe X T Φ B b mb) : PDe X T Φ B (.BinOp a .Add b pos) (e2 gAdd ma mb) := pd_op or_add rd_add ha hb
theorem o_sub (ha : PDe X T Φ B a ma) (hb : PDe X T Φ B b mb) : PDe X T Φ B (.BinOp a .Sub b pos) (e2 gSub ma mb) := pd_op op_sub rd_sub ha hb
theorem o_mul (ha : PDe X T Φ B a ma) (hb : PDe X T Φ B b mb) : PDe X T Φ B (.BinOp a .Mult b pos) (e2 gMul ma mb) := pd_op or_mulI rd_mul ha hb
theorem o_div (ha : PDe X T Φ B a ma) (hb : PDe X T Φ B b mb) : PDe X T Φ B (.BinOp a .FloorDiv b pos) (e2 gDiv ma mb) := pd_op op_fdivW rd_div ha hb
theorem o_mod (ha : PDe X T Φ B a ma) (hb : PDe X T Φ B b mb) : PDe X T Φ B (.BinOp a .Mod b pos) (e2 gMod ma mb) := pd_op op_mod rd_mod ha hb
theorem o_pow (ha : PDe X T Φ B a ma) (hb : PDe X T Φ B b mb) : PDe X T Φ B (.BinOp a .Pow b pos) (e2 gPow ma mb) := pd_op op_pow rd_pow ha hb
theorem o_neg (ha : PDe X T Φ B a ma) : PDe X T Φ B (.UnaryOp .USub a pos) (e1 gNeg ma) := pd_un un_neg rd_neg ha
theorem c_lt (ha : PDe X T Φ B a ma) (hb : PDe X T Φ B b mb) : PDe X T Φ B (.Compare a [.Lt] [b] pos) (e2 gLt ma mb) := pd_cmp or_lt rd_lt ha hb
theorem c_le (ha : PDe X T Φ B a ma) (hb : PDe X T Φ B b mb) : PDe X T Φ B (.Compare a [.LtE] [b] pos) (e2 gLe ma mb) := pd_cmp op_le rd_le ha hb
theorem c_gt (ha : PDe X T Φ B a ma) (hb : PDe X T Φ B b mb) : PDe X T Φ B (.Compare a [.Gt] [b] pos) (e2 gGt ma mb) := pd_cmp op_gt rd_gt ha hb
theorem c_ge (ha : PDe X T Φ B a ma) (hb : PDe X T Φ B b mb) : PDe X T Φ B (.Compare a [.GtE] [b] pos) (e2 gGe ma mb) := pd_cmp op_ge rd_ge ha hb
theorem c_eq (hr : Room k X.A) (ha : PDe X T Φ B a ma) (hb : PDe X T Φ B b mb) : PDe X T Φ B (.Compare a [.Eq] [b] pos) (e2 gEq ma mb) := pd_cmp (or_eq40 (hu_of hr)) rd_eq ha hb
theorem c_ne (hr : Room k X.A) (ha : PDe X T Φ B a ma) (hb : PDe X T Φ B b mb) : PDe X T Φ B (.Compare a [.NotEq] [b] pos) (e2 gNe ma mb) := pd_cmp (or_ne40 (hu_of hr)) rd_ne ha hb
theorem c_in (hr : Room k X.A) (ha : PDe X T Φ B a ma) (hb : PDe X T Φ B b mb) (hm : behindInMarks .In b = false := by rfl) : PDe X T Φ B (.Compare a [.In] [b] pos) (e2 gIn ma mb) := pd_cmp (or_in (hu_of hr)) rd_in ha hb hm
theorem c_notin (hr : Room k X.A) (ha : PDe X T Φ B a ma) (hb : PDe X T Φ B b mb) (hm : behindInMarks .NotIn b = false := by rfl) : PDe X T Φ B (.Compare a [.NotIn] [b] pos) (e2 gNotIn ma mb) := pd_cmp (or_notIn (hu_of hr)) rd_notIn ha hb hm
theorem o_ix (ha : PDe X T Φ B a ma) (hb : PDe X T Φ B b mb) (hs : PlainIx b := by intro _ _; rfl) : PDe X T Φ B (.Subscript a b pos) (e2 gIx ma mb) := pd_ix ix_seq rd_ix ha hb hs
end
section
variable {X : Cx} {T : List (Addr × Str)} {Φ : Fx} {B : Nat → Bool} {a b c : Expr} {es : List Expr} {ma mb mc : ME} {mas : MA} {pos p q : Pos}
theorem b_len (hm : X.mg "len" = none) (hg : Gl X "len") (ha : PDa X T Φ B (a :: es) mas) (he : starEach (a :: es) X.env = (false, eval a X.env) :: starEach es X.env := by rfl) (hpl : (backTo pos (starEach es X.env)).any (·.1) = false := by rfl) :
    PDe X T Φ B (.Call (.Name "len" p) (a :: es) [] pos) (eL (gl1 gLen) mas) := pd_callB call_len rl_len hg hm (by decide +kernel) ha (by decide) (by decide) he hpl
theorem b_abs (hm : X.mg "abs" = none) (hg : Gl X "abs") (ha : PDa X T Φ B (a :: es) mas) (he : starEach (a :: es) X.env = (false, eval a X.env) :: starEach es X.env := by rfl) (hpl : (backTo pos (starEach es X.env)).any (·.1) = false := by rfl) :
    PDe X T Φ B (.Call (.Name "abs" p) (a :: es) [] pos) (eL (gl1 gAbs) mas) := pd_callB call_abs rl_abs hg hm (by decide +kernel) ha (by decide) (by decide) he hpl
theorem b_divmod (hm : X.mg "divmod" = none) (hg : Gl X "divmod") (ha : PDa X T Φ B (a :: es) mas) (he : starEach (a :: es) X.env = (false, eval a X.env) :: starEach es X.env := by rfl) (hpl : (backTo pos (starEach es X.env)).any (·.1) = false := by rfl) :
    PDe X T Φ B (.Call (.Name "divmod" p) (a :: es) [] pos) (eL (gl2 gDivmod) mas) := pd_callB call_divmod rl_divmod hg hm (by decide +kernel) ha (by decide) (by decide) he hpl
theorem b_max (hc : X.calm = true) (hm : X.mg "max" = none) (hg : Gl X "max") (ha : PDa X T Φ B (a :: es) mas) (he : starEach (a :: es) X.env = (false, eval a X.env) :: starEach es X.env := by rfl) (hpl : (backTo pos (starEach es X.env)).any (·.1) = false := by rfl) :
    PDe X T Φ B (.Call (.Name "max" p) (a :: es) [] pos) (eL (gl2 gMax2) mas) := pd_callB (call_max2 hc) rl_max2 hg hm (by decide +kernel) ha (by decide) (by decide) he hpl
theorem b_min (hc : X.calm = true) (hm : X.mg "min" = none) (hg : Gl X "min") (ha : PDa X T Φ B (a :: es) mas) (he : starEach (a :: es) X.env = (false, eval a X.env) :: starEach es X.env := by rfl) (hpl : (backTo pos (starEach es X.env)).any (·.1) = false := by rfl) :
    PDe X T Φ B (.Call (.Name "min" p) (a :: es) [] pos) (eL (gl2 gMin2) mas) := pd_callB (call_min2 hc) rl_min2 hg hm (by decide +kernel) ha (by decide) (by decide) he hpl
theorem b_sum (hc : X.calm = true) (hm : X.mg "sum" = none) (hg : Gl X "sum") (ha : PDa X T Φ B (a :: es) mas) (he : starEach (a :: es) X.env = (false, eval a X.env) :: starEach es X.env := by rfl) (hpl : (backTo pos (starEach es X.env)).any (·.1) = false := by rfl) :
    PDe X T Φ B (.Call (.Name "sum" p) (a :: es) [] pos) (eL (gl1 gSum) mas) := pd_callB (cr_sum hc) rl_sum hg hm (by decide +kernel) ha (by decide) (by decide) he hpl
theorem b_all (hc : X.calm = true) (hm : X.mg "all" = none) (hg : Gl X "all") (ha : PDa X T Φ B (a :: es) mas) (he : starEach (a :: es) X.env = (false, eval a X.env) :: starEach es X.env := by rfl) (hpl : (backTo pos (starEach es X.env)).any (·.1) = false := by rfl) :
    PDe X T Φ B (.Call (.Name "all" p) (a :: es) [] pos) (eL (gl1 gAll) mas) := pd_callB (cr_all hc) rl_all hg hm (by decide +kernel) ha (by decide) (by decide) he hpl
theorem b_any (hc : X.calm = true) (hm : X.mg "any" = none) (hg : Gl X "any") (ha : PDa X T Φ B (a :: es) mas) (he : starEach (a :: es) X.env = (false, eval a X.env) :: starEach es X.env := by rfl) (hpl : (backTo pos (starEach es X.env)).any (·.1) = false := by rfl) :
    PDe X T Φ B (.Call (.Name "any" p) (a :: es) [] pos) (eL (gl1 gAny) mas) := pd_callB (cr_any hc) rl_any hg hm (by decide +kernel) ha (by decide) (by decide) he hpl
theorem b_int (hm : X.mg "int" = none) (hg : Gl X "int") (ha : PDa X T Φ B (a :: es) mas) (he : starEach (a :: es) X.env = (false, eval a X.env) :: starEach es X.env := by rfl) (hpl : (backTo pos (starEach es X.env)).any (·.1) = false := by rfl) :
    PDe X T Φ B (.Call (.Name "int" p) (a :: es) [] pos) (eL (gl1 gInt) mas) := pd_callTy call_int1 rl_int hg hm (by decide +kernel) ha (by decide) (by decide) he hpl
theorem b_list (hm : X.mg "list" = none) (hg : Gl X "list") (ha : PDa X T Φ B (a :: es) mas) (he : starEach (a :: es) X.env = (false, eval a X.env) :: starEach es X.env := by rfl) (hpl : (backTo pos (starEach es X.env)).any (·.1) = false := by rfl) :
    PDe X T Φ B (.Call (.Name "list" p) (a :: es) [] pos) (eL (gl1 gList) mas) := pd_callTy call_list_of rl_list hg hm (by decide +kernel) ha (by decide) (by decide) he hpl
theorem b_tuple (hm : X.mg "tuple" = none) (hg : Gl X "tuple") (ha : PDa X T Φ B (a :: es) mas) (he : starEach (a :: es) X.env = (false, eval a X.env) :: starEach es X.env := by rfl) (hpl : (backTo pos (starEach es X.env)).any (·.1) = false := by rfl) :
    PDe X T Φ B (.Call (.Name "tuple" p) (a :: es) [] pos) (eL (gl1 gTuple) mas) := pd_callTy call_tuple_of rl_tuple hg hm (by decide +kernel) ha (by decide) (by decide) he hpl
theorem b_gcd (hm : X.mg "gcd" = some (.builtin "math.gcd")) (hg : Gl X "gcd") (ha : PDa X T Φ B (a :: es) mas) (he : starEach (a :: es) X.env = (false, eval a X.env) :: starEach es X.env := by rfl) (hpl : (backTo pos (starEach es X.env)).any (·.1) = false := by rfl) :
    PDe X T Φ B (.Call (.Name "gcd" p) (a :: es) [] pos) (eL (gl2 gGcd) mas) := pd_callBf cr_gcd rl_gcd hg hm ha (by decide) he hpl
end
end PD
end
section
set_option linter.all false
set_option maxRecDepth 100000
set_option maxHeartbeats 4000000
/-! P15: tests by operators, sequences walked, appends: packed. -/
namespace PD
open PySem PySem.Spec PyProof.Rows L2
def Bs (l : List Nat) : Nat → Bool := fun i => l.contains i
section
variable {X : Cx} {T : List (Addr × Str)} {Φ : Fx} {B : Nat → Bool} {a b tg : Expr} {ma mb : ME} {pos p : Pos} {k : Nat}
theorem t_lt (ha : PDe X T Φ B a ma) (hb : PDe X T Φ B b mb) : PDt X T Φ B (.Compare a [.Lt] [b] pos) (tV (e2 gLt ma mb)) := pt_cmp or_lt rd_lt ha hb
theorem t_le (ha : PDe X T Φ B a ma) (hb : PDe X T Φ B b mb) : PDt X T Φ B (.Compare a [.LtE] [b] pos) (tV (e2 gLe ma mb)) := pt_cmp op_le rd_le ha hb
theorem t_gt (ha : PDe X T Φ B a ma) (hb : PDe X T Φ B b mb) : PDt X T Φ B (.Compare a [.Gt] [b] pos) (tV (e2 gGt ma mb)) := pt_cmp op_gt rd_gt ha hb
theorem t_ge (ha : PDe X T Φ B a ma) (hb : PDe X T Φ B b mb) : PDt X T Φ B (.Compare a [.GtE] [b] pos) (tV (e2 gGe ma mb)) := pt_cmp op_ge rd_ge ha hb
theorem t_eq (hr : Room k X.A) (ha : PDe X T Φ B a ma) (hb : PDe X T Φ B b mb) : PDt X T Φ B (.Compare a [.Eq] [b] pos) (tV (e2 gEq ma mb)) := pt_cmp (or_eq40 (hu_of hr)) rd_eq ha hb
theorem t_ne (hr : Room k X.A) (ha : PDe X T Φ B a ma) (hb : PDe X T Φ B b mb) : PDt X T Φ B (.Compare a [.NotEq] [b] pos) (tV (e2 gNe ma mb)) := pt_cmp (or_ne40 (hu_of hr)) rd_ne ha hb
theorem t_in (hr : Room k X.A) (ha : PDe X T Φ B a ma) (hb : PDe X T Φ B b mb) (hm : behindInMarks .In b = false := by rfl) : PDt X T Φ B (.Compare a [.In] [b] pos) (tV (e2 gIn ma mb)) := pt_cmp (or_in (hu_of hr)) rd_in ha hb hm
theorem t_notin (hr : Room k X.A) (ha : PDe X T Φ B a ma) (hb : PDe X T Φ B b mb) (hm : behindInMarks .NotIn b = false := by rfl) : PDt X T Φ B (.Compare a [.NotIn] [b] pos) (tV (e2 gNotIn ma mb)) := pt_cmp (or_notIn (hu_of hr)) rd_notIn ha hb hm
/-- a list, a tuple, a text walked -/
def anyItems (a : ME) : MA := fun ρ μ => match a ρ μ with
  | some (.list _, _) => lstItems a ρ μ
  | some (.tuple _, _) => tupItems a ρ μ
  | some (.str _, _) => strItems a ρ μ
  | _ => none
theorem pi_any (ha : PDe X T Φ B a ma) : PDi X T Φ B tg a (anyItems ma) := by
  have h1 : PDi X T Φ B tg a (lstItems ma) := pi_l ha
  have h2 : PDi X T Φ B tg a (tupItems ma) := pi_t ha
  have h3 : PDi X T Φ B tg a (strItems ma) := pi_s ha
  refine ⟨fun pins s σ H Q I ⟨A, Z, ρ, μ, d, μ', R, hm, k⟩ => ?_⟩
  unfold anyItems at hm
  split at hm
  · exact h1.run pins s σ H Q I ⟨A, Z, ρ, μ, d, μ', R, hm, k⟩
  · exact h2.run pins s σ H Q I ⟨A, Z, ρ, μ, d, μ', R, hm, k⟩
  · exact h3.run pins s σ H Q I ⟨A, Z, ρ, μ, d, μ', R, hm, k⟩
  · cases hm
theorem s_append (sb : Bool) (i : Nat) {x : Str} {p apos cpos : Pos} (hB : sb = true → B = B0) (ha : PDe X T Φ B a ma) (hN : X.N[i]? = some x := by rfl) (hv : Vis X.env.scope x := by first | exact Or.inl rfl | exact Or.inr (Or.inl rfl) | exact Or.inr (Or.inr rfl)) (hd : (x == ("__debug__" : Str)) = false := by decide) (hcd : (x == ("__classdict__" : Str)) = false := by decide)
    (hst : starEach [a] X.env = (false, eval a X.env) :: starEach [] X.env := by rfl) (hbase : attributeBase (.Name x p) "append" X.env (eval (.Name x p) X.env) = eval (.Name x p) X.env := by rfl)
    (hfew : ((backTo cpos (starEach [a] X.env)).all (fun x => !x.1) && (backToKw cpos (keywordEach [] X.env)).all (fun x => x.1.isSome)
      && decide ([a].length + ([] : List Keyword).length + (if ([] : List Keyword).isEmpty then 0 else 1) < 30)) = true := by rfl)
    (hline : (apos.endLine == cpos.line) = true := by rfl) (hpl : (backTo cpos (starEach [] X.env)).any (·.1) = false := by rfl) (hs : swapsWith (.Call (.Attribute (.Name x p) "append" apos) [a] [] cpos) none pos.line X.env = pure false := by rfl) :
    PDs X T Φ (.Expr (.Call (.Attribute (.Name x p) "append" apos) [a] [] cpos) pos) (sApp sb B i ma) :=
  s_app sb i hB ha hN hv hd hcd hst (pe_bm PySem.F.plainAttrs_list PySem.F.slot_list_append PySem.F.type_list_append mt_append (pe_var hN hv hd hcd) (pa_cons ha pa_nil hst) hbase hfew hline hst hpl) hs
variable {c : Expr} {st : Stmt} {sts sts' : List Stmt} {ms mr : MS} {mt : MT} {g : MG}
theorem x_ret (B : Nat → Bool) (ha : PDe X T Φ B a ma) : PDs X T Φ (.Return (some a) pos) (sRet B ma) := s_ret ha
theorem x_if (B : Nat → Bool) (hc : PDt X T Φ B c mt) (ha : PDss X T Φ sts ms) (hb : PDss X T Φ sts' mr) : PDs X T Φ (.If c sts sts' pos) (sIf mt ms mr) := s_if hc ha hb
theorem x_while (B : Nat → Bool) (hp : PassesOwn (model X.prog X.w) X.A X.env X.xe) (hc : PDt X T Φ B c mt) (hb : PDss X T Φ sts ms) : PDs X T Φ (.While c sts [] pos) (sWhile mt ms) := s_while hp hc hb
theorem x_ex (B : Nat → Bool) (ha : PDe X T Φ B a ma) (hs : swapsWith a none pos.line X.env = pure false := by rfl) : PDs X T Φ (.Expr a pos) (sEx ma) := s_ex ha hs
theorem x_asF (B : Nat → Bool) {tg : Expr} (ha : PDe X T Φ B a ma) (hg : PDg X T Φ tg g) (hs : swapsWithSole [tg] a pos.line X.env = pure false := by rfl) (hw : swappedStores [tg] a X.env = pure none := by rfl) (h1 : (assignEach [tg] X.env).map (·.2) = [assign tg X.env] := by rfl) :
    PDs X T Φ (.Assign [tg] a pos) (sAsF ma g) := s_asF ha hg hs hw h1
theorem x_setF (B : Nat → Bool) (i : Nat) {x : Str} {pos' : Pos} (hN : X.N.Nodup) (ha : PDe X T Φ B a ma) (hi : X.N[i]? = some x := by rfl) (hx : Loc X.env.scope x := by first | exact Or.inl rfl | exact Or.inr rfl) (hs : swapsWith a (some (.Name x pos')) pos.line X.env = pure false := by rfl)
    (hf : X.fn x = true ∨ X.env.scope.names.lookup x = some .local := by first | exact .inl rfl | exact .inr rfl) : PDs X T Φ (.Assign [.Name x pos'] a pos) (sAsF ma (gN i)) := s_setF i hN ha hi hx hs hf
theorem x_append (B : Nat → Bool) (sb : Bool) (i : Nat) {x : Str} {p apos cpos : Pos} (hB : sb = true → B = B0) (ha : PDe X T Φ B a ma) (hN : X.N[i]? = some x := by rfl) (hv : Vis X.env.scope x := by first | exact Or.inl rfl | exact Or.inr (Or.inl rfl) | exact Or.inr (Or.inr rfl)) (hd : (x == ("__debug__" : Str)) = false := by decide) (hcd : (x == ("__classdict__" : Str)) = false := by decide)
    (hst : starEach [a] X.env = (false, eval a X.env) :: starEach [] X.env := by rfl) (hbase : attributeBase (.Name x p) "append" X.env (eval (.Name x p) X.env) = eval (.Name x p) X.env := by rfl)
    (hfew : ((backTo cpos (starEach [a] X.env)).all (fun x => !x.1) && (backToKw cpos (keywordEach [] X.env)).all (fun x => x.1.isSome)
      && decide ([a].length + ([] : List Keyword).length + (if ([] : List Keyword).isEmpty then 0 else 1) < 30)) = true := by rfl)
    (hline : (apos.endLine == cpos.line) = true := by rfl) (hpl : (backTo cpos (starEach [] X.env)).any (·.1) = false := by rfl) (hs : swapsWith (.Call (.Attribute (.Name x p) "append" apos) [a] [] cpos) none pos.line X.env = pure false := by rfl) :
    PDs X T Φ (.Expr (.Call (.Attribute (.Name x p) "append" apos) [a] [] cpos) pos) (sApp sb B i ma) := s_append sb i hB ha hN hv hd hcd hst hbase hfew hline hpl hs
end
end PD
end
section
set_option linter.all false
set_option maxRecDepth 100000
set_option maxHeartbeats 4000000
/-! P16: data read off the heap: orders of nested data, sorted. -/
namespace PD
open PySem PySem.Spec PyProof.Rows L2 PySem.W

mutual
def seqD : D → Bool
  | .none => true
  | .bool _ => true
  | .int _ => true
  | .str _ => true
  | .list ds => seqA ds
  | .tuple ds => seqA ds
  | .dict _ => false
def seqA : List D → Bool
  | [] => true
  | d :: ds => seqD d && seqA ds
end
section
variable {X : Cx} {pins : List (Addr × Obj)} {σ : L2.St} {H : Hp} {s : Shared}
mutual
theorem reads_rp (I : Inv X pins σ H s) : ∀ (d : D) (v : V) (u : Value), seqD d = true → Rp X.K H v d → RelV v u → ∃ as, Reads s.heap u d as
  | .none, _, _, _, h, r => by cases (show _ = V.non from h); cases r; exact ⟨_, .none⟩
  | .bool b, _, _, _, h, r => by cases (show _ = V.bl b from h); cases r; exact ⟨_, .bool b⟩
  | .int i, _, _, _, h, r => by cases (show _ = V.int i from h); obtain ⟨t, rfl⟩ := r; exact ⟨_, .int i t⟩
  | .str x, _, _, _, h, r => by cases (show _ = V.str x from h); obtain ⟨t, rfl⟩ := r; exact ⟨_, .str x t⟩
  | .list ds, _, _, hs, ⟨a, xs, e, h1, h2⟩, r => by
    subst e
    cases r
    obtain ⟨its, rv, pl, _⟩ := I.list (.inl h1)
    obtain ⟨o, ho, hc, n, hd⟩ := pl.isList
    obtain ⟨as, ra⟩ := readsA_rp I ds xs its (by simpa [seqD] using hs) h2 rv
    exact ⟨_, .list ho hc hd (by simpa using ra)⟩
  | .tuple ds, _, _, hs, ⟨a, xs, e, h1, h2⟩, r => by
    subst e
    cases r
    obtain ⟨its, rv, ⟨o, ho, hc, n, hd⟩, _⟩ := I.tuple h1
    obtain ⟨as, ra⟩ := readsA_rp I ds xs its (by simpa [seqD] using hs) h2 rv
    exact ⟨_, .tuple ho hc hd (by simpa using ra)⟩
  | .dict _, _, _, hs, _, _ => by simp [seqD] at hs
theorem readsA_rp (I : Inv X pins σ H s) : ∀ (ds : List D) (vs : List V) (us : List Value), seqA ds = true → RpA X.K H vs ds → Vals vs us → ∃ as, ReadsAll s.heap us ds as
  | [], _, _, _, h, r => by rw [show _ = [] from h] at r; cases r; exact ⟨_, .nil⟩
  | d :: ds, _, _, hs, ⟨v, vr, e, h1, h2⟩, r => by
    subst e
    cases r with
    | cons r1 r2 =>
      have hs : seqD d = true ∧ seqA ds = true := by simpa [seqA] using hs
      obtain ⟨as, ra⟩ := reads_rp I d v _ hs.1 h1 r1
      obtain ⟨bs, rb⟩ := readsA_rp I ds vr _ hs.2 h2 r2
      exact ⟨_, .cons ra rb⟩
end
end
/-! ### orders -/
def okCmp (d e : D) : Bool := seqD d && (seqD e && (alike d e && (!isNoneD d && decide (d.depth ≤ 40))))
theorem okCmp_of {d e : D} (h : okCmp d e = true) : seqD d = true ∧ seqD e = true ∧ alike d e = true ∧ d ≠ .none ∧ d.depth ≤ 40 := by
  unfold okCmp at h
  simp only [Bool.and_eq_true, decide_eq_true_eq, Bool.not_eq_true'] at h
  obtain ⟨h1, h2, h3, h4, h5⟩ := h
  exact ⟨h1, h2, h3, fun z => by rw [z] at h4; exact absurd h4 (by decide), h5⟩
def rCmpD (K : PySem.W.Frag) (f : D → D → Bool) : R2 := fun x y H Q => ∃ d e, Rp K H x d ∧ Rp K H y e ∧ okCmp d e = true ∧ Q (.bl (f d e)) H
def gCmpD (f : D → D → Bool) : G2 := fun d e => if okCmp d e then some (.bool (f d e)) else none
section
variable {X : Cx}
theorem or_ltD (hu : X.A.units + 64 < cLine) : OpR X (compareOp .Lt) (rCmpD X.K dataLt) := by
  intro pins s σ H x y v u Q I rx ry h
  obtain ⟨d, e, h1, h2, hk, q⟩ := h
  obtain ⟨k1, k2, k3, k4, k5⟩ := okCmp_of hk
  obtain ⟨as, ra⟩ := reads_rp I d x v k1 h1 rx
  obtain ⟨bs, rb⟩ := reads_rp I e y u k2 h2 ry
  exact lt_data ra rb k3 k4 (by omega) ⟨.bl _, H, I, rfl, q⟩
theorem or_gtD (hu : X.A.units + 64 < cLine) : OpR X (compareOp .Gt) (rCmpD X.K fun d e => dataLt e d) := by
  intro pins s σ H x y v u Q I rx ry h
  obtain ⟨d, e, h1, h2, hk, q⟩ := h
  obtain ⟨k1, k2, k3, k4, k5⟩ := okCmp_of hk
  obtain ⟨as, ra⟩ := reads_rp I d x v k1 h1 rx
  obtain ⟨bs, rb⟩ := reads_rp I e y u k2 h2 ry
  exact gt_data ra rb k3 k4 (by omega) ⟨.bl _, H, I, rfl, q⟩
theorem or_leD (hu : X.A.units + 64 < cLine) : OpR X (compareOp .LtE) (rCmpD X.K fun d e => !dataLt e d) := by
  intro pins s σ H x y v u Q I rx ry h
  obtain ⟨d, e, h1, h2, hk, q⟩ := h
  obtain ⟨k1, k2, k3, k4, k5⟩ := okCmp_of hk
  obtain ⟨as, ra⟩ := reads_rp I d x v k1 h1 rx
  obtain ⟨bs, rb⟩ := reads_rp I e y u k2 h2 ry
  exact le_data ra rb k3 k4 (by omega) ⟨.bl _, H, I, rfl, q⟩
theorem or_geD (hu : X.A.units + 64 < cLine) : OpR X (compareOp .GtE) (rCmpD X.K fun d e => !dataLt d e) := by
  intro pins s σ H x y v u Q I rx ry h
  obtain ⟨d, e, h1, h2, hk, q⟩ := h
  obtain ⟨k1, k2, k3, k4, k5⟩ := okCmp_of hk
  obtain ⟨as, ra⟩ := reads_rp I d x v k1 h1 rx
  obtain ⟨bs, rb⟩ := reads_rp I e y u k2 h2 ry
  exact ge_data ra rb k3 k4 (by omega) ⟨.bl _, H, I, rfl, q⟩
end
theorem rd_cmpD {K : PySem.W.Frag} {f : D → D → Bool} : RD K (rCmpD K f) (gCmpD f) := fun H Z x y d1 d2 d Q hz h1 h2 hg k => by
  unfold gCmpD at hg
  split at hg
  · rename_i hk
    cases hg
    exact ⟨d1, d2, hidRp h1, hidRp h2, hk, k _ H (Same.refl H) rfl⟩
  · cases hg
/-! ### sorted -/
def sortD (ds : List D) : List D := ds.mergeSort (dataLe false id)
def sortableB (ds : List D) : Bool := (ds.all fun d => match d with
  | .tuple (_ :: _) => true
  | _ => false) || ds.all fun d => match d with
  | .none => false
  | .tuple _ => false
  | _ => true
def sortOk (ds : List D) : Bool := seqA ds && ((ds.all fun d => ds.all fun e => alike d e) && (sortableB ds && ((ds.all fun d => decide (d.depth ≤ 40)) && decide (ds.length ≤ sizeLine))))
theorem sortOk_of {ds : List D} (h : sortOk ds = true) : seqA ds = true ∧ AllAlike ds ∧ Sortable ds ∧ (∀ d ∈ ds, d.depth ≤ 40) ∧ ds.length ≤ sizeLine := by
  unfold sortOk at h
  simp only [Bool.and_eq_true, decide_eq_true_eq, List.all_eq_true] at h
  obtain ⟨h1, h2, h3, h4, h5⟩ := h
  refine ⟨h1, fun d hd e he => h2 d hd e he, ?_, h4, h5⟩
  unfold sortableB at h3
  rcases Bool.or_eq_true_iff.mp h3 with h3 | h3
  · refine .inl fun d hd => ?_
    have q := List.all_eq_true.mp h3 d hd
    split at q
    · exact ⟨_, _, rfl⟩
    · cases q
  · refine .inr fun d hd => ?_
    have q := List.all_eq_true.mp h3 d hd
    split at q
    · cases q
    · cases q
    · rename_i n1 n2
      exact ⟨fun e => n1 e, fun xs e => n2 xs e⟩
theorem seqA_mem : ∀ {ds : List D} {d : D}, seqA ds = true → d ∈ ds → seqD d = true
  | [], _, _, h => by simp at h
  | x :: ds, d, hs, h => by
    have hs : seqD x = true ∧ seqA ds = true := by simpa [seqA] using hs
    rcases List.mem_cons.mp h with e | h
    · rw [e]; exact hs.1
    · exact seqA_mem hs.2 h
def rSortD (K : PySem.W.Frag) : List V → Hp → VK → Prop := fun vs H Q => ∃ (a : Addr) (xs : List V) (ds : List D) (Pd : V → D → Prop), vs = [.ref a] ∧ SqL K H a xs ∧ EachIs Pd xs ds ∧ (∀ v d, Pd v d → Rp K H v d) ∧ sortOk ds = true ∧
  ∀ p ys, H p = none → EachIs Pd ys (sortD ds) → Q (.ref p) (upd H p (.lst ys))
theorem each_vals {Pd : V → D → Prop} : ∀ {us : List Value} {ds : List D}, EachIs (fun u d => ∃ v, RelV v u ∧ Pd v d) us ds → ∃ ys, Vals ys us ∧ EachIs Pd ys ds
  | _, _, .nil => ⟨[], .nil, .nil⟩
  | _, _, .cons ⟨v, r, p⟩ t => by
    obtain ⟨ys, h1, h2⟩ := each_vals t
    exact ⟨v :: ys, .cons r h1, .cons p h2⟩
theorem vals_each {Pd : V → D → Prop} : ∀ {us : List Value} {xs : List V} {ds : List D}, Vals xs us → EachIs Pd xs ds → EachIs (fun u d => ∃ v, RelV v u ∧ Pd v d) us ds
  | _, _, _, .nil, .nil => .nil
  | _, _, _, .cons r t, .cons p q => .cons ⟨_, r, p⟩ (vals_each t q)
theorem cr_sortD {X : Cx} (hu : X.A.units + 64 < cLine) : CallR X (.builtin "sorted") (rSortD X.K) := by
  intro pins s σ H vs us Q I r h
  obtain ⟨a, xs, ds, Pd, rfl, hs, he, hp, hk, q⟩ := h
  obtain ⟨k1, k2, k3, k4, k5⟩ := sortOk_of hk
  obtain ⟨its, rv, pl, hz⟩ := I.list hs
  rw [Vals.ref1 r]
  have e1 : EachIs (fun u d => ∃ v, RelV v u ∧ Pd v d) its ds := vals_each rv he
  have e2 : EachIs (fun u d => (∃ v, RelV v u ∧ Pd v d) ∧ d ∈ ds) its ds := each_mem e1
  refine sorted_data (enc := id) (bs := ds) pl.isList e1 (e2.mono fun u d ⟨⟨v, r1, p1⟩, hm⟩ => reads_rp I d v u (seqA_mem k1 hm) (hp v d p1) r1) (by simpa using k2) (by simpa using k3) k5 (fun d hd => by have := k4 d hd; show X.A.units + 2 + d.depth < cLine; omega) fun out hl ho => ?_
  obtain ⟨ys, r2, e3⟩ := each_vals ho
  obtain ⟨ep, he'⟩ := PyProof.Rows.sortedAll_at s.heap its (List.toArray out)
  have hlen : ys.length ≤ sizeLine := by rw [r2.length, hl]; exact k5
  exact ⟨.ref _, upd H (s.heap.objs.size + 1) (.lst ys), I.laid (t' := s.toks) (fun _ _ => PyProof.Rows.sortedAll_old) (Nat.le_succ _) ⟨hlen, out, ep, r2, he'⟩, rfl, q _ ys (I.hok.fresh (Nat.le_succ _)) e3⟩
def gSort : G1
  | .list ds => if sortOk ds then some (.list (sortD ds)) else none
  | _ => none
theorem each_rp {K : PySem.W.Frag} {H : Hp} : ∀ {xs : List V} {ds : List D}, RpA K H xs ds → EachIs (Rp K H) xs ds
  | _, [], h => by rw [show _ = [] from h]; exact .nil
  | _, d :: ds, ⟨v, vr, e, h1, h2⟩ => by subst e; exact .cons h1 (each_rp h2)
theorem rp_each {K : PySem.W.Frag} {H : Hp} : ∀ {xs : List V} {ds : List D}, EachIs (Rp K H) xs ds → RpA K H xs ds
  | _, _, .nil => rfl
  | _, _, .cons p t => ⟨_, _, rfl, p, rp_each t⟩
theorem rl_sortD {K : PySem.W.Frag} : RL K (rSortD K) (gl1 gSort) := rl1 fun H Z x d1 d Q hz h hg k => by
  unfold gSort at hg
  split at hg
  · rename_i ds
    split at hg
    · rename_i hk
      cases hg
      obtain ⟨a, xs, rfl, h1, h2⟩ := h
      refine ⟨a, xs, ds, Rp K (hid H Z), rfl, .inl (hid_rd h1).1, each_rp h2, fun v d hv => hidRp hv, hk, fun p ys hp e => ?_⟩
      exact k _ _ (same_upd hp) (rp_new_lst hz hp (rp_each e))
    · cases hg
  · cases hg
end PD
end
section
set_option linter.all false
set_option maxRecDepth 100000
set_option maxHeartbeats 4000000
/-! P17: tuple(zip(xs, ys)), two lists. -/
namespace PySem
open Sem (wp)
namespace PDZ
open PySem.W
section
variable {prog : Program} {w : World} {R : Result → Shared → Prop} {xs ys : Array Value} {z TI TO i1 i2 l1 l2 : Addr}
/-- the zip z after i items, S: a list that is no part of it -/
structure ZSt (z TI TO i1 i2 l1 l2 : Addr) (xs ys : Array Value) (S : Addr) (i : Nat) (h : Heap) : Prop where
  ti : IsPair h TI (.ref i1) (.ref i2)
  a1 : h.IsListIter i1 l1 i
  a2 : h.IsListIter i2 l2 i
  b1 : h.IsList l1 xs
  b2 : h.IsList l2 ys
  too : ∃ u, h.get? TO = some u
  zz : (IsZip h z TI TO .none ∧ ∃ a b, IsPair h TO a b) ∨ ∃ T f oT, IsZipHeld h z TI TO T f ∧ h.get? T = some oT ∧ T ≠ z ∧ T ≠ i1 ∧ T ≠ i2 ∧ T ≠ S
structure Off (S z TI TO i1 i2 l1 l2 : Addr) : Prop where
  z : S ≠ z
  ti : S ≠ TI
  to : S ≠ TO
  i1 : S ≠ i1
  i2 : S ≠ i2
  l1 : S ≠ l1
  l2 : S ≠ l2
theorem ZSt.keep {S : Addr} {i : Nat} {h h' : Heap} (o : Off S z TI TO i1 i2 l1 l2) (st : ZSt z TI TO i1 i2 l1 l2 xs ys S i h) (hk : ∀ b u, b ≠ S → h.get? b = some u → h'.get? b = some u) : ZSt z TI TO i1 i2 l1 l2 xs ys S i h' := by
  refine ⟨hk _ _ o.ti.symm st.ti, st.a1.at fun u e => hk _ u o.i1.symm e, st.a2.at fun u e => hk _ u o.i2.symm e, st.b1.at fun u e => hk _ u o.l1.symm e, st.b2.at fun u e => hk _ u o.l2.symm e, st.too.imp fun u e => hk _ u o.to.symm e, ?_⟩
  rcases st.zz with ⟨q, a, b, t⟩ | ⟨T, f, oT, q, hT, r1, r2, r3, r4⟩
  · exact .inl ⟨hk _ _ o.z.symm q, a, b, hk _ _ o.to.symm t⟩
  · exact .inr ⟨T, f, oT, hk _ _ o.z.symm q, hk _ _ r4 hT, r1, r2, r3, r4⟩
/-- what the list holds so far -/
def Got (xs ys : Array Value) (h : Heap) (acc : Array Value) (i : Nat) (wr : List Addr) (lo : Nat) : Prop := ∃ Ts : List Addr, Ts.length = i ∧ acc.toList = Ts.map Value.ref ∧ Ts.Nodup ∧ ∀ (j : Nat) (T : Addr), Ts[j]? = some T → ∃ x y, xs[j]? = some x ∧ ys[j]? = some y ∧ IsPair h T x y ∧ T ∉ wr ∧ lo ≤ T
theorem Got.size {h : Heap} {acc : Array Value} {i lo : Nat} {wr : List Addr} (g : Got xs ys h acc i wr lo) : acc.size = i := by
  obtain ⟨Ts, a, b, _⟩ := g
  rw [← Array.length_toList, b, List.length_map, a]
theorem Got.keep {h h' : Heap} {acc : Array Value} {i lo : Nat} {wr : List Addr} (g : Got xs ys h acc i wr lo) (hk : ∀ b u, b ∉ wr → h.get? b = some u → h'.get? b = some u) : Got xs ys h' acc i wr lo := by
  obtain ⟨Ts, a, b, c, d⟩ := g
  exact ⟨Ts, a, b, c, fun j T e => let ⟨x, y, q1, q2, q3, q4, q5⟩ := d j T e; ⟨x, y, q1, q2, hk _ _ q4 q3, q4, q5⟩⟩
theorem Got.push {h : Heap} {acc : Array Value} {i lo : Nat} {wr : List Addr} {T : Addr} {x y : Value} (g : Got xs ys h acc i wr lo) (hn : ∀ T' u, h.get? T' = some u → T' ≠ T → True) (hx : xs[i]? = some x) (hy : ys[i]? = some y) (hT : IsPair h T x y) (hw : T ∉ wr) (hlo : lo ≤ T) (hnew : ∀ (j : Nat) (T' : Addr), acc.toList[j]? = some (Value.ref T') → T' ≠ T) :
    Got xs ys h (acc.push (.ref T)) (i + 1) wr lo := by
  obtain ⟨Ts, a, b, c, d⟩ := g
  refine ⟨Ts ++ [T], by simp [a], by simp [b], ?_, fun j T' e => ?_⟩
  · rw [List.nodup_append]
    refine ⟨c, by simp, fun u hu v hv e => ?_⟩
    rw [show v = T by simpa using hv] at e
    obtain ⟨j, hj⟩ := List.mem_iff_getElem?.mp hu
    exact hnew j u (by rw [b, List.getElem?_map, hj]; rfl) e
  · by_cases hj : j < Ts.length
    · rw [List.getElem?_append_left hj] at e
      exact d j T' e
    · rw [List.getElem?_append_right (by omega)] at e
      have e0 : j - Ts.length = 0 := by
        by_cases z : j - Ts.length = 0
        · exact z
        · rw [List.getElem?_eq_none (by simp; omega)] at e; cases e
      rw [e0] at e
      have ej : j = i := by omega
      cases e
      rw [ej]
      exact ⟨x, y, hx, hy, hT, hw, hlo⟩
theorem loop_zip {A : Around} {n lo : Nat} {S : Addr} {res : Value} (D : ZipApart z TI TO i1 i2 l1 l2) (o : Off S z TI TO i1 i2 l1 l2) (hn : n ≤ sizeLine) (hxs : xs.size = n) (hys : ys.size = n) (hh : A.handled = none) :
    ∀ (k i : Nat) (s : Shared) (acc : Array Value) (c : Nat), n - i = k → i ≤ n → ZSt z TI TO i1 i2 l1 l2 xs ys S i s.heap → s.heap.get? S = some { cls := .type "list", dict := none, data := .seq acc c, slots := #[] } → Got xs ys s.heap acc i [S, z, TO, i1, i2] lo → lo ≤ s.heap.objs.size →
    (∀ h' acc' c', (∀ b u, b ∉ [S, z, TO, i1, i2] → s.heap.get? b = some u → h'.get? b = some u) → h'.get? S = some { cls := .type "list", dict := none, data := .seq acc' c', slots := #[] } → Got xs ys h' acc' n [S, z, TO, i1, i2] lo → R (.ok (.ret res)) { s with heap := h' }) →
    codeAny (model prog w) A (.builtin "list.extend.loop" ⟨[.ref S, .ref z, res], []⟩) R s := by
  intro k
  induction k with
  | zero =>
    intro i s acc c hk hi st hS g hlo hR
    obtain rfl : i = n := by omega
    refine codeAny_builtin F.entry_extend_loop ?_
    rw [Around.under_plainId F.plain_extend_loop _]
    show wpAny _ A.in1 (pyNext (.ref z) >>= _) _ _ s
    have fin : ∀ h', (∀ c o, c ≠ z → c ≠ TO → c ≠ i1 → c ≠ i2 → s.heap.get? c = some o → h'.get? c = some o) → R (.ok (.ret res)) { s with heap := h' } := fun h' hk => by
      have kp : ∀ b u, b ∉ [S, z, TO, i1, i2] → s.heap.get? b = some u → h'.get? b = some u := fun b u hb e => by
        simp only [List.mem_cons, List.not_mem_nil, or_false, not_or] at hb
        exact hk b u hb.2.1 hb.2.2.1 hb.2.2.2.1 hb.2.2.2.2 e
      exact hR h' acc c kp (hk S _ o.z o.to o.i1 o.i2 hS) (g.keep kp)
    have hend : xs[i]? = none ∨ ys[i]? = none := .inl (Array.getElem?_eq_none (by omega))
    rcases st.zz with ⟨q, a, b, t⟩ | ⟨T, f, oT, q, hT, r1, r2, r3, r4⟩
    · exact wpAny_bind (wpAny_pyNext_zip_end (A := A.in1) hh D q st.ti t st.a1 st.a2 st.b1 st.b2 hend fun h' hk => wpAny_pure (fin h' hk))
    · exact wpAny_bind (wpAny_pyNext_zip_end_held (A := A.in1) hh D q hT st.ti st.a1 st.a2 st.b1 st.b2 hend fun h' hk => wpAny_pure (fin h' fun c o c1 _ c3 c4 e => hk c o c1 c3 c4 e))
  | succ k ih =>
    intro i s acc c hk hi st hS g hlo hR
    have hlt : i < n := by omega
    refine codeAny_builtin F.entry_extend_loop ?_
    rw [Around.under_plainId F.plain_extend_loop _]
    show wpAny _ A.in1 (pyNext (.ref z) >>= _) _ _ s
    have ex := Array.getElem?_eq_getElem (xs := xs) (i := i) (by omega)
    have ey := Array.getElem?_eq_getElem (xs := ys) (i := i) (by omega)
    have lt : ∀ {c u}, s.heap.get? c = some u → s.heap.objs.size ≠ c := fun e => Nat.ne_of_gt (Heap.lt_size e)
    have nz : s.heap.objs.size ≠ z := by rcases st.zz with ⟨q, _⟩ | ⟨_, _, _, q, _⟩ <;> exact lt q
    have n1 : s.heap.objs.size ≠ i1 := let ⟨_, e, _⟩ := st.a1; lt e
    have n2 : s.heap.objs.size ≠ i2 := let ⟨_, e, _⟩ := st.a2; lt e
    have nS : s.heap.objs.size ≠ S := lt hS
    have rest : ∀ h', h'.objs.size = s.heap.objs.size + 1 → s.heap.objs.size ≠ TO → ZSt z TI TO i1 i2 l1 l2 xs ys S (i + 1) h' → IsPair h' s.heap.objs.size xs[i] ys[i] → (∀ c o, c ≠ z → c ≠ TO → c ≠ i1 → c ≠ i2 → s.heap.get? c = some o → h'.get? c = some o) →
        wpAny (model prog w) A.in1 (updateSeq S (·.push (.ref s.heap.objs.size)) >>= fun _ => again (.builtin "list.extend.loop" ⟨[.ref S, .ref z, res], []⟩)) (fun f s' => match f with | .done fl => R (.ok fl) s' | .again c => c.quiet = true ∧ codeAny (model prog w) A c R s') (fun e s' => R (.error e) s') { s with heap := h' } := fun h' hsz nTO st' hT hk => by
      have hS' := hk S _ o.z o.to o.i1 o.i2 hS
      have kp : ∀ b u, b ∉ [S, z, TO, i1, i2] → s.heap.get? b = some u → h'.get? b = some u := fun b u hb e => by
        simp only [List.mem_cons, List.not_mem_nil, or_false, not_or] at hb
        exact hk b u hb.2.1 hb.2.2.1 hb.2.2.2.1 hb.2.2.2.2 e
      have hnew : s.heap.objs.size ∉ [S, z, TO, i1, i2] := by
        simp only [List.mem_cons, List.not_mem_nil, or_false, not_or]
        exact ⟨nS, nz, nTO, n1, n2⟩
      refine wpAny_bind ?_
      refine wpAny_updateSeq hS' rfl (wpAny_pure ⟨plainId_quiet F.plain_extend_loop _, ih (i + 1) _ (acc.push (.ref s.heap.objs.size)) _ (by omega) hlt (st'.keep o fun b u hb e => ?_) (Heap.get?_update_self _ hS' rfl) ?_ (by show lo ≤ (h'.update _ _).objs.size; rw [Heap.size_update, hsz]; omega) fun h'' acc' c' hk2 hS2 g2 => ?_⟩)
        (by rw [g.size]; omega) (by show (acc.push (.ref s.heap.objs.size)).size ≤ sizeLine + 1; rw [Array.size_push, g.size]; omega)
      · exact (Heap.get?_update_other _ _ (Ne.symm hb)).trans e
      · have hnw : ∀ (j : Nat) (T' : Addr), acc.toList[j]? = some (Value.ref T') → T' ≠ s.heap.objs.size := fun j T' e => by
          obtain ⟨Ts, _, b, _, d⟩ := g
          rw [b, List.getElem?_map] at e
          cases ej : Ts[j]? with
          | none => rw [ej] at e; cases e
          | some T'' =>
            rw [ej] at e
            cases e
            obtain ⟨_, _, _, _, q3, _⟩ := d j T' ej
            exact (lt q3).symm
        refine ((g.keep kp).push (fun _ _ _ _ => trivial) ex ey hT hnew hlo hnw).keep fun b u hb e => ?_
        exact (Heap.get?_update_other _ _ (fun q : S = b => hb (by rw [← q]; exact List.mem_cons_self))).trans e
      · refine hR h'' acc' c' (fun b u hb e => hk2 b u hb ?_) hS2 g2
        exact (Heap.get?_update_other _ _ (fun q : S = b => hb (by rw [← q]; exact List.mem_cons_self))).trans (kp b u hb e)
    rcases st.zz with ⟨q, a, b, t⟩ | ⟨T, f, oT, q, hT, r1, r2, r3, r4⟩
    · refine wpAny_bind (wpAny_pyNext_zip_item (A := A.in1) D q st.ti t st.a1 st.a2 st.b1 st.b2 ex ey fun h' a1 a2 a3 a4 a5 a6 hk => ?_)
      exact rest h' a6 (lt t) ⟨hk _ _ D.TIz D.TITO D.TIi1 D.TIi2 st.ti, a3, a4, st.b1.at fun u e => hk _ u D.l1z D.l1TO D.l1i1 D.l1i2 e, st.b2.at fun u e => hk _ u D.l2z D.l2TO D.l2i1 D.l2i2 e, ⟨_, a2⟩, .inr ⟨s.heap.objs.size, false, _, a1, a5, nz, n1, n2, nS⟩⟩ a5 hk
    · refine wpAny_bind (wpAny_pyNext_zip_item_held (A := A.in1) D q hT st.ti st.a1 st.a2 st.b1 st.b2 ex ey fun h' a1 a3 a4 a5 a6 hk => ?_)
      obtain ⟨u0, hu0⟩ := st.too
      exact rest h' a6 (lt hu0) ⟨hk _ _ D.TIz D.TIi1 D.TIi2 st.ti, a3, a4, st.b1.at fun u e => hk _ u D.l1z D.l1i1 D.l1i2 e, st.b2.at fun u e => hk _ u D.l2z D.l2i1 D.l2i2 e, ⟨u0, hk _ _ D.TOz D.TOi1 D.TOi2 hu0⟩, .inr ⟨T, true, oT, a1, hk _ _ r1 r2 r3 hT, r1, r2, r3, r4⟩⟩ a5 fun c u c1 _ c3 c4 e => hk c u c1 c3 c4 e
theorem nolen_zip : typeLookup (.type "zip") "__len__" = pure none := by rw [typeLookup_type, builtinLookup_eq_fast]; kernel_rfl
theorem nohint_zip : typeLookup (.type "zip") "__length_hint__" = pure none := by rw [typeLookup_type, builtinLookup_eq_fast]; kernel_rfl
theorem collect_zip {A : Around} {n lo : Nat} {s : Shared} {Q : List Value → Shared → Prop} {E : Value → Shared → Prop} (D : ZipApart z TI TO i1 i2 l1 l2) (hn : n ≤ sizeLine) (hxs : xs.size = n) (hys : ys.size = n) (hh : A.handled = none)
    (hz : IsZip s.heap z TI TO .none) (hTI : IsPair s.heap TI (.ref i1) (.ref i2)) (hTO : ∃ a b, IsPair s.heap TO a b) (h1 : s.heap.IsListIter i1 l1 0) (h2 : s.heap.IsListIter i2 l2 0) (hl1 : s.heap.IsList l1 xs) (hl2 : s.heap.IsList l2 ys) (hlo : lo ≤ s.heap.objs.size)
    (hQ : ∀ h' acc, (∀ b u, b ∉ [z, TO, i1, i2] → s.heap.get? b = some u → h'.get? b = some u) → Got xs ys h' acc n [] lo → Q acc.toList { s with heap := h' }) : wpAny (model prog w) A (collect (.ref z)) Q E s := by
  have lt : ∀ {c u}, s.heap.get? c = some u → s.heap.objs.size ≠ c := fun e => Nat.ne_of_gt (Heap.lt_size e)
  obtain ⟨ta, tb, hTO⟩ := hTO
  have o : Off s.heap.objs.size z TI TO i1 i2 l1 l2 := ⟨lt hz, lt hTI, lt hTO, let ⟨_, e, _⟩ := h1; lt e, let ⟨_, e, _⟩ := h2; lt e, let ⟨_, e, _⟩ := hl1; lt e, let ⟨_, e, _⟩ := hl2; lt e⟩
  unfold collect
  refine wpAny_bind (wpAny_runValue (codeAny_builtin F.entry_proto_collect ?_))
  rw [Around.under_plainId F.plain_proto_collect _]
  show wpAny _ A.in1 (newList [] >>= fun l => again (.builtin "list.__iadd__" ⟨[l, .ref z], []⟩)) _ _ s
  refine wpAny_bind (wpAny_newObj_type ?_)
  refine wpAny_pure ⟨plainId_quiet F.plain_list_iadd _, codeAny_builtin F.entry_list_iadd ?_⟩
  rw [Around.under_plainId F.plain_list_iadd _]
  generalize hp : s.heap.push { cls := .type "list", data := .seq ([] : List Value).toArray } = h₁
  have k1 : ∀ b u, s.heap.get? b = some u → h₁.get? b = some u := fun b u e => by rw [← hp]; exact Heap.get?_push_of_some _ e
  have hS₁ : h₁.get? s.heap.objs.size = some { cls := .type "list", data := .seq ([] : List Value).toArray } := by rw [← hp]; exact Heap.get?_push_size _ rfl
  have hT : Shared.TypeIs { s with heap := h₁ } (.ref z) "zip" := ⟨_, k1 _ _ hz, rfl⟩
  show wpAny _ A.in1 (Builtin.List.listExtendWith (.ref s.heap.objs.size) (.ref z) (.ref s.heap.objs.size)) _ _ _
  unfold Builtin.List.listExtendWith
  refine wpAny_bind (wpAny_typeOf hT ?_)
  have e1 : Builtin.List.listSameRef (.ref s.heap.objs.size) (.ref z) = false := by simp [Builtin.List.listSameRef, o.z]
  have e2 : (Value.type "zip" == Value.type "list") = false := by decide
  have e3 : (Value.type "zip" == Value.type "tuple") = false := by decide
  simp only [e1, e2, e3, Bool.or_false, Bool.false_eq_true, if_false]
  refine wpAny_bind (wpAny_pyIter_zip (s := { s with heap := h₁ }) (k1 _ _ hz) ?_)
  refine wpAny_bind (wpAny_holding ?_)
  unfold Builtin.List.listLengthHint
  refine wpAny_bind (wpAny_specialOf hT nolen_zip ?_)
  show wpAny _ A.in1 (specialOf (Value.ref z) (Str.ofString "__length_hint__") >>= _) _ _ _
  refine wpAny_bind (wpAny_specialOf hT nohint_zip ?_)
  refine wpAny_pure ?_
  show wpAny _ A.in1 (rule "list.extend.makes-room" >>= fun _ => Builtin.List.listTouch (.ref s.heap.objs.size) >>= fun _ =>
    again (.builtin "list.extend.loop" ⟨[.ref s.heap.objs.size, .ref z, .ref s.heap.objs.size], []⟩)) _ _ _
  refine wpAny_bind (wpAny_rule ?_)
  refine wpAny_bind ?_
  show wpAny _ A.in1 (updateSeq s.heap.objs.size (·.push .none) >>= fun _ => updateSeq s.heap.objs.size (·.pop)) _ _ _
  refine wpAny_bind (wpAny_updateSeq hS₁ rfl ?_)
  have hS₂ := Heap.get?_update_self (Obj.mapSeq (·.push Value.none)) hS₁ rfl
  refine wpAny_updateSeq hS₂ rfl ?_
  have hS₃ := Heap.get?_update_self (Obj.mapSeq (·.pop)) hS₂ rfl
  have k3 : ∀ b u, b ≠ s.heap.objs.size → s.heap.get? b = some u → ((h₁.update s.heap.objs.size (Obj.mapSeq (·.push Value.none))).update s.heap.objs.size (Obj.mapSeq (·.pop))).get? b = some u :=
    fun b u hb e => (Heap.get?_update_other _ _ (Ne.symm hb)).trans ((Heap.get?_update_other _ _ (Ne.symm hb)).trans (k1 b u e))
  have st : ZSt z TI TO i1 i2 l1 l2 xs ys s.heap.objs.size 0 s.heap := ⟨hTI, h1, h2, hl1, hl2, ⟨_, hTO⟩, .inl ⟨hz, ta, tb, hTO⟩⟩
  refine wpAny_pure ⟨plainId_quiet F.plain_extend_loop _, loop_zip D o hn hxs hys hh n 0 _ _ _ rfl (Nat.zero_le _) (st.keep o k3) hS₃ ⟨[], rfl, rfl, List.nodup_nil, fun j T e => by simp at e⟩ (by show lo ≤ ((h₁.update _ _).update _ _).objs.size; rw [Heap.size_update, Heap.size_update, ← hp, Heap.size_push]; omega) fun h' acc' c' hk hS' g => ?_⟩
  show wpAny _ A (load s.heap.objs.size >>= _) _ _ _
  refine wpAny_bind (wpAny_load hS' ?_)
  refine wpAny_pure (hQ h' acc' (fun b u hb e => ?_) (let ⟨Ts, a, b, c, d⟩ := g; ⟨Ts, a, b, c, fun j T e => let ⟨x, y, q1, q2, q3, _, q5⟩ := d j T e; ⟨x, y, q1, q2, q3, by simp, q5⟩⟩))
  have nb : b ≠ s.heap.objs.size := (lt e).symm
  exact hk b u (by simp only [List.mem_cons, List.not_mem_nil, or_false, not_or] at hb ⊢; exact ⟨nb, hb⟩) (k3 b u nb e)
theorem code_tuple_zip {A : Around} {n lo : Nat} {s : Shared} {Q₁ : Value → Shared → Prop} {E : Value → Shared → Prop} (D : ZipApart z TI TO i1 i2 l1 l2) (hn : n ≤ sizeLine) (hxs : xs.size = n) (hys : ys.size = n) (hh : A.handled = none)
    (hz : IsZip s.heap z TI TO .none) (hTI : IsPair s.heap TI (.ref i1) (.ref i2)) (hTO : ∃ a b, IsPair s.heap TO a b) (h1 : s.heap.IsListIter i1 l1 0) (h2 : s.heap.IsListIter i2 l2 0) (hl1 : s.heap.IsList l1 xs) (hl2 : s.heap.IsList l2 ys) (hlo : lo ≤ s.heap.objs.size)
    (h : ∀ h' acc, (∀ b u, b ∉ [z, TO, i1, i2] → s.heap.get? b = some u → h'.get? b = some u) → Got xs ys h' acc n [] lo → Q₁ (.ref h'.objs.size) { s with heap := h'.push { cls := .type "tuple", data := .seq acc } }) :
    codeAny (model prog w) A (.call (.builtin "tuple.__new__") ⟨[.type "tuple", .ref z], []⟩) (wants Q₁ E) s := by
  refine codeAny_of_tree ?_
  show wpAny _ A.in1 (do checkBuiltinCall "tuple.__new__" ⟨[.type "tuple", .ref z], []⟩; again (.builtin "tuple.__new__" ⟨[.type "tuple", .ref z], []⟩)) _ _ s
  refine wpAny_bind (wpAny_of_eq (F.newCall_tuple_1 _) (wpAny_pure ⟨plainId_quiet F.plain_tuple_new _, codeAny_builtin F.entry_tuple_new ?_⟩))
  rw [Around.under_plainId F.plain_tuple_new _]
  have q1 := sub_tuple_self
  have q2 := init_tuple_lookup
  have q3 := madeHere_tuple
  have hT : s.TypeIs (.ref z) "zip" := ⟨_, hz, rfl⟩
  wp_walk using wpAny_typeOf hT, collect_zip (lo := lo) D hn hxs hys (show A.in1.handled = none from hh) hz hTI hTO h1 h2 hl1 hl2 hlo
  intro h' acc hk g
  show wpAny _ _ (Builtin.Tuple.tupleExact acc.toList.toArray >>= fun v => ret v) _ _ _
  unfold Builtin.Tuple.tupleExact
  refine wpAny_bind (wpAny_newObj_type ?_ (by show acc.toList.toArray.size ≤ sizeLine; simp only [Array.toArray_toList]; rw [g.size]; exact hn))
  refine wpAny_pure ?_
  have e : acc.toList.toArray = acc := by simp
  rw [e]
  exact h h' acc hk g
theorem call_tuple_zip {A : Around} {n lo : Nat} {s : Shared} {Q : Value → Shared → Prop} {E : Value → Shared → Prop} (D : ZipApart z TI TO i1 i2 l1 l2) (hn : n ≤ sizeLine) (hxs : xs.size = n) (hys : ys.size = n) (hh : A.handled = none)
    (hz : IsZip s.heap z TI TO .none) (hTI : IsPair s.heap TI (.ref i1) (.ref i2)) (hTO : ∃ a b, IsPair s.heap TO a b) (h1 : s.heap.IsListIter i1 l1 0) (h2 : s.heap.IsListIter i2 l2 0) (hl1 : s.heap.IsList l1 xs) (hl2 : s.heap.IsList l2 ys) (hlo : lo ≤ s.heap.objs.size)
    (h : ∀ h' acc, (∀ b u, b ∉ [z, TO, i1, i2] → s.heap.get? b = some u → h'.get? b = some u) → Got xs ys h' acc n [] lo → Q (.ref h'.objs.size) { s with heap := h'.push { cls := .type "tuple", data := .seq acc } }) :
    wpAny (model prog w) A (call (.type "tuple") [.ref z]) Q E s := by
  refine callType_codes (Q₁ := fun obj s₁ => s₁.TypeIs obj "tuple" ∧ Q obj s₁) F.called_tuple (F.typeCall_tuple_1 _) F.entry_object_init
    (code_tuple_zip (lo := lo) (A := A.in1) D hn hxs hys hh hz hTI hTO h1 h2 hl1 hl2 hlo fun h' acc hk g => ⟨⟨_, Heap.get?_push_size _ rfl, rfl⟩, h h' acc hk g⟩) fun obj s₁ h₁ => ?_
  exact ⟨h₁.1, F.args_object_init_2 obj _, object_init_meets F.called_tuple.init.lookup F.called_tuple.made (by decide) prog w A.in1 _ s₁ ⟨h₁.1, rfl, h₁.2⟩⟩
end
end PDZ
end PySem
namespace PD
open PySem PySem.Spec PyProof.Rows L2 PySem.W PySem.PDZ
/-- pairs of the places of two lists -/
def gZip2 : List D → Option D
  | [.list xs, .list ys] => if xs.length = ys.length ∧ xs.length ≤ sizeLine then some (.tuple (List.zipWith (fun a b => .tuple [a, b]) xs ys)) else none
  | _ => none
theorem rpA_of {K : PySem.W.Frag} {H : Hp} : ∀ {vs : List V} {ds : List D}, vs.length = ds.length → (∀ (j : Nat) (v : V) (d : D), vs[j]? = some v → ds[j]? = some d → Rp K H v d) → RpA K H vs ds
  | [], [], _, _ => rfl
  | v :: vs, d :: ds, hl, h => ⟨v, vs, rfl, h 0 v d rfl rfl, rpA_of (by simpa using hl) fun j v d a b => h (j + 1) v d (by simpa using a) (by simpa using b)⟩
  | [], _ :: _, hl, _ => by simp at hl
  | _ :: _, [], hl, _ => by simp at hl
theorem valsU : ∀ {xs : List V} {us : List Value} {j : Nat} {u : Value}, Vals xs us → us[j]? = some u → ∃ v, xs[j]? = some v ∧ RelV v u
  | _, _, j, u, .nil, h => by simp at h
  | _, _, 0, u, .cons r t, h => by
    simp at h
    subst h
    exact ⟨_, rfl, r⟩
  | _, _, j + 1, u, .cons r t, h => by
    obtain ⟨v, a, b⟩ := valsU (j := j) t (by simpa using h)
    exact ⟨v, by simpa using a, b⟩
section
variable {X : Cx} {T : List (Addr × Str)} {Φ : Fx} {B : Nat → Bool} {a b : Expr} {mas : MA} {p p2 q pos : Pos}
theorem pd_tzip (hc0 : X.calm = true) (hm : X.mg "tuple" = none) (hm2 : X.mg "zip" = none) (hg : Gl X "tuple") (hg2 : Gl X "zip") (ha : PDa X T Φ B [a, b] mas) (hs : starEach [a, b] X.env = (false, eval a X.env) :: starEach [b] X.env := by rfl) (hpl : (backTo q (starEach [b] X.env)).any (·.1) = false := by rfl)
    (na : starEach [.Call (.Name "zip" p2) [a, b] [] q] X.env = (false, eval (.Call (.Name "zip" p2) [a, b] [] q) X.env) :: starEach [] X.env := by rfl) :
    PDe X T Φ B (.Call (.Name "tuple" p) [.Call (.Name "zip" p2) [a, b] [] q] [] pos) (eL gZip2 mas) := by
  refine ⟨fun pins s σ H Q I h => ?_⟩
  obtain ⟨A, Z, ρ, μ, d, μ', R, hmm, k⟩ := h
  obtain ⟨ds, e1, e2⟩ := eL_some hmm
  unfold gZip2 at e2
  split at e2
  · rename_i dx dy
    split at e2
    · rename_i hc
      cases e2
      refine Call_ (ld_blt I hg hm (show bootBuiltins "tuple" = some (.type "tuple") by decide +kernel) (PyProof.Rows.callWith_type1 ?_ na rfl))
      rw [na]
      show wpAny _ _ (spliced ((false, eval (.Call (.Name "zip" p2) [a, b] [] q) X.env) :: backTo pos (starEach [] X.env))) _ _ s
      refine Calls.spliced_cons (Call_ (ld_blt I hg2 hm2 PyProof.Rows.boot_zip (PyProof.Rows.callWith_type1 (thn (ha.run q pins s σ H (fun vs H1 => Fw (Wr B ρ A) H H1 ∧ Rep X.K T Φ A Z σ H1 ρ μ' ∧ RpA X.K (hid H1 (Zw B ρ A Z)) vs [.list dx, .list dy]) I ⟨A, Z, ρ, μ, _, μ', R, e1, fun vs H1 f1 R1 p1 => ⟨f1, R1, p1⟩⟩) fun us s1 ⟨vs, H1, I1, r1, f1, R1, p1⟩ => ?_) hs hpl)))
      obtain ⟨v1, _, rfl, ⟨l1, xs, rfl, x1, x2⟩, v2, _, rfl, ⟨l2, ys, rfl, y1, y2⟩, rfl⟩ := p1
      cases r1 with
      | cons r rr =>
        cases rr with
        | cons r' rr =>
          cases rr
          cases r
          cases r'
          obtain ⟨its, rv, p1, _⟩ := I1.list (.inl (hid_rd x1).1)
          obtain ⟨its2, rv2, p2', _⟩ := I1.list (.inl (hid_rd y1).1)
          refine call_zip_2 p1.isList p2'.isList fun h' hz hTI hTO h1 h2 hsz hk => ?_
          refine Calls.spliced_nil ?_
          have lx : its.toArray.size = dx.length := by rw [List.size_toArray, ← rv.length, x2.length]
          have ly : its2.toArray.size = dx.length := by rw [List.size_toArray, ← rv2.length, y2.length, hc.1]
          have kl : ∀ {c : Addr} {its : Array Value}, s1.heap.IsList c its → h'.IsList c its := fun ⟨o, ho, r⟩ => ⟨o, hk _ _ ho, r⟩
          refine call_tuple_zip (lo := s1.heap.objs.size) (s := { s1 with heap := h' }) (n := dx.length) (PySem.W.ktu_apart s1.heap.objs.size l1 l2 p1.lt p2'.lt) hc.2 lx ly (I1.ok.hd hc0) hz hTI ⟨_, _, hTO⟩ h1 h2 (kl p1.isList) (kl p2'.isList) (by show s1.heap.objs.size ≤ h'.objs.size; omega) fun h'' acc hk2 g => ?_
          obtain ⟨Ts, t1, t2, t3, t4⟩ := g
          generalize hpp : h''.push { cls := .type "tuple", data := .seq acc } = h3
          have k3 : ∀ b u, s1.heap.get? b = some u → h3.get? b = some u := fun b u e => by
            rw [← hpp]
            refine Heap.get?_push_of_some _ (hk2 b u ?_ (hk b u e))
            have lt := Heap.lt_size e
            simp only [List.mem_cons, List.not_mem_nil, or_false, not_or]
            exact ⟨Nat.ne_of_lt (Nat.lt_of_lt_of_le lt (Nat.le_add_right _ _)), Nat.ne_of_lt (Nat.lt_of_lt_of_le lt (Nat.le_add_right _ _)), Nat.ne_of_lt lt, Nat.ne_of_lt (Nat.lt_of_lt_of_le lt (Nat.le_add_right _ _))⟩
          have hp0 : s1.heap.objs.size ≤ h''.objs.size := by
            by_cases z : s1.heap.objs.size ≤ h''.objs.size
            · exact z
            · exfalso
              have e := hk2 (s1.heap.objs.size + 2) _ (by simp only [List.mem_cons, List.not_mem_nil, or_false, not_or]; refine ⟨?_, ?_, ?_, ?_⟩ <;> (intro q; have q : (_ : Nat) = (_ : Nat) := q; omega)) hTI
              exact z (Nat.le_of_lt (Nat.lt_of_le_of_lt (Nat.le_add_right _ 2) (Heap.lt_size e)))
          have hpn : H1 h''.objs.size = none := I1.hok.fresh hp0
          have ltT : ∀ T ∈ Ts, T < h''.objs.size := fun T hT => by
            obtain ⟨j, hj⟩ := List.mem_iff_getElem?.mp hT
            obtain ⟨x, y, q1, q2, q3, _⟩ := t4 j T hj
            exact Heap.lt_size q3
          have vT : ∀ l : List Addr, Vals (l.map V.ref) (l.map Value.ref) := fun l => by
            induction l with
            | nil => exact .nil
            | cons a l ih => exact .cons rfl ih
          have I2 : Inv X pins σ (upd H1 h''.objs.size (.tup (Ts.map V.ref))) { s1 with heap := h3 } := I1.laid (t' := s1.toks) k3 hp0 (show ObjOk X.prog X.w _ h3 _ (.tup (Ts.map V.ref)) from ⟨by rw [List.length_map, t1]; exact hc.2, acc.toList, by rw [t2]; exact vT Ts, ⟨_, by rw [← hpp]; exact Heap.get?_push_size _ rfl, rfl, 0, by simp⟩⟩)
          have fresh : ∀ T ∈ Ts, s1.heap.objs.size ≤ T ∧ upd H1 h''.objs.size (.tup (Ts.map V.ref)) T = none ∧ ∃ vs, (∃ (j : Nat) (x y : V), Ts[j]? = some T ∧ xs[j]? = some x ∧ ys[j]? = some y ∧ vs = [x, y]) ∧ ∀ H2, ObjOk X.prog X.w H2 h3 T (.tup vs) := fun T hT => by
            obtain ⟨j, hj⟩ := List.mem_iff_getElem?.mp hT
            obtain ⟨x, y, q1, q2, q3, _, q5⟩ := t4 j T hj
            obtain ⟨vx, ex, rx⟩ := valsU rv (by simpa using q1)
            obtain ⟨vy, ey, ry⟩ := valsU rv2 (by simpa using q2)
            refine ⟨q5, by rw [upd_ne (Nat.ne_of_lt (ltT T hT))]; exact I1.hok.fresh q5, [vx, vy], ⟨j, vx, vy, hj, ex, ey, rfl⟩, fun H2 => ⟨by rw [sizeLine_eq]; exact (by decide : 2 ≤ 16777216), [x, y], .cons rx (.cons ry .nil), ⟨_, by rw [← hpp]; exact Heap.get?_push_of_some _ q3, rfl, 0, rfl⟩⟩⟩
          obtain ⟨H2, I3, g2, q2⟩ := L2.DX.takeT (h' := h3) (tk := s1.toks) I1 Ts _ I2 t3 fresh
          have sm : Same H1 H2 := fun b o e => g2 b o (by rw [upd_ne (ne_of_none e hpn)]; exact e)
          refine ⟨.ref h''.objs.size, H2, I3, rfl, k _ H2 (f1.trans (Fw.same sm)) (R1.same sm) ⟨_, _, rfl, .inl (hid_rd_of (.inl (g2 _ _ upd_same)) fun z => R1.tracked _ z hpn), rpA_of (by rw [List.length_map, t1, List.length_zipWith, hc.1, Nat.min_self]) fun j v d ev ed => ?_⟩⟩
          rw [List.getElem?_map] at ev
          cases eT : Ts[j]? with
          | none => rw [eT] at ev; cases ev
          | some T =>
            rw [eT] at ev
            cases ev
            have hT := List.mem_of_getElem? eT
            obtain ⟨vs, ⟨j', x, y, w1, w2, w3, rfl⟩, w4⟩ := q2 T hT
            have ej : j' = j := by
              obtain ⟨u1, u2⟩ := List.getElem?_eq_some_iff.mp w1
              obtain ⟨u3, u4⟩ := List.getElem?_eq_some_iff.mp eT
              exact (List.getElem_inj t3).mp (u2.trans u4.symm)
            subst ej
            rw [List.getElem?_zipWith] at ed
            cases exd : dx[j']? with
            | none => rw [exd] at ed; cases ed
            | some d1 =>
              cases eyd : dy[j']? with
              | none => rw [exd, eyd] at ed; cases ed
              | some d2 =>
                rw [exd, eyd] at ed
                cases ed
                obtain ⟨v1, r1, r2⟩ := x2.get exd
                obtain ⟨v2, r3, r4⟩ := y2.get eyd
                rw [w2] at r1
                rw [w3] at r3
                cases r1
                cases r3
                obtain ⟨c1, c2, _⟩ := fresh T hT
                refine ⟨T, [x, y], rfl, .inl (hid_rd_of (.inl w4) fun z => R1.tracked _ z (I1.hok.fresh c1)), x, [y], rfl, Rp.mono (Same.xt sm) _ _ r2, y, [], rfl, Rp.mono (Same.xt sm) _ _ r4, rfl⟩
    · cases e2
  · cases e2
end
end PD
end
section
set_option linter.all false
set_option maxRecDepth 100000
set_option maxHeartbeats 4000000
/-! P18: enumerate of a tuple. -/
namespace PySem
open Sem (wp)
open AutoSeq1 (wpAny_loadPart')
namespace PDZ
theorem meets_enum1 {v : Value} {o : Obj} {H : Heap → Prop} (B : Begins v o H) :
    Meets (Builtin.«enumerate.__new__» ⟨[.type "enumerate", v], []⟩) (fun _ R s => H s.heap ∧
      R (.ok (.ret (.ref (s.heap.push o).objs.size))) { s with heap := (s.heap.push o).push { cls := .type "enumerate", data := .fields #[.none, .bool false, .ref s.heap.objs.size, rawInt 0, .none, .none] } }) :=
  .of_wp fun prog w A R s h => by
    obtain ⟨hp, g, d, tk, os⟩ := s
    obtain ⟨h1, h⟩ := h
    have hsub := sub_enumerate
    have it1 : ∀ {A' : Around} {E : Value → Shared → Prop} {Q : Value → Shared → Prop}, Q (.ref hp.objs.size) ⟨hp.push o, g, d, tk, os⟩ → wpAny (model prog w) A' (pyIter v) Q E ⟨hp, g, d, tk, os⟩ :=
      fun q => B.iter prog w _ _ ⟨hp, g, d, tk, os⟩ _ h1 q
    wp_walk using it1
    refine wpAny_stack_any fun st => wpAny_pure ?_
    split
    · rename_i c _ _ _ _ _
      cases (c == Value.type "enumerate")
      · wp_walk using it1
        exact ⟨_, rfl, h⟩
      · wp_walk using it1
        exact ⟨_, rfl, h⟩
    · wp_walk using it1
      exact ⟨_, rfl, h⟩
theorem call_enum1 {prog : Program} {w : World} {A : Around} {E : Value → Shared → Prop} {s : Shared} {v : Value} {o : Obj} {H : Heap → Prop} {Q : Value → Shared → Prop} (B : Begins v o H) (h1 : H s.heap)
    (h : ∀ h', IsEnum h' (s.heap.objs.size + 1) s.heap.objs.size 0 .none → h'.get? s.heap.objs.size = some o → h'.objs.size = s.heap.objs.size + 2 →
      (∀ b u, s.heap.get? b = some u → h'.get? b = some u) → Q (.ref (s.heap.objs.size + 1)) { s with heap := h' }) :
    wpAny (model prog w) A (call (.type "enumerate") [v]) Q E s := by
  refine callType_new F.called_enumerate (by decide) (F.typeCall_enumerate_1 _) (F.newCall_enumerate_1 _) (fun obj => F.args_object_init_2 obj _) F.entry_enumerate_new
    (meets_enum1 B) ⟨h1, ?_⟩
  have hz : (s.heap.push o).objs.size = s.heap.objs.size + 1 := Heap.size_push ..
  show _ ∧ _
  rw [hz]
  have he : IsEnum ((s.heap.push o).push { cls := .type "enumerate", data := .fields #[.none, .bool false, .ref s.heap.objs.size, rawInt 0, .none, .none] }) (s.heap.objs.size + 1) s.heap.objs.size 0 .none := by
    have e := Heap.get?_push_size (s.heap.push o) (o := { cls := .type "enumerate", data := .fields #[.none, .bool false, .ref s.heap.objs.size, rawInt 0, .none, .none] }) rfl
    rw [hz] at e
    exact e
  exact ⟨⟨_, he, rfl⟩, h _ he (Heap.get?_push_of_some _ (Heap.get?_push_size _ B.free)) (by rw [Heap.size_push, hz]) fun b u x => Heap.get?_push_of_some _ (Heap.get?_push_of_some _ x)⟩
end PDZ
end PySem
namespace PD
open PySem PySem.Spec PyProof.Rows L2 PySem.PDZ
/-- the tuple at a, its items in new pairs -/
def Itt2 (K : PySem.W.Frag) (a : Addr) (n : Nat) : It :=
  ⟨fun i H => ∃ (xs : List V) (x : V), SqT K H a xs ∧ xs.length = n ∧ xs[i]? = some x, fun i H v H' => ∃ T x, v = .ref T ∧ H T = none ∧ H' = upd H T (.tup [.int (i : Nat), x]) ∧ ∀ xs, SqT K H a xs → xs[i]? = some x, fun i H => ∃ xs : List V, SqT K H a xs ∧ xs.length = n ∧ n ≤ i⟩
theorem tup_inj {X : Cx} {pins : List (Addr × Obj)} {σ : L2.St} {H : Hp} {s : Shared} (I : Inv X pins σ H s) {a : Addr} {xs ys : List V} (h : SqT X.K H a xs) (h' : SqT X.K H a ys) : xs = ys := I.tuple_inj h h'
theorem _root_.L2.Inv.turned2 {X : Cx} {pins : List (Addr × Obj)} {σ : L2.St} {H : Hp} {s : Shared} {h' : Heap} {t' : Nat} {ch : List Addr} (I : Inv X pins σ H s) (hk : ∀ b o, b ∉ ch → s.heap.get? b = some o → h'.get? b = some o) (hf : ∀ b ∈ ch, FpOk X pins H b) : Inv X pins σ H { s with heap := h', toks := t' } := by
  have apart : ∀ b u, H b = some u → b ∉ ch := fun b u e z => by
    rw [(hf b z).1] at e
    cases e
  have lives : ∀ b o, b ∉ ch → s.heap.get? b = some o → ∃ o', h'.get? b = some o' := fun b o hc e => ⟨o, hk b o hc e⟩
  refine I.step (g' := s.gens) (d' := s.drawn) (ch := ch) (fun b hb => ?_) (fun b o _ _ hc e _ => hk b o hc e) (fun b o _ _ hc e _ => ⟨o.slots, hk b o hc e⟩) (fun _ _ _ _ n => n) lives (fun _ _ e => e) (fun _ _ _ e => e) (fun b ps e => ⟨#[], by simp [e]⟩) (fun m hm => ?_) (fun b u e => ?_) I.bare
  · obtain ⟨q1, q2, q3, q4, q5, q6⟩ := hf b hb
    exact ⟨q4, q2, q5, q6⟩
  · obtain ⟨o, es, ep, ho, r⟩ := hm
    refine ⟨o, es, ep, hk _ o (fun z => ?_) ho, r⟩
    exact (hf _ z).2.1 rfl
  · exact (I.hok b u e).stay (fun c v hc q => hk c v (hc.elim (fun z => by rw [z]; exact apart b u e) fun z => apart c _ z) q) (fun _ q => q) (fun _ _ q => q)
theorem turn_enumT {P : Program} {w : World} {K : PySem.W.Frag} {elts : List Expr} {kk : Nat} {tpos : Pos} (a e it : Addr) (n : Nat) :
    Turn P w K (.Tuple elts kk tpos) (Itt2 K a n) [e, it] e (fun i h => (∃ old, IsEnum h e it ((0 : Int) + ((i : Nat) : Int)) old) ∧ h.IsTupleIter it a i ∧ e ≠ it ∧ i ≤ n) where
  mem := by simp
  obj := fun i h st b hb => by
    obtain ⟨⟨old, he⟩, ⟨o, ho, hc, hd⟩, _, _⟩ := st
    have e' : b = e ∨ b = it := by simpa using hb
    rcases e' with z | z
    · rw [z]; exact ⟨_, he, fun v q => nomatch q⟩
    · rw [z]; exact ⟨o, ho, fun v q => by rw [hd] at q; cases q⟩
  keep := fun i h h' st k => let ⟨⟨old, he⟩, hi, hne⟩ := st; ⟨⟨old, k e (by simp) _ he⟩, hi.at fun o q => k it (by simp) o q, hne⟩
  item := by
    intro X hP hw hK hc i pins s σ H E I hf st hg
    subst hP hw hK
    obtain ⟨⟨old, he⟩, hit, hne, hin⟩ := st
    obtain ⟨xs, x, hq, hxn, hx⟩ := hg
    obtain ⟨its, rv, p, hz⟩ := I.tuple hq
    obtain ⟨u, hu, ru⟩ := rv.get hx
    have hel : e < s.heap.objs.size := Heap.lt_size he
    have hil : it < s.heap.objs.size := by obtain ⟨_, q, _⟩ := hit; exact Heap.lt_size q
    have hea : e ≠ a := fun z => by
      obtain ⟨o, ho, hc', _⟩ := p
      rw [← z, he] at ho
      cases ho
      exact absurd (Value.type.inj hc') (by decide)
    have hia : a ≠ it := fun z => by
      obtain ⟨o, ho, hc', _⟩ := p
      obtain ⟨o2, ho2, hc2, _⟩ := hit
      rw [z, ho2] at ho
      cases ho
      rw [hc2] at hc'
      exact absurd hc' (by decide)
    have G := GoesN.enumFrom (elts := elts) (x1 := kk) (pos := tpos) 0 (Draws.tuple (prog := X.prog) (w := X.w) (A := X.A.in1) (I.ok.hd hc) it a hia its.toArray) e hne (by simp; exact ⟨hne, hea⟩) (by simp)
    have hl : i < its.toArray.size := by
      have := (List.getElem?_eq_some_iff.mp hu).1
      simpa using this
    refine wpAny_mono (G.goes i s (fun v s2 => ∃ x' H', Inv X pins σ H' s2 ∧ RelV x' v ∧ (Itt2 X.K a n).yld i H x' H' ∧ ((∃ old, IsEnum s2.heap e it ((0 : Int) + ((i + 1 : Nat) : Int)) old) ∧ s2.heap.IsTupleIter it a (i + 1) ∧ e ≠ it ∧ i + 1 ≤ n) ∧ ∀ b ∈ [e, it], H' b = none) E hl ⟨⟨old, he⟩, hit, p⟩ fun v h' tk hY st' hk htk => ?_) (fun r s1 h => h) (fun _ _ h => h)
    obtain ⟨T, t, y, rfl, hT, hy, hTT⟩ := hY
    have ey : y = u := by
      have h1 : its[i]? = some y := by simpa using hy
      rw [hu] at h1
      cases h1
      rfl
    subst ey
    obtain ⟨⟨old', he'⟩, hit', _⟩ := st'
    have hi0 : (0 : Int) + ((i : Nat) : Int) = ((i : Nat) : Int) := by omega
    rw [hi0] at hTT
    have new : ObjOk X.prog X.w (upd H T (.tup [.int (i : Nat), x])) h' T (.tup [.int (i : Nat), x]) :=
      ⟨by rw [sizeLine_eq]; exact (by decide : 2 ≤ 16777216), [.int i t, y], .cons ⟨_, rfl⟩ (.cons ru .nil), hTT⟩
    have I1 : Inv X pins σ (upd H T (.tup [.int (i : Nat), x])) { s with heap := h', toks := tk } :=
      I.turnedNew (ch := [e, it]) (fun b ob hb q => hk b ob hb q) hf hT new
    refine ⟨.ref T, _, I1, rfl, ⟨_, x, rfl, I.hok.fresh hT, rfl, fun ys hy => by rw [tup_inj I hy hq]; exact hx⟩, ⟨⟨old', he'⟩, hit', hne, by have := (List.getElem?_eq_some_iff.mp hx).1; omega⟩, fun b hb => ?_⟩
    have hb' : b < s.heap.objs.size := by
      have e' : b = e ∨ b = it := by simpa using hb
      rcases e' with z | z
      · rw [z]; exact hel
      · rw [z]; exact hil
    rw [upd_ne (Nat.ne_of_lt (Nat.lt_of_lt_of_le hb' hT))]
    exact (hf b hb).1
  done := by
    intro X hP hw hK hc i pins s σ H E I hf st hg
    subst hP hw hK
    obtain ⟨⟨old, he⟩, hit, hne, hin⟩ := st
    obtain ⟨xs, hq, hxn, hx⟩ := hg
    obtain ⟨its, rv, p, hz⟩ := I.tuple hq
    have hea : e ≠ a := fun z => by
      obtain ⟨o, ho, hc', _⟩ := p
      rw [← z, he] at ho
      cases ho
      exact absurd (Value.type.inj hc') (by decide)
    have hia : a ≠ it := fun z => by
      obtain ⟨o, ho, hc', _⟩ := p
      obtain ⟨o2, ho2, hc2, _⟩ := hit
      rw [z, ho2] at ho
      cases ho
      rw [hc2] at hc'
      exact absurd hc' (by decide)
    have G := GoesN.enumFrom (elts := elts) (x1 := kk) (pos := tpos) 0 (Draws.tuple (prog := X.prog) (w := X.w) (A := X.A.in1) (I.ok.hd hc) it a hia its.toArray) e hne (by simp; exact ⟨hne, hea⟩) (by simp)
    have hl : i = its.toArray.size := by
      have := rv.length
      have : its.toArray.size = its.length := by simp
      omega
    subst hl
    exact wpAny_mono (G.stops s (fun s1 => Inv X pins σ H s1) E ⟨⟨old, he⟩, hit, p⟩ fun h' tk hk _ => I.turned2 hk hf) (fun r s1 h => h) (fun _ _ h => h)
  self := fun A i s Q E st h => let ⟨⟨_, he⟩, _⟩ := st; wpAny_pyIter_enum he h
def gEnumT : List D → Option (List D)
  | [.tuple ds] => some (enumD 0 ds)
  | _ => none
def enumTI (m : MA) : MA := fun ρ μ => (m ρ μ).bind fun p => (gEnumT p.1).map fun ds => (ds, p.2)
section
variable {X : Cx} {T : List (Addr × Str)} {Φ : Fx} {B : Nat → Bool} {a : Expr} {mas : MA} {p pos : Pos}
theorem pi_enT {es : List Expr} {kk : Nat} {tpos : Pos} (hg : Gl X "enumerate") (hm : X.mg "enumerate" = none) (ha : PDa X T Φ B [a] mas) (hs : starEach [a] X.env = [(false, eval a X.env)] := by rfl) : PDi X T Φ B (.Tuple es kk tpos) (.Call (.Name "enumerate" p) [a] [] pos) (enumTI mas) := by
  refine ⟨fun pins s σ H R' I ⟨A, Z, ρ, μ, d, μ', R, hmm, k⟩ => ?_⟩
  unfold enumTI at hmm
  cases e : mas ρ μ with
  | none => rw [e] at hmm; cases hmm
  | some w =>
    rw [e, Option.bind_some] at hmm
    obtain ⟨as, μ1⟩ := w
    cases e2 : gEnumT as with
    | none => rw [e2] at hmm; cases hmm
    | some q =>
      rw [e2] at hmm
      cases hmm
      unfold gEnumT at e2
      split at e2
      · rename_i ds'
        cases e2
        refine Call_ (ld_blt I hg hm boot_enumerate (PyProof.Rows.callWith_type1 (thn (ha.run pos pins s σ H (fun vs H1 => Fw (Wr B ρ A) H H1 ∧ Rep X.K T Φ A Z σ H1 ρ μ1 ∧ RpA X.K (hid H1 (Zw B ρ A Z)) vs [.tuple ds']) I ⟨A, Z, ρ, μ, _, μ1, R, e, fun vs H1 f1 R1 p1 => ⟨f1, R1, p1⟩⟩) fun us s1 ⟨vs, H1, I1, r1, f1, R1, p1⟩ => ?_) hs rfl))
        obtain ⟨v, _, rfl, ⟨l, xs, rfl, k1, k2⟩, rfl⟩ := p1
        cases r1 with
        | cons r rr =>
          cases rr
          cases r
          have k1' : SqT X.K H1 l xs := hid_sqT k1
          obtain ⟨its, rv, pt, hz⟩ := I1.tuple k1'
          refine call_enum1 (begins_tuple l its.toArray) pt fun h' he hit hsz hk => wpAny_pyIter_enum he ?_
          have I2 : Inv X pins σ H1 { s1 with heap := h' } := I1.kept (t' := s1.toks) hk
          refine ⟨s1.heap.objs.size + 1, [s1.heap.objs.size + 1, s1.heap.objs.size], _, _, H1, rfl, I2, turn_enumT l (s1.heap.objs.size + 1) s1.heap.objs.size xs.length, ⟨⟨.none, he⟩, ⟨_, hit, rfl, rfl⟩, Nat.succ_ne_self _, Nat.zero_le _⟩, fun b hb => ?_, k _ H1 f1 R1 fun H2 Z2 hz2 xt => ⟨fun i hi => ⟨xs, sqT_le xt k1, rfl, by rw [k2.length]; rw [enumD_length] at hi; exact hi⟩, fun i d hd => ?_⟩⟩
          · have e' : b = s1.heap.objs.size + 1 ∨ b = s1.heap.objs.size := by simpa using hb
            have hle : s1.heap.objs.size ≤ b := by
              rcases e' with z | z
              · rw [z]; exact Nat.le_add_right _ _
              · rw [z]; exact Nat.le_refl _
            exact I1.fpOk hle (I1.hok.fresh hle)
          · rw [enumD_get, Nat.zero_add] at hd
            cases ed : ds'[i]? with
            | none => rw [ed] at hd; cases hd
            | some d' =>
              rw [ed] at hd
              have hd : PyData.tuple [.int ((i : Nat) : Int), d'] = d := Option.some.inj hd
              subst hd
              obtain ⟨v, e1, p1⟩ := k2.get ed
              refine ⟨⟨xs, v, sqT_le xt k1, rfl, e1⟩, fun x H' ⟨t, x', ex, ht, eH, hx⟩ => ?_⟩
              have := hx xs (sqT_le xt k1)
              rw [e1] at this
              cases this
              subst ex eH
              exact ⟨same_upd ht, rp_new_tup hz2 ht ⟨_, _, rfl, rfl, _, _, rfl, Rp.mono xt _ _ p1, rfl⟩⟩
      · cases e2
end
end PD
end
section
set_option linter.all false
set_option maxRecDepth 100000
set_option maxHeartbeats 4000000
/-! P19: texts, lists, tuples repeated. -/
namespace PD
open PySem PySem.Spec PyProof.Rows L2

def strRep (z : Str) (k : Nat) : Str := ⟨(List.replicate k z.cps).foldl (· ++ ·) #[]⟩
def rRepS : R2 := fun x y H Q => ∃ z k, x = .str z ∧ y = .int k ∧ 2 ≤ k ∧ k ≤ 1000 ∧ 1 ≤ z.length ∧ z.length ≤ 1000 ∧ Q (.str (strRep z k.toNat)) H
theorem fold_size {α : Type} (a : Array α) : ∀ (k : Nat) (b : Array α), ((List.replicate k a).foldl (· ++ ·) b).size = b.size + k * a.size
  | 0, b => by simp
  | k + 1, b => by
    rw [List.replicate_succ, List.foldl_cons, fold_size a k, Array.size_append, Nat.succ_mul]
    omega
theorem strRep_len (z : Str) (k : Nat) : (strRep z k).length = k * z.length := by
  have e := fold_size z.cps k #[]
  simpa [strRep, Str.length] using e
section
variable {X : Cx}
theorem op_repS : OpR X (binaryOp .Mult) rRepS := by
  intro pins s σ H x y v u Q I rx ry h
  obtain ⟨z, k, rfl, rfl, h1, h2, h3, h4, q⟩ := h
  obtain ⟨t, rfl⟩ := rx
  obtain ⟨t2, rfl⟩ := ry
  have e1 : ¬ k < 1 := by omega
  have e2 : (k == 1 || z.length == 0) = false := by
    have a : ¬ k = 1 := by omega
    have b : ¬ z.length = 0 := by omega
    simp [a, b]
  refine PySem.P.mul_str ?_ (fun _ _ => ?_) (fun _ _ => ?_) ?_
  · have a : ¬ k < -(2 ^ 63 : Int) := by omega
    have b : ¬ k ≥ 2 ^ 63 := by omega
    rw [decide_eq_false a, decide_eq_false b]; rfl
  · have m : (z.length : Int) * k ≤ 1000 * 1000 := Int.mul_le_mul (by omega) h2 (by omega) (by omega)
    have le : (z.length : Int) ≤ (2 ^ 63 - 1) / k := Int.le_ediv_of_mul_le (by omega) (by omega)
    omega
  · have m : z.length * k.toNat ≤ 1000 * 1000 := Nat.mul_le_mul h4 (by omega)
    show decide (z.length * k.toNat > sizeLine) = false
    rw [sizeLine_eq]
    exact decide_eq_false (by omega)
  · rw [if_neg e1, e2]
    refine ⟨?_, ⟨.str _, H, I.tok _, ⟨_, rfl⟩, q⟩⟩
    have m : k.toNat * z.length ≤ 1000 * 1000 := Nat.mul_le_mul (by omega) h4
    have l := strRep_len z k.toNat
    have e : (strRep z k.toNat).length ≤ sizeLine := by rw [l, sizeLine_eq]; omega
    exact e
end
def gMulS : G2
  | .str z, .int k => if 2 ≤ k ∧ k ≤ 1000 ∧ 1 ≤ z.length ∧ z.length ≤ 1000 then some (.str (strRep z k.toNat)) else none
  | .tuple ds, .int k => if 2 ≤ k ∧ k ≤ 1000 ∧ 1 ≤ ds.length ∧ ds.length ≤ 1000 then some (.tuple (List.replicate k.toNat ds).flatten) else none
  | _, _ => none
def rMulS (K : PySem.W.Frag) : R2 := fun x y H Q => rRepS x y H Q ∨ rRepT K x y H Q
section
variable {X : Cx} {T : List (Addr × Str)} {Φ : Fx} {B : Nat → Bool} {a b : Expr} {ma mb : ME} {mf : MA} {pos : Pos}
theorem or_mulS : OpR X (binaryOp .Mult) (rMulS X.K) := OpR.or op_repS op_repT
theorem rd_mulS {K : PySem.W.Frag} : RD K (rMulS K) gMulS := fun H Z x y d1 d2 d Q hz h1 h2 hg k => by
  unfold gMulS at hg
  split at hg
  · split at hg
    · rename_i hm
      cases hg
      exact .inl ⟨_, _, h1, h2, hm.1, hm.2.1, hm.2.2.1, hm.2.2.2, k _ H (Same.refl H) rfl⟩
    · cases hg
  · rename_i ds kk
    split at hg
    · rename_i hm
      cases hg
      obtain ⟨l, xs, rfl, k1, k2⟩ := h1
      have hl := k2.length
      refine .inr ⟨l, kk, xs, rfl, h2, hid_sqT k1, fun z => ?_, hm.1, hm.2.1, by omega, fun p hp => k _ _ (same_upd hp) (rp_new_tup hz hp (RpA.rep k2 _))⟩
      rw [z] at hl
      have : ds.length = 0 := by simpa using hl.symm
      omega
    · cases hg
  · cases hg
theorem o_mulS (ha : PDe X T Φ B a ma) (hb : PDe X T Φ B b mb) : PDe X T Φ B (.BinOp a .Mult b pos) (e2 gMulS ma mb) := pd_op or_mulS rd_mulS ha hb
/-- a new list repeated -/
def mRep (mf : MA) (mb : ME) : MA := fun ρ μ => (mf ρ μ).bind fun p => (mb ρ p.2).bind fun q => match q.1 with
  | .int k => if -(2 ^ 63) ≤ k ∧ k < 2 ^ 63 ∧ p.1.length * k.toNat ≤ sizeLine then some ((List.replicate k.toNat p.1).flatten, q.2) else none
  | _ => none
theorem pf_rep (ha : PDf X T Φ B a mf) (hb : PDe X T Φ B b mb) : PDf X T Φ B (.BinOp a .Mult b pos) (mRep mf mb) := PE.cons (pe_op op_rep ha hb) fun σ H Q ⟨A, Z, ρ, μ, ds, μ', R, hm, k⟩ => by
  unfold mRep at hm
  cases e1 : mf ρ μ with
  | none => rw [e1] at hm; cases hm
  | some p =>
    rw [e1, Option.bind_some] at hm
    cases e2 : mb ρ p.2 with
    | none => rw [e2] at hm; cases hm
    | some q =>
      rw [e2, Option.bind_some] at hm
      split at hm
      · rename_i kk ek
        split at hm
        · rename_i hc
          cases hm
          refine ⟨A, Z, ρ, μ, p.1, p.2, R, e1, fun l vs H1 f1 nz R1 n0 h1 h2 => ⟨A, fun x => Z x ∨ x = l, ρ, p.2, q.1, q.2, R1, e2, fun y H2 f2 R2 p2 => ?_⟩⟩
          rw [ek] at p2
          have p2 : y = .int kk := p2
          have nA : l ∉ A := (R1.zo l (.inr rfl)).1
          have h3 := f2.keep l _ h1 (fun z => nA z.mem) (fun ps z => by cases z)
          have h4 : RpA X.K (hid H2 (Zw B ρ A fun x => Z x ∨ x = l)) vs p.1 := RpA.mono (fw_xt f2) _ _ h2
          refine ⟨l, kk, vs, rfl, p2, h3, hc.1, hc.2.1, by rw [h4.length]; exact hc.2.2, fun l2 hl2 => ?_⟩
          have R3 := R2.weakZ (Z' := Z) fun _ z => .inl z
          exact tF_new (B := B) (f1.trans f2) R3 hl2 (RpA.mono (hid_le fun x z => z.elim (fun z => .inl (.inl z)) .inr) _ _ (RpA.rep h4 _)) k
        · cases hm
      · cases hm
end
end PD
end
section
set_option linter.all false
set_option maxRecDepth 100000
set_option maxHeartbeats 4000000
/-! P20: defs that may be handed functions, lambdas: packed. -/
namespace PD
open PySem PySem.Spec PyProof.Rows L2 NdefX LamX

structure Ho (P : Program) (w : World) (K : PySem.W.Frag) (mg : Str → Option Value) (base : Heap) (T : List (Addr × Str)) (k kk : Nat) (x : Str) (ps : List Str) (n : Nat) (F : FD) : Prop where
  ex : ∃ (f : Addr) (fd : FuncData), HoOk P w K mg base T kk k f fd ps F ∧ mg x = some (.ref f) ∧ PySem.W.keepIn K (.ref f) = true ∧ Binds K fd ps []
  len : ps.length = n
section
variable {P : Program} {w : World} {K : PySem.W.Frag} {mg : Str → Option Value} {base : Heap} {T : List (Addr × Str)}
theorem ho_def {x qual : Str} {st : Stmt} {f : Addr} {N ps : List Str} {k kk n : Nat} {m : MS} (F : ∃ fd, FunD K x qual (defArgs st) (defBody st) (defScope st) [] [] f fd) (hm : mg x = some (.ref f)) (S : FnScope N ps (defScope st)) (hn : ps.length = n)
    (hbi : ∀ (kV doc pm : Value) (an : Option Addr) (cdv ct : Value) (us : List Value), us.length = ps.length → bindArgs (PySem.W.fnOf x qual (defArgs st) (defBody st) (defScope st) .none kV doc pm an cdv ct) ⟨us, []⟩ = pure (ps.zip us))
    (hb : ∀ (cd : Value), cd = codeV K f → ∀ (A : Around) (outer : List Env) (s : Shared) (H : Hp) (Φ : Fx), Room k (CtxF P w K mg base N qual (defScope st) f cd A outer s H E0).A → FxX (CtxF P w K mg base N qual (defScope st) f cd A outer s H E0) T kk Φ →
      PDss (CtxF P w K mg base N qual (defScope st) f cd A outer s H E0) T Φ (defBody st) m) :
    Ho P w K mg base T (k + 1) kk x ps n (bodyF (N.length - n) m) := by
  obtain ⟨fd, F⟩ := F
  subst hn
  exact ⟨⟨f, fd, ho_of (fun_D F) S hb, hm, F.kp, F.bindsN hbi⟩, rfl⟩
end
section
variable {X : Cx} {T : List (Addr × Str)} {Φ : Fx} {B : Nat → Bool} {a b : Expr} {es : List Expr} {ma mb : ME} {ml : MF} {pos p : Pos} {k j kk n : Nat} {F : FD} {x : Str} {ps : List Str}
theorem pd_h (D : Ho X.prog X.w X.K X.mg X.base T j kk x ps n F) (hr : Room k X.A) (hg : Gl X x) (ha : PL X T Φ B kk (a :: es) ml) (hj : j ≤ k := by decide)
    (hdb : (x == ("__debug__" : Str)) = false := by decide) (he : starEach (a :: es) X.env = (false, eval a X.env) :: starEach es X.env := by rfl) (hpl : (backTo pos (starEach es X.env)).any (·.1) = false := by rfl) :
    PDe X T Φ B (.Call (.Name x p) (a :: es) [] pos) (eHo n F ml) := by
  obtain ⟨f, fd, G, hm, hk, hb⟩ := D.ex
  exact pd_ho G (hr.mono hj) hg hm hk hb ha D.len hdb he hpl
/-- the tables' names are told apart -/
def TU (T : List (Addr × Str)) : Prop := ∀ p ∈ T, ∀ q ∈ T, p.1 = q.1 → p.2 = q.2
theorem pl_l {kb kΦ : Nat} {c P : Addr} {params : Arguments} {body : Expr} {scope : Scope} {lpos : Pos} (N qs fr : List Str) (js : List Nat) {mb : ME} (hex : X.ex = []) (TB : TabB X.base X.mg c P) (hcode : X.env.code = .ref c) (hm : (P, X.env.qual ++ "<lambda>") ∈ T) (hu : TU T)
    (hdef : defaultsOf params X.env = ([], [])) (hfree : ndefB X.env.scope scope fr = true) (hjs : js.map (fun j => X.N[j]?) = fr.map some) (S : nscB N qs fr scope = true) (hl : js.length = fr.length)
    (hbind : ∀ (q : Str) (cl : List (Str × Addr)) (pm cv ctv : Value) (us : List Value), us.length = qs.length → bindArgs (PySem.W.kla_fn "<lambda>" q params body scope cl pm cv ctv) ⟨us, []⟩ = pure (qs.zip us)) (hΦ : FxX X T kΦ Φ)
    (hb : ∀ (f c' : Addr) (cl : List (Str × Addr)) (A : Around) (outer : List Env) (s1 : Shared) (H1 : Hp), Room kb (LamC X N params scope f c' cl A outer s1 H1).A → FxX (LamC X N params scope f c' cl A outer s1 H1) T kΦ Φ → PDe (LamC X N params scope f c' cl A outer s1 H1) T Φ B0 body mb) :
    PL X T Φ B (kb + 1) [.Lambda params body scope lpos] (lLam qs.length (N.length - qs.length - fr.length) js mb) :=
  pl_lam hex TB hcode hm (fun q hq e => hu q hq _ hm e) hdef (ndef_free hfree) (ndef_fr hfree) hjs (nscope_by S) hl hbind hΦ hb
theorem pl_d {qual : Str} {st : Stmt} (D : Def X.prog X.w X.K X.mg X.base T j x qual st ps n F) (hr : j ≤ kk) (hg : Gl X x) (hd : (x == ("__debug__" : Str)) = false := by decide) : PL X T Φ B kk [.Name x p] (lFn (fnG n F)) := by
  obtain ⟨f, fd, G, hm, hk, hb, Fu⟩ := D.ex
  exact pl_fn G Fu hr hg hm hb hd
/-! orders by all data, sorted -/
theorem c_ltD (hr : Room k X.A) (ha : PDe X T Φ B a ma) (hb : PDe X T Φ B b mb) : PDe X T Φ B (.Compare a [.Lt] [b] pos) (e2 (gCmpD PySem.W.dataLt) ma mb) := pd_cmp (or_ltD (hu_of hr)) rd_cmpD ha hb
theorem c_geD (hr : Room k X.A) (ha : PDe X T Φ B a ma) (hb : PDe X T Φ B b mb) : PDe X T Φ B (.Compare a [.GtE] [b] pos) (e2 (gCmpD fun d e => !PySem.W.dataLt d e) ma mb) := pd_cmp (or_geD (hu_of hr)) rd_cmpD ha hb
theorem t_ltD (hr : Room k X.A) (ha : PDe X T Φ B a ma) (hb : PDe X T Φ B b mb) : PDt X T Φ B (.Compare a [.Lt] [b] pos) (tV (e2 (gCmpD PySem.W.dataLt) ma mb)) := pt_cmp (or_ltD (hu_of hr)) rd_cmpD ha hb
theorem t_geD (hr : Room k X.A) (ha : PDe X T Φ B a ma) (hb : PDe X T Φ B b mb) : PDt X T Φ B (.Compare a [.GtE] [b] pos) (tV (e2 (gCmpD fun d e => !PySem.W.dataLt d e) ma mb)) := pt_cmp (or_geD (hu_of hr)) rd_cmpD ha hb
theorem b_sorted (hr : Room k X.A) (hm : X.mg "sorted" = none) (hg : Gl X "sorted") {mas : MA} (ha : PDa X T Φ B (a :: es) mas) (he : starEach (a :: es) X.env = (false, eval a X.env) :: starEach es X.env := by rfl) (hpl : (backTo pos (starEach es X.env)).any (·.1) = false := by rfl) :
    PDe X T Φ B (.Call (.Name "sorted" p) (a :: es) [] pos) (eL (gl1 gSort) mas) := pd_callB (cr_sortD (hu_of hr)) rl_sortD hg hm (by decide +kernel) ha (by decide) (by decide) he hpl
end
end PD
end
section
set_option linter.all false
set_option maxRecDepth 100000
set_option maxHeartbeats 4000000
/-! P21: constants of the module. -/
namespace PD
open PySem PySem.Spec PyProof.Rows L2

mutual
/-- the value u is the datum d, all of it in the written part -/
def kV (K : PySem.W.Frag) (u : Value) : D → Bool
  | .none => match u with
    | .none => true
    | _ => false
  | .bool b => match u with
    | .bool c => b == c
    | _ => false
  | .int i => match u with
    | .int j _ => decide (i = j)
    | _ => false
  | .str x => match u with
    | .str y _ => decide (x = y)
    | _ => false
  | .tuple ds => match u with
    | .ref a => (match K.lookup a with
      | some ⟨.type c, _, .seq its _, _⟩ => decide (c = "tuple") && (decide (its.size ≤ sizeLine) && kVA K its.toList ds)
      | _ => false)
    | _ => false
  | .list _ => false
  | .dict _ => false
def kVA (K : PySem.W.Frag) (us : List Value) : List D → Bool
  | [] => us.isEmpty
  | d :: ds => match us with
    | u :: r => kV K u d && kVA K r ds
    | [] => false
end
section
variable {K : PySem.W.Frag}
mutual
theorem kV_ok : ∀ (d : D) (u : Value), kV K u d = true → ∃ v, RelV v u ∧ ∀ H, Rp K H v d
  | .none, u, h => by
    unfold kV at h
    split at h
    · exact ⟨.non, rfl, fun _ => rfl⟩
    · cases h
  | .bool b, u, h => by
    unfold kV at h
    split at h
    · exact ⟨.bl b, by rw [beq_iff_eq.mp h]; rfl, fun _ => rfl⟩
    · cases h
  | .int i, u, h => by
    unfold kV at h
    split at h
    · exact ⟨.int i, ⟨_, by rw [of_decide_eq_true h]⟩, fun _ => rfl⟩
    · cases h
  | .str x, u, h => by
    unfold kV at h
    split at h
    · exact ⟨.str x, ⟨_, by rw [of_decide_eq_true h]⟩, fun _ => rfl⟩
    · cases h
  | .tuple ds, u, h => by
    unfold kV at h
    split at h
    · rename_i a
      split at h
      · rename_i c od its n sl e
        obtain ⟨h1, h⟩ := Bool.and_eq_true_iff.mp h
        obtain ⟨h2, h3⟩ := Bool.and_eq_true_iff.mp h
        obtain ⟨vs, r, p⟩ := kVA_ok ds _ h3
        refine ⟨.ref a, rfl, fun H => ⟨a, vs, rfl, .inr ⟨_, its, n, e, by rw [of_decide_eq_true h1], rfl, of_decide_eq_true h2, r⟩, p H⟩⟩
      · cases h
    · cases h
  | .list _, _, h => by simp [kV] at h
  | .dict _, _, h => by simp [kV] at h
theorem kVA_ok : ∀ (ds : List D) (us : List Value), kVA K us ds = true → ∃ vs, Vals vs us ∧ ∀ H, RpA K H vs ds
  | [], us, h => by
    unfold kVA at h
    rw [List.isEmpty_iff.mp h]
    exact ⟨[], .nil, fun _ => rfl⟩
  | d :: ds, us, h => by
    unfold kVA at h
    split at h
    · obtain ⟨h1, h2⟩ := Bool.and_eq_true_iff.mp h
      obtain ⟨v, r1, p1⟩ := kV_ok d _ h1
      obtain ⟨vs, r2, p2⟩ := kVA_ok ds _ h2
      exact ⟨v :: vs, .cons r1 r2, fun H => ⟨v, vs, rfl, p1 H, p2 H⟩⟩
    · cases h
end
end
/-- x is the constant d -/
def Cst (K : PySem.W.Frag) (mg : Str → Option Value) (x : Str) (d : D) : Prop := ∃ v u, mg x = some u ∧ RelV v u ∧ ∀ H, Rp K H v d
def cstB (K : PySem.W.Frag) (x : Str) (d : D) : Bool := match PySem.W.nsIn K mainGlobals x with
  | some (some u) => kV K u d
  | _ => false
theorem pd_cst {X : Cx} {T : List (Addr × Str)} {Φ : Fx} {B : Nat → Bool} {x : Str} {d : D} {pos : Pos} (hg : Gl X x) (c : Cst X.K X.mg x d) (hd : (x == ("__debug__" : Str)) = false := by decide) : PDe X T Φ B (.Name x pos) (eC d) := by
  obtain ⟨v, u, hm, r, hp⟩ := c
  exact pd_glob hg hm r hp hd
end PD
end
section
set_option linter.all false
set_option maxRecDepth 100000
set_option maxHeartbeats 4000000
/-! P22: two names stored at once; a def that calls itself. -/
namespace PD
open PySem PySem.Spec PyProof.Rows L2

def sPar (B : Nat → Bool) (i j : Nat) (mas : MA) : MS := fun _ ρ μ => (mas ρ μ).bind fun p => match p.1 with
  | [d1, d2] => if (∀ k, k < ρ.length → B k = false) ∨ (flat d1 && flat d2) = true then some (.next ((ρ.set i (.val d1)).set j (.val d2)) p.2) else none
  | _ => none
section
variable {X : Cx} {T : List (Addr × Str)} {Φ : Fx} {a b : Expr} {mas : MA} {pos : Pos}
theorem s_par (B : Nat → Bool) (i j : Nat) {x y : Str} {px py pt : Pos} {kt k2 pt2} (hc : X.calm = true) (hN : X.N.Nodup) (ha : PDa X T Φ B [a, b] mas) (hij : i ≠ j := by decide) (hi : X.N[i]? = some x := by rfl) (hj : X.N[j]? = some y := by rfl)
    (hx : X.env.scope.names.lookup x = some .local := by rfl) (hy : X.env.scope.names.lookup y = some .local := by rfl)
    (hw : swappedStores [.Tuple [.Name x px, .Name y py] kt pt] (.Tuple [a, b] k2 pt2) X.env = pure (some [x, y]) := by rfl)
    (hs : swapsWithSole [.Tuple [.Name x px, .Name y py] kt pt] (.Tuple [a, b] k2 pt2) pos.line X.env = pure false := by rfl) :
    PDs X T Φ (.Assign [.Tuple [.Name x px, .Name y py] kt pt] (.Tuple [a, b] k2 pt2) pos) (sPar B i j mas) := PS.cons (ps_par hc hN hi hj hij hx hy ha hw hs) fun Dn σ H ⟨A, Z, n0, ρ, μ, fl, R, hn, hm, k⟩ => by
  unfold sPar at hm
  cases e : mas ρ μ with
  | none => rw [e] at hm; cases hm
  | some p =>
    rw [e, Option.bind_some] at hm
    split at hm
    · rename_i d1 d2 ed
      split at hm
      · rename_i hb
        cases hm
        refine ⟨A, Z, ρ, μ, p.1, p.2, R, e, fun vs H1 f1 R1 p1 => ?_⟩
        rw [ed] at p1
        obtain ⟨v, _, rfl, q1, w, _, rfl, q2, rfl⟩ := p1
        have see : ∀ {v : V} {d : D}, ((∀ k, k < ρ.length → B k = false) ∨ flat d = true) → Rp X.K (hid H1 (Zw B ρ A Z)) v d → Rp X.K (hid H1 fun a => Z a ∨ a ∈ A) v d := fun {v d} h q => by
          rcases h with h | h
          · refine Rp.mono (hid_le fun x z => ?_) _ _ q
            rcases z with z | z
            · exact .inl z
            · obtain ⟨kk, hk⟩ := List.mem_iff_getElem?.mp z
              refine .inr ⟨kk, hk, fun ⟨i, hB, ei⟩ => ?_⟩
              rw [h i (List.getElem?_eq_some_iff.mp ei).1] at hB
              cases hB
          · refine Rp.ofFlat (fun a xs h => ?_) _ _ h q
            have q := hid_rd h
            refine hid_rd_of q.1 ?_
            rintro (z | z)
            · exact q.2 (.inl z)
            · obtain ⟨vs, e, co⟩ := R1.cellAt z
              rcases q.1 with w | ⟨o, w⟩ <;> rw [e] at w <;> cases w <;> cases co
        have h1 : (∀ k, k < ρ.length → B k = false) ∨ flat d1 = true := hb.imp_right fun z => (Bool.and_eq_true_iff.mp z).1
        have h2 : (∀ k, k < ρ.length → B k = false) ∨ flat d2 = true := hb.imp_right fun z => (Bool.and_eq_true_iff.mp z).2
        exact ⟨v, w, rfl, k _ H1 A (Fs.of (f1.mono fun _ h => h.mem)) ((R1.setVal i (see h1 q1)).setVal j (see h2 q2))⟩
      · cases hm
    · cases hm
end
section
variable {X : Cx} {T : List (Addr × Str)} {Φ : Fx} {B : Nat → Bool} {a : Expr} {ma : ME} {pos pos' : Pos} {j : Nat}
theorem t_isN (ha : PDe X T Φ B a ma) : PDt X T Φ B (.Compare a [.Is] [.Constant .none j pos'] pos) (tV (e1 gIsN ma)) := PT.cons (L2.pt_cmp (pc_isN ha)) fun σ H Q ⟨A, Z, ρ, μ, d, μ', R, hm, k⟩ => by
  have hm := tV_some hm
  unfold e1 at hm
  cases e : ma ρ μ with
  | none => rw [e] at hm; cases hm
  | some p =>
    rw [e, Option.bind_some] at hm
    refine ⟨A, Z, ρ, μ, p.1, p.2, R, e, fun x H1 f1 R1 p1 => ?_⟩
    dsimp only
    rw [rp_none p1]
    cases hm
    exact ⟨_, rfl, k H1 f1 R1⟩
theorem t_notN (ha : PDe X T Φ B a ma) : PDt X T Φ B (.Compare a [.IsNot] [.Constant .none j pos'] pos) (tV (e1 gNotN ma)) := PT.cons (L2.pt_cmp (pc_notN ha)) fun σ H Q ⟨A, Z, ρ, μ, d, μ', R, hm, k⟩ => by
  have hm := tV_some hm
  unfold e1 at hm
  cases e : ma ρ μ with
  | none => rw [e] at hm; cases hm
  | some p =>
    rw [e, Option.bind_some] at hm
    refine ⟨A, Z, ρ, μ, p.1, p.2, R, e, fun x H1 f1 R1 p1 => ?_⟩
    dsimp only
    rw [rp_none p1]
    cases hm
    exact ⟨_, rfl, k H1 f1 R1⟩
end
section
variable {X : Cx} {T : List (Addr × Str)} {Φ : Fx} {B : Nat → Bool} {ma : ME} {mf mi : MA} {g : MG} {mt : MT} {me : ME}
theorem tF_of {σ : L2.St} {H : Hp} {Q : VK} (h : tE X.K T Φ B (eF mf) σ H Q) : tF X.K T Φ B mf σ H Q := by
  obtain ⟨A, Z, ρ, μ, d, μ', R, hm, k⟩ := h
  unfold eF at hm
  cases e : mf ρ μ with
  | none => rw [e] at hm; cases hm
  | some p =>
    rw [e] at hm; cases hm
    refine ⟨A, Z, ρ, μ, p.1, p.2, R, e, fun l vs H1 f1 nz R1 n0 h1 h2 => k _ H1 f1 (R1.weakZ fun _ z => .inl z) ⟨l, vs, rfl, hid_rd_of (.inl h1) ?_, RpA.mono (hid_le fun x z => z.elim (fun z => .inl (.inl z)) .inr) _ _ h2⟩⟩
    rintro (z | z)
    · exact nz z
    · exact (R1.zo l (.inr rfl)).1 z.mem
theorem set_of {i : Nat} {Dn : Ends} {σ : L2.St} {H : Hp} (h : tS X.K T Φ (sAs ma (gN i)) Dn σ H) : tAsg (tE X.K T Φ B0 ma) (gName i) Dn σ H := by
  obtain ⟨A, Z, n0, ρ, μ, fl, R, hn, hm, k⟩ := h
  unfold sAs at hm
  cases e : ma ρ μ with
  | none => rw [e] at hm; cases hm
  | some p =>
    rw [e] at hm; cases hm
    refine ⟨A, Z, ρ, μ, p.1, p.2, R, e, fun v H1 f1 R1 p1 => ?_⟩
    exact k _ H1 A (Fs.of (f1.mono fun _ h => h.mem)) (R1.setVal i (Rp.mono (hid_le fun a h => zw0.mpr h) _ _ p1))
/-- name = [..] on one line -/
theorem s_setLc {elt tg iter : Expr} {ifs : List Expr} {scope : Scope} (own : List (Str × Nat)) {y : Str} {py pos spos : Pos} (i : Nat) (hc : X.calm = true) (hN : X.N.Nodup) (hi : PDi X T Φ B0 tg iter mi) (ok : BlkOk X.N X.env.scope scope own)
    (hg : ∀ (s : Shared) (H : Hp) (C : Addr) (cl : List (Str × Addr)) (fp : List Addr), PDc (X.blk s H scope (compEnvC scope cl C X.env) fp) T Φ (own.map (·.2)) tg g) (ht : ∀ (s : Shared) (H : Hp) (C : Addr) (cl : List (Str × Addr)) (fp : List Addr), PDts (X.blk s H scope (compEnvC scope cl C X.env) fp) T Φ B0 ifs mt)
    (he : ∀ (s : Shared) (H : Hp) (C : Addr) (cl : List (Str × Addr)) (fp : List Addr), PDe (X.blk s H scope (compEnvC scope cl C X.env) fp) T Φ B0 elt me) (hy : X.N[i]? = some y := by rfl) (hyl : X.env.scope.names.lookup y = some .local := by rfl)
    (hsw : swapsWith (.ListComp elt [⟨tg, iter, ifs, 0⟩] scope pos) (some (.Name y py)) spos.line X.env = pure true := by rfl) (hs : ∀ x, foldedSetIterable iter X.env x = pure x := by intro _; rfl) :
    PDs X T Φ (.Assign [.Name y py] (.ListComp elt [⟨tg, iter, ifs, 0⟩] scope pos) spos) (sAs (eF (mLc true mi (own.map (·.2)) g mt me)) (gN i)) :=
  PS.cons (ps_setLc hc hN hy hyl hsw hi ok hg ht he hs) fun Dn σ H h => lc_of (sb := true) (fun _ => rfl) σ H _ (tF_of (set_of h))
end
theorem def_zero {P : Program} {w : World} {K : PySem.W.Frag} {mg : Str → Option Value} {base : Heap} {T : List (Addr × Str)} {x qual : Str} {st : Stmt} {f : Addr} {ps : List Str} {n : Nat} (F : ∃ fd, FunD K x qual (defArgs st) (defBody st) (defScope st) [] [] f fd) (hm : mg x = some (.ref f)) (hn : ps.length = n)
    (hbi : ∀ (kV doc pm : Value) (an : Option Addr) (cdv ct : Value) (us : List Value), us.length = ps.length → bindArgs (PySem.W.fnOf x qual (defArgs st) (defBody st) (defScope st) .none kV doc pm an cdv ct) ⟨us, []⟩ = pure (ps.zip us)) (k : Nat) :
    Def P w K mg base T k x qual st ps n fun _ _ => none := by
  obtain ⟨fd, F⟩ := F
  subst hn
  refine ⟨⟨f, fd, ⟨fun vs H Q E h => h.1, fun A outer s H args us vs Q E _ _ _ _ h => ?_⟩, hm, F.kp, F.bindsN hbi, fun_D F⟩, rfl⟩
  obtain ⟨_, A, Z, as, cs, d, cs', R, hm, _⟩ := h
  cases hm
end PD
end
section
set_option linter.all false
set_option maxRecDepth 100000
set_option maxHeartbeats 4000000
/-! P23: defs that give back a new list. -/
namespace PD
open PySem PySem.Spec PyProof.Rows L2

abbrev FDF := List Slot → Option (List D)
/-- as spD, no cells lent; the value is a new list -/
def spF (K : PySem.W.Frag) (T : List (Addr × Str)) (n : Nat) (F : FDF) : Sp := fun vs H Q _ => vs.length = n ∧ ∃ Z as ds, Rep K T noFx [] Z (vs.map some) H as [] ∧ F as = some ds ∧
  ∀ a xs H', Fw (fun _ => False) H H' → ¬ Z a → (∀ x, Z x ∨ x = a → ¬ Fr H' x) → LamX.Tabs T H' → Fr H a → H' a = some (.lst xs) → RpA K (hid H' fun x => Z x ∨ x = a) xs ds → Q (.ref a) H'
/-- a block that ends by giving a new list back (no cells) -/
def tSF (K : PySem.W.Frag) (T : List (Addr × Str)) (m : List Slot → Option (List D)) : TS := fun Dn σ H => ∃ Z ρ ds, Rep K T noFx [] Z σ H ρ [] ∧ m ρ = some ds ∧
  ∀ a xs H', Fw (fun _ => False) H H' → ¬ Z a → (∀ x, Z x ∨ x = a → ¬ Fr H' x) → LamX.Tabs T H' → Fr H a → H' a = some (.lst xs) → RpA K (hid H' fun x => Z x ∨ x = a) xs ds → Dn.rt (.ref a) H'
def fRet (mf : MA) : List Slot → Option (List D) := fun ρ => (mf ρ []).bind fun p => if p.2.isEmpty then some p.1 else none
def fSeq (ms : MS) (mr : List Slot → Option (List D)) : List Slot → Option (List D) := fun ρ => (ms 0 ρ []).bind fun fl => match fl with
  | .next ρ' [] => mr ρ'
  | _ => none
section
variable {X : Cx} {T : List (Addr × Str)} {a : Expr} {mf : MA} {st : Stmt} {sts : List Stmt} {ms : MS} {mr : List Slot → Option (List D)} {pos : Pos}
theorem no_wr {B : Nat → Bool} {ρ : List Slot} {a : Addr} : ¬ Wr B ρ [] a := fun ⟨k, e, _⟩ => by simp at e
theorem sf_ret (ha : PDf X T noFx B0 a mf) : PSs X [.Return (some a) pos] (tSF X.K T (fRet mf)) := pss_one (PS.cons (ps_ret ha) fun Dn σ H ⟨Z, ρ, ds, R, hm, k⟩ => by
  unfold fRet at hm
  cases e : mf ρ [] with
  | none => rw [e] at hm; cases hm
  | some p =>
    rw [e, Option.bind_some] at hm
    split at hm
    · rename_i hemp
      cases hm
      refine ⟨[], Z, ρ, [], p.1, p.2, R, e, fun l vs H1 f1 nz R1 n0 h1 h2 => k l vs H1 (f1.mono fun x h => (no_wr h).elim) nz (fun x hx => (R1.zo x hx).2) R1.tabs n0 h1 ?_⟩
      rw [zw_nil] at h2
      exact h2
    · cases hm)
theorem sf_c (h1 : PDs X T noFx st ms) (h2 : PSs X sts (tSF X.K T mr)) : PSs X (st :: sts) (tSF X.K T (fSeq ms mr)) := PSs.cons (pss_cons h1 h2) fun Dn σ H ⟨Z, ρ, ds, R, hm, k⟩ => by
  unfold fSeq at hm
  cases e : ms 0 ρ [] with
  | none => rw [e] at hm; cases hm
  | some fl =>
    rw [e, Option.bind_some] at hm
    split at hm
    · rename_i ρ'
      refine ⟨[], Z, 0, ρ, [], _, R, Nat.le_refl _, e, fun σ1 H1 A1 f1 R1 => ?_⟩
      have eA : A1 = [] := List.eq_nil_of_length_eq_zero (by rw [R1.alen]; rfl)
      subst eA
      refine ⟨Z, ρ', ds, R1, hm, fun a xs H2 f2 nz nf tb fr h1 h2 => k a xs H2 ((f1.fw.mono fun x h => by simp at h).trans f2) nz nf tb (f1.fw.there a fr) h1 h2⟩
    · cases hm
/-- .. called: the list is one's own -/
def mCallF (n : Nat) (F : FDF) (m : MA) : MA := fun ρ μ => (m ρ μ).bind fun p => if p.1.length = n then (F (p.1.map .val)).map fun ds => (ds, p.2) else none
end
structure DefF (P : Program) (w : World) (K : PySem.W.Frag) (mg : Str → Option Value) (base : Heap) (T : List (Addr × Str)) (k : Nat) (x : Str) (ps : List Str) (n : Nat) (F : FDF) : Prop where
  ex : ∃ (f : Addr) (fd : FuncData), FnOk P w K mg base CX0 k f fd ps (spF K T n F) ∧ mg x = some (.ref f) ∧ PySem.W.keepIn K (.ref f) = true ∧ Binds K fd ps []
  len : ps.length = n
def bodyFF (n : Nat) (m : List Slot → Option (List D)) : FDF := fun as => m (as ++ List.replicate n .non)
section
variable {P : Program} {w : World} {K : PySem.W.Frag} {mg : Str → Option Value} {base : Heap} {T : List (Addr × Str)}
theorem defF_of {x qual : Str} {st : Stmt} {f : Addr} {N ps : List Str} {k n : Nat} {m : List Slot → Option (List D)} (F : ∃ fd, FunD K x qual (defArgs st) (defBody st) (defScope st) [] [] f fd) (hm : mg x = some (.ref f)) (S : FnScope N ps (defScope st)) (hn : ps.length = n)
    (hbi : ∀ (kV doc pm : Value) (an : Option Addr) (cdv ct : Value) (us : List Value), us.length = ps.length → bindArgs (PySem.W.fnOf x qual (defArgs st) (defBody st) (defScope st) .none kV doc pm an cdv ct) ⟨us, []⟩ = pure (ps.zip us))
    (hb : ∀ (cd : Value), cd = codeV K f → ∀ (A : Around) (outer : List Env) (s : Shared) (H : Hp) (E : XK), Room k (CtxF P w K mg base N qual (defScope st) f cd A outer s H E).A → PSs (CtxF P w K mg base N qual (defScope st) f cd A outer s H E) (defBody st) (tSF K T m)) :
    DefF P w K mg base T (k + 1) x ps n (bodyFF (N.length - n) m) := by
  obtain ⟨fd, F⟩ := F
  subst hn
  have Fu := fun_D F
  refine ⟨⟨f, fd, ?_, hm, F.kp, F.bindsN hbi⟩, rfl⟩
  obtain ⟨oc, od, kV, doc, pm, an, cdv, ct, osl, rfl, lk, hcd⟩ := Fu.ex
  refine fn_of lk hcd S (fun vs H Q E h => h.1) fun A outer s H vs Q E hr h => ⟨_, (hb cdv (by unfold codeV; rw [lk]) A outer s H E hr).nox, ?_⟩
  obtain ⟨hl, Z, as, ds, R, hm, k⟩ := h
  have la : as.length = vs.length := by rw [R.len, List.length_map]
  refine ⟨Z, as ++ List.replicate (N.length - ps.length) .non, ds, ⟨by unfold L2.start; rw [List.length_append, List.length_append, List.length_replicate, List.length_replicate, List.length_map, la, hl], R.alen, R.nd, R.zo, R.tabs, R.cell, fun i s' e => ?_⟩, (show m (as ++ List.replicate (N.length - ps.length) Slot.non) = some ds from hm), k⟩
  unfold L2.start
  by_cases hi : i < as.length
  · rw [List.getElem?_append_left hi] at e
    rw [List.getElem?_append_left (by rw [List.length_map, ← la]; exact hi)]
    exact R.slot i s' e
  · rw [List.getElem?_append_right (by omega), List.getElem?_replicate] at e
    split at e
    · cases e; trivial
    · cases e
end
section
variable {X : Cx} {T : List (Addr × Str)} {Φ : Fx} {B : Nat → Bool} {a : Expr} {es : List Expr} {mas : MA} {pos p : Pos} {k j n : Nat} {F : FDF} {x : Str} {ps : List Str}
theorem pf_d (D : DefF X.prog X.w X.K X.mg X.base T j x ps n F) (hr : Room k X.A) (hg : Gl X x) (ha : PDa X T Φ B (a :: es) mas) (hj : j ≤ k := by decide)
    (hdb : (x == ("__debug__" : Str)) = false := by decide) (he : starEach (a :: es) X.env = (false, eval a X.env) :: starEach es X.env := by rfl) (hpl : (backTo pos (starEach es X.env)).any (·.1) = false := by rfl) :
    PDf X T Φ B (.Call (.Name x p) (a :: es) [] pos) (mCallF n F mas) := by
  obtain ⟨f, fd, G, hm, hk, hb⟩ := D.ex
  refine PE.cons (pe_call G (hr.mono hj) hg hm hk hb .nil pass0 ha hdb he hpl) fun σ H Q ⟨A, Z, ρ, μ, ds, μ', R, hmm, kq⟩ => ?_
  unfold mCallF at hmm
  cases e : mas ρ μ with
  | none => rw [e] at hmm; cases hmm
  | some w =>
    rw [e, Option.bind_some] at hmm
    split at hmm
    · rename_i hl
      cases e2 : F (w.1.map .val) with
      | none => rw [e2] at hmm; cases hmm
      | some q =>
        rw [e2] at hmm
        cases hmm
        refine ⟨A, Z, ρ, μ, w.1, w.2, R, e, fun vs H1 f1 R1 p1 => ?_⟩
        show spF X.K T n F (vs ++ []) H1 Q E0
        rw [List.append_nil]
        refine ⟨by rw [p1.length]; exact hl, Zw B ρ A Z, w.1.map .val, ds, rep_vals R1.trackF R1.tabs p1, e2, fun a xs H2 f2 nz nf tb fr h1 h2 => ?_⟩
        have R2 := R1.calm f2 tb
        have na : a ∉ A := fun h => by
          obtain ⟨ys, ey, co⟩ := R1.cellAt h
          exact fr_not ey (fun ps z => by rw [z] at co; cases co) fr
        have nZ : ¬ Z a := fun z => nz (.inl z)
        have le : ∀ {x : Addr}, (hid H2 fun x => Z x ∨ x ∈ A) x = none ∨ True := fun {x} => .inr trivial
        have xt : XT (hid H1 fun x => Z x ∨ x ∈ A) (hid H2 fun x => (Z x ∨ x = a) ∨ x ∈ A) := fun b o eb t => by
          have q := of_hid eb
          have nb : b ≠ a := fun z => fr_not q.1 t (by rw [z]; exact fr)
          rw [hid_of]
          · exact f2.keep b o q.1 id t
          · rintro ((z | z) | z)
            · exact q.2 (.inl z)
            · exact nb z
            · exact q.2 (.inr z)
        refine kq a xs H2 (f1.trans (f2.mono fun _ h => h.elim)) nZ ⟨R1.len, R1.alen, R1.nd, fun x z => ?_, tb, fun kk c x e1 e3 => (R1.cell kk c x e1 e3).xt xt fun o eo t => f2.keep x o eo id t, fun i s es => (R1.slot i s es).xt xt⟩ (f1.there a fr) h1 (RpA.mono (hid_le fun x z => ?_) _ _ h2)
        · rcases z with z | z
          · exact ⟨(R1.zo x z).1, nf x (.inl (.inl z))⟩
          · rw [z]; exact ⟨na, nf a (.inr rfl)⟩
        · rcases z with (z | z) | z
          · exact .inl (.inl z)
          · exact .inr z
          · exact .inl (.inr z)
    · cases hmm
end
end PD
end
section
set_option linter.all false
set_option maxRecDepth 100000
set_option maxHeartbeats 4000000
/-! P24: sorted(set(t)) of a tuple of texts. -/
namespace PD
open PySem PySem.Spec PyProof.Rows L2 PySem.Froz

/-- the texts of a tuple, each once, in order -/
def gSSet : G1
  | .tuple ds => (strsOf ds).bind fun xs => if xs.length < 60 then some (.list (sortD (xs.eraseDups.map .str))) else none
  | _ => none
/-- the payload holds the texts l, each once, and can be walked -/
structure Tx (P : Program) (w : World) (D : SD) (l : List Str) : Prop where
  ok : TxOk P w D l
  nd : l.Nodup
  ris : Ris D.2.2.place.toList
  led : w.params.followText "set-order" = true ∨ D.2.2.led = true
def nwSet (w : World) : SD := (#[], 0, .fresh 0 0 (!w.params.followText "set-order"))
section
variable {P : Program} {w : World} {A : Around} {E : Value → Shared → Prop} {s : Shared}
theorem tx_new : Tx P w (nwSet w) [] := ⟨TxOk.nil (by rfl), List.nodup_nil, List.Pairwise.nil, by
  show _ ∨ (!w.params.followText "set-order") = true
  cases w.params.followText "set-order"
  · exact .inr rfl
  · exact .inl rfl⟩
theorem tail_ris {ep : Nat} {es1 : Array (Int × Value)} {t2 : SetTable} {d : Bool} (h : Ris t2.place.toList) (hl : w.params.followText "set-order" = true ∨ t2.led = true) : Ris (tailTx ep es1 t2 d).2.2.place.toList ∧ (w.params.followText "set-order" = true ∨ (tailTx ep es1 t2 d).2.2.led = true) := by
  unfold tailTx
  split
  · exact ⟨relayAll_ris _ _ _, hl.imp id fun z => (relayAll_led t2 es1 (SetTable.grown es1.size)).trans z⟩
  · exact ⟨h, hl⟩
theorem tx_add {D : SD} {l : List Str} {k : Str} (u : Tok) (F : Tx P w D l) (hk : k ∉ l) : Tx P w (addTx (hashStr w k) (.str k u) D) (k :: l) := by
  obtain ⟨es, ep, t⟩ := D
  have hr := layNew_ris t es (hashStr w k) (.str k u) F.ris
  have hl : w.params.followText "set-order" = true ∨ (layNew t es (hashStr w k) (.str k u)).2.1.led = true := F.led.imp id fun z => (layNew_led t es (hashStr w k) (.str k u)).trans z
  have q : Ris (addTx (hashStr w k) (.str k u) (es, ep, t)).2.2.place.toList ∧ (w.params.followText "set-order" = true ∨ (addTx (hashStr w k) (.str k u) (es, ep, t)).2.2.led = true) := by
    unfold addTx
    refine tail_ris ?_ ?_
    · split <;> exact hr
    · split <;> exact hl
  exact ⟨add_ok u F.ok, List.nodup_cons.mpr ⟨hk, F.nd⟩, q.1, q.2⟩
/-- a text is put in, there or not -/
theorem tx_put {a : Addr} {D : SD} {l : List Str} {k : Str} {u : Tok} {Q : Bool → Shared → Prop} (ho : s.heap.get? a = some (sObj "set" D)) (F : Tx P w D l) (hb : l.length + 1 < scanBound)
    (h : ∀ b h' D' l', Heap.SameBut a s.heap h' → h'.get? a = some (sObj "set" D') → Tx P w D' l' → (∀ x, x ∈ l' ↔ x ∈ l ∨ x = k) → l'.length ≤ l.length + 1 → Q b { s with heap := h' }) :
    wpAny (model P w) A (setAddHashed a (.str k u) (hashStr w k)) Q E s := by
  by_cases hk : k ∈ l
  · obtain ⟨es, ep, t⟩ := D
    have hd : (sObj "set" (es, ep, t)).data = .set es ep t := rfl
    have hf : t.fits es.size = true := F.ok.fit
    have hel : ElemsOf (strKind P w) es.toList := F.ok.el
    have hb0 : es.size < scanBound := by have : es.size = l.length := F.ok.sz; omega
    have hkey := is_str (P := P) (w := w) k u
    unfold setAddHashed setAddHashedIn
    refine wpAny_holding (wpAny_bind (wpAny_setState_of ho hd hf ?_))
    dsimp only
    rw [byScan_of rfl hb0 hel, if_pos rfl]
    unfold setAddByScan
    refine wpAny_bind (wpAny_bind (wpAny_rule (wpAny_bind (wpAny_setScan_of (knd := strKind P w) (k := k) hkey ho hd hf hel ?_))))
    cases hr : List.findIdx? (fun e => (strKind P w).is k e.2) es.toList with
    | none =>
      obtain ⟨e, he, z⟩ := (F.ok.mem k).mp hk
      rw [List.findIdx?_eq_none_iff.mp hr e he] at z
      cases z
    | some j =>
      refine wpAny_pure (wpAny_pure (h _ s.heap _ l (Heap.SameBut.refl a s.heap) ho F (fun x => ⟨.inl, fun z => z.elim id fun e => by rw [e]; exact hk⟩) (Nat.le_succ _)))
  · refine add_x ho F.ok hk hb ?_
    refine h _ _ _ (k :: l) (Heap.SameBut.update _ a _) (get_upd _ ho rfl) (tx_add u F hk) (fun x => ?_) (by simp)
    rw [List.mem_cons]
    exact Or.comm
/-- the rest of a walk over texts goes into the set -/
theorem tx_update {I : Addr} {fp wr : List Addr} {G : Array GenState → Array GenState → Prop} {n : Nat} {Pv : Nat → Value → Prop} {St : Nat → Shared → Prop} {R : Result → Shared → Prop}
    (W : WalksS P w A.in1 I fp wr G n Pv St) (a : Addr) (ha : a ∉ fp) (xs : List Str) (hn : n = xs.length) (hb : xs.length + 1 < scanBound) (hval : ∀ i v, Pv i v → ∃ k t, xs[i]? = some k ∧ v = .str k t) :
    ∀ (k i : Nat) (s : Shared), n - i = k → i ≤ n → St i s → (∃ D l, s.heap.get? a = some (sObj "set" D) ∧ Tx P w D l ∧ (∀ x, x ∈ l ↔ x ∈ xs.take i) ∧ l.length ≤ i) →
      (∀ s' D l, Moved (a :: wr) G s s' → s'.heap.get? a = some (sObj "set" D) → Tx P w D l → (∀ x, x ∈ l ↔ x ∈ xs) → l.length ≤ n → R (.ok (.ret .none)) s') →
      codeAny (model P w) A (.builtin "set.update.loop" ⟨[.ref a, .ref I], []⟩) R s := by
  have haw : a ∉ wr := fun h => ha (W.sub _ h)
  have hsub : ∀ b ∈ wr, b ∈ a :: wr := fun b hb => List.mem_cons_of_mem _ hb
  intro k; induction k with
  | zero =>
    intro i s hk hi hst ⟨D, l, ho, F, hm, hl⟩ hR
    have hin : i = n := by omega
    rw [hin, hn, List.take_length] at hm
    refine codeAny_builtin PyProof.Rows.F.entry_set_update_loop ?_; rw [Around.under_plainId PyProof.Rows.F.plain_set_update_loop _]
    show wpAny _ A.in1 (pyNext (.ref I) >>= _) _ _ s
    refine wpAny_bind (W.done s _ _ (hin ▸ hst) fun s' mv => ?_)
    exact wpAny_pure (hR s' D l (mv.mono hsub) (mv.heap a _ haw ho) F hm (by omega))
  | succ k ih =>
    intro i s hk hi hst ⟨D, l, ho, F, hm, hl⟩ hR
    have hlt : i < n := by omega
    refine codeAny_builtin PyProof.Rows.F.entry_set_update_loop ?_; rw [Around.under_plainId PyProof.Rows.F.plain_set_update_loop _]
    show wpAny _ A.in1 (pyNext (.ref I) >>= _) _ _ s
    refine wpAny_bind (W.item i s _ _ hlt hst fun v s' hP hst' mv => ?_)
    obtain ⟨z, t, hz, rfl⟩ := hval i v hP
    have ho' := mv.heap a _ haw ho
    show wpAny _ A.in1 (holding [Value.str z t] (setAdd a (.str z t)) >>= _) _ _ s'
    refine wpAny_bind (wpAny_holding ?_)
    unfold setAdd
    refine wpAny_holding (wpAny_bind ((strKind P w).pyHash (is_str (P := P) (w := w) z t) ?_))
    refine tx_put (s := { s' with toks := s'.toks + 1 }) ho' F (by omega) fun b h' D' l' sb ho2 F2 hm2 hl2 => ?_
    have hm3 : ∀ x, x ∈ l' ↔ x ∈ xs.take (i + 1) := fun x => by
      rw [hm2 x, hm x, List.take_add_one, hz]
      simp
    refine wpAny_pure ⟨plainId_quiet PyProof.Rows.F.plain_set_update_loop _, ih (i + 1) _ (by omega) hlt (W.frame _ s' _ _ hst' (Nat.le_succ _) fun b hb o e => ?_) ⟨D', l', ho2, F2, hm3, by omega⟩ fun s2 D2 l2 mv2 ho3 F3 hm4 hl4 => ?_⟩
    · rw [sb.2 b (fun h : b = a => ha (by rw [← h]; exact hb))]; exact e
    · refine hR s2 D2 l2 (Moved.trans W.gtrans ((mv.mono hsub).then_heap (Nat.le_succ _) fun b o hb e => ?_) mv2) ho3 F3 hm4 hl4
      rw [sb.2 b (fun h : b = a => hb (by rw [h]; exact List.mem_cons_self))]; exact e
def TxsAre (vs : List Value) (xs : List Str) : Prop := vs.length = xs.length ∧ ∀ (i : Nat) v, vs[i]? = some v → ∃ k t, xs[i]? = some k ∧ v = .str k t
/-- set(t), t a tuple of texts -/
theorem tx_made {l : Addr} {items : Array Value} (xs : List Str) {Q : Value → Shared → Prop} (hh : A.handled = none) (hl : s.heap.IsTuple l items) (hit : TxsAre items.toList xs) (hb : xs.length + 1 < scanBound)
    (h : ∀ (h' : Heap) (tk : Nat) (D : SD) (ys : List Str), h'.get? s.heap.objs.size = some (sObj "set" D) → Tx P w D ys → (∀ x, x ∈ ys ↔ x ∈ xs) → ys.length ≤ xs.length → (∀ b o, s.heap.get? b = some o → h'.get? b = some o) → Q (.ref s.heap.objs.size) { s with heap := h', toks := tk }) :
    wpAny (model P w) A (call (.type "set") [.ref l]) Q E s := by
  have hisz : items.size = xs.length := hit.1
  obtain ⟨c, tl, hmro⟩ := F.called_set.mro
  have hmade := F.called_set.made
  have hsub := F.called_set.sub
  refine wpAny_call (codeAny_of_tree ?_); show wpAny _ _ (callAny (.type "set") _) _ _ _
  refine wpAny_pure ⟨Code.quiet_builtin _ (by decide +kernel), codeAny_builtin F.entry_type_call ?_⟩
  rw [Around.under_plain (weight_type_call_type "set" [.ref l] []) rfl]
  have h1 := F.called_set.notType
  have h2 := F.called_set.canCreate
  have hct := F.typeCall_set_1 (.ref l)
  repeat (any_goals (first | assumption | wp_step))
  refine codeAny_mono (code_set_led1 (.ref l) (E := E) (Q₁ := fun obj s₁ => obj = .ref s.heap.objs.size ∧ s₁ = { s with heap := s.heap.push (sObj "set" (nwSet w)) }) ⟨rfl, rfl⟩) fun r s₁ hr => ?_
  cases r with
  | error e => exact hr
  | ok fl =>
    cases fl with
    | ret obj =>
      obtain ⟨rfl, rfl⟩ := hr
      have hS : (s.heap.push (sObj "set" (nwSet w))).get? s.heap.objs.size = some (sObj "set" (nwSet w)) := Heap.get?_push_size _ rfl
      have hT : Shared.TypeIs { s with heap := s.heap.push (sObj "set" (nwSet w)) } (.ref s.heap.objs.size) "set" := ⟨_, hS, rfl⟩
      have hli := F.called_set.init.lookup
      have hbi := F.called_set.init.bind (.ref s.heap.objs.size)
      repeat (any_goals (first | assumption | wp_step))
      refine codeAny_mono (codeAny_call_builtin (R := wants (fun r s₂ => r = .none ∧ ∃ h' tk D ys, s₂ = { s with heap := h', toks := tk } ∧ h'.get? s.heap.objs.size = some (sObj "set" D) ∧ Tx P w D ys ∧ (∀ x, x ∈ ys ↔ x ∈ xs) ∧ ys.length ≤ xs.length ∧
          (∀ b o, s.heap.get? b = some o → h'.get? b = some o)) E) F.called_set.init.plain F.entry_set_init (check_set_init_1 hT ?_)) fun r₂ s₂ hr₂ => ?_
      · obtain ⟨⟨ocls, odict, odata, oslots⟩, hol, hcl, nl, hdl⟩ := hl
        simp only at hcl hdl
        subst hcl; subst hdl
        have hol' : (s.heap.push (sObj "set" (nwSet w))).get? l = some { cls := .type "tuple", dict := odict, data := .seq items nl, slots := oslots } := Heap.get?_push_of_some _ hol
        have hsls := F.sub_tuple_set
        have hslf := F.sub_tuple_frozenset
        have hne : (Value.type "tuple" == Value.type "dict") = false := by decide
        have hl1 : (s.heap.push (sObj "set" (nwSet w))).IsTuple l items := ⟨_, hol', rfl, nl, rfl⟩
        unfold Builtin.«set.__init__» noKeywords Builtin.Frozenset.updateFrom
        generalize hPI : pyIter = PI
        wp_walk
        subst hPI
        refine wpAny_pyIter_tuple hl1 (wpAny_bind (wpAny_runValue ?_))
        have hlS : l < s.heap.objs.size := Heap.lt_size hol
        have hh3 : A.in1.in1.in1.handled = none := by simp [hh]
        have hneI : l ≠ (s.heap.push (sObj "set" (nwSet w))).objs.size := by
          rw [Heap.size_push]; exact Nat.ne_of_lt (Nat.lt_succ_of_lt hlS)
        have hSf : s.heap.objs.size ∉ [(s.heap.push (sObj "set" (nwSet w))).objs.size, l] := by
          rw [Heap.size_push]; simp only [List.mem_cons, List.mem_singleton, List.not_mem_nil, or_false, not_or]
          exact ⟨Nat.ne_of_lt (Nat.lt_succ_self _), Nat.ne_of_gt hlS⟩
        have hval : ∀ (i : Nat) (v : Value), items[i]? = some v → ∃ k t, xs[i]? = some k ∧ v = .str k t := fun i v hv => hit.2 i v (by rw [Array.getElem?_toList]; exact hv)
        refine tx_update ((Walks.tuple hh3 _ l hneI items).toS) s.heap.objs.size hSf xs hisz hb hval (items.size - 0) 0 _ (by omega) (Nat.zero_le _)
          ⟨⟨_, Heap.get?_push_size _ rfl, rfl, rfl⟩, (hl1.push _)⟩ ⟨nwSet w, [], Heap.get?_push_of_some _ hS, tx_new, fun x => by simp, Nat.le_refl _⟩ ?hR
        case hR =>
          intro s' D ys hm ho' F' hy hyl
          obtain ⟨h', g2, d', tk', os'⟩ := s'
          have eg : g2 = s.gens := hm.gens
          have ed : d' = s.drawn := hm.drawn
          have eo : os' = s.os := hm.os
          subst eg; subst ed; subst eo
          show wpAny _ _ _ _ _ _
          refine wpAny_pure ?_
          show wpAny _ _ (ret Value.none) _ _ _
          rw [hisz] at hyl
          refine wpAny_pure ⟨rfl, h', tk', D, ys, rfl, ho', F', hy, hyl, fun b o e => ?_⟩
          have hb0 : b < s.heap.objs.size := Heap.lt_size e
          exact hm.heap b o (by simp only [List.mem_cons, List.not_mem_nil, or_false, not_or]; refine ⟨Nat.ne_of_lt hb0, ?_⟩; rw [Heap.size_push]; exact Nat.ne_of_lt (Nat.lt_succ_of_lt hb0)) (Heap.get?_push_of_some _ (Heap.get?_push_of_some _ e))
      · cases r₂ with
        | error e => exact hr₂
        | ok fl₂ =>
          cases fl₂ with
          | ret r =>
            obtain ⟨rfl, h', tk, D, ys, rfl, k1, k2, k3, k4, k5⟩ := hr₂
            repeat (any_goals (first | assumption | wp_step))
            exact h _ _ _ _ k1 k2 k3 k4 k5
          | _ => exact hr₂.elim
    | _ => exact hr.elim
def txtOf : Value → Str
  | .str x _ => x
  | _ => ""
theorem perm_sub : ∀ (l k : List Str), l.Nodup → (∀ x ∈ l, x ∈ k) → l.length = k.length → l.Perm k
  | [], k, _, _, e => by
    have : k = [] := List.length_eq_zero_iff.mp e.symm
    rw [this]
  | x :: l, k, h, hs, e => by
    obtain ⟨h1, h2⟩ := List.nodup_cons.mp h
    have hx := hs x (List.mem_cons_self ..)
    have pe := List.perm_cons_erase hx
    have ih := perm_sub l (k.erase x) h2 (fun y hy => (List.mem_erase_of_ne (fun z : y = x => h1 (by rw [← z]; exact hy))).mpr (hs y (List.mem_cons_of_mem _ hy))) (by
      have := pe.length_eq
      simp only [List.length_cons] at this e
      omega)
    exact (List.Perm.cons x ih).trans pe.symm
theorem each_txt : ∀ (vs : List Value), (∀ v ∈ vs, ∃ k t, v = .str k t) → PySem.W.EachIs (fun v x => ∃ t, v = .str x t) vs (vs.map txtOf)
  | [], _ => .nil
  | v :: vs, h => by
    obtain ⟨k, t, rfl⟩ := h v (List.mem_cons_self ..)
    exact .cons ⟨t, rfl⟩ (each_txt vs fun u hu => h u (List.mem_cons_of_mem _ hu))
/-- sorted(s), s a set of texts -/
theorem tx_sorted {a : Addr} {D : SD} {l : List Str} {Q : Value → Shared → Prop} (hh : A.handled = none) (ho : s.heap.get? a = some (sObj "set" D)) (F : Tx P w D l) (hb : l.length < 60) (hu : A.units + 64 < cLine)
    (hQ : ∀ s' p (out : List Value) (c : Nat), (∀ b o, s.heap.get? b = some o → s'.heap.get? b = some o) → s'.gens = s.gens → s'.os = s.os → s.heap.objs.size ≤ p → s'.heap.get? p = some (seqObj "list" out.toArray c) →
      (∃ l' : List Str, l'.Perm l ∧ PySem.W.EachIs (fun v x => ∃ t, v = .str x t) out (l'.mergeSort (PySem.W.dataLe false PyData.str))) → Q (.ref p) s') :
    wpAny (model P w) A (call (.builtin "sorted") [.ref a]) Q E s := by
  obtain ⟨es, ep, t⟩ := D
  have hsz : es.size = l.length := F.ok.sz
  have hbs : es.size < scanBound := by rw [hsz]; exact Nat.lt_trans hb (by decide)
  refine Calls.call_function_entry kind_sorted plain_sorted entry_sorted (args_sorted1 _) ?_
  unfold Builtin.«sorted»
  refine wpAny_bind (m := checkCount "sorted" 1 1 _) (wpAny_pure ?_)
  refine wpAny_bind (collect_set (A := A.in1) hh ⟨_, ho, rfl, rfl⟩ F.ok.fit hbs F.ris F.led fun s1 vs k1 hz g1 o1 pm => ?_)
  have hvl : vs.length = l.length := by rw [pm.length_eq, List.length_map, Array.length_toList]; exact hsz
  have sh : ∀ v ∈ vs, ∃ k t, v = .str k t := fun v hv => by
    obtain ⟨e, he, q⟩ := List.mem_map.mp (pm.mem_iff.mp hv)
    obtain ⟨⟨k, hk, _⟩, _⟩ := F.ok.el e he
    obtain ⟨t, ht⟩ := Value.isStrOf_shape (show Value.isStrOf k e.2 = true from hk)
    exact ⟨k, t, by rw [← q]; exact ht⟩
  have e1 := each_txt vs sh
  have pl : (vs.map txtOf).Perm l := by
    refine (perm_sub l _ F.nd (fun x hx => ?_) (by rw [List.length_map]; exact hvl.symm)).symm
    obtain ⟨e, he, z⟩ := (F.ok.mem x).mp hx
    obtain ⟨t, ht⟩ := Value.isStrOf_shape (show Value.isStrOf x e.2 = true from z)
    exact List.mem_map.mpr ⟨e.2, pm.mem_iff.mpr (List.mem_map.mpr ⟨e, he, rfl⟩), by rw [ht]; rfl⟩
  refine wpAny_bind (wpAny_newList ?_ (by rw [hvl, sizeLine_eq]; omega))
  have hoL : (s1.heap.push (seqObj "list" vs.toArray 0)).get? s1.heap.objs.size = some (seqObj "list" vs.toArray 0) := Heap.get?_push_size _ rfl
  have al : PySem.W.AllAlike ((vs.map txtOf).map PyData.str) := fun d hd d' hd' => by
    obtain ⟨x, _, rfl⟩ := List.mem_map.mp hd
    obtain ⟨y, _, rfl⟩ := List.mem_map.mp hd'
    simp [PySem.W.alike]
  have so : PySem.W.Sortable ((vs.map txtOf).map PyData.str) := .inr fun d hd => by
    obtain ⟨x, _, rfl⟩ := List.mem_map.mp hd
    exact ⟨(fun z => by cases z), (fun _ z => by cases z)⟩
  refine wpAny_bind (wpAny_holding (PySem.W.list_sort_data (s := { s1 with heap := s1.heap.push (seqObj "list" vs.toArray 0) }) (bs := vs.map txtOf) (enc := PyData.str) hoL e1 (e1.mono fun v b ⟨t, hv⟩ => ⟨[], by rw [hv]; exact .str b t, by simp⟩) al so (by rw [List.length_map, hvl, sizeLine_eq]; omega) (fun b _ => by
    have : (PyData.str b).depth = 0 := by simp [PyData.depth]
    rw [this]
    show A.units + 1 + 1 + 0 < cLine
    omega) fun out hl he => ?_))
  obtain ⟨c, hc⟩ := sortedHeap_at (vs := vs) (out := out.toArray) hoL
  refine wpAny_pure ⟨_, rfl, hQ _ s1.heap.objs.size out c (fun b u e => ?_) g1 o1 hz hc ⟨_, pl, he⟩⟩
  · have q := k1 b u e
    have hlt := Heap.lt_size q
    show (sortedHeap (s1.heap.push (seqObj "list" vs.toArray 0)) s1.heap.objs.size vs out.toArray).get? b = some u
    rw [sortedHeap_old (Nat.ne_of_lt hlt) (by rw [size_push']; exact Nat.lt_succ_of_lt hlt)]
    exact Heap.get?_push_of_some _ q
end
end PD
end
section
set_option linter.all false
set_option maxRecDepth 100000
set_option maxHeartbeats 4000000
/-! P24s: the rule of sorted(set(t)). -/
namespace PD
open PySem PySem.Spec PyProof.Rows L2 PySem.Froz
def SetTx (P : Program) (w : World) (a : Addr) (l : List Str) : HO := .ext fun h => ∃ D ys, h.get? a = some (sObj "set" D) ∧ Tx P w D ys ∧ (∀ x, x ∈ ys ↔ x ∈ l) ∧ ys.length < 60
def rSetX (P : Program) (w : World) (K : PySem.W.Frag) : List V → Hp → VK → Prop := fun xs H Q => ∃ (p : Addr) (ts : List Str), xs = [.ref p] ∧ SqT K H p (ts.map V.str) ∧ ts.length < 60 ∧ ∀ q, H q = none → Q (.ref q) (upd H q (SetTx P w q ts))
def rSortX (P : Program) (w : World) : List V → Hp → VK → Prop := fun xs H Q => ∃ (a : Addr) (l : List Str), xs = [.ref a] ∧ H a = some (SetTx P w a l) ∧
  ∀ (p : Addr) (l' : List Str), H p = none → l'.Nodup → (∀ x, x ∈ l' ↔ x ∈ l) → Q (.ref p) (upd H p (.lst ((l'.mergeSort (PySem.W.dataLe false PyData.str)).map V.str)))
section
variable {X : Cx}
theorem setTx_new {P : Program} {w : World} {H : Hp} {h : Heap} {a : Addr} {l : List Str} {D : SD} {ys : List Str} (ho : h.get? a = some (sObj "set" D)) (F : Tx P w D ys) (hm : ∀ x, x ∈ ys ↔ x ∈ l) (hl : ys.length < 60) : ObjOk P w H h a (SetTx P w a l) :=
  ⟨⟨D, ys, ho, F, hm, hl⟩, ⟨_, ho⟩, fun h1 h2 ⟨D1, ys1, e, r⟩ k => ⟨D1, ys1, k _ e, r⟩⟩
theorem cr_setX (hc : X.calm = true) : CallR X (.type "set") (rSetX X.prog X.w X.K) := by
  intro pins s σ H vs us Q I r h
  obtain ⟨p, ts, rfl, hs, hl, q⟩ := h
  obtain ⟨its, rv, pt, hz⟩ := I.tuple hs
  rw [Vals.ref1 r]
  have hit : TxsAre its.toArray.toList ts := ⟨by simpa using rv.length.symm, fun i v hv => by
    obtain ⟨x, h1, h2⟩ := valsU rv (j := i) (u := v) (by simpa using hv)
    rw [List.getElem?_map] at h1
    cases e : ts[i]? with
    | none => rw [e] at h1; cases h1
    | some k =>
      rw [e] at h1
      cases h1
      obtain ⟨t, ht⟩ := h2
      exact ⟨k, t, rfl, ht⟩⟩
  refine tx_made ts (I.ok.hd hc) (show s.heap.IsTuple p its.toArray from pt) hit (Nat.lt_trans (Nat.succ_lt_succ hl) (by decide)) fun h' tk D ys ho F hm hy k => ?_
  exact ⟨.ref _, upd H s.heap.objs.size (SetTx X.prog X.w s.heap.objs.size ts), I.laid (t' := tk) k (Nat.le_refl _) (setTx_new ho F hm (Nat.lt_of_le_of_lt hy hl)), rfl, q _ (I.hok.fresh (Nat.le_refl _))⟩
theorem each_vstr : ∀ {out : List Value} {l : List Str}, PySem.W.EachIs (fun v x => ∃ t, v = .str x t) out l → Vals (l.map V.str) out
  | _, _, .nil => .nil
  | _, _, .cons h t => .cons h (each_vstr t)
theorem cr_sortX (hc : X.calm = true) (hu : X.A.units + 64 < cLine) : CallR X (.builtin "sorted") (rSortX X.prog X.w) := by
  intro pins s σ H vs us Q I r h
  obtain ⟨a, l, rfl, ha, q⟩ := h
  obtain ⟨D, ys, ho, F, hm, hl⟩ := (I.hok a _ ha).1
  rw [Vals.ref1 r]
  refine tx_sorted (I.ok.hd hc) ho F hl hu fun s' p out c k g o hp hg ⟨l', pl, he⟩ => ?_
  have rv := each_vstr he
  have hlen : ((l'.mergeSort (PySem.W.dataLe false PyData.str)).map V.str).length ≤ sizeLine := by
    rw [List.length_map, List.length_mergeSort, pl.length_eq, sizeLine_eq]
    omega
  have hn : H p = none := I.hok.fresh hp
  have J : Inv X pins σ (upd H p (.lst ((l'.mergeSort (PySem.W.dataLe false PyData.str)).map V.str))) s' :=
    I.call' (ch := []) o (Un.laid k hp hn) (I.hok.laid k hp ⟨hlen, out, c, rv, hg⟩) (by rw [g]; exact I.bare) (fun _ z => nomatch z)
  exact ⟨.ref p, _, J, rfl, q p l' hn (pl.nodup_iff.mpr F.nd) fun x => pl.mem_iff.trans (hm x)⟩
end
theorem nodup_dupsX : ∀ (n : Nat) (l : List Str), l.length ≤ n → l.eraseDups.Nodup
  | _, [], _ => by simp
  | 0, x :: l, h => by simp at h
  | n + 1, x :: l, h => by
    rw [List.eraseDups_cons]
    refine List.nodup_cons.mpr ⟨fun hx => ?_, nodup_dupsX n _ ?_⟩
    · have := (List.mem_filter.mp (List.mem_eraseDups.mp hx)).2
      simp at this
    · have := List.length_filter_le (fun b => !b == x) l
      simp only [List.length_cons] at h
      omega
theorem sub_len : ∀ (l k : List Str), l.Nodup → (∀ x ∈ l, x ∈ k) → l.length ≤ k.length
  | [], _, _, _ => Nat.zero_le _
  | x :: l, k, h, hs => by
    have hx := hs x (List.mem_cons_self ..)
    obtain ⟨h1, h2⟩ := List.nodup_cons.mp h
    have ih := sub_len l (k.erase x) h2 fun y hy => (List.mem_erase_of_ne (fun e : y = x => h1 (by rw [← e]; exact hy))).mpr (hs y (List.mem_cons_of_mem _ hy))
    rw [List.length_erase_of_mem hx] at ih
    have : 0 < k.length := List.length_pos_of_mem hx
    simp
    omega
/-- texts each once, sorted: one list alone -/
theorem sort_once {l k : List Str} (h1 : l.Nodup) (h2 : k.Nodup) (hm : ∀ x, x ∈ l ↔ x ∈ k) : l.mergeSort (PySem.W.dataLe false PyData.str) = k.mergeSort (PySem.W.dataLe false PyData.str) := by
  have pk : l.Perm k := perm_sub l k h1 (fun x hx => (hm x).mp hx) (Nat.le_antisymm (sub_len l k h1 fun x hx => (hm x).mp hx) (sub_len k l h2 fun x hx => (hm x).mpr hx))
  have e : PySem.W.dataLe false PyData.str = fun a b : Str => decide (a.cps.toList ≤ b.cps.toList) := PySem.W.dataLe_str (β := Str) id
  rw [e]
  have tr : ∀ a b c : Str, decide (a.cps.toList ≤ b.cps.toList) = true → decide (b.cps.toList ≤ c.cps.toList) = true → decide (a.cps.toList ≤ c.cps.toList) = true := fun a b c h h' => decide_eq_true (List.le_trans (of_decide_eq_true h) (of_decide_eq_true h'))
  have to : ∀ a b : Str, (decide (a.cps.toList ≤ b.cps.toList) || decide (b.cps.toList ≤ a.cps.toList)) = true := fun a b => by
    rcases List.le_total a.cps.toList b.cps.toList with h | h <;> simp [h]
  have p1 := List.pairwise_mergeSort tr to l
  have p2 := List.pairwise_mergeSort tr to k
  have pm : (l.mergeSort fun a b : Str => decide (a.cps.toList ≤ b.cps.toList)).Perm (k.mergeSort fun a b : Str => decide (a.cps.toList ≤ b.cps.toList)) := (List.mergeSort_perm l _).trans (pk.trans (List.mergeSort_perm k _).symm)
  exact List.Perm.eq_of_pairwise (fun a b _ _ h h' => PySem.W.str_of_cps (List.le_antisymm (of_decide_eq_true h) (of_decide_eq_true h'))) p1 p2 pm
theorem rpA_strs {K : PySem.W.Frag} {H : Hp} : ∀ xs : List Str, RpA K H (xs.map V.str) (xs.map .str)
  | [] => rfl
  | x :: xs => ⟨.str x, _, rfl, rfl, rpA_strs xs⟩
section
variable {X : Cx} {T : List (Addr × Str)} {Φ : Fx} {B : Nat → Bool} {a : Expr} {ma : ME} {pos p p2 q : Pos} {k : Nat}
theorem pd_sset (hr : Room k X.A) (hc : X.calm = true) (hm : X.mg "sorted" = none) (hm2 : X.mg "set" = none) (hg : Gl X "sorted") (hg2 : Gl X "set") (ha : PDe X T Φ B a ma)
    (h1 : starEach [a] X.env = (false, eval a X.env) :: starEach [] X.env := by rfl) (h2 : starEach [.Call (.Name "set" p2) [a] [] q] X.env = (false, eval (.Call (.Name "set" p2) [a] [] q) X.env) :: starEach [] X.env := by rfl) :
    PDe X T Φ B (.Call (.Name "sorted" p) [.Call (.Name "set" p2) [a] [] q] [] pos) (e1 gSSet ma) := by
  have i1 := pe_callTy (x := "set") (p := p2) (pos := q) (cr_setX hc) hg2 hm2 PyProof.Rows.boot_set (pa_cons ha pa_nil h1) (by decide) (by decide) h1 rfl
  have i2 := pe_callB (x := "sorted") (p := p) (pos := pos) (cr_sortX hc hr.units) hg hm PyProof.Rows.boot_sorted (pa_cons i1 pa_nil h2) (by decide) (by decide) h2 rfl
  refine PE.cons i2 fun σ H Q ⟨A, Z, ρ, μ, d, μ', R, hmm, kq⟩ => ?_
  unfold e1 at hmm
  cases e : ma ρ μ with
  | none => rw [e] at hmm; cases hmm
  | some pr =>
    rw [e, Option.bind_some] at hmm
    cases e' : gSSet pr.1 with
    | none => rw [e'] at hmm; cases hmm
    | some d' =>
      rw [e'] at hmm; cases hmm
      refine ⟨A, Z, ρ, μ, pr.1, pr.2, R, e, fun x H1 f1 R1 p1 => ?_⟩
      unfold gSSet at e'
      split at e'
      · rename_i ds hds
        rw [hds] at p1
        obtain ⟨a0, xs, rfl, k1, k2⟩ := p1
        cases es : strsOf ds with
        | none => rw [es] at e'; cases e'
        | some ts =>
          rw [es, Option.bind_some] at e'
          split at e'
          · rename_i hl
            cases e'
            have ex := strsOf_rp k2 es
            subst ex
            refine ⟨a0, ts, rfl, hid_sqT k1, hl, fun s hs => ⟨s, ts, rfl, upd_same, fun l l' hn hnd hmm => ?_⟩⟩
            have so := sort_once hnd (nodup_dupsX _ ts (Nat.le_refl _)) fun x => (hmm x).trans List.mem_eraseDups.symm
            rw [so]
            have eD : sortD (ts.eraseDups.map .str) = (ts.eraseDups.mergeSort (PySem.W.dataLe false PyData.str)).map .str := (List.map_mergeSort (f := PyData.str) fun a _ b _ => rfl).symm
            have s1 : Same H1 (upd H1 s (SetTx X.prog X.w s ts)) := same_upd hs
            have s2 := same_upd (o := .lst ((ts.eraseDups.mergeSort (PySem.W.dataLe false PyData.str)).map V.str)) hn
            refine kq _ _ (f1.trans (Fw.same (s1.trans s2))) (R1.same (s1.trans s2)) ?_
            rw [eD]
            exact rp_new_lst (fun a z h => by
              cases e1 : H1 a with
              | none => exact R1.tracked a z e1
              | some o => rw [s1 a o e1] at h; cases h) hn (rpA_strs _)
          · cases e'
      · cases e'
end
end PD
end
section
set_option linter.all false
set_option maxRecDepth 100000
set_option maxHeartbeats 4000000
/-! P25: the end: a law's facts, its last step. -/
namespace PD
open PySem PySem.Spec PyProof.Rows L2 LamX

theorem ex_get {l : List Bool} (h : l.all id = true) (i : Nat) {b : Bool} (e : l[i]? = some b := by rfl) : b = true := (List.all_eq_true.mp h) b (List.mem_of_getElem? e)
section
variable {K : PySem.W.Frag} {h : Heap} {mg : Str → Option Value} (X : K.In h) (G : h.Ns mainGlobals mg)
include X G
theorem cst_ok {x : Str} {d : D} (c : cstB K x d = true) : Cst K mg x d := by
  unfold cstB at c
  split at c
  · rename_i u e
    obtain ⟨v, r, p⟩ := kV_ok d u c
    exact ⟨v, u, PySem.W.mg_of X G e, r, p⟩
  · cases c
def bltB (K : PySem.W.Frag) (x : Str) (id : String) : Bool := match PySem.W.nsIn K mainGlobals x with
  | some (some (.builtin i)) => decide (i = id)
  | _ => false
theorem blt_ok {x : Str} {id : String} (c : bltB K x id = true) : mg x = some (.builtin id) := by
  unfold bltB at c
  split at c
  · rename_i i e
    rw [PySem.W.mg_of X G e, of_decide_eq_true c]
  · cases c
end
def cdB (K : PySem.W.Frag) (x : Str) : Bool := match codeV K (He.ga K x) with
  | .ref c => decide (c = He.codeOf K (x, none))
  | _ => false
theorem cd_ok {K : PySem.W.Frag} {x : Str} (c : cdB K x = true) : codeV K (He.ga K x) = .ref (He.codeOf K (x, none)) := by
  unfold cdB at c
  split at c
  · rename_i a e
    rw [e, of_decide_eq_true c]
  · cases c
def tuB (T : List (Addr × Str)) : Bool := T.all fun p => T.all fun q => !decide (p.1 = q.1) || decide (p.2 = q.2)
theorem tu_ok {T : List (Addr × Str)} (c : tuB T = true) : TU T := fun p hp q hq e => by
  have z := List.all_eq_true.mp (List.all_eq_true.mp c p hp) q hq
  simpa [e] using z
def noLists (K : PySem.W.Frag) : Bool := K.all fun p => match p.2.cls with
  | .type c => !decide (c = "list")
  | _ => true
theorem lookup_in {a : Addr} {o : Obj} : ∀ {K : List (Addr × Obj)}, K.lookup a = some o → (a, o) ∈ K
  | [], e => by simp at e
  | (b, u) :: r, e => by
    rw [List.lookup_cons] at e
    split at e
    · rename_i hb
      cases e
      rw [show a = b from by simpa using hb]
      exact List.mem_cons_self
    · exact List.mem_cons_of_mem _ (lookup_in e)
theorem sqL_rd {K : PySem.W.Frag} {H : Hp} {a : Addr} {xs : List V} (c : noLists K = true) (h : SqL K H a xs) : Rd H a (.lst xs) := by
  rcases h with h | ⟨o, its, n, e, hc, _⟩
  · exact h
  · have z := List.all_eq_true.mp c _ (lookup_in e)
    dsimp only at z
    rw [hc] at z
    simp at z
theorem rpA_ints {K : PySem.W.Frag} {H : Hp} : ∀ ns : List Int, RpA K H (ns.map V.int) (ns.map .int)
  | [] => rfl
  | n :: ns => ⟨.int n, _, rfl, rfl, rpA_ints ns⟩
/-- THE END: the law's def keeps F, F says True -/
theorem lawAt_of {l : PySem.W.OpenLaw} {w : World} {K : PySem.W.Frag} {k n : Nat} {mg : Str → Option Value} {fa : Addr} {h : Heap} {fs : List He.Fa} {fn : List He.DefD} {ts : List He.Tab} {tf : List He.Defn} {ex : PySem.W.Frag → Bool} {st : Stmt} {F : FD} {T : List (Addr × Str)} (c : He.SaysX fs fn ts tf ex w h K) (X : K.In h)
    (hmg : mg "law" = some (.ref fa)) (hno : noLists K = true) (hT : ∀ p ∈ T, p.1 ∈ tf.map fun q => (He.cT K q).2)
    (hD : ∀ base : Heap, K.In base → base.Ns mainGlobals mg → (∀ p ∈ tf.map (He.cT K), TabB base mg p.1 p.2) → Def l.prog w K mg base T k "law" "law" st ["script"] 1 F) (hFd : ∃ fd, FunD K "law" "law" (defArgs st) (defBody st) (defScope st) [] [] fa fd)
    (hbi : ∀ (kV doc pm : Value) (an : Option Addr) (cdv ct : Value) (us : List Value), us.length = ["script"].length → bindArgs (PySem.W.fnOf "law" "law" (defArgs st) (defBody st) (defScope st) .none kV doc pm an cdv ct) ⟨us, []⟩ = pure ((["script"] : List Str).zip us))
    (spec : ∀ ns : List Int, ns.length ≤ n → (∀ z ∈ ns, Builtin.Int.intBits z ≤ 1048576) → F [.val (.list (ns.map .int))] [] = some (.bool true, [])) : LawAtS l w K CX0 k n "script" mg fa h := by
  obtain ⟨fd, Fd⟩ := hFd
  have memT : ∀ p ∈ tf.map (He.cT K), ∃ q ∈ tf, He.cT K q = p := fun p hp => by
    obtain ⟨q, hq, e⟩ := List.mem_map.mp hp
    exact ⟨q, hq, e⟩
  refine ⟨fd, tf.map (He.cT K), spD K T 1 F, fun p hp => ?_, fun p hp => ?_, fun p hp => ?_, fun s u => ?_, fun H a ns hl hb hH hS => ?_, fun base KX KG tb => ?_⟩
  · obtain ⟨q, hq, rfl⟩ := memT p hp
    exact c.empty q hq
  · obtain ⟨q, hq, rfl⟩ := memT p hp
    exact c.out q hq
  · obtain ⟨q, hq, rfl⟩ := memT p hp
    exact PySem.W.codeHd_of_K X (c.hd q hq)
  · exact FunD.bindsA (ps := ["script"]) Fd hbi s [u] rfl
  · have tabs : Tabs T H := fun p hp => by
      obtain ⟨q, hq, e⟩ := List.mem_map.mp (hT p hp)
      exact TabS.nil (by rw [← e]; exact hH _ (List.mem_map.mpr ⟨q, hq, rfl⟩))
    refine ⟨rfl, [], fun _ => False, [.val (.list (ns.map .int))], [], .bool true, [], ⟨rfl, rfl, List.nodup_nil, fun a z => z.elim, tabs, fun k c a e1 => by simp at e1, fun i s e => ?_⟩, spec ns hl hb, fun v H' f1 R1 p1 => p1⟩
    cases i with
    | zero =>
      cases e
      exact ⟨.ref a, rfl, a, ns.map V.int, rfl, hid_rd_of (sqL_rd hno hS) (by simp), rpA_ints ns⟩
    | succ i => simp at e
  · obtain ⟨f', fd', G, hm', hk, hb', Fu⟩ := (hD base KX KG tb).ex
    rw [hmg] at hm'
    cases hm'
    obtain ⟨_, _, _, _, _, _, _, _, _, e1, lk1, _⟩ := Fu.ex
    obtain ⟨_, _, _, _, _, _, _, _, _, _, e2, lk2, _⟩ := Fd.ex
    rw [lk1] at lk2
    have : fd' = fd := by cases lk2; rfl
    rw [← this]
    exact G
end PD
end
section
set_option linter.all false
set_option maxRecDepth 100000
set_option maxHeartbeats 4000000
/-! P26: dicts of one's own by texts: {}, d[x] = y, d[x]; list.pop(i). -/
namespace PD
open PySem PySem.Spec PyProof.Rows L2

def cellD (ρ : List Slot) (μ : List Cell) (i : Nat) : Option (Nat × List (Str × D)) := match ρ[i]? with
  | some (.own k) => match μ[k]? with
    | some (.dct kvs) => some (k, kvs)
    | _ => none
  | _ => none
theorem cellD_some {ρ : List Slot} {μ : List Cell} {i k : Nat} {xs : List (Str × D)} (h : cellD ρ μ i = some (k, xs)) : ρ[i]? = some (.own k) ∧ μ[k]? = some (.dct xs) := by
  unfold cellD at h
  split at h
  · rename_i k' e
    split at h
    · rename_i ys em
      cases h
      exact ⟨e, em⟩
    · cases h
  · cases h
def dGet : List (Str × D) → Str → Option D
  | [], _ => none
  | p :: r, k => if p.1 = k then some p.2 else dGet r k
def dPut (kvs : List (Str × D)) (k : Str) (d : D) : List (Str × D) :=
  if (kvs.any fun p => decide (p.1 = k)) = true then kvs.map (fun p => if p.1 = k then (p.1, d) else p) else kvs ++ [(k, d)]
theorem get_cell {K : PySem.W.Frag} {Hv : Hp} {s : Str} : ∀ {kvs : List (Str × D)} {ws : List V} {d : D}, RpA K Hv ws (kvs.map (·.2)) → dGet kvs s = some d → ∃ v, valV (keyed (kvs.map (·.1)) ws) (.inr s) = some v ∧ Rp K Hv v d
  | [], ws, d, _, e => by cases e
  | p :: kvs, ws, d, ⟨w, r, e0, h1, h2⟩, e => by
    subst e0
    unfold dGet at e
    show ∃ v, valV ((.inr p.1, w) :: keyed (kvs.map (·.1)) r) (.inr s) = some v ∧ _
    by_cases q : p.1 = s
    · rw [if_pos q] at e
      cases e
      exact ⟨w, valV_pos (p := ((.inr p.1 : Key), w)) (by rw [q]), h1⟩
    · rw [if_neg q] at e
      obtain ⟨v, q1, q2⟩ := get_cell h2 e
      refine ⟨v, ?_, q2⟩
      have : ¬ ((Sum.inr p.1 : Key) = .inr s) := fun z => q (by cases z; rfl)
      simp only [valV, List.find?_cons, this, decide_false] at q1 ⊢
      exact q1
theorem any_cell {s : Str} : ∀ {kvs : List (Str × D)} {ws : List V}, ws.length = kvs.length → ((keyed (kvs.map (·.1)) ws).any fun kv => decide (kv.1 = (.inr s : Key))) = kvs.any fun p => decide (p.1 = s)
  | [], _, _ => by simp [keyed]
  | p :: kvs, [], h => by simp at h
  | p :: kvs, w :: ws, h => by
    have ih := any_cell (s := s) (kvs := kvs) (ws := ws) (by simpa using h)
    show (decide ((Sum.inr p.1 : Key) = .inr s) || _) = (decide (p.1 = s) || _)
    rw [← ih]
    by_cases q : p.1 = s
    · simp [q]
    · have : ¬ ((Sum.inr p.1 : Key) = .inr s) := fun z => q (by cases z; rfl)
      simp only [this, q, decide_false, Bool.false_or]
      rfl
theorem map_cell {K : PySem.W.Frag} {Hv : Hp} {s : Str} {v : V} {d : D} (hv : Rp K Hv v d) : ∀ {kvs : List (Str × D)} {ws : List V}, RpA K Hv ws (kvs.map (·.2)) →
    ∃ ws', (keyed (kvs.map (·.1)) ws).map (fun kv => if kv.1 = (.inr s : Key) then (kv.1, v) else kv) = keyed ((kvs.map fun p => if p.1 = s then (p.1, d) else p).map (·.1)) ws' ∧ RpA K Hv ws' ((kvs.map fun p => if p.1 = s then (p.1, d) else p).map (·.2))
  | [], ws, h => ⟨[], by simp [keyed], rfl⟩
  | p :: kvs, ws, ⟨w, r, e0, h1, h2⟩ => by
    subst e0
    obtain ⟨ws', q1, q2⟩ := map_cell (s := s) hv h2
    by_cases q : p.1 = s
    · refine ⟨v :: ws', ?_, ?_⟩
      · show (if (Sum.inr p.1 : Key) = .inr s then ((Sum.inr p.1 : Key), v) else (.inr p.1, w)) :: _ = _
        rw [if_pos (by rw [q])]
        simp only [List.map_cons, if_pos q]
        show _ = (Sum.inr p.1, v) :: keyed _ ws'
        rw [← q1]
        rfl
      · simp only [List.map_cons, if_pos q]
        exact ⟨v, ws', rfl, hv, q2⟩
    · have nq : ¬ ((Sum.inr p.1 : Key) = .inr s) := fun z => q (by cases z; rfl)
      refine ⟨w :: ws', ?_, ?_⟩
      · show (if (Sum.inr p.1 : Key) = .inr s then ((Sum.inr p.1 : Key), v) else (.inr p.1, w)) :: _ = _
        rw [if_neg nq]
        simp only [List.map_cons, if_neg q]
        show _ = (Sum.inr p.1, w) :: keyed _ ws'
        rw [← q1]
        rfl
      · simp only [List.map_cons, if_neg q]
        exact ⟨w, ws', rfl, h1, q2⟩
theorem keyed_snoc : ∀ {ks : List Str} {ws : List V} (k : Str) (v : V), ws.length = ks.length → keyed ks ws ++ [(.inr k, v)] = keyed (ks ++ [k]) (ws ++ [v])
  | [], [], k, v, _ => rfl
  | [], _ :: _, k, v, h => by simp at h
  | _ :: _, [], k, v, h => by simp at h
  | x :: ks, w :: ws, k, v, h => by
    have ih := keyed_snoc (ks := ks) (ws := ws) k v (by simpa using h)
    show (Sum.inr x, w) :: (keyed ks ws ++ [(.inr k, v)]) = (Sum.inr x, w) :: keyed (ks ++ [k]) (ws ++ [v])
    rw [ih]
theorem put_cell {K : PySem.W.Frag} {Hv : Hp} {s : Str} {v : V} {d : D} {kvs : List (Str × D)} {ws : List V} (hv : Rp K Hv v d) (h : RpA K Hv ws (kvs.map (·.2))) :
    ∃ ws', putK (keyed (kvs.map (·.1)) ws) (.inr s : Key) v = keyed ((dPut kvs s d).map (·.1)) ws' ∧ RpA K Hv ws' ((dPut kvs s d).map (·.2)) := by
  have hl : ws.length = kvs.length := by rw [h.length, List.length_map]
  unfold putK dPut
  rw [any_cell hl]
  by_cases q : (kvs.any fun p => decide (p.1 = s)) = true
  · rw [if_pos q, if_pos q]
    exact map_cell hv h
  · rw [if_neg q, if_neg q]
    refine ⟨ws ++ [v], ?_, ?_⟩
    · rw [List.map_append]
      exact keyed_snoc s v (by rw [List.length_map]; exact hl)
    · rw [List.map_append]
      exact RpA.app h (RpA.one hv)
theorem keyed_len {ks : List Str} {ws : List V} : (keyed ks ws).length = min ks.length ws.length := by simp [keyed]
def sNewD (i : Nat) : MS := fun _ ρ μ => some (.next (ρ.set i (.own μ.length)) (μ ++ [.dct []]))
def eGetD (i : Nat) (m : ME) : ME := fun ρ μ => (m ρ μ).bind fun p => match p.1 with
  | .str s => (cellD ρ p.2 i).bind fun c => (dGet c.2 s).map fun d => (d, p.2)
  | _ => none
def sPutD (i : Nat) (mk mv : ME) : MS := fun _ ρ μ => (mv ρ μ).bind fun p => (mk ρ p.2).bind fun q => match q.1 with
  | .str s => (cellD ρ q.2 i).bind fun c => if c.2.length < sizeLine then some (.next ρ (q.2.set c.1 (.dct (dPut c.2 s p.1)))) else none
  | _ => none
def ePopAt (B : Nat → Bool) (i : Nat) (m : ME) : ME := fun ρ μ => (cellL ρ μ i).bind fun _ => (m ρ μ).bind fun p => match p.1 with
  | .int j => (cellL ρ p.2 i).bind fun c => if noBo B ρ c.1 && okR j then (ixN c.2.length j).bind fun jj => (c.2[jj]?).map fun d => (d, p.2.set c.1 (.lst (c.2.eraseIdx jj))) else none
  | _ => none
theorem RpA.erase {K : PySem.W.Frag} {H : Hp} : ∀ {vs : List V} {ds : List D} (i : Nat), RpA K H vs ds → RpA K H (vs.eraseIdx i) (ds.eraseIdx i)
  | _, [], i, h => by rw [show _ = [] from h]; simp [RpA]
  | _, d :: ds, 0, ⟨v, r, e, h1, h2⟩ => by subst e; exact h2
  | _, d :: ds, i + 1, ⟨v, r, e, h1, h2⟩ => by subst e; exact ⟨v, r.eraseIdx i, rfl, h1, RpA.erase i h2⟩
section
variable {X : Cx} {T : List (Addr × Str)} {Φ : Fx} {B B' : Nat → Bool} {a b e : Expr} {ma mb me : ME} {pos p pos' : Pos} {k : Nat}
theorem s_newD (i : Nat) {x : Str} {pos' dp : Pos} (hN : X.N.Nodup) (hi : X.N[i]? = some x := by rfl) (hx : Loc X.env.scope x := by first | exact Or.inl rfl | exact Or.inr rfl) (hs : swapsWith (.Dict [] [] dp) (some (.Name x pos')) pos.line X.env = pure false := by rfl)
    (hf : X.fn x = true ∨ X.env.scope.names.lookup x = some .local := by first | exact .inl rfl | exact .inr rfl) : PDs X T Φ (.Assign [.Name x pos'] (.Dict [] [] dp) pos) (sNewD i) := PS.cons (ps_set hN hi hx pe_dnewK hs hf) fun Dn σ H ⟨A, Z, n0, ρ, μ, fl, R, hn, hm, k⟩ => by
  cases hm
  intro l hl
  have R1 := R.more (o := .dK []) hl
  have nz : ¬ Z l := fun z => (R.zo l z).2 (.inl hl)
  refine k _ _ (A ++ [l]) ⟨Fw.same (same_upd hl), [l], rfl, fun x hx => by rw [show x = l by simpa using hx]; exact .inl hl⟩ (R1.pushC (c0 := .dct []) nz ⟨[], upd_same, rfl⟩ i)
theorem new_of {mf : MA} {i : Nat} {Dn : Ends} {σ : L2.St} {H : Hp} (h : tS X.K T Φ (sNew i mf) Dn σ H) : tAsg (tF X.K T Φ B0 mf) (gName i) Dn σ H := by
  obtain ⟨A, Z, n0, ρ, μ, fl, R, hn, hm, k⟩ := h
  unfold sNew at hm
  cases e : mf ρ μ with
  | none => rw [e] at hm; cases hm
  | some p =>
    rw [e] at hm; cases hm
    refine ⟨A, Z, ρ, μ, p.1, p.2, R, e, fun l vs H1 f1 nz R1 n1 h1 h2 => ?_⟩
    refine k _ H1 (A ++ [l]) ⟨f1.mono fun _ h => h.mem, [l], rfl, fun x hx => by rw [show x = l by simpa using hx]; exact n1⟩ (R1.push nz h1 (RpA.mono (hid_le fun x z => ?_) _ _ h2) i)
    exact zw0.mpr z
/-- name = [..] on one line, a list of one's own -/
theorem s_newLc {elt tg iter : Expr} {ifs : List Expr} {scope : Scope} {mi : MA} {g : MG} {mt : MT} (own : List (Str × Nat)) {y : Str} {py pos spos : Pos} (i : Nat) (hc : X.calm = true) (hN : X.N.Nodup) (hi : PDi X T Φ B0 tg iter mi) (ok : BlkOk X.N X.env.scope scope own)
    (hg : ∀ (s : Shared) (H : Hp) (C : Addr) (cl : List (Str × Addr)) (fp : List Addr), PDc (X.blk s H scope (compEnvC scope cl C X.env) fp) T Φ (own.map (·.2)) tg g) (ht : ∀ (s : Shared) (H : Hp) (C : Addr) (cl : List (Str × Addr)) (fp : List Addr), PDts (X.blk s H scope (compEnvC scope cl C X.env) fp) T Φ B0 ifs mt)
    (he : ∀ (s : Shared) (H : Hp) (C : Addr) (cl : List (Str × Addr)) (fp : List Addr), PDe (X.blk s H scope (compEnvC scope cl C X.env) fp) T Φ B0 elt me) (hy : X.N[i]? = some y := by rfl) (hyl : X.env.scope.names.lookup y = some .local := by rfl)
    (hsw : swapsWith (.ListComp elt [⟨tg, iter, ifs, 0⟩] scope pos) (some (.Name y py)) spos.line X.env = pure true := by rfl) (hs : ∀ x, foldedSetIterable iter X.env x = pure x := by intro _; rfl) :
    PDs X T Φ (.Assign [.Name y py] (.ListComp elt [⟨tg, iter, ifs, 0⟩] scope pos) spos) (sNew i (mLc true mi (own.map (·.2)) g mt me)) :=
  PS.cons (ps_setLc hc hN hy hyl hsw hi ok hg ht he hs) fun Dn σ H h => lc_of (sb := true) (fun _ => rfl) σ H _ (new_of h)
theorem pd_getD (i : Nat) {x : Str} (hr : Room k X.A) (ha : PDe X T Φ B e me) (hN : X.N[i]? = some x := by rfl) (hv : Vis X.env.scope x := by first | exact Or.inl rfl | exact Or.inr (Or.inl rfl) | exact Or.inr (Or.inr rfl)) (hd : (x == ("__debug__" : Str)) = false := by decide) (hcd : (x == ("__classdict__" : Str)) = false := by decide)
    (hs : NoSl e := by intro _ _; rfl) : PDe X T Φ B (.Subscript (.Name x p) e pos) (eGetD i me) := PE.cons (pe_dget (by have := hr.units; omega) (pe_var hN hv hd hcd) ha hs) fun σ H Q ⟨A, Z, ρ, μ, d, μ', R, hm, kq⟩ => by
  unfold eGetD at hm
  cases e1 : me ρ μ with
  | none => rw [e1] at hm; cases hm
  | some q =>
    rw [e1, Option.bind_some] at hm
    split at hm
    · rename_i s hq
      cases e2 : cellD ρ q.2 i with
      | none => rw [e2] at hm; cases hm
      | some c =>
        rw [e2, Option.bind_some] at hm
        cases e3 : dGet c.2 s with
        | none => rw [e3] at hm; cases hm
        | some d' =>
          rw [e3] at hm
          cases hm
          obtain ⟨c1, c2⟩ := c
          obtain ⟨s1, s2⟩ := cellD_some e2
          obtain ⟨l, a1, a2⟩ := R.slot i _ s1
          refine ⟨.ref l, a2, A, Z, ρ, μ, q.1, q.2, R, e1, fun y H2 f2 R2 p2 => ?_⟩
          rw [hq] at p2
          obtain ⟨ws, h1, h2⟩ := R2.cell c1 (.dct c2) l s2 a1
          obtain ⟨v, g1, g2⟩ := get_cell h2 e3
          refine ⟨l, v, rfl, ?_, kq v H2 f2 R2 (Rp.mono (Rep.see H2) _ _ g2)⟩
          rw [← g1, show y = L2.kV (.inr s) from p2]
          exact DGet.k h1
    · cases hm
theorem s_putD (i : Nat) {x : Str} (hr : Room k X.A) (hkey : PDe X T Φ B0 e me) (hval : PDe X T Φ B0 a ma) (hN : X.N[i]? = some x := by rfl) (hv : Vis X.env.scope x := by first | exact Or.inl rfl | exact Or.inr (Or.inl rfl) | exact Or.inr (Or.inr rfl)) (hd : (x == ("__debug__" : Str)) = false := by decide) (hcd : (x == ("__classdict__" : Str)) = false := by decide)
    (hs : swapsWith a (some (.Subscript (.Name x p) e pos')) pos.line X.env = pure false := by rfl) : PDs X T Φ (.Assign [.Subscript (.Name x p) e pos'] a pos) (sPutD i me ma) := PS.cons (ps_dput (by have := hr.units; omega) (pe_var hN hv hd hcd) hkey hval hs) fun Dn σ H ⟨A, Z, n0, ρ, μ, fl, R, hn, hm, kq⟩ => by
  unfold sPutD at hm
  cases e1 : ma ρ μ with
  | none => rw [e1] at hm; cases hm
  | some pv =>
    rw [e1, Option.bind_some] at hm
    cases e2 : me ρ pv.2 with
    | none => rw [e2] at hm; cases hm
    | some q =>
      rw [e2, Option.bind_some] at hm
      split at hm
      · rename_i s hq
        cases e3 : cellD ρ q.2 i with
        | none => rw [e3] at hm; cases hm
        | some c =>
          rw [e3, Option.bind_some] at hm
          split at hm
          · rename_i hl
            cases hm
            obtain ⟨c1, c2⟩ := c
            obtain ⟨s1, s2⟩ := cellD_some e3
            obtain ⟨l, a1, a2⟩ := R.slot i _ s1
            refine ⟨A, Z, ρ, μ, pv.1, pv.2, R, e1, fun v H1 f1 R1 p1 => ⟨.ref l, a2, A, Z, ρ, pv.2, q.1, q.2, R1, e2, fun y H2 f2 R2 p2 => ?_⟩⟩
            rw [hq] at p2
            obtain ⟨ws, h1, h2⟩ := R2.cell c1 (.dct c2) l s2 a1
            have pv2 : Rp X.K (hid H2 fun x => Z x ∨ x ∈ A) v pv.1 := Rp.mono (hid_le fun x z => zw0.mpr z) _ _ (Rp.mono (fw_xt f2) _ _ p1)
            obtain ⟨ws', g1, g2⟩ := put_cell (s := s) pv2 h2
            have hlen : (keyed (c2.map (·.1)) ws).length < sizeLine := by
              rw [keyed_len, List.length_map, h2.length, List.length_map, Nat.min_self]
              exact hl
            refine ⟨l, _, rfl, by rw [show y = L2.kV (.inr s) from p2]; exact DPut.k h1 hlen, ?_⟩
            rw [g1]
            have xt : XT (hid H2 fun x => Z x ∨ x ∈ A) (hid H2 fun x => Z x ∨ x ∈ A) := fun _ _ h _ => h
            refine kq σ _ A (Fs.of ((((f1.mono fun _ h => h.mem).trans (f2.mono fun _ h => h.mem))).trans ⟨fun b o eb nb t => ?_, fun b eb => ?_⟩)) (R2.putC (c0 := .dct (dPut c2 s pv.1)) a1 rfl ⟨ws', upd_same, g2⟩)
            · rw [upd_ne (show b ≠ l from fun z => nb (by rw [z]; exact List.mem_of_getElem? a1))]; exact eb
            · exact fr_up (fun ps z => by cases z) eb
          · cases hm
      · cases hm
theorem pd_popAt (i : Nat) {x : Str} {apos cpos : Pos} (hBB : ∀ j, B j = true → B' j = true) (ha : PDe X T Φ B' a ma) (hN : X.N[i]? = some x := by rfl) (hv : Vis X.env.scope x := by first | exact Or.inl rfl | exact Or.inr (Or.inl rfl) | exact Or.inr (Or.inr rfl)) (hd : (x == ("__debug__" : Str)) = false := by decide) (hcd : (x == ("__classdict__" : Str)) = false := by decide)
    (hst : starEach [a] X.env = (false, eval a X.env) :: starEach [] X.env := by rfl) (hbase : attributeBase (.Name x p) "pop" X.env (eval (.Name x p) X.env) = eval (.Name x p) X.env := by rfl)
    (hfew : ((backTo cpos (starEach [a] X.env)).all (fun x => !x.1) && (backToKw cpos (keywordEach [] X.env)).all (fun x => x.1.isSome)
      && decide ([a].length + ([] : List Keyword).length + (if ([] : List Keyword).isEmpty then 0 else 1) < 30)) = true := by rfl)
    (hline : (apos.endLine == cpos.line) = true := by rfl) (hpl : (backTo cpos (starEach [] X.env)).any (·.1) = false := by rfl) :
    PDe X T Φ B (.Call (.Attribute (.Name x p) "pop" apos) [a] [] cpos) (ePopAt B i ma) :=
  PE.cons (pe_bm PySem.F.plainAttrs_list PySem.F.slot_list_pop PySem.F.type_list_pop mt_popAt (pe_var hN hv hd hcd) (pa_cons ha pa_nil hst) hbase hfew hline hst hpl) fun σ H Q ⟨A, Z, ρ, μ, d, μ', R, hm, kq⟩ => by
  unfold ePopAt at hm
  cases e0 : cellL ρ μ i with
  | none => rw [e0] at hm; cases hm
  | some c0 =>
  rw [e0, Option.bind_some] at hm
  obtain ⟨k0, xs0⟩ := c0
  obtain ⟨s01, s02⟩ := cellL_some e0
  cases e1 : ma ρ μ with
  | none => rw [e1] at hm; cases hm
  | some q =>
    rw [e1, Option.bind_some] at hm
    split at hm
    · rename_i j hq
      cases e2 : cellL ρ q.2 i with
      | none => rw [e2] at hm; cases hm
      | some c =>
        rw [e2, Option.bind_some] at hm
        obtain ⟨c1, c2⟩ := c
        split at hm
        · rename_i hc
          obtain ⟨hno, hok⟩ := Bool.and_eq_true_iff.mp hc
          cases e3 : ixN c2.length j with
          | none => rw [e3] at hm; cases hm
          | some jj =>
            rw [e3, Option.bind_some] at hm
            cases e4 : c2[jj]? with
            | none => rw [e4] at hm; cases hm
            | some d' =>
              rw [e4] at hm
              cases hm
              obtain ⟨s1, s2⟩ := cellL_some e2
              obtain ⟨l, a1, a2⟩ := R.slot i _ s1
              have kk : k0 = c1 := by rw [s1] at s01; cases s01; rfl
              subst kk
              obtain ⟨vs0, hl0, _⟩ := R.cell k0 (.lst _) l s02 a1
              refine ⟨.ref l, a2, .inl ⟨rfl, vs0, .inl (.inl hl0)⟩, A, Z, ρ, μ, q.1, q.2, R, e1, fun y H1 f1 R1 p1 => ?_⟩
              rw [hq] at p1
              obtain ⟨vs, h1, h2⟩ := R1.cell k0 (.lst _) l s2 a1
              obtain ⟨w, g1, g2⟩ := h2.get e4
              obtain ⟨i1, i2, i3, i4⟩ := ixN_seq e3
              have ob : -(2 ^ 62) ≤ j ∧ j < 2 ^ 62 := by simpa [okR] using hok
              refine ⟨l, vs, j, jj, w, rfl, by rw [show y = V.int j from p1], h1, by omega, by omega, by rw [h2.length]; exact i1, g1, ?_⟩
              have ml : l ∈ A := List.mem_of_getElem? a1
              have R2 := R1.put a1 (RpA.erase jj h2)
              have wl : Wr B ρ A l := wr_of hno a1
              refine kq w _ ((f1.mono fun b hb => ?_).trans ⟨fun b o eb nb t => ?_, fun b eb => ?_⟩) R2 (Rp.mono (Rep.see _) _ _ (Rp.mono (fun b o eb t => ?_) _ _ g2))
              · obtain ⟨kk, z1, z2⟩ := hb
                exact ⟨kk, z1, fun ⟨j, y1, y2⟩ => z2 ⟨j, hBB j y1, y2⟩⟩
              · rw [upd_ne (show b ≠ l from fun z => nb (by rw [z]; exact wl))]; exact eb
              · exact fr_up (fun ps z => by cases z) eb
              · have qq := of_hid eb
                rw [hid_of qq.2, upd_ne (show b ≠ l from fun z => qq.2 (.inr (by rw [z]; exact ml)))]
                exact qq.1
        · cases hm
    · cases hm
end
end PD
end
section
set_option linter.all false
set_option maxRecDepth 100000
set_option maxHeartbeats 4000000
namespace PD
open PySem
/-! what a meaning tells, told as: it tells something of which Q -/
def wp {α β : Type} (o : Option (α × β)) (Q : α → β → Prop) : Prop := ∃ a b, o = some (a, b) ∧ Q a b
def wp1 {α : Type} (o : Option α) (Q : α → Prop) : Prop := ∃ a, o = some a ∧ Q a
section
variable {α β γ : Type}
theorem wp_some {a : α} {b : β} {Q : α → β → Prop} : wp (some (a, b)) Q ↔ Q a b := ⟨fun ⟨_, _, e, q⟩ => by cases e; exact q, fun q => ⟨_, _, rfl, q⟩⟩
theorem wp1_some {a : α} {Q : α → Prop} : wp1 (some a) Q ↔ Q a := ⟨fun ⟨_, e, q⟩ => by cases e; exact q, fun q => ⟨_, rfl, q⟩⟩
theorem wp.mono {o : Option (α × β)} {Q R : α → β → Prop} (h : wp o Q) (k : ∀ a b, Q a b → R a b) : wp o R := by
  obtain ⟨a, b, e, q⟩ := h
  exact ⟨a, b, e, k a b q⟩
theorem wp1.mono {o : Option α} {Q R : α → Prop} (h : wp1 o Q) (k : ∀ a, Q a → R a) : wp1 o R := by
  obtain ⟨a, e, q⟩ := h
  exact ⟨a, e, k a q⟩
theorem wp_of {o : Option (α × β)} {a : α} {b : β} {Q : α → β → Prop} (h : o = some (a, b)) (q : Q a b) : wp o Q := ⟨a, b, h, q⟩
theorem wp1_of {o : Option α} {a : α} {Q : α → Prop} (h : o = some a) (q : Q a) : wp1 o Q := ⟨a, h, q⟩
theorem wp1_if {c : Prop} [Decidable c] {a : α} {Q : α → Prop} : wp1 (if c then some a else none) Q ↔ c ∧ Q a := by
  by_cases h : c <;> simp [h, wp1]
theorem wp_if {c : Prop} [Decidable c] {p : α × β} {Q : α → β → Prop} : wp (if c then some p else none) Q ↔ c ∧ Q p.1 p.2 := by
  by_cases h : c
  · obtain ⟨a, b⟩ := p
    rw [if_pos h, wp_some]
    exact ⟨fun q => ⟨h, q⟩, fun q => q.2⟩
  · rw [if_neg h]
    exact ⟨fun ⟨_, _, e, _⟩ => (by cases e), fun q => absurd q.1 h⟩
theorem wp_map1 {o : Option γ} {f : γ → α} {m : β} {Q : α → β → Prop} : wp (o.map fun d => (f d, m)) Q ↔ wp1 o fun d => Q (f d) m := by
  cases o with
  | none => exact ⟨fun ⟨_, _, e, _⟩ => (by cases e), fun ⟨_, e, _⟩ => (by cases e)⟩
  | some d => rw [Option.map_some, wp_some, wp1_some]
theorem wp_map {δ : Type} {o : Option (γ × δ)} {f : γ → α} {g : δ → β} {Q : α → β → Prop} : wp (o.map fun q => (f q.1, g q.2)) Q ↔ wp o fun a b => Q (f a) (g b) := by
  cases o with
  | none => exact ⟨fun ⟨_, _, e, _⟩ => (by cases e), fun ⟨_, _, e, _⟩ => (by cases e)⟩
  | some d => obtain ⟨a, b⟩ := d; rw [Option.map_some, wp_some, wp_some]
theorem wp_none {Q : α → β → Prop} : wp (none : Option (α × β)) Q ↔ False := ⟨fun ⟨_, _, e, _⟩ => (by cases e), False.elim⟩
theorem wp_bind {o : Option γ} {f : γ → Option (α × β)} {Q : α → β → Prop} : wp (o.bind f) Q ↔ ∃ c, o = some c ∧ wp (f c) Q := by
  cases o <;> simp [wp]
theorem wp1_bind {o : Option γ} {f : γ → Option α} {Q : α → Prop} : wp1 (o.bind f) Q ↔ ∃ c, o = some c ∧ wp1 (f c) Q := by
  cases o <;> simp [wp1]
end
section
variable {ρ : List Slot} {μ : List Cell} {a b : ME} {r : MA} {t u : MT} {Q : D → List Cell → Prop} {QA : List D → List Cell → Prop} {QT : Bool → List Cell → Prop}
theorem wp_eC {d : D} : wp (eC d ρ μ) Q ↔ Q d μ := wp_some
theorem wp_e1 {g : G1} : wp (e1 g a ρ μ) Q ↔ wp (a ρ μ) fun x μ1 => wp1 (g x) fun z => Q z μ1 := by
  unfold e1
  cases a ρ μ with
  | none => exact ⟨fun ⟨_, _, e, _⟩ => (by cases e), fun ⟨_, _, e, _⟩ => (by cases e)⟩
  | some p => obtain ⟨x, m⟩ := p; rw [Option.bind_some, wp_some]; exact wp_map1
theorem wp_e2 {g : G2} : wp (e2 g a b ρ μ) Q ↔ wp (a ρ μ) fun x μ1 => wp (b ρ μ1) fun y μ2 => wp1 (g x y) fun z => Q z μ2 := by
  unfold e2
  cases a ρ μ with
  | none => simp [wp]
  | some p =>
    obtain ⟨x, m⟩ := p
    rw [Option.bind_some, wp_some]
    dsimp only
    cases b ρ m with
    | none => simp [wp]
    | some q => obtain ⟨y, m2⟩ := q; rw [Option.bind_some, wp_some]; exact wp_map1
theorem wp_eL {g : GL} : wp (eL g r ρ μ) Q ↔ wp (r ρ μ) fun xs μ1 => wp1 (g xs) fun z => Q z μ1 := by
  unfold eL
  cases r ρ μ with
  | none => exact ⟨fun ⟨_, _, e, _⟩ => (by cases e), fun ⟨_, _, e, _⟩ => (by cases e)⟩
  | some p => obtain ⟨x, m⟩ := p; rw [Option.bind_some, wp_some]; exact wp_map1
theorem wp_aN : wp (aN ρ μ) QA ↔ QA [] μ := wp_some
theorem wp_aC : wp (aC a r ρ μ) QA ↔ wp (a ρ μ) fun x μ1 => wp (r ρ μ1) fun xs μ2 => QA (x :: xs) μ2 := by
  unfold aC
  cases a ρ μ with
  | none => simp [wp]
  | some p => obtain ⟨x, m⟩ := p; rw [Option.bind_some, wp_some]; exact wp_map (f := fun q => x :: q) (g := id)
theorem wp_eF {mf : MA} : wp (eF mf ρ μ) Q ↔ wp (mf ρ μ) fun ds μ1 => Q (.list ds) μ1 := by
  exact wp_map (f := fun x => PyData.list x) (g := id)
theorem wp_mLst : wp (mLst r ρ μ) QA ↔ wp (r ρ μ) fun ds μ1 => ds.length ≤ sizeLine ∧ QA ds μ1 := by
  unfold mLst
  cases r ρ μ with
  | none => simp [wp]
  | some p =>
    obtain ⟨x, m⟩ := p
    rw [Option.bind_some, wp_some]
    dsimp only
    exact wp_if
theorem wp_tV : wp (tV a ρ μ) QT ↔ wp (a ρ μ) fun x μ1 => wp1 (gBool x) fun b => QT b μ1 := by
  unfold tV
  cases a ρ μ with
  | none => exact ⟨fun ⟨_, _, e, _⟩ => (by cases e), fun ⟨_, _, e, _⟩ => (by cases e)⟩
  | some p => obtain ⟨x, m⟩ := p; rw [Option.bind_some, wp_some]; exact wp_map1
theorem wp_tTrue : wp (tTrue ρ μ) QT ↔ QT true μ := wp_some
theorem wp_eIf : wp (eIf t a b ρ μ) Q ↔ wp (t ρ μ) fun c μ1 => (c = true → wp (a ρ μ1) Q) ∧ (c = false → wp (b ρ μ1) Q) := by
  unfold eIf
  cases t ρ μ with
  | none => simp [wp]
  | some p => obtain ⟨x, m⟩ := p; rw [Option.bind_some, wp_some]; cases x <;> simp
theorem wp_tAnd : wp (tAnd t u ρ μ) QT ↔ wp (t ρ μ) fun c μ1 => (c = true → wp (u ρ μ1) QT) ∧ (c = false → QT false μ1) := by
  unfold tAnd
  cases t ρ μ with
  | none => simp [wp]
  | some p => obtain ⟨x, m⟩ := p; rw [Option.bind_some, wp_some]; cases x <;> simp [wp_some]
theorem wp_tOr : wp (tOr t u ρ μ) QT ↔ wp (t ρ μ) fun c μ1 => (c = true → QT true μ1) ∧ (c = false → wp (u ρ μ1) QT) := by
  unfold tOr
  cases t ρ μ with
  | none => simp [wp]
  | some p => obtain ⟨x, m⟩ := p; rw [Option.bind_some, wp_some]; cases x <;> simp [wp_some]
theorem wp_tNot : wp (tNot t ρ μ) QT ↔ wp (t ρ μ) fun c μ1 => QT (!c) μ1 := by
  exact wp_map (f := fun x => !x) (g := id)
theorem wp_rN {QR : List Arg → List Cell → Prop} : wp (rN ρ μ) QR ↔ QR [] μ := wp_some
theorem wp_rV {r : MAr} {QR : List Arg → List Cell → Prop} : wp (rV a r ρ μ) QR ↔ wp (a ρ μ) fun x μ1 => wp (r ρ μ1) fun xs μ2 => QR (.v x :: xs) μ2 := by
  unfold rV
  cases a ρ μ with
  | none => simp [wp]
  | some p => obtain ⟨x, m⟩ := p; rw [Option.bind_some, wp_some]; exact wp_map (f := fun q => Arg.v x :: q) (g := id)
theorem wp_rL {B : Nat → Bool} {i k : Nat} {r : MAr} {QR : List Arg → List Cell → Prop} (hi : ρ[i]? = some (.own k)) (hb : noBo B ρ k = true) (h : wp (r ρ μ) fun xs μ2 => QR (.l k :: xs) μ2) : wp (rL B i r ρ μ) QR := by
  unfold rL
  rw [hi]
  dsimp only
  rw [if_pos hb]
  obtain ⟨xs, m, e, q⟩ := h
  exact ⟨_, _, by rw [e]; rfl, q⟩
theorem wp_eCall {n : Nat} {F : FD} {r : MAr} (h : wp (r ρ μ) fun as μ1 => ∃ cs, cellsOf μ1 (lentOf as) = some cs ∧ (nodupB (lentOf as) && (slotsOf 0 as).length == n) = true ∧ wp (F (slotsOf 0 as) cs) fun d cs' => flatCs cs' = true ∧ Q d (setCells μ1 (lentOf as) cs')) : wp (eCall n F r ρ μ) Q := by
  obtain ⟨as, m, e, cs, h1, h2, d, cs', h3, h4, q⟩ := h
  refine ⟨d, _, ?_, q⟩
  unfold eCall
  rw [e, Option.bind_some]
  dsimp only
  rw [h1, Option.bind_some, if_pos h2, h3, Option.bind_some]
  dsimp only
  rw [if_pos h4]
theorem wp_rng1 {ρ : List Slot} : wp (rng1 r ρ μ) QA ↔ wp (r ρ μ) fun ds μ1 => ∃ j, ds = [.int j] ∧ okR j = true ∧ QA (rngD 0 j.toNat) μ1 := by
  unfold rng1
  cases r ρ μ with
  | none => simp [wp]
  | some p =>
    obtain ⟨x, m⟩ := p
    rw [Option.bind_some, wp_some]
    dsimp only
    constructor
    · intro h
      split at h
      · rename_i j
        by_cases o : okR j = true
        · rw [if_pos o, wp_some] at h
          exact ⟨j, rfl, o, h⟩
        · rw [if_neg o] at h
          simp [wp] at h
      · simp [wp] at h
    · rintro ⟨j, rfl, o, q⟩
      dsimp only
      rw [if_pos o, wp_some]
      exact q
def itemsAny : D → Option (List D)
  | .list ds => some ds
  | .tuple ds => some ds
  | .str x => some (x.cps.toList.map fun c => .str ⟨#[c]⟩)
  | _ => none
theorem wp_any (h : wp (a ρ μ) fun d μ1 => wp1 (itemsAny d) fun ds => QA ds μ1) : wp (anyItems a ρ μ) QA := by
  obtain ⟨d, m, e, ds, h1, q⟩ := h
  cases d <;> simp [itemsAny] at h1
  all_goals
    subst h1
    exact ⟨_, _, by simp [anyItems, lstItems, tupItems, strItems, e], q⟩
theorem wp_eSl {lo hi : MP} (h : wp (a ρ μ) fun d μ1 => wp (lo ρ μ1) fun l μ2 => wp (hi ρ μ2) fun u μ3 => wp1 (gSl d l u) fun z => Q z μ3) : wp (eSl a lo hi ρ μ) Q := by
  obtain ⟨d, m, e, l, m2, e2, u, m3, e3, z, e4, q⟩ := h
  refine ⟨z, m3, ?_, q⟩
  simp [eSl, e, e2, e3, e4]
theorem wp_pN {QP : Option Int → List Cell → Prop} : wp (pN ρ μ) QP ↔ QP none μ := wp_some
theorem wp_pS {QP : Option Int → List Cell → Prop} (h : wp (a ρ μ) fun d μ1 => ∃ i, d = .int i ∧ QP (some i) μ1) : wp (pS a ρ μ) QP := by
  obtain ⟨d, m, e, i, rfl, q⟩ := h
  exact ⟨some i, m, by simp [pS, e], q⟩
theorem wp_mLc {s : Bool} {mi : MA} {vs : List Nat} {g : MG} {e : ME} (h : wp (mi ρ μ) fun ds μ1 => noOwn ρ vs = true ∧ (s || flatA ds) = true ∧ ds.length ≤ sizeLine ∧ wp (lcD g t e (wipeD ρ vs) ds μ1) QA) : wp (mLc s mi vs g t e ρ μ) QA := by
  obtain ⟨ds, m, e1, h1, h2, h3, h4⟩ := h
  unfold mLc
  rw [e1, Option.bind_some]
  dsimp only
  rw [if_pos (by simp [h1, h2, h3])]
  exact h4
/-- a comprehension with a drawn test: what is kept is kept in its order -/
theorem wp_lcF {α : Type} {g : MG} {e : ME} {ρ0 : List Slot} (I : List Cell → Prop) (enc : α → D) (f : α → D) : ∀ (xs : List α) (μ : List Cell), I μ → (∀ x ∈ xs, ∀ μ, I μ → wp (g (enc x) ρ0 μ) fun ρ1 μ1 => wp (t ρ1 μ1) fun c μ2 => I μ2 ∧ (c = true → e ρ1 μ2 = some (f x, μ2))) →
    wp (lcD g t e ρ0 (xs.map enc) μ) fun rs μ' => I μ' ∧ ∃ ys : List α, ys.Sublist xs ∧ rs = ys.map f
  | [], μ, hI, _ => ⟨_, _, rfl, hI, [], .slnil, rfl⟩
  | x :: xs, μ, hI, h => by
    obtain ⟨ρ1, μ1, e1, c, μ2, e2, hI2, hc⟩ := h x (List.mem_cons_self ..) μ hI
    obtain ⟨rs, μ', e3, hI', ys, hs, hr⟩ := wp_lcF I enc f xs μ2 hI2 fun y hy => h y (List.mem_cons_of_mem _ hy)
    rw [List.map_cons]
    unfold lcD
    rw [e1, Option.bind_some]
    dsimp only
    rw [e2, Option.bind_some]
    dsimp only
    cases c
    · rw [if_neg (by decide)]
      exact ⟨rs, μ', e3, hI', ys, hs.cons _, hr⟩
    · rw [if_pos rfl, hc rfl, Option.bind_some]
      dsimp only
      rw [e3]
      exact ⟨_, _, rfl, hI', x :: ys, hs.cons_cons x, by rw [hr]; rfl⟩
/-- a comprehension whose values are drawn -/
theorem wp_lcN {α β : Type} {g : MG} {e : ME} {ρ0 : List Slot} (I : List Cell → Prop) (enc : α → D) (dec : β → D) (P : β → Prop) : ∀ (xs : List α) (μ : List Cell), I μ → (∀ x ∈ xs, ∀ μ, I μ → wp (g (enc x) ρ0 μ) fun ρ1 μ1 => wp (e ρ1 μ1) fun d μ2 => I μ2 ∧ ∃ y, d = dec y ∧ P y) →
    wp (lcD g tTrue e ρ0 (xs.map enc) μ) fun rs μ' => I μ' ∧ ∃ ys : List β, ys.length = xs.length ∧ rs = ys.map dec ∧ ∀ y ∈ ys, P y
  | [], μ, hI, _ => ⟨_, _, rfl, hI, [], rfl, rfl, fun _ h => by cases h⟩
  | x :: xs, μ, hI, h => by
    obtain ⟨ρ1, μ1, e1, d, μ2, e2, hI2, y, hd, hp⟩ := h x (List.mem_cons_self ..) μ hI
    obtain ⟨rs, μ', e3, hI', ys, hs, hr, ha⟩ := wp_lcN I enc dec P xs μ2 hI2 fun y hy => h y (List.mem_cons_of_mem _ hy)
    rw [List.map_cons]
    unfold lcD
    rw [e1, Option.bind_some]
    dsimp only
    rw [show tTrue ρ1 μ1 = some (true, μ1) from rfl, Option.bind_some]
    dsimp only
    rw [if_pos rfl, e2, Option.bind_some]
    dsimp only
    rw [e3]
    exact ⟨_, _, rfl, hI', y :: ys, by simp [hs], by rw [hr, hd]; rfl, fun z hz => by
      rcases List.mem_cons.mp hz with rfl | hz
      · exact hp
      · exact ha z hz⟩
end
section
variable {n n0 m : Nat} {ρ : List Slot} {μ : List Cell} {a b : ME} {ms mr : MS} {r : MA} {t : MT} {g : MG} {Q : Fl → Prop}
/-- a test that tells b -/
theorem wp1_test {o : Option D} {b : Bool} {Q : Bool → Prop} (h : o = some (.bool b)) (q : Q b) : wp1 o fun x => wp1 (gBool x) Q := ⟨_, h, _, rfl, q⟩
def thenF (b : MS) (n : Nat) (Q : Fl → Prop) : Fl → Prop
  | .next ρ μ => wp1 (b n ρ μ) Q
  | .brk ρ μ => Q (.brk ρ μ)
  | .cont ρ μ => Q (.cont ρ μ)
  | .ret d μ => Q (.ret d μ)
theorem ws_seq (h : wp1 (ms n ρ μ) (thenF mr n Q)) : wp1 (sSeq ms mr n ρ μ) Q := by
  obtain ⟨fl, e, q⟩ := h
  unfold sSeq
  rw [e, Option.bind_some]
  cases fl with
  | next ρ μ => exact q
  | brk ρ μ => exact ⟨_, rfl, q⟩
  | cont ρ μ => exact ⟨_, rfl, q⟩
  | ret d μ => exact ⟨_, rfl, q⟩
theorem ws_nil (h : Q (.next ρ μ)) : wp1 (sNil n ρ μ) Q := ⟨_, rfl, h⟩
theorem ws_if (h : wp (t ρ μ) fun c μ1 => (c = true → wp1 (ms n ρ μ1) Q) ∧ (c = false → wp1 (mr n ρ μ1) Q)) : wp1 (sIf t ms mr n ρ μ) Q := by
  obtain ⟨c, m1, e, h1, h2⟩ := h
  unfold sIf
  rw [e, Option.bind_some]
  cases c
  · rw [if_neg Bool.false_ne_true]; exact h2 rfl
  · rw [if_pos rfl]; exact h1 rfl
theorem ws_as (h : wp (a ρ μ) fun d μ1 => wp (g d ρ μ1) fun ρ' μ' => Q (.next ρ' μ')) : wp1 (sAs a g n ρ μ) Q := by
  obtain ⟨d, m1, e, ρ', μ', e2, q⟩ := h
  exact ⟨_, by simp [sAs, e, e2], q⟩
theorem ws_asF (h : wp (a ρ μ) fun d μ1 => flat d = true ∧ wp (g d ρ μ1) fun ρ' μ' => Q (.next ρ' μ')) : wp1 (sAsF a g n ρ μ) Q := by
  obtain ⟨d, m1, e, hf, ρ', μ', e2, q⟩ := h
  exact ⟨_, by simp [sAsF, e, e2, hf], q⟩
theorem ws_ret {B : Nat → Bool} (h : wp (a ρ μ) fun d μ1 => (okB B n ρ || flat d) = true ∧ Q (.ret d μ1)) : wp1 (sRet B a n ρ μ) Q := by
  obtain ⟨d, m1, e, h1, q⟩ := h
  exact ⟨_, by unfold sRet; rw [e, Option.bind_some, if_pos h1], q⟩
theorem okB0 (n : Nat) (ρ : List Slot) : okB B0 n ρ = true := by
  unfold okB
  rw [List.all_eq_true]
  intro q _
  cases q.1 <;> simp [B0]
theorem ws_ret0 (h : wp (a ρ μ) fun d μ1 => Q (.ret d μ1)) : wp1 (sRet B0 a n ρ μ) Q := ws_ret (h.mono fun d m q => ⟨by rw [okB0]; rfl, q⟩)
theorem ws_new {i : Nat} (h : wp (r ρ μ) fun ds μ1 => Q (.next (ρ.set i (.own μ1.length)) (μ1 ++ [.lst ds]))) : wp1 (sNew i r n ρ μ) Q := by
  obtain ⟨ds, m1, e, q⟩ := h
  exact ⟨_, by simp [sNew, e], q⟩
theorem ws_app {s : Bool} {B : Nat → Bool} {i k0 : Nat} {xs0 : List D} (h0 : cellL ρ μ i = some (k0, xs0)) (h : wp (a ρ μ) fun d μ1 => ∃ k xs, ρ[i]? = some (.own k) ∧ μ1[k]? = some (.lst xs) ∧ xs.length < sizeLine ∧ (s || flat d) = true ∧ noBo B ρ k = true ∧ Q (.next ρ (μ1.set k (.lst (xs ++ [d]))))) : wp1 (sApp s B i a n ρ μ) Q := by
  obtain ⟨d, m1, e, k, xs, h1, h2, h3, h4, h5, q⟩ := h
  refine ⟨_, ?_, q⟩
  unfold sApp
  rw [h0, Option.bind_some, e, Option.bind_some]
  have hc : cellL ρ m1 i = some (k, xs) := by simp [cellL, h1, h2]
  dsimp only
  rw [hc, Option.bind_some, if_pos ⟨h3, h4, h5⟩]
theorem ws_par {B : Nat → Bool} {i j : Nat} (h : wp (r ρ μ) fun ds μ1 => ∃ d1 d2, ds = [d1, d2] ∧ (flat d1 && flat d2) = true ∧ Q (.next ((ρ.set i (.val d1)).set j (.val d2)) μ1)) : wp1 (sPar B i j r n ρ μ) Q := by
  obtain ⟨ds, m1, e, d1, d2, rfl, h1, q⟩ := h
  refine ⟨_, ?_, q⟩
  unfold sPar
  rw [e, Option.bind_some]
  dsimp only
  rw [if_pos (.inr h1)]
theorem ws_par0 {i j : Nat} (h : wp (r ρ μ) fun ds μ1 => ∃ d1 d2, ds = [d1, d2] ∧ Q (.next ((ρ.set i (.val d1)).set j (.val d2)) μ1)) : wp1 (sPar B0 i j r n ρ μ) Q := by
  obtain ⟨ds, m1, e, d1, d2, rfl, q⟩ := h
  refine ⟨_, ?_, q⟩
  unfold sPar
  rw [e, Option.bind_some]
  dsimp only
  rw [if_pos (.inl fun k _ => rfl)]
def lapF (m : Nat) (I : List Slot → List Cell → Prop) (Q : Fl → Prop) : Fl → Prop
  | .next ρ μ => I (ρ.map (truncS m μ)) (μ.take m)
  | .cont ρ μ => I (ρ.map (truncS m μ)) (μ.take m)
  | .brk ρ μ => Q (.next ρ μ)
  | .ret d μ => Q (.ret d μ)
/-- a loop keeps what it keeps -/
theorem ws_for {mi : MA} (h : wp (mi ρ μ) fun ds μ1 => ∃ I : List D → List Slot → List Cell → Prop, I ds ρ μ1 ∧ (∀ d ds ρ μ, I (d :: ds) ρ μ → wp (g d ρ μ) fun ρ1 μ1' => wp1 (ms n ρ1 μ1') (lapF μ1.length (I ds) Q)) ∧ (∀ ρ μ, I [] ρ μ → Q (.next ρ μ))) : wp1 (sFor mi g ms n ρ μ) Q := by
  obtain ⟨ds, μ1, e, I, h0, h1, h2⟩ := h
  unfold sFor
  rw [e, Option.bind_some]
  dsimp only
  revert h0
  generalize μ1.length = m at h1 ⊢
  clear e
  induction ds generalizing ρ μ1 with
  | nil => intro h0; exact ⟨_, rfl, h2 _ _ h0⟩
  | cons d ds ih =>
    intro h0
    obtain ⟨ρ1, μ1', e1, fl, e2, q⟩ := h1 d ds ρ μ1 h0
    unfold forD
    rw [e1, Option.bind_some]
    dsimp only
    rw [e2, Option.bind_some]
    cases fl with
    | next ρ μ => exact ih _ q
    | cont ρ μ => exact ih _ q
    | brk ρ μ => exact ⟨_, rfl, q⟩
    | ret d μ => exact ⟨_, rfl, q⟩
theorem wp_body {k : Nat} {as : List Slot} {cs : List Cell} {Q : D → List Cell → Prop} (h : wp1 (ms cs.length (as ++ List.replicate k .non) cs) fun fl => match fl with | .ret d μ => Q d (μ.take cs.length) | .next _ μ => Q .none (μ.take cs.length) | _ => False) : wp (bodyF k ms as cs) Q := by
  obtain ⟨fl, e, q⟩ := h
  unfold bodyF
  rw [e, Option.bind_some]
  cases fl with
  | next ρ μ => exact ⟨_, _, rfl, q⟩
  | cont ρ μ => exact q.elim
  | brk ρ μ => exact q.elim
  | ret d μ => exact ⟨_, _, rfl, q⟩
end
end PD
end
section
set_option linter.all false
set_option maxRecDepth 100000
set_option maxHeartbeats 4000000
namespace PD
open PySem PySem.W
/-! what is sorted rises -/
theorem dataLe_f (d e : D) : dataLe false id d e = !dataLt e d := rfl
theorem dataLt_tr {a b c : D} (h1 : dataLt a b = true) (h2 : dataLt b c = true) : dataLt a c = true := PyProof.Rows.lex_trans _ _ _ h1 h2
theorem dataLt_neg {a b c : D} (h : dataLt a c = true) : dataLt a b = true ∨ dataLt b c = true := PyProof.Rows.lex_negTrans _ _ _ h
theorem dataLt_irr (a : D) : dataLt a a = false := PyProof.Rows.lex_irrefl _
theorem dataLt_tot {a b : D} (h1 : dataLt a b = false) (h2 : dataLt b a = false) : keyToks a = keyToks b := PyProof.Rows.lex_total _ _ h1 h2
theorem sortD_map {α : Type} (enc : α → D) (xs : List α) : ∃ ys : List α, ys.Perm xs ∧ sortD (xs.map enc) = ys.map enc ∧ ys.Pairwise fun a b => dataLt (enc b) (enc a) = false := by
  refine ⟨xs.mergeSort fun a b => dataLe false id (enc a) (enc b), List.mergeSort_perm _ _, ?_, ?_⟩
  · exact (List.map_mergeSort (f := enc) fun a _ b _ => rfl).symm
  · have := List.pairwise_mergeSort (le := fun a b => dataLe false id (enc a) (enc b)) (fun a b c h1 h2 => by
      rw [dataLe_f, Bool.not_eq_true'] at h1 h2 ⊢
      cases h : dataLt (enc c) (enc a) with
      | false => rfl
      | true =>
        rcases dataLt_neg (b := enc b) h with h | h
        · rw [h2] at h; cases h
        · rw [h1] at h; cases h) (fun a b => by
      rw [dataLe_f, dataLe_f]
      cases h1 : dataLt (enc b) (enc a) with
      | false => rfl
      | true =>
        cases h2 : dataLt (enc a) (enc b) with
        | false => rfl
        | true =>
          have := dataLt_tr h1 h2
          rw [dataLt_irr] at this
          cases this) xs
    exact this.imp fun h => by
      rw [dataLe_f, Bool.not_eq_true'] at h
      exact h
theorem sortD_strict {α : Type} (enc : α → D) (xs : List α) (inj : ∀ a b, keyToks (enc a) = keyToks (enc b) → a = b) (nd : xs.Nodup) : ∃ ys : List α, ys.Perm xs ∧ sortD (xs.map enc) = ys.map enc ∧ ys.Pairwise fun a b => dataLt (enc a) (enc b) = true := by
  obtain ⟨ys, h1, h2, h3⟩ := sortD_map enc xs
  refine ⟨ys, h1, h2, ?_⟩
  have nd' : ys.Pairwise fun a b => a ≠ b := h1.nodup_iff.mpr nd
  refine (h3.and nd').imp fun ⟨h, hne⟩ => ?_
  cases e : dataLt (enc _) (enc _) with
  | true => rfl
  | false => exact absurd (inj _ _ (dataLt_tot e h)) hne
end PD
end
section
set_option linter.all false
set_option maxRecDepth 100000
set_option maxHeartbeats 4000000
namespace PD
open PySem L2
section
variable {n : Nat} {ρ : List Slot} {μ : List Cell} {Q : Fl → Prop} {QE : D → List Cell → Prop} {mk mv m : ME} {i : Nat}
theorem ws_newD (h : Q (.next (ρ.set i (.own μ.length)) (μ ++ [.dct []]))) : wp1 (sNewD i n ρ μ) Q := ⟨_, rfl, h⟩
theorem ws_putD (h : wp (mv ρ μ) fun d μ1 => wp (mk ρ μ1) fun k μ2 => ∃ s c kvs, k = .str s ∧ cellD ρ μ2 i = some (c, kvs) ∧ kvs.length < sizeLine ∧ Q (.next ρ (μ2.set c (.dct (dPut kvs s d))))) : wp1 (sPutD i mk mv n ρ μ) Q := by
  obtain ⟨d, m1, e1, k, m2, e2, s, c, kvs, rfl, h1, h2, q⟩ := h
  refine ⟨_, ?_, q⟩
  unfold sPutD
  rw [e1, Option.bind_some]
  dsimp only
  rw [e2, Option.bind_some]
  dsimp only
  rw [h1, Option.bind_some]
  dsimp only
  rw [if_pos h2]
theorem wp_popAt {B : Nat → Bool} {c0 : Nat × List D} (h0 : cellL ρ μ i = some c0) (h : wp (m ρ μ) fun x μ1 => ∃ j c xs jj d, x = .int j ∧ cellL ρ μ1 i = some (c, xs) ∧ (noBo B ρ c && okR j) = true ∧ ixN xs.length j = some jj ∧ xs[jj]? = some d ∧ QE d (μ1.set c (.lst (xs.eraseIdx jj)))) : wp (ePopAt B i m ρ μ) QE := by
  obtain ⟨x, m1, e1, j, c, xs, jj, d, rfl, h1, h2, h3, h4, q⟩ := h
  refine ⟨_, _, ?_, q⟩
  unfold ePopAt
  rw [h0, Option.bind_some, e1, Option.bind_some]
  dsimp only
  rw [h1, Option.bind_some]
  dsimp only
  rw [if_pos h2, h3, Option.bind_some, h4]
  rfl
theorem getD_of {s : Str} {μ1 : List Cell} {c : Nat} {kvs : List (Str × D)} {d : D} (h : m ρ μ = some (.str s, μ1)) (hc : cellD ρ μ1 i = some (c, kvs)) (hg : dGet kvs s = some d) : eGetD i m ρ μ = some (d, μ1) := by
  unfold eGetD
  rw [h, Option.bind_some]
  dsimp only
  rw [hc, Option.bind_some, hg]
  rfl
end
end PD
end
section
set_option linter.all false
set_option maxRecDepth 100000
set_option maxHeartbeats 4000000
namespace K03
open PySem PySem.Spec PyProof.Rows L2 PD LamX
def top (i : Nat) : Stmt := PySem.Challenge.pw_heardweights_k03_whole_beliefs_of_two_se.main.body.getD i (.Pass ⟨0, 0, 0, 0⟩)
abbrev s_is_whole : Stmt := top 10
abbrev s_is_one_of : Stmt := top 11
abbrev s_is_word : Stmt := top 12
abbrev s_is_name : Stmt := top 13
abbrev s_is_tuple_of : Stmt := top 14
abbrev s_is_pair : Stmt := top 15
abbrev s_wrong_in : Stmt := top 16
abbrev s_are_below : Stmt := top 17
abbrev s_is_set_of_names : Stmt := top 18
abbrev s_lowest : Stmt := top 22
abbrev s_is_fraction : Stmt := top 23
abbrev s_plus : Stmt := top 24
abbrev s_total : Stmt := top 25
abbrev s_set_order : Stmt := top 27
abbrev s_is_within : Stmt := top 28
abbrev s_has_common : Stmt := top 29
abbrev s_wrong_in_frame : Stmt := top 32
abbrev s_is_mass : Stmt := top 33
abbrev s_wrong_in_masses : Stmt := top 34
abbrev s_belief_by : Stmt := top 35
abbrev s_may_by : Stmt := top 36
abbrev s_common_by : Stmt := top 37
abbrev s_check_frame : Stmt := top 39
abbrev s_check_masses : Stmt := top 40
abbrev s_check_some : Stmt := top 41
abbrev s_check_weighing : Stmt := top 42
abbrev s_belief : Stmt := top 43
abbrev s_may_have : Stmt := top 44
abbrev s_common : Stmt := top 45
abbrev s_law_pool : Stmt := top 47
abbrev s_law_below : Stmt := top 48
abbrev s_law_one : Stmt := top 49
abbrev s_law_same : Stmt := top 50
abbrev s_law_fr : Stmt := top 51
abbrev s_law_plus : Stmt := top 52
abbrev s_law_is_less : Stmt := top 53
abbrev s_law_words : Stmt := top 54
abbrev s_law_name : Stmt := top 55
abbrev s_law_frame : Stmt := top 56
abbrev s_law_sets : Stmt := top 57
abbrev s_law_parts_of : Stmt := top 58
abbrev s_law_masses : Stmt := top 59
abbrev s_law_right : Stmt := top 60
abbrev s_law : Stmt := top 61
def c_LETTERS : D := .str "abcdefghijklmnopqrstuvwxyz"
def c_MOST_LETTERS : D := .int 8
def c_MOST_THINGS : D := .int 5
def c_NOTHING : D := .tuple [.int 0, .int 1]
def c_WHOLE : D := .tuple [.int 1, .int 1]
def c_WORDS : D := .tuple [.str "all", .str "act", .str "acts", .str "believe", .str "book", .str "case", .str "doubt", .str "frame", .str "hear", .str "if", .str "is", .str "join", .str "least", .str "may", .str "none", .str "not", .str "of", .str "open", .str "or", .str "quit", .str "set", .str "sets", .str "share", .str "strike", .str "tell", .str "then", .str "undo", .str "weight", .str "witness", .str "worth", .str "yes"]
abbrev tabP (K : PySem.W.Frag) (x : Str) : Addr := He.tabOf K (He.codeOf K (x, none))
def TT (K : PySem.W.Frag) : List (Addr × Str) := [(tabP K "is_set_of_names", ("is_set_of_names" : Str) ++ ".<locals>." ++ "<lambda>"), (tabP K "wrong_in_frame", ("wrong_in_frame" : Str) ++ ".<locals>." ++ "<lambda>"), (tabP K "wrong_in_masses", ("wrong_in_masses" : Str) ++ ".<locals>." ++ "<lambda>")]
structure Gs (K : PySem.W.Frag) (mg : Str → Option Value) (base : Heap) : Prop where
  f_abs : mg "abs" = none
  f_all : mg "all" = none
  f_any : mg "any" = none
  f_bool : mg "bool" = none
  f_divmod : mg "divmod" = none
  f_enumerate : mg "enumerate" = none
  f_int : mg "int" = none
  f_isinstance : mg "isinstance" = none
  f_len : mg "len" = none
  f_list : mg "list" = none
  f_max : mg "max" = none
  f_min : mg "min" = none
  f_range : mg "range" = none
  f_set : mg "set" = none
  f_sorted : mg "sorted" = none
  f_str : mg "str" = none
  f_sum : mg "sum" = none
  f_tuple : mg "tuple" = none
  f_zip : mg "zip" = none
  h_gcd : mg "gcd" = some (.builtin "math.gcd")
  k_LETTERS : Cst K mg "LETTERS" c_LETTERS
  k_MOST_LETTERS : Cst K mg "MOST_LETTERS" c_MOST_LETTERS
  k_MOST_THINGS : Cst K mg "MOST_THINGS" c_MOST_THINGS
  k_NOTHING : Cst K mg "NOTHING" c_NOTHING
  k_WHOLE : Cst K mg "WHOLE" c_WHOLE
  k_WORDS : Cst K mg "WORDS" c_WORDS
  g_is_whole : mg "is_whole" = some (.ref (He.ga K "is_whole"))
  d_is_whole : ∃ fd, FunD K "is_whole" "is_whole" (defArgs s_is_whole) (defBody s_is_whole) (defScope s_is_whole) [] [] (He.ga K "is_whole") fd
  g_is_one_of : mg "is_one_of" = some (.ref (He.ga K "is_one_of"))
  d_is_one_of : ∃ fd, FunD K "is_one_of" "is_one_of" (defArgs s_is_one_of) (defBody s_is_one_of) (defScope s_is_one_of) [] [] (He.ga K "is_one_of") fd
  g_is_word : mg "is_word" = some (.ref (He.ga K "is_word"))
  d_is_word : ∃ fd, FunD K "is_word" "is_word" (defArgs s_is_word) (defBody s_is_word) (defScope s_is_word) [] [] (He.ga K "is_word") fd
  g_is_name : mg "is_name" = some (.ref (He.ga K "is_name"))
  d_is_name : ∃ fd, FunD K "is_name" "is_name" (defArgs s_is_name) (defBody s_is_name) (defScope s_is_name) [] [] (He.ga K "is_name") fd
  g_is_tuple_of : mg "is_tuple_of" = some (.ref (He.ga K "is_tuple_of"))
  d_is_tuple_of : ∃ fd, FunD K "is_tuple_of" "is_tuple_of" (defArgs s_is_tuple_of) (defBody s_is_tuple_of) (defScope s_is_tuple_of) [] [] (He.ga K "is_tuple_of") fd
  g_is_pair : mg "is_pair" = some (.ref (He.ga K "is_pair"))
  d_is_pair : ∃ fd, FunD K "is_pair" "is_pair" (defArgs s_is_pair) (defBody s_is_pair) (defScope s_is_pair) [] [] (He.ga K "is_pair") fd
  g_wrong_in : mg "wrong_in" = some (.ref (He.ga K "wrong_in"))
  d_wrong_in : ∃ fd, FunD K "wrong_in" "wrong_in" (defArgs s_wrong_in) (defBody s_wrong_in) (defScope s_wrong_in) [] [] (He.ga K "wrong_in") fd
  g_are_below : mg "are_below" = some (.ref (He.ga K "are_below"))
  d_are_below : ∃ fd, FunD K "are_below" "are_below" (defArgs s_are_below) (defBody s_are_below) (defScope s_are_below) [] [] (He.ga K "are_below") fd
  g_is_set_of_names : mg "is_set_of_names" = some (.ref (He.ga K "is_set_of_names"))
  d_is_set_of_names : ∃ fd, FunD K "is_set_of_names" "is_set_of_names" (defArgs s_is_set_of_names) (defBody s_is_set_of_names) (defScope s_is_set_of_names) [] [] (He.ga K "is_set_of_names") fd
  g_lowest : mg "lowest" = some (.ref (He.ga K "lowest"))
  d_lowest : ∃ fd, FunD K "lowest" "lowest" (defArgs s_lowest) (defBody s_lowest) (defScope s_lowest) [] [] (He.ga K "lowest") fd
  g_is_fraction : mg "is_fraction" = some (.ref (He.ga K "is_fraction"))
  d_is_fraction : ∃ fd, FunD K "is_fraction" "is_fraction" (defArgs s_is_fraction) (defBody s_is_fraction) (defScope s_is_fraction) [] [] (He.ga K "is_fraction") fd
  g_plus : mg "plus" = some (.ref (He.ga K "plus"))
  d_plus : ∃ fd, FunD K "plus" "plus" (defArgs s_plus) (defBody s_plus) (defScope s_plus) [] [] (He.ga K "plus") fd
  g_total : mg "total" = some (.ref (He.ga K "total"))
  d_total : ∃ fd, FunD K "total" "total" (defArgs s_total) (defBody s_total) (defScope s_total) [] [] (He.ga K "total") fd
  g_set_order : mg "set_order" = some (.ref (He.ga K "set_order"))
  d_set_order : ∃ fd, FunD K "set_order" "set_order" (defArgs s_set_order) (defBody s_set_order) (defScope s_set_order) [] [] (He.ga K "set_order") fd
  g_is_within : mg "is_within" = some (.ref (He.ga K "is_within"))
  d_is_within : ∃ fd, FunD K "is_within" "is_within" (defArgs s_is_within) (defBody s_is_within) (defScope s_is_within) [] [] (He.ga K "is_within") fd
  g_has_common : mg "has_common" = some (.ref (He.ga K "has_common"))
  d_has_common : ∃ fd, FunD K "has_common" "has_common" (defArgs s_has_common) (defBody s_has_common) (defScope s_has_common) [] [] (He.ga K "has_common") fd
  g_wrong_in_frame : mg "wrong_in_frame" = some (.ref (He.ga K "wrong_in_frame"))
  d_wrong_in_frame : ∃ fd, FunD K "wrong_in_frame" "wrong_in_frame" (defArgs s_wrong_in_frame) (defBody s_wrong_in_frame) (defScope s_wrong_in_frame) [] [] (He.ga K "wrong_in_frame") fd
  g_is_mass : mg "is_mass" = some (.ref (He.ga K "is_mass"))
  d_is_mass : ∃ fd, FunD K "is_mass" "is_mass" (defArgs s_is_mass) (defBody s_is_mass) (defScope s_is_mass) [] [] (He.ga K "is_mass") fd
  g_wrong_in_masses : mg "wrong_in_masses" = some (.ref (He.ga K "wrong_in_masses"))
  d_wrong_in_masses : ∃ fd, FunD K "wrong_in_masses" "wrong_in_masses" (defArgs s_wrong_in_masses) (defBody s_wrong_in_masses) (defScope s_wrong_in_masses) [] [] (He.ga K "wrong_in_masses") fd
  g_belief_by : mg "belief_by" = some (.ref (He.ga K "belief_by"))
  d_belief_by : ∃ fd, FunD K "belief_by" "belief_by" (defArgs s_belief_by) (defBody s_belief_by) (defScope s_belief_by) [] [] (He.ga K "belief_by") fd
  g_may_by : mg "may_by" = some (.ref (He.ga K "may_by"))
  d_may_by : ∃ fd, FunD K "may_by" "may_by" (defArgs s_may_by) (defBody s_may_by) (defScope s_may_by) [] [] (He.ga K "may_by") fd
  g_common_by : mg "common_by" = some (.ref (He.ga K "common_by"))
  d_common_by : ∃ fd, FunD K "common_by" "common_by" (defArgs s_common_by) (defBody s_common_by) (defScope s_common_by) [] [] (He.ga K "common_by") fd
  g_check_frame : mg "check_frame" = some (.ref (He.ga K "check_frame"))
  d_check_frame : ∃ fd, FunD K "check_frame" "check_frame" (defArgs s_check_frame) (defBody s_check_frame) (defScope s_check_frame) [] [] (He.ga K "check_frame") fd
  g_check_masses : mg "check_masses" = some (.ref (He.ga K "check_masses"))
  d_check_masses : ∃ fd, FunD K "check_masses" "check_masses" (defArgs s_check_masses) (defBody s_check_masses) (defScope s_check_masses) [] [] (He.ga K "check_masses") fd
  g_check_some : mg "check_some" = some (.ref (He.ga K "check_some"))
  d_check_some : ∃ fd, FunD K "check_some" "check_some" (defArgs s_check_some) (defBody s_check_some) (defScope s_check_some) [] [] (He.ga K "check_some") fd
  g_check_weighing : mg "check_weighing" = some (.ref (He.ga K "check_weighing"))
  d_check_weighing : ∃ fd, FunD K "check_weighing" "check_weighing" (defArgs s_check_weighing) (defBody s_check_weighing) (defScope s_check_weighing) [] [] (He.ga K "check_weighing") fd
  g_belief : mg "belief" = some (.ref (He.ga K "belief"))
  d_belief : ∃ fd, FunD K "belief" "belief" (defArgs s_belief) (defBody s_belief) (defScope s_belief) [] [] (He.ga K "belief") fd
  g_may_have : mg "may_have" = some (.ref (He.ga K "may_have"))
  d_may_have : ∃ fd, FunD K "may_have" "may_have" (defArgs s_may_have) (defBody s_may_have) (defScope s_may_have) [] [] (He.ga K "may_have") fd
  g_common : mg "common" = some (.ref (He.ga K "common"))
  d_common : ∃ fd, FunD K "common" "common" (defArgs s_common) (defBody s_common) (defScope s_common) [] [] (He.ga K "common") fd
  g_law_pool : mg "_law_pool" = some (.ref (He.ga K "_law_pool"))
  d_law_pool : ∃ fd, FunD K "_law_pool" "_law_pool" (defArgs s_law_pool) (defBody s_law_pool) (defScope s_law_pool) [] [] (He.ga K "_law_pool") fd
  g_law_below : mg "_law_below" = some (.ref (He.ga K "_law_below"))
  d_law_below : ∃ fd, FunD K "_law_below" "_law_below" (defArgs s_law_below) (defBody s_law_below) (defScope s_law_below) [] [] (He.ga K "_law_below") fd
  g_law_one : mg "_law_one" = some (.ref (He.ga K "_law_one"))
  d_law_one : ∃ fd, FunD K "_law_one" "_law_one" (defArgs s_law_one) (defBody s_law_one) (defScope s_law_one) [] [] (He.ga K "_law_one") fd
  g_law_same : mg "_law_same" = some (.ref (He.ga K "_law_same"))
  d_law_same : ∃ fd, FunD K "_law_same" "_law_same" (defArgs s_law_same) (defBody s_law_same) (defScope s_law_same) [] [] (He.ga K "_law_same") fd
  g_law_fr : mg "_law_fr" = some (.ref (He.ga K "_law_fr"))
  d_law_fr : ∃ fd, FunD K "_law_fr" "_law_fr" (defArgs s_law_fr) (defBody s_law_fr) (defScope s_law_fr) [] [] (He.ga K "_law_fr") fd
  g_law_plus : mg "_law_plus" = some (.ref (He.ga K "_law_plus"))
  d_law_plus : ∃ fd, FunD K "_law_plus" "_law_plus" (defArgs s_law_plus) (defBody s_law_plus) (defScope s_law_plus) [] [] (He.ga K "_law_plus") fd
  g_law_is_less : mg "_law_is_less" = some (.ref (He.ga K "_law_is_less"))
  d_law_is_less : ∃ fd, FunD K "_law_is_less" "_law_is_less" (defArgs s_law_is_less) (defBody s_law_is_less) (defScope s_law_is_less) [] [] (He.ga K "_law_is_less") fd
  g_law_words : mg "_law_words" = some (.ref (He.ga K "_law_words"))
  d_law_words : ∃ fd, FunD K "_law_words" "_law_words" (defArgs s_law_words) (defBody s_law_words) (defScope s_law_words) [] [] (He.ga K "_law_words") fd
  g_law_name : mg "_law_name" = some (.ref (He.ga K "_law_name"))
  d_law_name : ∃ fd, FunD K "_law_name" "_law_name" (defArgs s_law_name) (defBody s_law_name) (defScope s_law_name) [] [] (He.ga K "_law_name") fd
  g_law_frame : mg "_law_frame" = some (.ref (He.ga K "_law_frame"))
  d_law_frame : ∃ fd, FunD K "_law_frame" "_law_frame" (defArgs s_law_frame) (defBody s_law_frame) (defScope s_law_frame) [] [] (He.ga K "_law_frame") fd
  g_law_sets : mg "_law_sets" = some (.ref (He.ga K "_law_sets"))
  d_law_sets : ∃ fd, FunD K "_law_sets" "_law_sets" (defArgs s_law_sets) (defBody s_law_sets) (defScope s_law_sets) [] [] (He.ga K "_law_sets") fd
  g_law_parts_of : mg "_law_parts_of" = some (.ref (He.ga K "_law_parts_of"))
  d_law_parts_of : ∃ fd, FunD K "_law_parts_of" "_law_parts_of" (defArgs s_law_parts_of) (defBody s_law_parts_of) (defScope s_law_parts_of) [] [] (He.ga K "_law_parts_of") fd
  g_law_masses : mg "_law_masses" = some (.ref (He.ga K "_law_masses"))
  d_law_masses : ∃ fd, FunD K "_law_masses" "_law_masses" (defArgs s_law_masses) (defBody s_law_masses) (defScope s_law_masses) [] [] (He.ga K "_law_masses") fd
  g_law_right : mg "_law_right" = some (.ref (He.ga K "_law_right"))
  d_law_right : ∃ fd, FunD K "_law_right" "_law_right" (defArgs s_law_right) (defBody s_law_right) (defScope s_law_right) [] [] (He.ga K "_law_right") fd
  g_law : mg "law" = some (.ref (He.ga K "law"))
  d_law : ∃ fd, FunD K "law" "law" (defArgs s_law) (defBody s_law) (defScope s_law) [] [] (He.ga K "law") fd
  c_is_set_of_names : codeV K (He.ga K "is_set_of_names") = .ref (He.codeOf K ("is_set_of_names", none))
  t_is_set_of_names : TabB base mg (He.codeOf K ("is_set_of_names", none)) (tabP K "is_set_of_names")
  m_is_set_of_names : (tabP K "is_set_of_names", ("is_set_of_names" : Str) ++ ".<locals>." ++ "<lambda>") ∈ TT K
  c_wrong_in_frame : codeV K (He.ga K "wrong_in_frame") = .ref (He.codeOf K ("wrong_in_frame", none))
  t_wrong_in_frame : TabB base mg (He.codeOf K ("wrong_in_frame", none)) (tabP K "wrong_in_frame")
  m_wrong_in_frame : (tabP K "wrong_in_frame", ("wrong_in_frame" : Str) ++ ".<locals>." ++ "<lambda>") ∈ TT K
  c_wrong_in_masses : codeV K (He.ga K "wrong_in_masses") = .ref (He.codeOf K ("wrong_in_masses", none))
  t_wrong_in_masses : TabB base mg (He.codeOf K ("wrong_in_masses", none)) (tabP K "wrong_in_masses")
  m_wrong_in_masses : (tabP K "wrong_in_masses", ("wrong_in_masses" : Str) ++ ".<locals>." ++ "<lambda>") ∈ TT K
  u : TU (TT K)
noncomputable def m_is_whole : MS := sRet B0 (eAnd (eIs isInt (eVar 0)) (eNot (eIs isBool (eVar 0))))
noncomputable def F_is_whole : FD := bodyF 0 m_is_whole
noncomputable def m_is_one_of : MS := sRet B0 (eAnd (eIs isStr (eVar 0)) (e2 gIn (eVar 0) (eVar 1)))
noncomputable def F_is_one_of : FD := bodyF 0 m_is_one_of
noncomputable def m_is_word : MS := sRet B0 (eAnd (eIs isStr (eVar 0)) (eAnd (e2 gNe (eVar 0) (eC (.str ""))) (eL (gl1 gAll) (aC (eF (mLc true (anyItems (eVar 0)) [1] (gcN 1) (tTrue) (e2 gIn (eVar 1) (eC c_LETTERS)))) (aN)))))
noncomputable def F_is_word : FD := bodyF 1 m_is_word
noncomputable def m_is_name : MS := sRet B0 (eAnd (eCall 1 F_is_word (rV (eVar 0) (rN))) (eAnd (e2 gLe (eL (gl1 gLen) (aC (eVar 0) (aN))) (eC c_MOST_LETTERS)) (e2 gNotIn (eVar 0) (eC c_WORDS))))
noncomputable def F_is_name : FD := bodyF 0 m_is_name
noncomputable def m_is_tuple_of : MS := sRet B0 (eAnd (eIs isTup (eVar 0)) (e2 gEq (eL (gl1 gLen) (aC (eVar 0) (aN))) (eVar 1)))
noncomputable def F_is_tuple_of : FD := bodyF 0 m_is_tuple_of
noncomputable def m_is_pair : MS := sRet B0 (eCall 2 F_is_tuple_of (rV (eVar 0) (rV (eC (.int 2)) (rN))))
noncomputable def F_is_pair : FD := bodyF 0 m_is_pair
noncomputable def m_wrong_in : MS := sSeq (sIf (tOr (tNot (tV (eIs isTup (eVar 0)))) (tV (e2 gLt (eL (gl1 gLen) (aC (eVar 0) (aN))) (eVar 1)))) (sRet B0 (eL gLst (aC (eC .none) (aN)))) (sNil)) (sSeq (sFor (enumTI (aC (eVar 0) (aN))) (gT 2 (gsC (gN 4) (gsC (gN 5) (gsN)))) (sIf (tOr (tV (e2 gEq (eVar 4) (eVar 2))) (tNot (tV (eFn 3 (aC (eSl (eVar 0) (pN) (pS (eVar 4))) (aC (eVar 5) (aN))))))) (sRet B0 (eL gLst (aC (eVar 4) (aN)))) (sNil))) (sRet B0 (eL gLst (aN))))
noncomputable def F_wrong_in : FD := bodyF 2 m_wrong_in
noncomputable def m_are_below : MS := sRet B0 (eOr (e2 gEq (eVar 0) (eL gTup (aN))) (e2 gLt (e2 gIx (eVar 0) (e1 gNeg (eC (.int 1)))) (eVar 1)))
noncomputable def F_are_below : FD := bodyF 0 m_are_below
noncomputable def m_is_set_of_names : MS := sRet B0 (e2 gEq (eHo 4 F_wrong_in (lC (eVar 0) (lC (eC (.int 0)) (lC (eL (gl1 gLen) (aC (eVar 1) (aN))) (lLam 2 0 [1] (eAnd (eCall 2 F_is_one_of (rV (eVar 1) (rV (eVar 2) (rN)))) (eCall 2 F_are_below (rV (eVar 0) (rV (eVar 1) (rN)))))))))) (eL gLst (aN)))
noncomputable def F_is_set_of_names : FD := bodyF 0 m_is_set_of_names
noncomputable def m_lowest : MS := sSeq (sAs (eIf (tV (e2 gGt (eVar 1) (eC (.int 0)))) (eL (gl2 gGcd) (aC (eVar 0) (aC (eVar 1) (aN)))) (e1 gNeg (eL (gl2 gGcd) (aC (eVar 0) (aC (eVar 1) (aN)))))) (gN 2)) (sRet B0 (eL gTup (aC (e2 gDiv (eVar 0) (eVar 2)) (aC (e2 gDiv (eVar 1) (eVar 2)) (aN)))))
noncomputable def F_lowest : FD := bodyF 1 m_lowest
noncomputable def m_is_fraction : MS := sSeq (sIf (tOr (tNot (tV (eCall 1 F_is_pair (rV (eVar 0) (rN))))) (tNot (tV (eL (gl1 gAll) (aC (eF (mLc true (anyItems (eVar 0)) [1] (gcN 1) (tTrue) (eCall 1 F_is_whole (rV (eVar 1) (rN))))) (aN)))))) (sRet B0 (eC (.bool false))) (sNil)) (sRet B0 (eAnd (e2 gGt (e2 gIx (eVar 0) (eC (.int 1))) (eC (.int 0))) (e2 gEq (eL (gl2 gGcd) (aC (e2 gIx (eVar 0) (eC (.int 0))) (aC (e2 gIx (eVar 0) (eC (.int 1))) (aN)))) (eC (.int 1)))))
noncomputable def F_is_fraction : FD := bodyF 1 m_is_fraction
noncomputable def m_plus : MS := sRet B0 (eCall 2 F_lowest (rV (e2 gAdd (e2 gMul (e2 gIx (eVar 0) (eC (.int 0))) (e2 gIx (eVar 1) (eC (.int 1)))) (e2 gMul (e2 gIx (eVar 1) (eC (.int 0))) (e2 gIx (eVar 0) (eC (.int 1))))) (rV (e2 gMul (e2 gIx (eVar 0) (eC (.int 1))) (e2 gIx (eVar 1) (eC (.int 1)))) (rN))))
noncomputable def F_plus : FD := bodyF 0 m_plus
noncomputable def m_total : MS := sSeq (sAs (eC c_NOTHING) (gN 1)) (sSeq (sFor (anyItems (eVar 0)) (gN 2) (sAs (eCall 2 F_plus (rV (eVar 1) (rV (eVar 2) (rN)))) (gN 1))) (sRet B0 (eVar 1)))
noncomputable def F_total : FD := bodyF 2 m_total
noncomputable def m_set_order : MS := sRet B0 (eL gTup (aC (eL (gl1 gLen) (aC (eVar 0) (aN))) (aC (eVar 0) (aN))))
noncomputable def F_set_order : FD := bodyF 0 m_set_order
noncomputable def m_is_within : MS := sRet B0 (eL (gl1 gAll) (aC (eF (mLc true (anyItems (eVar 0)) [2] (gcN 2) (tTrue) (e2 gIn (eVar 2) (eVar 1)))) (aN)))
noncomputable def F_is_within : FD := bodyF 1 m_is_within
noncomputable def m_has_common : MS := sRet B0 (eL (gl1 gAny) (aC (eF (mLc true (anyItems (eVar 0)) [2] (gcN 2) (tTrue) (e2 gIn (eVar 2) (eVar 1)))) (aN)))
noncomputable def F_has_common : FD := bodyF 1 m_has_common
noncomputable def m_wrong_in_frame : MS := sRet B0 (eHo 4 F_wrong_in (lC (eVar 0) (lC (eC (.int 1)) (lC (eC c_MOST_THINGS) (lLam 2 0 [] (eAnd (eCall 1 F_is_name (rV (eVar 1) (rN))) (eCall 2 F_are_below (rV (eVar 0) (rV (eVar 1) (rN))))))))))
noncomputable def F_wrong_in_frame : FD := bodyF 0 m_wrong_in_frame
noncomputable def m_is_mass : MS := sSeq (sIf (tOr (tNot (tV (eCall 1 F_is_pair (rV (eVar 1) (rN))))) (tOr (tNot (tV (eCall 2 F_is_set_of_names (rV (e2 gIx (eVar 1) (eC (.int 0))) (rV (eVar 0) (rN)))))) (tV (e2 gEq (e2 gIx (eVar 1) (eC (.int 0))) (eL gTup (aN)))))) (sRet B0 (eC (.bool false))) (sNil)) (sRet B0 (eAnd (eCall 1 F_is_fraction (rV (e2 gIx (eVar 1) (eC (.int 1))) (rN))) (e2 gGt (e2 gIx (e2 gIx (eVar 1) (eC (.int 1))) (eC (.int 0))) (eC (.int 0)))))
noncomputable def F_is_mass : FD := bodyF 0 m_is_mass
noncomputable def m_wrong_in_masses : MS := sSeq (sAs (eHo 4 F_wrong_in (lC (eVar 1) (lC (eC (.int 0)) (lC (eC .none) (lLam 2 0 [0] (eAnd (eCall 2 F_is_mass (rV (eVar 2) (rV (eVar 1) (rN)))) (eOr (e2 gEq (eVar 0) (eL gTup (aN))) (e2 (gCmpD PySem.W.dataLt) (eCall 1 F_set_order (rV (e2 gIx (e2 gIx (eVar 0) (e1 gNeg (eC (.int 1)))) (eC (.int 0))) (rN))) (eCall 1 F_set_order (rV (e2 gIx (eVar 1) (eC (.int 0))) (rN))))))))))) (gN 2)) (sSeq (sIf (tV (e2 gNe (eVar 2) (eL gLst (aN)))) (sRet B0 (eVar 2)) (sNil)) (sRet B0 (eIf (tV (e2 gEq (eCall 1 F_total (rV (eF (mLc true (anyItems (eVar 1)) [3, 4] (gT 2 (gsC (gcN 3) (gsC (gcN 4) (gsN)))) (tTrue) (eVar 4))) (rN))) (eC c_WHOLE))) (eL gLst (aN)) (eL gLst (aC (eC .none) (aN))))))
noncomputable def F_wrong_in_masses : FD := bodyF 3 m_wrong_in_masses
noncomputable def m_belief_by : MS := sRet B0 (eCall 1 F_total (rV (eF (mLc true (anyItems (eVar 0)) [2, 3] (gT 2 (gsC (gcN 2) (gsC (gcN 3) (gsN)))) (tV (eCall 2 F_is_within (rV (eVar 2) (rV (eVar 1) (rN))))) (eVar 3))) (rN)))
noncomputable def F_belief_by : FD := bodyF 2 m_belief_by
noncomputable def m_may_by : MS := sRet B0 (eCall 1 F_total (rV (eF (mLc true (anyItems (eVar 0)) [2, 3] (gT 2 (gsC (gcN 2) (gsC (gcN 3) (gsN)))) (tV (eCall 2 F_has_common (rV (eVar 2) (rV (eVar 1) (rN))))) (eVar 3))) (rN)))
noncomputable def F_may_by : FD := bodyF 2 m_may_by
noncomputable def m_common_by : MS := sRet B0 (eCall 1 F_total (rV (eF (mLc true (anyItems (eVar 0)) [2, 3] (gT 2 (gsC (gcN 2) (gsC (gcN 3) (gsN)))) (tV (eCall 2 F_is_within (rV (eVar 1) (rV (eVar 2) (rN))))) (eVar 3))) (rN)))
noncomputable def F_common_by : FD := bodyF 2 m_common_by
noncomputable def m_check_frame : MS := sFor (anyItems (eCall 1 F_wrong_in_frame (rV (eVar 0) (rN)))) (gN 1) (sNever)
noncomputable def F_check_frame : FD := bodyF 1 m_check_frame
noncomputable def m_check_masses : MS := sSeq (sEx (eCall 1 F_check_frame (rV (eVar 0) (rN)))) (sFor (anyItems (eCall 2 F_wrong_in_masses (rV (eVar 0) (rV (eVar 1) (rN))))) (gN 2) (sNever))
noncomputable def F_check_masses : FD := bodyF 1 m_check_masses
noncomputable def m_check_some : MS := sIf (tNot (tV (eCall 2 F_is_set_of_names (rV (eVar 1) (rV (eVar 0) (rN)))))) (sNever) (sNil)
noncomputable def F_check_some : FD := bodyF 0 m_check_some
noncomputable def m_check_weighing : MS := sSeq (sEx (eCall 2 F_check_masses (rV (eVar 0) (rV (eVar 1) (rN))))) (sEx (eCall 2 F_check_some (rV (eVar 0) (rV (eVar 2) (rN)))))
noncomputable def F_check_weighing : FD := bodyF 0 m_check_weighing
noncomputable def m_belief : MS := sSeq (sEx (eCall 3 F_check_weighing (rV (eVar 0) (rV (eVar 1) (rV (eVar 2) (rN)))))) (sRet B0 (eCall 2 F_belief_by (rV (eVar 1) (rV (eVar 2) (rN)))))
noncomputable def F_belief : FD := bodyF 0 m_belief
noncomputable def m_may_have : MS := sSeq (sEx (eCall 3 F_check_weighing (rV (eVar 0) (rV (eVar 1) (rV (eVar 2) (rN)))))) (sRet B0 (eCall 2 F_may_by (rV (eVar 1) (rV (eVar 2) (rN)))))
noncomputable def F_may_have : FD := bodyF 0 m_may_have
noncomputable def m_common : MS := sSeq (sEx (eCall 3 F_check_weighing (rV (eVar 0) (rV (eVar 1) (rV (eVar 2) (rN)))))) (sRet B0 (eCall 2 F_common_by (rV (eVar 1) (rV (eVar 2) (rN)))))
noncomputable def F_common : FD := bodyF 0 m_common
noncomputable def m_law_pool : List Slot → Option (List D) := fSeq (sAs (eIf (tV (e2 gLt (eVar 1) (eL (gl1 gLen) (aC (eVar 0) (aN))))) (eL (gl1 gInt) (aC (e2 gIx (eVar 0) (eVar 1)) (aN))) (e2 gAdd (e2 gMul (eC (.int 10391)) (eVar 1)) (eC (.int 1237)))) (gN 2)) (fSeq (sAs (e2 gAdd (eC (.int 100153)) (e2 gMul (eC (.int 9013)) (eVar 1))) (gN 3)) (fSeq (sFor (anyItems (eSl (eVar 0) (pN) (pS (eC (.int 63))))) (gN 4) (sAs (e2 gMod (eL (gl1 gInt) (aC (e2 gAdd (e2 gAdd (e2 gMul (eVar 3) (eC (.int 40699))) (e2 gMod (eL (gl1 gInt) (aC (eVar 4) (aN))) (eC (.int 2147483587)))) (eC (.int 23))) (aN))) (eC (.int 2147483629))) (gN 3))) (fSeq (sAs (e2 gMod (eL (gl1 gInt) (aC (e2 gAdd (e2 gAdd (e2 gMul (eVar 3) (eC (.int 97))) (e2 gMul (e2 gMod (eL (gl1 gInt) (aC (eVar 2) (aN))) (eC (.int 2147483587))) (eC (.int 31013)))) (eC (.int 7))) (aN))) (eC (.int 2147483629))) (gN 3)) (fRet (mLst (aC (eIf (tOr (tV (e2 gLt (eVar 2) (eC (.int 0)))) (tV (e2 gGe (eVar 2) (e2 gPow (eC (.int 10)) (eC (.int 15)))))) (eL (gl1 gAbs) (aC (eVar 2) (aN))) (eC (.int 0))) (aC (eVar 3) (aC (eC (.int 0)) (aN)))))))))
noncomputable def F_law_pool : FDF := bodyFF 3 m_law_pool
noncomputable def m_law_below : MS := sSeq (sIf (tV (e2 gGt (e2 gIx (eOwn 0) (eC (.int 0))) (eC (.int 0)))) (sSeq (sAsF (eL (gl2 gDivmod) (aC (e2 gIx (eOwn 0) (eC (.int 0))) (aC (eVar 1) (aN)))) (gT 2 (gsC (gPut 0 (eC (.int 0))) (gsC (gN 3) (gsN))))) (sRet B0 (eVar 3))) (sNil)) (sSeq (sAsF (e2 gAdd (e2 gIx (eOwn 0) (eC (.int 2))) (eC (.int 1))) (gPut 0 (eC (.int 2)))) (sSeq (sAsF (e2 gMod (eL (gl1 gInt) (aC (e2 gAdd (e2 gAdd (e2 gMul (e2 gIx (eOwn 0) (eC (.int 1))) (eC (.int 48677))) (e2 gMul (eC (.int 3413)) (e2 gIx (eOwn 0) (eC (.int 2))))) (eC (.int 61))) (aN))) (eC (.int 2147483563))) (gN 2)) (sSeq (sAsF (e2 gMod (eL (gl1 gInt) (aC (e2 gAdd (e2 gMul (eVar 2) (e2 gAdd (e2 gMod (eL (gl1 gInt) (aC (eVar 2) (aN))) (eC (.int 4001))) (eC (.int 17911)))) (e2 gIx (eOwn 0) (eC (.int 2)))) (aN))) (eC (.int 2147483563))) (gPut 0 (eC (.int 1)))) (sRet (Bs [0]) (e2 gMod (eL (gl1 gInt) (aC (e2 gDiv (e2 gIx (eOwn 0) (eC (.int 1))) (eC (.int 367))) (aN))) (eVar 1))))))
noncomputable def F_law_below : FD := bodyF 2 m_law_below
noncomputable def m_law_one : MS := sRet (Bs [1]) (e2 gIx (eAny 1) (eCall 2 F_law_below (rL (Bs [1]) 0 (rV (eL (gl1 gLen) (aC (eAny 1) (aN))) (rN)))))
noncomputable def F_law_one : FD := bodyF 0 m_law_one
noncomputable def m_law_same (Fs : FD) : MS := sSeq (sIf (tOr (tV (eIs isTup (eVar 1))) (tV (eIs isLst (eVar 1)))) (sSeq (sAs (eIf (tV (eIs isTup (eVar 1))) (eIs isTup (eVar 0)) (eIs isLst (eVar 0))) (gN 2)) (sRet B0 (eAnd (eVar 2) (eAnd (e2 gEq (eL (gl1 gLen) (aC (eVar 0) (aN))) (eL (gl1 gLen) (aC (eVar 1) (aN)))) (eL (gl1 gAll) (aC (eF (mLc true (rng1 (aC (eL (gl1 gLen) (aC (eVar 1) (aN))) (aN))) [3] (gcN 3) (tTrue) (eCall 2 Fs (rV (e2 gIx (eVar 0) (eVar 3)) (rV (e2 gIx (eVar 1) (eVar 3)) (rN)))))) (aN))))))) (sNil)) (sSeq (sIf (tV (e1 gIsN (eVar 1))) (sRet B0 (e1 gIsN (eVar 0))) (sNil)) (sSeq (sIf (tV (eIs isBool (eVar 1))) (sRet B0 (eAnd (eIs isBool (eVar 0)) (e2 gEq (eVar 0) (eVar 1)))) (sNil)) (sSeq (sIf (tV (eIs isInt (eVar 1))) (sRet B0 (eAnd (eIs isInt (eVar 0)) (eAnd (eNot (eIs isBool (eVar 0))) (e2 gEq (eVar 0) (eVar 1))))) (sNil)) (sRet B0 (eAnd (eIs isStr (eVar 1)) (eAnd (eIs isStr (eVar 0)) (e2 gEq (eVar 0) (eVar 1))))))))
noncomputable def Fr_law_same : Nat → FD
  | 0 => fun _ _ => none
  | i + 1 => bodyF 2 (m_law_same (Fr_law_same i))
noncomputable abbrev F_law_same : FD := Fr_law_same 6
noncomputable def m_law_fr : MS := sSeq (sPar B0 2 3 (aC (eL (gl1 gAbs) (aC (eVar 1) (aN))) (aC (eL (gl1 gAbs) (aC (eVar 0) (aN))) (aN)))) (sSeq (sWhile (tV (e2 gGt (eVar 3) (eC (.int 0)))) (sPar B0 2 3 (aC (eVar 3) (aC (e2 gMod (eL (gl1 gInt) (aC (eVar 2) (aN))) (eVar 3)) (aN))))) (sRet B0 (eIf (tV (e2 gGt (eVar 1) (eC (.int 0)))) (eL gTup (aC (e2 gDiv (eVar 0) (eVar 2)) (aC (e2 gDiv (eVar 1) (eVar 2)) (aN)))) (eL gTup (aC (e2 gDiv (e1 gNeg (eVar 0)) (eVar 2)) (aC (e2 gDiv (e1 gNeg (eVar 1)) (eVar 2)) (aN)))))))
noncomputable def F_law_fr : FD := bodyF 2 m_law_fr
noncomputable def m_law_plus : MS := sRet B0 (eCall 2 F_law_fr (rV (e2 gAdd (e2 gMul (e2 gIx (eVar 0) (eC (.int 0))) (e2 gIx (eVar 1) (eC (.int 1)))) (e2 gMul (e2 gIx (eVar 1) (eC (.int 0))) (e2 gIx (eVar 0) (eC (.int 1))))) (rV (e2 gMul (e2 gIx (eVar 0) (eC (.int 1))) (e2 gIx (eVar 1) (eC (.int 1)))) (rN))))
noncomputable def F_law_plus : FD := bodyF 0 m_law_plus
noncomputable def m_law_is_less : MS := sRet B0 (e2 gLt (e2 gMul (e2 gIx (eVar 0) (eC (.int 0))) (e2 gIx (eVar 1) (eC (.int 1)))) (e2 gMul (e2 gIx (eVar 1) (eC (.int 0))) (e2 gIx (eVar 0) (eC (.int 1)))))
noncomputable def F_law_is_less : FD := bodyF 0 m_law_is_less
noncomputable def m_law_words : MS := sSeq (sAs (eL gTup (aC (eC (.str "all")) (aC (eC (.str "act")) (aC (eC (.str "acts")) (aC (eC (.str "believe")) (aC (eC (.str "book")) (aC (eC (.str "case")) (aC (eC (.str "doubt")) (aC (eC (.str "frame")) (aC (eC (.str "hear")) (aC (eC (.str "if")) (aC (eC (.str "is")) (aC (eC (.str "join")) (aC (eC (.str "least")) (aC (eC (.str "may")) (aC (eC (.str "none")) (aN))))))))))))))))) (gN 0)) (sSeq (sAs (e2 gAdd (eVar 0) (eL gTup (aC (eC (.str "not")) (aC (eC (.str "of")) (aC (eC (.str "open")) (aC (eC (.str "or")) (aC (eC (.str "quit")) (aC (eC (.str "set")) (aC (eC (.str "sets")) (aC (eC (.str "share")) (aC (eC (.str "strike")) (aC (eC (.str "tell")) (aC (eC (.str "then")) (aC (eC (.str "undo")) (aC (eC (.str "weight")) (aN)))))))))))))))) (gN 0)) (sRet B0 (e2 gAdd (eVar 0) (eL gTup (aC (eC (.str "witness")) (aC (eC (.str "worth")) (aC (eC (.str "yes")) (aN))))))))
noncomputable def F_law_words : FD := bodyF 1 m_law_words
noncomputable def m_law_name : MS := sSeq (sFor (rng1 (aC (eC (.int 20)) (aN))) (gN 2) (sSeq (sAs (eC (.str "")) (gN 3)) (sSeq (sIf (tAnd (tV (e2 gNe (eOwn 1) (eL gLst (aN)))) (tV (e2 gEq (eCall 2 F_law_below (rL (Bs [1]) 0 (rV (eC (.int 4)) (rN)))) (eC (.int 0))))) (sAs (eSl (eCall 2 F_law_one (rL B0 0 (rL B0 1 (rN)))) (pN) (pS (eC (.int 6)))) (gN 3)) (sNil)) (sSeq (sFor (rng1 (aC (eCall 2 F_law_one (rL B0 0 (rV (eL gTup (aC (eC (.int 1)) (aC (eC (.int 1)) (aC (eC (.int 2)) (aC (eC (.int 3)) (aC (eC (.int 8)) (aN))))))) (rN)))) (aN))) (gN 4) (sAs (e2 gAdd (eVar 3) (e2 gIx (eC (.str "abcdefghijklmnopqrstuvwxyz")) (eCall 2 F_law_below (rL B0 0 (rV (eC (.int 26)) (rN)))))) (gN 3))) (sSeq (sAs (eSl (eVar 3) (pN) (pS (eC (.int 8)))) (gN 3)) (sIf (tAnd (tV (e2 gNotIn (eVar 3) (eOwn 1))) (tV (e2 gNotIn (eVar 3) (eCall 0 F_law_words rN)))) (sRet B0 (eVar 3)) (sNil))))))) (sRet (Bs [1]) (e2 gIx (eF (mLc false (rng1 (aC (eC (.int 12)) (aN))) [5] (gcN 5) (tV (e2 gNotIn (e2 gMulS (e2 gIx (eC (.str "abcdefghijkl")) (eVar 5)) (eC (.int 8))) (eOwn 1))) (e2 gMulS (e2 gIx (eC (.str "abcdefghijkl")) (eVar 5)) (eC (.int 8))))) (eC (.int 0))))
noncomputable def F_law_name : FD := bodyF 4 m_law_name
noncomputable def m_law_frame : MS := sSeq (sNew 2 (mLst (aN))) (sSeq (sFor (rng1 (aC (e2 gAdd (eC (.int 1)) (eCall 2 F_law_below (rL B0 0 (rV (eVar 1) (rN))))) (aN))) (gN 3) (sApp true B0 2 (eCall 2 F_law_name (rL B0 0 (rL B0 2 (rN)))))) (sRet (Bs [2]) (eL (gl1 gTuple) (aC (eL (gl1 gSort) (aC (eOwn 2) (aN))) (aN)))))
noncomputable def F_law_frame : FD := bodyF 2 m_law_frame
noncomputable def m_law_sets : MS := sSeq (sAs (eL gLst (aC (eL gTup (aN)) (aN))) (gN 1)) (sSeq (sFor (anyItems (eVar 0)) (gN 2) (sAs (e2 gAdd (eVar 1) (eF (mLc true (anyItems (eVar 1)) [4] (gcN 4) (tTrue) (e2 gAdd (eVar 4) (eL gTup (aC (eVar 2) (aN))))))) (gN 1))) (sRet B0 (eF (mLc true (anyItems (eL (gl1 gSort) (aC (eF (mLc true (anyItems (eVar 1)) [4] (gcN 4) (tTrue) (eL gTup (aC (eL (gl1 gLen) (aC (eVar 4) (aN))) (aC (eVar 4) (aN)))))) (aN)))) [3, 4] (gT 2 (gsC (gcN 3) (gsC (gcN 4) (gsN)))) (tTrue) (eVar 4)))))
noncomputable def F_law_sets : FD := bodyF 4 m_law_sets
noncomputable def m_law_parts_of : MS := sSeq (sAs (eF (mLc true (rng1 (aC (eVar 1) (aN))) [4] (gcN 4) (tTrue) (e2 gAdd (eVar 2) (eCall 2 F_law_one (rL B0 0 (rV (eL gTup (aC (eC (.int 0)) (aC (eC (.int 1)) (aC (eC (.int 2)) (aC (eC (.int 7)) (aC (eCall 2 F_law_below (rL B0 0 (rV (eC (.int 30)) (rN)))) (aN))))))) (rN))))))) (gN 3)) (sSeq (sAs (eIf (tV (e2 gGt (eL (gl1 gSum) (aC (eVar 3) (aN))) (eC (.int 0)))) (eVar 3) (eF (mRep (mLst (aC (eC (.int 1)) (aN))) (eVar 1)))) (gN 3)) (sRet B0 (eF (mLc true (anyItems (eVar 3)) [5] (gcN 5) (tTrue) (eCall 2 F_law_fr (rV (eVar 5) (rV (eL (gl1 gSum) (aC (eVar 3) (aN))) (rN))))))))
noncomputable def F_law_parts_of : FD := bodyF 3 m_law_parts_of
noncomputable def m_law_masses : MS := sSeq (sPar B0 3 4 (aC (eSl (eCall 1 F_law_sets (rV (eVar 1) (rN))) (pS (eC (.int 1))) (pN)) (aC (eCall 2 F_law_below (rL B0 0 (rV (eC (.int 5)) (rN)))) (aN)))) (sSeq (sAs (eF (mLc true (anyItems (eVar 3)) [5] (gcN 5) (tV (e2 gEq (eCall 2 F_law_below (rL B0 0 (rV (eCall 2 F_law_one (rL B0 0 (rV (eL gTup (aC (eC (.int 1)) (aC (eC (.int 2)) (aC (eC (.int 3)) (aC (eC (.int 5)) (aN)))))) (rN)))) (rN)))) (eC (.int 0)))) (eVar 5))) (gN 2)) (sSeq (sIf (tV (e2 gEq (eVar 4) (eC (.int 0)))) (sAs (eF (mLc true (anyItems (eVar 3)) [5] (gcN 5) (tV (e2 gEq (eL (gl1 gLen) (aC (eVar 5) (aN))) (eC (.int 1)))) (eVar 5))) (gN 2)) (sNil)) (sSeq (sIf (tV (e2 gEq (eVar 4) (eC (.int 1)))) (sAs (eF (mLc true (rng1 (aC (eL (gl1 gLen) (aC (eVar 1) (aN))) (aN))) [6] (gcN 6) (tOr (tV (e2 gEq (e2 gAdd (eVar 6) (eC (.int 1))) (eL (gl1 gLen) (aC (eVar 1) (aN))))) (tV (e2 gEq (eCall 2 F_law_below (rL B0 0 (rV (eC (.int 2)) (rN)))) (eC (.int 0))))) (eSl (eVar 1) (pN) (pS (e2 gAdd (eVar 6) (eC (.int 1))))))) (gN 2)) (sNil)) (sSeq (sAs (eIf (tV (e2 gNe (eVar 2) (eL gLst (aN)))) (eVar 2) (eL gLst (aC (eVar 1) (aN)))) (gN 2)) (sRet B0 (eL gZip2 (aC (eVar 2) (aC (eCall 3 F_law_parts_of (rL B0 0 (rV (eL (gl1 gLen) (aC (eVar 2) (aN))) (rV (eC (.int 1)) (rN))))) (aN)))))))))
noncomputable def F_law_masses : FD := bodyF 5 m_law_masses
noncomputable def m_law_right : MS := sSeq (sAs (eCall 2 F_law_frame (rL B0 0 (rV (eC (.int 5)) (rN)))) (gN 1)) (sSeq (sPar B0 13 14 (aC (eCall 2 F_law_masses (rL B0 0 (rV (eVar 1) (rN)))) (aC (eCall 1 F_law_sets (rV (eVar 1) (rN))) (aN)))) (sSeq (sAs (eL gZip2 (aC (eF (mLc true (anyItems (eVar 1)) [6] (gcN 6) (tTrue) (eL gTup (aC (eVar 6) (aN))))) (aC (eCall 3 F_law_parts_of (rL B0 0 (rV (eL (gl1 gLen) (aC (eVar 1) (aN))) (rV (eC (.int 1)) (rN))))) (aN)))) (gN 2)) (sSeq (sFor (rng1 (aC (eC (.int 6)) (aN))) (gN 3) (sSeq (sAs (eL gTup (aC (eCall 2 F_law_one (rL B0 0 (rV (eVar 14) (rN)))) (aC (eCall 2 F_law_one (rL B0 0 (rV (eVar 14) (rN)))) (aN)))) (gT 2 (gsC (gN 15) (gsC (gN 16) (gsN))))) (sSeq (sPar B0 17 18 (aC (eL (gl1 gTuple) (aC (e1 gSSet (e2 gAdd (eVar 15) (eVar 16))) (aN))) (aC (eL (gl1 gTuple) (aC (eF (mLc true (anyItems (eVar 15)) [6] (gcN 6) (tV (e2 gIn (eVar 6) (eVar 16))) (eVar 6))) (aN))) (aN)))) (sSeq (sIf (tV (eCall 2 F_law_is_less (rV (eCall 2 F_law_plus (rV (eCall 3 F_belief (rV (eVar 1) (rV (eVar 13) (rV (eVar 17) (rN))))) (rV (eCall 3 F_belief (rV (eVar 1) (rV (eVar 13) (rV (eVar 18) (rN))))) (rN)))) (rV (eCall 2 F_law_plus (rV (eCall 3 F_belief (rV (eVar 1) (rV (eVar 13) (rV (eVar 15) (rN))))) (rV (eCall 3 F_belief (rV (eVar 1) (rV (eVar 13) (rV (eVar 16) (rN))))) (rN)))) (rN))))) (sRet B0 (eC (.bool false))) (sNil)) (sSeq (sIf (tV (eCall 2 F_law_is_less (rV (eCall 2 F_law_plus (rV (eCall 3 F_may_have (rV (eVar 1) (rV (eVar 13) (rV (eVar 15) (rN))))) (rV (eCall 3 F_may_have (rV (eVar 1) (rV (eVar 13) (rV (eVar 16) (rN))))) (rN)))) (rV (eCall 2 F_law_plus (rV (eCall 3 F_may_have (rV (eVar 1) (rV (eVar 13) (rV (eVar 17) (rN))))) (rV (eCall 3 F_may_have (rV (eVar 1) (rV (eVar 13) (rV (eVar 18) (rN))))) (rN)))) (rN))))) (sRet B0 (eC (.bool false))) (sNil)) (sSeq (sIf (tV (eCall 2 F_law_is_less (rV (eCall 3 F_common (rV (eVar 1) (rV (eVar 13) (rV (eVar 15) (rN))))) (rV (eCall 3 F_common (rV (eVar 1) (rV (eVar 13) (rV (eVar 17) (rN))))) (rN))))) (sRet B0 (eC (.bool false))) (sNil)) (sSeq (sIf (tNot (tV (eCall 2 F_law_same (rV (eCall 2 F_law_plus (rV (eCall 3 F_belief (rV (eVar 1) (rV (eVar 2) (rV (eVar 17) (rN))))) (rV (eCall 3 F_belief (rV (eVar 1) (rV (eVar 2) (rV (eVar 18) (rN))))) (rN)))) (rV (eCall 2 F_law_plus (rV (eCall 3 F_belief (rV (eVar 1) (rV (eVar 2) (rV (eVar 15) (rN))))) (rV (eCall 3 F_belief (rV (eVar 1) (rV (eVar 2) (rV (eVar 16) (rN))))) (rN)))) (rN)))))) (sRet B0 (eC (.bool false))) (sNil)) (sIf (tNot (tV (eCall 2 F_law_same (rV (eCall 3 F_belief (rV (eVar 1) (rV (eVar 2) (rV (eVar 15) (rN))))) (rV (eCall 3 F_may_have (rV (eVar 1) (rV (eVar 2) (rV (eVar 15) (rN))))) (rN)))))) (sRet B0 (eC (.bool false))) (sNil))))))))) (sSeq (sNewD 4) (sSeq (sNew 5 (mLc true (anyItems (eSl (eC (.str "abcde")) (pN) (pS (eL (gl1 gLen) (aC (eVar 1) (aN)))))) [19] (gcN 19) (tTrue) (e2 gAdd (eC (.str "n")) (eVar 19)))) (sSeq (sFor (anyItems (eVar 1)) (gN 6) (sPutD 4 (eVar 6) (ePopAt B0 5 (eCall 2 F_law_below (rL (Bs [5]) 0 (rV (eL (gl1 gLen) (aC (eOwn 5) (aN))) (rN))))))) (sSeq (sAs (eL (gl1 gTuple) (aC (eL (gl1 gSort) (aC (eF (mLc true (anyItems (eVar 1)) [6] (gcN 6) (tTrue) (eGetD 4 (eVar 6)))) (aN))) (aN))) (gN 7)) (sSeq (sAs (eL (gl1 gSort) (aC (eF (mLc true (anyItems (eVar 13)) [10, 20] (gT 2 (gsC (gcN 10) (gsC (gcN 20) (gsN)))) (tTrue) (eL gTup (aC (eL (gl1 gLen) (aC (eVar 10) (aN))) (aC (eL (gl1 gTuple) (aC (eL (gl1 gSort) (aC (eF (mLc true (anyItems (eVar 10)) [6] (gcN 6) (tTrue) (eGetD 4 (eVar 6)))) (aN))) (aN))) (aC (eVar 20) (aN))))))) (aN))) (gN 8)) (sSeq (sAs (eL (gl1 gTuple) (aC (eF (mLc true (anyItems (eVar 8)) [21, 10, 20] (gT 3 (gsC (gcN 21) (gsC (gcN 10) (gsC (gcN 20) (gsN))))) (tTrue) (eL gTup (aC (eVar 10) (aC (eVar 20) (aN)))))) (aN))) (gN 9)) (sSeq (sAs (eCall 2 F_law_one (rL B0 0 (rV (eVar 14) (rN)))) (gN 10)) (sSeq (sAs (eL (gl1 gTuple) (aC (eL (gl1 gSort) (aC (eF (mLc true (anyItems (eVar 10)) [6] (gcN 6) (tTrue) (eGetD 4 (eVar 6)))) (aN))) (aN))) (gN 11)) (sSeq (sAs (eL gLst (aC (eCall 3 F_belief (rV (eVar 7) (rV (eVar 9) (rV (eVar 11) (rN))))) (aC (eCall 3 F_may_have (rV (eVar 7) (rV (eVar 9) (rV (eVar 11) (rN))))) (aC (eCall 3 F_common (rV (eVar 7) (rV (eVar 9) (rV (eVar 11) (rN))))) (aN))))) (gN 12)) (sRet B0 (eCall 2 F_law_same (rV (eVar 12) (rV (eL gLst (aC (eCall 3 F_belief (rV (eVar 1) (rV (eVar 13) (rV (eVar 10) (rN))))) (aC (eCall 3 F_may_have (rV (eVar 1) (rV (eVar 13) (rV (eVar 10) (rN))))) (aC (eCall 3 F_common (rV (eVar 1) (rV (eVar 13) (rV (eVar 10) (rN))))) (aN))))) (rN)))))))))))))))))
noncomputable def F_law_right : FD := bodyF 21 m_law_right
noncomputable def m_law : MS := sSeq (sFor (rng1 (aC (eL (gl2 gMax2) (aC (eC (.int 1)) (aC (eL (gl2 gMin2) (aC (eL (gl1 gLen) (aC (eVar 0) (aN))) (aC (eC (.int 3)) (aN)))) (aN)))) (aN))) (gN 1) (sSeq (sNew 2 (mCallF 2 F_law_pool (aC (eVar 0) (aC (eVar 1) (aN))))) (sIf (tNot (tV (eL (gl1 gAll) (aC (eF (mLc true (rng1 (aC (eC (.int 3)) (aN))) [3] (gcN 3) (tTrue) (eCall 1 F_law_right (rL B0 2 (rN))))) (aN))))) (sRet B0 (eC (.bool false))) (sNil)))) (sRet B0 (eC (.bool true)))
noncomputable def F_law : FD := bodyF 3 m_law
section
variable {P : Program} {w : World} {K : PySem.W.Frag} {mg : Str → Option Value} {base : Heap}
theorem sc_is_whole : FnScope ["value"] ["value"] (defScope s_is_whole) := ⟨rfl, rfl, rfl, by decide +kernel, rfl, by decide +kernel, by decide +kernel⟩
theorem ok_is_whole (G : Gs K mg base) : Def P w K mg base (TT K) 1 "is_whole" "is_whole" s_is_whole ["value"] 1 F_is_whole := def_of (N := ["value"]) (ps := ["value"]) (m := m_is_whole) G.d_is_whole G.g_is_whole sc_is_whole rfl (fun _ _ _ _ _ _ us hl => match us, hl with | [_], _ => rfl) fun cd hcd A outer s H E hr =>
  ss_1 (x_ret B0 (pd_and (pd_isi kit_int rfl G.f_isinstance (by decide +kernel) rfl G.f_int (by decide +kernel) (pd_var 0)) (pd_1a (pd_not (pd_isi kit_bool rfl G.f_isinstance (by decide +kernel) rfl G.f_bool (by decide +kernel) (pd_var 0))))))
theorem sc_is_one_of : FnScope ["value", "words"] ["value", "words"] (defScope s_is_one_of) := ⟨rfl, rfl, rfl, by decide +kernel, rfl, by decide +kernel, by decide +kernel⟩
theorem ok_is_one_of (G : Gs K mg base) : Def P w K mg base (TT K) 1 "is_one_of" "is_one_of" s_is_one_of ["value", "words"] 2 F_is_one_of := def_of (N := ["value", "words"]) (ps := ["value", "words"]) (m := m_is_one_of) G.d_is_one_of G.g_is_one_of sc_is_one_of rfl (fun _ _ _ _ _ _ us hl => match us, hl with | [_, _], _ => rfl) fun cd hcd A outer s H E hr =>
  ss_1 (x_ret B0 (pd_and (pd_isi kit_str rfl G.f_isinstance (by decide +kernel) rfl G.f_str (by decide +kernel) (pd_var 0)) (pd_1a (c_in hr (pd_var 0) (pd_var 1)))))
theorem sc_is_word : FnScope ["value", "sign"] ["value"] (defScope s_is_word) := ⟨rfl, rfl, rfl, by decide +kernel, rfl, by decide +kernel, by decide +kernel⟩
theorem ok_is_word (G : Gs K mg base) : Def P w K mg base (TT K) 1 "is_word" "is_word" s_is_word ["value"] 1 F_is_word := def_of (N := ["value", "sign"]) (ps := ["value"]) (m := m_is_word) G.d_is_word G.g_is_word sc_is_word rfl (fun _ _ _ _ _ _ us hl => match us, hl with | [_], _ => rfl) fun cd hcd A outer s H E hr =>
  ss_1 (x_ret B0 (pd_and (pd_isi kit_str rfl G.f_isinstance (by decide +kernel) rfl G.f_str (by decide +kernel) (pd_var 0)) (pd_and (c_ne hr (pd_var 0) (pd_str)) (pd_1a (b_all rfl G.f_all rfl (pa_c (pd_f (pf_lc (own := [("sign", 1)]) (fun _ => rfl) rfl sc_is_word.nd (pi_any (pd_var 0)) (blkOk_by rfl) (fun _ _ _ _ _ => pc_n 1 (by decide) sc_is_word.nd) (fun _ _ _ _ _ => pts_0) (fun _ _ _ _ _ => c_in hr (pd_var 1) (pd_cst rfl G.k_LETTERS)))) (pa_n)))))))
theorem sc_is_name : FnScope ["value"] ["value"] (defScope s_is_name) := ⟨rfl, rfl, rfl, by decide +kernel, rfl, by decide +kernel, by decide +kernel⟩
theorem ok_is_name (G : Gs K mg base) : Def P w K mg base (TT K) 2 "is_name" "is_name" s_is_name ["value"] 1 F_is_name := def_of (N := ["value"]) (ps := ["value"]) (m := m_is_name) G.d_is_name G.g_is_name sc_is_name rfl (fun _ _ _ _ _ _ us hl => match us, hl with | [_], _ => rfl) fun cd hcd A outer s H E hr =>
  ss_1 (x_ret B0 (pd_and (pd_d (ok_is_word G) hr rfl (pr_v (pd_var 0) (pr_n))) (pd_and (c_le (b_len G.f_len rfl (pa_c (pd_var 0) (pa_n))) (pd_cst rfl G.k_MOST_LETTERS)) (pd_1a (c_notin hr (pd_var 0) (pd_cst rfl G.k_WORDS))))))
theorem sc_is_tuple_of : FnScope ["value", "many"] ["value", "many"] (defScope s_is_tuple_of) := ⟨rfl, rfl, rfl, by decide +kernel, rfl, by decide +kernel, by decide +kernel⟩
theorem ok_is_tuple_of (G : Gs K mg base) : Def P w K mg base (TT K) 1 "is_tuple_of" "is_tuple_of" s_is_tuple_of ["value", "many"] 2 F_is_tuple_of := def_of (N := ["value", "many"]) (ps := ["value", "many"]) (m := m_is_tuple_of) G.d_is_tuple_of G.g_is_tuple_of sc_is_tuple_of rfl (fun _ _ _ _ _ _ us hl => match us, hl with | [_, _], _ => rfl) fun cd hcd A outer s H E hr =>
  ss_1 (x_ret B0 (pd_and (pd_isi kit_tup rfl G.f_isinstance (by decide +kernel) rfl G.f_tuple (by decide +kernel) (pd_var 0)) (pd_1a (c_eq hr (b_len G.f_len rfl (pa_c (pd_var 0) (pa_n))) (pd_var 1)))))
theorem sc_is_pair : FnScope ["value"] ["value"] (defScope s_is_pair) := ⟨rfl, rfl, rfl, by decide +kernel, rfl, by decide +kernel, by decide +kernel⟩
theorem ok_is_pair (G : Gs K mg base) : Def P w K mg base (TT K) 2 "is_pair" "is_pair" s_is_pair ["value"] 1 F_is_pair := def_of (N := ["value"]) (ps := ["value"]) (m := m_is_pair) G.d_is_pair G.g_is_pair sc_is_pair rfl (fun _ _ _ _ _ _ us hl => match us, hl with | [_], _ => rfl) fun cd hcd A outer s H E hr =>
  ss_1 (x_ret B0 (pd_d (ok_is_tuple_of G) hr rfl (pr_v (pd_var 0) (pr_v (pd_int) (pr_n)))))
theorem sc_wrong_in : FnScope ["value", "least", "most", "is_right", "index", "each"] ["value", "least", "most", "is_right"] (defScope s_wrong_in) := ⟨rfl, rfl, rfl, by decide +kernel, rfl, by decide +kernel, by decide +kernel⟩
theorem ok_wrong_in (kk : Nat) (G : Gs K mg base) : Ho P w K mg base (TT K) (kk + 1) kk "wrong_in" ["value", "least", "most", "is_right"] 4 F_wrong_in := ho_def (N := ["value", "least", "most", "is_right", "index", "each"]) (ps := ["value", "least", "most", "is_right"]) (m := m_wrong_in) G.d_wrong_in G.g_wrong_in sc_wrong_in rfl (fun _ _ _ _ _ _ us hl => match us, hl with | [_, _, _, _], _ => rfl) fun cd hcd A outer s H Φ hr hΦ =>
  ss_c (x_if B0 (pt_w (pw_o (pt_not (pt_v (pd_isi kit_tup rfl G.f_isinstance (by decide +kernel) rfl G.f_tuple (by decide +kernel) (pd_var 0)))) (pw_1o (t_lt (b_len G.f_len rfl (pa_c (pd_var 0) (pa_n))) (pd_var 1))))) (ss_1 (x_ret B0 (pd_lst (pa_c (pd_non) (pa_n))))) (ss_nil)) (ss_c (s_for PassesOwn.never rfl (pi_enT rfl G.f_enumerate (pa_c (pd_var 0) (pa_n))) (pg_t rfl (pgs_c (pg_n 4 sc_wrong_in.nd) (pgs_c (pg_n 5 sc_wrong_in.nd) (pgs_n)))) (ss_1 (x_if B0 (pt_w (pw_o (t_eq hr (pd_var 4) (pd_var 2)) (pw_1o (pt_not (pt_v (pd_fn 3 hΦ rfl hr (pa_c (pd_sl (pd_var 0) (pp_n) (pp_s (pd_var 4))) (pa_c (pd_var 5) (pa_n))))))))) (ss_1 (x_ret B0 (pd_lst (pa_c (pd_var 4) (pa_n))))) (ss_nil)))) (ss_1 (x_ret B0 (pd_lst (pa_n)))))
theorem sc_are_below : FnScope ["ahead", "value"] ["ahead", "value"] (defScope s_are_below) := ⟨rfl, rfl, rfl, by decide +kernel, rfl, by decide +kernel, by decide +kernel⟩
theorem ok_are_below (G : Gs K mg base) : Def P w K mg base (TT K) 1 "are_below" "are_below" s_are_below ["ahead", "value"] 2 F_are_below := def_of (N := ["ahead", "value"]) (ps := ["ahead", "value"]) (m := m_are_below) G.d_are_below G.g_are_below sc_are_below rfl (fun _ _ _ _ _ _ us hl => match us, hl with | [_, _], _ => rfl) fun cd hcd A outer s H E hr =>
  ss_1 (x_ret B0 (pd_or (c_eq hr (pd_var 0) (pd_tup (pa_n))) (pd_1a (c_lt (o_ix (pd_var 0) (o_neg (pd_int))) (pd_var 1)))))
theorem sc_is_set_of_names : FnScope ["value", "names"] ["value", "names"] (defScope s_is_set_of_names) := ⟨rfl, rfl, rfl, by decide +kernel, rfl, by decide +kernel, by decide +kernel⟩
theorem ok_is_set_of_names (G : Gs K mg base) : Def P w K mg base (TT K) 4 "is_set_of_names" "is_set_of_names" s_is_set_of_names ["value", "names"] 2 F_is_set_of_names := def_of (N := ["value", "names"]) (ps := ["value", "names"]) (m := m_is_set_of_names) G.d_is_set_of_names G.g_is_set_of_names sc_is_set_of_names rfl (fun _ _ _ _ _ _ us hl => match us, hl with | [_, _], _ => rfl) fun cd hcd A outer s H E hr =>
  ss_1 (x_ret B0 (c_eq hr (pd_h (ok_wrong_in (2) G) hr rfl (pl_c (pd_var 0) (pl_c (pd_int) (pl_c (b_len G.f_len rfl (pa_c (pd_var 1) (pa_n))) (pl_l (kb := 1) (kΦ := 0) ["ahead", "each", "names"] ["ahead", "each"] ["names"] [1] rfl G.t_is_set_of_names (hcd.trans G.c_is_set_of_names) G.m_is_set_of_names G.u rfl rfl rfl rfl rfl (fun _ _ _ _ _ us hl => match us, hl with | [_, _], _ => rfl) fx_no (fun f c' cl A outer s1 H1 hr hΦ => pd_and (pd_d (ok_is_one_of G) hr rfl (pr_v (pd_var 1) (pr_v (pd_var 2) (pr_n)))) (pd_1a (pd_d (ok_are_below G) hr rfl (pr_v (pd_var 0) (pr_v (pd_var 1) (pr_n))))))))))) (pd_lst (pa_n))))
theorem sc_lowest : FnScope ["one", "two", "common"] ["one", "two"] (defScope s_lowest) := ⟨rfl, rfl, rfl, by decide +kernel, rfl, by decide +kernel, by decide +kernel⟩
theorem ok_lowest (G : Gs K mg base) : Def P w K mg base (TT K) 1 "lowest" "lowest" s_lowest ["one", "two"] 2 F_lowest := def_of (N := ["one", "two", "common"]) (ps := ["one", "two"]) (m := m_lowest) G.d_lowest G.g_lowest sc_lowest rfl (fun _ _ _ _ _ _ us hl => match us, hl with | [_, _], _ => rfl) fun cd hcd A outer s H E hr =>
  ss_c (s_set 2 sc_lowest.nd (pd_if (t_gt (pd_var 1) (pd_int)) (b_gcd G.h_gcd rfl (pa_c (pd_var 0) (pa_c (pd_var 1) (pa_n)))) (o_neg (b_gcd G.h_gcd rfl (pa_c (pd_var 0) (pa_c (pd_var 1) (pa_n))))))) (ss_1 (x_ret B0 (pd_tup (pa_c (o_div (pd_var 0) (pd_var 2)) (pa_c (o_div (pd_var 1) (pd_var 2)) (pa_n))))))
theorem sc_is_fraction : FnScope ["value", "each"] ["value"] (defScope s_is_fraction) := ⟨rfl, rfl, rfl, by decide +kernel, rfl, by decide +kernel, by decide +kernel⟩
theorem ok_is_fraction (G : Gs K mg base) : Def P w K mg base (TT K) 3 "is_fraction" "is_fraction" s_is_fraction ["value"] 1 F_is_fraction := def_of (N := ["value", "each"]) (ps := ["value"]) (m := m_is_fraction) G.d_is_fraction G.g_is_fraction sc_is_fraction rfl (fun _ _ _ _ _ _ us hl => match us, hl with | [_], _ => rfl) fun cd hcd A outer s H E hr =>
  ss_c (x_if B0 (pt_w (pw_o (pt_not (pt_v (pd_d (ok_is_pair G) hr rfl (pr_v (pd_var 0) (pr_n))))) (pw_1o (pt_not (pt_v (b_all rfl G.f_all rfl (pa_c (pd_f (pf_lc (own := [("each", 1)]) (fun _ => rfl) rfl sc_is_fraction.nd (pi_any (pd_var 0)) (blkOk_by rfl) (fun _ _ _ _ _ => pc_n 1 (by decide) sc_is_fraction.nd) (fun _ _ _ _ _ => pts_0) (fun _ _ _ _ _ => pd_d (ok_is_whole G) hr rfl (pr_v (pd_var 1) (pr_n))))) (pa_n)))))))) (ss_1 (x_ret B0 (pd_bl))) (ss_nil)) (ss_1 (x_ret B0 (pd_and (c_gt (o_ix (pd_var 0) (pd_int)) (pd_int)) (pd_1a (c_eq hr (b_gcd G.h_gcd rfl (pa_c (o_ix (pd_var 0) (pd_int)) (pa_c (o_ix (pd_var 0) (pd_int)) (pa_n)))) (pd_int))))))
theorem sc_plus : FnScope ["one", "two"] ["one", "two"] (defScope s_plus) := ⟨rfl, rfl, rfl, by decide +kernel, rfl, by decide +kernel, by decide +kernel⟩
theorem ok_plus (G : Gs K mg base) : Def P w K mg base (TT K) 2 "plus" "plus" s_plus ["one", "two"] 2 F_plus := def_of (N := ["one", "two"]) (ps := ["one", "two"]) (m := m_plus) G.d_plus G.g_plus sc_plus rfl (fun _ _ _ _ _ _ us hl => match us, hl with | [_, _], _ => rfl) fun cd hcd A outer s H E hr =>
  ss_1 (x_ret B0 (pd_d (ok_lowest G) hr rfl (pr_v (o_add (o_mul (o_ix (pd_var 0) (pd_int)) (o_ix (pd_var 1) (pd_int))) (o_mul (o_ix (pd_var 1) (pd_int)) (o_ix (pd_var 0) (pd_int)))) (pr_v (o_mul (o_ix (pd_var 0) (pd_int)) (o_ix (pd_var 1) (pd_int))) (pr_n)))))
theorem sc_total : FnScope ["some", "found", "each"] ["some"] (defScope s_total) := ⟨rfl, rfl, rfl, by decide +kernel, rfl, by decide +kernel, by decide +kernel⟩
theorem ok_total (G : Gs K mg base) : Def P w K mg base (TT K) 3 "total" "total" s_total ["some"] 1 F_total := def_of (N := ["some", "found", "each"]) (ps := ["some"]) (m := m_total) G.d_total G.g_total sc_total rfl (fun _ _ _ _ _ _ us hl => match us, hl with | [_], _ => rfl) fun cd hcd A outer s H E hr =>
  ss_c (s_set 1 sc_total.nd (pd_cst rfl G.k_NOTHING)) (ss_c (s_for PassesOwn.never rfl (pi_any (pd_var 0)) (pg_n 2 sc_total.nd) (ss_1 (s_set 1 sc_total.nd (pd_d (ok_plus G) hr rfl (pr_v (pd_var 1) (pr_v (pd_var 2) (pr_n))))))) (ss_1 (x_ret B0 (pd_var 1))))
theorem sc_set_order : FnScope ["lot"] ["lot"] (defScope s_set_order) := ⟨rfl, rfl, rfl, by decide +kernel, rfl, by decide +kernel, by decide +kernel⟩
theorem ok_set_order (G : Gs K mg base) : Def P w K mg base (TT K) 1 "set_order" "set_order" s_set_order ["lot"] 1 F_set_order := def_of (N := ["lot"]) (ps := ["lot"]) (m := m_set_order) G.d_set_order G.g_set_order sc_set_order rfl (fun _ _ _ _ _ _ us hl => match us, hl with | [_], _ => rfl) fun cd hcd A outer s H E hr =>
  ss_1 (x_ret B0 (pd_tup (pa_c (b_len G.f_len rfl (pa_c (pd_var 0) (pa_n))) (pa_c (pd_var 0) (pa_n)))))
theorem sc_is_within : FnScope ["one", "two", "each"] ["one", "two"] (defScope s_is_within) := ⟨rfl, rfl, rfl, by decide +kernel, rfl, by decide +kernel, by decide +kernel⟩
theorem ok_is_within (G : Gs K mg base) : Def P w K mg base (TT K) 1 "is_within" "is_within" s_is_within ["one", "two"] 2 F_is_within := def_of (N := ["one", "two", "each"]) (ps := ["one", "two"]) (m := m_is_within) G.d_is_within G.g_is_within sc_is_within rfl (fun _ _ _ _ _ _ us hl => match us, hl with | [_, _], _ => rfl) fun cd hcd A outer s H E hr =>
  ss_1 (x_ret B0 (b_all rfl G.f_all rfl (pa_c (pd_f (pf_lc (own := [("each", 2)]) (fun _ => rfl) rfl sc_is_within.nd (pi_any (pd_var 0)) (blkOk_by rfl) (fun _ _ _ _ _ => pc_n 2 (by decide) sc_is_within.nd) (fun _ _ _ _ _ => pts_0) (fun _ _ _ _ _ => c_in hr (pd_var 2) (pd_var 1)))) (pa_n))))
theorem sc_has_common : FnScope ["one", "two", "each"] ["one", "two"] (defScope s_has_common) := ⟨rfl, rfl, rfl, by decide +kernel, rfl, by decide +kernel, by decide +kernel⟩
theorem ok_has_common (G : Gs K mg base) : Def P w K mg base (TT K) 1 "has_common" "has_common" s_has_common ["one", "two"] 2 F_has_common := def_of (N := ["one", "two", "each"]) (ps := ["one", "two"]) (m := m_has_common) G.d_has_common G.g_has_common sc_has_common rfl (fun _ _ _ _ _ _ us hl => match us, hl with | [_, _], _ => rfl) fun cd hcd A outer s H E hr =>
  ss_1 (x_ret B0 (b_any rfl G.f_any rfl (pa_c (pd_f (pf_lc (own := [("each", 2)]) (fun _ => rfl) rfl sc_has_common.nd (pi_any (pd_var 0)) (blkOk_by rfl) (fun _ _ _ _ _ => pc_n 2 (by decide) sc_has_common.nd) (fun _ _ _ _ _ => pts_0) (fun _ _ _ _ _ => c_in hr (pd_var 2) (pd_var 1)))) (pa_n))))
theorem sc_wrong_in_frame : FnScope ["value"] ["value"] (defScope s_wrong_in_frame) := ⟨rfl, rfl, rfl, by decide +kernel, rfl, by decide +kernel, by decide +kernel⟩
theorem ok_wrong_in_frame (G : Gs K mg base) : Def P w K mg base (TT K) 5 "wrong_in_frame" "wrong_in_frame" s_wrong_in_frame ["value"] 1 F_wrong_in_frame := def_of (N := ["value"]) (ps := ["value"]) (m := m_wrong_in_frame) G.d_wrong_in_frame G.g_wrong_in_frame sc_wrong_in_frame rfl (fun _ _ _ _ _ _ us hl => match us, hl with | [_], _ => rfl) fun cd hcd A outer s H E hr =>
  ss_1 (x_ret B0 (pd_h (ok_wrong_in (3) G) hr rfl (pl_c (pd_var 0) (pl_c (pd_int) (pl_c (pd_cst rfl G.k_MOST_THINGS) (pl_l (kb := 2) (kΦ := 0) ["ahead", "each"] ["ahead", "each"] [] [] rfl G.t_wrong_in_frame (hcd.trans G.c_wrong_in_frame) G.m_wrong_in_frame G.u rfl rfl rfl rfl rfl (fun _ _ _ _ _ us hl => match us, hl with | [_, _], _ => rfl) fx_no (fun f c' cl A outer s1 H1 hr hΦ => pd_and (pd_d (ok_is_name G) hr rfl (pr_v (pd_var 1) (pr_n))) (pd_1a (pd_d (ok_are_below G) hr rfl (pr_v (pd_var 0) (pr_v (pd_var 1) (pr_n))))))))))))
theorem sc_is_mass : FnScope ["frame", "value"] ["frame", "value"] (defScope s_is_mass) := ⟨rfl, rfl, rfl, by decide +kernel, rfl, by decide +kernel, by decide +kernel⟩
theorem ok_is_mass (G : Gs K mg base) : Def P w K mg base (TT K) 5 "is_mass" "is_mass" s_is_mass ["frame", "value"] 2 F_is_mass := def_of (N := ["frame", "value"]) (ps := ["frame", "value"]) (m := m_is_mass) G.d_is_mass G.g_is_mass sc_is_mass rfl (fun _ _ _ _ _ _ us hl => match us, hl with | [_, _], _ => rfl) fun cd hcd A outer s H E hr =>
  ss_c (x_if B0 (pt_w (pw_o (pt_not (pt_v (pd_d (ok_is_pair G) hr rfl (pr_v (pd_var 1) (pr_n))))) (pw_o (pt_not (pt_v (pd_d (ok_is_set_of_names G) hr rfl (pr_v (o_ix (pd_var 1) (pd_int)) (pr_v (pd_var 0) (pr_n)))))) (pw_1o (t_eq hr (o_ix (pd_var 1) (pd_int)) (pd_tup (pa_n))))))) (ss_1 (x_ret B0 (pd_bl))) (ss_nil)) (ss_1 (x_ret B0 (pd_and (pd_d (ok_is_fraction G) hr rfl (pr_v (o_ix (pd_var 1) (pd_int)) (pr_n))) (pd_1a (c_gt (o_ix (o_ix (pd_var 1) (pd_int)) (pd_int)) (pd_int))))))
theorem sc_wrong_in_masses : FnScope ["frame", "value", "found", "_", "weight"] ["frame", "value"] (defScope s_wrong_in_masses) := ⟨rfl, rfl, rfl, by decide +kernel, rfl, by decide +kernel, by decide +kernel⟩
theorem ok_wrong_in_masses (G : Gs K mg base) : Def P w K mg base (TT K) 8 "wrong_in_masses" "wrong_in_masses" s_wrong_in_masses ["frame", "value"] 2 F_wrong_in_masses := def_of (N := ["frame", "value", "found", "_", "weight"]) (ps := ["frame", "value"]) (m := m_wrong_in_masses) G.d_wrong_in_masses G.g_wrong_in_masses sc_wrong_in_masses rfl (fun _ _ _ _ _ _ us hl => match us, hl with | [_, _], _ => rfl) fun cd hcd A outer s H E hr =>
  ss_c (s_set 2 sc_wrong_in_masses.nd (pd_h (ok_wrong_in (6) G) hr rfl (pl_c (pd_var 1) (pl_c (pd_int) (pl_c (pd_non) (pl_l (kb := 5) (kΦ := 0) ["ahead", "each", "frame"] ["ahead", "each"] ["frame"] [0] rfl G.t_wrong_in_masses (hcd.trans G.c_wrong_in_masses) G.m_wrong_in_masses G.u rfl rfl rfl rfl rfl (fun _ _ _ _ _ us hl => match us, hl with | [_, _], _ => rfl) fx_no (fun f c' cl A outer s1 H1 hr hΦ => pd_and (pd_d (ok_is_mass G) hr rfl (pr_v (pd_var 2) (pr_v (pd_var 1) (pr_n)))) (pd_1a (pd_or (c_eq hr (pd_var 0) (pd_tup (pa_n))) (pd_1a (c_ltD hr (pd_d (ok_set_order G) hr rfl (pr_v (o_ix (o_ix (pd_var 0) (o_neg (pd_int))) (pd_int)) (pr_n))) (pd_d (ok_set_order G) hr rfl (pr_v (o_ix (pd_var 1) (pd_int)) (pr_n)))))))))))))) (ss_c (x_if B0 (t_ne hr (pd_var 2) (pd_lst (pa_n))) (ss_1 (x_ret B0 (pd_var 2))) (ss_nil)) (ss_1 (x_ret B0 (pd_if (t_eq hr (pd_d (ok_total G) hr rfl (pr_v (pd_f (pf_lc (own := [("_", 3), ("weight", 4)]) (fun _ => rfl) rfl sc_wrong_in_masses.nd (pi_any (pd_var 1)) (blkOk_by rfl) (fun _ _ _ _ _ => pc_t rfl (pcs_c (pc_n 3 (by decide) sc_wrong_in_masses.nd) (pcs_c (pc_n 4 (by decide) sc_wrong_in_masses.nd) (pcs_n)))) (fun _ _ _ _ _ => pts_0) (fun _ _ _ _ _ => pd_var 4))) (pr_n))) (pd_cst rfl G.k_WHOLE)) (pd_lst (pa_n)) (pd_lst (pa_c (pd_non) (pa_n)))))))
theorem sc_belief_by : FnScope ["masses", "some", "each", "weight"] ["masses", "some"] (defScope s_belief_by) := ⟨rfl, rfl, rfl, by decide +kernel, rfl, by decide +kernel, by decide +kernel⟩
theorem ok_belief_by (G : Gs K mg base) : Def P w K mg base (TT K) 4 "belief_by" "belief_by" s_belief_by ["masses", "some"] 2 F_belief_by := def_of (N := ["masses", "some", "each", "weight"]) (ps := ["masses", "some"]) (m := m_belief_by) G.d_belief_by G.g_belief_by sc_belief_by rfl (fun _ _ _ _ _ _ us hl => match us, hl with | [_, _], _ => rfl) fun cd hcd A outer s H E hr =>
  ss_1 (x_ret B0 (pd_d (ok_total G) hr rfl (pr_v (pd_f (pf_lc (own := [("each", 2), ("weight", 3)]) (fun _ => rfl) rfl sc_belief_by.nd (pi_any (pd_var 0)) (blkOk_by rfl) (fun _ _ _ _ _ => pc_t rfl (pcs_c (pc_n 2 (by decide) sc_belief_by.nd) (pcs_c (pc_n 3 (by decide) sc_belief_by.nd) (pcs_n)))) (fun _ _ _ _ _ => pts_1 (pt_v (pd_d (ok_is_within G) hr rfl (pr_v (pd_var 2) (pr_v (pd_var 1) (pr_n)))))) (fun _ _ _ _ _ => pd_var 3))) (pr_n))))
theorem sc_may_by : FnScope ["masses", "some", "each", "weight"] ["masses", "some"] (defScope s_may_by) := ⟨rfl, rfl, rfl, by decide +kernel, rfl, by decide +kernel, by decide +kernel⟩
theorem ok_may_by (G : Gs K mg base) : Def P w K mg base (TT K) 4 "may_by" "may_by" s_may_by ["masses", "some"] 2 F_may_by := def_of (N := ["masses", "some", "each", "weight"]) (ps := ["masses", "some"]) (m := m_may_by) G.d_may_by G.g_may_by sc_may_by rfl (fun _ _ _ _ _ _ us hl => match us, hl with | [_, _], _ => rfl) fun cd hcd A outer s H E hr =>
  ss_1 (x_ret B0 (pd_d (ok_total G) hr rfl (pr_v (pd_f (pf_lc (own := [("each", 2), ("weight", 3)]) (fun _ => rfl) rfl sc_may_by.nd (pi_any (pd_var 0)) (blkOk_by rfl) (fun _ _ _ _ _ => pc_t rfl (pcs_c (pc_n 2 (by decide) sc_may_by.nd) (pcs_c (pc_n 3 (by decide) sc_may_by.nd) (pcs_n)))) (fun _ _ _ _ _ => pts_1 (pt_v (pd_d (ok_has_common G) hr rfl (pr_v (pd_var 2) (pr_v (pd_var 1) (pr_n)))))) (fun _ _ _ _ _ => pd_var 3))) (pr_n))))
theorem sc_common_by : FnScope ["masses", "some", "each", "weight"] ["masses", "some"] (defScope s_common_by) := ⟨rfl, rfl, rfl, by decide +kernel, rfl, by decide +kernel, by decide +kernel⟩
theorem ok_common_by (G : Gs K mg base) : Def P w K mg base (TT K) 4 "common_by" "common_by" s_common_by ["masses", "some"] 2 F_common_by := def_of (N := ["masses", "some", "each", "weight"]) (ps := ["masses", "some"]) (m := m_common_by) G.d_common_by G.g_common_by sc_common_by rfl (fun _ _ _ _ _ _ us hl => match us, hl with | [_, _], _ => rfl) fun cd hcd A outer s H E hr =>
  ss_1 (x_ret B0 (pd_d (ok_total G) hr rfl (pr_v (pd_f (pf_lc (own := [("each", 2), ("weight", 3)]) (fun _ => rfl) rfl sc_common_by.nd (pi_any (pd_var 0)) (blkOk_by rfl) (fun _ _ _ _ _ => pc_t rfl (pcs_c (pc_n 2 (by decide) sc_common_by.nd) (pcs_c (pc_n 3 (by decide) sc_common_by.nd) (pcs_n)))) (fun _ _ _ _ _ => pts_1 (pt_v (pd_d (ok_is_within G) hr rfl (pr_v (pd_var 1) (pr_v (pd_var 2) (pr_n)))))) (fun _ _ _ _ _ => pd_var 3))) (pr_n))))
theorem sc_check_frame : FnScope ["frame", "index"] ["frame"] (defScope s_check_frame) := ⟨rfl, rfl, rfl, by decide +kernel, rfl, by decide +kernel, by decide +kernel⟩
theorem ok_check_frame (G : Gs K mg base) : Def P w K mg base (TT K) 6 "check_frame" "check_frame" s_check_frame ["frame"] 1 F_check_frame := def_of (N := ["frame", "index"]) (ps := ["frame"]) (m := m_check_frame) G.d_check_frame G.g_check_frame sc_check_frame rfl (fun _ _ _ _ _ _ us hl => match us, hl with | [_], _ => rfl) fun cd hcd A outer s H E hr =>
  ss_1 (s_for PassesOwn.never rfl (pi_any (pd_d (ok_wrong_in_frame G) hr rfl (pr_v (pd_var 0) (pr_n)))) (pg_n 1 sc_check_frame.nd) (ss_1 (s_never)))
theorem sc_check_masses : FnScope ["frame", "masses", "index"] ["frame", "masses"] (defScope s_check_masses) := ⟨rfl, rfl, rfl, by decide +kernel, rfl, by decide +kernel, by decide +kernel⟩
theorem ok_check_masses (G : Gs K mg base) : Def P w K mg base (TT K) 9 "check_masses" "check_masses" s_check_masses ["frame", "masses"] 2 F_check_masses := def_of (N := ["frame", "masses", "index"]) (ps := ["frame", "masses"]) (m := m_check_masses) G.d_check_masses G.g_check_masses sc_check_masses rfl (fun _ _ _ _ _ _ us hl => match us, hl with | [_, _], _ => rfl) fun cd hcd A outer s H E hr =>
  ss_c (x_ex B0 (pd_d (ok_check_frame G) hr rfl (pr_v (pd_var 0) (pr_n)))) (ss_1 (s_for PassesOwn.never rfl (pi_any (pd_d (ok_wrong_in_masses G) hr rfl (pr_v (pd_var 0) (pr_v (pd_var 1) (pr_n))))) (pg_n 2 sc_check_masses.nd) (ss_1 (s_never))))
theorem sc_check_some : FnScope ["frame", "some"] ["frame", "some"] (defScope s_check_some) := ⟨rfl, rfl, rfl, by decide +kernel, rfl, by decide +kernel, by decide +kernel⟩
theorem ok_check_some (G : Gs K mg base) : Def P w K mg base (TT K) 5 "check_some" "check_some" s_check_some ["frame", "some"] 2 F_check_some := def_of (N := ["frame", "some"]) (ps := ["frame", "some"]) (m := m_check_some) G.d_check_some G.g_check_some sc_check_some rfl (fun _ _ _ _ _ _ us hl => match us, hl with | [_, _], _ => rfl) fun cd hcd A outer s H E hr =>
  ss_1 (x_if B0 (pt_not (pt_v (pd_d (ok_is_set_of_names G) hr rfl (pr_v (pd_var 1) (pr_v (pd_var 0) (pr_n)))))) (ss_1 (s_never)) (ss_nil))
theorem sc_check_weighing : FnScope ["frame", "masses", "some"] ["frame", "masses", "some"] (defScope s_check_weighing) := ⟨rfl, rfl, rfl, by decide +kernel, rfl, by decide +kernel, by decide +kernel⟩
theorem ok_check_weighing (G : Gs K mg base) : Def P w K mg base (TT K) 10 "check_weighing" "check_weighing" s_check_weighing ["frame", "masses", "some"] 3 F_check_weighing := def_of (N := ["frame", "masses", "some"]) (ps := ["frame", "masses", "some"]) (m := m_check_weighing) G.d_check_weighing G.g_check_weighing sc_check_weighing rfl (fun _ _ _ _ _ _ us hl => match us, hl with | [_, _, _], _ => rfl) fun cd hcd A outer s H E hr =>
  ss_c (x_ex B0 (pd_d (ok_check_masses G) hr rfl (pr_v (pd_var 0) (pr_v (pd_var 1) (pr_n))))) (ss_1 (x_ex B0 (pd_d (ok_check_some G) hr rfl (pr_v (pd_var 0) (pr_v (pd_var 2) (pr_n))))))
theorem sc_belief : FnScope ["frame", "masses", "some"] ["frame", "masses", "some"] (defScope s_belief) := ⟨rfl, rfl, rfl, by decide +kernel, rfl, by decide +kernel, by decide +kernel⟩
theorem ok_belief (G : Gs K mg base) : Def P w K mg base (TT K) 11 "belief" "belief" s_belief ["frame", "masses", "some"] 3 F_belief := def_of (N := ["frame", "masses", "some"]) (ps := ["frame", "masses", "some"]) (m := m_belief) G.d_belief G.g_belief sc_belief rfl (fun _ _ _ _ _ _ us hl => match us, hl with | [_, _, _], _ => rfl) fun cd hcd A outer s H E hr =>
  ss_c (x_ex B0 (pd_d (ok_check_weighing G) hr rfl (pr_v (pd_var 0) (pr_v (pd_var 1) (pr_v (pd_var 2) (pr_n)))))) (ss_1 (x_ret B0 (pd_d (ok_belief_by G) hr rfl (pr_v (pd_var 1) (pr_v (pd_var 2) (pr_n))))))
theorem sc_may_have : FnScope ["frame", "masses", "some"] ["frame", "masses", "some"] (defScope s_may_have) := ⟨rfl, rfl, rfl, by decide +kernel, rfl, by decide +kernel, by decide +kernel⟩
theorem ok_may_have (G : Gs K mg base) : Def P w K mg base (TT K) 11 "may_have" "may_have" s_may_have ["frame", "masses", "some"] 3 F_may_have := def_of (N := ["frame", "masses", "some"]) (ps := ["frame", "masses", "some"]) (m := m_may_have) G.d_may_have G.g_may_have sc_may_have rfl (fun _ _ _ _ _ _ us hl => match us, hl with | [_, _, _], _ => rfl) fun cd hcd A outer s H E hr =>
  ss_c (x_ex B0 (pd_d (ok_check_weighing G) hr rfl (pr_v (pd_var 0) (pr_v (pd_var 1) (pr_v (pd_var 2) (pr_n)))))) (ss_1 (x_ret B0 (pd_d (ok_may_by G) hr rfl (pr_v (pd_var 1) (pr_v (pd_var 2) (pr_n))))))
theorem sc_common : FnScope ["frame", "masses", "some"] ["frame", "masses", "some"] (defScope s_common) := ⟨rfl, rfl, rfl, by decide +kernel, rfl, by decide +kernel, by decide +kernel⟩
theorem ok_common (G : Gs K mg base) : Def P w K mg base (TT K) 11 "common" "common" s_common ["frame", "masses", "some"] 3 F_common := def_of (N := ["frame", "masses", "some"]) (ps := ["frame", "masses", "some"]) (m := m_common) G.d_common G.g_common sc_common rfl (fun _ _ _ _ _ _ us hl => match us, hl with | [_, _, _], _ => rfl) fun cd hcd A outer s H E hr =>
  ss_c (x_ex B0 (pd_d (ok_check_weighing G) hr rfl (pr_v (pd_var 0) (pr_v (pd_var 1) (pr_v (pd_var 2) (pr_n)))))) (ss_1 (x_ret B0 (pd_d (ok_common_by G) hr rfl (pr_v (pd_var 1) (pr_v (pd_var 2) (pr_n))))))
theorem sc_law_pool : FnScope ["script", "lap", "cell", "stirred", "each"] ["script", "lap"] (defScope s_law_pool) := ⟨rfl, rfl, rfl, by decide +kernel, rfl, by decide +kernel, by decide +kernel⟩
theorem ok_law_pool (G : Gs K mg base) : DefF P w K mg base (TT K) 1 "_law_pool" ["script", "lap"] 2 F_law_pool := defF_of (N := ["script", "lap", "cell", "stirred", "each"]) (ps := ["script", "lap"]) (m := m_law_pool) G.d_law_pool G.g_law_pool sc_law_pool rfl (fun _ _ _ _ _ _ us hl => match us, hl with | [_, _], _ => rfl) fun cd hcd A outer s H E hr =>
  sf_c (s_set 2 sc_law_pool.nd (pd_if (t_lt (pd_var 1) (b_len G.f_len rfl (pa_c (pd_var 0) (pa_n)))) (b_int G.f_int rfl (pa_c (o_ix (pd_var 0) (pd_var 1)) (pa_n))) (o_add (o_mul (pd_int) (pd_var 1)) (pd_int)))) (sf_c (s_set 3 sc_law_pool.nd (o_add (pd_int) (o_mul (pd_int) (pd_var 1)))) (sf_c (s_for PassesOwn.never rfl (pi_any (pd_sl (pd_var 0) (pp_n) (pp_s (pd_int)))) (pg_n 4 sc_law_pool.nd) (ss_1 (s_set 3 sc_law_pool.nd (o_mod (b_int G.f_int rfl (pa_c (o_add (o_add (o_mul (pd_var 3) (pd_int)) (o_mod (b_int G.f_int rfl (pa_c (pd_var 4) (pa_n))) (pd_int))) (pd_int)) (pa_n))) (pd_int))))) (sf_c (s_set 3 sc_law_pool.nd (o_mod (b_int G.f_int rfl (pa_c (o_add (o_add (o_mul (pd_var 3) (pd_int)) (o_mul (o_mod (b_int G.f_int rfl (pa_c (pd_var 2) (pa_n))) (pd_int)) (pd_int))) (pd_int)) (pa_n))) (pd_int))) (sf_ret (pf_lst (pa_c (pd_if (pt_w (pw_o (t_lt (pd_var 2) (pd_int)) (pw_1o (t_ge (pd_var 2) (o_pow (pd_int) (pd_int)))))) (b_abs G.f_abs rfl (pa_c (pd_var 2) (pa_n))) (pd_int)) (pa_c (pd_var 3) (pa_c (pd_int) (pa_n)))))))))
theorem sc_law_below : FnScope ["pool", "many", "stirred", "figure"] ["pool", "many"] (defScope s_law_below) := ⟨rfl, rfl, rfl, by decide +kernel, rfl, by decide +kernel, by decide +kernel⟩
theorem ok_law_below (G : Gs K mg base) : Def P w K mg base (TT K) 1 "_law_below" "_law_below" s_law_below ["pool", "many"] 2 F_law_below := def_of (N := ["pool", "many", "stirred", "figure"]) (ps := ["pool", "many"]) (m := m_law_below) G.d_law_below G.g_law_below sc_law_below rfl (fun _ _ _ _ _ _ us hl => match us, hl with | [_, _], _ => rfl) fun cd hcd A outer s H E hr =>
  ss_c (x_if (Bs [0]) (t_gt (o_ix (pd_own 0) (pd_int)) (pd_int)) (ss_c (x_asF (Bs [0]) (b_divmod G.f_divmod rfl (pa_c (o_ix (pd_own 0) (pd_int)) (pa_c (pd_var 1) (pa_n)))) (pg_t rfl (pgs_c (pg_put 0 (pd_int)) (pgs_c (pg_n 3 sc_law_below.nd) (pgs_n))))) (ss_1 (x_ret B0 (pd_var 3)))) (ss_nil)) (ss_c (x_asF (Bs [0]) (o_add (o_ix (pd_own 0) (pd_int)) (pd_int)) (pg_put 0 (pd_int))) (ss_c (x_setF (Bs [0]) 2 sc_law_below.nd (o_mod (b_int G.f_int rfl (pa_c (o_add (o_add (o_mul (o_ix (pd_own 0) (pd_int)) (pd_int)) (o_mul (pd_int) (o_ix (pd_own 0) (pd_int)))) (pd_int)) (pa_n))) (pd_int))) (ss_c (x_asF (Bs [0]) (o_mod (b_int G.f_int rfl (pa_c (o_add (o_mul (pd_var 2) (o_add (o_mod (b_int G.f_int rfl (pa_c (pd_var 2) (pa_n))) (pd_int)) (pd_int))) (o_ix (pd_own 0) (pd_int))) (pa_n))) (pd_int)) (pg_put 0 (pd_int))) (ss_1 (x_ret (Bs [0]) (o_mod (b_int G.f_int rfl (pa_c (o_div (o_ix (pd_own 0) (pd_int)) (pd_int)) (pa_n))) (pd_var 1)))))))
theorem sc_law_one : FnScope ["pool", "some"] ["pool", "some"] (defScope s_law_one) := ⟨rfl, rfl, rfl, by decide +kernel, rfl, by decide +kernel, by decide +kernel⟩
theorem ok_law_one (G : Gs K mg base) : Def P w K mg base (TT K) 2 "_law_one" "_law_one" s_law_one ["pool", "some"] 2 F_law_one := def_of (N := ["pool", "some"]) (ps := ["pool", "some"]) (m := m_law_one) G.d_law_one G.g_law_one sc_law_one rfl (fun _ _ _ _ _ _ us hl => match us, hl with | [_, _], _ => rfl) fun cd hcd A outer s H E hr =>
  ss_1 (x_ret (Bs [1]) (o_ix (pd_any 1) (pd_d (ok_law_below G) hr rfl (pr_l 0 (pr_v (b_len G.f_len rfl (pa_c (pd_any 1) (pa_n))) (pr_n))))))
theorem sc_law_same : FnScope ["told", "due", "fits", "k"] ["told", "due"] (defScope s_law_same) := ⟨rfl, rfl, rfl, by decide +kernel, rfl, by decide +kernel, by decide +kernel⟩
theorem okr_law_same (G : Gs K mg base) : ∀ i, Def P w K mg base (TT K) (1 + i) "_law_same" "_law_same" s_law_same ["told", "due"] 2 (Fr_law_same i)
  | 0 => def_zero G.d_law_same G.g_law_same rfl (fun _ _ _ _ _ _ us hl => match us, hl with | [_, _], _ => rfl) _
  | i + 1 => def_of (k := 1 + i) (N := ["told", "due", "fits", "k"]) (ps := ["told", "due"]) (m := m_law_same (Fr_law_same i)) G.d_law_same G.g_law_same sc_law_same rfl (fun _ _ _ _ _ _ us hl => match us, hl with | [_, _], _ => rfl) fun cd hcd A outer s H E hr =>
  have D := okr_law_same G i
  ss_c (x_if B0 (pt_w (pw_o (pt_v (pd_isi kit_tup rfl G.f_isinstance (by decide +kernel) rfl G.f_tuple (by decide +kernel) (pd_var 1))) (pw_1o (pt_v (pd_isi kit_lst rfl G.f_isinstance (by decide +kernel) rfl G.f_list (by decide +kernel) (pd_var 1)))))) (ss_c (s_set 2 sc_law_same.nd (pd_if (pt_v (pd_isi kit_tup rfl G.f_isinstance (by decide +kernel) rfl G.f_tuple (by decide +kernel) (pd_var 1))) (pd_isi kit_tup rfl G.f_isinstance (by decide +kernel) rfl G.f_tuple (by decide +kernel) (pd_var 0)) (pd_isi kit_lst rfl G.f_isinstance (by decide +kernel) rfl G.f_list (by decide +kernel) (pd_var 0)))) (ss_1 (x_ret B0 (pd_and (pd_var 2) (pd_and (c_eq hr (b_len G.f_len rfl (pa_c (pd_var 0) (pa_n))) (b_len G.f_len rfl (pa_c (pd_var 1) (pa_n)))) (pd_1a (b_all rfl G.f_all rfl (pa_c (pd_f (pf_lc (own := [("k", 3)]) (fun _ => rfl) rfl sc_law_same.nd (pi_r1 rfl G.f_range (pa_c (b_len G.f_len rfl (pa_c (pd_var 1) (pa_n))) (pa_n))) (blkOk_by rfl) (fun _ _ _ _ _ => pc_n 3 (by decide) sc_law_same.nd) (fun _ _ _ _ _ => pts_0) (fun _ _ _ _ _ => pd_d D hr rfl (pr_v (o_ix (pd_var 0) (pd_var 3)) (pr_v (o_ix (pd_var 1) (pd_var 3)) (pr_n))) (Nat.le_refl _)))) (pa_n))))))))) (ss_nil)) (ss_c (x_if B0 (t_isN (pd_var 1)) (ss_1 (x_ret B0 (pd_isN (pd_var 0)))) (ss_nil)) (ss_c (x_if B0 (pt_v (pd_isi kit_bool rfl G.f_isinstance (by decide +kernel) rfl G.f_bool (by decide +kernel) (pd_var 1))) (ss_1 (x_ret B0 (pd_and (pd_isi kit_bool rfl G.f_isinstance (by decide +kernel) rfl G.f_bool (by decide +kernel) (pd_var 0)) (pd_1a (c_eq hr (pd_var 0) (pd_var 1)))))) (ss_nil)) (ss_c (x_if B0 (pt_v (pd_isi kit_int rfl G.f_isinstance (by decide +kernel) rfl G.f_int (by decide +kernel) (pd_var 1))) (ss_1 (x_ret B0 (pd_and (pd_isi kit_int rfl G.f_isinstance (by decide +kernel) rfl G.f_int (by decide +kernel) (pd_var 0)) (pd_and (pd_not (pd_isi kit_bool rfl G.f_isinstance (by decide +kernel) rfl G.f_bool (by decide +kernel) (pd_var 0))) (pd_1a (c_eq hr (pd_var 0) (pd_var 1))))))) (ss_nil)) (ss_1 (x_ret B0 (pd_and (pd_isi kit_str rfl G.f_isinstance (by decide +kernel) rfl G.f_str (by decide +kernel) (pd_var 1)) (pd_and (pd_isi kit_str rfl G.f_isinstance (by decide +kernel) rfl G.f_str (by decide +kernel) (pd_var 0)) (pd_1a (c_eq hr (pd_var 0) (pd_var 1))))))))))
theorem ok_law_same (G : Gs K mg base) : Def P w K mg base (TT K) 7 "_law_same" "_law_same" s_law_same ["told", "due"] 2 F_law_same := okr_law_same G 6
theorem sc_law_fr : FnScope ["n", "m", "low", "high"] ["n", "m"] (defScope s_law_fr) := ⟨rfl, rfl, rfl, by decide +kernel, rfl, by decide +kernel, by decide +kernel⟩
theorem ok_law_fr (G : Gs K mg base) : Def P w K mg base (TT K) 1 "_law_fr" "_law_fr" s_law_fr ["n", "m"] 2 F_law_fr := def_of (N := ["n", "m", "low", "high"]) (ps := ["n", "m"]) (m := m_law_fr) G.d_law_fr G.g_law_fr sc_law_fr rfl (fun _ _ _ _ _ _ us hl => match us, hl with | [_, _], _ => rfl) fun cd hcd A outer s H E hr =>
  ss_c (s_par B0 2 3 rfl sc_law_fr.nd (pa_c (b_abs G.f_abs rfl (pa_c (pd_var 1) (pa_n))) (pa_c (b_abs G.f_abs rfl (pa_c (pd_var 0) (pa_n))) (pa_n)))) (ss_c (x_while B0 PassesOwn.never (t_gt (pd_var 3) (pd_int)) (ss_1 (s_par B0 2 3 rfl sc_law_fr.nd (pa_c (pd_var 3) (pa_c (o_mod (b_int G.f_int rfl (pa_c (pd_var 2) (pa_n))) (pd_var 3)) (pa_n)))))) (ss_1 (x_ret B0 (pd_if (t_gt (pd_var 1) (pd_int)) (pd_tup (pa_c (o_div (pd_var 0) (pd_var 2)) (pa_c (o_div (pd_var 1) (pd_var 2)) (pa_n)))) (pd_tup (pa_c (o_div (o_neg (pd_var 0)) (pd_var 2)) (pa_c (o_div (o_neg (pd_var 1)) (pd_var 2)) (pa_n))))))))
theorem sc_law_plus : FnScope ["one", "two"] ["one", "two"] (defScope s_law_plus) := ⟨rfl, rfl, rfl, by decide +kernel, rfl, by decide +kernel, by decide +kernel⟩
theorem ok_law_plus (G : Gs K mg base) : Def P w K mg base (TT K) 2 "_law_plus" "_law_plus" s_law_plus ["one", "two"] 2 F_law_plus := def_of (N := ["one", "two"]) (ps := ["one", "two"]) (m := m_law_plus) G.d_law_plus G.g_law_plus sc_law_plus rfl (fun _ _ _ _ _ _ us hl => match us, hl with | [_, _], _ => rfl) fun cd hcd A outer s H E hr =>
  ss_1 (x_ret B0 (pd_d (ok_law_fr G) hr rfl (pr_v (o_add (o_mul (o_ix (pd_var 0) (pd_int)) (o_ix (pd_var 1) (pd_int))) (o_mul (o_ix (pd_var 1) (pd_int)) (o_ix (pd_var 0) (pd_int)))) (pr_v (o_mul (o_ix (pd_var 0) (pd_int)) (o_ix (pd_var 1) (pd_int))) (pr_n)))))
theorem sc_law_is_less : FnScope ["one", "two"] ["one", "two"] (defScope s_law_is_less) := ⟨rfl, rfl, rfl, by decide +kernel, rfl, by decide +kernel, by decide +kernel⟩
theorem ok_law_is_less (G : Gs K mg base) : Def P w K mg base (TT K) 1 "_law_is_less" "_law_is_less" s_law_is_less ["one", "two"] 2 F_law_is_less := def_of (N := ["one", "two"]) (ps := ["one", "two"]) (m := m_law_is_less) G.d_law_is_less G.g_law_is_less sc_law_is_less rfl (fun _ _ _ _ _ _ us hl => match us, hl with | [_, _], _ => rfl) fun cd hcd A outer s H E hr =>
  ss_1 (x_ret B0 (c_lt (o_mul (o_ix (pd_var 0) (pd_int)) (o_ix (pd_var 1) (pd_int))) (o_mul (o_ix (pd_var 1) (pd_int)) (o_ix (pd_var 0) (pd_int)))))
theorem sc_law_words : FnScope ["words"] [] (defScope s_law_words) := ⟨rfl, rfl, rfl, by decide +kernel, rfl, by decide +kernel, by decide +kernel⟩
theorem ok_law_words (G : Gs K mg base) : Def P w K mg base (TT K) 1 "_law_words" "_law_words" s_law_words [] 0 F_law_words := def_of (N := ["words"]) (ps := []) (m := m_law_words) G.d_law_words G.g_law_words sc_law_words rfl (fun _ _ _ _ _ _ us hl => match us, hl with | [], _ => rfl) fun cd hcd A outer s H E hr =>
  ss_c (s_set 0 sc_law_words.nd (pd_tup (pa_c (pd_str) (pa_c (pd_str) (pa_c (pd_str) (pa_c (pd_str) (pa_c (pd_str) (pa_c (pd_str) (pa_c (pd_str) (pa_c (pd_str) (pa_c (pd_str) (pa_c (pd_str) (pa_c (pd_str) (pa_c (pd_str) (pa_c (pd_str) (pa_c (pd_str) (pa_c (pd_str) (pa_n)))))))))))))))))) (ss_c (s_set 0 sc_law_words.nd (o_add (pd_var 0) (pd_tup (pa_c (pd_str) (pa_c (pd_str) (pa_c (pd_str) (pa_c (pd_str) (pa_c (pd_str) (pa_c (pd_str) (pa_c (pd_str) (pa_c (pd_str) (pa_c (pd_str) (pa_c (pd_str) (pa_c (pd_str) (pa_c (pd_str) (pa_c (pd_str) (pa_n))))))))))))))))) (ss_1 (x_ret B0 (o_add (pd_var 0) (pd_tup (pa_c (pd_str) (pa_c (pd_str) (pa_c (pd_str) (pa_n)))))))))
theorem sc_law_name : FnScope ["pool", "used", "lap", "found", "spot", "k"] ["pool", "used"] (defScope s_law_name) := ⟨rfl, rfl, rfl, by decide +kernel, rfl, by decide +kernel, by decide +kernel⟩
theorem ok_law_name (G : Gs K mg base) : Def P w K mg base (TT K) 3 "_law_name" "_law_name" s_law_name ["pool", "used"] 2 F_law_name := def_of (N := ["pool", "used", "lap", "found", "spot", "k"]) (ps := ["pool", "used"]) (m := m_law_name) G.d_law_name G.g_law_name sc_law_name rfl (fun _ _ _ _ _ _ us hl => match us, hl with | [_, _], _ => rfl) fun cd hcd A outer s H E hr =>
  ss_c (s_for PassesOwn.never rfl (pi_r1 rfl G.f_range (pa_c (pd_int) (pa_n))) (pg_n 2 sc_law_name.nd) (ss_c (s_set 3 sc_law_name.nd (pd_str)) (ss_c (x_if (Bs [1]) (pt_w (pw_a (t_ne hr (pd_own 1) (pd_lst (pa_n))) (pw_1a (t_eq hr (pd_d (ok_law_below G) hr rfl (pr_l 0 (pr_v (pd_int) (pr_n)))) (pd_int))))) (ss_1 (s_set 3 sc_law_name.nd (pd_sl (pd_d (ok_law_one G) hr rfl (pr_l 0 (pr_l 1 (pr_n)))) (pp_n) (pp_s (pd_int))))) (ss_nil)) (ss_c (s_for PassesOwn.never rfl (pi_r1 rfl G.f_range (pa_c (pd_d (ok_law_one G) hr rfl (pr_l 0 (pr_v (pd_tup (pa_c (pd_int) (pa_c (pd_int) (pa_c (pd_int) (pa_c (pd_int) (pa_c (pd_int) (pa_n))))))) (pr_n)))) (pa_n))) (pg_n 4 sc_law_name.nd) (ss_1 (s_set 3 sc_law_name.nd (o_add (pd_var 3) (o_ix (pd_str) (pd_d (ok_law_below G) hr rfl (pr_l 0 (pr_v (pd_int) (pr_n))))))))) (ss_c (s_set 3 sc_law_name.nd (pd_sl (pd_var 3) (pp_n) (pp_s (pd_int)))) (ss_1 (x_if (Bs [1]) (pt_w (pw_a (t_notin hr (pd_var 3) (pd_own 1)) (pw_1a (t_notin hr (pd_var 3) (pd_d0 (ok_law_words G) hr rfl))))) (ss_1 (x_ret B0 (pd_var 3))) (ss_nil)))))))) (ss_1 (x_ret (Bs [1]) (o_ix (pd_f (pf_lc (own := [("k", 5)]) (fun h => by cases h) rfl sc_law_name.nd (pi_r1 rfl G.f_range (pa_c (pd_int) (pa_n))) (blkOk_by rfl) (fun _ _ _ _ _ => pc_n 5 (by decide) sc_law_name.nd) (fun _ _ _ _ _ => pts_1 (t_notin hr (o_mulS (o_ix (pd_str) (pd_var 5)) (pd_int)) (pd_own 1))) (fun _ _ _ _ _ => o_mulS (o_ix (pd_str) (pd_var 5)) (pd_int)))) (pd_int))))
theorem sc_law_frame : FnScope ["pool", "most", "found", "lap"] ["pool", "most"] (defScope s_law_frame) := ⟨rfl, rfl, rfl, by decide +kernel, rfl, by decide +kernel, by decide +kernel⟩
theorem ok_law_frame (G : Gs K mg base) : Def P w K mg base (TT K) 4 "_law_frame" "_law_frame" s_law_frame ["pool", "most"] 2 F_law_frame := def_of (N := ["pool", "most", "found", "lap"]) (ps := ["pool", "most"]) (m := m_law_frame) G.d_law_frame G.g_law_frame sc_law_frame rfl (fun _ _ _ _ _ _ us hl => match us, hl with | [_, _], _ => rfl) fun cd hcd A outer s H E hr =>
  ss_c (s_new 2 sc_law_frame.nd (pf_lst (pa_n))) (ss_c (s_for PassesOwn.never rfl (pi_r1 rfl G.f_range (pa_c (o_add (pd_int) (pd_d (ok_law_below G) hr rfl (pr_l 0 (pr_v (pd_var 1) (pr_n))))) (pa_n))) (pg_n 3 sc_law_frame.nd) (ss_1 (x_append B0 true 2 (fun _ => rfl) (pd_d (ok_law_name G) hr rfl (pr_l 0 (pr_l 2 (pr_n))))))) (ss_1 (x_ret (Bs [2]) (b_tuple G.f_tuple rfl (pa_c (b_sorted (by exact hr) G.f_sorted (by rfl) (pa_c (pd_own 2) (pa_n))) (pa_n))))))
theorem sc_law_sets : FnScope ["items", "found", "item", "size", "some"] ["items"] (defScope s_law_sets) := ⟨rfl, rfl, rfl, by decide +kernel, rfl, by decide +kernel, by decide +kernel⟩
theorem ok_law_sets (G : Gs K mg base) : Def P w K mg base (TT K) 1 "_law_sets" "_law_sets" s_law_sets ["items"] 1 F_law_sets := def_of (N := ["items", "found", "item", "size", "some"]) (ps := ["items"]) (m := m_law_sets) G.d_law_sets G.g_law_sets sc_law_sets rfl (fun _ _ _ _ _ _ us hl => match us, hl with | [_], _ => rfl) fun cd hcd A outer s H E hr =>
  ss_c (s_set 1 sc_law_sets.nd (pd_lst (pa_c (pd_tup (pa_n)) (pa_n)))) (ss_c (s_for PassesOwn.never rfl (pi_any (pd_var 0)) (pg_n 2 sc_law_sets.nd) (ss_1 (s_set 1 sc_law_sets.nd (o_add (pd_var 1) (pd_f (pf_lc (own := [("some", 4)]) (fun _ => rfl) rfl sc_law_sets.nd (pi_any (pd_var 1)) (blkOk_by rfl) (fun _ _ _ _ _ => pc_n 4 (by decide) sc_law_sets.nd) (fun _ _ _ _ _ => pts_0) (fun _ _ _ _ _ => o_add (pd_var 4) (pd_tup (pa_c (pd_var 2) (pa_n)))))))))) (ss_1 (x_ret B0 (pd_f (pf_lc (own := [("size", 3), ("some", 4)]) (fun _ => rfl) rfl sc_law_sets.nd (pi_any (b_sorted (by exact hr) G.f_sorted (by rfl) (pa_c (pd_f (pf_lc (own := [("some", 4)]) (fun _ => rfl) rfl sc_law_sets.nd (pi_any (pd_var 1)) (blkOk_by rfl) (fun _ _ _ _ _ => pc_n 4 (by decide) sc_law_sets.nd) (fun _ _ _ _ _ => pts_0) (fun _ _ _ _ _ => pd_tup (pa_c (b_len G.f_len rfl (pa_c (pd_var 4) (pa_n))) (pa_c (pd_var 4) (pa_n)))))) (pa_n)))) (blkOk_by rfl) (fun _ _ _ _ _ => pc_t rfl (pcs_c (pc_n 3 (by decide) sc_law_sets.nd) (pcs_c (pc_n 4 (by decide) sc_law_sets.nd) (pcs_n)))) (fun _ _ _ _ _ => pts_0) (fun _ _ _ _ _ => pd_var 4))))))
theorem sc_law_parts_of : FnScope ["pool", "many", "low", "rows", "k", "number"] ["pool", "many", "low"] (defScope s_law_parts_of) := ⟨rfl, rfl, rfl, by decide +kernel, rfl, by decide +kernel, by decide +kernel⟩
theorem ok_law_parts_of (G : Gs K mg base) : Def P w K mg base (TT K) 3 "_law_parts_of" "_law_parts_of" s_law_parts_of ["pool", "many", "low"] 3 F_law_parts_of := def_of (N := ["pool", "many", "low", "rows", "k", "number"]) (ps := ["pool", "many", "low"]) (m := m_law_parts_of) G.d_law_parts_of G.g_law_parts_of sc_law_parts_of rfl (fun _ _ _ _ _ _ us hl => match us, hl with | [_, _, _], _ => rfl) fun cd hcd A outer s H E hr =>
  ss_c (s_set 3 sc_law_parts_of.nd (pd_f (pf_lc (own := [("k", 4)]) (fun _ => rfl) rfl sc_law_parts_of.nd (pi_r1 rfl G.f_range (pa_c (pd_var 1) (pa_n))) (blkOk_by rfl) (fun _ _ _ _ _ => pc_n 4 (by decide) sc_law_parts_of.nd) (fun _ _ _ _ _ => pts_0) (fun _ _ _ _ _ => o_add (pd_var 2) (pd_d (ok_law_one G) hr rfl (pr_l 0 (pr_v (pd_tup (pa_c (pd_int) (pa_c (pd_int) (pa_c (pd_int) (pa_c (pd_int) (pa_c (pd_d (ok_law_below G) hr rfl (pr_l 0 (pr_v (pd_int) (pr_n)))) (pa_n))))))) (pr_n)))))))) (ss_c (s_set 3 sc_law_parts_of.nd (pd_if (t_gt (b_sum rfl G.f_sum rfl (pa_c (pd_var 3) (pa_n))) (pd_int)) (pd_var 3) (pd_f (pf_rep (pf_lst (pa_c (pd_int) (pa_n))) (pd_var 1))))) (ss_1 (x_ret B0 (pd_f (pf_lc (own := [("number", 5)]) (fun _ => rfl) rfl sc_law_parts_of.nd (pi_any (pd_var 3)) (blkOk_by rfl) (fun _ _ _ _ _ => pc_n 5 (by decide) sc_law_parts_of.nd) (fun _ _ _ _ _ => pts_0) (fun _ _ _ _ _ => pd_d (ok_law_fr G) hr rfl (pr_v (pd_var 5) (pr_v (b_sum rfl G.f_sum rfl (pa_c (pd_var 3) (pa_n))) (pr_n)))))))))
theorem sc_law_masses : FnScope ["pool", "frame", "kept", "sets", "way", "some", "k"] ["pool", "frame"] (defScope s_law_masses) := ⟨rfl, rfl, rfl, by decide +kernel, rfl, by decide +kernel, by decide +kernel⟩
theorem ok_law_masses (G : Gs K mg base) : Def P w K mg base (TT K) 4 "_law_masses" "_law_masses" s_law_masses ["pool", "frame"] 2 F_law_masses := def_of (N := ["pool", "frame", "kept", "sets", "way", "some", "k"]) (ps := ["pool", "frame"]) (m := m_law_masses) G.d_law_masses G.g_law_masses sc_law_masses rfl (fun _ _ _ _ _ _ us hl => match us, hl with | [_, _], _ => rfl) fun cd hcd A outer s H E hr =>
  ss_c (s_par B0 3 4 rfl sc_law_masses.nd (pa_c (pd_sl (pd_d (ok_law_sets G) hr rfl (pr_v (pd_var 1) (pr_n))) (pp_s (pd_int)) (pp_n)) (pa_c (pd_d (ok_law_below G) hr rfl (pr_l 0 (pr_v (pd_int) (pr_n)))) (pa_n)))) (ss_c (s_setLc [("some", 5)] 2 rfl sc_law_masses.nd (pi_any (pd_var 3)) (blkOk_by rfl) (fun _ _ _ _ _ => pc_n 5 (by decide) sc_law_masses.nd) (fun _ _ _ _ _ => pts_1 (t_eq hr (pd_d (ok_law_below G) hr rfl (pr_l 0 (pr_v (pd_d (ok_law_one G) hr rfl (pr_l 0 (pr_v (pd_tup (pa_c (pd_int) (pa_c (pd_int) (pa_c (pd_int) (pa_c (pd_int) (pa_n)))))) (pr_n)))) (pr_n)))) (pd_int))) (fun _ _ _ _ _ => pd_var 5)) (ss_c (x_if B0 (t_eq hr (pd_var 4) (pd_int)) (ss_1 (s_setLc [("some", 5)] 2 rfl sc_law_masses.nd (pi_any (pd_var 3)) (blkOk_by rfl) (fun _ _ _ _ _ => pc_n 5 (by decide) sc_law_masses.nd) (fun _ _ _ _ _ => pts_1 (t_eq hr (b_len G.f_len rfl (pa_c (pd_var 5) (pa_n))) (pd_int))) (fun _ _ _ _ _ => pd_var 5))) (ss_nil)) (ss_c (x_if B0 (t_eq hr (pd_var 4) (pd_int)) (ss_1 (s_setLc [("k", 6)] 2 rfl sc_law_masses.nd (pi_r1 rfl G.f_range (pa_c (b_len G.f_len rfl (pa_c (pd_var 1) (pa_n))) (pa_n))) (blkOk_by rfl) (fun _ _ _ _ _ => pc_n 6 (by decide) sc_law_masses.nd) (fun _ _ _ _ _ => pts_1 (pt_w (pw_o (t_eq hr (o_add (pd_var 6) (pd_int)) (b_len G.f_len rfl (pa_c (pd_var 1) (pa_n)))) (pw_1o (t_eq hr (pd_d (ok_law_below G) hr rfl (pr_l 0 (pr_v (pd_int) (pr_n)))) (pd_int)))))) (fun _ _ _ _ _ => pd_sl (pd_var 1) (pp_n) (pp_s (o_add (pd_var 6) (pd_int)))))) (ss_nil)) (ss_c (s_set 2 sc_law_masses.nd (pd_if (t_ne hr (pd_var 2) (pd_lst (pa_n))) (pd_var 2) (pd_lst (pa_c (pd_var 1) (pa_n))))) (ss_1 (x_ret B0 (pd_tzip rfl G.f_tuple G.f_zip rfl rfl (pa_c (pd_var 2) (pa_c (pd_d (ok_law_parts_of G) hr rfl (pr_l 0 (pr_v (b_len G.f_len rfl (pa_c (pd_var 2) (pa_n))) (pr_v (pd_int) (pr_n))))) (pa_n))))))))))
theorem sc_law_right : FnScope ["pool", "frame", "alone", "lap", "found", "names", "thing", "turned", "rows", "other", "some", "there", "told", "masses", "sets", "one", "two", "whole", "both", "letter", "weight", "size"] ["pool"] (defScope s_law_right) := ⟨rfl, rfl, rfl, by decide +kernel, rfl, by decide +kernel, by decide +kernel⟩
theorem ok_law_right (G : Gs K mg base) : Def P w K mg base (TT K) 12 "_law_right" "_law_right" s_law_right ["pool"] 1 F_law_right := def_of (N := ["pool", "frame", "alone", "lap", "found", "names", "thing", "turned", "rows", "other", "some", "there", "told", "masses", "sets", "one", "two", "whole", "both", "letter", "weight", "size"]) (ps := ["pool"]) (m := m_law_right) G.d_law_right G.g_law_right sc_law_right rfl (fun _ _ _ _ _ _ us hl => match us, hl with | [_], _ => rfl) fun cd hcd A outer s H E hr =>
  ss_c (s_set 1 sc_law_right.nd (pd_d (ok_law_frame G) hr rfl (pr_l 0 (pr_v (pd_int) (pr_n))))) (ss_c (s_par B0 13 14 rfl sc_law_right.nd (pa_c (pd_d (ok_law_masses G) hr rfl (pr_l 0 (pr_v (pd_var 1) (pr_n)))) (pa_c (pd_d (ok_law_sets G) hr rfl (pr_v (pd_var 1) (pr_n))) (pa_n)))) (ss_c (s_set 2 sc_law_right.nd (pd_tzip rfl G.f_tuple G.f_zip rfl rfl (pa_c (pd_f (pf_lc (own := [("thing", 6)]) (fun _ => rfl) rfl sc_law_right.nd (pi_any (pd_var 1)) (blkOk_by rfl) (fun _ _ _ _ _ => pc_n 6 (by decide) sc_law_right.nd) (fun _ _ _ _ _ => pts_0) (fun _ _ _ _ _ => pd_tup (pa_c (pd_var 6) (pa_n))))) (pa_c (pd_d (ok_law_parts_of G) hr rfl (pr_l 0 (pr_v (b_len G.f_len rfl (pa_c (pd_var 1) (pa_n))) (pr_v (pd_int) (pr_n))))) (pa_n))))) (ss_c (s_for PassesOwn.never rfl (pi_r1 rfl G.f_range (pa_c (pd_int) (pa_n))) (pg_n 3 sc_law_right.nd) (ss_c (s_as (pd_tup (pa_c (pd_d (ok_law_one G) hr rfl (pr_l 0 (pr_v (pd_var 14) (pr_n)))) (pa_c (pd_d (ok_law_one G) hr rfl (pr_l 0 (pr_v (pd_var 14) (pr_n)))) (pa_n)))) (pg_t rfl (pgs_c (pg_n 15 sc_law_right.nd) (pgs_c (pg_n 16 sc_law_right.nd) (pgs_n))))) (ss_c (s_par B0 17 18 rfl sc_law_right.nd (pa_c (b_tuple G.f_tuple rfl (pa_c (pd_sset hr rfl G.f_sorted G.f_set rfl rfl (o_add (pd_var 15) (pd_var 16))) (pa_n))) (pa_c (b_tuple G.f_tuple rfl (pa_c (pd_f (pf_lc (own := [("thing", 6)]) (fun _ => rfl) rfl sc_law_right.nd (pi_any (pd_var 15)) (blkOk_by rfl) (fun _ _ _ _ _ => pc_n 6 (by decide) sc_law_right.nd) (fun _ _ _ _ _ => pts_1 (t_in hr (pd_var 6) (pd_var 16))) (fun _ _ _ _ _ => pd_var 6))) (pa_n))) (pa_n)))) (ss_c (x_if B0 (pt_v (pd_d (ok_law_is_less G) hr rfl (pr_v (pd_d (ok_law_plus G) hr rfl (pr_v (pd_d (ok_belief G) hr rfl (pr_v (pd_var 1) (pr_v (pd_var 13) (pr_v (pd_var 17) (pr_n))))) (pr_v (pd_d (ok_belief G) hr rfl (pr_v (pd_var 1) (pr_v (pd_var 13) (pr_v (pd_var 18) (pr_n))))) (pr_n)))) (pr_v (pd_d (ok_law_plus G) hr rfl (pr_v (pd_d (ok_belief G) hr rfl (pr_v (pd_var 1) (pr_v (pd_var 13) (pr_v (pd_var 15) (pr_n))))) (pr_v (pd_d (ok_belief G) hr rfl (pr_v (pd_var 1) (pr_v (pd_var 13) (pr_v (pd_var 16) (pr_n))))) (pr_n)))) (pr_n))))) (ss_1 (x_ret B0 (pd_bl))) (ss_nil)) (ss_c (x_if B0 (pt_v (pd_d (ok_law_is_less G) hr rfl (pr_v (pd_d (ok_law_plus G) hr rfl (pr_v (pd_d (ok_may_have G) hr rfl (pr_v (pd_var 1) (pr_v (pd_var 13) (pr_v (pd_var 15) (pr_n))))) (pr_v (pd_d (ok_may_have G) hr rfl (pr_v (pd_var 1) (pr_v (pd_var 13) (pr_v (pd_var 16) (pr_n))))) (pr_n)))) (pr_v (pd_d (ok_law_plus G) hr rfl (pr_v (pd_d (ok_may_have G) hr rfl (pr_v (pd_var 1) (pr_v (pd_var 13) (pr_v (pd_var 17) (pr_n))))) (pr_v (pd_d (ok_may_have G) hr rfl (pr_v (pd_var 1) (pr_v (pd_var 13) (pr_v (pd_var 18) (pr_n))))) (pr_n)))) (pr_n))))) (ss_1 (x_ret B0 (pd_bl))) (ss_nil)) (ss_c (x_if B0 (pt_v (pd_d (ok_law_is_less G) hr rfl (pr_v (pd_d (ok_common G) hr rfl (pr_v (pd_var 1) (pr_v (pd_var 13) (pr_v (pd_var 15) (pr_n))))) (pr_v (pd_d (ok_common G) hr rfl (pr_v (pd_var 1) (pr_v (pd_var 13) (pr_v (pd_var 17) (pr_n))))) (pr_n))))) (ss_1 (x_ret B0 (pd_bl))) (ss_nil)) (ss_c (x_if B0 (pt_not (pt_v (pd_d (ok_law_same G) hr rfl (pr_v (pd_d (ok_law_plus G) hr rfl (pr_v (pd_d (ok_belief G) hr rfl (pr_v (pd_var 1) (pr_v (pd_var 2) (pr_v (pd_var 17) (pr_n))))) (pr_v (pd_d (ok_belief G) hr rfl (pr_v (pd_var 1) (pr_v (pd_var 2) (pr_v (pd_var 18) (pr_n))))) (pr_n)))) (pr_v (pd_d (ok_law_plus G) hr rfl (pr_v (pd_d (ok_belief G) hr rfl (pr_v (pd_var 1) (pr_v (pd_var 2) (pr_v (pd_var 15) (pr_n))))) (pr_v (pd_d (ok_belief G) hr rfl (pr_v (pd_var 1) (pr_v (pd_var 2) (pr_v (pd_var 16) (pr_n))))) (pr_n)))) (pr_n)))))) (ss_1 (x_ret B0 (pd_bl))) (ss_nil)) (ss_1 (x_if B0 (pt_not (pt_v (pd_d (ok_law_same G) hr rfl (pr_v (pd_d (ok_belief G) hr rfl (pr_v (pd_var 1) (pr_v (pd_var 2) (pr_v (pd_var 15) (pr_n))))) (pr_v (pd_d (ok_may_have G) hr rfl (pr_v (pd_var 1) (pr_v (pd_var 2) (pr_v (pd_var 15) (pr_n))))) (pr_n)))))) (ss_1 (x_ret B0 (pd_bl))) (ss_nil)))))))))) (ss_c (s_newD 4 sc_law_right.nd) (ss_c (s_newLc [("letter", 19)] 5 rfl sc_law_right.nd (pi_any (pd_sl (pd_str) (pp_n) (pp_s (b_len G.f_len rfl (pa_c (pd_var 1) (pa_n)))))) (blkOk_by rfl) (fun _ _ _ _ _ => pc_n 19 (by decide) sc_law_right.nd) (fun _ _ _ _ _ => pts_0) (fun _ _ _ _ _ => o_add (pd_str) (pd_var 19))) (ss_c (s_for PassesOwn.never rfl (pi_any (pd_var 1)) (pg_n 6 sc_law_right.nd) (ss_1 (s_putD 4 hr (pd_var 6) (pd_popAt (B' := (Bs [5])) 5 (fun _ h => by cases h) (pd_d (ok_law_below G) hr rfl (pr_l 0 (pr_v (b_len G.f_len rfl (pa_c (pd_own 5) (pa_n))) (pr_n)))))))) (ss_c (s_set 7 sc_law_right.nd (b_tuple G.f_tuple rfl (pa_c (b_sorted (by exact hr) G.f_sorted (by rfl) (pa_c (pd_f (pf_lc (own := [("thing", 6)]) (fun _ => rfl) rfl sc_law_right.nd (pi_any (pd_var 1)) (blkOk_by rfl) (fun _ _ _ _ _ => pc_n 6 (by decide) sc_law_right.nd) (fun _ _ _ _ _ => pts_0) (fun _ _ _ _ _ => pd_getD 4 (by exact hr) (pd_var 6)))) (pa_n))) (pa_n)))) (ss_c (s_set 8 sc_law_right.nd (b_sorted (by exact hr) G.f_sorted (by rfl) (pa_c (pd_f (pf_lc (own := [("some", 10), ("weight", 20)]) (fun _ => rfl) rfl sc_law_right.nd (pi_any (pd_var 13)) (blkOk_by rfl) (fun _ _ _ _ _ => pc_t rfl (pcs_c (pc_n 10 (by decide) sc_law_right.nd) (pcs_c (pc_n 20 (by decide) sc_law_right.nd) (pcs_n)))) (fun _ _ _ _ _ => pts_0) (fun _ _ _ _ _ => pd_tup (pa_c (b_len G.f_len rfl (pa_c (pd_var 10) (pa_n))) (pa_c (b_tuple G.f_tuple rfl (pa_c (b_sorted (by exact hr) G.f_sorted (by rfl) (pa_c (pd_f (pf_lc (own := [("thing", 6)]) (fun _ => rfl) rfl sc_law_right.nd (pi_any (pd_var 10)) (blkOk_by rfl) (fun _ _ _ _ _ => pc_n 6 (by decide) sc_law_right.nd) (fun _ _ _ _ _ => pts_0) (fun _ _ _ _ _ => pd_getD 4 (by exact hr) (pd_var 6)))) (pa_n))) (pa_n))) (pa_c (pd_var 20) (pa_n))))))) (pa_n)))) (ss_c (s_set 9 sc_law_right.nd (b_tuple G.f_tuple rfl (pa_c (pd_f (pf_lc (own := [("size", 21), ("some", 10), ("weight", 20)]) (fun _ => rfl) rfl sc_law_right.nd (pi_any (pd_var 8)) (blkOk_by rfl) (fun _ _ _ _ _ => pc_t rfl (pcs_c (pc_n 21 (by decide) sc_law_right.nd) (pcs_c (pc_n 10 (by decide) sc_law_right.nd) (pcs_c (pc_n 20 (by decide) sc_law_right.nd) (pcs_n))))) (fun _ _ _ _ _ => pts_0) (fun _ _ _ _ _ => pd_tup (pa_c (pd_var 10) (pa_c (pd_var 20) (pa_n)))))) (pa_n)))) (ss_c (s_set 10 sc_law_right.nd (pd_d (ok_law_one G) hr rfl (pr_l 0 (pr_v (pd_var 14) (pr_n))))) (ss_c (s_set 11 sc_law_right.nd (b_tuple G.f_tuple rfl (pa_c (b_sorted (by exact hr) G.f_sorted (by rfl) (pa_c (pd_f (pf_lc (own := [("thing", 6)]) (fun _ => rfl) rfl sc_law_right.nd (pi_any (pd_var 10)) (blkOk_by rfl) (fun _ _ _ _ _ => pc_n 6 (by decide) sc_law_right.nd) (fun _ _ _ _ _ => pts_0) (fun _ _ _ _ _ => pd_getD 4 (by exact hr) (pd_var 6)))) (pa_n))) (pa_n)))) (ss_c (s_set 12 sc_law_right.nd (pd_lst (pa_c (pd_d (ok_belief G) hr rfl (pr_v (pd_var 7) (pr_v (pd_var 9) (pr_v (pd_var 11) (pr_n))))) (pa_c (pd_d (ok_may_have G) hr rfl (pr_v (pd_var 7) (pr_v (pd_var 9) (pr_v (pd_var 11) (pr_n))))) (pa_c (pd_d (ok_common G) hr rfl (pr_v (pd_var 7) (pr_v (pd_var 9) (pr_v (pd_var 11) (pr_n))))) (pa_n)))))) (ss_1 (x_ret B0 (pd_d (ok_law_same G) hr rfl (pr_v (pd_var 12) (pr_v (pd_lst (pa_c (pd_d (ok_belief G) hr rfl (pr_v (pd_var 1) (pr_v (pd_var 13) (pr_v (pd_var 10) (pr_n))))) (pa_c (pd_d (ok_may_have G) hr rfl (pr_v (pd_var 1) (pr_v (pd_var 13) (pr_v (pd_var 10) (pr_n))))) (pa_c (pd_d (ok_common G) hr rfl (pr_v (pd_var 1) (pr_v (pd_var 13) (pr_v (pd_var 10) (pr_n))))) (pa_n))))) (pr_n))))))))))))))))))
theorem sc_law : FnScope ["script", "lap", "pool", "again"] ["script"] (defScope s_law) := ⟨rfl, rfl, rfl, by decide +kernel, rfl, by decide +kernel, by decide +kernel⟩
theorem ok_law (G : Gs K mg base) : Def P w K mg base (TT K) 13 "law" "law" s_law ["script"] 1 F_law := def_of (N := ["script", "lap", "pool", "again"]) (ps := ["script"]) (m := m_law) G.d_law G.g_law sc_law rfl (fun _ _ _ _ _ _ us hl => match us, hl with | [_], _ => rfl) fun cd hcd A outer s H E hr =>
  ss_c (s_for PassesOwn.never rfl (pi_r1 rfl G.f_range (pa_c (b_max rfl G.f_max rfl (pa_c (pd_int) (pa_c (b_min rfl G.f_min rfl (pa_c (b_len G.f_len rfl (pa_c (pd_var 0) (pa_n))) (pa_c (pd_int) (pa_n)))) (pa_n)))) (pa_n))) (pg_n 1 sc_law.nd) (ss_c (s_new 2 sc_law.nd (pf_d (ok_law_pool G) hr rfl (pa_c (pd_var 0) (pa_c (pd_var 1) (pa_n))))) (ss_1 (x_if B0 (pt_not (pt_v (b_all rfl G.f_all rfl (pa_c (pd_f (pf_lc (own := [("again", 3)]) (fun _ => rfl) rfl sc_law.nd (pi_r1 rfl G.f_range (pa_c (pd_int) (pa_n))) (blkOk_by rfl) (fun _ _ _ _ _ => pc_n 3 (by decide) sc_law.nd) (fun _ _ _ _ _ => pts_0) (fun _ _ _ _ _ => pd_d (ok_law_right G) hr rfl (pr_l 2 (pr_n))))) (pa_n))))) (ss_1 (x_ret B0 (pd_bl))) (ss_nil))))) (ss_1 (x_ret B0 (pd_bl)))
end
end K03
end
section
set_option linter.all false
set_option maxRecDepth 100000
set_option maxHeartbeats 4000000
namespace K03
open PySem PD
theorem mulOk_r {i j : Int} (h : j.natAbs < 2 ^ 64) : mulOk i j = true := by
  unfold mulOk
  have : j.natAbs.log2 < 64 := by
    by_cases z : j.natAbs = 0
    · rw [z]; decide
    · exact (Nat.log2_lt z).mpr h
  simp [this]
theorem mulOk_l {i j : Int} (h : i.natAbs < 2 ^ 64) : mulOk i j = true := by
  unfold mulOk
  have : i.natAbs.log2 < 64 := by
    by_cases z : i.natAbs = 0
    · rw [z]; decide
    · exact (Nat.log2_lt z).mpr h
  simp [this]
theorem below_pos {a b c m : Int} (ha : 0 < a) (hm : 0 < m) (hm2 : m < 1073741824) :
    F_law_below [.own 0, .val (.int m)] [.lst [.int a, .int b, .int c]] = some (.int (a % m), [.lst [.int (a / m), .int b, .int c]]) := by
  simp [F_law_below, bodyF, m_law_below, sSeq, sIf, tV, e2, e1, eL, eOwn, eC, eVar, gIx, L2.atI, L2.ixN, gGt, gBool, sAsF, aC, aN, gl1, gl2, gDivmod, gT, gsC, gsN, gN, gPut, cellL, flat, flatA, sRet, okB, ha, hm, hm2, B0]
def mix1 (b c : Int) : Int := (b * 48677 + 3413 * (c + 1) + 61) % 2147483563
def mix2 (b c : Int) : Int := (mix1 b c * (mix1 b c % 4001 + 17911) + (c + 1)) % 2147483563
theorem mod_small {x : Int} : (x % 2147483563).natAbs < 2 ^ 64 := by
  have h1 := Int.emod_nonneg x (show (2147483563 : Int) ≠ 0 by decide)
  have h2 := Int.emod_lt_of_pos x (show (0 : Int) < 2147483563 by decide)
  omega
theorem below_zero {b c m : Int} (hm : 0 < m) :
    F_law_below [.own 0, .val (.int m)] [.lst [.int 0, .int b, .int c]] = some (.int (mix2 b c / 367 % m), [.lst [.int 0, .int (mix2 b c), .int (c + 1)]]) := by
  have e1 : ∀ x : Int, mulOk x 48677 = true := fun x => mulOk_r (by decide)
  have e2' : ∀ x : Int, mulOk 3413 x = true := fun x => mulOk_l (by decide)
  have e3 : ∀ x y : Int, mulOk (x % 2147483563) y = true := fun x y => mulOk_l mod_small
  have e4 : divOk 367 = true := by decide
  simp [F_law_below, bodyF, m_law_below, sSeq, sIf, tV, e2, PD.e1, eL, eOwn, eC, eVar, gIx, L2.atI, L2.ixN, gGt, gBool, sAsF, aC, aN, gl1, gl2, gDivmod, gT, gsC, gsN, gN, gPut, cellL, flat, flatA, sRet, okB, hm, B0, sNil, gAdd, gMul, gMod, gDiv, gInt, e1, e2', e3, e4, mix1, mix2, Bs]
def Pool (p : Cell) : Prop := ∃ a b c : Int, p = .lst [.int a, .int b, .int c] ∧ 0 ≤ a
/-- a number below m is drawn -/
theorem below_spec {p : Cell} (hp : Pool p) {m : Int} (hm : 0 < m) (hm2 : m < 1073741824) : ∃ r p', F_law_below [.own 0, .val (.int m)] [p] = some (.int r, [p']) ∧ Pool p' ∧ 0 ≤ r ∧ r < m := by
  obtain ⟨a, b, c, rfl, ha⟩ := hp
  by_cases h : 0 < a
  · exact ⟨_, _, below_pos h hm hm2, ⟨_, _, _, rfl, Int.ediv_nonneg ha (by omega)⟩, Int.emod_nonneg _ (by omega), Int.emod_lt_of_pos _ hm⟩
  · have : a = 0 := by omega
    subst this
    exact ⟨_, _, below_zero hm, ⟨_, _, _, rfl, Int.le_refl _⟩, Int.emod_nonneg _ (by omega), Int.emod_lt_of_pos _ hm⟩
def isV : Slot → Bool
  | .val _ => true
  | .non => true
  | _ => false
theorem truncS_v {s : Slot} (h : isV s = true) : truncS 0 [] s = s := by cases s <;> simp_all [isV, truncS]
theorem truncS_val (d : D) : truncS 0 [] (.val d) = .val d := rfl
theorem pool_loop (S L C : Slot) (hS : isV S = true) (hL : isV L = true) (hC : isV C = true) (n0 : Nat) : ∀ (ns : List Int) (st : Int) (e : Slot), isV e = true →
    ∃ st' e', isV e' = true ∧ forD (gN 4) (sAs (e2 gMod (eL (gl1 gInt) (aC (e2 gAdd (e2 gAdd (e2 gMul (eVar 3) (eC (.int 40699))) (e2 gMod (eL (gl1 gInt) (aC (eVar 4) (aN))) (eC (.int 2147483587)))) (eC (.int 23))) (aN))) (eC (.int 2147483629))) (gN 3)) n0 0 (ns.map .int) [S, L, C, .val (.int st), e] [] = some (.next [S, L, C, .val (.int st'), e'] [])
  | [], st, e, he => ⟨st, e, he, rfl⟩
  | n :: ns, st, e, he => by
    have e1 : ∀ x : Int, mulOk x 40699 = true := fun x => mulOk_r (by decide)
    obtain ⟨st', e', h1, h2⟩ := pool_loop S L C hS hL hC n0 ns ((st * 40699 + n % 2147483587 + 23) % 2147483629) (.val (.int n)) rfl
    refine ⟨st', e', h1, ?_⟩
    rw [← h2]
    simp [forD, gN, sAs, e2, eL, aC, aN, eVar, eC, gl1, gInt, gMod, gAdd, gMul, e1, truncS_val, truncS_v hS, truncS_v hL, truncS_v hC]
theorem cut_ints (ns : List Int) (lo hi : Option Int) : ∃ ms : List Int, PD.cutD (ns.map .int) lo hi = ms.map .int := by
  unfold PD.cutD
  exact ⟨_, by rw [← List.map_drop, ← List.map_take]⟩
theorem pool_cell (ns : List Int) (lap : Int) (h0 : 0 ≤ lap) (A B C : Slot) : ∃ cell : Int, (eIf (tV (e2 gLt (eVar 1) (eL (gl1 gLen) (aC (eVar 0) (aN))))) (eL (gl1 gInt) (aC (e2 gIx (eVar 0) (eVar 1)) (aN))) (e2 gAdd (e2 gMul (eC (.int 10391)) (eVar 1)) (eC (.int 1237)))) [.val (.list (ns.map .int)), .val (.int lap), A, B, C] [] = some (.int cell, []) := by
  have e1 : ∀ x : Int, mulOk 10391 x = true := fun x => mulOk_l (by decide)
  by_cases h : lap < ns.length
  · have hl : lap.toNat < ns.length := by omega
    refine ⟨ns[lap.toNat], ?_⟩
    simp [eIf, tV, e2, eL, aC, aN, eVar, eC, gl1, gLen, gLt, gBool, h, gInt, gIx, L2.atI, L2.ixN, h0, List.getElem?_eq_getElem hl]
  · refine ⟨10391 * lap + 1237, ?_⟩
    simp [eIf, tV, e2, eL, aC, aN, eVar, eC, gl1, gLen, gLt, gBool, h, gAdd, gMul, e1]
theorem pool_spec (ns : List Int) (lap : Int) (h0 : 0 ≤ lap) : ∃ p : List D, F_law_pool [.val (.list (ns.map .int)), .val (.int lap)] = some p ∧ Pool (.lst p) := by
  have e2' : ∀ x : Int, mulOk 9013 x = true := fun x => mulOk_l (by decide)
  have e3 : ∀ x : Int, mulOk x 97 = true := fun x => mulOk_r (by decide)
  have e4 : ∀ x : Int, mulOk x 31013 = true := fun x => mulOk_r (by decide)
  obtain ⟨cell, hc⟩ := pool_cell ns lap h0 .non .non .non
  obtain ⟨ms, hms⟩ := cut_ints ns none (some 63)
  obtain ⟨st', e', hv, hloop⟩ := pool_loop (.val (.list (ns.map .int))) (.val (.int lap)) (.val (.int cell)) rfl rfl rfl 0 ms (100153 + 9013 * lap) .non rfl
  have big : (10 : Int) ^ 15 = 1000000000000000 := by decide
  have s1 : (sAs (eIf (tV (e2 gLt (eVar 1) (eL (gl1 gLen) (aC (eVar 0) (aN))))) (eL (gl1 gInt) (aC (e2 gIx (eVar 0) (eVar 1)) (aN))) (e2 gAdd (e2 gMul (eC (.int 10391)) (eVar 1)) (eC (.int 1237)))) (gN 2)) 0 [.val (.list (ns.map .int)), .val (.int lap), .non, .non, .non] [] = some (.next [.val (.list (ns.map .int)), .val (.int lap), .val (.int cell), .non, .non] []) := by
    unfold sAs
    rw [hc]
    rfl
  have s3 : (sFor (anyItems (eSl (eVar 0) (pN) (pS (eC (.int 63))))) (gN 4) (sAs (e2 gMod (eL (gl1 gInt) (aC (e2 gAdd (e2 gAdd (e2 gMul (eVar 3) (eC (.int 40699))) (e2 gMod (eL (gl1 gInt) (aC (eVar 4) (aN))) (eC (.int 2147483587)))) (eC (.int 23))) (aN))) (eC (.int 2147483629))) (gN 3))) 0 [.val (.list (ns.map .int)), .val (.int lap), .val (.int cell), .val (.int (100153 + 9013 * lap)), .non] [] = some (.next [.val (.list (ns.map .int)), .val (.int lap), .val (.int cell), .val (.int st'), e'] []) := by
    have sl : anyItems (eSl (eVar 0) (pN) (pS (eC (.int 63)))) [.val (.list (ns.map .int)), .val (.int lap), .val (.int cell), .val (.int (100153 + 9013 * lap)), .non] [] = some (ms.map .int, []) := by
      simp [anyItems, lstItems, eSl, eVar, pN, pS, eC, gSl, hms]
    unfold sFor
    rw [sl, Option.bind_some]
    exact hloop
  have s2 : (sAs (e2 gAdd (eC (.int 100153)) (e2 gMul (eC (.int 9013)) (eVar 1))) (gN 3)) 0 [.val (.list (ns.map .int)), .val (.int lap), .val (.int cell), .non, .non] [] = some (.next [.val (.list (ns.map .int)), .val (.int lap), .val (.int cell), .val (.int (100153 + 9013 * lap)), .non] []) := by
    simp [sAs, e2, eC, eVar, gAdd, gMul, gN, e2']
  have s4 : (sAs (e2 gMod (eL (gl1 gInt) (aC (e2 gAdd (e2 gAdd (e2 gMul (eVar 3) (eC (.int 97))) (e2 gMul (e2 gMod (eL (gl1 gInt) (aC (eVar 2) (aN))) (eC (.int 2147483587))) (eC (.int 31013)))) (eC (.int 7))) (aN))) (eC (.int 2147483629))) (gN 3)) 0 [.val (.list (ns.map .int)), .val (.int lap), .val (.int cell), .val (.int st'), e'] [] = some (.next [.val (.list (ns.map .int)), .val (.int lap), .val (.int cell), .val (.int ((st' * 97 + cell % 2147483587 * 31013 + 7) % 2147483629)), e'] []) := by
    simp [sAs, e2, eC, eVar, gAdd, gMul, gN, e3, e4, eL, gl1, gInt, aC, aN, gMod]
  have all : ∀ (r : List D), (fRet (mLst (aC (eIf (tOr (tV (e2 gLt (eVar 2) (eC (.int 0)))) (tV (e2 gGe (eVar 2) (e2 gPow (eC (.int 10)) (eC (.int 15)))))) (eL (gl1 gAbs) (aC (eVar 2) (aN))) (eC (.int 0))) (aC (eVar 3) (aC (eC (.int 0)) (aN)))))) [.val (.list (ns.map .int)), .val (.int lap), .val (.int cell), .val (.int ((st' * 97 + cell % 2147483587 * 31013 + 7) % 2147483629)), e'] = some r → F_law_pool [.val (.list (ns.map .int)), .val (.int lap)] = some r := fun r hr => by
    show m_law_pool [.val (.list (ns.map .int)), .val (.int lap), .non, .non, .non] = some r
    unfold m_law_pool
    unfold fSeq
    rw [s1, Option.bind_some]
    show fSeq _ _ _ = _
    unfold fSeq
    rw [s2, Option.bind_some]
    show fSeq _ _ _ = _
    unfold fSeq
    rw [s3, Option.bind_some]
    show fSeq _ _ _ = _
    unfold fSeq
    rw [s4, Option.bind_some]
    exact hr
  have p15 : gPow (.int 10) (.int 15) = some (.int 1000000000000000) := by rfl
  have szl : (3 : Nat) ≤ sizeLine := by rw [sizeLine_eq]; decide
  by_cases hcl : cell < 0 ∨ 1000000000000000 ≤ cell
  · refine ⟨[.int (if cell < 0 then -cell else cell), .int ((st' * 97 + cell % 2147483587 * 31013 + 7) % 2147483629), .int 0], ?_, _, _, _, rfl, by split <;> omega⟩
    refine all _ ?_
    rcases hcl with h | h
    · simp [fRet, mLst, aC, aN, eIf, tOr, tV, e2, eVar, eC, gLt, gBool, eL, gl1, gAbs, h, szl]
    · have h' : ¬ cell < 0 := by omega
      simp [fRet, mLst, aC, aN, eIf, tOr, tV, e2, eVar, eC, gLt, gBool, eL, gl1, gAbs, h', h, gGe, p15, szl]
  · refine ⟨[.int 0, .int ((st' * 97 + cell % 2147483587 * 31013 + 7) % 2147483629), .int 0], ?_, _, _, _, rfl, by omega⟩
    refine all _ ?_
    have h1 : ¬ cell < 0 := fun z => hcl (.inl z)
    have h2 : ¬ 1000000000000000 ≤ cell := fun z => hcl (.inr z)
    simp [fRet, mLst, aC, aN, eIf, tOr, tV, e2, eVar, eC, gLt, gBool, eL, gl1, gAbs, h1, h2, gGe, p15, szl]
def nfN (n m : Int) : Int := n / ((Nat.gcd n.natAbs m.natAbs : Nat) : Int)
def nfD (n m : Int) : Int := m / ((Nat.gcd n.natAbs m.natAbs : Nat) : Int)
theorem gcd_scale (n m : Int) {k : Int} (hk : 0 < k) : ((Nat.gcd (k * n).natAbs (k * m).natAbs : Nat) : Int) = k * ((Nat.gcd n.natAbs m.natAbs : Nat) : Int) := by
  rw [Int.natAbs_mul, Int.natAbs_mul, Nat.gcd_mul_left]
  have : (k.natAbs : Int) = k := Int.natAbs_of_nonneg (by omega)
  rw [Int.natCast_mul, this]
theorem nfN_scale (n m : Int) {k : Int} (hk : 0 < k) : nfN (k * n) (k * m) = nfN n m := by
  unfold nfN
  rw [gcd_scale n m hk, Int.mul_ediv_mul_of_pos _ _ hk]
theorem nfD_scale (n m : Int) {k : Int} (hk : 0 < k) : nfD (k * n) (k * m) = nfD n m := by
  unfold nfD
  rw [gcd_scale n m hk, Int.mul_ediv_mul_of_pos _ _ hk]
theorem nf_same {n m r s : Int} (hm : 0 < m) (hs : 0 < s) (h : n * s = r * m) : nfN n m = nfN r s ∧ nfD n m = nfD r s := by
  have e : m * s = s * m := Int.mul_comm _ _
  refine ⟨?_, ?_⟩
  · rw [← nfN_scale n m hs, ← nfN_scale r s hm, Int.mul_comm s n, h, Int.mul_comm r m, e]
  · rw [← nfD_scale n m hs, ← nfD_scale r s hm, Int.mul_comm s n, h, Int.mul_comm r m, e]
def frac (s r : Int) : D := .tuple [.int (nfN r s), .int (nfD r s)]
theorem g_pos (r : Int) {s : Int} (hs : 0 < s) : 0 < ((Nat.gcd r.natAbs s.natAbs : Nat) : Int) := by
  have : 0 < Nat.gcd r.natAbs s.natAbs := Nat.gcd_pos_of_pos_right _ (by omega)
  omega
theorem g_dvd_r (r s : Int) : ((Nat.gcd r.natAbs s.natAbs : Nat) : Int) ∣ r := Int.gcd_dvd_left ..
theorem g_dvd_s (r s : Int) : ((Nat.gcd r.natAbs s.natAbs : Nat) : Int) ∣ s := Int.gcd_dvd_right ..
theorem nfN_mul (r s : Int) : nfN r s * ((Nat.gcd r.natAbs s.natAbs : Nat) : Int) = r := Int.ediv_mul_cancel (g_dvd_r r s)
theorem nfD_mul (r s : Int) : nfD r s * ((Nat.gcd r.natAbs s.natAbs : Nat) : Int) = s := Int.ediv_mul_cancel (g_dvd_s r s)
theorem nfD_pos (r : Int) {s : Int} (hs : 0 < s) : 0 < nfD r s :=
  Int.ediv_pos_of_pos_of_dvd hs (Int.le_of_lt (g_pos r hs)) (g_dvd_s r s)
theorem nfD_le (r : Int) {s : Int} (hs : 0 < s) : nfD r s ≤ s := Int.ediv_le_self _ (by omega)
theorem nf_cross (r : Int) {s : Int} (hs : 0 < s) : nfN r s * s = r * nfD r s := by
  have h1 := nfN_mul r s
  have h2 := nfD_mul r s
  generalize ((Nat.gcd r.natAbs s.natAbs : Nat) : Int) = g at *
  calc nfN r s * s = nfN r s * (nfD r s * g) := by rw [h2]
    _ = (nfN r s * g) * nfD r s := by rw [Int.mul_assoc, Int.mul_comm g, ]
    _ = r * nfD r s := by rw [h1]
/-- the fraction tells its upper number -/
theorem frac_inj {s r r' : Int} (hs : 0 < s) (h : frac s r = frac s r') : r = r' := by
  unfold frac at h
  simp only [PyData.tuple.injEq, List.cons.injEq, PyData.int.injEq, and_true] at h
  have h1 := nf_cross r hs
  have h2 := nf_cross r' hs
  rw [h.1, h.2] at h1
  have hd := nfD_pos r' hs
  rw [h2] at h1
  exact (Int.eq_of_mul_eq_mul_right (by omega) h1).symm
theorem log_small {i : Int} (h : i.natAbs < 2 ^ 64) : i.natAbs.log2 < 64 := by
  by_cases z : i.natAbs = 0
  · rw [z]; decide
  · exact (Nat.log2_lt z).mpr h
theorem divOk_small {j : Int} (h : 0 < j) (h2 : j < 2 ^ 64) : divOk j = true := by
  have : j.natAbs.log2 < 64 := log_small (by omega)
  unfold divOk
  simp [h]
  omega
theorem g_le (r : Int) {s : Int} (hs : 0 < s) : ((Nat.gcd r.natAbs s.natAbs : Nat) : Int) ≤ s := by
  have : Nat.gcd r.natAbs s.natAbs ≤ s.natAbs := Nat.gcd_le_right _ (by omega)
  omega
theorem szl {n : Nat} (h : n ≤ 16777216 := by omega) : n ≤ sizeLine := by rw [sizeLine_eq]; exact h
theorem lowest_spec {n m : Int} (hm : 0 < m) (hb : m < 2 ^ 64) : F_lowest [.val (.int n), .val (.int m)] [] = some (.tuple [.int (nfN n m), .int (nfD n m)], []) := by
  have hd : divOk ((Nat.gcd n.natAbs m.natAbs : Nat) : Int) = true := divOk_small (g_pos n hm) (Int.lt_of_le_of_lt (g_le n hm) hb)
  simp [F_lowest, bodyF, m_lowest, sSeq, sAs, eIf, tV, e2, e1, eVar, eC, eL, aC, aN, gl2, gGt, gBool, hm, gGcd, gN, gDiv, hd, sRet, gTup, okB, B0, nfN, nfD, szl (n := 2)]
theorem plus_cross {a b s : Int} (hs : 0 < s) : (nfN a s * nfD b s + nfN b s * nfD a s) * s = (a + b) * (nfD a s * nfD b s) := by
  have h1 := nf_cross a hs
  have h2 := nf_cross b hs
  generalize nfN a s = x at *
  generalize nfD a s = y at *
  generalize nfN b s = z at *
  generalize nfD b s = w at *
  calc (x * w + z * y) * s = (x * s) * w + (z * s) * y := by
        rw [Int.add_mul, Int.mul_right_comm x w s, Int.mul_right_comm z y s]
    _ = (a * y) * w + (b * w) * y := by rw [h1, h2]
    _ = (a + b) * (y * w) := by rw [Int.add_mul, Int.mul_assoc, Int.mul_right_comm b w y, Int.mul_assoc b]
theorem frac_plus {a b s : Int} (hs : 0 < s) : PyData.tuple [.int (nfN (nfN a s * nfD b s + nfN b s * nfD a s) (nfD a s * nfD b s)), .int (nfD (nfN a s * nfD b s + nfN b s * nfD a s) (nfD a s * nfD b s))] = frac s (a + b) := by
  have h := nf_same (Int.mul_pos (nfD_pos a hs) (nfD_pos b hs)) hs (plus_cross (a := a) (b := b) hs)
  unfold frac
  rw [h.1, h.2]
theorem nfD_small (r : Int) {s : Int} (hs : 0 < s) (hb : s < 65536) : (nfD r s).natAbs < 2 ^ 64 := by
  have h1 := nfD_pos r hs
  have h2 := nfD_le r hs
  omega
theorem den_small {a b s : Int} (hs : 0 < s) (hb : s < 65536) : nfD a s * nfD b s < 2 ^ 64 := by
  have h1 := nfD_pos a hs
  have h2 := nfD_le a hs
  have h3 := nfD_pos b hs
  have h4 := nfD_le b hs
  have : nfD a s * nfD b s ≤ 65536 * 65536 := Int.mul_le_mul (by omega) (by omega) (by omega) (by omega)
  omega
theorem plus_spec {a b s : Int} (hs : 0 < s) (hb : s < 65536) : F_plus [.val (frac s a), .val (frac s b)] [] = some (frac s (a + b), []) := by
  have m1 : ∀ x, mulOk x (nfD b s) = true := fun x => mulOk_r (nfD_small b hs hb)
  have m2 : ∀ x, mulOk x (nfD a s) = true := fun x => mulOk_r (nfD_small a hs hb)
  have l := lowest_spec (n := nfN a s * nfD b s + nfN b s * nfD a s) (Int.mul_pos (nfD_pos a hs) (nfD_pos b hs)) (den_small (a := a) (b := b) hs hb)
  rw [frac_plus hs] at l
  simp [F_plus, bodyF, m_plus, sRet, e2, eVar, eC, eCall, rV, rN, lentOf, slotsOf, cellsOf, nodupB, frac, gIx, L2.atI, L2.ixN, gMul, m1, m2, gAdd, flatCs, setCells, okB, B0] at l ⊢
  rw [l]
  rfl
theorem frac_zero {s : Int} (hs : 0 < s) : PyData.tuple [.int 0, .int 1] = frac s 0 := by
  unfold frac nfN nfD
  have : ((Nat.gcd (0 : Int).natAbs s.natAbs : Nat) : Int) = s := by
    rw [Int.natAbs_zero, Nat.gcd_zero_left]
    omega
  rw [this, Int.zero_ediv, Int.ediv_self (by omega)]
theorem frac_one {s : Int} (hs : 0 < s) : PyData.tuple [.int 1, .int 1] = frac s s := by
  unfold frac nfN nfD
  have : ((Nat.gcd s.natAbs s.natAbs : Nat) : Int) = s := by
    rw [Nat.gcd_self]
    omega
  rw [this, Int.ediv_self (by omega)]
theorem total_loop {s : Int} (hs : 0 < s) (hb : s < 65536) (S : Slot) (hS : isV S = true) (n0 : Nat) : ∀ (rs : List Int) (a : Int) (e : Slot), isV e = true →
    ∃ e', isV e' = true ∧ forD (gN 2) (sAs (eCall 2 F_plus (rV (eVar 1) (rV (eVar 2) (rN)))) (gN 1)) n0 0 (rs.map (frac s)) [S, .val (frac s a), e] [] = some (.next [S, .val (frac s (a + rs.sum)), e'] [])
  | [], a, e, he => ⟨e, he, by simp [forD]⟩
  | r :: rs, a, e, he => by
    obtain ⟨e', h1, h2⟩ := total_loop hs hb S hS n0 rs (a + r) (.val (frac s r)) rfl
    refine ⟨e', h1, ?_⟩
    rw [List.sum_cons, ← Int.add_assoc, ← h2]
    simp [forD, gN, sAs, eCall, rV, rN, eVar, lentOf, slotsOf, cellsOf, nodupB, plus_spec hs hb, flatCs, setCells, truncS_v hS, truncS_val]
theorem flat_frac {s a : Int} : flat (frac s a) = true := rfl
theorem total_spec {s : Int} (hs : 0 < s) (hb : s < 65536) (rs : List Int) : F_total [.val (.list (rs.map (frac s)))] [] = some (frac s rs.sum, []) := by
  obtain ⟨e', h1, h2⟩ := total_loop hs hb (.val (.list (rs.map (frac s)))) rfl 0 rs 0 .non rfl
  rw [Int.zero_add, ← frac_zero hs] at h2
  simp [F_total, bodyF, m_total, sSeq, sAs, eC, gN, c_NOTHING, sFor, anyItems, lstItems, eVar, sRet, okB, B0, h2, flat_frac]
theorem fr_loop (N M : Int) : ∀ (f : Nat) (l h : Nat), h < f → ∃ f', whD (tV (e2 gGt (eVar 3) (eC (.int 0)))) (sPar B0 2 3 (aC (eVar 3) (aC (e2 gMod (eL (gl1 gInt) (aC (eVar 2) (aN))) (eVar 3)) (aN)))) 0 f' 0 [.val (.int N), .val (.int M), .val (.int (l : Int)), .val (.int (h : Int))] [] = some (.next [.val (.int N), .val (.int M), .val (.int ((Nat.gcd l h : Nat) : Int)), .val (.int 0)] [])
  | 0, l, h, hf => absurd hf (Nat.not_lt_zero _)
  | f + 1, l, h, hf => by
    by_cases hz : h = 0
    · subst hz
      refine ⟨1, ?_⟩
      simp [whD, tV, e2, eVar, eC, gGt, gBool]
    · have hp : 0 < h := Nat.pos_of_ne_zero hz
      have hm := Nat.mod_lt l hp
      obtain ⟨f', h'⟩ := fr_loop N M f h (l % h) (by omega)
      refine ⟨f' + 1, ?_⟩
      have hg : Nat.gcd h (l % h) = Nat.gcd l h := by rw [Nat.gcd_comm h, ← Nat.gcd_rec, Nat.gcd_comm]
      rw [hg] at h'
      have hp' : (0 : Int) < (h : Int) := by omega
      rw [← h']
      simp [whD, tV, e2, eVar, eC, gGt, gBool, hp, sPar, aC, aN, eL, gl1, gInt, gMod, flat, B0, truncS_val]
theorem fr_spec {n m : Int} (hm : 0 < m) (hb : m < 2 ^ 64) : F_law_fr [.val (.int n), .val (.int m)] [] = some (.tuple [.int (nfN n m), .int (nfD n m)], []) := by
  obtain ⟨f', h⟩ := fr_loop n m (n.natAbs + 1) m.natAbs n.natAbs (by omega)
  have h := sWhile_of (t := tV (e2 gGt (eVar 3) (eC (.int 0)))) (μ := []) (n0 := 0) h
  rw [Nat.gcd_comm] at h
  have e1 : (m.natAbs : Int) = m := by omega
  have hd : divOk ((Nat.gcd n.natAbs m.natAbs : Nat) : Int) = true := divOk_small (g_pos n hm) (Int.lt_of_le_of_lt (g_le n hm) hb)
  have hab : ∀ x : Int, (if x < 0 then -x else x) = (x.natAbs : Int) := fun x => by split <;> omega
  simp [F_law_fr, bodyF, m_law_fr, sSeq, sPar, aC, aN, eL, gl1, gAbs, eVar, hab, flat, B0] at h ⊢
  rw [h]
  simp [sRet, eIf, tV, e2, eVar, eC, gGt, gBool, hm, eL, gTup, aC, aN, gDiv, hd, okB, B0, nfN, nfD, szl (n := 2)]
theorem lplus_spec {a b s : Int} (hs : 0 < s) (hb : s < 65536) : F_law_plus [.val (frac s a), .val (frac s b)] [] = some (frac s (a + b), []) := by
  have m1 : ∀ x, mulOk x (nfD b s) = true := fun x => mulOk_r (nfD_small b hs hb)
  have m2 : ∀ x, mulOk x (nfD a s) = true := fun x => mulOk_r (nfD_small a hs hb)
  have l := fr_spec (n := nfN a s * nfD b s + nfN b s * nfD a s) (Int.mul_pos (nfD_pos a hs) (nfD_pos b hs)) (den_small (a := a) (b := b) hs hb)
  rw [frac_plus hs] at l
  simp [F_law_plus, bodyF, m_law_plus, sRet, e2, eVar, eC, eCall, rV, rN, lentOf, slotsOf, cellsOf, nodupB, frac, gIx, L2.atI, L2.ixN, gMul, m1, m2, gAdd, flatCs, setCells, okB, B0] at l ⊢
  rw [l]
  rfl
theorem lsum_loop {s : Int} (hs : 0 < s) (hb : s < 65536) (S : Slot) (hS : isV S = true) (n0 : Nat) : ∀ (rs : List Int) (a : Int) (e : Slot), isV e = true →
    ∃ e', isV e' = true ∧ forD (gN 2) (sAs (eCall 2 F_law_plus (rV (eVar 1) (rV (eVar 2) (rN)))) (gN 1)) n0 0 (rs.map (frac s)) [S, .val (frac s a), e] [] = some (.next [S, .val (frac s (a + rs.sum)), e'] [])
  | [], a, e, he => ⟨e, he, by simp [forD]⟩
  | r :: rs, a, e, he => by
    obtain ⟨e', h1, h2⟩ := lsum_loop hs hb S hS n0 rs (a + r) (.val (frac s r)) rfl
    refine ⟨e', h1, ?_⟩
    rw [List.sum_cons, ← Int.add_assoc, ← h2]
    simp [forD, gN, sAs, eCall, rV, rN, eVar, lentOf, slotsOf, cellsOf, nodupB, lplus_spec hs hb, flatCs, setCells, truncS_v hS, truncS_val]
theorem nfN_neg (r s : Int) : 0 - nfN r s = nfN (-r) s := by
  unfold nfN
  rw [Int.natAbs_neg, Int.zero_sub, Int.neg_ediv_of_dvd (g_dvd_r r s)]
theorem nfD_neg (r s : Int) : nfD r s = nfD (-r) s := by
  unfold nfD
  rw [Int.natAbs_neg]
theorem lt_iff {a b s : Int} (hs : 0 < s) : nfN a s * nfD b s < nfN b s * nfD a s ↔ a < b := by
  have h1 := nf_cross a hs
  have h2 := nf_cross b hs
  have p1 := nfD_pos a hs
  have p2 := nfD_pos b hs
  generalize nfN a s = x at *
  generalize nfD a s = y at *
  generalize nfN b s = z at *
  generalize nfD b s = w at *
  have e1 : (x * w) * s = a * (y * w) := by rw [Int.mul_right_comm, h1, Int.mul_assoc]
  have e2 : (z * y) * s = b * (y * w) := by rw [Int.mul_right_comm, h2, Int.mul_assoc, Int.mul_comm w]
  constructor
  · intro h
    have := Int.mul_lt_mul_of_pos_right h hs
    rw [e1, e2] at this
    exact Int.lt_of_mul_lt_mul_right this (Int.le_of_lt (Int.mul_pos p1 p2))
  · intro h
    have := Int.mul_lt_mul_of_pos_right h (Int.mul_pos p1 p2)
    rw [← e1, ← e2] at this
    exact Int.lt_of_mul_lt_mul_right this (Int.le_of_lt hs)
theorem lt_spec {a b s : Int} (hs : 0 < s) (hb : s < 65536) : F_law_is_less [.val (frac s a), .val (frac s b)] [] = some (.bool (decide (a < b)), []) := by
  have m1 : ∀ x, mulOk x (nfD b s) = true := fun x => mulOk_r (nfD_small b hs hb)
  have m2 : ∀ x, mulOk x (nfD a s) = true := fun x => mulOk_r (nfD_small a hs hb)
  simp [F_law_is_less, bodyF, m_law_is_less, sRet, e2, eVar, eC, frac, gIx, L2.atI, L2.ixN, gMul, m1, m2, gLt, okB, B0, lt_iff hs]
def setD (xs : List Str) : D := .tuple (xs.map .str)
theorem eq_str (n : Nat) (x y : Str) : eqF (n + 1) (.str x) (.str y) = some (x == y) := by
  simp [eqF]
theorem anyF_str (x : Str) : ∀ b : List Str, anyF (.str x) (b.map .str) = some (decide (x ∈ b))
  | [] => by simp [anyF]
  | y :: ys => by
    rw [List.map_cons, anyF, eq_str, anyF_str x ys]
    by_cases h : y = x
    · subst h; simp
    · have h' : ¬ x = y := fun e => h e.symm
      simp [h, h']
theorem in_set (x : Str) (b : List Str) : gIn (.str x) (setD b) = some (.bool (decide (x ∈ b))) := by
  simp [gIn, gInB, setD, itemsOf, anyF_str]
theorem notin_set (x : Str) (b : List Str) : gNotIn (.str x) (setD b) = some (.bool (!decide (x ∈ b))) := by
  simp [gNotIn, gInB, setD, itemsOf, anyF_str]
theorem lcD_map {α : Type} {g : MG} {t : MT} {e : ME} {ρ0 : List Slot} {μ : List Cell} (enc : α → D) (b : α → Bool) (f : α → D) : ∀ (xs : List α), (∀ x ∈ xs, ∃ ρ, g (enc x) ρ0 μ = some (ρ, μ) ∧ t ρ μ = some (b x, μ) ∧ (b x = true → e ρ μ = some (f x, μ))) → lcD g t e ρ0 (xs.map enc) μ = some ((xs.filter b).map f, μ)
  | [], _ => rfl
  | x :: xs, h => by
    obtain ⟨ρ, h1, h2, h3⟩ := h x (List.mem_cons_self ..)
    have ih := lcD_map enc b f xs fun y hy => h y (List.mem_cons_of_mem _ hy)
    rw [List.map_cons, lcD, h1, Option.bind_some, h2, Option.bind_some]
    by_cases hb : b x = true
    · simp [hb, h3 hb, ih]
    · simp [hb, ih]
theorem bools_map {α : Type} (p : α → Bool) : ∀ xs : List α, boolsOf (xs.map fun x => .bool (p x)) = some (xs.map p)
  | [] => rfl
  | x :: xs => by simp [boolsOf, bools_map p xs]
def sub (a b : List Str) : Bool := a.all fun x => decide (x ∈ b)
def meet (a b : List Str) : Bool := a.any fun x => decide (x ∈ b)
theorem len_map_sz {α : Type} {f : α → D} {xs : List α} (h : xs.length < 65536) : decide ((xs.map f).length ≤ sizeLine) = true := by
  rw [List.length_map]
  exact decide_eq_true (szl (n := xs.length) (by omega))
theorem filter_tt {α : Type} (xs : List α) : xs.filter (fun _ => true) = xs := by simp
theorem items_tup {a : ME} {ρ : List Slot} {μ μ' : List Cell} {ds : List D} (h : a ρ μ = some (.tuple ds, μ')) : anyItems a ρ μ = some (ds, μ') := by
  simp [anyItems, tupItems, h]
theorem items_list {a : ME} {ρ : List Slot} {μ μ' : List Cell} {ds : List D} (h : a ρ μ = some (.list ds, μ')) : anyItems a ρ μ = some (ds, μ') := by
  simp [anyItems, lstItems, h]
theorem lc_of {α : Type} {mi : MA} {vs : List Nat} {g : MG} {t : MT} {e : ME} {ρ : List Slot} {μ : List Cell} (enc : α → D) (b : α → Bool) (f : α → D) (xs : List α) (hi : mi ρ μ = some (xs.map enc, μ)) (hn : noOwn ρ vs = true) (hl : xs.length < 65536)
    (h : ∀ x ∈ xs, ∃ ρ', g (enc x) (wipeD ρ vs) μ = some (ρ', μ) ∧ t ρ' μ = some (b x, μ) ∧ (b x = true → e ρ' μ = some (f x, μ))) : mLc true mi vs g t e ρ μ = some ((xs.filter b).map f, μ) := by
  unfold mLc
  rw [hi, Option.bind_some]
  show (if (noOwn ρ vs && (true || _) && decide ((xs.map enc).length ≤ sizeLine)) = true then lcD g t e (wipeD ρ vs) (xs.map enc) μ else none) = _
  rw [hn, len_map_sz hl, lcD_map enc b f xs h]
  rfl
theorem lc_all {α : Type} {mi : MA} {vs : List Nat} {g : MG} {e : ME} {ρ : List Slot} {μ : List Cell} (enc : α → D) (f : α → D) (xs : List α) (hi : mi ρ μ = some (xs.map enc, μ)) (hn : noOwn ρ vs = true) (hl : xs.length < 65536)
    (h : ∀ x ∈ xs, ∃ ρ', g (enc x) (wipeD ρ vs) μ = some (ρ', μ) ∧ e ρ' μ = some (f x, μ)) : mLc true mi vs g tTrue e ρ μ = some (xs.map f, μ) := by
  have := lc_of (t := tTrue) enc (fun _ => true) f xs hi hn hl fun x hx => by
    obtain ⟨ρ', h1, h2⟩ := h x hx
    exact ⟨ρ', h1, rfl, fun _ => h2⟩
  rwa [filter_tt] at this
theorem within_spec (a b : List Str) (ha : a.length < 65536) : F_is_within [.val (setD a), .val (setD b)] [] = some (.bool (sub a b), []) := by
  have h : mLc true (anyItems (eVar 0)) [2] (gcN 2) tTrue (e2 gIn (eVar 2) (eVar 1)) [.val (setD a), .val (setD b), .non] [] = some (a.map fun x => .bool (decide (x ∈ b)), []) :=
    lc_all PyData.str _ a (items_tup rfl) rfl ha fun x _ => ⟨[.val (setD a), .val (setD b), .val (.str x)], rfl, by simp [e2, eVar, in_set]⟩
  simp [F_is_within, bodyF, m_is_within, sRet, eL, gl1, aC, aN, eF, h, gAll, bools_map, okB, B0, sub]
theorem meet_spec (a b : List Str) (ha : a.length < 65536) : F_has_common [.val (setD a), .val (setD b)] [] = some (.bool (meet a b), []) := by
  have h : mLc true (anyItems (eVar 0)) [2] (gcN 2) tTrue (e2 gIn (eVar 2) (eVar 1)) [.val (setD a), .val (setD b), .non] [] = some (a.map fun x => .bool (decide (x ∈ b)), []) :=
    lc_all PyData.str _ a (items_tup rfl) rfl ha fun x _ => ⟨[.val (setD a), .val (setD b), .val (.str x)], rfl, by simp [e2, eVar, in_set]⟩
  simp [F_has_common, bodyF, m_has_common, sRet, eL, gl1, aC, aN, eF, h, gAny, bools_map, okB, B0, meet]
/-- masses: sets with what they weigh, over one under-number -/
def massD (s : Int) (m : List (List Str × Int)) : D := .tuple (m.map fun p => .tuple [setD p.1, frac s p.2])
def sumOf (m : List (List Str × Int)) (p : List Str → Bool) : Int := ((m.filter fun q => p q.1).map (·.2)).sum
structure Okm (s : Int) (m : List (List Str × Int)) : Prop where
  pos : 0 < s
  low : s < 65536
  len : m.length < 65536
  lens : ∀ q ∈ m, q.1.length < 65536
theorem unz (s : Int) (q : List Str × Int) (A B C E : Slot) (hA : isOwn [A, B, C, E] 2 = false) (hB : isOwn [A, B, C, E] 3 = false) : gT 2 (gsC (gcN 2) (gsC (gcN 3) gsN)) (.tuple [setD q.1, frac s q.2]) [A, B, C, E] [] = some ([A, B, .val (setD q.1), .val (frac s q.2)], []) := by
  simp [gT, gsC, gsN, gcN, hA, hB]
  cases C <;> cases E <;> simp_all [isOwn]
theorem belief_by_spec {s : Int} {m : List (List Str × Int)} (o : Okm s m) (x : List Str) : F_belief_by [.val (massD s m), .val (setD x)] [] = some (frac s (sumOf m fun y => sub y x), []) := by
  have h : mLc true (anyItems (eVar 0)) [2, 3] (gT 2 (gsC (gcN 2) (gsC (gcN 3) (gsN)))) (tV (eCall 2 F_is_within (rV (eVar 2) (rV (eVar 1) (rN))))) (eVar 3) [.val (massD s m), .val (setD x), .non, .non] [] = some ((m.filter fun q => sub q.1 x).map fun q => frac s q.2, []) :=
    lc_of (fun p => .tuple [setD p.1, frac s p.2]) (fun q => sub q.1 x) (fun q => frac s q.2) m (items_tup rfl) rfl o.len fun q hq => ⟨[.val (massD s m), .val (setD x), .val (setD q.1), .val (frac s q.2)], unz s q _ _ _ _ rfl rfl, by
      simp [tV, eCall, rV, rN, eVar, lentOf, slotsOf, cellsOf, nodupB, flatCs, setCells, within_spec q.1 x (o.lens q hq), gBool], fun _ => rfl⟩
  have t := total_spec o.pos o.low ((m.filter fun q => sub q.1 x).map (·.2))
  rw [List.map_map] at t
  simp [F_belief_by, bodyF, m_belief_by, sRet, eCall, rV, rN, eF, h, lentOf, slotsOf, cellsOf, nodupB, flatCs, setCells, okB, B0, sumOf]
  rw [show (fun q : List Str × Int => frac s q.2) = (frac s ∘ fun q => q.2) from rfl, t]
  rfl
theorem may_by_spec {s : Int} {m : List (List Str × Int)} (o : Okm s m) (x : List Str) : F_may_by [.val (massD s m), .val (setD x)] [] = some (frac s (sumOf m fun y => meet y x), []) := by
  have h : mLc true (anyItems (eVar 0)) [2, 3] (gT 2 (gsC (gcN 2) (gsC (gcN 3) (gsN)))) (tV (eCall 2 F_has_common (rV (eVar 2) (rV (eVar 1) (rN))))) (eVar 3) [.val (massD s m), .val (setD x), .non, .non] [] = some ((m.filter fun q => meet q.1 x).map fun q => frac s q.2, []) :=
    lc_of (fun p => .tuple [setD p.1, frac s p.2]) (fun q => meet q.1 x) (fun q => frac s q.2) m (items_tup rfl) rfl o.len fun q hq => ⟨[.val (massD s m), .val (setD x), .val (setD q.1), .val (frac s q.2)], unz s q _ _ _ _ rfl rfl, by
      simp [tV, eCall, rV, rN, eVar, lentOf, slotsOf, cellsOf, nodupB, flatCs, setCells, meet_spec q.1 x (o.lens q hq), gBool], fun _ => rfl⟩
  have t := total_spec o.pos o.low ((m.filter fun q => meet q.1 x).map (·.2))
  rw [List.map_map] at t
  simp [F_may_by, bodyF, m_may_by, sRet, eCall, rV, rN, eF, h, lentOf, slotsOf, cellsOf, nodupB, flatCs, setCells, okB, B0, sumOf]
  rw [show (fun q : List Str × Int => frac s q.2) = (frac s ∘ fun q => q.2) from rfl, t]
  rfl
theorem common_by_spec {s : Int} {m : List (List Str × Int)} (o : Okm s m) (x : List Str) (hx : x.length < 65536) : F_common_by [.val (massD s m), .val (setD x)] [] = some (frac s (sumOf m fun y => sub x y), []) := by
  have h : mLc true (anyItems (eVar 0)) [2, 3] (gT 2 (gsC (gcN 2) (gsC (gcN 3) (gsN)))) (tV (eCall 2 F_is_within (rV (eVar 1) (rV (eVar 2) (rN))))) (eVar 3) [.val (massD s m), .val (setD x), .non, .non] [] = some ((m.filter fun q => sub x q.1).map fun q => frac s q.2, []) :=
    lc_of (fun p => .tuple [setD p.1, frac s p.2]) (fun q => sub x q.1) (fun q => frac s q.2) m (items_tup rfl) rfl o.len fun q hq => ⟨[.val (massD s m), .val (setD x), .val (setD q.1), .val (frac s q.2)], unz s q _ _ _ _ rfl rfl, by
      simp [tV, eCall, rV, rN, eVar, lentOf, slotsOf, cellsOf, nodupB, flatCs, setCells, within_spec x q.1 hx, gBool], fun _ => rfl⟩
  have t := total_spec o.pos o.low ((m.filter fun q => sub x q.1).map (·.2))
  rw [List.map_map] at t
  simp [F_common_by, bodyF, m_common_by, sRet, eCall, rV, rN, eF, h, lentOf, slotsOf, cellsOf, nodupB, flatCs, setCells, okB, B0, sumOf]
  rw [show (fun q : List Str × Int => frac s q.2) = (frac s ∘ fun q => q.2) from rfl, t]
  rfl
theorem eq_nil (xs : List D) : gEq (.list xs) (.list []) = some (.bool xs.isEmpty) := by
  cases xs <;> simp [gEq, eqF, eqL]
theorem ne_nil (xs : List D) : gNe (.list xs) (.list []) = some (.bool (!xs.isEmpty)) := by
  cases xs <;> simp [gNe, eqF, eqL]
theorem filter_empty {α : Type} (p : α → Bool) (xs : List α) : (xs.filter fun x => !p x).isEmpty = xs.all p := by
  induction xs with
  | nil => rfl
  | cons x xs ih => by_cases h : p x = true <;> simp_all
theorem filter_some {α : Type} (p : α → Bool) (xs : List α) : (!(xs.filter p).isEmpty) = xs.any p := by
  induction xs with
  | nil => rfl
  | cons x xs ih => by_cases h : p x = true <;> simp_all
theorem tV_of {a : ME} {ρ : List Slot} {μ μ' : List Cell} {b : Bool} (h : a ρ μ = some (.bool b, μ')) : tV a ρ μ = some (b, μ') := by
  unfold tV; rw [h]; rfl
theorem e2_of {g : G2} {a b : ME} {ρ : List Slot} {μ μ1 μ2 : List Cell} {x y z : D} (h : a ρ μ = some (x, μ1)) (h2 : b ρ μ1 = some (y, μ2)) (hg : g x y = some z) : e2 g a b ρ μ = some (z, μ2) := by
  unfold e2; rw [h, Option.bind_some, h2, Option.bind_some, hg]; rfl
theorem eF_of {m : MA} {ρ : List Slot} {μ μ' : List Cell} {ds : List D} (h : m ρ μ = some (ds, μ')) : eF m ρ μ = some (.list ds, μ') := by
  unfold eF; rw [h]; rfl
theorem unz5 (s : Int) (q : List Str × Int) (A B C E F : Slot) (hA : isOwn [A, B, C, E, F] 2 = false) (hB : isOwn [A, B, C, E, F] 3 = false) : gT 2 (gsC (gcN 2) (gsC (gcN 3) gsN)) (.tuple [setD q.1, frac s q.2]) [A, B, C, E, F] [] = some ([A, B, .val (setD q.1), .val (frac s q.2), F], []) := by
  simp [gT, gsC, gsN, gcN, hA, hB]
  cases C <;> cases E <;> simp_all [isOwn]
theorem cut_to {ds : List D} {i : Nat} (h : i ≤ ds.length) : PD.cutD ds none (some (i : Int)) = ds.take i := by
  have e : HT.sIx ds.length ds.length (some (i : Int)) = i := by
    show (if (i : Int) < 0 then ((i : Int) + (ds.length : Int)).toNat else min (i : Int).toNat ds.length) = i
    rw [if_neg (by omega)]
    omega
  unfold PD.cutD
  rw [e]
  show (ds.drop 0).take (i - 0) = _
  rw [List.drop_zero, Nat.sub_zero]
/-- a bound at the top: none, or a number -/
def topD : Option Nat → D
  | none => .none
  | some n => .int n
def topOk (n : Nat) : Option Nat → Prop
  | none => True
  | some m => n ≤ m
theorem top_ne {i n : Nat} {o : Option Nat} (h : topOk n o) (hi : i < n) : gEq (.int i) (topD o) = some (.bool false) := by
  cases o with
  | none => rfl
  | some m =>
    have h : n ≤ m := h
    have : ¬ ((i : Int) = (m : Int)) := by omega
    simp [topD, gEq, eqF, this]
theorem truncS_fn (G : List D → Option D) : truncS 0 [] (.fn G) = .fn G := rfl
theorem wi_loop (ds : List D) (L : Slot) (o : Option Nat) (G : List D → Option D) (hL : isV L = true) (ho : topOk ds.length o) (n0 : Nat) : ∀ (k : Nat) (rest : List D) (u w : Slot), isV u = true → isV w = true → ds.drop k = rest → (∀ i (h : i < ds.length), k ≤ i → G [.tuple (ds.take i), ds[i]] = some (.bool true)) →
    ∃ u' w', isV u' = true ∧ isV w' = true ∧ forD (gT 2 (gsC (gN 4) (gsC (gN 5) (gsN)))) (sIf (tOr (tV (e2 gEq (eVar 4) (eVar 2))) (tNot (tV (eFn 3 (aC (eSl (eVar 0) (pN) (pS (eVar 4))) (aC (eVar 5) (aN))))))) (sRet B0 (eL gLst (aC (eVar 4) (aN)))) (sNil)) n0 0 (enumD k rest) [.val (.tuple ds), L, .val (topD o), .fn G, u, w] [] = some (.next [.val (.tuple ds), L, .val (topD o), .fn G, u', w'] [])
  | k, [], u, w, h1, h2, _, _ => ⟨u, w, h1, h2, rfl⟩
  | k, r :: rest, u, w, h1, h2, hd, hG => by
    have hk : k < ds.length := by
      have := congrArg List.length hd
      simp at this
      omega
    have hr : ds[k] = r := by
      have := congrArg (·[0]?) hd
      simp [List.getElem?_drop, List.getElem?_eq_getElem hk] at this
      exact this
    obtain ⟨u', w', q1, q2, ih⟩ := wi_loop ds L o G hL ho n0 (k + 1) rest (.val (.int k)) (.val r) rfl rfl (by rw [← List.drop_drop, hd]; rfl) fun i h hi => hG i h (by omega)
    refine ⟨u', w', q1, q2, ?_⟩
    rw [← ih]
    have g := hG k hk (Nat.le_refl _)
    rw [hr] at g
    have c : gSl (.tuple ds) none (some (k : Int)) = some (.tuple (ds.take k)) := by rw [← cut_to (Nat.le_of_lt hk)]; rfl
    rw [show enumD k (r :: rest) = .tuple [.int k, r] :: enumD (k + 1) rest from rfl]
    cases u <;> cases w <;> simp [isV] at h1 h2 <;> simp [forD, gT, gsC, gsN, gN, sIf, tOr, tV, PD.e2, eVar, top_ne ho hk, gBool, tNot, eFn, aC, aN, eSl, pN, pS, c, g, sNil, truncS_val, truncS_fn, truncS_v hL]
theorem wrong_in_spec {ds : List D} {l : Int} {o : Option Nat} {G : List D → Option D} (hl : l ≤ ds.length) (ho : topOk ds.length o) (hG : ∀ i (h : i < ds.length), G [.tuple (ds.take i), ds[i]] = some (.bool true)) :
    F_wrong_in [.val (.tuple ds), .val (.int l), .val (topD o), .fn G] [] = some (.list [], []) := by
  obtain ⟨u, w, h1, h2, h⟩ := wi_loop ds (.val (.int l)) o G rfl ho 0 0 ds .non .non rfl rfl rfl fun i h _ => hG i h
  have hl' : ¬ ((ds.length : Int) < l) := by omega
  simp [F_wrong_in, bodyF, m_wrong_in, sSeq, sIf, tOr, tNot, tV, eIs, isX, isTup, eVar, gBool, e2, eL, gl1, gLen, aC, aN, gLt, hl', sNil, sFor, enumTI, gEnumT, h, sRet, gLst, okB, B0]
  cases u <;> cases w <;> simp_all [isV]
def slt (x y : Str) : Bool := decide (x.cps.toList < y.cps.toList)
theorem ix_last (ds : List D) (d : D) : gIx (.tuple (ds ++ [d])) (.int (-1)) = some d := by
  have e : L2.ixN (ds ++ [d]).length (-1) = some ds.length := by
    have h1 : (0 : Int) ≤ -1 + ((ds.length : Int) + 1) := by omega
    simp [L2.ixN]
    omega
  simp only [gIx, L2.atI, e]
  simp
theorem eq_tup_nil (ds : List D) : gEq (.tuple ds) (.tuple []) = some (.bool ds.isEmpty) := by
  cases ds <;> simp [gEq, eqF, eqL]
theorem below_nil (x : Str) : F_are_below [.val (.tuple []), .val (.str x)] [] = some (.bool true, []) := by
  simp [F_are_below, bodyF, m_are_below, sRet, eOr, e2, eVar, eL, gTup, aN, eq_tup_nil, gBool, okB, B0]
theorem below_snoc (ds : List D) (y x : Str) : F_are_below [.val (.tuple (ds ++ [.str y])), .val (.str x)] [] = some (.bool (slt y x), []) := by
  simp [F_are_below, bodyF, m_are_below, sRet, eOr, e2, e1, eC, gNeg, eVar, eL, gTup, aN, eq_tup_nil, gBool, okB, B0, ix_last, gLt, slt]
theorem one_of_spec (x : Str) (b : List Str) : F_is_one_of [.val (.str x), .val (setD b)] [] = some (.bool (decide (x ∈ b)), []) := by
  simp [F_is_one_of, bodyF, m_is_one_of, sRet, eAnd, eIs, isX, isStr, e2, eVar, in_set, gBool, okB, B0]
abbrev Inc (a : List Str) : Prop := a.Pairwise fun x y => slt x y = true
theorem below_take {a : List Str} (h : Inc a) {i : Nat} (hi : i < a.length) : F_are_below [.val (.tuple ((a.map PyData.str).take i)), .val (.str a[i])] [] = some (.bool true, []) := by
  cases i with
  | zero => exact below_nil _
  | succ j =>
    have hj : j < a.length := by omega
    have e : (a.map PyData.str).take (j + 1) = (a.map PyData.str).take j ++ [.str a[j]] := by
      rw [List.take_succ_eq_append_getElem (by simpa using hj)]
      simp
    have hl : slt a[j] a[j + 1] = true := List.pairwise_iff_getElem.mp h j (j + 1) hj hi (by omega)
    rw [e, below_snoc, hl]
theorem set_spec {a b : List Str} (h : Inc a) (hs : ∀ x ∈ a, x ∈ b) (hl : a.length ≤ b.length) : F_is_set_of_names [.val (setD a), .val (setD b)] [] = some (.bool true, []) := by
  have w := wrong_in_spec (ds := a.map .str) (l := 0) (o := some b.length) (G := lamG 2 0 (eAnd (eCall 2 F_is_one_of (rV (eVar 1) (rV (eVar 2) (rN)))) (eCall 2 F_are_below (rV (eVar 0) (rV (eVar 1) (rN))))) [.val (setD b)]) (by omega) (by simpa [topOk] using hl) fun i hi => by
    have hi' : i < a.length := by simpa using hi
    have m : a[i] ∈ b := hs _ (List.getElem_mem hi')
    have bt := below_take h hi'
    simp [lamG, eAnd, eCall, rV, rN, eVar, lentOf, slotsOf, cellsOf, nodupB, flatCs, setCells, one_of_spec, m, gBool]
    simp [bt, flatCs, gBool]
  have e : (a.map PyData.str).length = a.length := by simp
  simp [F_is_set_of_names, bodyF, m_is_set_of_names, sRet, e2, eHo, lC, lLam, eVar, eC, eL, gl1, gLen, aC, aN, setD, capS, capO, okB, B0, gLst]
  simp [setD, topD] at w
  rw [w]
  simp [eq_nil, topD]
theorem nfN_pos {r s : Int} (hr : 0 < r) (hs : 0 < s) : 0 < nfN r s :=
  Int.ediv_pos_of_pos_of_dvd hr (Int.le_of_lt (g_pos r hs)) (g_dvd_r r s)
theorem nf_coprime (r : Int) {s : Int} (hs : 0 < s) : Nat.gcd (nfN r s).natAbs (nfD r s).natAbs = 1 := by
  have h1 := nfN_mul r s
  have h2 := nfD_mul r s
  have hg := g_pos r hs
  have e1 : (nfN r s).natAbs * Nat.gcd r.natAbs s.natAbs = r.natAbs := by
    have := congrArg Int.natAbs h1
    rwa [Int.natAbs_mul, Int.natAbs_natCast] at this
  have e2 : (nfD r s).natAbs * Nat.gcd r.natAbs s.natAbs = s.natAbs := by
    have := congrArg Int.natAbs h2
    rwa [Int.natAbs_mul, Int.natAbs_natCast] at this
  have e3 := Nat.gcd_mul_right (nfN r s).natAbs (Nat.gcd r.natAbs s.natAbs) (nfD r s).natAbs
  rw [e1, e2] at e3
  have hg' : 0 < Nat.gcd r.natAbs s.natAbs := by omega
  exact Nat.eq_of_mul_eq_mul_right hg' (by omega)
theorem pair_spec (x y : D) : F_is_pair [.val (.tuple [x, y])] [] = some (.bool true, []) := by
  have h : F_is_tuple_of [.val (.tuple [x, y]), .val (.int 2)] [] = some (.bool true, []) := by
    simp [F_is_tuple_of, bodyF, m_is_tuple_of, sRet, eAnd, eIs, isX, isTup, eVar, gBool, e2, eL, gl1, gLen, aC, aN, gEq, eqF, okB, B0]
  simp [F_is_pair, bodyF, m_is_pair, sRet, eCall, rV, rN, eVar, eC, lentOf, slotsOf, cellsOf, nodupB, flatCs, setCells, h, okB, B0]
theorem whole_spec (i : Int) : F_is_whole [.val (.int i)] [] = some (.bool true, []) := by
  simp [F_is_whole, bodyF, m_is_whole, sRet, eAnd, eIs, isX, isInt, isBool, eVar, gBool, eNot, okB, B0]
theorem call1_of {F : FD} {a : ME} {ρ : List Slot} {x y : D} (ha : a ρ [] = some (x, [])) (h : F [.val x] [] = some (y, [])) : eCall 1 F (rV a rN) ρ [] = some (y, []) := by
  simp [eCall, rV, rN, ha, lentOf, slotsOf, cellsOf, nodupB, flatCs, setCells, h]
theorem call2_of {F : FD} {a b : ME} {ρ : List Slot} {x x' y : D} (ha : a ρ [] = some (x, [])) (hb : b ρ [] = some (x', [])) (h : F [.val x, .val x'] [] = some (y, [])) : eCall 2 F (rV a (rV b rN)) ρ [] = some (y, []) := by
  simp [eCall, rV, rN, ha, hb, lentOf, slotsOf, cellsOf, nodupB, flatCs, setCells, h]
theorem call3_of {F : FD} {a b c : ME} {ρ : List Slot} {x x' x2 y : D} (ha : a ρ [] = some (x, [])) (hb : b ρ [] = some (x', [])) (hc : c ρ [] = some (x2, [])) (h : F [.val x, .val x', .val x2] [] = some (y, [])) : eCall 3 F (rV a (rV b (rV c rN))) ρ [] = some (y, []) := by
  simp [eCall, rV, rN, ha, hb, hc, lentOf, slotsOf, cellsOf, nodupB, flatCs, setCells, h]
theorem eL1_of {g : G1} {a : ME} {ρ : List Slot} {μ μ' : List Cell} {x y : D} (ha : a ρ μ = some (x, μ')) (h : g x = some y) : eL (gl1 g) (aC a aN) ρ μ = some (y, μ') := by
  simp [eL, aC, aN, ha, gl1, h]
theorem fraction_spec (r : Int) {s : Int} (hs : 0 < s) : F_is_fraction [.val (frac s r)] [] = some (.bool true, []) := by
  have h : mLc true (anyItems (eVar 0)) [1] (gcN 1) (tTrue) (eCall 1 F_is_whole (rV (eVar 1) (rN))) [.val (frac s r), .non] [] = some ([nfN r s, nfD r s].map fun _ => .bool true, []) :=
    lc_all PyData.int _ [nfN r s, nfD r s] (items_tup rfl) rfl (by simp) fun i _ => ⟨[.val (frac s r), .val (.int i)], rfl, call1_of rfl (whole_spec i)⟩
  have p1 : tV (eCall 1 F_is_pair (rV (eVar 0) (rN))) [.val (frac s r), .non] [] = some (true, []) := tV_of (call1_of rfl (pair_spec (.int (nfN r s)) (.int (nfD r s))))
  have p2 : tV (eL (gl1 gAll) (aC (eF (mLc true (anyItems (eVar 0)) [1] (gcN 1) (tTrue) (eCall 1 F_is_whole (rV (eVar 1) (rN))))) (aN))) [.val (frac s r), .non] [] = some (true, []) := tV_of (eL1_of (eF_of h) (by rw [gAll, bools_map]; rfl))
  have c := nf_coprime r hs
  have d := nfD_pos r hs
  simp [F_is_fraction, bodyF, m_is_fraction, sSeq, sIf, tOr, tNot, p1, p2, sNil]
  simp [frac, sRet, eAnd, e2, eVar, eC, gIx, L2.atI, L2.ixN, gGt, d, gBool, eL, gl2, aC, aN, gGcd, c, gEq, eqF, okB, B0]
theorem mass_spec {frame a : List Str} {r s : Int} (hs : 0 < s) (hr : 0 < r) (h : Inc a) (hsub : ∀ x ∈ a, x ∈ frame) (hl : a.length ≤ frame.length) (hne : a ≠ []) : F_is_mass [.val (setD frame), .val (.tuple [setD a, frac s r])] [] = some (.bool true, []) := by
  have p1 : tV (eCall 1 F_is_pair (rV (eVar 1) (rN))) [.val (setD frame), .val (.tuple [setD a, frac s r])] [] = some (true, []) := tV_of (call1_of rfl (pair_spec _ _))
  have p2 : tV (eCall 2 F_is_set_of_names (rV (e2 gIx (eVar 1) (eC (.int 0))) (rV (eVar 0) (rN)))) [.val (setD frame), .val (.tuple [setD a, frac s r])] [] = some (true, []) := tV_of (call2_of rfl rfl (set_spec h hsub hl))
  have p3 : tV (e2 gEq (e2 gIx (eVar 1) (eC (.int 0))) (eL gTup (aN))) [.val (setD frame), .val (.tuple [setD a, frac s r])] [] = some (false, []) := tV_of (e2_of (y := .tuple []) (show e2 gIx (eVar 1) (eC (.int 0)) _ _ = some (setD a, []) from rfl) (by simp [eL, aN, gTup]) (by rw [setD, eq_tup_nil]; simp [hne]))
  have p4 : eCall 1 F_is_fraction (rV (e2 gIx (eVar 1) (eC (.int 1))) (rN)) [.val (setD frame), .val (.tuple [setD a, frac s r])] [] = some (.bool true, []) := call1_of rfl (fraction_spec r hs)
  have n := nfN_pos hr hs
  simp [F_is_mass, bodyF, m_is_mass, sSeq, sIf, tOr, tNot, p1, p2, p3, sNil]
  have p5 : e2 gGt (e2 gIx (e2 gIx (eVar 1) (eC (.int 1))) (eC (.int 0))) (eC (.int 0)) [.val (setD frame), .val (.tuple [setD a, frac s r])] [] = some (.bool true, []) := by
    simp [e2, eVar, eC, gIx, L2.atI, L2.ixN, frac, gGt, n]
  simp [sRet, eAnd, p4, p5, gBool, okB, B0]
def so (a : List Str) : D := .tuple [.int (a.length : Int), setD a]
theorem order_spec (a : List Str) : F_set_order [.val (setD a)] [] = some (so a, []) := by
  simp [F_set_order, bodyF, m_set_order, sRet, eL, gl1, gLen, aC, aN, eVar, setD, gTup, szl (n := 2), okB, B0, so]
theorem al_strs : ∀ a b : List Str, PySem.W.alikeAll (a.map .str) (b.map .str) = true
  | [], [] => by simp [PySem.W.alikeAll]
  | [], _ :: _ => by simp [PySem.W.alikeAll]
  | _ :: _, [] => by simp [PySem.W.alikeAll]
  | x :: a, y :: b => by simp [PySem.W.alikeAll, PySem.W.alike, al_strs a b]
theorem depth_strs : ∀ a : List Str, PyData.depthAll (a.map .str) ≤ 1
  | [] => by simp [PyData.depthAll]
  | x :: a => by
    have := depth_strs a
    simp [PyData.depthAll, PyData.depth]
    omega
theorem seq_strs : ∀ a : List Str, seqA (a.map .str) = true
  | [] => by simp [seqA]
  | x :: a => by simp [seqA, seqD, seq_strs a]
theorem okCmp_so (a b : List Str) : okCmp (so a) (so b) = true := by
  have h := depth_strs a
  simp [okCmp, so, setD, seqD, seqA, seq_strs, PySem.W.alike, PySem.W.alikeAll, al_strs, isNoneD, PyData.depth, PyData.depthAll]
  omega
abbrev sle (a b : List Str) : Bool := PySem.W.dataLt (so a) (so b)
/-- masses of a frame: rising sets of its things, none empty, each weighing more than nothing -/
structure Mass (frame : List Str) (s : Int) (m : List (List Str × Int)) : Prop where
  ok : Okm s m
  pos : ∀ q ∈ m, 0 < q.2
  inc : ∀ q ∈ m, Inc q.1
  sub : ∀ q ∈ m, ∀ x ∈ q.1, x ∈ frame
  few : ∀ q ∈ m, q.1.length ≤ frame.length
  full : ∀ q ∈ m, q.1 ≠ []
  rise : m.Pairwise fun p q => sle p.1 q.1 = true
  sum : (m.map (·.2)).sum = s
def pairD (s : Int) (p : List Str × Int) : D := .tuple [setD p.1, frac s p.2]
theorem wi_masses {frame : List Str} {s : Int} {m : List (List Str × Int)} (o : Mass frame s m) : F_wrong_in_masses [.val (setD frame), .val (massD s m)] [] = some (.list [], []) := by
  let mb : ME := eAnd (eCall 2 F_is_mass (rV (eVar 2) (rV (eVar 1) (rN)))) (eOr (e2 gEq (eVar 0) (eL gTup (aN))) (e2 (gCmpD PySem.W.dataLt) (eCall 1 F_set_order (rV (e2 gIx (e2 gIx (eVar 0) (e1 gNeg (eC (.int 1)))) (eC (.int 0))) (rN))) (eCall 1 F_set_order (rV (e2 gIx (eVar 1) (eC (.int 0))) (rN)))))
  have w := wrong_in_spec (ds := m.map (pairD s)) (l := 0) (o := none) (G := lamG 2 0 mb [.val (setD frame)]) (by omega) trivial fun i hi => by
    have hi' : i < m.length := by simpa using hi
    have mem := List.getElem_mem hi'
    have p := mass_spec o.ok.pos (o.pos _ mem) (o.inc _ mem) (o.sub _ mem) (o.few _ mem) (o.full _ mem)
    have ei : (m.map (pairD s))[i] = pairD s m[i] := by simp
    rw [ei]
    have c1 : eCall 2 F_is_mass (rV (eVar 2) (rV (eVar 1) (rN))) [.val (.tuple ((m.map (pairD s)).take i)), .val (pairD s m[i]), .val (setD frame)] [] = some (.bool true, []) := call2_of rfl rfl p
    have c2 : eOr (e2 gEq (eVar 0) (eL gTup (aN))) (e2 (gCmpD PySem.W.dataLt) (eCall 1 F_set_order (rV (e2 gIx (e2 gIx (eVar 0) (e1 gNeg (eC (.int 1)))) (eC (.int 0))) (rN))) (eCall 1 F_set_order (rV (e2 gIx (eVar 1) (eC (.int 0))) (rN)))) [.val (.tuple ((m.map (pairD s)).take i)), .val (pairD s m[i]), .val (setD frame)] [] = some (.bool true, []) := by
      cases i with
      | zero => simp [eOr, e2, eVar, eL, aN, gTup, eq_tup_nil, gBool]
      | succ j =>
        have hj : j < m.length := by omega
        have e : (m.map (pairD s)).take (j + 1) = (m.map (pairD s)).take j ++ [pairD s m[j]] := by
          rw [List.take_succ_eq_append_getElem (by simpa using hj)]
          simp
        have hl : sle m[j].1 m[j + 1].1 = true := List.pairwise_iff_getElem.mp o.rise j (j + 1) hj hi' (by omega)
        rw [e]
        generalize (m.map (pairD s)).take j = ys
        have a1 : e2 gEq (eVar 0) (eL gTup (aN)) [.val (.tuple (ys ++ [pairD s m[j]])), .val (pairD s m[j + 1]), .val (setD frame)] [] = some (.bool false, []) := e2_of (y := .tuple []) rfl (by simp [eL, aN, gTup]) (by rw [eq_tup_nil]; simp)
        have a2 : e2 gIx (e2 gIx (eVar 0) (e1 gNeg (eC (.int 1)))) (eC (.int 0)) [.val (.tuple (ys ++ [pairD s m[j]])), .val (pairD s m[j + 1]), .val (setD frame)] [] = some (setD m[j].1, []) := e2_of (e2_of (y := .int (-1)) rfl rfl (ix_last ys _)) rfl rfl
        have a3 := call1_of (F := F_set_order) a2 (order_spec m[j].1)
        have a4 : eCall 1 F_set_order (rV (e2 gIx (eVar 1) (eC (.int 0))) (rN)) [.val (.tuple (ys ++ [pairD s m[j]])), .val (pairD s m[j + 1]), .val (setD frame)] [] = some (so m[j + 1].1, []) := call1_of (e2_of (x := pairD s m[j + 1]) (y := .int 0) rfl rfl rfl) (order_spec _)
        have a5 := e2_of (g := gCmpD PySem.W.dataLt) a3 a4 (show gCmpD PySem.W.dataLt (so m[j].1) (so m[j + 1].1) = some (.bool true) from by rw [gCmpD, if_pos (okCmp_so _ _)]; exact congrArg (fun b => some (PyData.bool b)) hl)
        unfold eOr
        rw [a1, Option.bind_some]
        simp [gBool, a5]
    simp only [lamG, mb, eAnd]
    simp [c1, gBool]
    simp [c2]
  have t := total_spec o.ok.pos o.ok.low (m.map (·.2))
  rw [o.sum, ← frac_one o.ok.pos, List.map_map] at t
  have hl : mLc true (anyItems (eVar 1)) [3, 4] (gT 2 (gsC (gcN 3) (gsC (gcN 4) (gsN)))) (tTrue) (eVar 4) [.val (setD frame), .val (massD s m), .val (.list []), .non, .non] [] = some (m.map fun q => frac s q.2, []) :=
    lc_all (pairD s) (fun q => frac s q.2) m (items_tup rfl) rfl o.ok.len fun q _ => ⟨[.val (setD frame), .val (massD s m), .val (.list []), .val (setD q.1), .val (frac s q.2)], rfl, rfl⟩
  have c3 := call1_of (F := F_total) (eF_of hl) t
  have c4 : eHo 4 F_wrong_in (lC (eVar 1) (lC (eC (.int 0)) (lC (eC .none) (lLam 2 0 [0] mb)))) [.val (setD frame), .val (massD s m), .non, .non, .non] [] = some (.list [], []) := by
    simp only [eHo, lC, lLam, eVar, eC]
    simp [capS, capO]
    have e : massD s m = .tuple (m.map (pairD s)) := rfl
    rw [show topD none = PyData.none from rfl] at w
    rw [e, w]
    rfl
  have c5 : tV (e2 gEq (eCall 1 F_total (rV (eF (mLc true (anyItems (eVar 1)) [3, 4] (gT 2 (gsC (gcN 3) (gsC (gcN 4) (gsN)))) (tTrue) (eVar 4))) (rN))) (eC c_WHOLE)) [.val (setD frame), .val (massD s m), .val (.list []), .non, .non] [] = some (true, []) := tV_of (e2_of c3 rfl rfl)
  simp only [mb] at c4
  simp [F_wrong_in_masses, bodyF, m_wrong_in_masses, sSeq, sAs, c4, gN]
  simp [sIf, tV, e2, eVar, eL, aN, gLst, ne_nil, gBool, sNil]
  simp only [tV, e2] at c5
  simp [sRet, eIf, c5, tV, e2, okB, B0, eL, aN, gLst]
def letters : Str := "abcdefghijklmnopqrstuvwxyz"
def words : List Str := ["all", "act", "acts", "believe", "book", "case", "doubt", "frame", "hear", "if", "is", "join", "least", "may", "none", "not", "of", "open", "or", "quit", "set", "sets", "share", "strike", "tell", "then", "undo", "weight", "witness", "worth", "yes"]
structure Nm (x : Str) : Prop where
  one : 1 ≤ x.length
  few : x.length ≤ 8
  let' : ∀ c ∈ x.cps.toList, c ∈ letters.cps.toList
  no : x ∉ words
theorem items_str {a : ME} {ρ : List Slot} {μ μ' : List Cell} {x : Str} (h : a ρ μ = some (.str x, μ')) : anyItems a ρ μ = some (x.cps.toList.map fun c => .str ⟨#[c]⟩, μ') := by
  simp [anyItems, strItems, h]
theorem word_spec {x : Str} (h : Nm x) : F_is_word [.val (.str x)] [] = some (.bool true, []) := by
  have hl : x.cps.toList.length < 65536 := by
    have := h.few
    have e : x.cps.toList.length = x.length := by simp [Str.length]
    omega
  have l : mLc true (anyItems (eVar 0)) [1] (gcN 1) (tTrue) (e2 gIn (eVar 1) (eC c_LETTERS)) [.val (.str x), .non] [] = some (x.cps.toList.map fun _ => .bool true, []) :=
    lc_all (fun c => .str ⟨#[c]⟩) _ x.cps.toList (items_str rfl) rfl hl fun c hc => ⟨[.val (.str x), .val (.str ⟨#[c]⟩)], rfl, e2_of rfl rfl (by
      have := h.let' c hc
      have s : signIn ⟨#[c]⟩ letters = some true := by
        show some (decide (c ∈ letters.cps.toList)) = _
        rw [decide_eq_true this]
      show (signIn ⟨#[c]⟩ letters).map PyData.bool = _
      rw [s]
      rfl)⟩
  have a := eL1_of (g := gAll) (eF_of l) (y := .bool true) (by rw [gAll, bools_map]; simp)
  have ne : gNe (.str x) (.str "") = some (.bool true) := by
    have : ¬ x = "" := fun e => by
      have h1 := h.one
      rw [e] at h1
      exact absurd h1 (by decide)
    simp [gNe, eqF, this]
  simp [F_is_word, bodyF, m_is_word, sRet, eAnd, eIs, isX, isStr, eVar, gBool, e2, eC, ne, a, okB, B0]
theorem name_spec {x : Str} (h : Nm x) : F_is_name [.val (.str x)] [] = some (.bool true, []) := by
  have a := call1_of (F := F_is_word) (a := eVar 0) (ρ := [.val (.str x)]) rfl (word_spec h)
  have w : gNotIn (.str x) c_WORDS = some (.bool true) := by
    show gNotIn (.str x) (setD words) = _
    rw [notin_set]
    simp [h.no]
  have l : gLe (.int x.length) (.int 8) = some (.bool true) := by
    have := h.few
    simp [gLe]
    omega
  have z : x.length ≤ sizeLine := szl (n := x.length) (by have := h.few; omega)
  simp [F_is_name, bodyF, m_is_name, sRet, eAnd, a, gBool, e2, eL, gl1, gLen, aC, aN, eVar, eC, c_MOST_LETTERS, l, w, z, okB, B0]
structure Frame (f : List Str) : Prop where
  inc : Inc f
  nm : ∀ x ∈ f, Nm x
  one : 1 ≤ f.length
  few : f.length ≤ 5
theorem wi_frame {f : List Str} (o : Frame f) : F_wrong_in_frame [.val (setD f)] [] = some (.list [], []) := by
  have w := wrong_in_spec (ds := f.map .str) (l := 1) (o := some 5) (G := lamG 2 0 (eAnd (eCall 1 F_is_name (rV (eVar 1) (rN))) (eCall 2 F_are_below (rV (eVar 0) (rV (eVar 1) (rN))))) []) (by have := o.one; simp; omega) (by have := o.few; simpa [topOk] using this) fun i hi => by
    have hi' : i < f.length := by simpa using hi
    have m := name_spec (o.nm _ (List.getElem_mem hi'))
    have bt := below_take o.inc hi'
    have ei : (f.map PyData.str)[i] = .str f[i] := by simp
    rw [ei]
    have c1 : eCall 1 F_is_name (rV (eVar 1) (rN)) [.val (.tuple ((f.map PyData.str).take i)), .val (.str f[i])] [] = some (.bool true, []) := call1_of rfl m
    have c2 : eCall 2 F_are_below (rV (eVar 0) (rV (eVar 1) (rN))) [.val (.tuple ((f.map PyData.str).take i)), .val (.str f[i])] [] = some (.bool true, []) := call2_of rfl rfl bt
    simp only [lamG, eAnd]
    simp [c1, c2, gBool]
  rw [show topD (some 5) = PyData.int 5 from rfl] at w
  simp [F_wrong_in_frame, bodyF, m_wrong_in_frame, sRet, eHo, lC, lLam, eVar, eC, c_MOST_THINGS, capS]
  rw [show setD f = .tuple (f.map .str) from rfl, w]
  simp [okB, B0]
theorem check_frame_spec {f : List Str} (o : Frame f) : F_check_frame [.val (setD f)] [] = some (.none, []) := by
  have i := items_list (call1_of (F := F_wrong_in_frame) (a := eVar 0) (ρ := [.val (setD f), .non]) rfl (wi_frame o))
  simp [F_check_frame, bodyF, m_check_frame, sFor, i, forD]
theorem check_masses_spec {f : List Str} {s : Int} {m : List (List Str × Int)} (o : Frame f) (q : Mass f s m) : F_check_masses [.val (setD f), .val (massD s m)] [] = some (.none, []) := by
  have i := items_list (call2_of (F := F_wrong_in_masses) (a := eVar 0) (b := eVar 1) (ρ := [.val (setD f), .val (massD s m), .non]) rfl rfl (wi_masses q))
  have c := call1_of (F := F_check_frame) (a := eVar 0) (ρ := [.val (setD f), .val (massD s m), .non]) rfl (check_frame_spec o)
  simp [F_check_masses, bodyF, m_check_masses, sSeq, sEx, c, sFor, i, forD]
structure Sub (f x : List Str) : Prop where
  inc : Inc x
  sub : ∀ y ∈ x, y ∈ f
  few : x.length ≤ f.length
theorem check_spec {f x : List Str} {s : Int} {m : List (List Str × Int)} (o : Frame f) (q : Mass f s m) (p : Sub f x) : F_check_weighing [.val (setD f), .val (massD s m), .val (setD x)] [] = some (.none, []) := by
  have c1 := call2_of (F := F_check_masses) (a := eVar 0) (b := eVar 1) (ρ := [.val (setD f), .val (massD s m), .val (setD x)]) rfl rfl (check_masses_spec o q)
  have s0 : F_check_some [.val (setD f), .val (setD x)] [] = some (.none, []) := by
    have t := tV_of (call2_of (F := F_is_set_of_names) (a := eVar 1) (b := eVar 0) (ρ := [.val (setD f), .val (setD x)]) rfl rfl (set_spec p.inc p.sub p.few))
    simp [F_check_some, bodyF, m_check_some, sIf, tNot, t, sNil]
  have c2 := call2_of (F := F_check_some) (a := eVar 0) (b := eVar 2) (ρ := [.val (setD f), .val (massD s m), .val (setD x)]) rfl rfl s0
  simp [F_check_weighing, bodyF, m_check_weighing, sSeq, sEx, c1, c2]
theorem belief_spec {f x : List Str} {s : Int} {m : List (List Str × Int)} (o : Frame f) (q : Mass f s m) (p : Sub f x) : F_belief [.val (setD f), .val (massD s m), .val (setD x)] [] = some (frac s (sumOf m fun y => sub y x), []) := by
  have c1 := call3_of (F := F_check_weighing) (a := eVar 0) (b := eVar 1) (c := eVar 2) (ρ := [.val (setD f), .val (massD s m), .val (setD x)]) rfl rfl rfl (check_spec o q p)
  have c2 := call2_of (F := F_belief_by) (a := eVar 1) (b := eVar 2) (ρ := [.val (setD f), .val (massD s m), .val (setD x)]) rfl rfl (belief_by_spec q.ok x)
  simp [F_belief, bodyF, m_belief, sSeq, sEx, c1, c2, sRet, okB, B0]
theorem may_spec {f x : List Str} {s : Int} {m : List (List Str × Int)} (o : Frame f) (q : Mass f s m) (p : Sub f x) : F_may_have [.val (setD f), .val (massD s m), .val (setD x)] [] = some (frac s (sumOf m fun y => meet y x), []) := by
  have c1 := call3_of (F := F_check_weighing) (a := eVar 0) (b := eVar 1) (c := eVar 2) (ρ := [.val (setD f), .val (massD s m), .val (setD x)]) rfl rfl rfl (check_spec o q p)
  have c2 := call2_of (F := F_may_by) (a := eVar 1) (b := eVar 2) (ρ := [.val (setD f), .val (massD s m), .val (setD x)]) rfl rfl (may_by_spec q.ok x)
  simp [F_may_have, bodyF, m_may_have, sSeq, sEx, c1, c2, sRet, okB, B0]
theorem common_spec {f x : List Str} {s : Int} {m : List (List Str × Int)} (o : Frame f) (q : Mass f s m) (p : Sub f x) : F_common [.val (setD f), .val (massD s m), .val (setD x)] [] = some (frac s (sumOf m fun y => sub x y), []) := by
  have c1 := call3_of (F := F_check_weighing) (a := eVar 0) (b := eVar 1) (c := eVar 2) (ρ := [.val (setD f), .val (massD s m), .val (setD x)]) rfl rfl rfl (check_spec o q p)
  have c2 := call2_of (F := F_common_by) (a := eVar 1) (b := eVar 2) (ρ := [.val (setD f), .val (massD s m), .val (setD x)]) rfl rfl (common_by_spec q.ok x (by have := p.few; have := o.few; omega))
  simp [F_common, bodyF, m_common, sSeq, sEx, c1, c2, sRet, okB, B0]
theorem words_spec : F_law_words [] [] = some (setD words, []) := by
  have z1 : ∀ n, n ≤ 100 → n ≤ sizeLine := fun n h => szl (n := n) (by omega)
  simp [F_law_words, bodyF, m_law_words, sSeq, sAs, eL, aC, aN, eC, gTup, gN, e2, gAdd, eVar, sRet, okB, B0, z1, flat, flatA]
  rfl
/-- a call that lends the pool and hands a value -/
theorem callP_of {F : FD} {B : Nat → Bool} {a : ME} {ρ : List Slot} {p p' : Cell} {μ : List Cell} {x y : D} (h0 : ρ[0]? = some (.own 0)) (hB : noBo B ρ 0 = true) (ha : a ρ (p :: μ) = some (x, p :: μ)) (hF : F [.own 0, .val x] [p] = some (y, [p'])) (hf : flatC p' = true) : eCall 2 F (rL B 0 (rV a rN)) ρ (p :: μ) = some (y, p' :: μ) := by
  simp [eCall, rL, h0, hB, rV, rN, ha, lentOf, slotsOf, cellsOf, nodupB, hF, flatCs, hf, setCells]
theorem pool_flat {p : Cell} (h : Pool p) : flatC p = true := by
  obtain ⟨a, b, c, rfl, _⟩ := h
  rfl
theorem one_pick {α : Type} {p : Cell} (hp : Pool p) (enc : α → D) (xs : List α) (h1 : 0 < xs.length) (h2 : xs.length < 65536) : ∃ x ∈ xs, ∃ p', F_law_one [.own 0, .val (.list (xs.map enc))] [p] = some (enc x, [p']) ∧ Pool p' := by
  obtain ⟨r, p', hb, hp', r0, rm⟩ := below_spec hp (m := xs.length) (by omega) (by omega)
  have hr : r.toNat < xs.length := by omega
  refine ⟨xs[r.toNat], List.getElem_mem hr, p', ?_, hp'⟩
  have c := callP_of (F := F_law_below) (B := Bs [1]) (a := eL (gl1 gLen) (aC (eAny 1) (aN))) (ρ := [.own 0, .val (.list (xs.map enc))]) (μ := []) rfl rfl (eL1_of (x := .list (xs.map enc)) rfl (by rw [gLen]; simp)) hb (pool_flat hp')
  have g : gIx (.list (xs.map enc)) (.int r) = some (enc xs[r.toNat]) := by
    simp [gIx, L2.atI, L2.ixN, r0, rm, List.getElem?_eq_getElem hr]
  have d := e2_of (g := gIx) (show eAny 1 [.own 0, .val (.list (xs.map enc))] [p] = some (.list (xs.map enc), [p]) from rfl) c g
  simp [F_law_one, bodyF, m_law_one, sRet, d]
  have k : okB (Bs [1]) 1 [Slot.own 0, Slot.val (.list (xs.map enc))] = true := rfl
  simp [k]
theorem one_pickT {α : Type} {p : Cell} (hp : Pool p) (enc : α → D) (xs : List α) (h1 : 0 < xs.length) (h2 : xs.length < 65536) : ∃ x ∈ xs, ∃ p', F_law_one [.own 0, .val (.tuple (xs.map enc))] [p] = some (enc x, [p']) ∧ Pool p' := by
  obtain ⟨r, p', hb, hp', r0, rm⟩ := below_spec hp (m := xs.length) (by omega) (by omega)
  have hr : r.toNat < xs.length := by omega
  refine ⟨xs[r.toNat], List.getElem_mem hr, p', ?_, hp'⟩
  have z : xs.length ≤ sizeLine := szl (n := xs.length) (by omega)
  have c := callP_of (F := F_law_below) (B := Bs [1]) (a := eL (gl1 gLen) (aC (eAny 1) (aN))) (ρ := [.own 0, .val (.tuple (xs.map enc))]) (μ := []) rfl rfl (eL1_of (x := .tuple (xs.map enc)) rfl (by simp [gLen])) hb (pool_flat hp')
  have g : gIx (.tuple (xs.map enc)) (.int r) = some (enc xs[r.toNat]) := by
    simp [gIx, L2.atI, L2.ixN, r0, rm, List.getElem?_eq_getElem hr]
  have d := e2_of (g := gIx) (show eAny 1 [.own 0, .val (.tuple (xs.map enc))] [p] = some (.tuple (xs.map enc), [p]) from rfl) c g
  have k : okB (Bs [1]) 1 [Slot.own 0, Slot.val (.tuple (xs.map enc))] = true := rfl
  simp [F_law_one, bodyF, m_law_one, sRet, d, k]
abbrev Lets (x : Str) : Prop := ∀ c ∈ x.cps.toList, c ∈ letters.cps.toList
theorem letter_at {r : Int} (h0 : 0 ≤ r) (h1 : r < 26) : ∃ c, c ∈ letters.cps.toList ∧ gIx (.str letters) (.int r) = some (.str ⟨#[c]⟩) := by
  have hl : letters.cps.toList.length = 26 := by decide
  have hr : r.toNat < letters.cps.toList.length := by omega
  refine ⟨letters.cps.toList[r.toNat], List.getElem_mem hr, ?_⟩
  have z : letters.length ≤ sizeLine := szl (n := letters.length) (by decide)
  have e : L2.atI letters.cps.toList r = some letters.cps.toList[r.toNat] := by
    rw [L2.atI, hl]
    simp only [L2.ixN]
    rw [if_pos h0, if_pos (by omega)]
    exact List.getElem?_eq_getElem hr
  simp only [gIx]
  rw [if_pos z, e]
  rfl
theorem noBo0 (ρ : List Slot) (k : Nat) : noBo B0 ρ k = true := by
  unfold noBo
  rw [List.all_eq_true]
  intro q _
  cases q.1 <;> simp [B0]
theorem letters_loop (U : Cell) (hU : flatC U = true) (L K : Slot) (hL : isV L = true) (hK : isV K = true) (n0 : Nat) : ∀ (ds : List Int) (x : Str) (E : Slot) (p : Cell), isV E = true → Pool p → Lets x → x.length + ds.length < 65536 →
    ∃ x' E' p', isV E' = true ∧ Pool p' ∧ Lets x' ∧ x'.length = x.length + ds.length ∧ forD (gN 4) (sAs (e2 gAdd (eVar 3) (e2 gIx (eC (.str "abcdefghijklmnopqrstuvwxyz")) (eCall 2 F_law_below (rL B0 0 (rV (eC (.int 26)) (rN)))))) (gN 3)) n0 2 (ds.map .int) [.own 0, .own 1, L, .val (.str x), E, K] [p, U] = some (.next [.own 0, .own 1, L, .val (.str x'), E', K] [p', U])
  | [], x, E, p, hE, hp, hx, hl => ⟨x, E, p, hE, hp, hx, by simp, rfl⟩
  | d :: ds, x, E, p, hE, hp, hx, hl => by
    obtain ⟨r, p1, hb, hp1, r0, r1⟩ := below_spec hp (m := 26) (by omega) (by omega)
    obtain ⟨c, hc, hg⟩ := letter_at r0 r1
    have hl' : x.length + (ds.length + 1) < 65536 := by simpa using hl
    have e1 : (x ++ (⟨#[c]⟩ : Str)).length = x.length + 1 := by rw [strLen_append]; rfl
    have hx1 : Lets (x ++ (⟨#[c]⟩ : Str)) := by
      intro y hy
      have hy : y ∈ (x.cps ++ #[c]).toList := hy
      simp at hy
      rcases hy with hy | hy
      · exact hx y (by simpa using hy)
      · rw [hy]; exact hc
    obtain ⟨x', E', p', h1, h2, h3, h4, h5⟩ := letters_loop U hU L K hL hK n0 ds (x ++ (⟨#[c]⟩ : Str)) (.val (.int d)) p1 rfl hp1 hx1 (by omega)
    refine ⟨x', E', p', h1, h2, h3, by rw [h4, e1]; simp; omega, ?_⟩
    rw [← h5]
    have cc := callP_of (F := F_law_below) (B := B0) (a := eC (.int 26)) (ρ := [.own 0, .own 1, L, .val (.str x), .val (.int d), K]) (μ := [U]) rfl (noBo0 _ _) rfl hb (pool_flat hp1)
    have g2 := e2_of (g := gIx) (show eC (.str letters) [.own 0, .own 1, L, .val (.str x), .val (.int d), K] [p, U] = some (.str letters, [p, U]) from rfl) cc hg
    have z : x.length + 1 ≤ sizeLine := szl (n := x.length + 1) (by omega)
    have g3 := e2_of (g := gAdd) (show eVar 3 [.own 0, .own 1, L, .val (.str x), .val (.int d), K] [p, U] = some (.str x, [p, U]) from rfl) g2 (z := .str (x ++ (⟨#[c]⟩ : Str))) (by rw [gAdd, if_pos (by exact z)])
    rw [show letters = ("abcdefghijklmnopqrstuvwxyz" : Str) from rfl] at g3
    have t0 : truncS 2 [p1, U] (.own 0) = .own 0 := rfl
    have t1 : truncS 2 [p1, U] (.own 1) = .own 1 := rfl
    have tv : ∀ {s : Slot}, isV s = true → truncS 2 [p1, U] s = s := fun {s} h => by cases s <;> simp_all [isV, truncS]
    cases E <;> simp [isV] at hE <;> simp [forD, gN, sAs, g3, t0, t1, tv hL, tv hK, tv (s := .val _) rfl]
theorem rng_ints (n : Nat) : ∃ ds : List Int, ds.length = n ∧ rngD 0 n = ds.map .int :=
  ⟨(List.range n).map fun i : Nat => (0 : Int) + (i : Int), by simp, by simp [rngD]⟩
/-- an item of a lent list is drawn -/
theorem one_pickO {α : Type} {p : Cell} (hp : Pool p) (enc : α → D) (hf : ∀ x, flat (enc x) = true) (xs : List α) (hfa : flatA (xs.map enc) = true) (h1 : 0 < xs.length) (h2 : xs.length < 65536) : ∃ x ∈ xs, ∃ p', F_law_one [.own 0, .own 1] [p, .lst (xs.map enc)] = some (enc x, [p', .lst (xs.map enc)]) ∧ Pool p' := by
  obtain ⟨r, p', hb, hp', r0, rm⟩ := below_spec hp (m := xs.length) (by omega) (by omega)
  have hr : r.toNat < xs.length := by omega
  refine ⟨xs[r.toNat], List.getElem_mem hr, p', ?_, hp'⟩
  have c := callP_of (F := F_law_below) (B := Bs [1]) (a := eL (gl1 gLen) (aC (eAny 1) (aN))) (ρ := [.own 0, .own 1]) (μ := [.lst (xs.map enc)]) rfl rfl (eL1_of (x := .list (xs.map enc)) rfl (by rw [gLen]; simp)) hb (pool_flat hp')
  have g : gIx (.list (xs.map enc)) (.int r) = some (enc xs[r.toNat]) := by
    simp [gIx, L2.atI, L2.ixN, r0, rm, List.getElem?_eq_getElem hr]
  have d := e2_of (g := gIx) (show eAny 1 [.own 0, .own 1] [p, .lst (xs.map enc)] = some (.list (xs.map enc), [p, .lst (xs.map enc)]) from rfl) c g
  simp [F_law_one, bodyF, m_law_one, sRet, d, hf]
/-- a text's beginning -/
theorem cut_str (x : Str) (n : Nat) : (L2.cutS x none (some (n : Int))).cps.toList = x.cps.toList.take n := by
  have e : HT.sIx x.length x.length (some (n : Int)) = min n x.length := by
    show (if (n : Int) < 0 then ((n : Int) + (x.length : Int)).toNat else min (n : Int).toNat x.length) = _
    rw [if_neg (by omega)]
    simp
  have e0 : HT.sIx x.length 0 none = 0 := rfl
  simp only [L2.cutS, e, e0, List.drop_zero, Nat.sub_zero]
  rw [List.take_eq_take_iff.mpr]
  simp [Str.length]
theorem cut_len (x : Str) (n : Nat) : (L2.cutS x none (some (n : Int))).length = min n x.length := by
  have h := congrArg List.length (cut_str x n)
  simpa [Str.length] using h
theorem cut_lets {x : Str} (h : Lets x) (n : Nat) : Lets (L2.cutS x none (some (n : Int))) := by
  intro c hc
  rw [cut_str] at hc
  exact h c (List.mem_of_mem_take hc)
theorem wp_call1 {F : FD} {a : ME} {ρ : List Slot} {μ : List Cell} {Q : D → List Cell → Prop} (h : wp (a ρ μ) fun x μ1 => ∃ y, F [.val x] [] = some (y, []) ∧ Q y μ1) : wp (eCall 1 F (rV a rN) ρ μ) Q := by
  obtain ⟨x, m, e, y, hF, q⟩ := h
  exact ⟨y, m, by simp [eCall, rV, rN, e, lentOf, slotsOf, cellsOf, nodupB, flatCs, setCells, hF], q⟩
theorem wp_call2 {F : FD} {a b : ME} {ρ : List Slot} {μ : List Cell} {Q : D → List Cell → Prop} (h : wp (a ρ μ) fun x μ1 => wp (b ρ μ1) fun x2 μ2 => ∃ y, F [.val x, .val x2] [] = some (y, []) ∧ Q y μ2) : wp (eCall 2 F (rV a (rV b rN)) ρ μ) Q := by
  obtain ⟨x, m, e, x2, m2, e2, y, hF, q⟩ := h
  exact ⟨y, m2, by simp [eCall, rV, rN, e, e2, lentOf, slotsOf, cellsOf, nodupB, flatCs, setCells, hF], q⟩
theorem wp_call3 {F : FD} {a b c : ME} {ρ : List Slot} {μ : List Cell} {Q : D → List Cell → Prop} (h : wp (a ρ μ) fun x μ1 => wp (b ρ μ1) fun x2 μ2 => wp (c ρ μ2) fun x3 μ3 => ∃ y, F [.val x, .val x2, .val x3] [] = some (y, []) ∧ Q y μ3) : wp (eCall 3 F (rV a (rV b (rV c rN))) ρ μ) Q := by
  obtain ⟨x, m, e, x2, m2, e2, x3, m3, e3, y, hF, q⟩ := h
  exact ⟨y, m3, by simp [eCall, rV, rN, e, e2, e3, lentOf, slotsOf, cellsOf, nodupB, flatCs, setCells, hF], q⟩
/-- a call that lends the pool, which comes back a pool -/
theorem wp_callP {F : FD} {B : Nat → Bool} {a : ME} {ρ : List Slot} {p : Cell} {μ : List Cell} {Q : D → List Cell → Prop} (h0 : ρ[0]? = some (.own 0)) (hB : noBo B ρ 0 = true) (h : wp (a ρ (p :: μ)) fun x μ1 => ∃ p1, μ1 = p1 :: μ ∧ wp (F [.own 0, .val x] [p1]) fun y c => ∃ p', c = [p'] ∧ Pool p' ∧ Q y (p' :: μ)) : wp (eCall 2 F (rL B 0 (rV a rN)) ρ (p :: μ)) Q := by
  obtain ⟨x, m, e, p1, rfl, y, c, hF, p', rfl, hp, q⟩ := h
  exact ⟨y, _, by simp [eCall, rL, h0, hB, rV, rN, e, lentOf, slotsOf, cellsOf, nodupB, flatCs, setCells, hF, pool_flat hp], q⟩
theorem wp_callP2 {F : FD} {B : Nat → Bool} {a b : ME} {ρ : List Slot} {p : Cell} {μ : List Cell} {Q : D → List Cell → Prop} (h0 : ρ[0]? = some (.own 0)) (hB : noBo B ρ 0 = true) (h : wp (a ρ (p :: μ)) fun x μ1 => wp (b ρ μ1) fun x2 μ2 => ∃ p1, μ2 = p1 :: μ ∧ wp (F [.own 0, .val x, .val x2] [p1]) fun y c => ∃ p', c = [p'] ∧ Pool p' ∧ Q y (p' :: μ)) : wp (eCall 3 F (rL B 0 (rV a (rV b rN))) ρ (p :: μ)) Q := by
  obtain ⟨x, m, e, x2, m2, e2, p1, rfl, y, c, hF, p', rfl, hp, q⟩ := h
  exact ⟨y, _, by simp [eCall, rL, h0, hB, rV, rN, e, e2, lentOf, slotsOf, cellsOf, nodupB, flatCs, setCells, hF, pool_flat hp], q⟩
/-- a call that lends the pool and a list of the frame's own, which stays -/
theorem wp_callPL {F : FD} {B C : Nat → Bool} {i : Nat} {ρ : List Slot} {p U : Cell} {Q : D → List Cell → Prop} (h0 : ρ[0]? = some (.own 0)) (h1 : ρ[i]? = some (.own 1)) (hB : noBo B ρ 0 = true) (hC : noBo C ρ 1 = true) (hU : flatC U = true) (h : wp (F [.own 0, .own 1] [p, U]) fun y c => ∃ p', c = [p', U] ∧ Pool p' ∧ Q y [p', U]) : wp (eCall 2 F (rL B 0 (rL C i rN)) ρ [p, U]) Q := by
  obtain ⟨y, c, hF, p', rfl, hp, q⟩ := h
  exact ⟨y, _, by simp [eCall, rL, h0, h1, hB, hC, rN, lentOf, slotsOf, cellsOf, nodupB, flatCs, setCells, hF, pool_flat hp, hU], q⟩
theorem wp_below {p : Cell} (hp : Pool p) {m : Int} (hm : 0 < m) (hm2 : m < 1073741824) {Q : D → List Cell → Prop} (k : ∀ r p', Pool p' → 0 ≤ r → r < m → Q (.int r) [p']) : wp (F_law_below [.own 0, .val (.int m)] [p]) Q := by
  obtain ⟨r, p', e, hp', h0, h1⟩ := below_spec hp hm hm2
  exact ⟨_, _, e, k r p' hp' h0 h1⟩
/-- a number drawn below a fixed one -/
theorem wp_drawB {B : Nat → Bool} {ρ : List Slot} {p : Cell} {μ : List Cell} {m : Int} {Q : D → List Cell → Prop} (hp : Pool p) (h0 : ρ[0]? = some (.own 0)) (hB : noBo B ρ 0 = true) (hm : 0 < m) (hm2 : m < 1073741824) (k : ∀ r p', Pool p' → 0 ≤ r → r < m → Q (.int r) (p' :: μ)) : wp (eCall 2 F_law_below (rL B 0 (rV (eC (.int m)) rN)) ρ (p :: μ)) Q :=
  wp_callP h0 hB (wp_eC.mpr ⟨p, rfl, wp_below hp hm hm2 fun r p' hp' h0 h1 => ⟨p', rfl, hp', k r p' hp' h0 h1⟩⟩)
theorem wp_pickT {α : Type} {p : Cell} (hp : Pool p) (enc : α → D) (xs : List α) (h1 : 0 < xs.length) (h2 : xs.length < 65536) {Q : D → List Cell → Prop} (k : ∀ x ∈ xs, ∀ p', Pool p' → Q (enc x) [p']) : wp (F_law_one [.own 0, .val (.tuple (xs.map enc))] [p]) Q := by
  obtain ⟨x, hx, p', e, hp'⟩ := one_pickT hp enc xs h1 h2
  exact ⟨_, _, e, k x hx p' hp'⟩
theorem wp_pick {α : Type} {p : Cell} (hp : Pool p) (enc : α → D) (xs : List α) (h1 : 0 < xs.length) (h2 : xs.length < 65536) {Q : D → List Cell → Prop} (k : ∀ x ∈ xs, ∀ p', Pool p' → Q (enc x) [p']) : wp (F_law_one [.own 0, .val (.list (xs.map enc))] [p]) Q := by
  obtain ⟨x, hx, p', e, hp'⟩ := one_pick hp enc xs h1 h2
  exact ⟨_, _, e, k x hx p' hp'⟩
theorem flat_strs : ∀ xs : List Str, flatA (xs.map .str) = true
  | [] => rfl
  | x :: xs => by simp [flatA, flat, flat_strs xs]
theorem anyF_strs_list (x : Str) (b : List Str) : gNotIn (.str x) (.list (b.map .str)) = some (.bool (!decide (x ∈ b))) := by
  simp [gNotIn, gInB, anyF_str]
theorem ne_list_nil (b : List Str) : gNe (.list (b.map .str)) (.list []) = some (.bool (!b.isEmpty)) := by
  rw [ne_nil]
  cases b <;> rfl
theorem words_len : ∀ w ∈ words, w.length ≤ 7 := by decide
theorem ws_forE {n : Nat} {ρ : List Slot} {μ : List Cell} {mi : MA} {g : MG} {ms : MS} {Q : Fl → Prop} (h : wp (mi ρ μ) fun ds μ1 => wp1 (forD g ms n μ1.length ds ρ μ1) Q) : wp1 (sFor mi g ms n ρ μ) Q := by
  obtain ⟨ds, m, e, fl, e2, q⟩ := h
  exact ⟨fl, by simp [sFor, e, e2], q⟩
theorem nm_lets {x : Str} (h : Nm x) : Lets x := h.let'
def rp (i : Nat) : Str := strRep ⟨#[97 + i]⟩ 8
theorem rp_cps (i : Nat) : (rp i).cps.toList = List.replicate 8 (97 + i) := by
  simp [rp, strRep, List.replicate]
theorem rp_len (i : Nat) : (rp i).length = 8 := by
  have h := congrArg List.length (rp_cps i)
  simpa [Str.length] using h
theorem rp_inj {i j : Nat} (h : rp i = rp j) : i = j := by
  have e := congrArg (fun x : Str => x.cps.toList.head?) h
  simp only [rp_cps] at e
  simp [List.replicate] at e
  exact e
theorem words_not8 {x : Str} (h : x.length = 8) : x ∉ words := fun hx => by
  have := words_len x hx
  omega
theorem lets12 : ∀ i, i < 12 → 97 + i ∈ letters.cps.toList := by decide
theorem nm_rp {i : Nat} (h : i < 12) : Nm (rp i) := ⟨by rw [rp_len]; omega, by rw [rp_len]; omega, fun c hc => by
  rw [rp_cps] at hc
  rw [(List.mem_replicate.mp hc).2]
  exact lets12 i h, words_not8 (rp_len i)⟩
theorem nodup_le : ∀ (l k : List Str), l.Nodup → (∀ x ∈ l, x ∈ k) → l.length ≤ k.length
  | [], _, _, _ => Nat.zero_le _
  | x :: l, k, h, hs => by
    have hx := hs x (List.mem_cons_self ..)
    obtain ⟨h1, h2⟩ := List.nodup_cons.mp h
    have ih := nodup_le l (k.erase x) h2 fun y hy => (List.mem_erase_of_ne (fun e : y = x => h1 (by rw [← e]; exact hy))).mpr (hs y (List.mem_cons_of_mem _ hy))
    rw [List.length_erase_of_mem hx] at ih
    have : 0 < k.length := List.length_pos_of_mem hx
    simp
    omega
theorem rp_free {used : List Str} (hl : used.length < 12) : ∃ i, i < 12 ∧ rp i ∉ used := by
  apply Classical.byContradiction
  intro h
  have a : ∀ i, i < 12 → rp i ∈ used := fun i hi => Classical.byContradiction fun z => h ⟨i, hi, z⟩
  have nd : ((List.range 12).map rp).Nodup := by
    rw [List.Nodup, List.pairwise_map]
    exact List.Pairwise.imp (fun hne e => hne (rp_inj e)) (List.nodup_range (n := 12))
  have := nodup_le _ used nd fun x hx => by
    obtain ⟨i, hi, rfl⟩ := List.mem_map.mp hx
    exact a i (List.mem_range.mp hi)
  simp at this
  omega
theorem ix12 : ∀ i : Nat, i < 12 → L2.atI ("abcdefghijkl" : Str).cps.toList (0 + (i : Int)) = some (97 + i) := by decide
theorem rp_val {ρ : List Slot} {μ : List Cell} {i : Nat} (hi : i < 12) (h : ρ[5]? = some (.val (.int (0 + (i : Int))))) : e2 gMulS (e2 gIx (eC (.str "abcdefghijkl")) (eVar 5)) (eC (.int 8)) ρ μ = some (.str (rp i), μ) := by
  have v : eVar 5 ρ μ = some (.int (0 + (i : Int)), μ) := by simp [eVar, h]
  have g : gIx (.str "abcdefghijkl") (.int (0 + (i : Int))) = some (.str ⟨#[97 + i]⟩) := by
    show (if ("abcdefghijkl" : Str).length ≤ sizeLine then (L2.atI ("abcdefghijkl" : Str).cps.toList (0 + (i : Int))).map fun c => PyData.str ⟨#[c]⟩ else none) = _
    rw [if_pos (show ("abcdefghijkl" : Str).length ≤ sizeLine from szl (n := 12) (by omega)), ix12 i hi]
    rfl
  exact e2_of (e2_of rfl v g) rfl (by
    show (if (2 : Int) ≤ 8 ∧ (8 : Int) ≤ 1000 ∧ 1 ≤ (⟨#[97 + i]⟩ : Str).length ∧ (⟨#[97 + i]⟩ : Str).length ≤ 1000 then some (PyData.str (strRep ⟨#[97 + i]⟩ (8 : Int).toNat)) else none) = _
    rw [if_pos (by simp [Str.length])]
    rfl)
theorem gEq_int (a b : Int) : gEq (.int a) (.int b) = some (.bool (decide (a = b))) := by
  simp [gEq, eqF]
  rfl
theorem gLst_nil : gLst [] = some (.list []) := by simp [gLst]
theorem tr_v {s : Slot} {μ : List Cell} {m : Nat} (h : isV s = true) : truncS m μ s = s := by cases s <;> simp_all [isV, truncS]
/-- a name is drawn, unlike those there -/
theorem wp_name {p : Cell} (hp : Pool p) {used : List Str} (hu : ∀ x ∈ used, Nm x) (hl : used.length < 12) {Q : D → List Cell → Prop} (k : ∀ x p', Pool p' → Nm x → x ∉ used → Q (.str x) [p', .lst (used.map .str)]) : wp (F_law_name [.own 0, .own 1] [p, .lst (used.map .str)]) Q := by
  have hU : flatC (.lst (used.map .str)) = true := flat_strs used
  refine wp_body ?_
  unfold m_law_name
  refine ws_seq (ws_for (wp_rng1.mpr (wp_aC.mpr (wp_eC.mpr (wp_aN.mpr ⟨20, rfl, by decide, ?_⟩)))))
  refine ⟨fun _ ρ μ => ∃ L X E p, isV L = true ∧ isV X = true ∧ isV E = true ∧ Pool p ∧ ρ = [.own 0, .own 1, L, X, E, .non] ∧ μ = [p, .lst (used.map .str)], ⟨.non, .non, .non, p, rfl, rfl, rfl, hp, rfl, rfl⟩, ?_, ?_⟩
  · rintro d ds _ _ ⟨L, X, E, p, hL, hX, hE, hp, rfl, rfl⟩
    have nb : ∀ x : D, noBo (Bs [1]) [.own 0, .own 1, .val d, .val x, E, .non] 0 = true := fun x => by cases E <;> first | rfl | cases hE
    refine wp_some.mpr (ws_seq (ws_as (wp_eC.mpr (wp_some.mpr ?_))))
    refine ws_seq (wp1.mono (Q := fun fl => ∃ x0 p', Pool p' ∧ Lets x0 ∧ x0.length ≤ 6 ∧ fl = .next [.own 0, .own 1, .val d, .val (.str x0), E, .non] [p', .lst (used.map .str)]) ?_ ?_)
    · refine ws_if (wp_tAnd.mpr (wp_tV.mpr (wp_e2.mpr (wp_of (a := .list (used.map .str)) (b := [p, .lst (used.map .str)]) rfl (wp_eL.mpr (wp_aN.mpr (wp1_of gLst_nil ?_)))))))
      refine wp1_test (ne_list_nil used) (⟨fun hc => ?_, fun hc => ?_⟩)
      · have hne : 0 < used.length := by
          cases used with
          | nil => simp at hc
          | cons a b => simp
        refine wp_tV.mpr (wp_e2.mpr (wp_drawB hp rfl (nb _) (by omega) (by omega) fun r p1 hp1 r0 r1 => wp_eC.mpr (wp1_test (gEq_int r 0) (⟨fun hc2 => ?_, fun hc2 => ?_⟩))))
        · obtain ⟨x, hx, p', e, hp'⟩ := one_pickO hp1 PyData.str (fun _ => rfl) used (flat_strs used) hne (by omega)
          refine ws_as (wp_eSl (wp_callPL rfl rfl (noBo0 _ _) (noBo0 _ _) hU (wp_of e ⟨p', rfl, hp', wp_pN.mpr (wp_pS (wp_eC.mpr ⟨6, rfl, ?_⟩))⟩)))
          have z : x.length ≤ sizeLine := szl (n := x.length) (by have := (hu x hx).few; omega)
          refine wp1_of (show gSl (.str x) none (some 6) = some (.str (L2.cutS x none (some 6))) from by rw [gSl, if_pos z]) (wp_some.mpr ⟨_, p', hp', cut_lets (nm_lets (hu x hx)) 6, ?_, rfl⟩)
          exact Nat.le_trans (Nat.le_of_eq (cut_len x 6)) (Nat.min_le_left ..)
        · exact ws_nil ⟨"", p1, hp1, (fun c hc => by cases hc), by decide, rfl⟩
      · exact ⟨fun h => (by cases h), fun _ => ws_nil ⟨"", p, hp, (fun c hc => by cases hc), by decide, rfl⟩⟩
    · rintro _ ⟨x0, p0, hp0, hl0, hn0, rfl⟩
      refine ws_seq (wp1.mono (Q := fun fl => ∃ x1 E1 p', isV E1 = true ∧ Pool p' ∧ Lets x1 ∧ 1 ≤ x1.length ∧ x1.length ≤ 14 ∧ fl = .next [.own 0, .own 1, .val d, .val (.str x1), E1, .non] [p', .lst (used.map .str)]) ?_ ?_)
      · refine ws_forE (wp_rng1.mpr (wp_aC.mpr (wp_callP rfl (noBo0 _ _) (wp_of (a := .tuple (([1, 1, 2, 3, 8] : List Int).map .int)) (b := [p0, .lst (used.map .str)]) (by simp [eL, aC, aN, eC, gTup, szl (n := 5)]) ⟨p0, rfl, wp_pickT hp0 PyData.int [1, 1, 2, 3, 8] (by decide) (by decide) fun r hr p1 hp1 => ⟨p1, rfl, hp1, wp_aN.mpr ⟨r, rfl, ?_, ?_⟩⟩⟩))))
        · simp at hr
          rcases hr with rfl | rfl | rfl | rfl <;> decide
        · have hr' : 1 ≤ r ∧ r ≤ 8 := by
            simp at hr
            omega
          obtain ⟨ds', hd1, hd2⟩ := rng_ints r.toNat
          obtain ⟨x', E', p', h1, h2, h3, h4, h5⟩ := letters_loop (.lst (used.map .str)) hU (.val d) .non rfl rfl 2 ds' x0 E p1 hE hp1 hl0 (by omega)
          rw [hd2]
          exact wp1_of h5 ⟨x', E', p', h1, h2, h3, by omega, by omega, rfl⟩
      · rintro _ ⟨x1, E1, p1, hE1, hp1, hl1, hn1, hm1, rfl⟩
        have z : x1.length ≤ sizeLine := szl (n := x1.length) (by omega)
        have cl : (L2.cutS x1 none (some 8)).length = min 8 x1.length := cut_len x1 8
        have cx : Lets (L2.cutS x1 none (some 8)) := cut_lets hl1 8
        generalize hx2 : L2.cutS x1 none (some 8) = x2 at cl cx
        refine ws_seq (ws_as (wp_eSl (wp_of (a := .str x1) rfl (wp_pN.mpr (wp_pS (wp_eC.mpr ⟨8, rfl, wp1_of (show gSl (.str x1) none (some 8) = some (.str x2) from by rw [gSl, if_pos z, hx2]) (wp_some.mpr ?_)⟩))))))
        have next : lapF 2 (fun ρ μ => ∃ L X E p, isV L = true ∧ isV X = true ∧ isV E = true ∧ Pool p ∧ ρ = [.own 0, .own 1, L, X, E, .non] ∧ μ = [p, .lst (used.map .str)]) (fun _ => True) (.next [.own 0, .own 1, .val d, .val (.str x2), E1, .non] [p1, .lst (used.map .str)]) := ⟨.val d, .val (.str x2), E1, p1, rfl, rfl, hE1, hp1, by
          simp [tr_v hE1]
          simp [truncS], rfl⟩
        refine ws_if (wp_tAnd.mpr (wp_tV.mpr (wp_e2.mpr (wp_of (a := .str x2) (b := [p1, .lst (used.map .str)]) rfl (wp_of (a := .list (used.map .str)) (b := [p1, .lst (used.map .str)]) rfl ?_)))))
        refine wp1_test (anyF_strs_list x2 used) (⟨fun hc => ?_, fun hc => ?_⟩)
        · refine wp_tV.mpr (wp_e2.mpr (wp_of (a := .str x2) rfl (wp_of (a := setD words) (b := [p1, .lst (used.map .str)]) (by simp [eCall, rN, lentOf, slotsOf, cellsOf, nodupB, words_spec, flatCs, setCells]) ?_)))
          refine wp1_test (notin_set x2 words) (⟨fun hc2 => ?_, fun hc2 => ws_nil next⟩)
          refine ws_ret0 (wp_of (a := .str x2) rfl ?_)
          exact k x2 p1 hp1 ⟨by omega, by omega, cx, by simpa using hc2⟩ (by simpa using hc)
        · exact ⟨fun h => (by cases h), fun _ => ws_nil next⟩
  · rintro _ _ ⟨L, X, E, p, hL, hX, hE, hp, rfl, rfl⟩
    have ok : okB (Bs [1]) 2 [.own 0, .own 1, L, X, E, .non] || flat (.str (rp 0)) = true := by simp [flat]
    have hfl : (noOwn [.own 0, .own 1, L, X, E, .non] [5]) = true := rfl
    have l : mLc false (rng1 (aC (eC (.int 12)) (aN))) [5] (gcN 5) (tV (e2 gNotIn (e2 gMulS (e2 gIx (eC (.str "abcdefghijkl")) (eVar 5)) (eC (.int 8))) (eOwn 1))) (e2 gMulS (e2 gIx (eC (.str "abcdefghijkl")) (eVar 5)) (eC (.int 8))) [.own 0, .own 1, L, X, E, .non] [p, .lst (used.map .str)] = some (((List.range 12).filter fun i => !decide (rp i ∈ used)).map fun i => .str (rp i), [p, .lst (used.map .str)]) := by
      have it : rng1 (aC (eC (.int 12)) (aN)) [.own 0, .own 1, L, X, E, .non] [p, .lst (used.map .str)] = some ((List.range 12).map fun i : Nat => .int (0 + (i : Int)), [p, .lst (used.map .str)]) := by
        obtain ⟨a, b, e, q⟩ := (wp_rng1 (ρ := [.own 0, .own 1, L, X, E, .non]) (μ := [p, .lst (used.map .str)]) (QA := fun a b => a = (List.range 12).map (fun i : Nat => .int (0 + (i : Int))) ∧ b = [p, .lst (used.map .str)])).mpr (wp_aC.mpr (wp_eC.mpr (wp_aN.mpr ⟨12, rfl, by decide, rfl, rfl⟩)))
        rw [e, q.1, q.2]
      unfold mLc
      rw [it, Option.bind_some]
      dsimp only
      rw [if_pos (by
        rw [hfl, List.length_map, List.length_range]
        simp [szl (n := 12), flatA, flat, List.range, List.range.loop])]
      refine lcD_map (fun i : Nat => .int (0 + (i : Int))) (fun i => !decide (rp i ∈ used)) (fun i => .str (rp i)) (List.range 12) fun i hi => ?_
      have hi := List.mem_range.mp hi
      refine ⟨[.own 0, .own 1, L, X, E, .val (.int (0 + (i : Int)))], rfl, ?_, fun _ => rp_val hi rfl⟩
      exact (show tV _ _ _ = _ from by
        unfold tV
        rw [e2_of (g := gNotIn) (rp_val hi rfl) (show eOwn 1 _ _ = some (.list (used.map .str), _) from rfl) (anyF_strs_list _ _), Option.bind_some]
        rfl)
    obtain ⟨i, hi, hf⟩ := rp_free hl
    have hne : 0 < ((List.range 12).filter fun i => !decide (rp i ∈ used)).length := List.length_pos_of_mem (List.mem_filter.mpr ⟨List.mem_range.mpr hi, by simpa using hf⟩)
    refine ws_ret (wp_e2.mpr (wp_eF.mpr (wp_of l (wp_eC.mpr ?_))))
    cases hj : ((List.range 12).filter fun i => !decide (rp i ∈ used)) with
    | nil => rw [hj] at hne; simp at hne
    | cons j js =>
      have mj : j ∈ ((List.range 12).filter fun i => !decide (rp i ∈ used)) := by rw [hj]; exact List.mem_cons_self ..
      obtain ⟨h1, h2⟩ := List.mem_filter.mp mj
      refine wp1_of (a := .str (rp j)) (by simp [gIx, L2.atI, L2.ixN]) ⟨by simp [flat], ?_⟩
      exact k (rp j) p hp (nm_rp (List.mem_range.mp h1)) (by simpa using h2)
theorem alike_str (x y : Str) : PySem.W.alike (.str x) (.str y) = true := by simp [PySem.W.alike]
theorem sortOk_strs (xs : List Str) (h : xs.length < 65536) : sortOk (xs.map .str) = true := by
  have z : xs.length ≤ sizeLine := szl (n := xs.length) (by omega)
  unfold sortOk
  simp only [Bool.and_eq_true]
  refine ⟨seq_strs xs, ?_, ?_, ?_, ?_⟩
  · rw [List.all_map, List.all_eq_true]
    intro x _
    show (List.all _ _) = true
    rw [List.all_map, List.all_eq_true]
    intro y _
    exact alike_str x y
  · unfold sortableB
    rw [Bool.or_eq_true]
    right
    rw [List.all_map, List.all_eq_true]
    intro x _
    rfl
  · rw [List.all_map, List.all_eq_true]
    intro x _
    simp [PyData.depth]
  · simpa using z
theorem key_str {x y : Str} (h : PySem.W.keyToks (.str x) = PySem.W.keyToks (.str y)) : x = y := by
  simp [PySem.W.keyToks] at h
  exact PySem.W.str_of_cps (by simpa using h)
theorem sort_strs (xs : List Str) (nd : xs.Nodup) : ∃ ys : List Str, ys.Perm xs ∧ sortD (xs.map .str) = ys.map .str ∧ Inc ys := by
  obtain ⟨ys, h1, h2, h3⟩ := sortD_strict PyData.str xs (fun a b h => key_str h) nd
  exact ⟨ys, h1, h2, h3.imp fun {a b} h => by rw [PySem.W.dataLt_str] at h; exact h⟩
theorem wp_frame {p : Cell} (hp : Pool p) {Q : D → List Cell → Prop} (k : ∀ f p', Pool p' → Frame f → Q (setD f) [p']) : wp (F_law_frame [.own 0, .val (.int 5)] [p]) Q := by
  refine wp_body ?_
  unfold m_law_frame
  refine ws_seq (ws_new (wp_mLst.mpr (wp_aN.mpr ⟨Nat.zero_le _, ?_⟩)))
  refine ws_seq (ws_for (wp_rng1.mpr (wp_aC.mpr (wp_e2.mpr (wp_eC.mpr ?_)))))
  refine wp_callP rfl (noBo0 _ _) (wp_of (a := .int 5) (b := [p, .lst []]) rfl ⟨p, rfl, ?_⟩)
  refine wp_below hp (by omega) (by omega) fun r p1 hp1 r0 r1 => ⟨p1, rfl, hp1, ?_⟩
  refine wp1_of (a := .int (1 + r)) rfl (wp_aN.mpr ⟨1 + r, rfl, ?_, ?_⟩)
  · simp [okR]; omega
  · obtain ⟨ds', hd1, hd2⟩ := rng_ints (1 + r).toNat
    rw [hd2]
    refine ⟨fun ds ρ μ => ∃ (found : List Str) (E : Slot) (p : Cell), isV E = true ∧ Pool p ∧ (∀ x ∈ found, Nm x) ∧ found.Nodup ∧ found.length + ds.length = (1 + r).toNat ∧ ρ = [.own 0, .val (.int 5), .own 1, E] ∧ μ = [p, .lst (found.map .str)], ⟨[], .non, p1, rfl, hp1, fun x h => (by cases h), List.nodup_nil, (by simp [hd1]), rfl, rfl⟩, ?_, ?_⟩
    · rintro d ds _ _ ⟨found, E, p, hE, hp, hn, nd, hl, rfl, rfl⟩
      simp only [List.length_cons] at hl
      refine wp_some.mpr (ws_app (k0 := 1) (xs0 := found.map .str) rfl (wp_callPL rfl rfl (noBo0 _ _) (noBo0 _ _) (flat_strs found) ?_))
      refine wp_name hp hn (by omega) fun x p' hp' hx hnx => ⟨p', rfl, hp', ?_⟩
      refine ⟨1, found.map .str, rfl, rfl, ?_, rfl, noBo0 _ _, ?_⟩
      · rw [List.length_map]
        exact Nat.lt_of_lt_of_le (show found.length < 65535 by omega) (szl (n := 65535) (by omega))
      · refine ⟨found ++ [x], .val d, p', rfl, hp', fun y hy => ?_, ?_, ?_, ?_, ?_⟩
        · rcases List.mem_append.mp hy with hy | hy
          · exact hn y hy
          · rw [List.mem_singleton.mp hy]; exact hx
        · refine List.nodup_append.mpr ⟨nd, by simp, fun a ha b hb => ?_⟩
          rw [List.mem_singleton.mp hb]
          exact fun e => hnx (e ▸ ha)
        · simp; omega
        · rfl
        · simp
    · rintro _ _ ⟨found, E, p, hE, hp, hn, nd, hl, rfl, rfl⟩
      simp only [List.length_nil] at hl
      obtain ⟨ys, h1, h2, h3⟩ := sort_strs found nd
      have hlen := h1.length_eq
      refine ws_ret (wp_eL.mpr (wp_aC.mpr (wp_eL.mpr (wp_aC.mpr (wp_of (a := .list (found.map .str)) rfl (wp_aN.mpr (wp1_of (a := .list (ys.map .str)) ?_ (wp_aN.mpr (wp1_of (a := setD ys) rfl ⟨?_, ?_⟩)))))))))
      · show gSort (.list (found.map .str)) = _
        rw [gSort, if_pos (sortOk_strs found (by omega)), h2]
      · simp [flat, setD, flat_strs]
      · exact k ys p hp ⟨h3, fun x hx => hn x (h1.mem_iff.mp hx), by omega, by omega⟩
theorem slt_irr (x : Str) : slt x x = false := by
  unfold slt
  exact decide_eq_false (List.lt_irrefl _)
theorem inc_nodup {a : List Str} (h : Inc a) : a.Nodup := h.imp fun {x y} h e => by
  subst e
  rw [slt_irr] at h
  cases h
theorem toks_inj : ∀ (a b : List Str), PySem.W.keyToksAll (a.map .str) = PySem.W.keyToksAll (b.map .str) → a = b
  | [], [], _ => rfl
  | [], y :: b, h => by simp [PySem.W.keyToksAll] at h
  | x :: a, [], h => by simp [PySem.W.keyToksAll] at h
  | x :: a, y :: b, h => by
    simp [PySem.W.keyToksAll, PySem.W.keyToks] at h
    have e : x = y := PySem.W.str_of_cps (by simpa using h.1)
    rw [e, toks_inj a b h.2]
theorem so_inj (a b : List Str) (h : PySem.W.keyToks (so a) = PySem.W.keyToks (so b)) : a = b := by
  simp only [so, setD, PySem.W.keyToks, PySem.W.keyToksAll, List.cons_append, List.nil_append, List.cons.injEq] at h
  exact toks_inj a b (List.append_cancel_right h.2.2.2)
theorem sle_nil (a : List Str) : sle a [] = false := by
  unfold sle so
  rw [PySem.W.dataLt_tuple, PySem.W.dataLt_cons (by simp [PySem.W.alike])]
  split
  · rename_i h
    have h : (a.length : Int) = ([] : List Str).length := by simpa [PyData.eqv] using h
    have e : a = [] := List.length_eq_zero_iff.mp (by simpa using h)
    subst e
    exact PyProof.Rows.lex_irrefl _
  · rw [PySem.W.dataLt_int]
    simp
theorem sle_ne {a b : List Str} (h : sle a b = true) : b ≠ [] := fun e => by
  rw [e, sle_nil] at h
  cases h
theorem alike_so (a b : List Str) : PySem.W.alike (so a) (so b) = true := by
  simp [so, setD, PySem.W.alike, PySem.W.alikeAll, al_strs]
theorem sortOk_so (xs : List (List Str)) (h : xs.length < 65536) : sortOk (xs.map so) = true := by
  have z : xs.length ≤ sizeLine := szl (n := xs.length) (by omega)
  unfold sortOk
  simp only [Bool.and_eq_true]
  refine ⟨?_, ?_, ?_, ?_, ?_⟩
  · clear h z
    induction xs with
    | nil => simp [seqA]
    | cons x xs ih => simp [seqA, seqD, so, setD, seq_strs, ih]
  · rw [List.all_map, List.all_eq_true]
    intro x _
    show (List.all _ _) = true
    rw [List.all_map, List.all_eq_true]
    intro y _
    exact alike_so x y
  · unfold sortableB
    rw [Bool.or_eq_true]
    left
    rw [List.all_map, List.all_eq_true]
    intro x _
    rfl
  · rw [List.all_map, List.all_eq_true]
    intro x _
    have := depth_strs x
    simp [so, setD, PyData.depth, PyData.depthAll]
    omega
  · simpa using z
theorem gAdd_list {a b : List D} (h : a.length + b.length < 65536) : gAdd (.list a) (.list b) = some (.list (a ++ b)) := by
  rw [gAdd, if_pos (szl (n := a.length + b.length) (by omega))]
theorem gAdd_set {a : List Str} {x : Str} (h : a.length < 65536) : gAdd (setD a) (.tuple [.str x]) = some (setD (a ++ [x])) := by
  show gAdd (.tuple (a.map .str)) (.tuple [.str x]) = _
  rw [gAdd, if_pos (show (a.map PyData.str).length + [PyData.str x].length ≤ sizeLine from szl (by simp; omega))]
  simp [setD]
structure Sets (f : List Str) (ys : List (List Str)) : Prop where
  rise : ys.Pairwise fun a b => sle a b = true
  sub : ∀ y ∈ ys, y.Sublist f
  emp : [] ∈ ys
  few : ys.length ≤ 32
theorem Sets.ne {f : List Str} {ys : List (List Str)} (o : Sets f ys) {y : List Str} (h : y ∈ ys.drop 1) : y ≠ [] := by
  cases ys with
  | nil => simp at h
  | cons a ys => exact sle_ne ((List.pairwise_cons.mp o.rise).1 y (by simpa using h))
theorem sets_spec {f : List Str} (hi : Inc f) (hl : f.length ≤ 5) : ∃ ys, F_law_sets [.val (setD f)] [] = some (.list (ys.map setD), []) ∧ Sets f ys := by
  suffices h : wp (F_law_sets [.val (setD f)] []) fun d μ => μ = [] ∧ ∃ ys : List (List Str), d = .list (ys.map setD) ∧ Sets f ys by
    obtain ⟨d, m, e, rfl, ys, rfl, o⟩ := h
    exact ⟨ys, e, o⟩
  refine wp_body ?_
  unfold m_law_sets
  refine ws_seq (ws_as (wp_eL.mpr (wp_aC.mpr (wp_eL.mpr (wp_aN.mpr (wp1_of (a := .tuple []) (by simp [gTup]) (wp_aN.mpr (wp1_of (a := .list [.tuple []]) (by simp [gLst, szl (n := 1)]) (wp_some.mpr ?_)))))))))
  refine ws_seq (ws_for (wp_any (wp_of (a := setD f) (b := []) rfl (wp1_of (a := f.map .str) rfl ?_))))
  refine ⟨fun ds ρ μ => ∃ (done rest : List Str) (acc : List (List Str)) (E : Slot), isV E = true ∧ done ++ rest = f ∧ ds = rest.map .str ∧ (∀ y ∈ acc, y.Sublist done) ∧ acc.Nodup ∧ [] ∈ acc ∧ acc.length = 2 ^ done.length ∧ ρ = [.val (setD f), .val (.list (acc.map setD)), E, .non, .non] ∧ μ = [], ⟨[], f, [[]], .non, rfl, rfl, rfl, ?_, ?_, ?_, rfl, rfl, rfl⟩, ?_, ?_⟩
  · simp
  · simp
  · simp
  · rintro d ds _ _ ⟨done, rest, acc, E, hE, hf, hd, hs, nd, he, hlen, rfl, rfl⟩
    cases rest with
    | nil => simp at hd
    | cons x rest =>
      simp only [List.map_cons, List.cons.injEq] at hd
      obtain ⟨rfl, rfl⟩ := hd
      have hdl : done.length + 1 ≤ 5 := by
        rw [← hf] at hl
        simp at hl
        omega
      have hal : acc.length ≤ 16 := by
        rw [hlen]
        exact Nat.pow_le_pow_right (by omega) (show done.length ≤ 4 by omega)
      have hx : x ∉ done := by
        have nf := inc_nodup hi
        rw [← hf] at nf
        have := (List.nodup_append.mp nf).2.2
        exact fun h => this x h x (List.mem_cons_self ..) rfl
      have lc : mLc true (anyItems (eVar 1)) [4] (gcN 4) (tTrue) (e2 gAdd (eVar 4) (eL gTup (aC (eVar 2) (aN)))) [.val (setD f), .val (.list (acc.map setD)), .val (.str x), .non, .non] [] = some (acc.map fun y => setD (y ++ [x]), []) :=
        lc_all setD _ acc (items_list rfl) rfl (by omega) fun y hy => ⟨[.val (setD f), .val (.list (acc.map setD)), .val (.str x), .non, .val (setD y)], rfl, e2_of (x := setD y) (y := .tuple [.str x]) rfl (by simp [eL, aC, aN, eVar, gTup, szl (n := 1)]) (gAdd_set (by have := (hs y hy).length_le; omega))⟩
      refine wp_some.mpr (ws_as (wp_e2.mpr (wp_of (a := .list (acc.map setD)) (b := []) rfl (wp_eF.mpr (wp_of lc (wp1_of (gAdd_list (by simp; omega)) (wp_some.mpr ?_)))))))
      refine ⟨done ++ [x], rest, acc ++ acc.map (· ++ [x]), .val (.str x), rfl, by simpa using hf, rfl, ?_, ?_, ?_, ?_, ?_, rfl⟩
      · intro y hy
        rcases List.mem_append.mp hy with hy | hy
        · exact (hs y hy).trans (List.sublist_append_left ..)
        · obtain ⟨z, hz, rfl⟩ := List.mem_map.mp hy
          exact List.Sublist.append (hs z hz) (List.Sublist.refl _)
      · refine List.nodup_append.mpr ⟨nd, ?_, fun a ha b hb e => ?_⟩
        · rw [List.Nodup, List.pairwise_map]
          exact List.Pairwise.imp (fun {a b} hne e => hne (List.append_cancel_right e)) nd
        · obtain ⟨z, hz, rfl⟩ := List.mem_map.mp hb
          subst e
          exact hx ((hs _ ha).subset (by simp))
      · exact List.mem_append_left _ he
      · simp [hlen, Nat.pow_succ]
        omega
      · simp [truncS]
  · rintro _ _ ⟨done, rest, acc, E, hE, hf, hd, hs, nd, he, hlen, rfl, rfl⟩
    have hr : rest = [] := by
      cases rest with
      | nil => rfl
      | cons => simp at hd
    subst hr
    rw [List.append_nil] at hf
    subst hf
    have hal : acc.length ≤ 32 := by
      rw [hlen]
      exact Nat.pow_le_pow_right (by omega) hl
    obtain ⟨ys, h1, h2, h3⟩ := sortD_strict so acc (fun a b h => so_inj a b h) nd
    have hyl := h1.length_eq
    have l1 : mLc true (anyItems (eVar 1)) [4] (gcN 4) (tTrue) (eL gTup (aC (eL (gl1 gLen) (aC (eVar 4) (aN))) (aC (eVar 4) (aN)))) [.val (setD done), .val (.list (acc.map setD)), E, .non, .non] [] = some (acc.map so, []) :=
      lc_all setD so acc (items_list rfl) rfl (by omega) fun y hy => ⟨[.val (setD done), .val (.list (acc.map setD)), E, .non, .val (setD y)], rfl, by
        have e : gLen (setD y) = some (.int y.length) := by simp [gLen, setD]
        simp [eL, aC, aN, eVar, gl1, e, gTup, szl (n := 2), so]⟩
    have s1 : eL (gl1 gSort) (aC (eF (mLc true (anyItems (eVar 1)) [4] (gcN 4) (tTrue) (eL gTup (aC (eL (gl1 gLen) (aC (eVar 4) (aN))) (aC (eVar 4) (aN)))))) (aN)) [.val (setD done), .val (.list (acc.map setD)), E, .non, .non] [] = some (.list (ys.map so), []) :=
      eL1_of (eF_of l1) (by rw [gSort, if_pos (sortOk_so acc (by omega)), h2])
    have l2 : mLc true (anyItems (eL (gl1 gSort) (aC (eF (mLc true (anyItems (eVar 1)) [4] (gcN 4) (tTrue) (eL gTup (aC (eL (gl1 gLen) (aC (eVar 4) (aN))) (aC (eVar 4) (aN)))))) (aN)))) [3, 4] (gT 2 (gsC (gcN 3) (gsC (gcN 4) (gsN)))) (tTrue) (eVar 4) [.val (setD done), .val (.list (acc.map setD)), E, .non, .non] [] = some (ys.map setD, []) :=
      lc_all so setD ys (items_list s1) rfl (by omega) fun y hy => ⟨[.val (setD done), .val (.list (acc.map setD)), E, .val (.int y.length), .val (setD y)], by simp [gT, so, gsC, gsN, gcN, wipeD, isOwn], rfl⟩
    refine ws_ret0 (wp_eF.mpr (wp_of l2 ?_))
    exact ⟨rfl, ys, rfl, h3, fun y hy => hs y (h1.mem_iff.mp hy), h1.mem_iff.mpr he, by omega⟩
theorem ints_of : ∀ rs : List Int, intsOf (rs.map .int) = some rs
  | [] => rfl
  | r :: rs => by simp [intsOf, ints_of rs]
theorem sum_le : ∀ (rs : List Int) (b : Int), (∀ r ∈ rs, r ≤ b) → rs.sum ≤ rs.length * b
  | [], b, _ => by simp
  | r :: rs, b, h => by
    have h1 := h r (List.mem_cons_self ..)
    have h2 := sum_le rs b fun x hx => h x (List.mem_cons_of_mem _ hx)
    simp only [List.sum_cons, List.length_cons, Int.natCast_add, Int.add_mul]
    omega
theorem le_sum : ∀ (rs : List Int) (b : Int), (∀ r ∈ rs, b ≤ r) → rs.length * b ≤ rs.sum
  | [], b, _ => by simp
  | r :: rs, b, h => by
    have h1 := h r (List.mem_cons_self ..)
    have h2 := le_sum rs b fun x hx => h x (List.mem_cons_of_mem _ hx)
    simp only [List.sum_cons, List.length_cons, Int.natCast_add, Int.add_mul]
    omega
theorem wp_parts {p : Cell} (hp : Pool p) {n : Nat} (h1 : 1 ≤ n) (h2 : n ≤ 32) {Q : D → List Cell → Prop} (k : ∀ (rows : List Int) p', Pool p' → rows.length = n → (∀ r ∈ rows, 0 < r) → 0 < rows.sum → rows.sum < 65536 → Q (.list (rows.map (frac rows.sum))) [p']) : wp (F_law_parts_of [.own 0, .val (.int n), .val (.int 1)] [p]) Q := by
  refine wp_body ?_
  unfold m_law_parts_of
  obtain ⟨ds, hd1, hd2⟩ := rng_ints n
  refine ws_seq (ws_as (wp_eF.mpr (wp_mLc (wp_rng1.mpr (wp_aC.mpr (wp_of (a := .int n) rfl (wp_aN.mpr ⟨(n : Int), rfl, by simp [okR]; omega, ?_⟩)))))))
  rw [Int.toNat_natCast, hd2]
  refine ⟨rfl, rfl, szl (n := (ds.map PyData.int).length) (by simp; omega), ?_⟩
  refine (wp_lcN (fun μ => ∃ p, Pool p ∧ μ = [p]) PyData.int PyData.int (fun r : Int => 1 ≤ r ∧ r ≤ 30) ds [p] ⟨p, hp, rfl⟩ ?_).mono ?_
  · rintro x hx _ ⟨p, hp, rfl⟩
    refine wp_of (a := [.own 0, .val (.int n), .val (.int 1), .non, .val (.int x), .non]) (b := [p]) rfl ?_
    refine wp_e2.mpr (wp_of (a := .int 1) (b := [p]) rfl (wp_callP rfl (noBo0 _ _) (wp_eL.mpr (wp_aC.mpr (wp_eC.mpr (wp_aC.mpr (wp_eC.mpr (wp_aC.mpr (wp_eC.mpr (wp_aC.mpr (wp_eC.mpr (wp_aC.mpr (wp_drawB hp rfl (noBo0 _ _) (by omega) (by omega) fun r p1 hp1 r0 r1 => wp_aN.mpr (wp1_of (a := .tuple (([0, 1, 2, 7, r] : List Int).map .int)) ?_ ⟨p1, rfl, wp_pickT hp1 PyData.int [0, 1, 2, 7, r] (by simp) (by simp) fun q hq p2 hp2 => ⟨p2, rfl, hp2, wp1_of (a := .int (1 + q)) rfl ⟨⟨p2, hp2, rfl⟩, 1 + q, rfl, ?_⟩⟩⟩))))))))))))))
    · simp [gTup, szl (n := 5)]
    · simp at hq
      omega
  · rintro _ _ ⟨⟨p1, hp1, rfl⟩, rows, hr1, rfl, hr2⟩
    have lo := le_sum rows 1 fun r hr => (hr2 r hr).1
    have hi := sum_le rows 30 fun r hr => (hr2 r hr).2
    have hlen : rows.length = n := by omega
    have hs : gSum (.list (rows.map .int)) = some (.int rows.sum) := by simp [gSum, ints_of]
    refine wp_some.mpr ?_
    refine ws_seq (ws_as (wp_eIf.mpr (wp_tV.mpr (wp_e2.mpr (wp_of (a := .int rows.sum) (b := [p1]) (eL1_of (x := .list (rows.map .int)) rfl hs) (wp_eC.mpr ?_))))))
    refine wp1_test (b := decide (rows.sum > 0)) rfl (⟨fun _ => wp_of (a := .list (rows.map .int)) (b := [p1]) rfl (wp_some.mpr ?_), fun h => ?_⟩)
    · have lc : mLc true (anyItems (eVar 3)) [5] (gcN 5) (tTrue) (eCall 2 F_law_fr (rV (eVar 5) (rV (eL (gl1 gSum) (aC (eVar 3) (aN))) (rN)))) [.own 0, .val (.int n), .val (.int 1), .val (.list (rows.map .int)), .non, .non] [p1] = some (rows.map (frac rows.sum), [p1]) :=
        lc_all PyData.int (frac rows.sum) rows (items_list rfl) rfl (by omega) fun r hr => ⟨[.own 0, .val (.int n), .val (.int 1), .val (.list (rows.map .int)), .non, .val (.int r)], rfl, by
          obtain ⟨a, b, e, q⟩ := wp_call2 (F := F_law_fr) (a := eVar 5) (b := eL (gl1 gSum) (aC (eVar 3) (aN))) (ρ := [.own 0, .val (.int n), .val (.int 1), .val (.list (rows.map .int)), .non, .val (.int r)]) (μ := [p1]) (Q := fun a b => a = frac rows.sum r ∧ b = [p1]) (wp_of (a := .int r) (b := [p1]) rfl (wp_of (a := .int rows.sum) (b := [p1]) (eL1_of (x := .list (rows.map .int)) rfl hs) ⟨_, fr_spec (n := r) (m := rows.sum) (by omega) (by omega), rfl, rfl⟩))
          rw [e, q.1, q.2]⟩
      refine ws_ret0 (wp_eF.mpr (wp_of lc ?_))
      exact k rows p1 hp1 hlen (fun r hr => by have := (hr2 r hr).1; omega) (by omega) (by omega)
    · simp at h
      omega
theorem sle_len {a b : List Str} (h : a.length < b.length) : sle a b = true := by
  unfold sle so
  rw [PySem.W.dataLt_tuple, PySem.W.dataLt_cons (by simp [PySem.W.alike])]
  rw [if_neg (by simp [PyData.eqv]; omega), PySem.W.dataLt_int]
  simpa using h
/-- kept sets -/
structure Kept (f : List Str) (ks : List (List Str)) : Prop where
  rise : ks.Pairwise fun a b => sle a b = true
  sub : ∀ y ∈ ks, y.Sublist f
  full : ∀ y ∈ ks, y ≠ []
  few : ks.length ≤ 32
theorem Kept.of {f : List Str} {ys ks : List (List Str)} (o : Sets f ys) (h : ks.Sublist (ys.drop 1)) : Kept f ks := ⟨(o.rise.sublist (List.drop_sublist 1 ys)).sublist h, fun y hy => o.sub y ((List.drop_sublist 1 ys).subset (h.subset hy)), fun y hy => o.ne (h.subset hy), by
  have := (h.trans (List.drop_sublist 1 ys)).length_le
  have := o.few
  omega⟩
theorem Kept.pre {f : List Str} {is : List Nat} (hl : f.length ≤ 5) (h : is.Sublist (List.range f.length)) : Kept f (is.map fun i => f.take (i + 1)) := by
  have hlt : ∀ i ∈ is, i < f.length := fun i hi => List.mem_range.mp (h.subset hi)
  refine ⟨?_, ?_, ?_, ?_⟩
  · rw [List.pairwise_map]
    have p : is.Pairwise (· < ·) := (List.pairwise_lt_range (n := f.length)).sublist h
    exact p.imp_of_mem fun {a b} ha hb hab => sle_len (by
      have := hlt a ha
      have := hlt b hb
      simp only [List.length_take]
      omega)
  · intro y hy
    obtain ⟨i, hi, rfl⟩ := List.mem_map.mp hy
    exact List.take_sublist _ _
  · intro y hy
    obtain ⟨i, hi, rfl⟩ := List.mem_map.mp hy
    have := hlt i hi
    intro e
    have := congrArg List.length e
    simp only [List.length_take, List.length_nil] at this
    omega
  · have := h.length_le
    simp at this ⊢
    omega
theorem Kept.one {f : List Str} (h : 1 ≤ f.length) : Kept f [f] := ⟨by simp, fun y hy => by rw [List.mem_singleton.mp hy]; exact List.Sublist.refl _, fun y hy => by
  rw [List.mem_singleton.mp hy]
  intro e
  rw [e] at h
  simp at h, by simp⟩
theorem kept_mass {f : List Str} {ks : List (List Str)} {rows : List Int} (hf : Frame f) (o : Kept f ks) (hr : rows.length = ks.length) (hp : ∀ r ∈ rows, 0 < r) (h0 : 0 < rows.sum) (h1 : rows.sum < 65536) : Mass f rows.sum (ks.zip rows) := by
  have mem : ∀ q ∈ ks.zip rows, q.1 ∈ ks ∧ q.2 ∈ rows := fun q hq => ⟨(List.of_mem_zip hq).1, (List.of_mem_zip hq).2⟩
  have few := o.few
  have lenz : (ks.zip rows).length ≤ 32 := by simp; omega
  have ff := hf.few
  refine ⟨⟨h0, h1, by omega, fun q hq => ?_⟩, fun q hq => hp _ (mem q hq).2, fun q hq => hf.inc.sublist (o.sub _ (mem q hq).1), fun q hq x hx => (o.sub _ (mem q hq).1).subset hx, fun q hq => (o.sub _ (mem q hq).1).length_le, fun q hq => o.full _ (mem q hq).1, ?_, ?_⟩
  · have := (o.sub _ (mem q hq).1).length_le
    omega
  · have e : (ks.zip rows).map (·.1) = ks := by
      rw [List.map_fst_zip]
      omega
    have := o.rise
    rw [← e, List.pairwise_map] at this
    exact this
  · rw [List.map_snd_zip]
    omega
theorem zip_pairs (S : Int) : ∀ (ks : List (List Str)) (rows : List Int), List.zipWith (fun a b => PyData.tuple [a, b]) (ks.map setD) (rows.map (frac S)) = (ks.zip rows).map (pairD S)
  | [], _ => by simp
  | _ :: _, [] => by simp
  | k :: ks, r :: rs => by
    simp only [List.map_cons, List.zipWith_cons_cons, List.zip_cons_cons, zip_pairs S ks rs]
    rfl
theorem drop1 (xs : List D) : PD.cutD xs (some 1) none = xs.drop 1 := by
  cases xs with
  | nil => rfl
  | cons x xs =>
    have e1 : HT.sIx (x :: xs).length (x :: xs).length none = (x :: xs).length := rfl
    have e2 : HT.sIx (x :: xs).length 0 (some 1) = 1 := by
      show (if (1 : Int) < 0 then ((1 : Int) + ((x :: xs).length : Int)).toNat else min (1 : Int).toNat (x :: xs).length) = 1
      rw [if_neg (by omega)]
      simp
    unfold PD.cutD
    rw [e1, e2]
    simp
theorem wp_masses {p : Cell} (hp : Pool p) {f : List Str} (hf : Frame f) {Q : D → List Cell → Prop} (k : ∀ (s : Int) (m : List (List Str × Int)) p', Pool p' → Mass f s m → Q (massD s m) [p']) : wp (F_law_masses [.own 0, .val (setD f)] [p]) Q := by
  obtain ⟨ys, hys, o⟩ := sets_spec hf.inc hf.few
  have hfew := hf.few
  have hone := hf.one
  refine wp_body ?_
  unfold m_law_masses
  have d1 : gSl (.list (ys.map setD)) (some 1) none = some (.list ((ys.drop 1).map setD)) := by rw [gSl, drop1, List.map_drop]
  have dl : (ys.drop 1).length ≤ 32 := by
    have := o.few
    simp
    omega
  have kof : ∀ ks, ks.Sublist (ys.drop 1) → Kept f ks := fun ks h => Kept.of o h
  refine ws_seq (ws_par0 (wp_aC.mpr (wp_eSl (wp_call1 (wp_of (a := setD f) (b := [p]) rfl ⟨_, hys, wp_pS (wp_eC.mpr ⟨1, rfl, wp_pN.mpr (wp1_of d1 (wp_aC.mpr (wp_drawB hp rfl (noBo0 _ _) (by omega) (by omega) fun r p1 hp1 r0 r1 => wp_aN.mpr ⟨_, _, rfl, ?_⟩)))⟩)⟩)))))
  generalize ys.drop 1 = zs at *
  refine ws_seq (wp1.mono (Q := fun fl => ∃ ks p', Pool p' ∧ Kept f ks ∧ fl = .next [.own 0, .val (setD f), .val (.list (ks.map setD)), .val (.list (zs.map setD)), .val (.int r), .non, .non] [p']) ?_ ?_)
  · refine ws_as (wp_eF.mpr (wp_mLc (wp_any (wp_of (a := .list (zs.map setD)) (b := [p1]) rfl (wp1_of (a := zs.map setD) rfl ⟨rfl, rfl, szl (n := (zs.map setD).length) (by simp; omega), ?_⟩)))))
    refine (wp_lcF (fun μ => ∃ p, Pool p ∧ μ = [p]) setD setD zs [p1] ⟨p1, hp1, rfl⟩ ?_).mono ?_
    · rintro x hx _ ⟨p, hp, rfl⟩
      refine wp_of (a := [.own 0, .val (setD f), .non, .val (.list (zs.map setD)), .val (.int r), .val (setD x), .non]) (b := [p]) rfl ?_
      refine wp_tV.mpr (wp_e2.mpr (wp_callP rfl (noBo0 _ _) (wp_callP rfl (noBo0 _ _) (wp_of (a := .tuple (([1, 2, 3, 5] : List Int).map .int)) (b := [p]) (by simp [eL, aC, aN, eC, gTup, szl (n := 4)]) ⟨p, rfl, wp_pickT hp PyData.int [1, 2, 3, 5] (by simp) (by simp) fun q hq p2 hp2 => ⟨p2, rfl, hp2, p2, rfl, wp_below hp2 ?_ ?_ fun r2 p3 hp3 _ _ => ⟨p3, rfl, hp3, wp_eC.mpr (wp1_test (gEq_int r2 0) (⟨⟨p3, hp3, rfl⟩, fun _ => rfl⟩))⟩⟩⟩))))
      · simp at hq
        omega
      · simp at hq
        omega
    · rintro _ _ ⟨⟨p2, hp2, rfl⟩, ks, hks, rfl⟩
      exact wp_some.mpr ⟨ks, p2, hp2, kof ks hks, rfl⟩
  · rintro _ ⟨ks, p2, hp2, hk, rfl⟩
    refine ws_seq (wp1.mono (Q := fun fl => ∃ ks p', Pool p' ∧ Kept f ks ∧ fl = .next [.own 0, .val (setD f), .val (.list (ks.map setD)), .val (.list (zs.map setD)), .val (.int r), .non, .non] [p']) ?_ ?_)
    · refine ws_if (wp_tV.mpr (wp_e2.mpr (wp_of (a := .int r) (b := [p2]) rfl (wp_eC.mpr ?_))))
      refine wp1_test (gEq_int r 0) (⟨fun _ => ?_, fun _ => ws_nil ⟨ks, p2, hp2, hk, rfl⟩⟩)
      have lc : mLc true (anyItems (eVar 3)) [5] (gcN 5) (tV (e2 gEq (eL (gl1 gLen) (aC (eVar 5) (aN))) (eC (.int 1)))) (eVar 5) [.own 0, .val (setD f), .val (.list (ks.map setD)), .val (.list (zs.map setD)), .val (.int r), .non, .non] [p2] = some ((zs.filter fun y => decide ((y.length : Int) = 1)).map setD, [p2]) :=
        lc_of setD (fun y => decide ((y.length : Int) = 1)) setD zs (items_list rfl) rfl (by omega) fun y hy => ⟨[.own 0, .val (setD f), .val (.list (ks.map setD)), .val (.list (zs.map setD)), .val (.int r), .val (setD y), .non], rfl, by
          have e : eL (gl1 gLen) (aC (eVar 5) (aN)) [.own 0, .val (setD f), .val (.list (ks.map setD)), .val (.list (zs.map setD)), .val (.int r), .val (setD y), .non] [p2] = some (.int y.length, [p2]) := eL1_of (x := setD y) rfl (by simp [gLen, setD])
          unfold tV
          rw [e2_of e rfl (gEq_int _ _), Option.bind_some]
          rfl, fun _ => rfl⟩
      exact ws_as (wp_eF.mpr (wp_of lc (wp_some.mpr ⟨_, p2, hp2, kof _ List.filter_sublist, rfl⟩)))
    · clear hk hp2 p2 ks
      rintro _ ⟨ks, p2, hp2, hk, rfl⟩
      refine ws_seq (wp1.mono (Q := fun fl => ∃ ks p', Pool p' ∧ Kept f ks ∧ fl = .next [.own 0, .val (setD f), .val (.list (ks.map setD)), .val (.list (zs.map setD)), .val (.int r), .non, .non] [p']) ?_ ?_)
      · refine ws_if (wp_tV.mpr (wp_e2.mpr (wp_of (a := .int r) (b := [p2]) rfl (wp_eC.mpr ?_))))
        refine wp1_test (gEq_int r 1) (⟨fun _ => ?_, fun _ => ws_nil ⟨ks, p2, hp2, hk, rfl⟩⟩)
        have ln : ∀ μ (ρ : List Slot), ρ[1]? = some (.val (setD f)) → eL (gl1 gLen) (aC (eVar 1) (aN)) ρ μ = some (.int f.length, μ) := fun μ ρ h => eL1_of (x := setD f) (by simp [eVar, h]) (by simp [gLen, setD])
        refine ws_as (wp_eF.mpr (wp_mLc (wp_rng1.mpr (wp_aC.mpr (wp_of (ln _ _ rfl) (wp_aN.mpr ⟨(f.length : Int), rfl, by simp [okR]; omega, rfl, rfl, ?_, ?_⟩))))))
        · simp [rngD]
          exact szl (n := f.length) (by omega)
        · rw [Int.toNat_natCast]
          refine (wp_lcF (fun μ => ∃ p, Pool p ∧ μ = [p]) (fun i : Nat => PyData.int (0 + (i : Int))) (fun i => setD (f.take (i + 1))) (List.range f.length) [p2] ⟨p2, hp2, rfl⟩ ?_).mono ?_
          · rintro i hi _ ⟨p, hp, rfl⟩
            have hi := List.mem_range.mp hi
            refine wp_of (a := [.own 0, .val (setD f), .val (.list (ks.map setD)), .val (.list (zs.map setD)), .val (.int r), .non, .val (.int (0 + (i : Int)))]) (b := [p]) rfl ?_
            have val : ∀ μ, eSl (eVar 1) (pN) (pS (e2 gAdd (eVar 6) (eC (.int 1)))) [.own 0, .val (setD f), .val (.list (ks.map setD)), .val (.list (zs.map setD)), .val (.int r), .non, .val (.int (0 + (i : Int)))] μ = some (setD (f.take (i + 1)), μ) := fun μ => by
              have e : gSl (setD f) none (some (0 + (i : Int) + 1)) = some (setD (f.take (i + 1))) := by
                show gSl (.tuple (f.map .str)) none (some (0 + (i : Int) + 1)) = _
                rw [show (0 + (i : Int) + 1) = ((i + 1 : Nat) : Int) by omega, gSl, cut_to (by simp; omega), setD, List.map_take]
              simp [eSl, eVar, pN, pS, e2, eC, gAdd]
              simpa using e
            refine wp_tOr.mpr (wp_tV.mpr (wp_e2.mpr (wp_of (a := .int (0 + (i : Int) + 1)) (b := [p]) rfl (wp_of (ln _ _ rfl) ?_))))
            refine wp1_test (gEq_int _ _) (⟨fun _ => ⟨⟨p, hp, rfl⟩, fun _ => val _⟩, fun _ => ?_⟩)
            exact wp_tV.mpr (wp_e2.mpr (wp_drawB hp rfl (noBo0 _ _) (by omega) (by omega) fun r2 p3 hp3 _ _ => wp_eC.mpr (wp1_test (gEq_int r2 0) (⟨⟨p3, hp3, rfl⟩, fun _ => val _⟩))))
          · rintro _ _ ⟨⟨p3, hp3, rfl⟩, is, his, rfl⟩
            refine wp_some.mpr ⟨is.map fun i => f.take (i + 1), p3, hp3, Kept.pre hfew his, ?_⟩
            rw [List.map_map]
            rfl
      · clear hk hp2 p2 ks
        rintro _ ⟨ks, p2, hp2, hk, rfl⟩
        refine ws_seq (wp1.mono (Q := fun fl => ∃ ks p', Pool p' ∧ Kept f ks ∧ 1 ≤ ks.length ∧ fl = .next [.own 0, .val (setD f), .val (.list (ks.map setD)), .val (.list (zs.map setD)), .val (.int r), .non, .non] [p']) ?_ ?_)
        · refine ws_as (wp_eIf.mpr (wp_tV.mpr (wp_e2.mpr (wp_of (a := .list (ks.map setD)) (b := [p2]) rfl (wp_eL.mpr (wp_aN.mpr (wp1_of gLst_nil ?_)))))))
          refine wp1_test (ne_nil _) (⟨fun h => wp_of (a := .list (ks.map setD)) (b := [p2]) rfl (wp_some.mpr ⟨ks, p2, hp2, hk, ?_, rfl⟩), fun _ => wp_eL.mpr (wp_aC.mpr (wp_of (a := setD f) (b := [p2]) rfl (wp_aN.mpr (wp1_of (a := .list [setD f]) ?_ (wp_some.mpr ⟨[f], p2, hp2, Kept.one hone, by simp, rfl⟩)))))⟩)
          · cases ks with
            | nil => simp at h
            | cons => simp
          · simp [gLst, szl (n := 1)]
        · clear hk hp2 p2 ks
          rintro _ ⟨ks, p2, hp2, hk, h1, rfl⟩
          have kf := hk.few
          have lk : eL (gl1 gLen) (aC (eVar 2) (aN)) [.own 0, .val (setD f), .val (.list (ks.map setD)), .val (.list (zs.map setD)), .val (.int r), .non, .non] [p2] = some (.int ks.length, [p2]) := eL1_of (x := .list (ks.map setD)) rfl (by simp [gLen])
          refine ws_ret0 (wp_eL.mpr (wp_aC.mpr (wp_of (a := .list (ks.map setD)) (b := [p2]) rfl (wp_aC.mpr (wp_callP2 rfl (noBo0 _ _) (wp_of lk (wp_eC.mpr ⟨p2, rfl, wp_parts hp2 h1 kf fun rows p3 hp3 hl hr hs0 hs1 => ⟨p3, rfl, hp3, wp_aN.mpr (wp1_of (a := massD rows.sum (ks.zip rows)) ?_ ?_)⟩⟩)))))))
          · show gZip2 [.list (ks.map setD), .list (rows.map (frac rows.sum))] = _
            rw [gZip2, if_pos (by simp [hl]; exact szl (n := ks.length) (by omega)), zip_pairs]
            rfl
          · exact k _ _ p3 hp3 (kept_mass hf hk hl hr hs0 hs1)
abbrev M2 := List (List Str × Int)
theorem sumOf_cons (q : List Str × Int) (m : M2) (p : List Str → Bool) : sumOf (q :: m) p = (if p q.1 = true then q.2 else 0) + sumOf m p := by
  unfold sumOf
  by_cases h : p q.1 = true
  · simp [h]
  · simp [h]
theorem sumOf_nil (p : List Str → Bool) : sumOf [] p = 0 := rfl
theorem sumOf_not (p : List Str → Bool) : ∀ m : M2, sumOf m p + sumOf m (fun y => !p y) = (m.map (·.2)).sum
  | [] => rfl
  | q :: m => by
    have ih := sumOf_not p m
    rw [sumOf_cons, sumOf_cons, List.map_cons, List.sum_cons, ← ih]
    by_cases h : p q.1 = true
    · simp [h]; omega
    · simp [h]; omega
theorem sumOf_congr {p r : List Str → Bool} : ∀ m : M2, (∀ q ∈ m, p q.1 = r q.1) → sumOf m p = sumOf m r
  | [], _ => rfl
  | q :: m, h => by
    rw [sumOf_cons, sumOf_cons, h q (List.mem_cons_self ..), sumOf_congr m fun x hx => h x (List.mem_cons_of_mem _ hx)]
theorem sumOf_mono {p r : List Str → Bool} : ∀ m : M2, (∀ q ∈ m, 0 < q.2) → (∀ q ∈ m, p q.1 = true → r q.1 = true) → sumOf m p ≤ sumOf m r
  | [], _, _ => Int.le_refl _
  | q :: m, hp, h => by
    have ih := sumOf_mono m (fun x hx => hp x (List.mem_cons_of_mem _ hx)) fun x hx => h x (List.mem_cons_of_mem _ hx)
    have h1 := hp q (List.mem_cons_self ..)
    have h2 := h q (List.mem_cons_self ..)
    rw [sumOf_cons, sumOf_cons]
    by_cases e : p q.1 = true
    · rw [if_pos e, if_pos (h2 e)]; omega
    · rw [if_neg e]
      split <;> omega
theorem sumOf_false {p : List Str → Bool} : ∀ m : M2, (∀ q ∈ m, p q.1 = false) → sumOf m p = 0
  | [], _ => rfl
  | q :: m, h => by
    rw [sumOf_cons, h q (List.mem_cons_self ..), sumOf_false m fun x hx => h x (List.mem_cons_of_mem _ hx)]
    rfl
theorem sumOf_true {p : List Str → Bool} : ∀ m : M2, (∀ q ∈ m, p q.1 = true) → sumOf m p = (m.map (·.2)).sum
  | [], _ => rfl
  | q :: m, h => by
    rw [sumOf_cons, h q (List.mem_cons_self ..), sumOf_true m fun x hx => h x (List.mem_cons_of_mem _ hx), List.map_cons, List.sum_cons]
    rfl
theorem sub_iff {a b : List Str} : sub a b = true ↔ ∀ x ∈ a, x ∈ b := by
  simp [sub]
theorem meet_iff {a b : List Str} : meet a b = true ↔ ∃ x ∈ a, x ∈ b := by
  simp [meet]
def sameOk : Nat → D → Bool
  | 0, _ => false
  | _ + 1, .int _ => true
  | _ + 1, .str _ => true
  | _ + 1, .bool _ => true
  | _ + 1, .none => true
  | k + 1, .list ds => decide (ds.length < 65536) && ds.all (sameOk k)
  | k + 1, .tuple ds => decide (ds.length < 65536) && ds.all (sameOk k)
  | _ + 1, _ => false
theorem eqF_str (n : Nat) (x : Str) : eqF (n + 1) (.str x) (.str x) = some true := by simp [eqF]
theorem gEq_str (x : Str) : gEq (.str x) (.str x) = some (.bool true) := by simp [gEq, eqF]
theorem gEq_bool (x : Bool) : gEq (.bool x) (.bool x) = some (.bool true) := by cases x <;> rfl
theorem all_true {n : Nat} : gAll (.list ((List.range n).map fun _ => .bool true)) = some (.bool true) := by
  rw [gAll, bools_map]
  simp
theorem rng1_n {a : ME} {ρ : List Slot} {μ μ' : List Cell} {n : Nat} (h : a ρ μ = some (.int n, μ')) (hn : n < 65536) : rng1 (aC a aN) ρ μ = some ((List.range n).map fun i : Nat => .int (0 + (i : Int)), μ') := by
  obtain ⟨x, y, e, q⟩ := (wp_rng1 (r := aC a aN) (ρ := ρ) (μ := μ) (QA := fun x y => x = (List.range n).map (fun i : Nat => .int (0 + (i : Int))) ∧ y = μ')).mpr (wp_aC.mpr (wp_of h (wp_aN.mpr ⟨(n : Int), rfl, by simp [okR]; omega, rfl, rfl⟩)))
  rw [e, q.1, q.2]
theorem same_items {k : Nat} {ds : List D} {seq : List D → D} (hx : isX (seq ds) = false) (hgl : gLen (seq ds) = some (.int ds.length)) (hix : ∀ i : Nat, (h : i < ds.length) → gIx (seq ds) (.int (0 + (i : Int))) = some ds[i]) (hl : ds.length < 65536) (h : ∀ d ∈ ds, Fr_law_same k [.val d, .val d] [] = some (.bool true, [])) (c : D) :
    eAnd (e2 gEq (eL (gl1 gLen) (aC (eVar 0) (aN))) (eL (gl1 gLen) (aC (eVar 1) (aN)))) (eL (gl1 gAll) (aC (eF (mLc true (rng1 (aC (eL (gl1 gLen) (aC (eVar 1) (aN))) (aN))) [3] (gcN 3) (tTrue) (eCall 2 (Fr_law_same k) (rV (e2 gIx (eVar 0) (eVar 3)) (rV (e2 gIx (eVar 1) (eVar 3)) (rN)))))) (aN))) [.val (seq ds), .val (seq ds), .val c, .non] [] = some (.bool true, []) := by
  have l0 : eL (gl1 gLen) (aC (eVar 0) (aN)) [.val (seq ds), .val (seq ds), .val c, .non] [] = some (.int ds.length, []) := eL1_of (x := seq ds) rfl hgl
  have l1 : eL (gl1 gLen) (aC (eVar 1) (aN)) [.val (seq ds), .val (seq ds), .val c, .non] [] = some (.int ds.length, []) := eL1_of (x := seq ds) rfl hgl
  have it : rng1 (aC (eL (gl1 gLen) (aC (eVar 1) (aN))) (aN)) [.val (seq ds), .val (seq ds), .val c, .non] [] = some ((List.range ds.length).map fun i : Nat => .int (0 + (i : Int)), []) := by
    exact rng1_n l1 hl
  have lc : mLc true (rng1 (aC (eL (gl1 gLen) (aC (eVar 1) (aN))) (aN))) [3] (gcN 3) (tTrue) (eCall 2 (Fr_law_same k) (rV (e2 gIx (eVar 0) (eVar 3)) (rV (e2 gIx (eVar 1) (eVar 3)) (rN)))) [.val (seq ds), .val (seq ds), .val c, .non] [] = some ((List.range ds.length).map fun _ => .bool true, []) :=
    lc_all (fun i : Nat => .int (0 + (i : Int))) (fun _ => .bool true) (List.range ds.length) it rfl (by simpa using hl) fun i hi => by
      have hi := List.mem_range.mp hi
      exact ⟨[.val (seq ds), .val (seq ds), .val c, .val (.int (0 + (i : Int)))], rfl, call2_of (e2_of rfl rfl (hix i hi)) (e2_of rfl rfl (hix i hi)) (h _ (List.getElem_mem hi))⟩
  have a := eL1_of (g := gAll) (eF_of lc) all_true
  unfold eAnd
  rw [e2_of l0 l1 (gEq_int _ _), Option.bind_some]
  simp [gBool, a]
theorem ix_at {α : Type} (ds : List α) (i : Nat) (h : i < ds.length) : L2.atI ds (0 + (i : Int)) = some ds[i] := by
  simp [L2.atI, L2.ixN, h]
/-- the due one itself is told -/
theorem same_refl : ∀ (k : Nat) (d : D), sameOk k d = true → Fr_law_same k [.val d, .val d] [] = some (.bool true, [])
  | 0, d, h => by simp [sameOk] at h
  | k + 1, d, h => by
    show bodyF 2 (m_law_same (Fr_law_same k)) [.val d, .val d] [] = _
    cases d with
    | int i => simp [bodyF, m_law_same, sSeq, sIf, tOr, tV, eIs, isX, isTup, isLst, isBool, isInt, eVar, gBool, sNil, e1, gIsN, isNoneD, sRet, eAnd, eNot, e2, gEq_int, okB, B0]
    | str x => simp [bodyF, m_law_same, sSeq, sIf, tOr, tV, eIs, isX, isTup, isLst, isBool, isInt, isStr, eVar, gBool, sNil, e1, gIsN, isNoneD, sRet, eAnd, eNot, e2, gEq_str, okB, B0]
    | bool b => simp [bodyF, m_law_same, sSeq, sIf, tOr, tV, eIs, isX, isTup, isLst, isBool, isInt, isStr, eVar, gBool, sNil, e1, gIsN, isNoneD, sRet, eAnd, eNot, e2, gEq_bool, okB, B0]
    | none => simp [bodyF, m_law_same, sSeq, sIf, tOr, tV, eIs, isX, isTup, isLst, isBool, isInt, isStr, eVar, gBool, sNil, e1, gIsN, isNoneD, sRet, eAnd, eNot, e2, okB, B0]
    | list ds =>
      simp only [sameOk, Bool.and_eq_true, decide_eq_true_eq, List.all_eq_true] at h
      have q := same_items (k := k) (ds := ds) (seq := .list) rfl (by simp [gLen]) (fun i hi => ix_at ds i hi) h.1 (fun d hd => same_refl k d (h.2 d hd)) (.bool true)
      simp [bodyF, m_law_same, sSeq, sIf, tOr, tV, eIs, isX, isTup, isLst, eVar, gBool, sAs, eIf, gN, sRet]
      rw [eAnd]
      simp [eVar, gBool, q, okB, B0]
    | tuple ds =>
      simp only [sameOk, Bool.and_eq_true, decide_eq_true_eq, List.all_eq_true] at h
      have q := same_items (k := k) (ds := ds) (seq := .tuple) rfl (by simp [gLen]) (fun i hi => ix_at ds i hi) h.1 (fun d hd => same_refl k d (h.2 d hd)) (.bool true)
      simp [bodyF, m_law_same, sSeq, sIf, tOr, tV, eIs, isX, isTup, isLst, eVar, gBool, sAs, eIf, gN, sRet]
      rw [eAnd]
      simp [eVar, gBool, q, okB, B0]
    | dict ds => simp [sameOk] at h
theorem callm1 {F : FD} {a : ME} {ρ : List Slot} {μ : List Cell} {x y : D} (ha : a ρ μ = some (x, μ)) (h : F [.val x] [] = some (y, [])) : eCall 1 F (rV a rN) ρ μ = some (y, μ) := by
  simp [eCall, rV, rN, ha, lentOf, slotsOf, cellsOf, nodupB, flatCs, setCells, h]
theorem callm2 {F : FD} {a b : ME} {ρ : List Slot} {μ : List Cell} {x x' y : D} (ha : a ρ μ = some (x, μ)) (hb : b ρ μ = some (x', μ)) (h : F [.val x, .val x'] [] = some (y, [])) : eCall 2 F (rV a (rV b rN)) ρ μ = some (y, μ) := by
  simp [eCall, rV, rN, ha, hb, lentOf, slotsOf, cellsOf, nodupB, flatCs, setCells, h]
theorem callm3 {F : FD} {a b c : ME} {ρ : List Slot} {μ : List Cell} {x x' x2 y : D} (ha : a ρ μ = some (x, μ)) (hb : b ρ μ = some (x', μ)) (hc : c ρ μ = some (x2, μ)) (h : F [.val x, .val x', .val x2] [] = some (y, [])) : eCall 3 F (rV a (rV b (rV c rN))) ρ μ = some (y, μ) := by
  simp [eCall, rV, rN, ha, hb, hc, lentOf, slotsOf, cellsOf, nodupB, flatCs, setCells, h]
theorem callmK {F : FD} {a b c : ME} {ρ : List Slot} {μ : List Cell} {x x' x2 y : D} (ha : a ρ μ = some (x, μ)) (hb : b ρ μ = some (x', μ)) (hc : c ρ μ = some (x2, μ)) (h : F [.val x2, .val x', .val x] [] = some (y, [])) : eCallK 3 F [2, 1, 0] (aC a (aC b (aC c aN))) ρ μ = some (y, μ) := by
  simp [eCallK, aC, aN, ha, hb, hc, permL, h]
theorem list3_of {a b c : ME} {ρ : List Slot} {μ : List Cell} {x x' x2 : D} (ha : a ρ μ = some (x, μ)) (hb : b ρ μ = some (x', μ)) (hc : c ρ μ = some (x2, μ)) : eL gLst (aC a (aC b (aC c aN))) ρ μ = some (.list [x, x', x2], μ) := by
  simp [eL, aC, aN, ha, hb, hc, gLst, szl (n := 3)]
theorem list4_of {a b c d : ME} {ρ : List Slot} {μ : List Cell} {x x' x2 x3 : D} (ha : a ρ μ = some (x, μ)) (hb : b ρ μ = some (x', μ)) (hc : c ρ μ = some (x2, μ)) (hd : d ρ μ = some (x3, μ)) : eL gLst (aC a (aC b (aC c (aC d aN)))) ρ μ = some (.list [x, x', x2, x3], μ) := by
  simp [eL, aC, aN, ha, hb, hc, hd, gLst, szl (n := 4)]
theorem tup2_of {a b : ME} {ρ : List Slot} {μ : List Cell} {x x' : D} (ha : a ρ μ = some (x, μ)) (hb : b ρ μ = some (x', μ)) : eL gTup (aC a (aC b aN)) ρ μ = some (.tuple [x, x'], μ) := by
  simp [eL, aC, aN, ha, hb, gTup, szl (n := 2)]
theorem tup0_of {ρ : List Slot} {μ : List Cell} : eL gTup aN ρ μ = some (.tuple [], μ) := by
  simp [eL, aN, gTup]
theorem tOr_f {t u : MT} {ρ : List Slot} {μ : List Cell} (h : t ρ μ = some (false, μ)) (h2 : u ρ μ = some (false, μ)) : tOr t u ρ μ = some (false, μ) := by
  simp [tOr, h, h2]
theorem sIf_f {t : MT} {ms : MS} {n : Nat} {ρ : List Slot} {μ : List Cell} (h : t ρ μ = some (false, μ)) : sIf t ms sNil n ρ μ = some (.next ρ μ) := by
  simp [sIf, h, sNil]
theorem tNot_f {t : MT} {ρ : List Slot} {μ : List Cell} (h : t ρ μ = some (true, μ)) : tNot t ρ μ = some (false, μ) := by
  simp [tNot, h]
theorem ne_frac (s a : Int) : gNe (frac s a) (frac s a) = some (.bool false) := by
  simp [frac, gNe, eqF, eqL]
theorem sub_nil_left (x : List Str) : sub [] x = true := rfl
theorem sub_nil_right {y : List Str} (h : y ≠ []) : sub y [] = false := by
  cases y with
  | nil => exact absurd rfl h
  | cons a b => simp [sub]
theorem meet_nil (y : List Str) : meet y [] = false := by
  simp [meet]
theorem Sub.nil (f : List Str) : Sub f [] := ⟨List.Pairwise.nil, fun _ h => (by cases h), Nat.zero_le _⟩
theorem Sub.all {f : List Str} (h : Inc f) : Sub f f := ⟨h, fun _ h => h, Nat.le_refl _⟩
theorem Sub.of {f x : List Str} (h : Inc f) (hs : x.Sublist f) : Sub f x := ⟨h.sublist hs, fun _ hx => hs.subset hx, hs.length_le⟩
section
variable {f : List Str} {s : Int} {m : M2} (hf : Frame f) (q : Mass f s m)
include q
theorem m_other (x : List Str) : sumOf m (fun y => meet y x) = s - sumOf m fun y => sub y (f.filter fun t => !decide (t ∈ x)) := by
  have e : sumOf m (fun y => sub y (f.filter fun t => !decide (t ∈ x))) = sumOf m fun y => !meet y x := sumOf_congr m fun w hw => by
    rw [Bool.eq_iff_iff, sub_iff]
    have hs := q.sub w hw
    constructor
    · intro h
      rw [Bool.not_eq_true']
      cases e : meet w.1 x with
      | false => rfl
      | true =>
        obtain ⟨t, h1, h2⟩ := meet_iff.mp e
        have := (List.mem_filter.mp (h t h1)).2
        simp [h2] at this
    · intro h t ht
      rw [Bool.not_eq_true'] at h
      refine List.mem_filter.mpr ⟨hs t ht, ?_⟩
      by_cases hx : t ∈ x
      · have := meet_iff.mpr ⟨t, ht, hx⟩
        rw [h] at this
        cases this
      · simp [hx]
  have n := sumOf_not (fun y => meet y x) m
  rw [q.sum] at n
  rw [e]
  omega
theorem b_le_m (x : List Str) : sumOf m (fun y => sub y x) ≤ sumOf m fun y => meet y x := sumOf_mono m q.pos fun w hw h => by
  have hne := q.full w hw
  have h := sub_iff.mp h
  refine meet_iff.mpr ?_
  cases e : w.1 with
  | nil => exact absurd e hne
  | cons a b => exact ⟨a, List.mem_cons_self .., h a (by rw [e]; exact List.mem_cons_self ..)⟩
theorem b_mono {x w : List Str} (h : ∀ t ∈ x, t ∈ w) : sumOf m (fun y => sub y x) ≤ sumOf m fun y => sub y w := sumOf_mono m q.pos fun z _ hz => sub_iff.mpr fun t ht => h t (sub_iff.mp hz t ht)
theorem m_mono {x w : List Str} (h : ∀ t ∈ x, t ∈ w) : sumOf m (fun y => meet y x) ≤ sumOf m fun y => meet y w := sumOf_mono m q.pos fun z _ hz => by
  obtain ⟨t, h1, h2⟩ := meet_iff.mp hz
  exact meet_iff.mpr ⟨t, h1, h t h2⟩
theorem c_mono {x w : List Str} (h : ∀ t ∈ x, t ∈ w) : sumOf m (fun y => sub w y) ≤ sumOf m fun y => sub x y := sumOf_mono m q.pos fun z _ hz => sub_iff.mpr fun t ht => sub_iff.mp hz t (h t ht)
theorem b_nil : sumOf m (fun y => sub y []) = 0 := sumOf_false m fun w hw => sub_nil_right (q.full w hw)
theorem b_all : sumOf m (fun y => sub y f) = s := by
  exact (sumOf_true (p := fun y => sub y f) m fun w hw => sub_iff.mpr (q.sub w hw)).trans q.sum
theorem c_nil : sumOf m (fun y => sub [] y) = s := by
  exact (sumOf_true (p := fun y => sub [] y) m fun w hw => sub_nil_left _).trans q.sum
theorem m_nil : sumOf m (fun y => meet y []) = 0 := sumOf_false m fun w hw => meet_nil _
end
/-- sorted(set(...)) of a set's things and one more -/
theorem nodup_dups : ∀ (n : Nat) (l : List Str), l.length ≤ n → l.eraseDups.Nodup
  | _, [], _ => by simp
  | 0, x :: l, h => by simp at h
  | n + 1, x :: l, h => by
    rw [List.eraseDups_cons]
    refine List.nodup_cons.mpr ⟨fun hx => ?_, nodup_dups n _ ?_⟩
    · have := (List.mem_filter.mp (List.mem_eraseDups.mp hx)).2
      simp at this
    · have := List.length_filter_le (fun b => !b == x) l
      simp only [List.length_cons] at h
      omega
theorem strs_of : ∀ xs : List Str, strsOf (xs.map .str) = some xs
  | [] => rfl
  | x :: xs => by simp [strsOf, strs_of xs]
theorem wide_spec {f x : List Str} (hf : Frame f) (p : Sub f x) {t : Str} (ht : t ∈ f) : ∃ w, gSSet (.tuple ((x ++ [t]).map .str)) = some (.list (w.map .str)) ∧ Sub f w ∧ ∀ y ∈ x, y ∈ w := by
  obtain ⟨w, h1, h2, h3⟩ := sort_strs (x ++ [t]).eraseDups (nodup_dups _ _ (Nat.le_refl _))
  have hl : (x ++ [t]).length < 60 := by
    have := p.few
    have := hf.few
    simp
    omega
  have mem : ∀ y, y ∈ w ↔ y ∈ x ++ [t] := fun y => h1.mem_iff.trans List.mem_eraseDups
  have hsub : ∀ y ∈ w, y ∈ f := fun y hy => by
    rcases List.mem_append.mp ((mem y).mp hy) with h | h
    · exact p.sub y h
    · rw [List.mem_singleton.mp h]; exact ht
  refine ⟨w, ?_, ⟨h3, hsub, nodup_le w f (inc_nodup h3) hsub⟩, fun y hy => (mem y).mpr (List.mem_append_left _ hy)⟩
  rw [gSSet, strs_of, Option.bind_some, if_pos hl, h2]
end K03
end
section
set_option linter.all false
set_option maxRecDepth 100000
set_option maxHeartbeats 4000000
namespace K03
open PySem PD
/-! sums of two sets together -/
theorem sum_four {p r u v : List Str → Bool} : ∀ m : M2, (∀ q ∈ m, 0 < q.2) → (∀ q ∈ m, (p q.1 = true ∨ r q.1 = true → u q.1 = true ∨ v q.1 = true) ∧ (p q.1 = true → r q.1 = true → u q.1 = true ∧ v q.1 = true)) → sumOf m p + sumOf m r ≤ sumOf m u + sumOf m v
  | [], _, _ => Int.le_refl _
  | q :: m, hp, h => by
    have ih := sum_four m (fun x hx => hp x (List.mem_cons_of_mem _ hx)) fun x hx => h x (List.mem_cons_of_mem _ hx)
    have h1 := hp q (List.mem_cons_self ..)
    obtain ⟨h2, h3⟩ := h q (List.mem_cons_self ..)
    simp only [sumOf_cons]
    cases e1 : p q.1 <;> cases e2 : r q.1 <;> cases e3 : u q.1 <;> cases e4 : v q.1 <;> simp_all <;> omega
/-- all of both sets -/
structure Uni (f one two whole both : List Str) : Prop where
  w : ∀ t, t ∈ whole ↔ t ∈ one ∨ t ∈ two
  b : ∀ t, t ∈ both ↔ t ∈ one ∧ t ∈ two
section
variable {f one two whole both : List Str} {s : Int} {m : M2} (q : Mass f s m) (o : Uni f one two whole both)
include q o
theorem four_b : sumOf m (fun y => sub y one) + sumOf m (fun y => sub y two) ≤ sumOf m (fun y => sub y whole) + sumOf m fun y => sub y both := sum_four m q.pos fun z _ => by
  simp only [sub_iff]
  refine ⟨fun h => .inl fun t ht => (o.w t).mpr (h.imp (fun h => h t ht) fun h => h t ht), fun h1 h2 => ⟨fun t ht => (o.w t).mpr (.inl (h1 t ht)), fun t ht => (o.b t).mpr ⟨h1 t ht, h2 t ht⟩⟩⟩
theorem four_m : sumOf m (fun y => meet y whole) + sumOf m (fun y => meet y both) ≤ sumOf m (fun y => meet y one) + sumOf m fun y => meet y two := sum_four m q.pos fun z _ => by
  simp only [meet_iff]
  constructor
  · rintro (⟨t, h1, h2⟩ | ⟨t, h1, h2⟩)
    · exact ((o.w t).mp h2).imp (fun h => ⟨t, h1, h⟩) fun h => ⟨t, h1, h⟩
    · exact .inl ⟨t, h1, ((o.b t).mp h2).1⟩
  · rintro _ ⟨t, h1, h2⟩
    exact ⟨⟨t, h1, ((o.b t).mp h2).1⟩, ⟨t, h1, ((o.b t).mp h2).2⟩⟩
theorem four_c : sumOf m (fun y => sub whole y) ≤ sumOf m fun y => sub one y := sumOf_mono m q.pos fun z _ h => sub_iff.mpr fun t ht => sub_iff.mp h t ((o.w t).mpr (.inl ht))
theorem four_a (h1 : ∀ z ∈ m, ∃ t, z.1 = [t]) : sumOf m (fun y => sub y whole) + sumOf m (fun y => sub y both) = sumOf m (fun y => sub y one) + sumOf m fun y => sub y two := by
  refine Int.le_antisymm (sum_four m q.pos fun z hz => ?_) (four_b q o)
  obtain ⟨t, ht⟩ := h1 z hz
  rw [ht]
  simp only [sub_iff, List.mem_singleton, forall_eq]
  refine ⟨?_, fun _ h => (o.b t).mp h⟩
  rintro (h | h)
  · exact (o.w t).mp h
  · exact .inl ((o.b t).mp h).1
end
theorem same_a {m : M2} (h1 : ∀ z ∈ m, ∃ t, z.1 = [t]) (x : List Str) : sumOf m (fun y => sub y x) = sumOf m fun y => meet y x := sumOf_congr m fun z hz => by
  obtain ⟨t, ht⟩ := h1 z hz
  rw [ht]
  simp [sub, meet]
theorem sset_spec {one two : List Str} (h : one.length + two.length < 60) : ∃ w, gSSet (.tuple ((one ++ two).map .str)) = some (.list (w.map .str)) ∧ Inc w ∧ ∀ t, t ∈ w ↔ t ∈ one ∨ t ∈ two := by
  obtain ⟨w, h1, h2, h3⟩ := sort_strs (one ++ two).eraseDups (nodup_dups _ _ (Nat.le_refl _))
  refine ⟨w, ?_, h3, fun t => (h1.mem_iff.trans List.mem_eraseDups).trans List.mem_append⟩
  rw [gSSet, strs_of, Option.bind_some, if_pos (by simpa using h), h2]
/-! masses of single things -/
theorem sle_one {a b : Str} (h : slt a b = true) : sle [a] [b] = true := by
  have ne : PyData.eqv (setD [a]) (setD [b]) = false := by
    have : ¬ a = b := fun e => by rw [e, slt_irr] at h; cases h
    simp [setD, PyData.eqv, PyData.eqvAll, this]
  have al : PySem.W.alike (setD [a]) (setD [b]) = true := by simp [setD, PySem.W.alike, PySem.W.alikeAll]
  unfold sle so
  rw [PySem.W.dataLt_pair (by simp [PySem.W.alike]) al, if_pos (by simp [PyData.eqv]), if_neg (by rw [ne]; exact Bool.false_ne_true)]
  have ne2 : ¬ PyData.eqv (.str a) (.str b) = true := fun e => by
    have : a = b := by simpa [PyData.eqv] using e
    rw [this, slt_irr] at h
    cases h
  show PySem.W.dataLt (.tuple [.str a]) (.tuple [.str b]) = true
  rw [PySem.W.dataLt_tuple, PySem.W.dataLt_cons (by simp [PySem.W.alike]), if_neg ne2, PySem.W.dataLt_str]
  exact h
theorem kept_ones {f : List Str} (hi : Inc f) (hl : f.length ≤ 5) : Kept f (f.map fun t => [t]) := ⟨by
  rw [List.pairwise_map]
  exact hi.imp fun h => sle_one h, fun y hy => by
  obtain ⟨t, ht, rfl⟩ := List.mem_map.mp hy
  exact List.singleton_sublist.mpr ht, fun y hy => by
  obtain ⟨t, ht, rfl⟩ := List.mem_map.mp hy
  simp, by simp; omega⟩
theorem ones_of {f : List Str} {rows : List Int} : ∀ z ∈ (f.map fun t => [t]).zip rows, ∃ t, z.1 = [t] := fun z hz => by
  obtain ⟨t, _, ht⟩ := List.mem_map.mp (List.of_mem_zip hz).1
  exact ⟨t, ht.symm⟩
end K03
end
section
set_option linter.all false
set_option maxRecDepth 100000
set_option maxHeartbeats 4000000
namespace K03
open PySem PD
/-! things by other names -/
def nmC (c : Nat) : Str := ("n" : Str) ++ (⟨#[c]⟩ : Str)
def five : List Nat := [97, 98, 99, 100, 101]
theorem nm_five : ∀ c ∈ five, Nm (nmC c) := by
  intro c hc
  simp only [five, List.mem_cons, List.not_mem_nil, or_false] at hc
  rcases hc with rfl | rfl | rfl | rfl | rfl <;> exact ⟨by decide, by decide, by decide, by decide⟩
theorem nmC_inj {a b : Nat} (h : nmC a = nmC b) : a = b := by
  have e := congrArg (fun x : Str => x.cps.toList) h
  have e1 : ∀ c, (nmC c).cps.toList = ("n" : Str).cps.toList ++ [c] := fun c => by
    show (("n" : Str).cps ++ #[c]).toList = _
    simp
  simp only [e1] at e
  simpa using List.append_cancel_left e
def nms (n : Nat) : List Str := (five.take n).map nmC
theorem nms_nodup (n : Nat) : (nms n).Nodup := by
  unfold nms
  rw [List.Nodup, List.pairwise_map]
  have h : five.Nodup := by decide
  exact (List.Pairwise.sublist (List.take_sublist n five) h).imp fun hne e => hne (nmC_inj e)
theorem nms_nm {n : Nat} : ∀ x ∈ nms n, Nm x := fun x hx => by
  obtain ⟨c, hc, rfl⟩ := List.mem_map.mp hx
  exact nm_five c (List.mem_of_mem_take hc)
theorem nms_len {n : Nat} (h : n ≤ 5) : (nms n).length = n := by
  simp [nms, five]
  omega
def kvsOf (f imgs : List Str) : List (Str × D) := (f.zip imgs).map fun q => (q.1, .str q.2)
theorem zip_fun : ∀ (f imgs : List Str), f.Nodup → f.length = imgs.length → ∃ g : Str → Str, f.map g = imgs ∧ ∀ t ∈ f, dGet (kvsOf f imgs) t = some (.str (g t))
  | [], [], _, _ => ⟨id, rfl, fun t h => by cases h⟩
  | [], _ :: _, _, h => by simp at h
  | _ :: _, [], _, h => by simp at h
  | x :: f, y :: imgs, hn, h => by
    obtain ⟨h1, h2⟩ := List.nodup_cons.mp hn
    obtain ⟨g, g1, g2⟩ := zip_fun f imgs h2 (by simpa using h)
    refine ⟨fun t => if t = x then y else g t, ?_, fun t ht => ?_⟩
    · rw [List.map_cons, if_pos rfl]
      refine congrArg (y :: ·) (Eq.trans (List.map_congr_left fun t ht => ?_) g1)
      rw [if_neg (fun e : t = x => h1 (by rw [← e]; exact ht))]
    · show (if x = t then some (PyData.str y) else dGet (kvsOf f imgs) t) = _
      by_cases e : t = x
      · rw [if_pos e.symm]; dsimp only; rw [if_pos e]
      · rw [if_neg (fun z => e z.symm)]; dsimp only; rw [if_neg e]
        rcases List.mem_cons.mp ht with z | z
        · exact absurd z e
        · exact g2 t z
theorem inj_map {g : Str → Str} : ∀ {f : List Str}, (f.map g).Nodup → ∀ a ∈ f, ∀ b ∈ f, g a = g b → a = b
  | [], _, a, ha, _, _, _ => by cases ha
  | x :: f, h, a, ha, b, hb, e => by
    rw [List.map_cons] at h
    obtain ⟨h1, h2⟩ := List.nodup_cons.mp h
    rcases List.mem_cons.mp ha with ha | ha <;> rcases List.mem_cons.mp hb with hb | hb
    · rw [ha, hb]
    · exact absurd (List.mem_map.mpr ⟨b, hb, by rw [← e, ha]⟩) h1
    · exact absurd (List.mem_map.mpr ⟨a, ha, by rw [e, hb]⟩) h1
    · exact inj_map h2 a ha b hb e
/-- other names -/
structure Ren (f : List Str) (g : Str → Str) : Prop where
  inj : ∀ a ∈ f, ∀ b ∈ f, g a = g b → a = b
  nm : ∀ t ∈ f, Nm (g t)
def srt (xs : List Str) : List Str := xs.mergeSort (PySem.W.dataLe false PyData.str)
theorem srt_perm (xs : List Str) : (srt xs).Perm xs := List.mergeSort_perm _ _
theorem srt_sort (xs : List Str) : sortD (xs.map .str) = (srt xs).map .str := (List.map_mergeSort (f := PyData.str) fun a _ b _ => rfl).symm
theorem srt_inc {xs : List Str} (nd : xs.Nodup) : Inc (srt xs) := by
  obtain ⟨ys, h1, h2, h3⟩ := sort_strs xs nd
  have e : (srt xs).map PyData.str = ys.map .str := by rw [← srt_sort, h2]
  have : srt xs = ys := List.map_inj_right (fun a b h => by cases h; rfl) |>.mp e
  rw [this]
  exact h3
def rel (g : Str → Str) (y : List Str) : List Str := srt (y.map g)
theorem mem_rel {g : Str → Str} {y : List Str} {t : Str} : t ∈ rel g y ↔ ∃ u ∈ y, g u = t := (srt_perm _).mem_iff.trans List.mem_map
theorem rel_len {g : Str → Str} {y : List Str} : (rel g y).length = y.length := by
  rw [rel, (srt_perm _).length_eq, List.length_map]
section
variable {f : List Str} {g : Str → Str} (o : Ren f g)
include o
theorem rel_inc {y : List Str} (hi : y.Nodup) (hs : ∀ t ∈ y, t ∈ f) : Inc (rel g y) := srt_inc (by
  rw [List.Nodup, List.pairwise_map]
  exact hi.imp_of_mem fun ha hb hne e => hne (o.inj _ (hs _ ha) _ (hs _ hb) e))
theorem rel_mem {y : List Str} (hs : ∀ t ∈ y, t ∈ f) {t : Str} (ht : t ∈ f) : g t ∈ rel g y ↔ t ∈ y := by
  rw [mem_rel]
  exact ⟨fun ⟨u, hu, e⟩ => o.inj u (hs u hu) t ht e ▸ hu, fun h => ⟨t, h, rfl⟩⟩
theorem rel_sub {y x : List Str} (hy : ∀ t ∈ y, t ∈ f) (hx : ∀ t ∈ x, t ∈ f) : sub (rel g y) (rel g x) = sub y x := by
  rw [Bool.eq_iff_iff, sub_iff, sub_iff]
  refine ⟨fun h t ht => (rel_mem o hx (hy t ht)).mp (h _ (mem_rel.mpr ⟨t, ht, rfl⟩)), fun h t ht => ?_⟩
  obtain ⟨u, hu, rfl⟩ := mem_rel.mp ht
  exact mem_rel.mpr ⟨u, h u hu, rfl⟩
theorem rel_meet {y x : List Str} (hy : ∀ t ∈ y, t ∈ f) (hx : ∀ t ∈ x, t ∈ f) : meet (rel g y) (rel g x) = meet y x := by
  rw [Bool.eq_iff_iff, meet_iff, meet_iff]
  constructor
  · rintro ⟨t, h1, h2⟩
    obtain ⟨u, hu, rfl⟩ := mem_rel.mp h1
    exact ⟨u, hu, (rel_mem o hx (hy u hu)).mp h2⟩
  · rintro ⟨t, h1, h2⟩
    exact ⟨g t, mem_rel.mpr ⟨t, h1, rfl⟩, mem_rel.mpr ⟨t, h2, rfl⟩⟩
theorem rel_inj {y x : List Str} (hy : Inc y) (hx : Inc x) (hys : ∀ t ∈ y, t ∈ f) (hxs : ∀ t ∈ x, t ∈ f) (h : rel g y = rel g x) : y = x := by
  have m : ∀ t, t ∈ y ↔ t ∈ x := fun t => ⟨fun ht => (rel_mem o hxs (hys t ht)).mp (h ▸ mem_rel.mpr ⟨t, ht, rfl⟩), fun ht => (rel_mem o hys (hxs t ht)).mp (h ▸ mem_rel.mpr ⟨t, ht, rfl⟩)⟩
  have e := sort_once (inc_nodup hy) (inc_nodup hx) m
  have id1 : ∀ {z : List Str}, Inc z → z.mergeSort (PySem.W.dataLe false PyData.str) = z := fun {z} hz => List.mergeSort_of_pairwise (hz.imp fun {a b} h => by
    rw [show PySem.W.dataLe false PyData.str a b = !PySem.W.dataLt (.str b) (.str a) from rfl, PySem.W.dataLt_str, Bool.not_eq_true']
    have h1 : a.cps.toList < b.cps.toList := of_decide_eq_true h
    exact decide_eq_false fun h2 => List.lt_irrefl _ (List.lt_trans h1 h2))
  rw [id1 hy, id1 hx] at e
  exact e
theorem turned_frame (hf : Frame f) : Frame (rel g f) := ⟨rel_inc o (inc_nodup hf.inc) fun _ h => h, fun x hx => by
  obtain ⟨u, hu, rfl⟩ := mem_rel.mp hx
  exact o.nm u hu, by rw [rel_len]; exact hf.one, by rw [rel_len]; exact hf.few⟩
theorem rel_Sub {y : List Str} (p : Sub f y) : Sub (rel g f) (rel g y) := ⟨rel_inc o (inc_nodup p.inc) p.sub, fun t ht => by
  obtain ⟨u, hu, rfl⟩ := mem_rel.mp ht
  exact mem_rel.mpr ⟨u, p.sub u hu, rfl⟩, by rw [rel_len, rel_len]; exact p.few⟩
end
def trip (s : Int) (q : List Str × Int) : D := .tuple [.int q.1.length, setD q.1, frac s q.2]
theorem sle_trip {s : Int} {a b : List Str × Int} (h : sle a.1 b.1 = true) : PySem.W.dataLt (trip s a) (trip s b) = true := by
  have al : PySem.W.alike (setD a.1) (setD b.1) = true := by simp [setD, PySem.W.alike, al_strs]
  unfold sle so at h
  unfold trip
  rw [PySem.W.dataLt_tuple, PySem.W.dataLt_cons (by simp [PySem.W.alike]), PySem.W.dataLt_cons al] at h ⊢
  by_cases e1 : PyData.eqv (.int a.1.length) (.int b.1.length) = true
  · rw [if_pos e1] at h ⊢
    by_cases e2 : PyData.eqv (setD a.1) (setD b.1) = true
    · rw [if_pos e2] at h
      have : True := trivial
      rw [PyProof.Rows.lex_irrefl] at h
      cases h
    · rw [if_neg e2] at h ⊢
      exact h
  · rw [if_neg e1] at h ⊢
    exact h
theorem sle_total {a b : List Str} (hne : a ≠ b) : sle a b = true ∨ sle b a = true := by
  cases h1 : sle a b with
  | true => exact .inl rfl
  | false =>
    cases h2 : sle b a with
    | true => exact .inr rfl
    | false => exact absurd (so_inj a b (dataLt_tot h1 h2)) hne
theorem sortOk_trip (s : Int) (xs : M2) (h : xs.length < 65536) : sortOk (xs.map (trip s)) = true := by
  have z : xs.length ≤ sizeLine := szl (n := xs.length) (by omega)
  unfold sortOk
  simp only [Bool.and_eq_true]
  refine ⟨?_, ?_, ?_, ?_, ?_⟩
  · clear h z
    induction xs with
    | nil => simp [seqA]
    | cons x xs ih => simp [seqA, seqD, trip, setD, frac, seq_strs, ih]
  · rw [List.all_map, List.all_eq_true]
    intro x _
    show (List.all _ _) = true
    rw [List.all_map, List.all_eq_true]
    intro y _
    simp [trip, setD, frac, PySem.W.alike, PySem.W.alikeAll, al_strs]
  · unfold sortableB
    rw [Bool.or_eq_true]
    left
    rw [List.all_map, List.all_eq_true]
    intro x _
    rfl
  · rw [List.all_map, List.all_eq_true]
    intro x _
    have := depth_strs x.1
    simp [trip, setD, frac, PyData.depth, PyData.depthAll]
    omega
  · simpa using z
theorem sum_perm {a b : List Int} (h : a.Perm b) : a.sum = b.sum := by
  induction h with
  | nil => rfl
  | cons x _ ih => rw [List.sum_cons, List.sum_cons, ih]
  | swap x y l => simp only [List.sum_cons]; omega
  | trans _ _ h1 h2 => exact h1.trans h2
/-- the same masses by other names, in their order -/
theorem turned_mass {f : List Str} {g : Str → Str} {s : Int} {m : M2} (o : Ren f g) (hf : Frame f) (q : Mass f s m) : ∃ ys : M2, sortD ((m.map fun z => (rel g z.1, z.2)).map (trip s)) = ys.map (trip s) ∧ ys.Perm (m.map fun z => (rel g z.1, z.2)) ∧ Mass (rel g f) s ys := by
  obtain ⟨ys, h1, h2, h3⟩ := sortD_map (trip s) (m.map fun z => (rel g z.1, z.2))
  have mem : ∀ z ∈ ys, ∃ w ∈ m, z = (rel g w.1, w.2) := fun z hz => by
    obtain ⟨w, hw, e⟩ := List.mem_map.mp (h1.mem_iff.mp hz)
    exact ⟨w, hw, e.symm⟩
  have sub' : ∀ w ∈ m, Sub f w.1 := fun w hw => ⟨q.inc w hw, q.sub w hw, q.few w hw⟩
  have nd : (ys.map (·.1)).Nodup := by
    have p : (ys.map (·.1)).Perm ((m.map fun z => (rel g z.1, z.2)).map (·.1)) := h1.map _
    refine p.nodup_iff.mpr ?_
    rw [List.map_map, List.Nodup, List.pairwise_map]
    refine q.rise.imp_of_mem fun {a b} ha hb h e => ?_
    have e' := rel_inj o (q.inc a ha) (q.inc b hb) (q.sub a ha) (q.sub b hb) e
    rw [e'] at h
    unfold sle at h
    rw [dataLt_irr] at h
    cases h
  have nd' : ys.Pairwise fun a b => a.1 ≠ b.1 := List.pairwise_map.mp nd
  refine ⟨ys, h2, h1, ⟨q.ok.pos, q.ok.low, by rw [h1.length_eq, List.length_map]; exact q.ok.len, fun z hz => ?_⟩, fun z hz => ?_, fun z hz => ?_, fun z hz => ?_, fun z hz => ?_, fun z hz => ?_, ?_, ?_⟩
  · obtain ⟨w, hw, rfl⟩ := mem z hz
    show (rel g w.1).length < _
    rw [rel_len]
    exact q.ok.lens w hw
  · obtain ⟨w, hw, rfl⟩ := mem z hz
    exact q.pos w hw
  · obtain ⟨w, hw, rfl⟩ := mem z hz
    exact (rel_Sub o (sub' w hw)).inc
  · obtain ⟨w, hw, rfl⟩ := mem z hz
    exact (rel_Sub o (sub' w hw)).sub
  · obtain ⟨w, hw, rfl⟩ := mem z hz
    exact (rel_Sub o (sub' w hw)).few
  · obtain ⟨w, hw, rfl⟩ := mem z hz
    intro e
    have := congrArg List.length e
    rw [rel_len] at this
    exact q.full w hw (List.length_eq_zero_iff.mp this)
  · refine (h3.and nd').imp fun {a b} ⟨h, hne⟩ => ?_
    rcases sle_total hne with z | z
    · exact z
    · rw [sle_trip z] at h
      cases h
  · have p : (ys.map (·.2)).Perm ((m.map fun z => (rel g z.1, z.2)).map (·.2)) := h1.map _
    rw [sum_perm p, List.map_map]
    exact q.sum
theorem sumOf_perm {m n : M2} (p : List Str → Bool) (h : m.Perm n) : sumOf m p = sumOf n p := by
  unfold sumOf
  exact sum_perm ((h.filter _).map _)
theorem sumOf_map {g : Str → Str} (p : List Str → Bool) : ∀ m : M2, sumOf (m.map fun z => (rel g z.1, z.2)) p = sumOf m fun y => p (rel g y)
  | [] => rfl
  | q :: m => by
    rw [List.map_cons, sumOf_cons, sumOf_cons, sumOf_map p m]
end K03
end
section
set_option linter.all false
set_option maxRecDepth 100000
set_option maxHeartbeats 4000000
namespace K03
open PySem PD
theorem eVar_at {ρ : List Slot} {μ : List Cell} {k : Nat} {d : D} (h : ρ[k]? = some (.val d)) : eVar k ρ μ = some (d, μ) := by
  simp [eVar, h]
theorem gAdd_sets {a b : List Str} (h : a.length + b.length < 65536) : gAdd (setD a) (setD b) = some (.tuple ((a ++ b).map .str)) := by
  show gAdd (.tuple (a.map .str)) (.tuple (b.map .str)) = _
  rw [gAdd, if_pos (show (a.map PyData.str).length + (b.map PyData.str).length ≤ sizeLine from szl (by simp; omega)), List.map_append]
theorem comp_ren {ρ : List Slot} {μ : List Cell} {kvs : List (Str × D)} {g : Str → Str} {y : List Str} {k : Nat} (hk : ρ[k]? = some (.val (setD y))) (h4 : ρ[4]? = some (.own 1)) (h6 : isOwn ρ 6 = false) (hl6 : 6 < ρ.length) (hμ : μ[1]? = some (.dct kvs)) (hg : ∀ t ∈ y, dGet kvs t = some (.str (g t))) (hy : y.length < 65536) :
    mLc true (anyItems (eVar k)) [6] (gcN 6) (tTrue) (eGetD 4 (eVar 6)) ρ μ = some ((y.map g).map .str, μ) := by
  have h := lc_all (mi := anyItems (eVar k)) (vs := [6]) (g := gcN 6) (e := eGetD 4 (eVar 6)) (ρ := ρ) (μ := μ) PyData.str (fun t => .str (g t)) y (items_tup (eVar_at hk)) (by simp [noOwn, h6]) hy fun t ht => ⟨(ρ.set 6 .non).set 6 (.val (.str t)), by
    have : isOwn (wipeD ρ [6]) 6 = false := by simp [wipeD, isOwn, hl6]
    unfold gcN
    rw [this]
    rfl, by
    refine getD_of (μ1 := μ) (c := 1) (kvs := kvs) (s := t) ?_ ?_ (hg t ht)
    · exact eVar_at (by simp [hl6])
    · unfold cellD
      have e4 : ((ρ.set 6 .non).set 6 (.val (.str t)))[4]? = some (.own 1) := by simp [h4]
      rw [e4]
      dsimp only
      rw [hμ]⟩
  rw [h, List.map_map]
  rfl
theorem sort_ren {ρ : List Slot} {μ : List Cell} {kvs : List (Str × D)} {g : Str → Str} {y : List Str} {k : Nat} (hk : ρ[k]? = some (.val (setD y))) (h4 : ρ[4]? = some (.own 1)) (h6 : isOwn ρ 6 = false) (hl6 : 6 < ρ.length) (hμ : μ[1]? = some (.dct kvs)) (hg : ∀ t ∈ y, dGet kvs t = some (.str (g t))) (hy : y.length < 65536) :
    eL (gl1 gTuple) (aC (eL (gl1 gSort) (aC (eF (mLc true (anyItems (eVar k)) [6] (gcN 6) (tTrue) (eGetD 4 (eVar 6)))) (aN))) (aN)) ρ μ = some (setD (rel g y), μ) :=
  eL1_of (eL1_of (y := .list ((rel g y).map .str)) (eF_of (comp_ren hk h4 h6 hl6 hμ hg hy)) (by
    rw [gSort, if_pos (sortOk_strs _ (by simpa using hy)), srt_sort]
    rfl)) rfl
theorem names_items {ρ : List Slot} {μ : List Cell} {n : Nat} (h : eL (gl1 gLen) (aC (eVar 1) (aN)) ρ μ = some (.int n, μ)) : anyItems (eSl (eC (.str "abcde")) (pN) (pS (eL (gl1 gLen) (aC (eVar 1) (aN))))) ρ μ = some ((five.take n).map fun c => .str ⟨#[c]⟩, μ) := by
  have z : ("abcde" : Str).length ≤ sizeLine := szl (n := ("abcde" : Str).length) (by decide)
  have e : eSl (eC (.str "abcde")) (pN) (pS (eL (gl1 gLen) (aC (eVar 1) (aN)))) ρ μ = some (.str (L2.cutS "abcde" none (some (n : Int))), μ) := by
    have g : gSl (.str "abcde") none (some (n : Int)) = some (.str (L2.cutS "abcde" none (some (n : Int)))) := by rw [gSl, if_pos z]
    simp [eSl, eC, pN, pS, h, g]
  rw [items_str e, cut_str]
  rfl
theorem dput_new {done imgs : List Str} {x y : Str} (hl : imgs.length = done.length) (hx : x ∉ done) : dPut (kvsOf done imgs) x (.str y) = kvsOf (done ++ [x]) (imgs ++ [y]) := by
  have no : ((kvsOf done imgs).any fun p => decide (p.1 = x)) = false := by
    rw [List.any_eq_false]
    intro p hp
    obtain ⟨q, hq, rfl⟩ := List.mem_map.mp hp
    have := (List.of_mem_zip hq).1
    simp only [decide_eq_true_eq]
    exact fun e : q.1 = x => hx (by rw [← e]; exact this)
  unfold dPut
  rw [no, if_neg Bool.false_ne_true]
  unfold kvsOf
  rw [List.zip_append hl.symm, List.map_append]
  rfl
theorem v_cases {s : Slot} (h : isV s = true) : s = .non ∨ ∃ d, s = .val d := by
  cases s with
  | non => exact .inl rfl
  | val d => exact .inr ⟨d, rfl⟩
  | own k => cases h
  | fn G => cases h
theorem perm_at : ∀ (l : List Str) (i : Nat) (h : i < l.length), (l[i] :: l.eraseIdx i).Perm l
  | [], i, h => by simp at h
  | x :: l, 0, h => List.Perm.refl _
  | x :: l, i + 1, h => by
    have ih := perm_at l i (by simpa using h)
    show (l[i]'(by simpa using h) :: x :: l.eraseIdx i).Perm (x :: l)
    exact (List.Perm.swap x _ _).trans (List.Perm.cons x ih)
theorem map_at : ∀ (l : List Str) (i : Nat), (l.map PyData.str).eraseIdx i = (l.eraseIdx i).map .str
  | [], i => by simp
  | x :: l, 0 => rfl
  | x :: l, i + 1 => by
    have ih := map_at l i
    simp [ih]
theorem tup3_of {a b c : ME} {ρ : List Slot} {μ : List Cell} {x x' x2 : D} (ha : a ρ μ = some (x, μ)) (hb : b ρ μ = some (x', μ)) (hc : c ρ μ = some (x2, μ)) : eL gTup (aC a (aC b (aC c aN))) ρ μ = some (.tuple [x, x', x2], μ) := by
  simp [eL, aC, aN, ha, hb, hc, gTup, szl (n := 3)]
theorem wp_right {p : Cell} (hp : Pool p) {Q : D → List Cell → Prop} (k : ∀ p', Pool p' → Q (.bool true) [p']) : wp (F_law_right [.own 0] [p]) Q := by
  refine wp_body ?_
  unfold m_law_right
  refine ws_seq (ws_as (wp_callP rfl (noBo0 _ _) (wp_of (a := .int 5) (b := [p]) rfl ⟨p, rfl, ?_⟩)))
  refine wp_frame hp fun f p1 hp1 hf => ⟨p1, rfl, hp1, wp_some.mpr ?_⟩
  obtain ⟨ys, hys, oy⟩ := sets_spec hf.inc hf.few
  refine ws_seq (ws_par0 (wp_aC.mpr (wp_callP rfl (noBo0 _ _) (wp_of (a := setD f) (b := [p1]) rfl ⟨p1, rfl, ?_⟩))))
  refine wp_masses hp1 hf fun s m p2 hp2 q => ⟨p2, rfl, hp2, ?_⟩
  refine wp_aC.mpr (wp_of (a := .list (ys.map setD)) (b := [p2]) (callm1 (x := setD f) rfl hys) (wp_aN.mpr ⟨massD s m, .list (ys.map setD), rfl, ?_⟩))
  clear hp1 p1
  have few := hf.few
  have one := hf.one
  have yl := oy.few
  have y0 : 0 < ys.length := List.length_pos_of_mem oy.emp
  have subs : ∀ y ∈ ys, Sub f y := fun y hy => Sub.of hf.inc (oy.sub y hy)
  have s0 := q.ok.pos
  have s1 := q.ok.low
  have la : mLc true (anyItems (eVar 1)) [6] (gcN 6) (tTrue) (eL gTup (aC (eVar 6) (aN))) [.own 0, .val (setD f), .non, .non, .non, .non, .non, .non, .non, .non, .non, .non, .non, .val (massD s m), .val (.list (ys.map setD)), .non, .non, .non, .non, .non, .non, .non] [p2] = some ((f.map fun t => [t]).map setD, [p2]) := by
    rw [List.map_map]
    exact lc_all PyData.str (fun t => setD [t]) f (items_tup rfl) rfl (by omega) fun t ht => ⟨[.own 0, .val (setD f), .non, .non, .non, .non, .val (.str t), .non, .non, .non, .non, .non, .non, .val (massD s m), .val (.list (ys.map setD)), .non, .non, .non, .non, .non, .non, .non], rfl, by simp [eL, aC, aN, eVar, gTup, szl (n := 1), setD]⟩
  have ln : ∀ μ (ρ : List Slot), ρ[1]? = some (.val (setD f)) → eL (gl1 gLen) (aC (eVar 1) (aN)) ρ μ = some (.int f.length, μ) := fun μ ρ h => eL1_of (x := setD f) (by simp [eVar, h]) (by simp [gLen, setD])
  refine ws_seq (ws_as (wp_eL.mpr (wp_aC.mpr (wp_eF.mpr (wp_of la (wp_aC.mpr (wp_callP2 rfl (noBo0 _ _) (wp_of (ln _ _ rfl) (wp_eC.mpr ⟨p2, rfl, ?_⟩)))))))))
  refine wp_parts hp2 one (by omega) fun rows p3 hp3 hl hr hs0 hs1 => ⟨p3, rfl, hp3, wp_aN.mpr ?_⟩
  have ko := kept_ones hf.inc few
  have qa := kept_mass hf ko (by simpa using hl) hr hs0 hs1
  have oa := ones_of (f := f) (rows := rows)
  refine wp1_of (a := massD rows.sum ((f.map fun t => [t]).zip rows)) ?_ (wp_some.mpr ?_)
  · show gZip2 [.list ((f.map fun t => [t]).map setD), .list (rows.map (frac rows.sum))] = _
    rw [gZip2, if_pos (by simp [hl]; exact szl (n := f.length) (by omega)), zip_pairs]
    rfl
  generalize (f.map fun t => [t]).zip rows = am at qa oa
  generalize rows.sum = sa at qa hs0 hs1
  clear la hp2 p2 ko hl hr rows
  refine ws_seq (wp1.mono (Q := fun fl => ∃ A B C E G p', Pool p' ∧ isV A = true ∧ isV B = true ∧ isV C = true ∧ isV E = true ∧ isV G = true ∧ fl = .next [.own 0, .val (setD f), .val (massD sa am), A, .non, .non, .non, .non, .non, .non, .non, .non, .non, .val (massD s m), .val (.list (ys.map setD)), B, C, E, G, .non, .non, .non] [p']) ?_ ?_)
  · obtain ⟨ds6, h61, h62⟩ := rng_ints 6
    refine ws_for (wp_rng1.mpr (wp_aC.mpr (wp_eC.mpr (wp_aN.mpr ⟨6, rfl, by decide, ?_⟩))))
    refine ⟨fun ds ρ μ => ∃ (A B C E G : Slot) (p : Cell), Pool p ∧ isV A = true ∧ isV B = true ∧ isV C = true ∧ isV E = true ∧ isV G = true ∧ ρ = [.own 0, .val (setD f), .val (massD sa am), A, .non, .non, .non, .non, .non, .non, .non, .non, .non, .val (massD s m), .val (.list (ys.map setD)), B, C, E, G, .non, .non, .non] ∧ μ = [p], ⟨.non, .non, .non, .non, .non, p3, hp3, rfl, rfl, rfl, rfl, rfl, rfl, rfl⟩, ?_, ?_⟩
    · rintro d ds _ _ ⟨A, B, C, E, G, pc, hpc, hA, hB, hC, hE, hG, rfl, rfl⟩
      refine wp_some.mpr ?_
      refine ws_seq (ws_as (wp_eL.mpr (wp_aC.mpr (wp_callP rfl (noBo0 _ _) (wp_of (a := .list (ys.map setD)) (b := [pc]) rfl ⟨pc, rfl, ?_⟩)))))
      refine wp_pick hpc setD ys y0 (by omega) fun x1 hx1 p4 hp4 => ⟨p4, rfl, hp4, ?_⟩
      refine wp_aC.mpr (wp_callP rfl (noBo0 _ _) (wp_of (a := .list (ys.map setD)) (b := [p4]) rfl ⟨p4, rfl, ?_⟩))
      refine wp_pick hp4 setD ys y0 (by omega) fun x2 hx2 p5 hp5 => ⟨p5, rfl, hp5, ?_⟩
      refine wp_aN.mpr (wp1_of (a := .tuple [setD x1, setD x2]) (by simp [gTup, szl (n := 2)]) (wp_of (a := [.own 0, .val (setD f), .val (massD sa am), .val d, .non, .non, .non, .non, .non, .non, .non, .non, .non, .val (massD s m), .val (.list (ys.map setD)), .val (setD x1), .val (setD x2), E, G, .non, .non, .non]) (b := [p5]) rfl ?_))
      have o1 := subs x1 hx1
      have o2 := subs x2 hx2
      have l1 := o1.few
      have l2 := o2.few
      obtain ⟨w, hw, wi, wm⟩ := sset_spec (one := x1) (two := x2) (by omega)
      have ow : Sub f w := ⟨wi, fun t ht => ((wm t).mp ht).elim (o1.sub t) (o2.sub t), nodup_le w f (inc_nodup wi) fun t ht => ((wm t).mp ht).elim (o1.sub t) (o2.sub t)⟩
      have ob : Sub f (x1.filter fun t => decide (t ∈ x2)) := Sub.of hf.inc (List.filter_sublist.trans (oy.sub x1 hx1))
      have un : Uni f x1 x2 w (x1.filter fun t => decide (t ∈ x2)) := ⟨wm, fun t => by simp [List.mem_filter]⟩
      have lb : mLc true (anyItems (eVar 15)) [6] (gcN 6) (tV (e2 gIn (eVar 6) (eVar 16))) (eVar 6) [.own 0, .val (setD f), .val (massD sa am), .val d, .non, .non, .non, .non, .non, .non, .non, .non, .non, .val (massD s m), .val (.list (ys.map setD)), .val (setD x1), .val (setD x2), E, G, .non, .non, .non] [p5] = some ((x1.filter fun t => decide (t ∈ x2)).map .str, [p5]) :=
        lc_of PyData.str (fun t => decide (t ∈ x2)) _ x1 (items_tup rfl) rfl (by omega) fun t _ => ⟨[.own 0, .val (setD f), .val (massD sa am), .val d, .non, .non, .val (.str t), .non, .non, .non, .non, .non, .non, .val (massD s m), .val (.list (ys.map setD)), .val (setD x1), .val (setD x2), E, G, .non, .non, .non], rfl, by simp [tV, e2, eVar, in_set, gBool], fun _ => rfl⟩
      have e1' : eL (gl1 gTuple) (aC (e1 gSSet (e2 gAdd (eVar 15) (eVar 16))) (aN)) [.own 0, .val (setD f), .val (massD sa am), .val d, .non, .non, .non, .non, .non, .non, .non, .non, .non, .val (massD s m), .val (.list (ys.map setD)), .val (setD x1), .val (setD x2), E, G, .non, .non, .non] [p5] = some (setD w, [p5]) := by
        have a1 := e2_of (g := gAdd) (a := eVar 15) (b := eVar 16) (ρ := [.own 0, .val (setD f), .val (massD sa am), .val d, .non, .non, .non, .non, .non, .non, .non, .non, .non, .val (massD s m), .val (.list (ys.map setD)), .val (setD x1), .val (setD x2), E, G, .non, .non, .non]) (μ := [p5]) rfl rfl (gAdd_sets (a := x1) (b := x2) (by omega))
        refine eL1_of (x := .list (w.map .str)) ?_ rfl
        unfold e1
        rw [a1, Option.bind_some]
        dsimp only
        rw [hw]
        rfl
      refine ws_seq (ws_par0 (wp_aC.mpr (wp_of e1' (wp_aC.mpr (wp_of (eL1_of (y := setD (x1.filter fun t => decide (t ∈ x2))) (eF_of lb) rfl) (wp_aN.mpr ⟨_, _, rfl, ?_⟩))))))
      generalize x1.filter (fun t => decide (t ∈ x2)) = bo at ob un
      have fb := four_b q un
      have fm := four_m q un
      have fc := four_c q un
      have fa := four_a qa un oa
      have sa1 := same_a oa x1
      have z1 := lt_spec (a := sumOf m (fun y => sub y w) + sumOf m fun y => sub y bo) (b := sumOf m (fun y => sub y x1) + sumOf m fun y => sub y x2) s0 s1
      rw [decide_eq_false (by omega)] at z1
      have z2 := lt_spec (a := sumOf m (fun y => meet y x1) + sumOf m fun y => meet y x2) (b := sumOf m (fun y => meet y w) + sumOf m fun y => meet y bo) s0 s1
      rw [decide_eq_false (by omega)] at z2
      have z3 := lt_spec (a := sumOf m fun y => sub x1 y) (b := sumOf m fun y => sub w y) s0 s1
      rw [decide_eq_false (by omega)] at z3
      have z4 := same_refl 6 (frac sa (sumOf am (fun y => sub y x1) + sumOf am fun y => sub y x2)) (by simp [sameOk, frac])
      have z5 := same_refl 6 (frac sa (sumOf am fun y => meet y x1)) (by simp [sameOk, frac])
      have pa := lplus_spec (a := sumOf am fun y => sub y w) (b := sumOf am fun y => sub y bo) hs0 hs1
      rw [fa] at pa
      have ba1 := belief_spec hf qa o1
      rw [sa1] at ba1
      have hb : ∀ {x : List Str}, Sub f x → _ := fun {x} o => belief_spec hf q o
      refine ws_seq (wp1_of (sIf_f (tV_of (callm2 (callm2 (callm3 rfl rfl rfl (belief_spec hf q ow)) (callm3 rfl rfl rfl (belief_spec hf q ob)) (lplus_spec s0 s1)) (callm2 (callm3 rfl rfl rfl (belief_spec hf q o1)) (callm3 rfl rfl rfl (belief_spec hf q o2)) (lplus_spec s0 s1)) z1))) ?_)
      refine ws_seq (wp1_of (sIf_f (tV_of (callm2 (callm2 (callm3 rfl rfl rfl (may_spec hf q o1)) (callm3 rfl rfl rfl (may_spec hf q o2)) (lplus_spec s0 s1)) (callm2 (callm3 rfl rfl rfl (may_spec hf q ow)) (callm3 rfl rfl rfl (may_spec hf q ob)) (lplus_spec s0 s1)) z2))) ?_)
      refine ws_seq (wp1_of (sIf_f (tV_of (callm2 (callm3 rfl rfl rfl (common_spec hf q o1)) (callm3 rfl rfl rfl (common_spec hf q ow)) z3))) ?_)
      refine ws_seq (wp1_of (sIf_f (tNot_f (tV_of (callm2 (callm2 (callm3 rfl rfl rfl (belief_spec hf qa ow)) (callm3 rfl rfl rfl (belief_spec hf qa ob)) pa) (callm2 (callm3 rfl rfl rfl (belief_spec hf qa o1)) (callm3 rfl rfl rfl (belief_spec hf qa o2)) (lplus_spec hs0 hs1)) z4)))) ?_)
      refine wp1_of (sIf_f (tNot_f (tV_of (callm2 (callm3 rfl rfl rfl ba1) (callm3 rfl rfl rfl (may_spec hf qa o1)) z5)))) ?_
      refine ⟨_, _, _, _, _, p5, hp5, ?_, ?_, ?_, ?_, ?_, rfl, rfl⟩ <;> rfl
    · rintro _ _ ⟨A, B, C, E, G, pc, hpc, hA, hB, hC, hE, hG, rfl, rfl⟩
      exact ⟨A, B, C, E, G, pc, hpc, hA, hB, hC, hE, hG, rfl⟩
  · rintro _ ⟨A, B, C, E, G, p4, hp4, hA, hB, hC, hE, hG, rfl⟩
    refine ws_seq (ws_newD ?_)
    have ln2 : mLc true (anyItems (eSl (eC (.str "abcde")) (pN) (pS (eL (gl1 gLen) (aC (eVar 1) (aN)))))) [19] (gcN 19) (tTrue) (e2 gAdd (eC (.str "n")) (eVar 19)) [.own 0, .val (setD f), .val (massD sa am), A, .own 1, .non, .non, .non, .non, .non, .non, .non, .non, .val (massD s m), .val (.list (ys.map setD)), B, C, E, G, .non, .non, .non] [p4, .dct []] = some ((nms f.length).map .str, [p4, .dct []]) := by
      unfold nms
      rw [List.map_map]
      refine lc_all (fun c => .str ⟨#[c]⟩) (fun c => .str (nmC c)) (five.take f.length) (names_items (ln _ _ rfl)) rfl (by simp [five]; omega) fun c hc => ⟨[.own 0, .val (setD f), .val (massD sa am), A, .own 1, .non, .non, .non, .non, .non, .non, .non, .non, .val (massD s m), .val (.list (ys.map setD)), B, C, E, G, .val (.str ⟨#[c]⟩), .non, .non], rfl, e2_of (x := .str "n") (y := .str ⟨#[c]⟩) rfl rfl ?_⟩
      show gAdd (.str "n") (.str ⟨#[c]⟩) = some (.str (nmC c))
      rw [gAdd, if_pos (szl (n := ("n" : Str).length + (⟨#[c]⟩ : Str).length) (by
        have : (⟨#[c]⟩ : Str).length = 1 := rfl
        have : ("n" : Str).length = 1 := rfl
        omega))]
      rfl
    refine ws_seq (ws_new (wp_of ln2 ?_))
    have fnd := inc_nodup hf.inc
    have nl := nms_len few
    refine ws_seq (wp1.mono (Q := fun fl => ∃ imgs left E2 p', Pool p' ∧ isV E2 = true ∧ imgs.length = f.length ∧ (imgs ++ left).Perm (nms f.length) ∧ fl = .next [.own 0, .val (setD f), .val (massD sa am), A, .own 1, .own 2, E2, .non, .non, .non, .non, .non, .non, .val (massD s m), .val (.list (ys.map setD)), B, C, E, G, .non, .non, .non] [p', .dct (kvsOf f imgs), .lst (left.map .str)]) ?_ ?_)
    · refine ws_for (wp_any (wp_of (a := setD f) (b := [p4, .dct [], .lst ((nms f.length).map .str)]) rfl (wp1_of (a := f.map .str) rfl ?_)))
      refine ⟨fun ds ρ μ => ∃ (done rest imgs left : List Str) (E2 : Slot) (p : Cell), done ++ rest = f ∧ ds = rest.map .str ∧ Pool p ∧ isV E2 = true ∧ imgs.length = done.length ∧ (imgs ++ left).Perm (nms f.length) ∧ ρ = [.own 0, .val (setD f), .val (massD sa am), A, .own 1, .own 2, E2, .non, .non, .non, .non, .non, .non, .val (massD s m), .val (.list (ys.map setD)), B, C, E, G, .non, .non, .non] ∧ μ = [p, .dct (kvsOf done imgs), .lst (left.map .str)], ⟨[], f, [], nms f.length, .non, p4, rfl, rfl, hp4, rfl, rfl, List.Perm.refl _, rfl, rfl⟩, ?_, ?_⟩
      · rintro d ds _ _ ⟨done, rest, imgs, left, E2, pc, hd, hds, hpc, hE2, hil, hpm, rfl, rfl⟩
        cases rest with
        | nil => simp at hds
        | cons x rest =>
          simp only [List.map_cons, List.cons.injEq] at hds
          obtain ⟨rfl, rfl⟩ := hds
          have pl := hpm.length_eq
          have dl := congrArg List.length hd
          simp only [List.length_append, List.length_cons, nl] at pl dl
          have hx : x ∉ done := by
            have nf := fnd
            rw [← hd] at nf
            exact fun h => (List.nodup_append.mp nf).2.2 x h x (List.mem_cons_self ..) rfl
          refine wp_some.mpr (ws_putD (wp_popAt (c0 := (2, left.map .str)) rfl ?_))
          have nb : noBo (Bs [5]) [.own 0, .val (setD f), .val (massD sa am), A, .own 1, .own 2, .val (.str x), .non, .non, .non, .non, .non, .non, .val (massD s m), .val (.list (ys.map setD)), B, C, E, G, .non, .non, .non] 0 = true := by
            rcases v_cases hA with rfl | ⟨_, rfl⟩ <;> rcases v_cases hB with rfl | ⟨_, rfl⟩ <;> rcases v_cases hC with rfl | ⟨_, rfl⟩ <;> rcases v_cases hE with rfl | ⟨_, rfl⟩ <;> rcases v_cases hG with rfl | ⟨_, rfl⟩ <;> rfl
          have lo : eL (gl1 gLen) (aC (eOwn 5) (aN)) [.own 0, .val (setD f), .val (massD sa am), A, .own 1, .own 2, .val (.str x), .non, .non, .non, .non, .non, .non, .val (massD s m), .val (.list (ys.map setD)), B, C, E, G, .non, .non, .non] [pc, .dct (kvsOf done imgs), .lst (left.map .str)] = some (.int left.length, [pc, .dct (kvsOf done imgs), .lst (left.map .str)]) := eL1_of (x := .list (left.map .str)) rfl (by simp [gLen])
          refine wp_callP rfl nb (wp_of lo ⟨pc, rfl, ?_⟩)
          refine wp_below hpc (by omega) (by omega) fun r p5 hp5 r0 r1 => ⟨p5, rfl, hp5, ?_⟩
          have hr : r.toNat < left.length := by omega
          refine ⟨r, 2, left.map .str, r.toNat, .str left[r.toNat], rfl, rfl, ?_, ?_, ?_, ?_⟩
          · rw [noBo0]
            simp [okR]
            omega
          · simp [L2.ixN, r0, r1]
          · simp [List.getElem?_eq_getElem hr]
          · refine wp_of (a := .str x) (b := [p5, .dct (kvsOf done imgs), .lst ((left.map .str).eraseIdx r.toNat)]) rfl ⟨x, 1, kvsOf done imgs, rfl, rfl, ?_, ?_⟩
            · have : (kvsOf done imgs).length ≤ 5 := by
                simp [kvsOf]
                omega
              exact Nat.lt_of_lt_of_le (show _ < 65535 by omega) (szl (n := 65535) (by omega))
            · refine ⟨done ++ [x], rest, imgs ++ [left[r.toNat]], left.eraseIdx r.toNat, .val (.str x), p5, by simpa using hd, rfl, hp5, rfl, by simp [hil], ?_, ?_, ?_⟩
              · refine List.Perm.trans ?_ hpm
                rw [List.append_assoc]
                exact List.Perm.append_left imgs (perm_at left r.toNat hr)
              · have t3 : ∀ {s : Slot} {μ : List Cell}, isV s = true → truncS 3 μ s = s := fun h => tr_v h
                simp [t3 hA, t3 hB, t3 hC, t3 hE, t3 hG]
                simp [truncS]
              · rw [dput_new hil hx, map_at]
                rfl
      · rintro _ _ ⟨done, rest, imgs, left, E2, pc, hd, hds, hpc, hE2, hil, hpm, rfl, rfl⟩
        have hr : rest = [] := by
          cases rest with
          | nil => rfl
          | cons => simp at hds
        subst hr
        rw [List.append_nil] at hd
        subst hd
        exact ⟨imgs, left, E2, pc, hpc, hE2, hil, hpm, rfl⟩
    · rintro _ ⟨imgs, left, E2, p5, hp5, hE2, hil, hpm, rfl⟩
      obtain ⟨g, g1, g2⟩ := zip_fun f imgs fnd hil.symm
      have ind : imgs.Nodup := (List.nodup_append.mp (hpm.nodup_iff.mpr (nms_nodup _))).1
      have ren : Ren f g := ⟨inj_map (by rw [g1]; exact ind), fun t ht => nms_nm _ (hpm.mem_iff.mp (List.mem_append_left _ (by rw [← g1]; exact List.mem_map.mpr ⟨t, ht, rfl⟩)))⟩
      have tf := turned_frame ren hf
      obtain ⟨ms, ms1, ms2, qm⟩ := turned_mass ren hf q
      generalize kvsOf f imgs = kvs at g2
      have o6 : ∀ {a b c d e : Slot} {l : List Slot}, isOwn (a :: b :: c :: d :: .own 1 :: .own 2 :: E2 :: l) 6 = false := fun {a b c d e l} => by
        cases E2 <;> simp_all [isV, isOwn]
      refine ws_seq (ws_as (wp_of (sort_ren (k := 1) (y := f) rfl rfl (o6 (e := .non)) (by simp) rfl (fun t ht => g2 t ht) (by omega)) (wp_some.mpr ?_)))
      have lr : mLc true (anyItems (eVar 13)) [10, 20] (gT 2 (gsC (gcN 10) (gsC (gcN 20) (gsN)))) (tTrue) (eL gTup (aC (eL (gl1 gLen) (aC (eVar 10) (aN))) (aC (eL (gl1 gTuple) (aC (eL (gl1 gSort) (aC (eF (mLc true (anyItems (eVar 10)) [6] (gcN 6) (tTrue) (eGetD 4 (eVar 6)))) (aN))) (aN))) (aC (eVar 20) (aN))))) [.own 0, .val (setD f), .val (massD sa am), A, .own 1, .own 2, E2, .val (setD (rel g f)), .non, .non, .non, .non, .non, .val (massD s m), .val (.list (ys.map setD)), B, C, E, G, .non, .non, .non] [p5, .dct kvs, .lst (left.map .str)] = some ((m.map fun z => (rel g z.1, z.2)).map (trip s), [p5, .dct kvs, .lst (left.map .str)]) := by
        rw [List.map_map]
        refine lc_all (pairD s) (trip s ∘ fun z => (rel g z.1, z.2)) m (items_tup rfl) rfl q.ok.len fun z hz => ⟨[.own 0, .val (setD f), .val (massD sa am), A, .own 1, .own 2, E2, .val (setD (rel g f)), .non, .non, .val (setD z.1), .non, .non, .val (massD s m), .val (.list (ys.map setD)), B, C, E, G, .non, .val (frac s z.2), .non], rfl, ?_⟩
        have zl := q.few z hz
        have a1 : eL (gl1 gLen) (aC (eVar 10) (aN)) [.own 0, .val (setD f), .val (massD sa am), A, .own 1, .own 2, E2, .val (setD (rel g f)), .non, .non, .val (setD z.1), .non, .non, .val (massD s m), .val (.list (ys.map setD)), B, C, E, G, .non, .val (frac s z.2), .non] [p5, .dct kvs, .lst (left.map .str)] = some (.int z.1.length, [p5, .dct kvs, .lst (left.map .str)]) := eL1_of (x := setD z.1) rfl (by simp [gLen, setD])
        have a2 := sort_ren (ρ := [.own 0, .val (setD f), .val (massD sa am), A, .own 1, .own 2, E2, .val (setD (rel g f)), .non, .non, .val (setD z.1), .non, .non, .val (massD s m), .val (.list (ys.map setD)), B, C, E, G, .non, .val (frac s z.2), .non]) (μ := [p5, .dct kvs, .lst (left.map .str)]) (kvs := kvs) (g := g) (k := 10) (y := z.1) rfl rfl (o6 (e := .non)) (by simp) rfl (fun t ht => g2 t (q.sub z hz t ht)) (by omega)
        have e1 : (trip s ∘ fun z : List Str × Int => (rel g z.1, z.2)) z = .tuple [.int z.1.length, setD (rel g z.1), frac s z.2] := by
          show trip s (rel g z.1, z.2) = _
          simp [trip, rel_len]
        rw [e1]
        exact tup3_of a1 a2 rfl
      refine ws_seq (ws_as (wp_of (eL1_of (y := .list (ms.map (trip s))) (eF_of lr) (by
        rw [gSort, if_pos (sortOk_trip s _ (by rw [List.length_map]; exact q.ok.len)), ms1])) (wp_some.mpr ?_)))
      have lo : mLc true (anyItems (eVar 8)) [21, 10, 20] (gT 3 (gsC (gcN 21) (gsC (gcN 10) (gsC (gcN 20) (gsN))))) (tTrue) (eL gTup (aC (eVar 10) (aC (eVar 20) (aN)))) [.own 0, .val (setD f), .val (massD sa am), A, .own 1, .own 2, E2, .val (setD (rel g f)), .val (.list (ms.map (trip s))), .non, .non, .non, .non, .val (massD s m), .val (.list (ys.map setD)), B, C, E, G, .non, .non, .non] [p5, .dct kvs, .lst (left.map .str)] = some (ms.map (pairD s), [p5, .dct kvs, .lst (left.map .str)]) :=
        lc_all (trip s) (pairD s) ms (items_list rfl) rfl qm.ok.len fun z hz => ⟨[.own 0, .val (setD f), .val (massD sa am), A, .own 1, .own 2, E2, .val (setD (rel g f)), .val (.list (ms.map (trip s))), .non, .val (setD z.1), .non, .non, .val (massD s m), .val (.list (ys.map setD)), B, C, E, G, .non, .val (frac s z.2), .val (.int z.1.length)], rfl, tup2_of rfl rfl⟩
      refine ws_seq (ws_as (wp_of (eL1_of (y := massD s ms) (eF_of lo) rfl) (wp_some.mpr ?_)))
      refine ws_seq (ws_as (wp_callP rfl (noBo0 _ _) (wp_of (a := .list (ys.map setD)) (b := [p5, .dct kvs, .lst (left.map .str)]) rfl ⟨p5, rfl, ?_⟩)))
      refine wp_pick hp5 setD ys y0 (by omega) fun x hx p6 hp6 => ⟨p6, rfl, hp6, wp_some.mpr ?_⟩
      have px := subs x hx
      have xl := px.few
      refine ws_seq (ws_as (wp_of (sort_ren (k := 10) (y := x) rfl rfl (o6 (e := .non)) (by simp) rfl (fun t ht => g2 t (px.sub t ht)) (by omega)) (wp_some.mpr ?_)))
      have pr := rel_Sub ren px
      have b1 := belief_spec tf qm pr
      have m1 := may_spec tf qm pr
      have c1 := common_spec tf qm pr
      have eb : sumOf ms (fun y => sub y (rel g x)) = sumOf m fun y => sub y x := (sumOf_perm _ ms2).trans ((sumOf_map _ m).trans (sumOf_congr m fun z hz => rel_sub ren (q.sub z hz) px.sub))
      have em : sumOf ms (fun y => meet y (rel g x)) = sumOf m fun y => meet y x := (sumOf_perm _ ms2).trans ((sumOf_map _ m).trans (sumOf_congr m fun z hz => rel_meet ren (q.sub z hz) px.sub))
      have ec : sumOf ms (fun y => sub (rel g x) y) = sumOf m fun y => sub x y := (sumOf_perm _ ms2).trans ((sumOf_map (fun y => sub (rel g x) y) m).trans (sumOf_congr m fun z hz => rel_sub ren px.sub (q.sub z hz)))
      rw [eb] at b1
      rw [em] at m1
      rw [ec] at c1
      refine ws_seq (ws_as (wp_of (list3_of (callm3 rfl rfl rfl b1) (callm3 rfl rfl rfl m1) (callm3 rfl rfl rfl c1)) (wp_some.mpr ?_)))
      refine ws_ret0 (wp_of (callm2 rfl (list3_of (callm3 rfl rfl rfl (belief_spec hf q px)) (callm3 rfl rfl rfl (may_spec hf q px)) (callm3 rfl rfl rfl (common_spec hf q px))) (same_refl 6 (.list [frac s (sumOf m fun y => sub y x), frac s (sumOf m fun y => meet y x), frac s (sumOf m fun y => sub x y)]) (by simp [sameOk, frac]))) ?_)
      exact k p6 hp6
end K03
end
section
set_option linter.all false
set_option maxRecDepth 100000
set_option maxHeartbeats 4000000
namespace K03
open PySem PD
theorem wp_callL {F : FD} {B : Nat → Bool} {i : Nat} {ρ : List Slot} {p : Cell} {μ : List Cell} {Q : D → List Cell → Prop} (h0 : ρ[i]? = some (.own 0)) (hB : noBo B ρ 0 = true) (h : wp (F [.own 0] [p]) fun y c => ∃ p', c = [p'] ∧ Pool p' ∧ Q y (p' :: μ)) : wp (eCall 1 F (rL B i rN) ρ (p :: μ)) Q := by
  obtain ⟨y, c, hF, p', rfl, hp, q⟩ := h
  exact ⟨y, _, by simp [eCall, rL, h0, hB, rN, lentOf, slotsOf, cellsOf, nodupB, flatCs, setCells, hF, pool_flat hp], q⟩
theorem law_spec (ns : List Int) (_ : ns.length ≤ 63) : F_law [.val (.list (ns.map .int))] [] = some (.bool true, []) := by
  suffices h : wp (F_law [.val (.list (ns.map .int))] []) fun d μ => d = .bool true ∧ μ = [] by
    obtain ⟨d, m, e, rfl, rfl⟩ := h
    exact e
  refine wp_body ?_
  unfold m_law
  have hj : ∃ j : Nat, 1 ≤ j ∧ j ≤ 3 ∧ eL (gl2 gMax2) (aC (eC (.int 1)) (aC (eL (gl2 gMin2) (aC (eL (gl1 gLen) (aC (eVar 0) (aN))) (aC (eC (.int 3)) (aN)))) (aN))) [.val (.list (ns.map .int)), .non, .non, .non] [] = some (.int j, []) := by
    refine ⟨(max 1 (min ns.length 3)), by omega, by omega, ?_⟩
    have e : (if (1 : Int) < (if (3 : Int) < (ns.length : Int) then 3 else (ns.length : Int)) then (if (3 : Int) < (ns.length : Int) then 3 else (ns.length : Int)) else 1) = ((max 1 (min ns.length 3) : Nat) : Int) := by
      split <;> split <;> omega
    simp [eL, aC, aN, eC, gl1, gl2, gLen, eVar, gMin2, gMax2]
    first | exact e | omega
  obtain ⟨j, j1, j3, ej⟩ := hj
  refine ws_seq (ws_for (wp_rng1.mpr (wp_aC.mpr (wp_of ej (wp_aN.mpr ⟨(j : Int), rfl, by simp [okR]; omega, ?_⟩)))))
  refine ⟨fun ds ρ μ => ∃ (is : List Nat) (A B : Slot), ds = (is.map fun i : Nat => .int (0 + (i : Int))) ∧ isV A = true ∧ isV B = true ∧ ρ = [.val (.list (ns.map .int)), A, B, .non] ∧ μ = [], ⟨List.range j, .non, .non, rfl, rfl, rfl, rfl, rfl⟩, ?_, ?_⟩
  · rintro d ds _ _ ⟨is, A, B, hd, hA, hB, rfl, rfl⟩
    cases is with
    | nil => simp at hd
    | cons i is =>
      simp only [List.map_cons, List.cons.injEq] at hd
      obtain ⟨rfl, rfl⟩ := hd
      refine wp_some.mpr ?_
      obtain ⟨pl, hpl, hp⟩ := pool_spec ns (0 + (i : Int)) (by omega)
      refine ws_seq (ws_new (wp_of (a := pl) (b := []) (by rw [Int.zero_add] at hpl; simp [mCallF, aC, aN, eVar, hpl]) ?_))
      refine ws_if (wp_tNot.mpr (wp_tV.mpr (wp_eL.mpr (wp_aC.mpr (wp_eF.mpr (wp_mLc (wp_rng1.mpr (wp_aC.mpr (wp_eC.mpr (wp_aN.mpr ⟨3, rfl, by decide, rfl, rfl, ?_, ?_⟩))))))))))
      · simp [rngD, szl (n := 3)]
      obtain ⟨ds3, h41, h42⟩ := rng_ints 3
      rw [show (3 : Int).toNat = 3 from rfl, h42]
      refine (wp_lcN (fun μ => ∃ p, Pool p ∧ μ = [p]) PyData.int (fun _ : Unit => PyData.bool true) (fun _ => True) ds3 [.lst pl] ⟨_, hp, rfl⟩ ?_).mono ?_
      · rintro x hx _ ⟨p, hp, rfl⟩
        refine wp_of (a := [.val (.list (ns.map .int)), .val (.int (0 + (i : Int))), .own 0, .val (.int x)]) (b := [p]) rfl ?_
        exact wp_callL rfl (noBo0 _ _) (wp_right hp fun p' hp' => ⟨p', rfl, hp', ⟨p', hp', rfl⟩, (), rfl, trivial⟩)
      · rintro _ _ ⟨⟨p1, hp1, rfl⟩, us, hu, rfl, _⟩
        refine wp_aN.mpr ?_
        have ga : gl1 gAll [.list (us.map fun _ : Unit => .bool true)] = some (.bool true) := by
          rw [gl1, gAll, bools_map]
          simp
        refine wp1_test (b := true) ga ⟨fun h => (by cases h), fun _ => ws_nil ⟨is, _, _, rfl, ?_, ?_, rfl, rfl⟩⟩
        · rfl
        · obtain ⟨a, b, c, rfl, _⟩ := hp1
          rfl
  · rintro _ _ ⟨is, A, B, hd, hA, hB, rfl, rfl⟩
    exact ws_ret0 (wp_eC.mpr ⟨rfl, rfl⟩)
end K03
end
section
open PySem PySem.Spec PyProof.Rows L2 PD LamX
namespace K03
def fnL : List He.DefD := [⟨("is_whole", none), "is_whole", "is_whole", defArgs s_is_whole, defBody s_is_whole, defScope s_is_whole, [], []⟩, ⟨("is_one_of", none), "is_one_of", "is_one_of", defArgs s_is_one_of, defBody s_is_one_of, defScope s_is_one_of, [], []⟩, ⟨("is_word", none), "is_word", "is_word", defArgs s_is_word, defBody s_is_word, defScope s_is_word, [], []⟩, ⟨("is_name", none), "is_name", "is_name", defArgs s_is_name, defBody s_is_name, defScope s_is_name, [], []⟩, ⟨("is_tuple_of", none), "is_tuple_of", "is_tuple_of", defArgs s_is_tuple_of, defBody s_is_tuple_of, defScope s_is_tuple_of, [], []⟩, ⟨("is_pair", none), "is_pair", "is_pair", defArgs s_is_pair, defBody s_is_pair, defScope s_is_pair, [], []⟩, ⟨("wrong_in", none), "wrong_in", "wrong_in", defArgs s_wrong_in, defBody s_wrong_in, defScope s_wrong_in, [], []⟩, ⟨("are_below", none), "are_below", "are_below", defArgs s_are_below, defBody s_are_below, defScope s_are_below, [], []⟩, ⟨("is_set_of_names", none), "is_set_of_names", "is_set_of_names", defArgs s_is_set_of_names, defBody s_is_set_of_names, defScope s_is_set_of_names, [], []⟩, ⟨("lowest", none), "lowest", "lowest", defArgs s_lowest, defBody s_lowest, defScope s_lowest, [], []⟩, ⟨("is_fraction", none), "is_fraction", "is_fraction", defArgs s_is_fraction, defBody s_is_fraction, defScope s_is_fraction, [], []⟩, ⟨("plus", none), "plus", "plus", defArgs s_plus, defBody s_plus, defScope s_plus, [], []⟩, ⟨("total", none), "total", "total", defArgs s_total, defBody s_total, defScope s_total, [], []⟩, ⟨("set_order", none), "set_order", "set_order", defArgs s_set_order, defBody s_set_order, defScope s_set_order, [], []⟩, ⟨("is_within", none), "is_within", "is_within", defArgs s_is_within, defBody s_is_within, defScope s_is_within, [], []⟩, ⟨("has_common", none), "has_common", "has_common", defArgs s_has_common, defBody s_has_common, defScope s_has_common, [], []⟩, ⟨("wrong_in_frame", none), "wrong_in_frame", "wrong_in_frame", defArgs s_wrong_in_frame, defBody s_wrong_in_frame, defScope s_wrong_in_frame, [], []⟩, ⟨("is_mass", none), "is_mass", "is_mass", defArgs s_is_mass, defBody s_is_mass, defScope s_is_mass, [], []⟩, ⟨("wrong_in_masses", none), "wrong_in_masses", "wrong_in_masses", defArgs s_wrong_in_masses, defBody s_wrong_in_masses, defScope s_wrong_in_masses, [], []⟩, ⟨("belief_by", none), "belief_by", "belief_by", defArgs s_belief_by, defBody s_belief_by, defScope s_belief_by, [], []⟩, ⟨("may_by", none), "may_by", "may_by", defArgs s_may_by, defBody s_may_by, defScope s_may_by, [], []⟩, ⟨("common_by", none), "common_by", "common_by", defArgs s_common_by, defBody s_common_by, defScope s_common_by, [], []⟩, ⟨("check_frame", none), "check_frame", "check_frame", defArgs s_check_frame, defBody s_check_frame, defScope s_check_frame, [], []⟩, ⟨("check_masses", none), "check_masses", "check_masses", defArgs s_check_masses, defBody s_check_masses, defScope s_check_masses, [], []⟩, ⟨("check_some", none), "check_some", "check_some", defArgs s_check_some, defBody s_check_some, defScope s_check_some, [], []⟩, ⟨("check_weighing", none), "check_weighing", "check_weighing", defArgs s_check_weighing, defBody s_check_weighing, defScope s_check_weighing, [], []⟩, ⟨("belief", none), "belief", "belief", defArgs s_belief, defBody s_belief, defScope s_belief, [], []⟩, ⟨("may_have", none), "may_have", "may_have", defArgs s_may_have, defBody s_may_have, defScope s_may_have, [], []⟩, ⟨("common", none), "common", "common", defArgs s_common, defBody s_common, defScope s_common, [], []⟩, ⟨("_law_pool", none), "_law_pool", "_law_pool", defArgs s_law_pool, defBody s_law_pool, defScope s_law_pool, [], []⟩, ⟨("_law_below", none), "_law_below", "_law_below", defArgs s_law_below, defBody s_law_below, defScope s_law_below, [], []⟩, ⟨("_law_one", none), "_law_one", "_law_one", defArgs s_law_one, defBody s_law_one, defScope s_law_one, [], []⟩, ⟨("_law_same", none), "_law_same", "_law_same", defArgs s_law_same, defBody s_law_same, defScope s_law_same, [], []⟩, ⟨("_law_fr", none), "_law_fr", "_law_fr", defArgs s_law_fr, defBody s_law_fr, defScope s_law_fr, [], []⟩, ⟨("_law_plus", none), "_law_plus", "_law_plus", defArgs s_law_plus, defBody s_law_plus, defScope s_law_plus, [], []⟩, ⟨("_law_is_less", none), "_law_is_less", "_law_is_less", defArgs s_law_is_less, defBody s_law_is_less, defScope s_law_is_less, [], []⟩, ⟨("_law_words", none), "_law_words", "_law_words", defArgs s_law_words, defBody s_law_words, defScope s_law_words, [], []⟩, ⟨("_law_name", none), "_law_name", "_law_name", defArgs s_law_name, defBody s_law_name, defScope s_law_name, [], []⟩, ⟨("_law_frame", none), "_law_frame", "_law_frame", defArgs s_law_frame, defBody s_law_frame, defScope s_law_frame, [], []⟩, ⟨("_law_sets", none), "_law_sets", "_law_sets", defArgs s_law_sets, defBody s_law_sets, defScope s_law_sets, [], []⟩, ⟨("_law_parts_of", none), "_law_parts_of", "_law_parts_of", defArgs s_law_parts_of, defBody s_law_parts_of, defScope s_law_parts_of, [], []⟩, ⟨("_law_masses", none), "_law_masses", "_law_masses", defArgs s_law_masses, defBody s_law_masses, defScope s_law_masses, [], []⟩, ⟨("_law_right", none), "_law_right", "_law_right", defArgs s_law_right, defBody s_law_right, defScope s_law_right, [], []⟩, ⟨("law", none), "law", "law", defArgs s_law, defBody s_law, defScope s_law, [], []⟩]
def faL : List He.Fa := [.free "abs", .free "all", .free "any", .free "bool", .free "divmod", .free "enumerate", .free "int", .free "isinstance", .free "len", .free "list", .free "max", .free "min", .free "range", .free "set", .free "sorted", .free "str", .free "sum", .free "tuple", .free "zip", .glo "is_whole", .glo "is_one_of", .glo "is_word", .glo "is_name", .glo "is_tuple_of", .glo "is_pair", .glo "wrong_in", .glo "are_below", .glo "is_set_of_names", .glo "lowest", .glo "is_fraction", .glo "plus", .glo "total", .glo "set_order", .glo "is_within", .glo "has_common", .glo "wrong_in_frame", .glo "is_mass", .glo "wrong_in_masses", .glo "belief_by", .glo "may_by", .glo "common_by", .glo "check_frame", .glo "check_masses", .glo "check_some", .glo "check_weighing", .glo "belief", .glo "may_have", .glo "common", .glo "_law_pool", .glo "_law_below", .glo "_law_one", .glo "_law_same", .glo "_law_fr", .glo "_law_plus", .glo "_law_is_less", .glo "_law_words", .glo "_law_name", .glo "_law_frame", .glo "_law_sets", .glo "_law_parts_of", .glo "_law_masses", .glo "_law_right", .glo "law"]
def tfL : List He.Defn := [("is_set_of_names", none), ("wrong_in_frame", none), ("wrong_in_masses", none)]
def exL (K : PySem.W.Frag) : List Bool := [cstB K "LETTERS" c_LETTERS, cstB K "MOST_LETTERS" c_MOST_LETTERS, cstB K "MOST_THINGS" c_MOST_THINGS, cstB K "NOTHING" c_NOTHING, cstB K "WHOLE" c_WHOLE, cstB K "WORDS" c_WORDS, cdB K "is_set_of_names", cdB K "wrong_in_frame", cdB K "wrong_in_masses", tuB (TT K), noLists K, bltB K "gcd" "math.gcd"]
def exB (K : PySem.W.Frag) : Bool := (exL K).all id
theorem gs_of {w : World} {h base : Heap} {K : PySem.W.Frag} {mg : Str → Option Value} (c : He.SaysX faL fnL [] tfL exB w h K) (X : K.In base) (G : base.Ns mainGlobals mg) (tb : ∀ p ∈ tfL.map (He.cT K), TabB base mg p.1 p.2) : Gs K mg base where
  f_abs := He.free_ok X G (c.t.d.fact 0 (f := .free "abs") rfl)
  f_all := He.free_ok X G (c.t.d.fact 1 (f := .free "all") rfl)
  f_any := He.free_ok X G (c.t.d.fact 2 (f := .free "any") rfl)
  f_bool := He.free_ok X G (c.t.d.fact 3 (f := .free "bool") rfl)
  f_divmod := He.free_ok X G (c.t.d.fact 4 (f := .free "divmod") rfl)
  f_enumerate := He.free_ok X G (c.t.d.fact 5 (f := .free "enumerate") rfl)
  f_int := He.free_ok X G (c.t.d.fact 6 (f := .free "int") rfl)
  f_isinstance := He.free_ok X G (c.t.d.fact 7 (f := .free "isinstance") rfl)
  f_len := He.free_ok X G (c.t.d.fact 8 (f := .free "len") rfl)
  f_list := He.free_ok X G (c.t.d.fact 9 (f := .free "list") rfl)
  f_max := He.free_ok X G (c.t.d.fact 10 (f := .free "max") rfl)
  f_min := He.free_ok X G (c.t.d.fact 11 (f := .free "min") rfl)
  f_range := He.free_ok X G (c.t.d.fact 12 (f := .free "range") rfl)
  f_set := He.free_ok X G (c.t.d.fact 13 (f := .free "set") rfl)
  f_sorted := He.free_ok X G (c.t.d.fact 14 (f := .free "sorted") rfl)
  f_str := He.free_ok X G (c.t.d.fact 15 (f := .free "str") rfl)
  f_sum := He.free_ok X G (c.t.d.fact 16 (f := .free "sum") rfl)
  f_tuple := He.free_ok X G (c.t.d.fact 17 (f := .free "tuple") rfl)
  f_zip := He.free_ok X G (c.t.d.fact 18 (f := .free "zip") rfl)
  g_is_whole := He.glo_ok X G (c.t.d.fact 19 (f := .glo "is_whole") rfl)
  g_is_one_of := He.glo_ok X G (c.t.d.fact 20 (f := .glo "is_one_of") rfl)
  g_is_word := He.glo_ok X G (c.t.d.fact 21 (f := .glo "is_word") rfl)
  g_is_name := He.glo_ok X G (c.t.d.fact 22 (f := .glo "is_name") rfl)
  g_is_tuple_of := He.glo_ok X G (c.t.d.fact 23 (f := .glo "is_tuple_of") rfl)
  g_is_pair := He.glo_ok X G (c.t.d.fact 24 (f := .glo "is_pair") rfl)
  g_wrong_in := He.glo_ok X G (c.t.d.fact 25 (f := .glo "wrong_in") rfl)
  g_are_below := He.glo_ok X G (c.t.d.fact 26 (f := .glo "are_below") rfl)
  g_is_set_of_names := He.glo_ok X G (c.t.d.fact 27 (f := .glo "is_set_of_names") rfl)
  g_lowest := He.glo_ok X G (c.t.d.fact 28 (f := .glo "lowest") rfl)
  g_is_fraction := He.glo_ok X G (c.t.d.fact 29 (f := .glo "is_fraction") rfl)
  g_plus := He.glo_ok X G (c.t.d.fact 30 (f := .glo "plus") rfl)
  g_total := He.glo_ok X G (c.t.d.fact 31 (f := .glo "total") rfl)
  g_set_order := He.glo_ok X G (c.t.d.fact 32 (f := .glo "set_order") rfl)
  g_is_within := He.glo_ok X G (c.t.d.fact 33 (f := .glo "is_within") rfl)
  g_has_common := He.glo_ok X G (c.t.d.fact 34 (f := .glo "has_common") rfl)
  g_wrong_in_frame := He.glo_ok X G (c.t.d.fact 35 (f := .glo "wrong_in_frame") rfl)
  g_is_mass := He.glo_ok X G (c.t.d.fact 36 (f := .glo "is_mass") rfl)
  g_wrong_in_masses := He.glo_ok X G (c.t.d.fact 37 (f := .glo "wrong_in_masses") rfl)
  g_belief_by := He.glo_ok X G (c.t.d.fact 38 (f := .glo "belief_by") rfl)
  g_may_by := He.glo_ok X G (c.t.d.fact 39 (f := .glo "may_by") rfl)
  g_common_by := He.glo_ok X G (c.t.d.fact 40 (f := .glo "common_by") rfl)
  g_check_frame := He.glo_ok X G (c.t.d.fact 41 (f := .glo "check_frame") rfl)
  g_check_masses := He.glo_ok X G (c.t.d.fact 42 (f := .glo "check_masses") rfl)
  g_check_some := He.glo_ok X G (c.t.d.fact 43 (f := .glo "check_some") rfl)
  g_check_weighing := He.glo_ok X G (c.t.d.fact 44 (f := .glo "check_weighing") rfl)
  g_belief := He.glo_ok X G (c.t.d.fact 45 (f := .glo "belief") rfl)
  g_may_have := He.glo_ok X G (c.t.d.fact 46 (f := .glo "may_have") rfl)
  g_common := He.glo_ok X G (c.t.d.fact 47 (f := .glo "common") rfl)
  g_law_pool := He.glo_ok X G (c.t.d.fact 48 (f := .glo "_law_pool") rfl)
  g_law_below := He.glo_ok X G (c.t.d.fact 49 (f := .glo "_law_below") rfl)
  g_law_one := He.glo_ok X G (c.t.d.fact 50 (f := .glo "_law_one") rfl)
  g_law_same := He.glo_ok X G (c.t.d.fact 51 (f := .glo "_law_same") rfl)
  g_law_fr := He.glo_ok X G (c.t.d.fact 52 (f := .glo "_law_fr") rfl)
  g_law_plus := He.glo_ok X G (c.t.d.fact 53 (f := .glo "_law_plus") rfl)
  g_law_is_less := He.glo_ok X G (c.t.d.fact 54 (f := .glo "_law_is_less") rfl)
  g_law_words := He.glo_ok X G (c.t.d.fact 55 (f := .glo "_law_words") rfl)
  g_law_name := He.glo_ok X G (c.t.d.fact 56 (f := .glo "_law_name") rfl)
  g_law_frame := He.glo_ok X G (c.t.d.fact 57 (f := .glo "_law_frame") rfl)
  g_law_sets := He.glo_ok X G (c.t.d.fact 58 (f := .glo "_law_sets") rfl)
  g_law_parts_of := He.glo_ok X G (c.t.d.fact 59 (f := .glo "_law_parts_of") rfl)
  g_law_masses := He.glo_ok X G (c.t.d.fact 60 (f := .glo "_law_masses") rfl)
  g_law_right := He.glo_ok X G (c.t.d.fact 61 (f := .glo "_law_right") rfl)
  g_law := He.glo_ok X G (c.t.d.fact 62 (f := .glo "law") rfl)
  d_is_whole := c.t.d.def_ 0 (d := ⟨("is_whole", none), "is_whole", "is_whole", defArgs s_is_whole, defBody s_is_whole, defScope s_is_whole, [], []⟩) rfl
  d_is_one_of := c.t.d.def_ 1 (d := ⟨("is_one_of", none), "is_one_of", "is_one_of", defArgs s_is_one_of, defBody s_is_one_of, defScope s_is_one_of, [], []⟩) rfl
  d_is_word := c.t.d.def_ 2 (d := ⟨("is_word", none), "is_word", "is_word", defArgs s_is_word, defBody s_is_word, defScope s_is_word, [], []⟩) rfl
  d_is_name := c.t.d.def_ 3 (d := ⟨("is_name", none), "is_name", "is_name", defArgs s_is_name, defBody s_is_name, defScope s_is_name, [], []⟩) rfl
  d_is_tuple_of := c.t.d.def_ 4 (d := ⟨("is_tuple_of", none), "is_tuple_of", "is_tuple_of", defArgs s_is_tuple_of, defBody s_is_tuple_of, defScope s_is_tuple_of, [], []⟩) rfl
  d_is_pair := c.t.d.def_ 5 (d := ⟨("is_pair", none), "is_pair", "is_pair", defArgs s_is_pair, defBody s_is_pair, defScope s_is_pair, [], []⟩) rfl
  d_wrong_in := c.t.d.def_ 6 (d := ⟨("wrong_in", none), "wrong_in", "wrong_in", defArgs s_wrong_in, defBody s_wrong_in, defScope s_wrong_in, [], []⟩) rfl
  d_are_below := c.t.d.def_ 7 (d := ⟨("are_below", none), "are_below", "are_below", defArgs s_are_below, defBody s_are_below, defScope s_are_below, [], []⟩) rfl
  d_is_set_of_names := c.t.d.def_ 8 (d := ⟨("is_set_of_names", none), "is_set_of_names", "is_set_of_names", defArgs s_is_set_of_names, defBody s_is_set_of_names, defScope s_is_set_of_names, [], []⟩) rfl
  d_lowest := c.t.d.def_ 9 (d := ⟨("lowest", none), "lowest", "lowest", defArgs s_lowest, defBody s_lowest, defScope s_lowest, [], []⟩) rfl
  d_is_fraction := c.t.d.def_ 10 (d := ⟨("is_fraction", none), "is_fraction", "is_fraction", defArgs s_is_fraction, defBody s_is_fraction, defScope s_is_fraction, [], []⟩) rfl
  d_plus := c.t.d.def_ 11 (d := ⟨("plus", none), "plus", "plus", defArgs s_plus, defBody s_plus, defScope s_plus, [], []⟩) rfl
  d_total := c.t.d.def_ 12 (d := ⟨("total", none), "total", "total", defArgs s_total, defBody s_total, defScope s_total, [], []⟩) rfl
  d_set_order := c.t.d.def_ 13 (d := ⟨("set_order", none), "set_order", "set_order", defArgs s_set_order, defBody s_set_order, defScope s_set_order, [], []⟩) rfl
  d_is_within := c.t.d.def_ 14 (d := ⟨("is_within", none), "is_within", "is_within", defArgs s_is_within, defBody s_is_within, defScope s_is_within, [], []⟩) rfl
  d_has_common := c.t.d.def_ 15 (d := ⟨("has_common", none), "has_common", "has_common", defArgs s_has_common, defBody s_has_common, defScope s_has_common, [], []⟩) rfl
  d_wrong_in_frame := c.t.d.def_ 16 (d := ⟨("wrong_in_frame", none), "wrong_in_frame", "wrong_in_frame", defArgs s_wrong_in_frame, defBody s_wrong_in_frame, defScope s_wrong_in_frame, [], []⟩) rfl
  d_is_mass := c.t.d.def_ 17 (d := ⟨("is_mass", none), "is_mass", "is_mass", defArgs s_is_mass, defBody s_is_mass, defScope s_is_mass, [], []⟩) rfl
  d_wrong_in_masses := c.t.d.def_ 18 (d := ⟨("wrong_in_masses", none), "wrong_in_masses", "wrong_in_masses", defArgs s_wrong_in_masses, defBody s_wrong_in_masses, defScope s_wrong_in_masses, [], []⟩) rfl
  d_belief_by := c.t.d.def_ 19 (d := ⟨("belief_by", none), "belief_by", "belief_by", defArgs s_belief_by, defBody s_belief_by, defScope s_belief_by, [], []⟩) rfl
  d_may_by := c.t.d.def_ 20 (d := ⟨("may_by", none), "may_by", "may_by", defArgs s_may_by, defBody s_may_by, defScope s_may_by, [], []⟩) rfl
  d_common_by := c.t.d.def_ 21 (d := ⟨("common_by", none), "common_by", "common_by", defArgs s_common_by, defBody s_common_by, defScope s_common_by, [], []⟩) rfl
  d_check_frame := c.t.d.def_ 22 (d := ⟨("check_frame", none), "check_frame", "check_frame", defArgs s_check_frame, defBody s_check_frame, defScope s_check_frame, [], []⟩) rfl
  d_check_masses := c.t.d.def_ 23 (d := ⟨("check_masses", none), "check_masses", "check_masses", defArgs s_check_masses, defBody s_check_masses, defScope s_check_masses, [], []⟩) rfl
  d_check_some := c.t.d.def_ 24 (d := ⟨("check_some", none), "check_some", "check_some", defArgs s_check_some, defBody s_check_some, defScope s_check_some, [], []⟩) rfl
  d_check_weighing := c.t.d.def_ 25 (d := ⟨("check_weighing", none), "check_weighing", "check_weighing", defArgs s_check_weighing, defBody s_check_weighing, defScope s_check_weighing, [], []⟩) rfl
  d_belief := c.t.d.def_ 26 (d := ⟨("belief", none), "belief", "belief", defArgs s_belief, defBody s_belief, defScope s_belief, [], []⟩) rfl
  d_may_have := c.t.d.def_ 27 (d := ⟨("may_have", none), "may_have", "may_have", defArgs s_may_have, defBody s_may_have, defScope s_may_have, [], []⟩) rfl
  d_common := c.t.d.def_ 28 (d := ⟨("common", none), "common", "common", defArgs s_common, defBody s_common, defScope s_common, [], []⟩) rfl
  d_law_pool := c.t.d.def_ 29 (d := ⟨("_law_pool", none), "_law_pool", "_law_pool", defArgs s_law_pool, defBody s_law_pool, defScope s_law_pool, [], []⟩) rfl
  d_law_below := c.t.d.def_ 30 (d := ⟨("_law_below", none), "_law_below", "_law_below", defArgs s_law_below, defBody s_law_below, defScope s_law_below, [], []⟩) rfl
  d_law_one := c.t.d.def_ 31 (d := ⟨("_law_one", none), "_law_one", "_law_one", defArgs s_law_one, defBody s_law_one, defScope s_law_one, [], []⟩) rfl
  d_law_same := c.t.d.def_ 32 (d := ⟨("_law_same", none), "_law_same", "_law_same", defArgs s_law_same, defBody s_law_same, defScope s_law_same, [], []⟩) rfl
  d_law_fr := c.t.d.def_ 33 (d := ⟨("_law_fr", none), "_law_fr", "_law_fr", defArgs s_law_fr, defBody s_law_fr, defScope s_law_fr, [], []⟩) rfl
  d_law_plus := c.t.d.def_ 34 (d := ⟨("_law_plus", none), "_law_plus", "_law_plus", defArgs s_law_plus, defBody s_law_plus, defScope s_law_plus, [], []⟩) rfl
  d_law_is_less := c.t.d.def_ 35 (d := ⟨("_law_is_less", none), "_law_is_less", "_law_is_less", defArgs s_law_is_less, defBody s_law_is_less, defScope s_law_is_less, [], []⟩) rfl
  d_law_words := c.t.d.def_ 36 (d := ⟨("_law_words", none), "_law_words", "_law_words", defArgs s_law_words, defBody s_law_words, defScope s_law_words, [], []⟩) rfl
  d_law_name := c.t.d.def_ 37 (d := ⟨("_law_name", none), "_law_name", "_law_name", defArgs s_law_name, defBody s_law_name, defScope s_law_name, [], []⟩) rfl
  d_law_frame := c.t.d.def_ 38 (d := ⟨("_law_frame", none), "_law_frame", "_law_frame", defArgs s_law_frame, defBody s_law_frame, defScope s_law_frame, [], []⟩) rfl
  d_law_sets := c.t.d.def_ 39 (d := ⟨("_law_sets", none), "_law_sets", "_law_sets", defArgs s_law_sets, defBody s_law_sets, defScope s_law_sets, [], []⟩) rfl
  d_law_parts_of := c.t.d.def_ 40 (d := ⟨("_law_parts_of", none), "_law_parts_of", "_law_parts_of", defArgs s_law_parts_of, defBody s_law_parts_of, defScope s_law_parts_of, [], []⟩) rfl
  d_law_masses := c.t.d.def_ 41 (d := ⟨("_law_masses", none), "_law_masses", "_law_masses", defArgs s_law_masses, defBody s_law_masses, defScope s_law_masses, [], []⟩) rfl
  d_law_right := c.t.d.def_ 42 (d := ⟨("_law_right", none), "_law_right", "_law_right", defArgs s_law_right, defBody s_law_right, defScope s_law_right, [], []⟩) rfl
  d_law := c.t.d.def_ 43 (d := ⟨("law", none), "law", "law", defArgs s_law, defBody s_law, defScope s_law, [], []⟩) rfl
  k_LETTERS := cst_ok X G (ex_get (l := exL K) c.more 0)
  k_MOST_LETTERS := cst_ok X G (ex_get (l := exL K) c.more 1)
  k_MOST_THINGS := cst_ok X G (ex_get (l := exL K) c.more 2)
  k_NOTHING := cst_ok X G (ex_get (l := exL K) c.more 3)
  k_WHOLE := cst_ok X G (ex_get (l := exL K) c.more 4)
  k_WORDS := cst_ok X G (ex_get (l := exL K) c.more 5)
  c_is_set_of_names := cd_ok (ex_get (l := exL K) c.more 6)
  t_is_set_of_names := tb _ (List.mem_map.mpr ⟨("is_set_of_names", none), (.head _), rfl⟩)
  m_is_set_of_names := (.head _)
  c_wrong_in_frame := cd_ok (ex_get (l := exL K) c.more 7)
  t_wrong_in_frame := tb _ (List.mem_map.mpr ⟨("wrong_in_frame", none), (.tail _ (.head _)), rfl⟩)
  m_wrong_in_frame := (.tail _ (.head _))
  c_wrong_in_masses := cd_ok (ex_get (l := exL K) c.more 8)
  t_wrong_in_masses := tb _ (List.mem_map.mpr ⟨("wrong_in_masses", none), (.tail _ (.tail _ (.head _))), rfl⟩)
  m_wrong_in_masses := (.tail _ (.tail _ (.head _)))
  u := tu_ok (ex_get (l := exL K) c.more 9)
  h_gcd := blt_ok X G (ex_get (l := exL K) c.more 11)
def loose0 : List Str := [("HeardError" : Str), ("InvalidSet" : Str), ("InvalidFrame" : Str), ("InvalidMasses" : Str), ("LETTERS" : Str), ("MOST_LETTERS" : Str), ("WORDS" : Str), ("is_whole" : Str), ("is_one_of" : Str), ("is_word" : Str), ("is_name" : Str), ("is_tuple_of" : Str), ("is_pair" : Str), ("wrong_in" : Str), ("are_below" : Str), ("is_set_of_names" : Str), ("NOTHING" : Str), ("WHOLE" : Str), ("lowest" : Str), ("is_fraction" : Str), ("plus" : Str), ("total" : Str), ("set_order" : Str), ("is_within" : Str), ("has_common" : Str), ("MOST_THINGS" : Str), ("wrong_in_frame" : Str), ("is_mass" : Str), ("wrong_in_masses" : Str), ("belief_by" : Str), ("may_by" : Str), ("common_by" : Str), ("check_frame" : Str), ("check_masses" : Str), ("check_some" : Str)]
def loose1 : List Str := [("check_weighing" : Str), ("belief" : Str), ("may_have" : Str), ("common" : Str), ("_law_pool" : Str), ("_law_below" : Str), ("_law_one" : Str), ("_law_same" : Str), ("_law_fr" : Str), ("_law_plus" : Str), ("_law_is_less" : Str), ("_law_words" : Str), ("_law_name" : Str), ("_law_frame" : Str), ("_law_sets" : Str), ("_law_parts_of" : Str), ("_law_masses" : Str), ("_law_right" : Str)]
def loose : List Str := loose0 ++ loose1
abbrev R : PySem.W.OpenRow := PySem.W.OpenLaw.row PySem.Challenge.rw_heardweights_k03_whole_beliefs_of_two_se
abbrev hk : PySem.W.Hook := He.hookX 4 faL fnL [] tfL exB
def ob (s : PySem.W.SharedT) : He.AlX := He.obsX 4 faL fnL [] tfL exB (HandSHeadRun.getT s)
theorem ob_eq (s : PySem.W.SharedT) : ob s = hk.obs s.abs := He.obsX_eq (HandSHeadRun.getT_eq s)
set_option maxHeartbeats 0 in
theorem run (w : World) : HandSHeadRun.RunEqI R (PySem.W.view R.prog [0, 61]) hk ob 3000 loose w := by
  delta HandSHeadRun.RunEqI
  kernel_rfl
end K03
open PySem PySem.W PySem.Calls PyProof.Rows
set_option maxHeartbeats 0 in
theorem PySem.Challenge.cw_heardweights_k03_whole_beliefs_of_two_se_holds : PySem.Challenge.rw_heardweights_k03_whole_beliefs_of_two_se.Holds := by
  w_on; o_law
  refine HandSHeadRun.head_imp (r := OpenLaw.row PySem.Challenge.rw_heardweights_k03_whole_beliefs_of_two_se) (q := view (OpenLaw.row PySem.Challenge.rw_heardweights_k03_whole_beliefs_of_two_se).prog [0, 61]) (H := K03.hk) (ob := K03.ob) (M := 3000) (loose := K03.loose) (d := HandSHeadRun.topDef (OpenLaw.row PySem.Challenge.rw_heardweights_k03_whole_beliefs_of_two_se).prog 61) (kwd := []) K03.ob_eq
    K03.run (by kernel_rfl) (by kernel_rfl) (by kernel_rfl) (by rfl) (by first | assumption | decide +kernel) (by decide +kernel) ⟨rfl, rfl, rfl, rfl, rfl, by decide +kernel⟩ ?hw ?hc
  case hw => w_witness2
  case hc =>
    refine LamX.walk_ofTsE (l := PySem.Challenge.rw_heardweights_k03_whole_beliefs_of_two_se) (n := 63) (k := 13) (x := "script") (CX := fun _ => L2.CX0) rfl (by decide) (by kernel_rfl) ⟨rfl, by decide, by decide⟩ ?F (fun _ _ _ _ _ z => z)
    intro w mg fa h Y G hmg0
    obtain ⟨K, KX, c⟩ := Y
    have hmg : mg ("law" : PySem.Str) = some (.ref fa) := by
      have e : (HandSHeadRun.topDef (OpenLaw.row PySem.Challenge.rw_heardweights_k03_whole_beliefs_of_two_se).prog 61).name = ("law" : PySem.Str) := by kernel_rfl
      rw [← e]
      exact hmg0
    have hga : He.ga K "law" = fa := by
      have e := He.glo_ok KX G (c.t.d.fact 62 (f := .glo "law") rfl)
      rw [hmg] at e
      cases e
      rfl
    refine ⟨K, KX, PD.lawAt_of (T := K03.TT K) (st := K03.s_law) (F := K03.F_law) c KX hmg (PD.ex_get (l := K03.exL K) c.more 10) (fun p hp => ?_) (fun base KB GB tb => K03.ok_law (K03.gs_of c KB GB tb)) ?_ (fun _ _ _ _ _ _ us hl => match us, hl with | [_], _ => rfl) fun ns hl _ => K03.law_spec ns hl⟩
    · unfold K03.TT at hp
      simp only [List.mem_cons, List.not_mem_nil, or_false] at hp
      simp only [K03.tfL, List.map_cons, List.map_nil, List.mem_cons, List.not_mem_nil, or_false]
      rcases hp with rfl | rfl | rfl <;> simp [He.cT]
    · rw [← hga]
      exact c.t.d.def_ 43 (d := ⟨("law", none), "law", "law", L2.defArgs K03.s_law, L2.defBody K03.s_law, L2.defScope K03.s_law, [], []⟩) rfl
end
