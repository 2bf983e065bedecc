import PyProof.Rows.All
import Wide.All
import OpenK.AllK
import Wide.FinOn
import PySem.Challenge.RW_heardweights_k26_whole_means_over_all_ch
import HandS.ForMost
import HandS.Nested
import HandS.IsInst
import HandS.Gcd
import HandS.Wide
import HandS.WideBits
import HandS.TupAny
import HandS.ExcInit
import HandS.HeadHook1
import HandS.Conv
import HandS.Zip
import HandS.SortInts
import KE.KSortedAny
import HandS.Defaults
import HandS.HeadHook2
import KE.SortData
import KE.DataCmp
import KE.KDictZip
import PyProof.CollectWalk
import PyProof.TupleOfGen
import HandS.DictTup
import KE.GoesNew
import KE.GoesEnum
import PyProof.StrOps2
import HandS.TupMul
import HandS.HeadHook4
import HandS.Set
import HandS.SetFor
import HandS.SetTxt0
import HandS.HeadWalk
import HandS.HeadEnd
import HandS.NestedK
import KE.KNestM
import HandS.Dict
import HandS.Text
import KE.GoesZip
import KE.GoesMore
import KE.DataMinMax
import HandS.DictComp
import HandS.Head0
import HandS.Head1
import HandS.Head2
import HandS.Head3
set_option Elab.async false
section
set_option linter.all false
set_option maxRecDepth 100000
set_option maxHeartbeats 4000000
/-! P1: data told as PyData, what may be seen of the heap, cells (mutable lists that one frame owns or borrows). -/
namespace PD
open PySem PySem.Spec PyProof.Rows L2

abbrev D := PyData
def keyD : Key → D
  | .inl i => .int i
  | .inr s => .str s
/-- at a: an exception of the module's class nm, its fields fs -/
def excAt (K : PySem.W.Frag) (H : Hp) (a : Addr) (nm : Str) (fs : List (Str × V)) : Prop := ∃ od : Option Addr, H a = some (exo a (He.ga K nm) od) ∧ ((od = none ∧ fs = []) ∨ ∃ dx, od = some dx ∧ H dx = some (exd dx fs))
def textsD : List D → Bool
  | [] => true
  | .str _ :: r => textsD r
  | _ => false
/-- at a: a tuple; a tuple of texts alone is tracked as just this (it may be a key) -/
def SqK (K : PySem.W.Frag) (H : Hp) (a : Addr) (xs : List V) (ds : List D) : Prop := if textsD ds = true then H a = some (.tup xs) else SqT K H a xs
theorem SqK.sq {K : PySem.W.Frag} {H : Hp} {a : Addr} {xs : List V} {ds : List D} (h : SqK K H a xs ds) : SqT K H a xs := by
  unfold SqK at h
  split at h
  · exact .inl (.inl h)
  · exact h
theorem SqK.new {K : PySem.W.Frag} {H : Hp} {a : Addr} {xs : List V} {ds : List D} (h : H a = some (.tup xs)) : SqK K H a xs ds := by
  unfold SqK
  split
  · exact h
  · exact .inl (.inl h)
theorem SqK.of {K : PySem.W.Frag} {H : Hp} {a : Addr} {xs : List V} {ds : List D} (h : SqT K H a xs) (n : textsD ds = false) : SqK K H a xs ds := by
  unfold SqK
  rw [n, if_neg Bool.false_ne_true]
  exact h
mutual
/-- the value v is the datum, by the (visible part of the) heap; an exception is told as a dict with a key None: its class's name, its fields -/
def Rp (K : PySem.W.Frag) (H : Hp) (v : V) : D → Prop
  | .none => v = .non
  | .bool b => v = .bl b
  | .int i => v = .int i
  | .str s => v = .str s
  | .list ds => ∃ a xs, v = .ref a ∧ Rd H a (.lst xs) ∧ RpA K H xs ds
  | .tuple ds => ∃ a xs, v = .ref a ∧ SqK K H a xs ds ∧ RpA K H xs ds
  | .dict kvs => ∃ a, v = .ref a ∧
      ((∃ ps : List (Key × V), H a = some (.dK ps) ∧ (ps.map (fun p => keyD p.1) = kvs.map (·.1) ∧ kvs ≠ []) ∧ RpP K H (ps.map (·.2)) kvs) ∨
       (∃ ps : List (List Key × V), H a = some (.dT ps) ∧ ps.map (fun p => PyData.tuple (p.1.map keyD)) = kvs.map (·.1) ∧ RpP K H (ps.map (·.2)) kvs) ∨
       ∃ (nm : Str) (fs : List (Str × V)), excAt K H a nm fs ∧ PyData.none :: fs.map (fun p => PyData.str p.1) = kvs.map (·.1) ∧ RpP K H (.str nm :: fs.map (·.2)) kvs)
def RpA (K : PySem.W.Frag) (H : Hp) (vs : List V) : List D → Prop
  | [] => vs = []
  | d :: ds => ∃ v r, vs = v :: r ∧ Rp K H v d ∧ RpA K H r ds
def RpP (K : PySem.W.Frag) (H : Hp) (vs : List V) : List (D × D) → Prop
  | [] => vs = []
  | (_, d) :: ds => ∃ v r, vs = v :: r ∧ Rp K H v d ∧ RpP K H r ds
end

/-! ### more of the heap, more to be seen -/
abbrev XT (H H' : Hp) : Prop := LamX.ExtN H H'
theorem XT.rd {H H' : Hp} (e : XT H H') {a : Addr} {u : HO} (h : Rd H a u) (n : ∀ ps, u ≠ .tbl ps) : Rd H' a u := by
  rcases h with h | ⟨o, h⟩
  · exact .inl (e _ _ h n)
  · exact .inr ⟨o, e _ _ h (fun ps z => by cases z)⟩
theorem XT.sqT {K : PySem.W.Frag} {H H' : Hp} (e : XT H H') {a : Addr} {xs : List V} (h : SqT K H a xs) : SqT K H' a xs := by
  rcases h with h | h
  · exact .inl (e.rd h fun ps z => by cases z)
  · exact .inr h
theorem SqK.xt {K : PySem.W.Frag} {H H' : Hp} (e : XT H H') {a : Addr} {xs : List V} {ds : List D} (h : SqK K H a xs ds) : SqK K H' a xs ds := by
  unfold SqK at h ⊢
  split
  · rename_i t
    rw [if_pos t] at h
    exact e _ _ h (fun ps z => by cases z)
  · rename_i t
    rw [if_neg t] at h
    exact e.sqT h
theorem exd_tbl {e : Addr} {fs : List (Str × V)} {ps : Array Value} : exd e fs ≠ .tbl ps := fun z => by
  unfold exd at z
  cases z
theorem excAt.xt {K : PySem.W.Frag} {H H' : Hp} {a : Addr} {nm : Str} {fs : List (Str × V)} (x : excAt K H a nm fs) (e : XT H H') : excAt K H' a nm fs := by
  obtain ⟨od, h1, h2⟩ := x
  refine ⟨od, e _ _ h1 (fun ps => exo_tbl), h2.imp id ?_⟩
  rintro ⟨dx, e1, e2⟩
  exact ⟨dx, e1, e _ _ e2 (fun ps => exd_tbl)⟩
section
variable {K : PySem.W.Frag} {H H' : Hp} (e : XT H H')
include e
mutual
theorem Rp.mono : ∀ (d : D) (v : V), Rp K H v d → Rp K H' v d
  | .none, _, h => h
  | .bool _, _, h => h
  | .int _, _, h => h
  | .str _, _, h => h
  | .list ds, _, ⟨a, xs, e1, h1, h2⟩ => ⟨a, xs, e1, e.rd h1 (fun ps z => by cases z), RpA.mono ds _ h2⟩
  | .tuple ds, _, ⟨a, xs, e1, h1, h2⟩ => ⟨a, xs, e1, h1.xt e, RpA.mono ds _ h2⟩
  | .dict kvs, _, ⟨a, e1, h⟩ => ⟨a, e1, h.elim (fun ⟨ps, h1, h2, h3⟩ => .inl ⟨ps, e _ _ h1 (fun ps z => by cases z), h2, RpP.mono kvs _ h3⟩)
      (fun h => .inr (h.elim (fun ⟨ps, h1, h2, h3⟩ => .inl ⟨ps, e _ _ h1 (fun ps z => by cases z), h2, RpP.mono kvs _ h3⟩)
        fun ⟨nm, fs, h1, h2, h3⟩ => .inr ⟨nm, fs, h1.xt e, h2, RpP.mono kvs _ h3⟩))⟩
theorem RpA.mono : ∀ (ds : List D) (vs : List V), RpA K H vs ds → RpA K H' vs ds
  | [], _, h => h
  | d :: ds, _, ⟨v, r, e1, h1, h2⟩ => ⟨v, r, e1, Rp.mono d v h1, RpA.mono ds r h2⟩
theorem RpP.mono : ∀ (ds : List (D × D)) (vs : List V), RpP K H vs ds → RpP K H' vs ds
  | [], _, h => h
  | (_, d) :: ds, _, ⟨v, r, e1, h1, h2⟩ => ⟨v, r, e1, Rp.mono d v h1, RpP.mono ds r h2⟩
end
end

/-! ### data without lists and dicts: no cell can touch them -/
mutual
def flat : D → Bool
  | .none => true
  | .bool _ => true
  | .int _ => true
  | .str _ => true
  | .list _ => false
  | .tuple ds => flatA ds
  | .dict _ => false
def flatA : List D → Bool
  | [] => true
  | d :: ds => flat d && flatA ds
end
/-- tuples are seen in H' as in H -/
def TuS (H H' : Hp) : Prop := ∀ a o, H a = some o → ((∃ xs, o = .tup xs) ∨ ∃ u xs, o = .frz u (.tup xs)) → H' a = some o
theorem TuS.rd {H H' : Hp} (e : TuS H H') {a : Addr} {xs : List V} (h : Rd H a (.tup xs)) : Rd H' a (.tup xs) := by
  rcases h with h | ⟨o, h⟩
  · exact .inl (e _ _ h (.inl ⟨_, rfl⟩))
  · exact .inr ⟨o, e _ _ h (.inr ⟨_, _, rfl⟩)⟩
theorem TuS.sqK {K : PySem.W.Frag} {H H' : Hp} (e : TuS H H') {a : Addr} {xs : List V} {ds : List D} (h : SqK K H a xs ds) : SqK K H' a xs ds := by
  unfold SqK at h ⊢
  split
  · rename_i t
    rw [if_pos t] at h
    exact e _ _ h (.inl ⟨_, rfl⟩)
  · rename_i t
    rw [if_neg t] at h
    exact h.elim (fun z => .inl (e.rd z)) .inr
section
variable {K : PySem.W.Frag} {H H' : Hp} (e : TuS H H')
include e
mutual
theorem Rp.ofFlat : ∀ (d : D) (v : V), flat d = true → Rp K H v d → Rp K H' v d
  | .none, _, _, h => h
  | .bool _, _, _, h => h
  | .int _, _, _, h => h
  | .str _, _, _, h => h
  | .list _, _, f, _ => by simp [flat] at f
  | .tuple ds, _, f, ⟨a, xs, e1, h1, h2⟩ => ⟨a, xs, e1, e.sqK h1, RpA.ofFlat ds _ (by simpa [flat] using f) h2⟩
  | .dict _, _, f, _ => by simp [flat] at f
theorem RpA.ofFlat : ∀ (ds : List D) (vs : List V), flatA ds = true → RpA K H vs ds → RpA K H' vs ds
  | [], _, _, h => h
  | d :: ds, _, f, ⟨v, r, e1, h1, h2⟩ => by
    have f' : flat d = true ∧ flatA ds = true := by simpa [flatA] using f
    exact ⟨v, r, e1, Rp.ofFlat d v f'.1 h1, RpA.ofFlat ds r f'.2 h2⟩
end
end
theorem RpA.length {K : PySem.W.Frag} {H : Hp} : ∀ {ds : List D} {vs : List V}, RpA K H vs ds → vs.length = ds.length
  | [], _, h => by rw [show _ = [] from h]; rfl
  | d :: ds, _, ⟨v, r, e1, h1, h2⟩ => by rw [e1, List.length_cons, List.length_cons, RpA.length h2]
theorem RpA.get {K : PySem.W.Frag} {H : Hp} : ∀ {ds : List D} {vs : List V} {i : Nat} {d : D}, RpA K H vs ds → ds[i]? = some d → ∃ v, vs[i]? = some v ∧ Rp K H v d
  | [], _, i, d, _, h => by simp at h
  | d :: ds, _, 0, _, ⟨v, r, e1, h1, h2⟩, h => by
    simp at h
    subst h
    exact ⟨v, by rw [e1]; rfl, h1⟩
  | d :: ds, _, i + 1, d', ⟨v, r, e1, h1, h2⟩, h => by
    obtain ⟨w, a, b⟩ := RpA.get (i := i) (d := d') h2 (by simpa using h)
    exact ⟨w, by rw [e1]; simpa using a, b⟩
theorem RpA.app {K : PySem.W.Frag} {H : Hp} : ∀ {ds : List D} {vs : List V} {es : List D} {ws : List V}, RpA K H vs ds → RpA K H ws es → RpA K H (vs ++ ws) (ds ++ es)
  | [], _, _, _, h, g => by rw [show _ = [] from h]; exact g
  | d :: ds, _, _, _, ⟨v, r, e1, h1, h2⟩, g => ⟨v, r ++ _, by rw [e1]; rfl, h1, RpA.app h2 g⟩
theorem RpA.one {K : PySem.W.Frag} {H : Hp} {v : V} {d : D} (h : Rp K H v d) : RpA K H [v] [d] := ⟨v, [], rfl, h, rfl⟩
theorem RpA.take {K : PySem.W.Frag} {H : Hp} : ∀ (n : Nat) {ds : List D} {vs : List V}, RpA K H vs ds → RpA K H (vs.take n) (ds.take n)
  | 0, _, _, _ => by simp [RpA]
  | n + 1, [], _, h => by rw [show _ = [] from h]; simp [RpA]
  | n + 1, d :: ds, _, ⟨v, r, e1, h1, h2⟩ => by rw [e1]; exact ⟨v, r.take n, rfl, h1, RpA.take n h2⟩
theorem RpA.drop {K : PySem.W.Frag} {H : Hp} : ∀ (n : Nat) {ds : List D} {vs : List V}, RpA K H vs ds → RpA K H (vs.drop n) (ds.drop n)
  | 0, _, _, h => h
  | n + 1, [], _, h => by rw [show _ = [] from h]; simp [RpA]
  | n + 1, d :: ds, _, ⟨v, r, e1, h1, h2⟩ => by rw [e1]; exact RpA.drop n h2
theorem RpA.rev {K : PySem.W.Frag} {H : Hp} : ∀ {ds : List D} {vs : List V}, RpA K H vs ds → RpA K H vs.reverse ds.reverse
  | [], _, h => by rw [show _ = [] from h]; simp [RpA]
  | d :: ds, _, ⟨v, r, e1, h1, h2⟩ => by rw [e1, List.reverse_cons, List.reverse_cons]; exact RpA.app (RpA.rev h2) (RpA.one h1)
theorem RpA.set {K : PySem.W.Frag} {H : Hp} {v : V} {d : D} (h : Rp K H v d) : ∀ (j : Nat) {ds : List D} {vs : List V}, RpA K H vs ds → RpA K H (vs.set j v) (ds.set j d)
  | _, [], _, h => by rw [show _ = [] from h]; simp [RpA]
  | 0, _ :: ds, _, ⟨v, r, e1, h1, h2⟩ => by rw [e1]; exact ⟨_, r, rfl, h, h2⟩
  | j + 1, _ :: ds, _, ⟨v, r, e1, h1, h2⟩ => by rw [e1]; exact ⟨v, _, rfl, h1, RpA.set h j h2⟩

/-! ### what is hidden -/
noncomputable def hid (H : Hp) (Z : Addr → Prop) : Hp := fun a => open Classical in if Z a then none else H a
theorem hid_of {H : Hp} {Z : Addr → Prop} {a : Addr} (n : ¬ Z a) : hid H Z a = H a := by unfold hid; rw [if_neg n]
theorem of_hid {H : Hp} {Z : Addr → Prop} {a : Addr} {o : HO} (h : hid H Z a = some o) : H a = some o ∧ ¬ Z a := by
  by_cases z : Z a
  · unfold hid at h; rw [if_pos z] at h; cases h
  · rw [hid_of z] at h; exact ⟨h, z⟩
theorem hid_rd {H : Hp} {Z : Addr → Prop} {a : Addr} {u : HO} (h : Rd (hid H Z) a u) : Rd H a u ∧ ¬ Z a := by
  rcases h with h | ⟨o, h⟩
  · exact ⟨.inl (of_hid h).1, (of_hid h).2⟩
  · exact ⟨.inr ⟨o, (of_hid h).1⟩, (of_hid h).2⟩
theorem hid_rd_of {H : Hp} {Z : Addr → Prop} {a : Addr} {u : HO} (h : Rd H a u) (n : ¬ Z a) : Rd (hid H Z) a u := by
  unfold Rd
  rw [hid_of n]
  exact h
theorem hid_sqT {K : PySem.W.Frag} {H : Hp} {Z : Addr → Prop} {a : Addr} {xs : List V} (h : SqT K (hid H Z) a xs) : SqT K H a xs := h.elim (fun z => .inl (hid_rd z).1) .inr
theorem hid_xt (H : Hp) (Z : Addr → Prop) : XT (hid H Z) H := fun _ _ h _ => (of_hid h).1
theorem hid_le {H : Hp} {Z Z' : Addr → Prop} (h : ∀ a, Z' a → Z a) : XT (hid H Z) (hid H Z') := fun a o e _ => by
  have q := of_hid e
  rw [hid_of (fun z => q.2 (h a z))]
  exact q.1
/-- not tracked, or a table -/
def Fr (H : Hp) (a : Addr) : Prop := H a = none ∨ ∃ ps, H a = some (.tbl ps)
theorem fr_up {H : Hp} {a x : Addr} {o : HO} (ho : ∀ ps, o ≠ .tbl ps) (f : Fr (upd H a o) x) : Fr H x := by
  unfold Fr at f ⊢
  by_cases h : x = a
  · rw [h, upd_same] at f
    rcases f with f | ⟨ps, f⟩
    · cases f
    · exact absurd (Option.some.inj f) (ho ps)
  · rw [upd_ne h] at f; exact f
theorem fr_not {H : Hp} {a : Addr} {o : HO} (e : H a = some o) (t : ∀ ps, o ≠ .tbl ps) (f : Fr H a) : False := by
  rcases f with f | ⟨ps, f⟩ <;> rw [e] at f
  · cases f
  · exact t ps (Option.some.inj f)
/-- nothing outside W is changed; what is tracked stays tracked -/
structure Fw (W : Addr → Prop) (H H' : Hp) : Prop where
  keep : ∀ a o, H a = some o → ¬ W a → (∀ ps, o ≠ .tbl ps) → H' a = some o
  there : ∀ a, Fr H' a → Fr H a
theorem Fw.refl (W : Addr → Prop) (H : Hp) : Fw W H H := ⟨fun _ _ h _ _ => h, fun _ h => h⟩
theorem Fw.trans {W : Addr → Prop} {H H1 H2 : Hp} (a : Fw W H H1) (b : Fw W H1 H2) : Fw W H H2 := ⟨fun c o h n t => b.keep c o (a.keep c o h n t) n t, fun c h => a.there c (b.there c h)⟩
theorem Fw.mono {W W' : Addr → Prop} {H H1 : Hp} (a : Fw W H H1) (h : ∀ x, W x → W' x) : Fw W' H H1 := ⟨fun c o e n t => a.keep c o e (fun z => n (h c z)) t, a.there⟩
theorem Fw.same {W : Addr → Prop} {H H1 : Hp} (h : Same H H1) : Fw W H H1 := ⟨fun c o e _ _ => h c o e, fun c e => by
  unfold Fr at e ⊢
  cases q : H c with
  | none => exact .inl rfl
  | some o => rw [h c o q] at e; exact e⟩
theorem Fw.xt {W Z : Addr → Prop} {H H' : Hp} (f : Fw W H H') (h : ∀ a, W a → Z a) : XT (hid H Z) (hid H' Z) := fun a o e t => by
  have q := of_hid e
  rw [hid_of q.2]
  exact f.keep a o q.1 (fun z => q.2 (h a z)) t
theorem Same.xt {Z : Addr → Prop} {H H' : Hp} (f : Same H H') : XT (hid H Z) (hid H' Z) := fun a o e _ => by
  have q := of_hid e
  rw [hid_of q.2]
  exact f a o q.1

/-! ### cells, slots, the state of a frame -/
inductive Cell where
  | lst (xs : List D) | dct (kvs : List (Str × D)) | dcs (kvs : List (List Str × D))
/-- what a cell is in the heap: a list, a dict -/
def cellO : HO → Bool
  | .lst _ => true
  | .dK _ => true
  | .dT _ => true
  | _ => false
def keyed (ks : List Str) (ws : List V) : List (Key × V) := List.zipWith (fun k w => (.inr k, w)) ks ws
def keyedT (ks : List (List Str)) (ws : List V) : List (List Key × V) := List.zipWith (fun k w => (k.map .inr, w)) ks ws
def CellAt (K : PySem.W.Frag) (Hv H : Hp) (a : Addr) : Cell → Prop
  | .lst xs => ∃ vs, H a = some (.lst vs) ∧ RpA K Hv vs xs
  | .dct kvs => ∃ ws, H a = some (.dK (keyed (kvs.map (·.1)) ws)) ∧ RpA K Hv ws (kvs.map (·.2))
  | .dcs kvs => ∃ ws, H a = some (.dT (keyedT (kvs.map (·.1)) ws)) ∧ RpA K Hv ws (kvs.map (·.2))
def flatC : Cell → Bool
  | .lst xs => flatA xs
  | .dct kvs => flatA (kvs.map (·.2))
  | .dcs kvs => flatA (kvs.map (·.2))
inductive Slot where
  | non | val (d : D) | own (k : Nat) | fn (G : List D → Option D)
/-- what a value may do that is no datum -/
structure Fx where
  rel : Hp → V → (List D → Option D) → Prop
  mono : ∀ {H H' : Hp} {v : V} {G : List D → Option D}, XT H H' → rel H v G → rel H' v G
def SlotAt (K : PySem.W.Frag) (Φ : Fx) (Hv : Hp) (A : List Addr) (o : Option (Option V)) : Slot → Prop
  | .non => True
  | .val d => ∃ v, o = some (some v) ∧ Rp K Hv v d
  | .own k => ∃ a, A[k]? = some a ∧ o = some (some (.ref a))
  | .fn G => ∃ v, o = some (some v) ∧ Φ.rel Hv v G
/-- the frame's slots σ are the data ρ, the cells at A hold μ; Z: what the callers hide -/
structure Rep (K : PySem.W.Frag) (T : List (Addr × Str)) (Φ : Fx) (A : List Addr) (Z : Addr → Prop) (σ : L2.St) (H : Hp) (ρ : List Slot) (μ : List Cell) : Prop where
  len : ρ.length = σ.length
  alen : A.length = μ.length
  nd : A.Nodup
  zo : ∀ a, Z a → a ∉ A ∧ ¬ Fr H a
  tabs : LamX.Tabs T H
  cell : ∀ (k : Nat) (c : Cell) (a : Addr), μ[k]? = some c → A[k]? = some a → CellAt K (hid H fun a => Z a ∨ a ∈ A) H a c
  slot : ∀ (i : Nat) (s : Slot), ρ[i]? = some s → SlotAt K Φ (hid H fun a => Z a ∨ a ∈ A) A σ[i]? s
/-- the cell k is read as a value by names that B lets -/
def Bo (B : Nat → Bool) (ρ : List Slot) (k : Nat) : Prop := ∃ i, B i = true ∧ ρ[i]? = some (.own k)
def Wr (B : Nat → Bool) (ρ : List Slot) (A : List Addr) (a : Addr) : Prop := ∃ k, A[k]? = some a ∧ ¬ Bo B ρ k
abbrev Zw (B : Nat → Bool) (ρ : List Slot) (A : List Addr) (Z : Addr → Prop) (a : Addr) : Prop := Z a ∨ Wr B ρ A a
theorem Wr.mem {B : Nat → Bool} {ρ : List Slot} {A : List Addr} {a : Addr} (h : Wr B ρ A a) : a ∈ A := let ⟨_, e, _⟩ := h; List.mem_of_getElem? e
theorem CellAt.xt {K : PySem.W.Frag} {Hv Hv' H H' : Hp} {a : Addr} {c : Cell} (h : CellAt K Hv H a c) (e : XT Hv Hv') (ea : ∀ o, H a = some o → (∀ ps, o ≠ .tbl ps) → H' a = some o) : CellAt K Hv' H' a c := by
  cases c with
  | lst xs => obtain ⟨vs, h1, h2⟩ := h; exact ⟨vs, ea _ h1 (fun ps z => by cases z), RpA.mono e _ _ h2⟩
  | dct xs => obtain ⟨vs, h1, h2⟩ := h; exact ⟨vs, ea _ h1 (fun ps z => by cases z), RpA.mono e _ _ h2⟩
  | dcs xs => obtain ⟨vs, h1, h2⟩ := h; exact ⟨vs, ea _ h1 (fun ps z => by cases z), RpA.mono e _ _ h2⟩
theorem SlotAt.xt {K : PySem.W.Frag} {Φ : Fx} {Hv Hv' : Hp} {A : List Addr} {o : Option (Option V)} {s : Slot} (h : SlotAt K Φ Hv A o s) (e : XT Hv Hv') : SlotAt K Φ Hv' A o s := by
  cases s with
  | non => trivial
  | val d => obtain ⟨v, h1, h2⟩ := h; exact ⟨v, h1, Rp.mono e _ _ h2⟩
  | own k => exact h
  | fn G => obtain ⟨v, h1, h2⟩ := h; exact ⟨v, h1, Φ.mono e h2⟩
/-- the heap grew -/
theorem Rep.same {K : PySem.W.Frag} {T : List (Addr × Str)} {Φ : Fx} {A : List Addr} {Z : Addr → Prop} {σ : L2.St} {H H' : Hp} {ρ : List Slot} {μ : List Cell} (R : Rep K T Φ A Z σ H ρ μ) (h : Same H H') : Rep K T Φ A Z σ H' ρ μ where
  len := R.len
  alen := R.alen
  nd := R.nd
  zo := fun a z => ⟨(R.zo a z).1, fun e => (R.zo a z).2 ((Fw.same (W := fun _ => True) h).there a e)⟩
  tabs := R.tabs.ext h
  cell := fun k c a e1 e2 => (R.cell k c a e1 e2).xt (Same.xt h) fun o e _ => h _ _ e
  slot := fun i s e => (R.slot i s e).xt (Same.xt h)
end PD
end
section
set_option linter.all false
set_option maxRecDepth 100000
set_option maxHeartbeats 4000000
/-! P2: expressions, tests, argument lists by what they mean over data. -/
namespace PD
open PySem PySem.Spec PyProof.Rows L2

abbrev ME := List Slot → List Cell → Option (D × List Cell)
abbrev MT := List Slot → List Cell → Option (Bool × List Cell)
abbrev MA := List Slot → List Cell → Option (List D × List Cell)

section
variable {K : PySem.W.Frag} {T : List (Addr × Str)} {Φ : Fx} {A : List Addr} {Z : Addr → Prop} {σ : L2.St} {H H' : Hp} {ρ : List Slot} {μ : List Cell} {B : Nat → Bool}
theorem Rep.cellAt (R : Rep K T Φ A Z σ H ρ μ) {a : Addr} (h : a ∈ A) : ∃ o, H a = some o ∧ cellO o = true := by
  obtain ⟨k, hk⟩ := List.mem_iff_getElem?.mp h
  have hl : k < μ.length := by rw [← R.alen]; exact (List.getElem?_eq_some_iff.mp hk).1
  have q := R.cell k μ[k] a (List.getElem?_eq_getElem hl) hk
  cases e : μ[k] with
  | lst xs => rw [e] at q; obtain ⟨vs, h1, _⟩ := q; exact ⟨_, h1, rfl⟩
  | dct xs => rw [e] at q; obtain ⟨vs, h1, _⟩ := q; exact ⟨_, h1, rfl⟩
  | dcs xs => rw [e] at q; obtain ⟨vs, h1, _⟩ := q; exact ⟨_, h1, rfl⟩
theorem Rep.tus (R : Rep K T Φ A Z σ H ρ μ) {Z1 Z2 : Addr → Prop} (hz : ∀ a, Z2 a → Z1 a ∨ a ∈ A) : TuS (hid H Z1) (hid H Z2) := fun a o h t => by
  have q := of_hid h
  rw [hid_of]
  · exact q.1
  · intro z
    rcases hz a z with z | z
    · exact q.2 z
    · obtain ⟨o', e, co⟩ := R.cellAt z
      rw [q.1] at e
      cases e
      rcases t with ⟨xs, rfl⟩ | ⟨u, xs, rfl⟩ <;> cases co
theorem Rep.tracked (R : Rep K T Φ A Z σ H ρ μ) : ∀ a, Zw B ρ A Z a → H a ≠ none := fun a z => by
  rcases z with z | z
  · exact fun e => (R.zo a z).2 (.inl e)
  · obtain ⟨vs, e, _⟩ := R.cellAt z.mem
    rw [e]; intro q; cases q
theorem Rep.trackF (R : Rep K T Φ A Z σ H ρ μ) : ∀ a, Zw B ρ A Z a → ¬ Fr H a := fun a z => by
  rcases z with z | z
  · exact (R.zo a z).2
  · obtain ⟨vs, e, co⟩ := R.cellAt z.mem
    exact fun q => fr_not e (fun ps z => by rw [z] at co; cases co) q
theorem zw_le {a : Addr} (h : Zw B ρ A Z a) : Z a ∨ a ∈ A := h.elim .inl fun z => .inr z.mem
/-- fewer are hidden from what is read here than from what stands in a slot -/
theorem Rep.see (H : Hp) : XT (hid H fun a => Z a ∨ a ∈ A) (hid H (Zw B ρ A Z)) := hid_le fun _ h => zw_le h
theorem fw_xt (f : Fw (Wr B ρ A) H H') : XT (hid H (Zw B ρ A Z)) (hid H' (Zw B ρ A Z)) := f.xt fun _ h => .inr h
end

def tE (K : PySem.W.Frag) (T : List (Addr × Str)) (Φ : Fx) (B : Nat → Bool) (m : ME) : TE := fun σ H Q => ∃ A Z ρ μ d μ', Rep K T Φ A Z σ H ρ μ ∧ m ρ μ = some (d, μ') ∧
  ∀ v H', Fw (Wr B ρ A) H H' → Rep K T Φ A Z σ H' ρ μ' → Rp K (hid H' (Zw B ρ A Z)) v d → Q v H'
def tT (K : PySem.W.Frag) (T : List (Addr × Str)) (Φ : Fx) (B : Nat → Bool) (m : MT) : TT := fun σ H Q => ∃ A Z ρ μ d μ', Rep K T Φ A Z σ H ρ μ ∧ m ρ μ = some (d, μ') ∧
  ∀ H', Fw (Wr B ρ A) H H' → Rep K T Φ A Z σ H' ρ μ' → Q d H'
def tA (K : PySem.W.Frag) (T : List (Addr × Str)) (Φ : Fx) (B : Nat → Bool) (m : MA) : TA := fun σ H Q => ∃ A Z ρ μ ds μ', Rep K T Φ A Z σ H ρ μ ∧ m ρ μ = some (ds, μ') ∧
  ∀ vs H', Fw (Wr B ρ A) H H' → Rep K T Φ A Z σ H' ρ μ' → RpA K (hid H' (Zw B ρ A Z)) vs ds → Q vs H'
abbrev PDe (X : Cx) (T : List (Addr × Str)) (Φ : Fx) (B : Nat → Bool) (e : Expr) (m : ME) : Prop := PE X e (tE X.K T Φ B m)
abbrev PDt (X : Cx) (T : List (Addr × Str)) (Φ : Fx) (B : Nat → Bool) (e : Expr) (m : MT) : Prop := PT X e (tT X.K T Φ B m)
abbrev PDw (X : Cx) (T : List (Addr × Str)) (Φ : Fx) (B : Nat → Bool) (e : Expr) (m : MT) : Prop := PW X e (tT X.K T Φ B m)
abbrev PDa (X : Cx) (T : List (Addr × Str)) (Φ : Fx) (B : Nat → Bool) (es : List Expr) (m : MA) : Prop := PA X es (tA X.K T Φ B m)

theorem PE.cons {X : Cx} {e : Expr} {t t' : TE} (h : PE X e t) (hc : ∀ σ H Q, t' σ H Q → t σ H Q) : PE X e t' := ⟨fun pins s σ H Q I q => h.run pins s σ H Q I (hc σ H Q q)⟩
theorem PT.cons {X : Cx} {e : Expr} {t t' : L2.TT} (h : PT X e t) (hc : ∀ σ H Q, t' σ H Q → t σ H Q) : PT X e t' := ⟨fun pins s σ H Q I q => h.run pins s σ H Q I (hc σ H Q q)⟩
theorem PW.cons {X : Cx} {e : Expr} {t t' : L2.TT} (h : PW X e t) (hc : ∀ σ H Q, t' σ H Q → t σ H Q) : PW X e t' := ⟨fun wh pins s σ H Q I q => h.run wh pins s σ H Q I (hc σ H Q q)⟩
theorem PA.cons {X : Cx} {es : List Expr} {t t' : TA} (h : PA X es t) (hc : ∀ σ H Q, t' σ H Q → t σ H Q) : PA X es t' := ⟨fun pos pins s σ H Q I q => h.run pos pins s σ H Q I (hc σ H Q q)⟩

/-! ### what the operators mean -/
abbrev G1 := D → Option D
abbrev G2 := D → D → Option D
abbrev GL := List D → Option D
/-- the layer's rule r does g -/
def RD1 (K : PySem.W.Frag) (r : V → Hp → VK → Prop) (g : G1) : Prop := ∀ (H : Hp) (Z : Addr → Prop) (x : V) (d1 d : D) (Q : VK), (∀ a, Z a → H a ≠ none) → Rp K (hid H Z) x d1 → g d1 = some d →
  (∀ v H', Same H H' → Rp K (hid H' Z) v d → Q v H') → r x H Q
def RD (K : PySem.W.Frag) (r : R2) (g : G2) : Prop := ∀ (H : Hp) (Z : Addr → Prop) (x y : V) (d1 d2 d : D) (Q : VK), (∀ a, Z a → H a ≠ none) → Rp K (hid H Z) x d1 → Rp K (hid H Z) y d2 → g d1 d2 = some d →
  (∀ v H', Same H H' → Rp K (hid H' Z) v d → Q v H') → r x y H Q
def RL (K : PySem.W.Frag) (r : List V → Hp → VK → Prop) (g : GL) : Prop := ∀ (H : Hp) (Z : Addr → Prop) (xs : List V) (ds : List D) (d : D) (Q : VK), (∀ a, Z a → H a ≠ none) → RpA K (hid H Z) xs ds → g ds = some d →
  (∀ v H', Same H H' → Rp K (hid H' Z) v d → Q v H') → r xs H Q
/-- the same of a test -/
def RDt (K : PySem.W.Frag) (r : V → Hp → (Bool → Hp → Prop) → Prop) (g : D → Option Bool) : Prop := ∀ (H : Hp) (Z : Addr → Prop) (x : V) (d1 : D) (b : Bool) (Q : Bool → Hp → Prop), Rp K (hid H Z) x d1 → g d1 = some b → Q b H → r x H Q

def eC (d : D) : ME := fun _ μ => some (d, μ)
def eVar (i : Nat) : ME := fun ρ μ => match ρ[i]? with
  | some (.val d) => some (d, μ)
  | _ => none
def eOwn (i : Nat) : ME := fun ρ μ => match ρ[i]? with
  | some (.own k) => match μ[k]? with
    | some (.lst xs) => some (.list xs, μ)
    | _ => none
  | _ => none
def e1 (g : G1) (a : ME) : ME := fun ρ μ => (a ρ μ).bind fun p => (g p.1).map fun d => (d, p.2)
def e2 (g : G2) (a b : ME) : ME := fun ρ μ => (a ρ μ).bind fun p => (b ρ p.2).bind fun q => (g p.1 q.1).map fun d => (d, q.2)
def eL (g : GL) (a : MA) : ME := fun ρ μ => (a ρ μ).bind fun p => (g p.1).map fun d => (d, p.2)
def aN : MA := fun _ μ => some ([], μ)
def aC (a : ME) (r : MA) : MA := fun ρ μ => (a ρ μ).bind fun p => (r ρ p.2).map fun q => (p.1 :: q.1, q.2)
def eIf (t : MT) (a b : ME) : ME := fun ρ μ => (t ρ μ).bind fun p => if p.1 = true then a ρ p.2 else b ρ p.2
def gBool : D → Option Bool
  | .bool b => some b
  | _ => none
def tV (a : ME) : MT := fun ρ μ => (a ρ μ).bind fun p => (gBool p.1).map fun b => (b, p.2)
def tAnd (a b : MT) : MT := fun ρ μ => (a ρ μ).bind fun p => if p.1 = true then b ρ p.2 else some (false, p.2)
def tOr (a b : MT) : MT := fun ρ μ => (a ρ μ).bind fun p => if p.1 = true then some (true, p.2) else b ρ p.2
def tNot (a : MT) : MT := fun ρ μ => (a ρ μ).map fun p => (!p.1, p.2)
/-- and, or, not as values: bools alone -/
def eAnd (a b : ME) : ME := fun ρ μ => (a ρ μ).bind fun p => (gBool p.1).bind fun c => if c = true then b ρ p.2 else some (.bool false, p.2)
def eOr (a b : ME) : ME := fun ρ μ => (a ρ μ).bind fun p => (gBool p.1).bind fun c => if c = true then some (.bool true, p.2) else b ρ p.2
def eNot (a : ME) : ME := fun ρ μ => (a ρ μ).bind fun p => (gBool p.1).map fun c => (.bool (!c), p.2)

section
variable {X : Cx} {T : List (Addr × Str)} {Φ : Fx} {B : Nat → Bool} {a b c : Expr} {es : List Expr} {ma mb mc : ME} {mas : MA} {mt mu : MT} {pos : Pos}

theorem same_fw {W : Addr → Prop} {H H' : Hp} (h : Same H H') : Fw W H H' := Fw.same h
theorem pd_of_const {e : Expr} {v : V} {d : D} (h : PE X e (tC v)) (hp : ∀ H, Rp X.K H v d) : PDe X T Φ B e (eC d) := PE.cons h fun σ H Q ⟨A, Z, ρ, μ, d', μ', R, hm, k⟩ => by
  cases hm
  exact k v H (Fw.refl _ _) R (hp _)
theorem pd_int {i : Int} {j : Nat} : PDe X T Φ B (.Constant (.int i) j pos) (eC (.int i)) := pd_of_const pe_int fun _ => rfl
theorem pd_bl {i : Bool} {j : Nat} : PDe X T Φ B (.Constant (.bool i) j pos) (eC (.bool i)) := pd_of_const pe_bl fun _ => rfl
theorem pd_non {j : Nat} : PDe X T Φ B (.Constant .none j pos) (eC .none) := pd_of_const pe_non fun _ => rfl
theorem pd_str {x : Str} {j : Nat} : PDe X T Φ B (.Constant (.str x) j pos) (eC (.str x)) := pd_of_const pe_str fun _ => rfl
theorem pd_glob {x : Str} {v : V} {u : Value} {d : D} (hg : Gl X x) (hm : X.mg x = some u) (r : RelV v u) (hp : ∀ H, Rp X.K H v d) (hd : (x == ("__debug__" : Str)) = false := by decide) : PDe X T Φ B (.Name x pos) (eC d) := pd_of_const (pe_glob hg hm r hd) hp
theorem pd_var (i : Nat) {x : Str} (hN : X.N[i]? = some x := by rfl) (hv : Vis X.env.scope x := by first | exact Or.inl rfl | exact Or.inr (Or.inl rfl) | exact Or.inr (Or.inr rfl)) (hd : (x == ("__debug__" : Str)) = false := by decide)
    (hcd : (x == ("__classdict__" : Str)) = false := by decide) : PDe X T Φ B (.Name x pos) (eVar i) := PE.cons (pe_var hN hv hd hcd) fun σ H Q ⟨A, Z, ρ, μ, d, μ', R, hm, k⟩ => by
  unfold eVar at hm
  split at hm
  · rename_i d' e
    cases hm
    obtain ⟨v, h1, h2⟩ := R.slot i _ e
    exact ⟨v, h1, k v H (Fw.refl _ _) R (Rp.mono (Rep.see H) _ _ h2)⟩
  · cases hm
theorem pd_own (i : Nat) {x : Str} (hB : B i = true := by rfl) (hN : X.N[i]? = some x := by rfl) (hv : Vis X.env.scope x := by first | exact Or.inl rfl | exact Or.inr (Or.inl rfl) | exact Or.inr (Or.inr rfl)) (hd : (x == ("__debug__" : Str)) = false := by decide)
    (hcd : (x == ("__classdict__" : Str)) = false := by decide) : PDe X T Φ B (.Name x pos) (eOwn i) := PE.cons (pe_var hN hv hd hcd) fun σ H Q ⟨A, Z, ρ, μ, d, μ', R, hm, k⟩ => by
  unfold eOwn at hm
  split at hm
  · rename_i kk e
    split at hm
    · rename_i xs em
      cases hm
      obtain ⟨a, h1, h2⟩ := R.slot i _ e
      obtain ⟨vs, h3, h4⟩ := R.cell kk _ a em h1
      refine ⟨.ref a, h2, k _ H (Fw.refl _ _) R ⟨a, vs, rfl, hid_rd_of (.inl h3) ?_, RpA.mono (Rep.see H) _ _ h4⟩⟩
      rintro (z | ⟨k', h5, h6⟩)
      · exact (R.zo a z).1 (List.mem_of_getElem? h1)
      · have : k' = kk := by
          obtain ⟨l1, q1⟩ := List.getElem?_eq_some_iff.mp h5
          obtain ⟨l2, q2⟩ := List.getElem?_eq_some_iff.mp h1
          exact (List.getElem_inj R.nd).mp (q1.trans q2.symm)
        subst this
        exact h6 ⟨i, hB, e⟩
    · cases hm
  · cases hm

/-! unfoldings -/
theorem e2_some {g : G2} {ρ : List Slot} {μ μ' : List Cell} {d : D} (h : e2 g ma mb ρ μ = some (d, μ')) : ∃ d1 μ1 d2, ma ρ μ = some (d1, μ1) ∧ mb ρ μ1 = some (d2, μ') ∧ g d1 d2 = some d := by
  unfold e2 at h
  cases e1 : ma ρ μ with
  | none => rw [e1] at h; cases h
  | some p =>
    rw [e1, Option.bind_some] at h
    cases e2 : mb ρ p.2 with
    | none => rw [e2] at h; cases h
    | some q =>
      rw [e2, Option.bind_some] at h
      cases e3 : g p.1 q.1 with
      | none => rw [e3] at h; cases h
      | some r => rw [e3] at h; cases h; exact ⟨p.1, p.2, q.1, rfl, e2, e3⟩
theorem tE_bin {g : G2} {r : R2} (hr : RD X.K r g) (σ : L2.St) (H : Hp) (Q : VK) (h : tE X.K T Φ B (e2 g ma mb) σ H Q) : tOp r (tE X.K T Φ B ma) (tE X.K T Φ B mb) σ H Q := by
  obtain ⟨A, Z, ρ, μ, d, μ', R, hm, k⟩ := h
  obtain ⟨d1, μ1, d2, h1, h2, h3⟩ := e2_some hm
  refine ⟨A, Z, ρ, μ, d1, μ1, R, h1, fun x H1 f1 R1 p1 => ⟨A, Z, ρ, μ1, d2, μ', R1, h2, fun y H2 f2 R2 p2 => ?_⟩⟩
  refine hr H2 _ x y d1 d2 d Q R2.tracked (Rp.mono (fw_xt f2) _ _ p1) p2 h3 fun v H3 s3 p3 => ?_
  exact k v H3 ((f1.trans f2).trans (Fw.same s3)) (R2.same s3) p3
theorem pd_op {op : Operator} {r : R2} {g : G2} (ho : OpR X (binaryOp op) r) (hr : RD X.K r g) (ha : PDe X T Φ B a ma) (hb : PDe X T Φ B b mb) : PDe X T Φ B (.BinOp a op b pos) (e2 g ma mb) := PE.cons (pe_op ho ha hb) (tE_bin hr)
theorem pd_cmp {op : CmpOp} {r : R2} {g : G2} (ho : OpR X (compareOp op) r) (hr : RD X.K r g) (ha : PDe X T Φ B a ma) (hb : PDe X T Φ B b mb) (hm : behindInMarks op b = false := by first | exact nomark _ | rfl) : PDe X T Φ B (.Compare a [op] [b] pos) (e2 g ma mb) :=
  PE.cons (pe_cmpR ho ha hb hm) (tE_bin hr)
theorem pd_ix {r : R2} {g : G2} (ho : IxR X r) (hr : RD X.K r g) (ha : PDe X T Φ B a ma) (hb : PDe X T Φ B b mb) (hs : PlainIx b := by intro _ _; rfl) : PDe X T Φ B (.Subscript a b pos) (e2 g ma mb) := PE.cons (pe_ix ho ha hb hs) (tE_bin hr)
theorem pd_un {op : UnaryOp} {r : V → Hp → VK → Prop} {g : G1} (ho : UnR X (unaryOp op) r) (hr : RD1 X.K r g) (ha : PDe X T Φ B a ma) : PDe X T Φ B (.UnaryOp op a pos) (e1 g ma) := PE.cons (pe_un ho ha) fun σ H Q ⟨A, Z, ρ, μ, d, μ', R, hm, k⟩ => by
  unfold e1 at hm
  cases e : ma ρ μ with
  | none => rw [e] at hm; cases hm
  | some p =>
    rw [e, Option.bind_some] at hm
    cases e' : g p.1 with
    | none => rw [e'] at hm; cases hm
    | some q =>
      rw [e'] at hm; cases hm
      exact ⟨A, Z, ρ, μ, p.1, p.2, R, e, fun x H1 f1 R1 p1 => hr H1 _ x _ _ Q R1.tracked p1 e' fun v H2 s2 p2 => k v H2 (f1.trans (Fw.same s2)) (R1.same s2) p2⟩

/-! argument lists of data -/
theorem pa_n : PDa X T Φ B [] aN := PA.cons pa_nil fun σ H Q ⟨A, Z, ρ, μ, d, μ', R, hm, k⟩ => by
  cases hm
  exact k [] H (Fw.refl _ _) R rfl
theorem aC_some {ρ : List Slot} {μ μ' : List Cell} {ds : List D} (h : aC ma mas ρ μ = some (ds, μ')) : ∃ d μ1 r, ma ρ μ = some (d, μ1) ∧ mas ρ μ1 = some (r, μ') ∧ ds = d :: r := by
  unfold aC at h
  cases e1 : ma ρ μ with
  | none => rw [e1] at h; cases h
  | some p =>
    rw [e1, Option.bind_some] at h
    cases e2 : mas ρ p.2 with
    | none => rw [e2] at h; cases h
    | some q => rw [e2] at h; cases h; exact ⟨p.1, p.2, q.1, rfl, e2, rfl⟩
theorem pa_c (ha : PDe X T Φ B a ma) (hr : PDa X T Φ B es mas) (hs : starEach (a :: es) X.env = (false, eval a X.env) :: starEach es X.env := by rfl) : PDa X T Φ B (a :: es) (aC ma mas) := PA.cons (pa_cons ha hr hs) fun σ H Q ⟨A, Z, ρ, μ, ds, μ', R, hm, k⟩ => by
  obtain ⟨d, μ1, r, h1, h2, rfl⟩ := aC_some hm
  refine ⟨A, Z, ρ, μ, d, μ1, R, h1, fun x H1 f1 R1 p1 => ⟨A, Z, ρ, μ1, r, μ', R1, h2, fun y H2 f2 R2 p2 => ?_⟩⟩
  exact k _ H2 (f1.trans f2) R2 ⟨x, y, rfl, Rp.mono (fw_xt f2) _ _ p1, p2⟩
theorem eL_some {g : GL} {ρ : List Slot} {μ μ' : List Cell} {d : D} (h : eL g mas ρ μ = some (d, μ')) : ∃ ds, mas ρ μ = some (ds, μ') ∧ g ds = some d := by
  unfold eL at h
  cases e : mas ρ μ with
  | none => rw [e] at h; cases h
  | some p =>
    rw [e, Option.bind_some] at h
    cases e' : g p.1 with
    | none => rw [e'] at h; cases h
    | some q => rw [e'] at h; cases h; exact ⟨p.1, rfl, e'⟩
theorem tE_list {g : GL} {r : List V → Hp → VK → Prop} (hr : RL X.K r g) (σ : L2.St) (H : Hp) (Q : VK) (h : tE X.K T Φ B (eL g mas) σ H Q) : tA X.K T Φ B mas σ H fun vs H1 => r vs H1 Q := by
  obtain ⟨A, Z, ρ, μ, d, μ', R, hm, k⟩ := h
  obtain ⟨ds, h1, h2⟩ := eL_some hm
  exact ⟨A, Z, ρ, μ, ds, μ', R, h1, fun vs H1 f1 R1 p1 => hr H1 _ vs ds d Q R1.tracked p1 h2 fun v H2 s2 p2 => k v H2 (f1.trans (Fw.same s2)) (R1.same s2) p2⟩
/-- a built-in function, a built-in class by its name -/
theorem pd_callB {x : Str} {p : Pos} {id : String} {r : List V → Hp → VK → Prop} {g : GL} (hc : CallR X (.builtin id) r) (hr : RL X.K r g) (hg : Gl X x) (hm : X.mg x = none) (hv : bootBuiltins x = some (.builtin id)) (ha : PDa X T Φ B (a :: es) mas)
    (hn : x ≠ "__name__" := by decide) (hdb : (x == ("__debug__" : Str)) = false := by decide) (he : starEach (a :: es) X.env = (false, eval a X.env) :: starEach es X.env := by rfl) (hpl : (backTo pos (starEach es X.env)).any (·.1) = false := by rfl) :
    PDe X T Φ B (.Call (.Name x p) (a :: es) [] pos) (eL g mas) := PE.cons (pe_callB hc hg hm hv ha hn hdb he hpl) (tE_list hr)
theorem pd_callTy {x : Str} {p : Pos} {n : String} {r : List V → Hp → VK → Prop} {g : GL} (hc : CallR X (.type n) r) (hr : RL X.K r g) (hg : Gl X x) (hm : X.mg x = none) (hv : bootBuiltins x = some (.type n)) (ha : PDa X T Φ B (a :: es) mas)
    (hn : x ≠ "__name__" := by decide) (hdb : (x == ("__debug__" : Str)) = false := by decide) (he : starEach (a :: es) X.env = (false, eval a X.env) :: starEach es X.env := by rfl) (hpl : (backTo pos (starEach es X.env)).any (·.1) = false := by rfl) :
    PDe X T Φ B (.Call (.Name x p) (a :: es) [] pos) (eL g mas) := PE.cons (pe_callTy hc hg hm hv ha hn hdb he hpl) (tE_list hr)
/-- a module's name for a built-in function -/
theorem pd_callBf {x : Str} {p : Pos} {id : String} {r : List V → Hp → VK → Prop} {g : GL} (hc : CallR X (.builtin id) r) (hr : RL X.K r g) (hg : Gl X x) (hm : X.mg x = some (.builtin id)) (ha : PDa X T Φ B (a :: es) mas)
    (hdb : (x == ("__debug__" : Str)) = false := by decide) (he : starEach (a :: es) X.env = (false, eval a X.env) :: starEach es X.env := by rfl) (hpl : (backTo pos (starEach es X.env)).any (·.1) = false := by rfl) :
    PDe X T Φ B (.Call (.Name x p) (a :: es) [] pos) (eL g mas) := PE.cons (pe_callBfun hc hg hm ha hdb he hpl) (tE_list hr)
/-- displays -/
def gTup : GL := fun ds => if ds.length ≤ sizeLine then some (.tuple ds) else none
def gLst : GL := fun ds => if ds.length ≤ sizeLine then some (.list ds) else none
theorem same_upd {H : Hp} {p : Addr} {o : HO} (h : H p = none) : Same H (upd H p o) := fun b u e => by rw [upd_ne (ne_of_none e h)]; exact e
theorem rp_new_lst {K : PySem.W.Frag} {H : Hp} {Z : Addr → Prop} {p : Addr} {vs : List V} {ds : List D} (hz : ∀ a, Z a → H a ≠ none) (hp : H p = none) (h : RpA K (hid H Z) vs ds) : Rp K (hid (upd H p (.lst vs)) Z) (.ref p) (.list ds) :=
  ⟨p, vs, rfl, hid_rd_of (.inl upd_same) (fun z => hz p z hp), RpA.mono (Same.xt (same_upd hp)) _ _ h⟩
theorem rp_new_tup {K : PySem.W.Frag} {H : Hp} {Z : Addr → Prop} {p : Addr} {vs : List V} {ds : List D} (hz : ∀ a, Z a → H a ≠ none) (hp : H p = none) (h : RpA K (hid H Z) vs ds) : Rp K (hid (upd H p (.tup vs)) Z) (.ref p) (.tuple ds) :=
  ⟨p, vs, rfl, SqK.new ((hid_of (fun z => hz p z hp)).trans upd_same), RpA.mono (Same.xt (same_upd hp)) _ _ h⟩
theorem rl_tup {K : PySem.W.Frag} : RL K (fun xs H Q => xs.length ≤ sizeLine ∧ ∀ p, H p = none → Q (.ref p) (upd H p (.tup xs))) gTup := fun H Z xs ds d Q hz h hg k => by
  unfold gTup at hg
  split at hg
  · rename_i hl
    cases hg
    exact ⟨by rw [h.length]; exact hl, fun p hp => k _ _ (same_upd hp) (rp_new_tup hz hp h)⟩
  · cases hg
theorem rl_lst {K : PySem.W.Frag} : RL K (fun xs H Q => xs.length ≤ sizeLine ∧ ∀ p, H p = none → Q (.ref p) (upd H p (.lst xs))) gLst := fun H Z xs ds d Q hz h hg k => by
  unfold gLst at hg
  split at hg
  · rename_i hl
    cases hg
    exact ⟨by rw [h.length]; exact hl, fun p hp => k _ _ (same_upd hp) (rp_new_lst hz hp h)⟩
  · cases hg
theorem pd_tup {j : Nat} (h : PDa X T Φ B es mas) : PDe X T Φ B (.Tuple es j pos) (eL gTup mas) := PE.cons (pe_tup h) (tE_list rl_tup)
theorem pd_lst (h : PDa X T Φ B es mas) : PDe X T Φ B (.List es pos) (eL gLst mas) := PE.cons (pe_lst h) (tE_list rl_lst)

/-! ### tests -/
theorem tV_some {ρ : List Slot} {μ μ' : List Cell} {t : Bool} (h : tV ma ρ μ = some (t, μ')) : ma ρ μ = some (.bool t, μ') := by
  unfold tV at h
  cases e : ma ρ μ with
  | none => rw [e] at h; cases h
  | some p =>
    rw [e, Option.bind_some] at h
    obtain ⟨d, μ2⟩ := p
    cases d with
    | bool b => cases h; rfl
    | none => cases h
    | int _ => cases h
    | str _ => cases h
    | list _ => cases h
    | tuple _ => cases h
    | dict _ => cases h
theorem tB_of (σ : L2.St) (H : Hp) (Q : Bool → Hp → Prop) (h : tT X.K T Φ B (tV ma) σ H Q) : tTest (tE X.K T Φ B ma) σ H Q := by
  obtain ⟨A, Z, ρ, μ, d, μ', R, hm, k⟩ := h
  refine ⟨A, Z, ρ, μ, _, μ', R, tV_some hm, fun v H1 f1 R1 p1 => ?_⟩
  exact ⟨d, show v = .bl d from p1, k H1 f1 R1⟩
/-- an expression as a test -/
theorem pt_v (h : PDe X T Φ B a ma) (he : ∀ whole, isTrue a X.env whole = (do let v ← whole; standAt a.pos; holding [v] (truthy v)) := by intro _; rfl) : PDt X T Φ B a (tV ma) := PT.cons (pt_val h he) tB_of
theorem pt_cmp {op : CmpOp} {r : R2} {g : G2} (ho : OpR X (compareOp op) r) (hr : RD X.K r g) (ha : PDe X T Φ B a ma) (hb : PDe X T Φ B b mb) (hm : behindInMarks op b = false := by first | exact nomark _ | rfl) : PDt X T Φ B (.Compare a [op] [b] pos) (tV (e2 g ma mb)) :=
  PT.cons (pt_cmpR ho ha hb hm) fun σ H Q ⟨A, Z, ρ, μ, d, μ', R, hm', k⟩ => by
    obtain ⟨A2, Z2, ρ2, μ2, d2, μ2', R2, hm2, k2⟩ := show tE X.K T Φ B (e2 g ma mb) σ H (fun x H' => ∃ k, x = .bl k ∧ Q k H') from ⟨A, Z, ρ, μ, _, μ', R, tV_some hm', fun v H1 f1 R1 p1 => ⟨d, show v = .bl d from p1, k H1 f1 R1⟩⟩
    exact tE_bin hr σ H _ ⟨A2, Z2, ρ2, μ2, d2, μ2', R2, hm2, k2⟩
theorem pt_not (h : PDt X T Φ B a mt) : PDt X T Φ B (.UnaryOp .Not a pos) (tNot mt) := PT.cons (L2.pt_not h) fun σ H Q ⟨A, Z, ρ, μ, d, μ', R, hm, k⟩ => by
  unfold tNot at hm
  cases e : mt ρ μ with
  | none => rw [e] at hm; cases hm
  | some p =>
    rw [e] at hm; cases hm
    exact ⟨A, Z, ρ, μ, p.1, p.2, R, e, k⟩
theorem pw_1a (h : PDt X T Φ B a mt) : PDw X T Φ B (.BoolOp .And [a] pos) mt := pw_and1 h
theorem pw_1o (h : PDt X T Φ B a mt) : PDw X T Φ B (.BoolOp .Or [a] pos) mt := pw_or1 h
theorem tAnd_some {ρ : List Slot} {μ μ' : List Cell} {t : Bool} (h : tAnd mt mu ρ μ = some (t, μ')) : ∃ c μ1, mt ρ μ = some (c, μ1) ∧ if c = true then mu ρ μ1 = some (t, μ') else (t = false ∧ μ' = μ1) := by
  unfold tAnd at h
  cases e : mt ρ μ with
  | none => rw [e] at h; cases h
  | some p =>
    rw [e, Option.bind_some] at h
    obtain ⟨c, μ1⟩ := p
    refine ⟨c, μ1, rfl, ?_⟩
    cases c with
    | true => exact h
    | false => cases h; exact ⟨rfl, rfl⟩
theorem tOr_some {ρ : List Slot} {μ μ' : List Cell} {t : Bool} (h : tOr mt mu ρ μ = some (t, μ')) : ∃ c μ1, mt ρ μ = some (c, μ1) ∧ if c = true then (t = true ∧ μ' = μ1) else mu ρ μ1 = some (t, μ') := by
  unfold tOr at h
  cases e : mt ρ μ with
  | none => rw [e] at h; cases h
  | some p =>
    rw [e, Option.bind_some] at h
    obtain ⟨c, μ1⟩ := p
    refine ⟨c, μ1, rfl, ?_⟩
    cases c with
    | false => exact h
    | true => cases h; exact ⟨rfl, rfl⟩
theorem pw_a {rest : List Expr} (ha : PDt X T Φ B a mt) (hb : PDw X T Φ B (.BoolOp .And (b :: rest) pos) mu) : PDw X T Φ B (.BoolOp .And (a :: b :: rest) pos) (tAnd mt mu) := PW.cons (pw_and ha hb) fun σ H Q ⟨A, Z, ρ, μ, d, μ', R, hm, k⟩ => by
  obtain ⟨c, μ1, h1, h2⟩ := tAnd_some hm
  refine ⟨A, Z, ρ, μ, c, μ1, R, h1, fun H1 f1 R1 => ?_⟩
  cases c with
  | true => exact iteT ⟨A, Z, ρ, μ1, d, μ', R1, h2, fun H2 f2 R2 => k H2 (f1.trans f2) R2⟩
  | false => obtain ⟨rfl, rfl⟩ := h2; exact iteF (k H1 f1 R1)
theorem pw_o {rest : List Expr} (ha : PDt X T Φ B a mt) (hb : PDw X T Φ B (.BoolOp .Or (b :: rest) pos) mu) : PDw X T Φ B (.BoolOp .Or (a :: b :: rest) pos) (tOr mt mu) := PW.cons (pw_or ha hb) fun σ H Q ⟨A, Z, ρ, μ, d, μ', R, hm, k⟩ => by
  obtain ⟨c, μ1, h1, h2⟩ := tOr_some hm
  refine ⟨A, Z, ρ, μ, c, μ1, R, h1, fun H1 f1 R1 => ?_⟩
  cases c with
  | true => obtain ⟨rfl, rfl⟩ := h2; exact iteT (k H1 f1 R1)
  | false => exact iteF ⟨A, Z, ρ, μ1, d, μ', R1, h2, fun H2 f2 R2 => k H2 (f1.trans f2) R2⟩
theorem pt_w (h : PDw X T Φ B a mt) : PDt X T Φ B a mt := h.pt
theorem pd_if (hc : PDt X T Φ B c mt) (ha : PDe X T Φ B a ma) (hb : PDe X T Φ B b mb) : PDe X T Φ B (.IfExp c a b pos) (eIf mt ma mb) := PE.cons (pe_ifExp hc ha hb) fun σ H Q ⟨A, Z, ρ, μ, d, μ', R, hm, k⟩ => by
  unfold eIf at hm
  cases e : mt ρ μ with
  | none => rw [e] at hm; cases hm
  | some p =>
    rw [e, Option.bind_some] at hm
    obtain ⟨t, μ1⟩ := p
    refine ⟨A, Z, ρ, μ, t, μ1, R, e, fun H1 f1 R1 => ?_⟩
    cases t with
    | true => exact iteT ⟨A, Z, ρ, μ1, d, μ', R1, hm, fun v H2 f2 R2 => k v H2 (f1.trans f2) R2⟩
    | false => exact iteF ⟨A, Z, ρ, μ1, d, μ', R1, hm, fun v H2 f2 R2 => k v H2 (f1.trans f2) R2⟩
theorem gBool_some {d : D} {c : Bool} (h : gBool d = some c) : d = .bool c := by cases d <;> simp [gBool] at h; rw [h]
theorem pd_1a {op : BoolOp} (h : PDe X T Φ B a ma) : PDe X T Φ B (.BoolOp op [a] pos) ma := pe_one h
theorem pd_and {rest : List Expr} (ha : PDe X T Φ B a ma) (hb : PDe X T Φ B (.BoolOp .And (b :: rest) pos) mb) : PDe X T Φ B (.BoolOp .And (a :: b :: rest) pos) (eAnd ma mb) := PE.cons (pe_and ha hb) fun σ H Q ⟨A, Z, ρ, μ, d, μ', R, hm, k⟩ => by
  unfold eAnd at hm
  cases e : ma ρ μ with
  | none => rw [e] at hm; cases hm
  | some p =>
    rw [e, Option.bind_some] at hm
    cases e' : gBool p.1 with
    | none => rw [e'] at hm; cases hm
    | some t =>
      rw [e', Option.bind_some] at hm
      refine ⟨A, Z, ρ, μ, p.1, p.2, R, e, fun x H1 f1 R1 p1 => ?_⟩
      rw [gBool_some e'] at p1
      refine ⟨t, p1, ?_⟩
      cases t with
      | true => exact iteT ⟨A, Z, ρ, p.2, d, μ', R1, hm, fun v H2 f2 R2 => k v H2 (f1.trans f2) R2⟩
      | false => cases hm; exact iteF (k _ H1 f1 R1 rfl)
theorem pd_or {rest : List Expr} (ha : PDe X T Φ B a ma) (hb : PDe X T Φ B (.BoolOp .Or (b :: rest) pos) mb) : PDe X T Φ B (.BoolOp .Or (a :: b :: rest) pos) (eOr ma mb) := PE.cons (pe_or ha hb) fun σ H Q ⟨A, Z, ρ, μ, d, μ', R, hm, k⟩ => by
  unfold eOr at hm
  cases e : ma ρ μ with
  | none => rw [e] at hm; cases hm
  | some p =>
    rw [e, Option.bind_some] at hm
    cases e' : gBool p.1 with
    | none => rw [e'] at hm; cases hm
    | some t =>
      rw [e', Option.bind_some] at hm
      refine ⟨A, Z, ρ, μ, p.1, p.2, R, e, fun x H1 f1 R1 p1 => ?_⟩
      rw [gBool_some e'] at p1
      refine ⟨t, p1, ?_⟩
      cases t with
      | true => cases hm; exact iteT (k _ H1 f1 R1 rfl)
      | false => exact iteF ⟨A, Z, ρ, p.2, d, μ', R1, hm, fun v H2 f2 R2 => k v H2 (f1.trans f2) R2⟩
theorem pd_not (h : PDe X T Φ B a ma) : PDe X T Φ B (.UnaryOp .Not a pos) (eNot ma) := PE.cons (pe_not h) fun σ H Q ⟨A, Z, ρ, μ, d, μ', R, hm, k⟩ => by
  unfold eNot at hm
  cases e : ma ρ μ with
  | none => rw [e] at hm; cases hm
  | some p =>
    rw [e, Option.bind_some] at hm
    cases e' : gBool p.1 with
    | none => rw [e'] at hm; cases hm
    | some t =>
      rw [e'] at hm; cases hm
      refine ⟨A, Z, ρ, μ, p.1, p.2, R, e, fun x H1 f1 R1 p1 => ?_⟩
      rw [gBool_some e'] at p1
      exact ⟨t, p1, k _ H1 f1 R1 rfl⟩
end
end PD
end
section
set_option linter.all false
set_option maxRecDepth 100000
set_option maxHeartbeats 4000000
/-! P3: statements, targets, loops, defs by what they mean over data. -/
namespace PD
open PySem PySem.Spec PyProof.Rows L2

inductive Fl where
  | next (ρ : List Slot) (μ : List Cell) | brk (ρ : List Slot) (μ : List Cell) | cont (ρ : List Slot) (μ : List Cell) | ret (d : D) (μ : List Cell)
abbrev MS := Nat → List Slot → List Cell → Option Fl
abbrev MG := D → List Slot → List Cell → Option (List Slot × List Cell)
def B0 : Nat → Bool := fun _ => false
theorem wr0 {ρ : List Slot} {A : List Addr} {a : Addr} : Wr B0 ρ A a ↔ a ∈ A := ⟨Wr.mem, fun h => by
  obtain ⟨k, hk⟩ := List.mem_iff_getElem?.mp h
  exact ⟨k, hk, fun ⟨i, e, _⟩ => by cases e⟩⟩
theorem zw0 {ρ : List Slot} {A : List Addr} {Z : Addr → Prop} {a : Addr} : Zw B0 ρ A Z a ↔ (Z a ∨ a ∈ A) := by
  constructor
  · exact zw_le
  · exact fun h => h.elim .inl fun z => .inr (wr0.mpr z)

/-- a block was run: nothing but the cells changed, new cells are new -/
structure Fs (A A' : List Addr) (H H' : Hp) : Prop where
  fw : Fw (· ∈ A) H H'
  ext : ∃ more, A' = A ++ more ∧ ∀ a ∈ more, Fr H a
theorem Fs.refl (A : List Addr) (H : Hp) : Fs A A H H := ⟨Fw.refl _ _, [], by simp, by simp⟩
theorem Fs.trans {A A1 A2 : List Addr} {H H1 H2 : Hp} (a : Fs A A1 H H1) (b : Fs A1 A2 H1 H2) : Fs A A2 H H2 := by
  obtain ⟨m1, e1, h1⟩ := a.ext
  obtain ⟨m2, e2, h2⟩ := b.ext
  refine ⟨⟨fun c o h n t => b.fw.keep c o (a.fw.keep c o h n t) ?_ t, fun c h => a.fw.there c (b.fw.there c h)⟩, m1 ++ m2, by rw [e2, e1, List.append_assoc], fun c hc => ?_⟩
  · rw [e1, List.mem_append]
    rintro (z | z)
    · exact n z
    · exact fr_not h t (h1 c z)
  · rcases List.mem_append.mp hc with z | z
    · exact h1 c z
    · exact a.fw.there c (h2 c z)
theorem Fs.of {A : List Addr} {H H' : Hp} (f : Fw (· ∈ A) H H') : Fs A A H H' := ⟨f, [], by simp, by simp⟩
theorem Fs.xt {A A' : List Addr} {Z : Addr → Prop} {H H' : Hp} (f : Fs A A' H H') : XT (hid H fun a => Z a ∨ a ∈ A) (hid H' fun a => Z a ∨ a ∈ A') := fun a o e t => by
  obtain ⟨m, em, hm⟩ := f.ext
  have q := of_hid e
  rw [hid_of]
  · exact f.fw.keep a o q.1 (fun z => q.2 (.inr z)) t
  · rintro (z | z)
    · exact q.2 (.inl z)
    · rw [em, List.mem_append] at z
      rcases z with z | z
      · exact q.2 (.inr z)
      · exact fr_not q.1 t (hm a z)
theorem Fs.fw' {A A' A0 : List Addr} {H H1 H' : Hp} (a : Fs A0 A H H1) (b : Fw (· ∈ A) H1 H') : Fs A0 A H H' := a.trans (Fs.of b)
theorem Fs.sub {A A' : List Addr} {H H' : Hp} (f : Fs A A' H H') : ∃ more, A' = A ++ more := let ⟨m, e, _⟩ := f.ext; ⟨m, e⟩

/-- what stands at a return: the value, the cells that were lent -/
def RetOk (K : PySem.W.Frag) (T : List (Addr × Str)) (A : List Addr) (Z : Addr → Prop) (n0 : Nat) (H H' : Hp) (v : V) (d : D) (μ' : List Cell) : Prop :=
  Fw (· ∈ A) H H' ∧ LamX.Tabs T H' ∧ n0 ≤ μ'.length ∧ (∀ (k : Nat) (c : Cell) (a : Addr), k < n0 → μ'[k]? = some c → A[k]? = some a → CellAt K (hid H' fun a => Z a ∨ a ∈ A.take n0) H' a c) ∧
    Rp K (hid H' fun a => Z a ∨ a ∈ A.take n0) v d
def AftS (K : PySem.W.Frag) (T : List (Addr × Str)) (Φ : Fx) (A : List Addr) (Z : Addr → Prop) (n0 : Nat) (H : Hp) (Dn : Ends) : Fl → Prop
  | .next ρ' μ' => ∀ σ' H' A', Fs A A' H H' → Rep K T Φ A' Z σ' H' ρ' μ' → Dn.nx σ' H'
  | .brk ρ' μ' => ∀ σ' H' A', Fs A A' H H' → Rep K T Φ A' Z σ' H' ρ' μ' → Dn.bk σ' H'
  | .cont ρ' μ' => ∀ σ' H' A', Fs A A' H H' → Rep K T Φ A' Z σ' H' ρ' μ' → Dn.ct σ' H'
  | .ret d μ' => ∀ v H', RetOk K T A Z n0 H H' v d μ' → Dn.rt v H'
def tS (K : PySem.W.Frag) (T : List (Addr × Str)) (Φ : Fx) (m : MS) : TS := fun Dn σ H => ∃ A Z n0 ρ μ fl, Rep K T Φ A Z σ H ρ μ ∧ n0 ≤ A.length ∧ m n0 ρ μ = some fl ∧ AftS K T Φ A Z n0 H Dn fl
def tG (K : PySem.W.Frag) (T : List (Addr × Str)) (Φ : Fx) (g : MG) : TG := fun v σ H Q => ∃ A Z ρ μ d ρ' μ', Rep K T Φ A Z σ H ρ μ ∧ Rp K (hid H fun a => Z a ∨ a ∈ A) v d ∧ g d ρ μ = some (ρ', μ') ∧
  ∀ σ' H', Fw (· ∈ A) H H' → Rep K T Φ A Z σ' H' ρ' μ' → Q σ' H'
abbrev PDs (X : Cx) (T : List (Addr × Str)) (Φ : Fx) (st : Stmt) (m : MS) : Prop := PS X st (tS X.K T Φ m)
abbrev PDss (X : Cx) (T : List (Addr × Str)) (Φ : Fx) (st : List Stmt) (m : MS) : Prop := PSs X st (tS X.K T Φ m)
abbrev PDg (X : Cx) (T : List (Addr × Str)) (Φ : Fx) (tg : Expr) (g : MG) : Prop := PG X tg (tG X.K T Φ g)
theorem PS.cons {X : Cx} {e : Stmt} {t t' : TS} (h : PS X e t) (hc : ∀ D σ H, t' D σ H → t D σ H) : PS X e t' := ⟨fun pins s σ H D I q => h.run pins s σ H D I (hc D σ H q)⟩
theorem PSs.cons {X : Cx} {e : List Stmt} {t t' : TS} (h : PSs X e t) (hc : ∀ D σ H, t' D σ H → t D σ H) : PSs X e t' := ⟨fun pins s σ H D I q => h.run pins s σ H D I (hc D σ H q)⟩
theorem PG.cons {X : Cx} {e : Expr} {t t' : TG} (h : PG X e t) (hc : ∀ v σ H Q, t' v σ H Q → t v σ H Q) : PG X e t' := ⟨fun pins s σ H v u Q I r q => h.run pins s σ H v u Q I r (hc v σ H Q q)⟩

section
variable {K : PySem.W.Frag} {T : List (Addr × Str)} {Φ : Fx} {A A' : List Addr} {Z : Addr → Prop} {σ : L2.St} {H H' : Hp} {ρ : List Slot} {μ : List Cell} {B : Nat → Bool}
theorem RetOk.later {n0 : Nat} {H1 : Hp} {v : V} {d : D} {μ' : List Cell} (hn : n0 ≤ A.length) (f : Fs A A' H H1) (h : RetOk K T A' Z n0 H1 H' v d μ') : RetOk K T A Z n0 H H' v d μ' := by
  obtain ⟨f1, tb, hl, hc, hp⟩ := h
  obtain ⟨m, em, hm⟩ := f.ext
  have et : A'.take n0 = A.take n0 := by rw [em, List.take_append_of_le_length hn]
  refine ⟨⟨fun c o e n t => f1.keep c o (f.fw.keep c o e n t) ?_ t, fun c h => f.fw.there c (f1.there c h)⟩, tb, hl, fun k c a hk e1 e2 => ?_, by rw [← et]; exact hp⟩
  · rw [em, List.mem_append]
    rintro (z | z)
    · exact n z
    · exact fr_not e t (hm c z)
  · rw [← et]
    refine hc k c a hk e1 ?_
    rw [em, List.getElem?_append_left (Nat.lt_of_lt_of_le hk hn)]
    exact e2
theorem AftS.later {n0 : Nat} {H1 : Hp} {Dn : Ends} {fl : Fl} (hn : n0 ≤ A.length) (f : Fs A A' H H1) (k : AftS K T Φ A Z n0 H Dn fl) : AftS K T Φ A' Z n0 H1 Dn fl := by
  cases fl with
  | next ρ2 μ2 => exact fun σ2 H2 A2 f2 R2 => k σ2 H2 A2 (f.trans f2) R2
  | brk ρ2 μ2 => exact fun σ2 H2 A2 f2 R2 => k σ2 H2 A2 (f.trans f2) R2
  | cont ρ2 μ2 => exact fun σ2 H2 A2 f2 R2 => k σ2 H2 A2 (f.trans f2) R2
  | ret d μ2 => exact fun v H2 q => k v H2 (q.later hn f)
/-- a slot gets a datum -/
theorem Rep.setVal (R : Rep K T Φ A Z σ H ρ μ) (i : Nat) {v : V} {d : D} (h : Rp K (hid H fun a => Z a ∨ a ∈ A) v d) : Rep K T Φ A Z (σ.set i (some v)) H (ρ.set i (.val d)) μ where
  len := by rw [List.length_set, List.length_set]; exact R.len
  alen := R.alen
  nd := R.nd
  zo := R.zo
  tabs := R.tabs
  cell := R.cell
  slot := fun j s e => by
    by_cases hj : i = j
    · subst hj
      by_cases hl : i < ρ.length
      · rw [List.getElem?_set_self hl] at e
        cases e
        exact ⟨v, List.getElem?_set_self (by rw [← R.len]; exact hl), h⟩
      · rw [List.getElem?_eq_none (by rw [List.length_set]; omega)] at e; cases e
    · rw [List.getElem?_set_ne hj] at e
      rw [List.getElem?_set_ne hj]
      exact R.slot j s e
end

/-! ### targets -/
def gN (i : Nat) : MG := fun d ρ μ => some (ρ.set i (.val d), μ)
abbrev MGs := List D → List Slot → List Cell → Option (List Slot × List Cell)
def gsN : MGs := fun ds ρ μ => if ds.isEmpty then some (ρ, μ) else none
def gsC (g : MG) (r : MGs) : MGs := fun ds ρ μ => match ds with
  | d :: ds => (g d ρ μ).bind fun p => r ds p.1 p.2
  | [] => none
def gT (n : Nat) (g : MGs) : MG := fun d ρ μ => match d with
  | .tuple ds => if ds.length = n then g ds ρ μ else none
  | _ => none
def tGs (K : PySem.W.Frag) (T : List (Addr × Str)) (Φ : Fx) (g : MGs) : TGs := fun vs σ H Q => ∃ A Z ρ μ ds ρ' μ', Rep K T Φ A Z σ H ρ μ ∧ RpA K (hid H fun a => Z a ∨ a ∈ A) vs ds ∧ g ds ρ μ = some (ρ', μ') ∧
  ∀ σ' H', Fw (· ∈ A) H H' → Rep K T Φ A Z σ' H' ρ' μ' → Q σ' H'
abbrev PDgs (X : Cx) (T : List (Addr × Str)) (Φ : Fx) (tg : List Expr) (g : MGs) : Prop := PGs X tg (tGs X.K T Φ g)
theorem PGs.cons {X : Cx} {e : List Expr} {t t' : TGs} (h : PGs X e t) (hc : ∀ v σ H Q, t' v σ H Q → t v σ H Q) : PGs X e t' := ⟨fun pins s σ H v u Q I r q => h.run pins s σ H v u Q I r (hc v σ H Q q)⟩
section
variable {X : Cx} {T : List (Addr × Str)} {Φ : Fx} {B : Nat → Bool} {pos : Pos}
theorem pg_n (i : Nat) {x : Str} (hN : X.N.Nodup) (hi : X.N[i]? = some x := by rfl) (hx : Loc X.env.scope x := by first | exact Or.inl rfl | exact Or.inr rfl) (hf : X.fn x = true ∨ X.env.scope.names.lookup x = some .local := by first | exact .inl rfl | exact .inr rfl) : PDg X T Φ (.Name x pos) (gN i) :=
  PG.cons (pg_name hN hi hx hf) fun v σ H Q ⟨A, Z, ρ, μ, d, ρ', μ', R, hp, hg, k⟩ => by
    cases hg
    exact k _ H (Fw.refl _ _) (R.setVal i hp)
theorem pgs_n : PDgs X T Φ [] gsN := PGs.cons pgs_nil fun vs σ H Q ⟨A, Z, ρ, μ, ds, ρ', μ', R, hp, hg, k⟩ => by
  unfold gsN at hg
  cases ds with
  | nil => cases hg; exact ⟨hp, k σ H (Fw.refl _ _) R⟩
  | cons d ds => cases hg
theorem pgs_c {e : Expr} {es : List Expr} {g : MG} {gs : MGs} (h1 : PDg X T Φ e g) (h2 : PDgs X T Φ es gs) (hs : (assignEach (e :: es) X.env).map (·.2) = assign e X.env :: (assignEach es X.env).map (·.2) := by rfl) : PDgs X T Φ (e :: es) (gsC g gs) :=
  PGs.cons (pgs_cons h1 h2 hs) fun vs σ H Q ⟨A, Z, ρ, μ, ds, ρ', μ', R, hp, hg, k⟩ => by
    unfold gsC at hg
    cases ds with
    | nil => cases hg
    | cons d ds =>
      obtain ⟨v, r, rfl, hp1, hp2⟩ := hp
      have hg : (g d ρ μ).bind (fun p => gs ds p.1 p.2) = some (ρ', μ') := hg
      cases e1 : g d ρ μ with
      | none => rw [e1] at hg; cases hg
      | some p =>
        rw [e1, Option.bind_some] at hg
        refine ⟨v, r, rfl, A, Z, ρ, μ, d, p.1, p.2, R, hp1, e1, fun σ1 H1 f1 R1 => ⟨A, Z, p.1, p.2, ds, ρ', μ', R1, RpA.mono (f1.xt fun _ h => .inr h) _ _ hp2, hg, fun σ2 H2 f2 R2 => k σ2 H2 (f1.trans f2) R2⟩⟩
theorem pg_t {es : List Expr} {j n : Nat} {gs : MGs} (hc : X.calm = true) (h : PDgs X T Φ es gs) (hn : (assignEach es X.env).length = n := by rfl) (hst : (assignEach es X.env).findIdx? (·.1) = none := by rfl) : PDg X T Φ (.Tuple es j pos) (gT n gs) :=
  PG.cons (pg_tup hc h hn hst) fun v σ H Q ⟨A, Z, ρ, μ, d, ρ', μ', R, hp, hg, k⟩ => by
    unfold gT at hg
    split at hg
    · rename_i ds
      split at hg
      · rename_i hl
        obtain ⟨a, xs, rfl, h1, h2⟩ := hp
        exact ⟨a, xs, rfl, hid_sqT h1.sq, by rw [h2.length]; exact hl, A, Z, ρ, μ, ds, ρ', μ', R, h2, hg, k⟩
      · cases hg
    · cases hg
end

/-! ### statements -/
def sNil : MS := fun _ ρ μ => some (.next ρ μ)
def sSeq (a b : MS) : MS := fun n ρ μ => (a n ρ μ).bind fun fl => match fl with
  | .next ρ' μ' => b n ρ' μ'
  | fl => some fl
def sIf (t : MT) (a b : MS) : MS := fun n ρ μ => (t ρ μ).bind fun p => if p.1 = true then a n ρ p.2 else b n ρ p.2
def sEx (a : ME) : MS := fun _ ρ μ => (a ρ μ).bind fun p => some (.next ρ p.2)
/-- the value told may be read of the names in B, if these are cells of this frame's own -/
def okB (B : Nat → Bool) (n0 : Nat) (ρ : List Slot) : Bool := ρ.zipIdx.all fun p => match p.1 with
  | .own k => !B p.2 || decide (n0 ≤ k)
  | _ => true
def sRet (B : Nat → Bool) (a : ME) : MS := fun n ρ μ => (a ρ μ).bind fun p => if okB B n ρ || flat p.1 then some (.ret p.1 p.2) else none
def sRetN : MS := fun _ _ μ => some (.ret .none μ)
def sAs (a : ME) (g : MG) : MS := fun _ ρ μ => (a ρ μ).bind fun p => (g p.1 ρ p.2).bind fun q => some (.next q.1 q.2)
/-- the value is flat: it may be read of cells -/
def sAsF (a : ME) (g : MG) : MS := fun _ ρ μ => (a ρ μ).bind fun p => if flat p.1 then (g p.1 ρ p.2).bind fun q => some (.next q.1 q.2) else none
def sNever : MS := fun _ _ _ => none
section
variable {X : Cx} {T : List (Addr × Str)} {Φ : Fx} {B : Nat → Bool} {a b c : Expr} {es : List Expr} {ma mb mc : ME} {mt : MT} {pos : Pos} {st : Stmt} {sts : List Stmt} {ms mr : MS} {g : MG}
theorem ss_nil : PDss X T Φ [] sNil := PSs.cons pss_nil fun Dn σ H ⟨A, Z, n0, ρ, μ, fl, R, hn, hm, k⟩ => by
  cases hm
  exact k σ H A (Fs.refl _ _) R
theorem seq_of (Dn : Ends) (σ : L2.St) (H : Hp) (h : tS X.K T Φ (sSeq ms mr) Dn σ H) : tSeq (tS X.K T Φ ms) (tS X.K T Φ mr) Dn σ H := by
  obtain ⟨A, Z, n0, ρ, μ, fl, R, hn, hm, k⟩ := h
  unfold sSeq at hm
  cases e : ms n0 ρ μ with
  | none => rw [e] at hm; cases hm
  | some f1 =>
    rw [e, Option.bind_some] at hm
    refine ⟨A, Z, n0, ρ, μ, f1, R, hn, e, ?_⟩
    cases f1 with
    | next ρ1 μ1 =>
      intro σ1 H1 A1 f1 R1
      obtain ⟨m1, em, hm1⟩ := f1.ext
      exact ⟨A1, Z, n0, ρ1, μ1, fl, R1, by rw [em, List.length_append]; omega, hm, k.later hn f1⟩
    | brk ρ1 μ1 => cases hm; exact k
    | cont ρ1 μ1 => cases hm; exact k
    | ret d μ1 => cases hm; exact k
theorem ss_c (h1 : PDs X T Φ st ms) (h2 : PDss X T Φ sts mr) : PDss X T Φ (st :: sts) (sSeq ms mr) := PSs.cons (pss_cons h1 h2) seq_of
theorem ss_1 (h1 : PDs X T Φ st ms) : PDss X T Φ [st] ms := pss_one h1
theorem s_never : PDs X T Φ st sNever := PS.cons ps_never fun Dn σ H ⟨A, Z, n0, ρ, μ, fl, R, hn, hm, k⟩ => by cases hm
theorem s_pass : PDs X T Φ (.Pass pos) sNil := PS.cons ps_pass fun Dn σ H ⟨A, Z, n0, ρ, μ, fl, R, hn, hm, k⟩ => by
  cases hm
  exact k σ H A (Fs.refl _ _) R
theorem s_doc {x : Str} {j : Nat} {pos' : Pos} : PDs X T Φ (.Expr (.Constant (.str x) j pos) pos') sNil := PS.cons ps_doc fun Dn σ H ⟨A, Z, n0, ρ, μ, fl, R, hn, hm, k⟩ => by
  cases hm
  exact k σ H A (Fs.refl _ _) R
def sBrk : MS := fun _ ρ μ => some (.brk ρ μ)
def sCont : MS := fun _ ρ μ => some (.cont ρ μ)
theorem s_brk : PDs X T Φ (.Break pos) sBrk := PS.cons ps_break fun Dn σ H ⟨A, Z, n0, ρ, μ, fl, R, hn, hm, k⟩ => by
  cases hm
  exact k σ H A (Fs.refl _ _) R
theorem s_cont : PDs X T Φ (.Continue pos) sCont := PS.cons ps_continue fun Dn σ H ⟨A, Z, n0, ρ, μ, fl, R, hn, hm, k⟩ => by
  cases hm
  exact k σ H A (Fs.refl _ _) R
theorem s_ex (ha : PDe X T Φ B a ma) (hs : swapsWith a none pos.line X.env = pure false := by rfl) : PDs X T Φ (.Expr a pos) (sEx ma) := PS.cons (ps_expr ha hs) fun Dn σ H ⟨A, Z, n0, ρ, μ, fl, R, hn, hm, k⟩ => by
  unfold sEx at hm
  cases e : ma ρ μ with
  | none => rw [e] at hm; cases hm
  | some p =>
    rw [e] at hm; cases hm
    exact ⟨A, Z, ρ, μ, p.1, p.2, R, e, fun v H1 f1 R1 p1 => k σ H1 A (Fs.of (f1.mono fun _ h => h.mem)) R1⟩
theorem okB_own {n0 : Nat} {ρ : List Slot} (h : okB B n0 ρ = true) {i k : Nat} (hB : B i = true) (e : ρ[i]? = some (.own k)) : n0 ≤ k := by
  unfold okB at h
  rw [List.all_eq_true] at h
  have hm : (Slot.own k, i) ∈ ρ.zipIdx := by
    rw [List.mem_zipIdx_iff_getElem?]
    exact e
  have q := h _ hm
  simpa [hB] using q
theorem CellAt.hid {K : PySem.W.Frag} {H : Hp} {Z Z' : Addr → Prop} {a : Addr} {c : Cell} (h : CellAt K (hid H Z) H a c) (e : ∀ x, Z' x → Z x) : CellAt K (PD.hid H Z') H a c := h.xt (hid_le e) fun o q _ => q
theorem ret_of {A : List Addr} {Z : Addr → Prop} {n0 : Nat} {σ : L2.St} {H H1 : Hp} {ρ : List Slot} {μ1 : List Cell} {v : V} {d : D} (hn : n0 ≤ A.length) (ho : (okB B n0 ρ || flat d) = true) (f1 : Fw (Wr B ρ A) H H1) (R1 : Rep X.K T Φ A Z σ H1 ρ μ1)
    (p1 : Rp X.K (hid H1 (Zw B ρ A Z)) v d) : RetOk X.K T A Z n0 H H1 v d μ1 := by
  refine ⟨f1.mono fun _ h => h.mem, R1.tabs, by rw [← R1.alen]; exact hn, fun k c a hk e1 e2 => (R1.cell k c a e1 e2).hid fun x h => h.elim .inl fun z => .inr (List.mem_of_mem_take z), ?_⟩
  rcases Bool.or_eq_true_iff.mp ho with ho | ho
  · refine Rp.mono (hid_le fun a z => ?_) _ _ p1
    rcases z with z | z
    · exact .inl z
    · obtain ⟨k, hk⟩ := List.mem_iff_getElem?.mp z
      have hkn : k < n0 := by
        have := (List.getElem?_eq_some_iff.mp hk).1
        rw [List.length_take] at this
        omega
      rw [List.getElem?_take_of_lt hkn] at hk
      exact .inr ⟨k, hk, fun ⟨i, hB, e⟩ => absurd (okB_own ho hB e) (by omega)⟩
  · exact Rp.ofFlat (R1.tus fun _ z => z.elim (fun z => .inl (.inl z)) fun z => .inr (List.mem_of_mem_take z)) _ _ ho p1
theorem s_ret (ha : PDe X T Φ B a ma) : PDs X T Φ (.Return (some a) pos) (sRet B ma) := PS.cons (ps_ret ha) fun Dn σ H ⟨A, Z, n0, ρ, μ, fl, R, hn, hm, k⟩ => by
  unfold sRet at hm
  cases e : ma ρ μ with
  | none => rw [e] at hm; cases hm
  | some p =>
    rw [e, Option.bind_some] at hm
    split at hm
    · rename_i ho
      cases hm
      exact ⟨A, Z, ρ, μ, p.1, p.2, R, e, fun v H1 f1 R1 p1 => k v H1 (ret_of hn ho f1 R1 p1)⟩
    · cases hm
theorem s_retN : PDs X T Φ (.Return none pos) sRetN := PS.cons ps_retN fun Dn σ H ⟨A, Z, n0, ρ, μ, fl, R, hn, hm, k⟩ => by
  cases hm
  exact k .non H (ret_of (B := B0) (d := .none) hn (by simp [flat]) (Fw.refl _ _) R rfl)
theorem if_of (Dn : Ends) (σ : L2.St) (H : Hp) (h : tS X.K T Φ (sIf mt ms mr) Dn σ H) : tIfS (tT X.K T Φ B mt) (tS X.K T Φ ms) (tS X.K T Φ mr) Dn σ H := by
  obtain ⟨A, Z, n0, ρ, μ, fl, R, hn, hm, k⟩ := h
  unfold sIf at hm
  cases e : mt ρ μ with
  | none => rw [e] at hm; cases hm
  | some p =>
    rw [e, Option.bind_some] at hm
    obtain ⟨t, μ1⟩ := p
    refine ⟨A, Z, ρ, μ, t, μ1, R, e, fun H1 f1 R1 => ?_⟩
    have fs : Fs A A H H1 := Fs.of (f1.mono fun _ h => h.mem)
    have k' := AftS.later hn fs k
    cases t with
    | true => exact iteT ⟨A, Z, n0, ρ, μ1, fl, R1, hn, hm, k'⟩
    | false => exact iteF ⟨A, Z, n0, ρ, μ1, fl, R1, hn, hm, k'⟩
theorem s_if (hc : PDt X T Φ B c mt) (ha : PDss X T Φ sts ms) {sts' : List Stmt} (hb : PDss X T Φ sts' mr) : PDs X T Φ (.If c sts sts' pos) (sIf mt ms mr) := PS.cons (ps_if hc ha hb) if_of
theorem asg_of (Dn : Ends) (σ : L2.St) (H : Hp) (h : tS X.K T Φ (sAs ma g) Dn σ H) : tAsg (tE X.K T Φ B0 ma) (tG X.K T Φ g) Dn σ H := by
  obtain ⟨A, Z, n0, ρ, μ, fl, R, hn, hm, k⟩ := h
  unfold sAs at hm
  cases e : ma ρ μ with
  | none => rw [e] at hm; cases hm
  | some p =>
    rw [e, Option.bind_some] at hm
    cases e' : g p.1 ρ p.2 with
    | none => rw [e'] at hm; cases hm
    | some q =>
      rw [e'] at hm; cases hm
      refine ⟨A, Z, ρ, μ, p.1, p.2, R, e, fun v H1 f1 R1 p1 => ⟨A, Z, ρ, p.2, p.1, q.1, q.2, R1, Rp.mono (hid_le fun a h => zw0.mpr h) _ _ p1, e', fun σ2 H2 f2 R2 => ?_⟩⟩
      exact k σ2 H2 A (Fs.of ((f1.mono fun _ h => h.mem).trans f2)) R2
theorem asgF_of (Dn : Ends) (σ : L2.St) (H : Hp) (h : tS X.K T Φ (sAsF ma g) Dn σ H) : tAsg (tE X.K T Φ B ma) (tG X.K T Φ g) Dn σ H := by
  obtain ⟨A, Z, n0, ρ, μ, fl, R, hn, hm, k⟩ := h
  unfold sAsF at hm
  cases e : ma ρ μ with
  | none => rw [e] at hm; cases hm
  | some p =>
    rw [e, Option.bind_some] at hm
    split at hm
    · rename_i hfl
      cases e' : g p.1 ρ p.2 with
      | none => rw [e'] at hm; cases hm
      | some q =>
        rw [e'] at hm; cases hm
        refine ⟨A, Z, ρ, μ, p.1, p.2, R, e, fun v H1 f1 R1 p1 => ⟨A, Z, ρ, p.2, p.1, q.1, q.2, R1, ?_, e', fun σ2 H2 f2 R2 => ?_⟩⟩
        · exact Rp.ofFlat (R1.tus fun _ z => z.elim (fun z => .inl (.inl z)) .inr) _ _ hfl p1
        · exact k σ2 H2 A (Fs.of ((f1.mono fun _ h => h.mem).trans f2)) R2
    · cases hm
theorem s_as {tg : Expr} (ha : PDe X T Φ B0 a ma) (hg : PDg X T Φ tg g) (hs : swapsWithSole [tg] a pos.line X.env = pure false := by rfl) (hw : swappedStores [tg] a X.env = pure none := by rfl) (h1 : (assignEach [tg] X.env).map (·.2) = [assign tg X.env] := by rfl) :
    PDs X T Φ (.Assign [tg] a pos) (sAs ma g) := PS.cons (ps_asg ha hg hs hw h1) asg_of
theorem s_asF {tg : Expr} (ha : PDe X T Φ B a ma) (hg : PDg X T Φ tg g) (hs : swapsWithSole [tg] a pos.line X.env = pure false := by rfl) (hw : swappedStores [tg] a X.env = pure none := by rfl) (h1 : (assignEach [tg] X.env).map (·.2) = [assign tg X.env] := by rfl) :
    PDs X T Φ (.Assign [tg] a pos) (sAsF ma g) := PS.cons (ps_asg ha hg hs hw h1) asgF_of
/-- name = value -/
theorem s_set (i : Nat) {x : Str} {pos' : Pos} (hN : X.N.Nodup) (ha : PDe X T Φ B0 a ma) (hi : X.N[i]? = some x := by rfl) (hx : Loc X.env.scope x := by first | exact Or.inl rfl | exact Or.inr rfl) (hs : swapsWith a (some (.Name x pos')) pos.line X.env = pure false := by rfl)
    (hf : X.fn x = true ∨ X.env.scope.names.lookup x = some .local := by first | exact .inl rfl | exact .inr rfl) : PDs X T Φ (.Assign [.Name x pos'] a pos) (sAs ma (gN i)) := PS.cons (ps_set hN hi hx ha hs hf) fun Dn σ H ⟨A, Z, n0, ρ, μ, fl, R, hn, hm, k⟩ => by
  unfold sAs at hm
  cases e : ma ρ μ with
  | none => rw [e] at hm; cases hm
  | some p =>
    rw [e] at hm; cases hm
    refine ⟨A, Z, ρ, μ, p.1, p.2, R, e, fun v H1 f1 R1 p1 => ?_⟩
    exact k _ H1 A (Fs.of (f1.mono fun _ h => h.mem)) (R1.setVal i (Rp.mono (hid_le fun a h => zw0.mpr h) _ _ p1))
theorem s_setF (i : Nat) {x : Str} {pos' : Pos} (hN : X.N.Nodup) (ha : PDe X T Φ B a ma) (hi : X.N[i]? = some x := by rfl) (hx : Loc X.env.scope x := by first | exact Or.inl rfl | exact Or.inr rfl) (hs : swapsWith a (some (.Name x pos')) pos.line X.env = pure false := by rfl)
    (hf : X.fn x = true ∨ X.env.scope.names.lookup x = some .local := by first | exact .inl rfl | exact .inr rfl) : PDs X T Φ (.Assign [.Name x pos'] a pos) (sAsF ma (gN i)) := PS.cons (ps_set hN hi hx ha hs hf) fun Dn σ H h => by
  obtain ⟨A, Z, n0, ρ, μ, fl, R, hn, hm, k⟩ := h
  unfold sAsF at hm
  cases e : ma ρ μ with
  | none => rw [e] at hm; cases hm
  | some p =>
    rw [e, Option.bind_some] at hm
    split at hm
    · rename_i hfl
      cases hm
      refine ⟨A, Z, ρ, μ, p.1, p.2, R, e, fun v H1 f1 R1 p1 => ?_⟩
      exact k _ H1 A (Fs.of (f1.mono fun _ h => h.mem)) (R1.setVal i (Rp.ofFlat (R1.tus fun _ z => z.elim (fun z => .inl (.inl z)) .inr) _ _ hfl p1))
    · cases hm
end
end PD
end
section
set_option linter.all false
set_option maxRecDepth 100000
set_option maxHeartbeats 4000000
/-! P4: loops; defs and their calls, cells lent to a call; cells made, filled, read. -/
namespace PD
open PySem PySem.Spec PyProof.Rows L2

/-! ### what is walked -/
/-- the walk J gives the data ds, as long as what Hv tells is to be seen -/
def ItOk (K : PySem.W.Frag) (J : It) (Hv : Hp) (ds : List D) : Prop := ∀ (H : Hp) (Z' : Addr → Prop), (∀ a, Z' a → H a ≠ none) → XT Hv (hid H Z') →
  (∀ i, ds.length ≤ i → J.stop i H) ∧ ∀ i d, ds[i]? = some d → J.go i H ∧ ∀ x H', J.yld i H x H' → Same H H' ∧ Rp K (hid H' Z') x d
def tI (K : PySem.W.Frag) (T : List (Addr × Str)) (Φ : Fx) (B : Nat → Bool) (m : MA) : TI := fun σ H R => ∃ A Z ρ μ ds μ', Rep K T Φ A Z σ H ρ μ ∧ m ρ μ = some (ds, μ') ∧
  ∀ J H', Fw (Wr B ρ A) H H' → Rep K T Φ A Z σ H' ρ μ' → ItOk K J (hid H' (Zw B ρ A Z)) ds → R J H'
abbrev PDi (X : Cx) (T : List (Addr × Str)) (Φ : Fx) (B : Nat → Bool) (tg e : Expr) (m : MA) : Prop := PI X tg e (tI X.K T Φ B m)
theorem PI.cons {X : Cx} {tg e : Expr} {t t' : TI} (h : PI X tg e t) (hc : ∀ σ H Q, t' σ H Q → t σ H Q) : PI X tg e t' := ⟨fun pins s σ H Q I q => h.run pins s σ H Q I (hc σ H Q q)⟩
/-- cells beyond the m-th are no cells any more: who holds one holds its list -/
def truncS (m : Nat) (μ : List Cell) : Slot → Slot
  | .own k => if k < m then .own k else match μ[k]? with
    | some (.lst xs) => .val (.list xs)
    | _ => .non
  | s => s
theorem Rep.trunc {K : PySem.W.Frag} {T : List (Addr × Str)} {Φ : Fx} {A : List Addr} {Z : Addr → Prop} {σ : L2.St} {H : Hp} {ρ : List Slot} {μ : List Cell} (R : Rep K T Φ A Z σ H ρ μ) (m : Nat) : Rep K T Φ (A.take m) Z σ H (ρ.map (truncS m μ)) (μ.take m) := by
  have le : ∀ a, (Z a ∨ a ∈ A.take m) → (Z a ∨ a ∈ A) := fun a h => h.elim .inl fun z => .inr (List.mem_of_mem_take z)
  refine ⟨by rw [List.length_map]; exact R.len, by rw [List.length_take, List.length_take, R.alen], R.nd.sublist (List.take_sublist _ _), fun a z => ⟨fun h => (R.zo a z).1 (List.mem_of_mem_take h), (R.zo a z).2⟩, R.tabs, fun k c a e1 e2 => ?_, fun i s e => ?_⟩
  · have hk : k < m := by have := (List.getElem?_eq_some_iff.mp e1).1; rw [List.length_take] at this; omega
    rw [List.getElem?_take_of_lt hk] at e1 e2
    exact (R.cell k c a e1 e2).hid le
  · rw [List.getElem?_map] at e
    cases e0 : ρ[i]? with
    | none => rw [e0] at e; cases e
    | some s0 =>
      rw [e0] at e
      have e : truncS m μ s0 = s := Option.some.inj e
      have q := (R.slot i s0 e0).xt (hid_le (H := H) le)
      cases s0 with
      | non => rw [← e]; trivial
      | val d => rw [← e]; exact q
      | fn G => rw [← e]; exact q
      | own k =>
        obtain ⟨a, h1, h2⟩ := q
        unfold truncS at e
        dsimp only at e
        split at e
        · rename_i hk
          rw [← e]
          exact ⟨a, by rw [List.getElem?_take_of_lt hk]; exact h1, h2⟩
        · rename_i hk
          split at e
          · rename_i xs em
            rw [← e]
            obtain ⟨vs, h3, h4⟩ := R.cell k _ a em h1
            refine ⟨.ref a, h2, a, vs, rfl, hid_rd_of (.inl h3) ?_, RpA.mono (hid_le le) _ _ h4⟩
            rintro (z | z)
            · exact (R.zo a z).1 (List.mem_of_getElem? h1)
            · obtain ⟨k', h5⟩ := List.mem_iff_getElem?.mp z
              have hk' : k' < m := by have := (List.getElem?_eq_some_iff.mp h5).1; rw [List.length_take] at this; omega
              rw [List.getElem?_take_of_lt hk'] at h5
              obtain ⟨l1, q1⟩ := List.getElem?_eq_some_iff.mp h5
              obtain ⟨l2, q2⟩ := List.getElem?_eq_some_iff.mp h1
              have := (List.getElem_inj R.nd).mp (q1.trans q2.symm)
              omega
          · rw [← e]; trivial
def forD (g : MG) (b : MS) (n0 m : Nat) : List D → List Slot → List Cell → Option Fl
  | [], ρ, μ => some (.next ρ μ)
  | d :: ds, ρ, μ => (g d ρ μ).bind fun p => (b n0 p.1 p.2).bind fun fl => match fl with
    | .next ρ' μ' => forD g b n0 m ds (ρ'.map (truncS m μ')) (μ'.take m)
    | .cont ρ' μ' => forD g b n0 m ds (ρ'.map (truncS m μ')) (μ'.take m)
    | .brk ρ' μ' => some (.next ρ' μ')
    | .ret d μ' => some (.ret d μ')
def sFor (mi : MA) (g : MG) (b : MS) : MS := fun n ρ μ => (mi ρ μ).bind fun p => forD g b n p.2.length p.1 ρ p.2
section
variable {X : Cx} {T : List (Addr × Str)} {Φ : Fx} {B : Nat → Bool} {tg it c : Expr} {mi : MA} {mt : MT} {pos : Pos} {sts : List Stmt} {ms : MS} {g : MG}
theorem for_of (Dn : Ends) (σ : L2.St) (H : Hp) (h : tS X.K T Φ (sFor mi g ms) Dn σ H) : tFor (tI X.K T Φ B0 mi) (tG X.K T Φ g) (tS X.K T Φ ms) Dn σ H := by
  obtain ⟨A, Z, n0, ρ, μ, fl, R, hn, hm, k⟩ := h
  unfold sFor at hm
  cases e : mi ρ μ with
  | none => rw [e] at hm; cases hm
  | some p =>
    rw [e, Option.bind_some] at hm
    obtain ⟨ds, μ1⟩ := p
    refine ⟨A, Z, ρ, μ, ds, μ1, R, e, fun J H1 f1 R1 it => ?_⟩
    have it : ItOk X.K J (hid H1 fun a => Z a ∨ a ∈ A) ds := by
      intro H2 Z2 hz hx
      refine it H2 Z2 hz fun a o e t => hx a o ?_ t
      have q := of_hid e
      rw [hid_of fun z => q.2 (zw0.mpr z)]
      exact q.1
    have hm' : forD g ms n0 A.length ds ρ μ1 = some fl := by rw [R1.alen]; exact hm
    refine ⟨fun i m σ' H' => ∃ ρ' μ', m = ds.length - i ∧ Rep X.K T Φ A Z σ' H' ρ' μ' ∧ forD g ms n0 A.length (ds.drop i) ρ' μ' = some fl ∧ Fs A A H1 H',
      ⟨ds.length, ρ, μ1, by simp, R1, by simpa using hm', Fs.refl _ _⟩, ?_⟩
    rintro i m σ' H' ⟨ρ', μ', em, R', hf, fs⟩
    have k' : AftS X.K T Φ A Z n0 H' Dn fl := k.later hn ((Fs.of (f1.mono fun _ h => h.mem)).trans fs)
    obtain ⟨hs, hg⟩ := it H' (fun a => Z a ∨ a ∈ A) (fun a z => z.elim (fun z e => (R'.zo a z).2 (.inl e)) fun z => by obtain ⟨vs, e, _⟩ := R'.cellAt z; rw [e]; intro q; cases q) fs.xt
    by_cases hi : i < ds.length
    · right
      have ed : ds[i]? = some ds[i] := List.getElem?_eq_getElem hi
      obtain ⟨go, yl⟩ := hg i ds[i] ed
      refine ⟨go, fun σ2 H2 => ∃ ρ2 μ2, Rep X.K T Φ A Z σ2 H2 ρ2 μ2 ∧ forD g ms n0 A.length (ds.drop (i + 1)) ρ2 μ2 = some fl ∧ Fs A A H1 H2, fun σ2 H2 ⟨ρ2, μ2, a, b, c⟩ => ⟨ds.length - (i + 1), by omega, ρ2, μ2, rfl, a, b, c⟩, fun x H2 hy => ?_⟩
      obtain ⟨sm, px⟩ := yl x H2 hy
      rw [List.drop_eq_getElem_cons hi] at hf
      have hf : (g ds[i] ρ' μ').bind (fun p => (ms n0 p.1 p.2).bind fun fl => match fl with
        | .next ρ' μ' => forD g ms n0 A.length (ds.drop (i + 1)) (ρ'.map (truncS A.length μ')) (μ'.take A.length)
        | .cont ρ' μ' => forD g ms n0 A.length (ds.drop (i + 1)) (ρ'.map (truncS A.length μ')) (μ'.take A.length)
        | .brk ρ' μ' => some (.next ρ' μ')
        | .ret d μ' => some (.ret d μ')) = some fl := hf
      cases e1 : g ds[i] ρ' μ' with
      | none => rw [e1] at hf; cases hf
      | some p1 =>
        rw [e1, Option.bind_some] at hf
        cases e2 : ms n0 p1.1 p1.2 with
        | none => rw [e2] at hf; cases hf
        | some f2 =>
          rw [e2, Option.bind_some] at hf
          refine ⟨A, Z, ρ', μ', ds[i], p1.1, p1.2, R'.same sm, px, e1, fun σ3 H3 f3 R3 => ⟨A, Z, n0, p1.1, p1.2, f2, R3, hn, e2, ?_⟩⟩
          have fs3 : Fs A A H1 H3 := fs.trans ((Fs.of (Fw.same sm)).trans (Fs.of f3))
          have again : ∀ {ρ4 : List Slot} {μ4 : List Cell}, forD g ms n0 A.length (ds.drop (i + 1)) (ρ4.map (truncS A.length μ4)) (μ4.take A.length) = some fl → ∀ (σ' : L2.St) (H' : Hp) (A' : List Addr), Fs A A' H3 H' → Rep X.K T Φ A' Z σ' H' ρ4 μ4 →
              ∃ ρ2 μ2, Rep X.K T Φ A Z σ' H' ρ2 μ2 ∧ forD g ms n0 A.length (ds.drop (i + 1)) ρ2 μ2 = some fl ∧ Fs A A H1 H' := fun {ρ4 μ4} hq σ' H' A' f4 R4 => by
            obtain ⟨mo, em, hmo⟩ := f4.ext
            have et : A'.take A.length = A := by rw [em, List.take_left']; rfl
            have R5 := R4.trunc A.length
            rw [et] at R5
            exact ⟨_, _, R5, hq, fs3.trans (Fs.of f4.fw)⟩
          cases f2 with
          | next ρ4 μ4 => exact again hf
          | cont ρ4 μ4 => exact again hf
          | brk ρ4 μ4 =>
            cases hf
            exact fun σ4 H4 A4 f4 R4 => k'.later hn ((Fs.of (Fw.same sm)).trans (Fs.of f3)) σ4 H4 A4 f4 R4
          | ret d μ4 =>
            cases hf
            exact fun v H4 q => (k'.later hn ((Fs.of (Fw.same sm)).trans (Fs.of f3))) v H4 q
    · left
      have hi' : ds.length ≤ i := by omega
      refine ⟨hs i hi', ?_⟩
      rw [List.drop_eq_nil_of_le hi'] at hf
      have hf : some (Fl.next ρ' μ') = some fl := hf
      cases hf
      exact k' σ' H' A (Fs.refl _ _) R'
theorem s_for (hp : PassesOwn (model X.prog X.w) X.A X.env X.xe) (hc : X.calm = true) (hi : PDi X T Φ B0 tg it mi) (hg : PDg X T Φ tg g) (hb : PDss X T Φ sts ms) (hs : ∀ x, foldedSetIterable it X.env x = pure x := by intro _; rfl) :
    PDs X T Φ (.For tg it sts [] pos) (sFor mi g ms) := PS.cons (ps_for hp hc hi hg hb hs) for_of
/-! while: as many turns as it takes -/
def whD (t : MT) (b : MS) (m : Nat) : Nat → Nat → List Slot → List Cell → Option Fl
  | 0, _, _, _ => none
  | f + 1, n0, ρ, μ => (t ρ μ).bind fun p => if p.1 = true then (b n0 ρ p.2).bind fun fl => match fl with
      | .next ρ' μ' => whD t b m f n0 (ρ'.map (truncS m μ')) (μ'.take m)
      | .cont ρ' μ' => whD t b m f n0 (ρ'.map (truncS m μ')) (μ'.take m)
      | .brk ρ' μ' => some (.next ρ' μ')
      | .ret d μ' => some (.ret d μ')
    else some (.next ρ p.2)
theorem whD_mono {t : MT} {b : MS} {m : Nat} {fl : Fl} : ∀ {f n0 : Nat} {ρ : List Slot} {μ : List Cell}, whD t b m f n0 ρ μ = some fl → whD t b m (f + 1) n0 ρ μ = some fl
  | 0, _, _, _, h => by cases h
  | f + 1, n0, ρ, μ, h => by
    unfold whD at h ⊢
    cases e : t ρ μ with
    | none => rw [e] at h; cases h
    | some p =>
      rw [e, Option.bind_some] at h
      rw [Option.bind_some]
      split at h
      · rename_i ht
        rw [if_pos ht]
        cases e2 : b n0 ρ p.2 with
        | none => rw [e2] at h; cases h
        | some f2 =>
          rw [e2, Option.bind_some] at h
          rw [Option.bind_some]
          cases f2 with
          | next ρ4 μ4 => exact whD_mono h
          | cont ρ4 μ4 => exact whD_mono h
          | brk ρ4 μ4 => exact h
          | ret d μ4 => exact h
      · rename_i ht
        rw [if_neg ht]
        exact h
theorem whD_le {t : MT} {b : MS} {m : Nat} {fl : Fl} {f f' n0 : Nat} {ρ : List Slot} {μ : List Cell} (h : whD t b m f n0 ρ μ = some fl) (hl : f ≤ f') : whD t b m f' n0 ρ μ = some fl := by
  induction hl with
  | refl => exact h
  | step _ ih => exact whD_mono ih
noncomputable def sWhile (t : MT) (b : MS) : MS := fun n ρ μ => open Classical in if h : ∃ r, ∃ f, whD t b μ.length f n ρ μ = some r then some h.choose else none
theorem sWhile_of {t : MT} {b : MS} {n0 f : Nat} {ρ : List Slot} {μ : List Cell} {fl : Fl} (h : whD t b μ.length f n0 ρ μ = some fl) : sWhile t b n0 ρ μ = some fl := by
  have hex : ∃ r, ∃ f, whD t b μ.length f n0 ρ μ = some r := ⟨fl, f, h⟩
  unfold sWhile
  rw [dif_pos hex]
  obtain ⟨f', h'⟩ := hex.choose_spec
  have h1 := whD_le h (Nat.le_max_left f f')
  have h2 := whD_le h' (Nat.le_max_right f f')
  rw [h1] at h2
  exact h2.symm
theorem of_sWhile {t : MT} {b : MS} {n0 : Nat} {ρ : List Slot} {μ : List Cell} {fl : Fl} (h : sWhile t b n0 ρ μ = some fl) : ∃ f, whD t b μ.length f n0 ρ μ = some fl := by
  unfold sWhile at h
  split at h
  · rename_i hex
    have e : hex.choose = fl := Option.some.inj h
    obtain ⟨f, q⟩ := hex.choose_spec
    exact ⟨f, by rw [← e]; exact q⟩
  · cases h
theorem while_of (Dn : Ends) (σ : L2.St) (H : Hp) (h : tS X.K T Φ (sWhile mt ms) Dn σ H) : tWhile (tT X.K T Φ B mt) (tS X.K T Φ ms) Dn σ H := by
  obtain ⟨A, Z, n0, ρ, μ, fl, R, hn, hm, k⟩ := h
  obtain ⟨f, hf⟩ := of_sWhile hm
  rw [← R.alen] at hf
  refine ⟨fun m σ' H' => ∃ ρ' μ', Rep X.K T Φ A Z σ' H' ρ' μ' ∧ whD mt ms A.length m n0 ρ' μ' = some fl ∧ Fs A A H H', ⟨f, ρ, μ, R, hf, Fs.refl _ _⟩, ?_⟩
  rintro m σ' H' ⟨ρ', μ', R', hf, fs⟩
  cases m with
  | zero => cases hf
  | succ f =>
    unfold whD at hf
    cases e : mt ρ' μ' with
    | none => rw [e] at hf; cases hf
    | some p =>
      rw [e, Option.bind_some] at hf
      obtain ⟨c, μ1⟩ := p
      refine ⟨A, Z, ρ', μ', c, μ1, R', e, fun H1 f1 R1 => ?_⟩
      have fs1 : Fs A A H H1 := fs.trans (Fs.of (f1.mono fun _ h => h.mem))
      have k' : AftS X.K T Φ A Z n0 H1 Dn fl := k.later hn fs1
      cases c with
      | false =>
        refine iteF ?_
        have hf : some (Fl.next ρ' μ1) = some fl := hf
        cases hf
        exact k' σ' H1 A (Fs.refl _ _) R1
      | true =>
        refine iteT ?_
        have hf : ((ms n0 ρ' μ1).bind fun fl => match fl with
          | .next ρ' μ' => whD mt ms A.length f n0 (ρ'.map (truncS A.length μ')) (μ'.take A.length)
          | .cont ρ' μ' => whD mt ms A.length f n0 (ρ'.map (truncS A.length μ')) (μ'.take A.length)
          | .brk ρ' μ' => some (.next ρ' μ')
          | .ret d μ' => some (.ret d μ')) = some fl := hf
        cases e2 : ms n0 ρ' μ1 with
        | none => rw [e2] at hf; cases hf
        | some f2 =>
          rw [e2, Option.bind_some] at hf
          refine ⟨fun σ2 H2 => ∃ ρ2 μ2, Rep X.K T Φ A Z σ2 H2 ρ2 μ2 ∧ whD mt ms A.length f n0 ρ2 μ2 = some fl ∧ Fs A A H H2, fun σ2 H2 ⟨ρ2, μ2, a, b, c⟩ => ⟨f, by omega, ρ2, μ2, a, b, c⟩, ⟨A, Z, n0, ρ', μ1, f2, R1, hn, e2, ?_⟩⟩
          have again : ∀ {ρ4 : List Slot} {μ4 : List Cell}, whD mt ms A.length f n0 (ρ4.map (truncS A.length μ4)) (μ4.take A.length) = some fl → ∀ (σ' : L2.St) (H' : Hp) (A' : List Addr), Fs A A' H1 H' → Rep X.K T Φ A' Z σ' H' ρ4 μ4 →
              ∃ ρ2 μ2, Rep X.K T Φ A Z σ' H' ρ2 μ2 ∧ whD mt ms A.length f n0 ρ2 μ2 = some fl ∧ Fs A A H H' := fun {ρ4 μ4} hq σ' H' A' f4 R4 => by
            obtain ⟨mo, em, hmo⟩ := f4.ext
            have et : A'.take A.length = A := by rw [em, List.take_left']; rfl
            have R5 := R4.trunc A.length
            rw [et] at R5
            exact ⟨_, _, R5, hq, fs1.trans (Fs.of f4.fw)⟩
          cases f2 with
          | next ρ4 μ4 => exact again hf
          | cont ρ4 μ4 => exact again hf
          | brk ρ4 μ4 => cases hf; exact k'
          | ret d μ4 => cases hf; exact k'
theorem s_while (hp : PassesOwn (model X.prog X.w) X.A X.env X.xe) (hc : PDt X T Φ B c mt) (hb : PDss X T Φ sts ms) : PDs X T Φ (.While c sts [] pos) (sWhile mt ms) := PS.cons (ps_while hp hc hb) while_of
end

/-! ### cells made, filled -/
section
variable {K : PySem.W.Frag} {T : List (Addr × Str)} {Φ : Fx} {A : List Addr} {Z Z' : Addr → Prop} {σ : L2.St} {H : Hp} {ρ : List Slot} {μ : List Cell}
theorem Rep.weakZ (R : Rep K T Φ A Z σ H ρ μ) (h : ∀ a, Z' a → Z a) : Rep K T Φ A Z' σ H ρ μ :=
  have le : ∀ a, (Z' a ∨ a ∈ A) → (Z a ∨ a ∈ A) := fun a q => q.elim (fun z => .inl (h a z)) .inr
  ⟨R.len, R.alen, R.nd, fun a z => R.zo a (h a z), R.tabs, fun k c a e1 e2 => (R.cell k c a e1 e2).hid le, fun i s e => (R.slot i s e).xt (hid_le le)⟩
/-- one more address is hidden: a new one -/
theorem Rep.more (R : Rep K T Φ A Z σ H ρ μ) {a : Addr} {o : HO} (hn : H a = none) (ho : ∀ ps, o ≠ .tbl ps := by intro _ z; cases z) : Rep K T Φ A (fun x => Z x ∨ x = a) σ (upd H a o) ρ μ := by
  have xt : XT (hid H fun x => Z x ∨ x ∈ A) (hid (upd H a o) fun x => (Z x ∨ x = a) ∨ x ∈ A) := fun x u e t => by
    have q := of_hid e
    have nx : x ≠ a := ne_of_none q.1 hn
    rw [hid_of, upd_ne nx]
    · exact q.1
    · rintro ((z | z) | z)
      · exact q.2 (.inl z)
      · exact nx z
      · exact q.2 (.inr z)
  refine ⟨R.len, R.alen, R.nd, fun x z => ?_, R.tabs.ext (same_upd hn), fun k c x e1 e2 => (R.cell k c x e1 e2).xt xt fun u e t => ?_, fun i s e => (R.slot i s e).xt xt⟩
  · rcases z with z | z
    · exact ⟨(R.zo x z).1, fun e => (R.zo x z).2 ((Fw.same (W := fun _ => True) (same_upd hn)).there x e)⟩
    · subst z
      refine ⟨fun z => ?_, fun q => fr_not upd_same ho q⟩
      obtain ⟨vs, e, _⟩ := R.cellAt z
      rw [hn] at e; cases e
  · rw [upd_ne (ne_of_none e hn)]; exact e
/-- a new list becomes a cell, its name's slot the i-th -/
theorem Rep.pushC {a : Addr} {c0 : Cell} (R : Rep K T Φ A (fun x => Z x ∨ x = a) σ H ρ μ) (nz : ¬ Z a) (hc : CellAt K (hid H fun x => (Z x ∨ x = a) ∨ x ∈ A) H a c0) (i : Nat) :
    Rep K T Φ (A ++ [a]) Z (σ.set i (some (.ref a))) H (ρ.set i (.own μ.length)) (μ ++ [c0]) := by
  have na : a ∉ A := (R.zo a (.inr rfl)).1
  have le : XT (hid H fun x => (Z x ∨ x = a) ∨ x ∈ A) (hid H fun x => Z x ∨ x ∈ A ++ [a]) := hid_le fun x q => by
    rcases q with z | z
    · exact .inl (.inl z)
    · rcases List.mem_append.mp z with z | z
      · exact .inr z
      · exact .inl (.inr (by simpa using z))
  have up : ∀ {j : Nat} {x : Addr}, A[j]? = some x → (A ++ [a])[j]? = some x := fun {j x} e => by rw [List.getElem?_append_left (List.getElem?_eq_some_iff.mp e).1]; exact e
  refine ⟨by rw [List.length_set, List.length_set]; exact R.len, by rw [List.length_append, List.length_append, R.alen]; rfl, ?_, fun x z => ⟨fun h => ?_, (R.zo x (.inl z)).2⟩, R.tabs, fun k c x e1 e2 => ?_, fun j s e => ?_⟩
  · rw [List.nodup_append]
    exact ⟨R.nd, by simp, fun x hx y hy e => na (by rw [show y = a by simpa using hy] at e; rw [← e]; exact hx)⟩
  · rcases List.mem_append.mp h with h | h
    · exact (R.zo x (.inl z)).1 h
    · rw [show x = a by simpa using h] at z; exact nz z
  · by_cases hk : k < μ.length
    · rw [List.getElem?_append_left hk] at e1
      rw [List.getElem?_append_left (by rw [R.alen]; exact hk)] at e2
      exact (R.cell k c x e1 e2).xt le fun _ q _ => q
    · have ek : k = μ.length := by
        have := (List.getElem?_eq_some_iff.mp e1).1
        rw [List.length_append] at this
        simp at this
        omega
      subst ek
      rw [List.getElem?_append_right (Nat.le_refl _), Nat.sub_self] at e1
      rw [List.getElem?_append_right (by rw [R.alen]; exact Nat.le_refl _), R.alen, Nat.sub_self] at e2
      cases e1
      cases e2
      exact hc.xt le fun _ q _ => q
  · by_cases hj : i = j
    · subst hj
      by_cases hl : i < ρ.length
      · rw [List.getElem?_set_self hl] at e
        cases e
        exact ⟨a, by rw [List.getElem?_append_right (by rw [R.alen]; exact Nat.le_refl _), R.alen, Nat.sub_self]; rfl, List.getElem?_set_self (by rw [← R.len]; exact hl)⟩
      · rw [List.getElem?_eq_none (by rw [List.length_set]; omega)] at e; cases e
    · rw [List.getElem?_set_ne hj] at e
      rw [List.getElem?_set_ne hj]
      have q := (R.slot j s e).xt le
      cases s with
      | non => trivial
      | val d => exact q
      | fn G => exact q
      | own k => obtain ⟨x, q1, q2⟩ := q; exact ⟨x, up q1, q2⟩
theorem Rep.push {a : Addr} {vs : List V} {ds : List D} (R : Rep K T Φ A (fun x => Z x ∨ x = a) σ H ρ μ) (nz : ¬ Z a) (h1 : H a = some (.lst vs)) (h2 : RpA K (hid H fun x => (Z x ∨ x = a) ∨ x ∈ A) vs ds) (i : Nat) :
    Rep K T Φ (A ++ [a]) Z (σ.set i (some (.ref a))) H (ρ.set i (.own μ.length)) (μ ++ [.lst ds]) := R.pushC (c0 := .lst ds) nz ⟨vs, h1, h2⟩ i
/-- a cell is written -/
theorem Rep.putC (R : Rep K T Φ A Z σ H ρ μ) {k : Nat} {a : Addr} {o0 : HO} {c0 : Cell} (hk : A[k]? = some a) (ho : cellO o0 = true) (h : CellAt K (hid H fun x => Z x ∨ x ∈ A) (upd H a o0) a c0) : Rep K T Φ A Z σ (upd H a o0) ρ (μ.set k c0) := by
  have ma : a ∈ A := List.mem_of_getElem? hk
  have xt : XT (hid H fun x => Z x ∨ x ∈ A) (hid (upd H a o0) fun x => Z x ∨ x ∈ A) := fun x u e t => by
    have q := of_hid e
    rw [hid_of q.2, upd_ne (show x ≠ a from fun z => q.2 (.inr (by rw [z]; exact ma)))]
    exact q.1
  have nt : ∀ b o, H b = some o → cellO o = false → upd H a o0 b = some o := fun b o e n => by
    rw [upd_ne]
    · exact e
    · rintro rfl
      obtain ⟨w, e', co⟩ := R.cellAt ma
      rw [e] at e'
      cases e'
      rw [n] at co
      cases co
  refine ⟨R.len, by rw [List.length_set]; exact R.alen, R.nd, fun x z => ⟨(R.zo x z).1, fun e => ?_⟩, fun p hp => ?_, fun j c x e1 e2 => ?_, fun i s e => (R.slot i s e).xt xt⟩
  · exact (R.zo x z).2 (fr_up (fun ps z => by rw [z] at ho; cases ho) e)
  · obtain ⟨ps, q1, q2, q3⟩ := R.tabs p hp
    refine ⟨ps, nt _ _ q1 rfl, q2, fun pos cv hc => ?_⟩
    obtain ⟨c, e1, e2⟩ := q3 pos cv hc
    exact ⟨c, e1, nt _ _ e2 rfl⟩
  · by_cases hj : k = j
    · subst hj
      rw [hk] at e2
      cases e2
      by_cases hl : k < μ.length
      · rw [List.getElem?_set_self hl] at e1
        cases e1
        exact h.xt xt fun _ q _ => q
      · rw [List.getElem?_eq_none (by rw [List.length_set]; omega)] at e1; cases e1
    · rw [List.getElem?_set_ne hj] at e1
      have nx : x ≠ a := by
        rintro rfl
        obtain ⟨l1, q1⟩ := List.getElem?_eq_some_iff.mp e2
        obtain ⟨l2, q2⟩ := List.getElem?_eq_some_iff.mp hk
        exact hj ((List.getElem_inj R.nd).mp (q2.trans q1.symm))
      exact (R.cell j c x e1 e2).xt xt fun o q _ => by rw [upd_ne nx]; exact q
theorem Rep.put (R : Rep K T Φ A Z σ H ρ μ) {k : Nat} {a : Addr} {vs : List V} {ds : List D} (hk : A[k]? = some a) (h : RpA K (hid H fun x => Z x ∨ x ∈ A) vs ds) : Rep K T Φ A Z σ (upd H a (.lst vs)) ρ (μ.set k (.lst ds)) := R.putC (c0 := .lst ds) hk rfl ⟨vs, upd_same, h⟩
end
/-- an expression that makes a new list -/
def tF (K : PySem.W.Frag) (T : List (Addr × Str)) (Φ : Fx) (B : Nat → Bool) (m : MA) : TE := fun σ H Q => ∃ A Z ρ μ ds μ', Rep K T Φ A Z σ H ρ μ ∧ m ρ μ = some (ds, μ') ∧
  ∀ a vs H', Fw (Wr B ρ A) H H' → ¬ Z a → Rep K T Φ A (fun x => Z x ∨ x = a) σ H' ρ μ' → Fr H a → H' a = some (.lst vs) → RpA K (hid H' (Zw B ρ A fun x => Z x ∨ x = a)) vs ds → Q (.ref a) H'
abbrev PDf (X : Cx) (T : List (Addr × Str)) (Φ : Fx) (B : Nat → Bool) (e : Expr) (m : MA) : Prop := PE X e (tF X.K T Φ B m)
/-- .. as a value -/
def eF (m : MA) : ME := fun ρ μ => (m ρ μ).map fun p => (.list p.1, p.2)
def sNew (i : Nat) (m : MA) : MS := fun _ ρ μ => (m ρ μ).bind fun p => some (.next (ρ.set i (.own p.2.length)) (p.2 ++ [.lst p.1]))
def cellL (ρ : List Slot) (μ : List Cell) (i : Nat) : Option (Nat × List D) := match ρ[i]? with
  | some (.own k) => match μ[k]? with
    | some (.lst xs) => some (k, xs)
    | _ => none
  | _ => none
def noBo (B : Nat → Bool) (ρ : List Slot) (k : Nat) : Bool := ρ.zipIdx.all fun p => match p.1 with
  | .own k' => !B p.2 || k' != k
  | _ => true
def mLst (mas : MA) : MA := fun ρ μ => (mas ρ μ).bind fun p => if p.1.length ≤ sizeLine then some p else none
def sApp (s : Bool) (B : Nat → Bool) (i : Nat) (m : ME) : MS := fun _ ρ μ => (cellL ρ μ i).bind fun _ => (m ρ μ).bind fun p => (cellL ρ p.2 i).bind fun q => if q.2.length < sizeLine ∧ (s || flat p.1) = true then some (.next ρ (p.2.set q.1 (.lst (q.2 ++ [p.1])))) else none
section
variable {X : Cx} {T : List (Addr × Str)} {Φ : Fx} {B : Nat → Bool} {a b : Expr} {es : List Expr} {ma : ME} {mf mas : MA} {pos : Pos}
theorem pd_f (h : PDf X T Φ B a mf) : PDe X T Φ B a (eF mf) := PE.cons h fun σ H Q ⟨A, Z, ρ, μ, d, μ', R, hm, k⟩ => by
  unfold eF at hm
  cases e : mf ρ μ with
  | none => rw [e] at hm; cases hm
  | some p =>
    rw [e] at hm; cases hm
    refine ⟨A, Z, ρ, μ, p.1, p.2, R, e, fun l vs H1 f1 nz R1 n0 h1 h2 => k _ H1 f1 (R1.weakZ fun _ z => .inl z) ⟨l, vs, rfl, hid_rd_of (.inl h1) ?_, RpA.mono (hid_le fun x z => z.elim (fun z => .inl (.inl z)) .inr) _ _ h2⟩⟩
    rintro (z | z)
    · exact nz z
    · exact (R1.zo l (.inr rfl)).1 z.mem
theorem tF_new {σ : L2.St} {H H1 : Hp} {Q : VK} {A : List Addr} {Z : Addr → Prop} {ρ : List Slot} {μ' : List Cell} {ds : List D} {vs : List V} {l : Addr} (f1 : Fw (Wr B ρ A) H H1) (R1 : Rep X.K T Φ A Z σ H1 ρ μ') (hl : H1 l = none) (hp : RpA X.K (hid H1 (Zw B ρ A Z)) vs ds)
    (k : ∀ a vs H', Fw (Wr B ρ A) H H' → ¬ Z a → Rep X.K T Φ A (fun x => Z x ∨ x = a) σ H' ρ μ' → Fr H a → H' a = some (.lst vs) → RpA X.K (hid H' (Zw B ρ A fun x => Z x ∨ x = a)) vs ds → Q (.ref a) H') : Q (.ref l) (upd H1 l (.lst vs)) := by
  refine k l vs _ (f1.trans (Fw.same (same_upd hl))) (fun z => (R1.zo l z).2 (.inl hl)) (R1.more hl) (f1.there l (.inl hl)) upd_same (RpA.mono (fun x u e t => ?_) _ _ hp)
  have q := of_hid e
  have nx : x ≠ l := ne_of_none q.1 hl
  rw [hid_of, upd_ne nx]
  · exact q.1
  · rintro ((z | z) | z)
    · exact q.2 (.inl z)
    · exact nx z
    · exact q.2 (.inr z)
theorem pf_lst (h : PDa X T Φ B es mas) : PDf X T Φ B (.List es pos) (mLst mas) := PE.cons (pe_lst h) fun σ H Q ⟨A, Z, ρ, μ, ds, μ', R, hm, k⟩ => by
  unfold mLst at hm
  cases e : mas ρ μ with
  | none => rw [e] at hm; cases hm
  | some p =>
    rw [e, Option.bind_some] at hm
    split at hm
    · rename_i hl
      cases hm
      exact ⟨A, Z, ρ, μ, _, _, R, e, fun vs H1 f1 R1 p1 => ⟨by rw [p1.length]; exact hl, fun l hn => tF_new (B := B) f1 R1 hn p1 k⟩⟩
    · cases hm
theorem s_new (i : Nat) {x : Str} {pos' : Pos} (hN : X.N.Nodup) (ha : PDf X T Φ B0 a mf) (hi : X.N[i]? = some x := by rfl) (hx : Loc X.env.scope x := by first | exact Or.inl rfl | exact Or.inr rfl) (hs : swapsWith a (some (.Name x pos')) pos.line X.env = pure false := by rfl)
    (hf : X.fn x = true ∨ X.env.scope.names.lookup x = some .local := by first | exact .inl rfl | exact .inr rfl) : PDs X T Φ (.Assign [.Name x pos'] a pos) (sNew i mf) := PS.cons (ps_set hN hi hx ha hs hf) fun Dn σ H ⟨A, Z, n0, ρ, μ, fl, R, hn, hm, k⟩ => by
  unfold sNew at hm
  cases e : mf ρ μ with
  | none => rw [e] at hm; cases hm
  | some p =>
    rw [e] at hm; cases hm
    refine ⟨A, Z, ρ, μ, p.1, p.2, R, e, fun l vs H1 f1 nz R1 n1 h1 h2 => ?_⟩
    refine k _ H1 (A ++ [l]) ⟨f1.mono fun _ h => h.mem, [l], rfl, fun x hx => by rw [show x = l by simpa using hx]; exact n1⟩ (R1.push nz h1 (RpA.mono (hid_le fun x z => ?_) _ _ h2) i)
    exact zw0.mpr z
theorem cellL_some {ρ : List Slot} {μ : List Cell} {i k : Nat} {xs : List D} (h : cellL ρ μ i = some (k, xs)) : ρ[i]? = some (.own k) ∧ μ[k]? = some (.lst xs) := by
  unfold cellL at h
  split at h
  · rename_i k' e
    split at h
    · rename_i ys em
      cases h
      exact ⟨e, em⟩
    · cases h
  · cases h
theorem noBo_of {ρ : List Slot} {k : Nat} (h : noBo B ρ k = true) : ¬ Bo B ρ k := by
  rintro ⟨i, hB, e⟩
  unfold noBo at h
  rw [List.all_eq_true] at h
  have q := h (Slot.own k, i) (by rw [List.mem_zipIdx_iff_getElem?]; exact e)
  simp [hB] at q
/-- what is read of no cell, or has no list in it, may be kept -/
theorem keep_of {A : List Addr} {Z : Addr → Prop} {σ : L2.St} {H1 : Hp} {ρ : List Slot} {μ1 : List Cell} {v : V} {d : D} (R1 : Rep X.K T Φ A Z σ H1 ρ μ1) (h : flat d = true ∨ ∀ j, B j = false) (p1 : Rp X.K (hid H1 (Zw B ρ A Z)) v d) : Rp X.K (hid H1 fun a => Z a ∨ a ∈ A) v d := by
  rcases h with h | h
  · exact Rp.ofFlat (R1.tus fun _ z => z.elim (fun z => .inl (.inl z)) .inr) _ _ h p1
  · have : B = B0 := funext h
    subst this
    exact Rp.mono (hid_le fun a h => zw0.mpr h) _ _ p1
theorem wr_of {A : List Addr} {ρ : List Slot} {k : Nat} {a : Addr} (h : noBo B ρ k = true) (e : A[k]? = some a) : Wr B ρ A a := ⟨k, e, noBo_of h⟩
theorem s_app (sb : Bool) (i : Nat) {x : Str} {p apos cpos : Pos} (hB : sb = true → B = B0) (ha : PDe X T Φ B a ma) (hN : X.N[i]? = some x := by rfl) (hv : Vis X.env.scope x := by first | exact Or.inl rfl | exact Or.inr (Or.inl rfl) | exact Or.inr (Or.inr rfl)) (hd : (x == ("__debug__" : Str)) = false := by decide) (hcd : (x == ("__classdict__" : Str)) = false := by decide)
    (hst : starEach [a] X.env = (false, eval a X.env) :: starEach [] X.env := by rfl)
    (he : PE X (.Call (.Attribute (.Name x p) "append" apos) [a] [] cpos) (tBM X.K "list" rAppend (tVar i) (tCons (tE X.K T Φ B ma) tNil))) (hs : swapsWith (.Call (.Attribute (.Name x p) "append" apos) [a] [] cpos) none pos.line X.env = pure false := by rfl) :
    PDs X T Φ (.Expr (.Call (.Attribute (.Name x p) "append" apos) [a] [] cpos) pos) (sApp sb B i ma) := PS.cons (ps_expr he hs) fun Dn σ H ⟨A, Z, n0, ρ, μ, fl, R, hn, hm, k⟩ => by
  unfold sApp at hm
  cases e0 : cellL ρ μ i with
  | none => rw [e0] at hm; cases hm
  | some c0 =>
  rw [e0, Option.bind_some] at hm
  obtain ⟨k0, xs0⟩ := c0
  obtain ⟨s01, s02⟩ := cellL_some e0
  cases e : ma ρ μ with
  | none => rw [e] at hm; cases hm
  | some q =>
    rw [e, Option.bind_some] at hm
    cases e2 : cellL ρ q.2 i with
    | none => rw [e2] at hm; cases hm
    | some c =>
      rw [e2, Option.bind_some] at hm
      split at hm
      · rename_i hc
        cases hm
        obtain ⟨c1, c2⟩ := c
        obtain ⟨s1, s2⟩ := cellL_some e2
        obtain ⟨l, a1, a2⟩ := R.slot i _ s1
        have kk : k0 = c1 := by rw [s1] at s01; cases s01; rfl
        subst kk
        obtain ⟨vs0, hl0, _⟩ := R.cell k0 _ l s02 a1
        refine ⟨.ref l, a2, .inl ⟨rfl, vs0, .inl (.inl hl0)⟩, A, Z, ρ, μ, q.1, q.2, R, e, fun y H1 f1 R1 p1 => ?_⟩
        obtain ⟨vs, h1, h2⟩ := R1.cell k0 (.lst _) l s2 a1
        refine ⟨l, vs, y, rfl, rfl, h1, by rw [h2.length]; exact hc.1, ?_⟩
        refine k σ _ A (Fs.of ((f1.mono fun _ h => h.mem).trans ⟨fun b o eb nb t => ?_, fun b eb => ?_⟩)) (R1.put a1 (RpA.app h2 (RpA.one (keep_of R1 ((Bool.or_eq_true_iff.mp hc.2).symm.imp_right fun z => by rw [hB z]; intro; rfl) p1))))
        · rw [upd_ne (show b ≠ l from fun z => nb (by rw [z]; exact List.mem_of_getElem? a1))]; exact eb
        · exact fr_up (fun ps z => by cases z) eb
      · cases hm
end
end PD
end
section
set_option linter.all false
set_option maxRecDepth 100000
set_option maxHeartbeats 4000000
/-! P5: defs: their promise, their calls; cells lent to a call. -/
namespace PD
open PySem PySem.Spec PyProof.Rows L2

abbrev FD := List Slot → List Cell → Option (D × List Cell)
def noFx : Fx := ⟨fun _ _ _ => False, fun _ h => h⟩
def spD (K : PySem.W.Frag) (T : List (Addr × Str)) (n : Nat) (F : FD) : Sp := fun vs H Q _ => vs.length = n ∧ ∃ A Z as cs d cs', Rep K T noFx A Z (vs.map some) H as cs ∧ F as cs = some (d, cs') ∧
  ∀ v H', Fw (· ∈ A) H H' → Rep K T noFx A Z (vs.map some) H' as cs' → Rp K (hid H' fun a => Z a ∨ a ∈ A) v d → Q v H'
/-- what the body m does with the arguments as, n names more being its own, the lent cells cs -/
def bodyF (n : Nat) (m : MS) : FD := fun as cs => (m cs.length (as ++ List.replicate n .non) cs).bind fun fl => match fl with
  | .ret d μ' => some (d, μ'.take cs.length)
  | .next _ μ' => some (.none, μ'.take cs.length)
  | _ => none
abbrev CtxF (P : Program) (w : World) (K : PySem.W.Frag) (mg : Str → Option Value) (base : Heap) (N : List Str) (qual : Str) (sc : Scope) (f : Addr) (cd : Value) (A : Around) (outer : List Env) (s : Shared) (H : Hp) (E : XK) : Cx := (cxOf CX0 P w K mg base N qual sc f cd A outer s H E).nox
section
variable {P : Program} {w : World} {K : PySem.W.Frag} {mg : Str → Option Value} {base : Heap} {T : List (Addr × Str)}
theorem entry_of {Φ : Fx} {N ps : List Str} {m : MS} {vs : List V} {H : Hp} {Q : VK} {A : List Addr} {Z : Addr → Prop} {as : List Slot} {cs : List Cell} {d : D} {cs' : List Cell} (hl : vs.length = ps.length) (R : Rep K T Φ A Z (vs.map some) H as cs) (hm : bodyF (N.length - ps.length) m as cs = some (d, cs'))
    (k : ∀ v H', Fw (· ∈ A) H H' → Rep K T Φ A Z (vs.map some) H' as cs' → Rp K (hid H' fun a => Z a ∨ a ∈ A) v d → Q v H') : tS K T Φ m { nx := fun _ H' => Q .non H', rt := Q } (L2.start N vs) H := by
  unfold bodyF at hm
  have la : as.length = vs.length := by rw [R.len, List.length_map]
  have R0 : Rep K T Φ A Z (L2.start N vs) H (as ++ List.replicate (N.length - ps.length) .non) cs := by
    refine ⟨by unfold L2.start; rw [List.length_append, List.length_append, List.length_replicate, List.length_replicate, List.length_map, la, hl], R.alen, R.nd, R.zo, R.tabs, R.cell, fun i s' e => ?_⟩
    unfold L2.start
    by_cases hi : i < as.length
    · rw [List.getElem?_append_left hi] at e
      rw [List.getElem?_append_left (by rw [List.length_map, ← la]; exact hi)]
      exact R.slot i s' e
    · rw [List.getElem?_append_right (by omega), List.getElem?_replicate] at e
      split at e
      · cases e; trivial
      · cases e
  cases e : m cs.length (as ++ List.replicate (N.length - ps.length) .non) cs with
  | none => rw [e] at hm; cases hm
  | some fl =>
    rw [e, Option.bind_some] at hm
    refine ⟨A, Z, cs.length, _, cs, fl, R0, by rw [R.alen]; exact Nat.le_refl _, e, ?_⟩
    have tk : A.take cs.length = A := by rw [← R.alen, List.take_length]
    have fin : ∀ {v : V} {H' : Hp} {d' : D} {μ' : List Cell}, RetOk K T A Z cs.length H H' v d' μ' → d' = d → μ'.take cs.length = cs' → Q v H' := by
      rintro v H' d' μ' ⟨f1, tb, hle, hc, hp⟩ rfl rfl
      rw [tk] at hc hp
      refine k v H' f1 ⟨R.len, by rw [List.length_take, R.alen]; omega, R.nd, fun a z => ⟨(R.zo a z).1, fun e => (R.zo a z).2 (f1.there a e)⟩, tb, fun j c a e1 e2 => ?_, fun i s e => (R.slot i s e).xt (f1.xt fun _ h => .inr h)⟩ hp
      have hj : j < cs.length := by have := (List.getElem?_eq_some_iff.mp e1).1; rw [List.length_take] at this; omega
      rw [List.getElem?_take_of_lt hj] at e1
      exact hc j c a hj e1 e2
    cases fl with
    | ret d' μ' =>
      cases hm
      exact fun v H' q => fin q rfl rfl
    | next ρ' μ' =>
      cases hm
      intro σ' H' A' fs R'
      obtain ⟨mo, em, hmo⟩ := fs.ext
      have q : RetOk K T A' Z cs.length H' H' .non .none μ' := ⟨Fw.refl _ _, R'.tabs, by rw [← R'.alen, em, List.length_append, R.alen]; omega, fun j c a hj e1 e2 => (R'.cell j c a e1 e2).hid fun x h => h.elim .inl fun z => .inr (List.mem_of_mem_take z), rfl⟩
      exact fin (q.later (by rw [R.alen]; exact Nat.le_refl _) fs) rfl rfl
    | brk _ _ => cases hm
    | cont _ _ => cases hm
def codeV (K : PySem.W.Frag) (f : Addr) : Value := match K.lookup f with
  | some ⟨_, _, .func fd, _⟩ => fd.code
  | _ => .none
theorem fnd_of {x qual : Str} {st : Stmt} {f : Addr} {fd : FuncData} {N ps : List Str} {k : Nat} {m : MS} (F : Fun K x qual st f fd) (S : FnScope N ps (defScope st))
    (hb : ∀ (cd : Value), cd = codeV K f → ∀ (A : Around) (outer : List Env) (s : Shared) (H : Hp) (E : XK), Room k (A.deeper (envOfC qual (defScope st) s.heap.objs.size f cd)) → PDss (CtxF P w K mg base N qual (defScope st) f cd A outer s H E) T noFx (defBody st) m) :
    FnOk P w K mg base CX0 (k + 1) f fd ps (spD K T ps.length (bodyF (N.length - ps.length) m)) := by
  obtain ⟨oc, od, kV, doc, pm, an, cdv, ct, osl, rfl, lk, hcd⟩ := F.ex
  refine fn_of lk hcd S (fun vs H Q E h => h.1) fun A outer s H vs Q E hr h => ⟨_, (hb cdv (by unfold codeV; rw [lk]) A outer s H E hr).nox, ?_⟩
  obtain ⟨hl, A, Z, as, cs, d, cs', R, hm, k⟩ := h
  exact entry_of hl R hm k
end

/-! ### arguments: data, or cells lent -/
inductive Arg where
  | v (d : D) | l (k : Nat)
abbrev MAr := List Slot → List Cell → Option (List Arg × List Cell)
def ArgAt (K : PySem.W.Frag) (Hv : Hp) (W : Addr → Prop) (A : List Addr) (x : V) : Arg → Prop
  | .v d => Rp K Hv x d
  | .l k => ∃ a, A[k]? = some a ∧ x = .ref a ∧ W a
def ArgsAt (K : PySem.W.Frag) (Hv : Hp) (W : Addr → Prop) (A : List Addr) (xs : List V) : List Arg → Prop
  | [] => xs = []
  | d :: ds => ∃ v r, xs = v :: r ∧ ArgAt K Hv W A v d ∧ ArgsAt K Hv W A r ds
def tAr (K : PySem.W.Frag) (T : List (Addr × Str)) (Φ : Fx) (B : Nat → Bool) (m : MAr) : TA := fun σ H Q => ∃ A Z ρ μ ds μ', Rep K T Φ A Z σ H ρ μ ∧ m ρ μ = some (ds, μ') ∧
  ∀ vs H', Fw (Wr B ρ A) H H' → Rep K T Φ A Z σ H' ρ μ' → ArgsAt K (hid H' (Zw B ρ A Z)) (Wr B ρ A) A vs ds → Q vs H'
abbrev PDr (X : Cx) (T : List (Addr × Str)) (Φ : Fx) (B : Nat → Bool) (es : List Expr) (m : MAr) : Prop := PA X es (tAr X.K T Φ B m)
def rN : MAr := fun _ μ => some ([], μ)
def rV (a : ME) (r : MAr) : MAr := fun ρ μ => (a ρ μ).bind fun p => (r ρ p.2).map fun q => (.v p.1 :: q.1, q.2)
def rL (B : Nat → Bool) (i : Nat) (r : MAr) : MAr := fun ρ μ => match ρ[i]? with
  | some (.own k) => if noBo B ρ k then (r ρ μ).map fun q => (.l k :: q.1, q.2) else none
  | _ => none
def lentOf : List Arg → List Nat
  | [] => []
  | .v _ :: r => lentOf r
  | .l k :: r => k :: lentOf r
def slotsOf : Nat → List Arg → List Slot
  | _, [] => []
  | j, .v d :: r => .val d :: slotsOf j r
  | j, .l _ :: r => .own j :: slotsOf (j + 1) r
def cellsOf (μ : List Cell) : List Nat → Option (List Cell)
  | [] => some []
  | k :: ks => match μ[k]? with
    | some c => (cellsOf μ ks).map (c :: ·)
    | none => none
def setCells : List Cell → List Nat → List Cell → List Cell
  | μ, k :: ks, c :: cs => setCells (μ.set k c) ks cs
  | μ, _, _ => μ
def nodupB : List Nat → Bool
  | [] => true
  | k :: ks => !ks.contains k && nodupB ks
def flatCs : List Cell → Bool
  | [] => true
  | c :: cs => flatC c && flatCs cs
def eCall (n : Nat) (F : FD) (r : MAr) : ME := fun ρ μ => (r ρ μ).bind fun p => (cellsOf p.2 (lentOf p.1)).bind fun cs => if nodupB (lentOf p.1) && (slotsOf 0 p.1).length == n then (F (slotsOf 0 p.1) cs).bind fun q => if flatCs q.2 then some (q.1, setCells p.2 (lentOf p.1) q.2) else none else none
theorem nodupB_of : ∀ {ks : List Nat}, nodupB ks = true → ks.Nodup
  | [], _ => List.nodup_nil
  | k :: ks, h => by
    have h : (!ks.contains k) = true ∧ nodupB ks = true := by simpa [nodupB] using h
    exact List.nodup_cons.mpr ⟨by simpa using h.1, nodupB_of h.2⟩
theorem flatCs_get : ∀ {cs : List Cell} {j : Nat} {c : Cell}, flatCs cs = true → cs[j]? = some c → flatC c = true
  | [], _, _, _, e => by simp at e
  | c :: cs, 0, _, h, e => by
    simp at e
    subst e
    exact (Bool.and_eq_true_iff.mp h).1
  | c :: cs, j + 1, _, h, e => flatCs_get (j := j) (Bool.and_eq_true_iff.mp h).2 (by simpa using e)
theorem cellsOf_get {μ : List Cell} : ∀ {ks : List Nat} {cs : List Cell}, cellsOf μ ks = some cs → cs.length = ks.length ∧ ∀ (j : Nat) (k : Nat), ks[j]? = some k → cs[j]? = μ[k]? ∧ k < μ.length
  | [], cs, h => by cases h; exact ⟨rfl, fun j k e => by simp at e⟩
  | k :: ks, cs, h => by
    unfold cellsOf at h
    split at h
    · rename_i c e
      cases e2 : cellsOf μ ks with
      | none => rw [e2] at h; cases h
      | some r =>
        rw [e2] at h
        have h : c :: r = cs := Option.some.inj h
        obtain ⟨h1, h2⟩ := cellsOf_get e2
        subst h
        refine ⟨by simp [h1], fun j k' ej => ?_⟩
        cases j with
        | zero => simp at ej; subst ej; exact ⟨by simpa using e.symm, (List.getElem?_eq_some_iff.mp e).1⟩
        | succ j => exact (by simpa using h2 j k' (by simpa using ej))
    · cases h
theorem setCells_length : ∀ (ks : List Nat) (cs μ : List Cell), (setCells μ ks cs).length = μ.length
  | [], [], _ => rfl
  | [], _ :: _, _ => rfl
  | k :: ks, [], _ => rfl
  | k :: ks, c :: cs, μ => by
    show (setCells (μ.set k c) ks cs).length = _
    rw [setCells_length ks cs, List.length_set]
theorem setCells_ne : ∀ (ks : List Nat) (cs μ : List Cell) (k : Nat), k ∉ ks → (setCells μ ks cs)[k]? = μ[k]?
  | [], [], _, _, _ => rfl
  | [], _ :: _, _, _, _ => rfl
  | _ :: _, [], _, _, _ => rfl
  | k' :: ks, c :: cs, μ, k, h => by
    show (setCells (μ.set k' c) ks cs)[k]? = _
    rw [setCells_ne ks cs _ k (fun z => h (List.mem_cons_of_mem _ z)), List.getElem?_set_ne (fun z => h (by rw [z]; exact List.mem_cons_self))]
theorem setCells_at : ∀ (ks : List Nat) (cs μ : List Cell) (j k : Nat) (c : Cell), ks.Nodup → ks[j]? = some k → cs[j]? = some c → k < μ.length → (setCells μ ks cs)[k]? = some c
  | [], _, _, _, _, _, _, h, _, _ => by simp at h
  | _ :: _, [], _, _, _, _, _, _, h, _ => by simp at h
  | k' :: ks, c' :: cs, μ, 0, k, c, nd, h1, h2, hl => by
    simp at h1 h2
    subst h1 h2
    show (setCells (μ.set k' c') ks cs)[k']? = _
    rw [setCells_ne ks cs _ k' (List.nodup_cons.mp nd).1, List.getElem?_set_self hl]
  | k' :: ks, c' :: cs, μ, j + 1, k, c, nd, h1, h2, hl => by
    show (setCells (μ.set k' c') ks cs)[k]? = _
    exact setCells_at ks cs _ j k c (List.nodup_cons.mp nd).2 (by simpa using h1) (by simpa using h2) (by rw [List.length_set]; exact hl)
theorem args_slots {K : PySem.W.Frag} {Hv : Hp} {W : Addr → Prop} {A : List Addr} : ∀ (as : List Arg) (vs : List V) (A0 : List Addr), ArgsAt K Hv W A vs as →
    (slotsOf A0.length as).length = vs.length ∧ ∀ (i : Nat) (s : Slot), (slotsOf A0.length as)[i]? = some s → SlotAt K noFx Hv (A0 ++ (lentOf as).map fun k => (A[k]?).getD 0) (vs.map some)[i]? s
  | [], vs, A0, h => by
    rw [show vs = [] from h]
    exact ⟨rfl, fun i s e => by simp [slotsOf] at e⟩
  | .v d :: r, vs, A0, ⟨v, vr, e1, h1, h2⟩ => by
    subst e1
    obtain ⟨q1, q2⟩ := args_slots r vr A0 h2
    refine ⟨by simp [slotsOf, q1], fun i s e => ?_⟩
    cases i with
    | zero => simp [slotsOf] at e; subst e; exact ⟨v, rfl, h1⟩
    | succ i => exact (by simpa [slotsOf, lentOf] using q2 i s (by simpa [slotsOf] using e))
  | .l k :: r, vs, A0, ⟨v, vr, e1, ⟨a, ha, ea, hw⟩, h2⟩ => by
    subst e1
    have q := args_slots r vr (A0 ++ [(A[k]?).getD 0]) h2
    rw [List.length_append, List.length_singleton, List.append_assoc] at q
    obtain ⟨q1, q2⟩ := q
    refine ⟨by simp [slotsOf, q1], fun i s e => ?_⟩
    cases i with
    | zero =>
      simp [slotsOf] at e
      subst e
      refine ⟨a, ?_, by simp [ea]⟩
      rw [List.getElem?_append_right (Nat.le_refl _), Nat.sub_self]
      simp [lentOf, ha]
    | succ i => exact (by simpa [slotsOf, lentOf] using q2 i s (by simpa [slotsOf] using e))
theorem args_lent {K : PySem.W.Frag} {Hv : Hp} {W : Addr → Prop} {A : List Addr} : ∀ {as : List Arg} {vs : List V}, ArgsAt K Hv W A vs as → ∀ k ∈ lentOf as, ∃ a, A[k]? = some a ∧ W a
  | [], _, _, k, hk => by simp [lentOf] at hk
  | .v d :: r, vs, ⟨v, vr, e1, h1, h2⟩, k, hk => args_lent h2 k hk
  | .l k' :: r, vs, ⟨v, vr, e1, ⟨a, ha, ea, hw⟩, h2⟩, k, hk => by
    rcases List.mem_cons.mp hk with e | hk
    · exact ⟨a, by rw [e]; exact ha, hw⟩
    · exact args_lent h2 k hk
section
variable {X : Cx} {T : List (Addr × Str)} {Φ : Fx} {B : Nat → Bool} {a b : Expr} {es : List Expr} {ma : ME} {mr : MAr} {pos : Pos}
theorem pr_n : PDr X T Φ B [] rN := PA.cons pa_nil fun σ H Q ⟨A, Z, ρ, μ, d, μ', R, hm, k⟩ => by
  cases hm
  exact k [] H (Fw.refl _ _) R rfl
theorem ArgsAt.mono {K : PySem.W.Frag} {Hv Hv' : Hp} {W : Addr → Prop} {A : List Addr} (e : XT Hv Hv') : ∀ {as : List Arg} {vs : List V}, ArgsAt K Hv W A vs as → ArgsAt K Hv' W A vs as
  | [], _, h => h
  | .v d :: r, vs, ⟨v, vr, e1, h1, h2⟩ => ⟨v, vr, e1, Rp.mono e _ _ h1, ArgsAt.mono e h2⟩
  | .l k' :: r, vs, ⟨v, vr, e1, h1, h2⟩ => ⟨v, vr, e1, h1, ArgsAt.mono e h2⟩
theorem pr_v (ha : PDe X T Φ B a ma) (hr : PDr X T Φ B es mr) (hs : starEach (a :: es) X.env = (false, eval a X.env) :: starEach es X.env := by rfl) : PDr X T Φ B (a :: es) (rV ma mr) := PA.cons (pa_cons ha hr hs) fun σ H Q ⟨A, Z, ρ, μ, ds, μ', R, hm, k⟩ => by
  unfold rV at hm
  cases e : ma ρ μ with
  | none => rw [e] at hm; cases hm
  | some p =>
    rw [e, Option.bind_some] at hm
    cases e' : mr ρ p.2 with
    | none => rw [e'] at hm; cases hm
    | some q =>
      rw [e'] at hm; cases hm
      refine ⟨A, Z, ρ, μ, p.1, p.2, R, e, fun x H1 f1 R1 p1 => ⟨A, Z, ρ, p.2, q.1, q.2, R1, e', fun y H2 f2 R2 p2 => ?_⟩⟩
      exact k _ H2 (f1.trans f2) R2 ⟨x, y, rfl, Rp.mono (fw_xt f2) _ _ p1, p2⟩
theorem pr_l (i : Nat) {x : Str} {p : Pos} (hr : PDr X T Φ B es mr) (hN : X.N[i]? = some x := by rfl) (hv : Vis X.env.scope x := by first | exact Or.inl rfl | exact Or.inr (Or.inl rfl) | exact Or.inr (Or.inr rfl)) (hd : (x == ("__debug__" : Str)) = false := by decide)
    (hcd : (x == ("__classdict__" : Str)) = false := by decide) (hs : starEach (.Name x p :: es) X.env = (false, eval (.Name x p) X.env) :: starEach es X.env := by rfl) : PDr X T Φ B (.Name x p :: es) (rL B i mr) := PA.cons (pa_cons (pe_var hN hv hd hcd) hr hs) fun σ H Q ⟨A, Z, ρ, μ, ds, μ', R, hm, k⟩ => by
  unfold rL at hm
  split at hm
  · rename_i kk e
    split at hm
    · rename_i hb
      cases e' : mr ρ μ with
      | none => rw [e'] at hm; cases hm
      | some q =>
        rw [e'] at hm; cases hm
        obtain ⟨l, h1, h2⟩ := R.slot i _ e
        exact ⟨.ref l, h2, A, Z, ρ, μ, q.1, q.2, R, e', fun y H2 f2 R2 p2 => k _ H2 f2 R2 ⟨.ref l, y, rfl, ⟨l, h1, rfl, wr_of hb h1⟩, p2⟩⟩
    · cases hm
  · cases hm
theorem call_of {n : Nat} {F : FD} (σ : L2.St) (H : Hp) (Q : VK) (h : tE X.K T Φ B (eCall n F mr) σ H Q) : tCall (spD X.K T n F) [] E0 (tAr X.K T Φ B mr) σ H Q := by
  obtain ⟨A, Z, ρ, μ, d, μ', R, hm, k⟩ := h
  unfold eCall at hm
  cases e : mr ρ μ with
  | none => rw [e] at hm; cases hm
  | some p =>
    rw [e, Option.bind_some] at hm
    obtain ⟨as, μ1⟩ := p
    dsimp only at hm
    cases e2 : cellsOf μ1 (lentOf as) with
    | none => rw [e2] at hm; cases hm
    | some cs =>
      rw [e2, Option.bind_some] at hm
      split at hm
      · rename_i hnd0
        have hnd := (Bool.and_eq_true_iff.mp hnd0).1
        have hlen := beq_iff_eq.mp (Bool.and_eq_true_iff.mp hnd0).2
        cases e3 : F (slotsOf 0 as) cs with
        | none => rw [e3] at hm; cases hm
        | some q =>
          rw [e3, Option.bind_some] at hm
          split at hm
          · rename_i hfl
            cases hm
            refine ⟨A, Z, ρ, μ, as, μ1, R, e, fun vs H1 f1 R1 p1 => ?_⟩
            show spD X.K T n F (vs ++ []) H1 Q E0
            rw [List.append_nil]
            have nd := nodupB_of hnd
            obtain ⟨c1, c2⟩ := cellsOf_get e2
            obtain ⟨s1, s2⟩ := args_slots as vs [] p1
            have lt := args_lent p1
            -- the lent cells' addresses
            generalize hA' : (lentOf as).map (fun k => (A[k]?).getD 0) = A' at s2
            have getA : ∀ (j : Nat) (x : Addr), A'[j]? = some x → ∃ k, (lentOf as)[j]? = some k ∧ A[k]? = some x ∧ Wr B ρ A x := fun j x ej => by
              rw [← hA', List.getElem?_map] at ej
              cases ek : (lentOf as)[j]? with
              | none => rw [ek] at ej; cases ej
              | some kk =>
                rw [ek] at ej
                obtain ⟨x', h1, h2⟩ := lt kk (List.mem_of_getElem? ek)
                have ej : (A[kk]?).getD 0 = x := Option.some.inj ej
                rw [h1] at ej
                have ej : x' = x := ej
                subst ej
                exact ⟨kk, rfl, h1, h2⟩
            have memA : ∀ x, x ∈ A' → Wr B ρ A x := fun x hx => by
              obtain ⟨j, hj⟩ := List.mem_iff_getElem?.mp hx
              obtain ⟨_, _, _, w⟩ := getA j x hj
              exact w
            have ndA : A'.Nodup := by
              rw [← hA']
              refine (List.pairwise_map).mpr (nd.imp_of_mem fun {x y} hx hy ne e => ?_)
              obtain ⟨x', h1, _⟩ := lt x hx
              obtain ⟨y', h2, _⟩ := lt y hy
              rw [h1, h2] at e
              have e : x' = y' := e
              subst e
              obtain ⟨l1, q1⟩ := List.getElem?_eq_some_iff.mp h1
              obtain ⟨l2, q2⟩ := List.getElem?_eq_some_iff.mp h2
              exact ne ((List.getElem_inj R.nd).mp (q1.trans q2.symm))
            let Z' : Addr → Prop := fun x => Zw B ρ A Z x ∧ x ∉ A'
            have hz : ∀ x, (Z' x ∨ x ∈ A') ↔ Zw B ρ A Z x := fun x => ⟨fun h => h.elim (fun z => z.1) fun z => .inr (memA x z), fun h => by
              by_cases hx : x ∈ A'
              · exact .inr hx
              · exact .inl ⟨h, hx⟩⟩
            have hzf : (fun x => Z' x ∨ x ∈ A') = Zw B ρ A Z := funext fun x => propext (hz x)
            have RC : Rep X.K T noFx A' Z' (vs.map some) H1 (slotsOf 0 as) cs := by
              refine ⟨by rw [List.length_map]; exact s1, by rw [← hA', List.length_map, c1], ndA, fun x z => ⟨z.2, R1.trackF x z.1⟩, R1.tabs, fun j c x e1 e4 => ?_, fun i s es => ?_⟩
              · obtain ⟨kk, ek, eA, _⟩ := getA j x e4
                rw [(c2 j kk ek).1] at e1
                exact (R1.cell kk c x e1 eA).hid fun y h => zw_le ((hz y).mp h)
              · rw [hzf]
                exact (by simpa using s2 i s es)
            refine ⟨by rw [← hlen]; exact s1.symm, A', Z', slotsOf 0 as, cs, q.1, q.2, RC, e3, fun v H2 f2 RC2 p2 => ?_⟩
            have fW : Fw (Wr B ρ A) H1 H2 := f2.mono memA
            have fA : Fw (fun x => x ∈ A) H1 H2 := fW.mono fun _ h => h.mem
            have isl : ∀ x ∈ A, ∃ ws, H2 x = some ws ∧ cellO ws = true := fun x hx => by
              by_cases h' : x ∈ A'
              · exact RC2.cellAt h'
              · obtain ⟨ws, ew, co⟩ := R1.cellAt hx
                exact ⟨ws, f2.keep x _ ew h' (fun ps z => by rw [z] at co; cases co), co⟩
            have tus : TuS (hid H2 (Zw B ρ A Z)) (hid H2 fun x => Z x ∨ x ∈ A) := fun x o h t => by
              have q := of_hid h
              rw [hid_of]
              · exact q.1
              · rintro (z | z)
                · exact q.2 (.inl z)
                · obtain ⟨ws, ew, co⟩ := isl x z
                  rw [q.1] at ew
                  cases ew
                  rcases t with ⟨xs, rfl⟩ | ⟨u, xs, rfl⟩ <;> cases co
            have lq : q.2.length = (lentOf as).length := by rw [← RC2.alen, RC.alen, c1]
            refine k v H2 (f1.trans fW) ⟨R1.len, by rw [setCells_length]; exact R1.alen, R1.nd, fun x z => ⟨(R1.zo x z).1, fun e => (R1.zo x z).2 (f2.there x e)⟩, RC2.tabs, fun kk c x ec ex => ?_, fun i s es => (R1.slot i s es).xt (fA.xt fun _ h => .inr h)⟩ (by rw [hzf] at p2; exact p2)
            by_cases hk : kk ∈ lentOf as
            · obtain ⟨j, hj⟩ := List.mem_iff_getElem?.mp hk
              have hjl : j < q.2.length := by rw [lq]; exact (List.getElem?_eq_some_iff.mp hj).1
              have ej := setCells_at (lentOf as) q.2 μ1 j kk q.2[j] nd hj (List.getElem?_eq_getElem hjl) (c2 j kk hj).2
              rw [ej] at ec
              cases ec
              have ea : A'[j]? = some x := by rw [← hA', List.getElem?_map, hj]; show some ((A[kk]?).getD 0) = _; rw [ex]; rfl
              have qc := RC2.cell j _ x (List.getElem?_eq_getElem hjl) ea
              rw [hzf] at qc
              have hf := flatCs_get hfl (List.getElem?_eq_getElem hjl)
              cases ecell : q.2[j] with
              | lst xs =>
                rw [ecell] at qc hf
                obtain ⟨ws, w1, w2⟩ := qc
                exact ⟨ws, w1, RpA.ofFlat tus _ _ hf w2⟩
              | dct xs =>
                rw [ecell] at qc hf
                obtain ⟨ws, w1, w2⟩ := qc
                exact ⟨ws, w1, RpA.ofFlat tus _ _ hf w2⟩
              | dcs xs =>
                rw [ecell] at qc hf
                obtain ⟨ws, w1, w2⟩ := qc
                exact ⟨ws, w1, RpA.ofFlat tus _ _ hf w2⟩
            · rw [setCells_ne _ _ _ _ hk] at ec
              have nx : x ∉ A' := fun hx => by
                obtain ⟨j, hj⟩ := List.mem_iff_getElem?.mp hx
                obtain ⟨k2, e5, e6, _⟩ := getA j x hj
                obtain ⟨l1, q1⟩ := List.getElem?_eq_some_iff.mp ex
                obtain ⟨l2, q2⟩ := List.getElem?_eq_some_iff.mp e6
                have := (List.getElem_inj R.nd).mp (q1.trans q2.symm)
                exact hk (this ▸ List.mem_of_getElem? e5)
              exact (R1.cell kk c x ec ex).xt (fA.xt fun _ h => .inr h) fun o eo t => f2.keep x o eo nx t
          · cases hm
      · cases hm
variable {k n : Nat} {f : Addr} {fd : FuncData} {ps : List Str} {F : FD} {x : Str} {p : Pos}
theorem pd_call (G : FnOk X.prog X.w X.K X.mg X.base CX0 k f fd ps (spD X.K T n F)) (hr : Room k X.A) (hg : Gl X x) (hm : X.mg x = some (.ref f)) (hk : PySem.W.keepIn X.K (.ref f) = true) (hb : Binds X.K fd ps []) (ha : PDr X T Φ B (a :: es) mr)
    (hdb : (x == ("__debug__" : Str)) = false := by decide) (he : starEach (a :: es) X.env = (false, eval a X.env) :: starEach es X.env := by rfl) (hpl : (backTo pos (starEach es X.env)).any (·.1) = false := by rfl) :
    PDe X T Φ B (.Call (.Name x p) (a :: es) [] pos) (eCall n F mr) := PE.cons (pe_call G hr hg hm hk hb .nil pass0 ha hdb he hpl) call_of
theorem pd_call0 (G : FnOk X.prog X.w X.K X.mg X.base CX0 k f fd ps (spD X.K T n F)) (hr : Room k X.A) (hg : Gl X x) (hm : X.mg x = some (.ref f)) (hk : PySem.W.keepIn X.K (.ref f) = true) (hb : Binds X.K fd ps [])
    (hdb : (x == ("__debug__" : Str)) = false := by decide) : PDe X T Φ B (.Call (.Name x p) [] [] pos) (eCall n F rN) := PE.cons (pe_call0 G hr hg hm hk hb .nil pass0 hdb) fun σ H Q h => by
  obtain ⟨A, Z, ρ, μ, ds, μ', R, hm, k⟩ := call_of σ H Q h
  cases hm
  exact k [] H (Fw.refl _ _) R rfl
end
end PD
end
section
set_option linter.all false
set_option maxRecDepth 100000
set_option maxHeartbeats 4000000
/-! P6: list comprehensions by what they mean over data. -/
namespace PD
open PySem PySem.Spec PyProof.Rows L2

def isOwn (ρ : List Slot) (i : Nat) : Bool := match ρ[i]? with
  | some (.own _) => true
  | _ => false
def SameOwn (ρ ρ' : List Slot) : Prop := ∀ (i k : Nat), ρ'[i]? = some (.own k) ↔ ρ[i]? = some (.own k)
theorem SameOwn.bo {B : Nat → Bool} {ρ ρ' : List Slot} (h : SameOwn ρ ρ') (k : Nat) : Bo B ρ' k ↔ Bo B ρ k := ⟨fun ⟨i, a, b⟩ => ⟨i, a, (h i k).mp b⟩, fun ⟨i, a, b⟩ => ⟨i, a, (h i k).mpr b⟩⟩
theorem SameOwn.wr {B : Nat → Bool} {ρ ρ' : List Slot} {A : List Addr} (h : SameOwn ρ ρ') : Wr B ρ' A = Wr B ρ A := funext fun a => propext ⟨fun ⟨k, e, n⟩ => ⟨k, e, fun z => n ((h.bo k).mpr z)⟩, fun ⟨k, e, n⟩ => ⟨k, e, fun z => n ((h.bo k).mp z)⟩⟩
theorem SameOwn.refl (ρ : List Slot) : SameOwn ρ ρ := fun _ _ => Iff.rfl
theorem SameOwn.trans {ρ ρ1 ρ2 : List Slot} (a : SameOwn ρ ρ1) (b : SameOwn ρ1 ρ2) : SameOwn ρ ρ2 := fun i k => (b i k).trans (a i k)
theorem sameOwn_set {ρ : List Slot} {i : Nat} {s : Slot} (h : isOwn ρ i = false) (hs : ∀ k, s ≠ .own k) : SameOwn ρ (ρ.set i s) := fun j k => by
  by_cases hj : i = j
  · subst hj
    by_cases hl : i < ρ.length
    · rw [List.getElem?_set_self hl]
      constructor
      · intro e; exact absurd (Option.some.inj e) (hs k)
      · intro e; unfold isOwn at h; rw [e] at h; cases h
    · rw [List.getElem?_eq_none (by rw [List.length_set]; omega), List.getElem?_eq_none (by omega)]
  · rw [List.getElem?_set_ne hj]
def wipeD (ρ : List Slot) : List Nat → List Slot
  | [] => ρ
  | v :: vs => (wipeD ρ vs).set v .non
def noOwn (ρ : List Slot) : List Nat → Bool
  | [] => true
  | v :: vs => !isOwn ρ v && noOwn ρ vs
theorem wipeD_own {ρ : List Slot} : ∀ {vs : List Nat}, noOwn ρ vs = true → SameOwn ρ (wipeD ρ vs)
  | [], _ => SameOwn.refl _
  | v :: vs, h => by
    have h : (!isOwn ρ v) = true ∧ noOwn ρ vs = true := by simpa [noOwn] using h
    have q := wipeD_own h.2
    refine q.trans (sameOwn_set ?_ fun k z => by cases z)
    have : isOwn ρ v = false := by simpa using h.1
    unfold isOwn at this ⊢
    cases e : (wipeD ρ vs)[v]? with
    | none => rfl
    | some s =>
      cases s with
      | own k => rw [(q v k).mp e] at this; cases this
      | non => rfl
      | val _ => rfl
      | fn _ => rfl
theorem set_none_twice {σ : L2.St} {v : Nat} : (σ.set v none).set v none = σ.set v none := by rw [List.set_set]
theorem wipe_set {σ : L2.St} {i : Nat} {x : Option V} : ∀ {vs : List Nat}, i ∈ vs → wipe (σ.set i x) vs = wipe σ vs
  | [], h => by cases h
  | v :: vs, h => by
    show (wipe (σ.set i x) vs).set v none = (wipe σ vs).set v none
    rcases List.mem_cons.mp h with e | h
    · subst e
      have : ∀ (ws : List Nat), (wipe (σ.set i x) ws).set i none = (wipe σ ws).set i none := by
        intro ws
        induction ws with
        | nil => show (σ.set i x).set i none = σ.set i none; rw [List.set_set]
        | cons w ws ih =>
          show ((wipe (σ.set i x) ws).set w none).set i none = ((wipe σ ws).set w none).set i none
          by_cases hw : w = i
          · subst hw; rw [List.set_set, List.set_set]; exact ih
          · rw [List.set_comm _ _ hw, ih, List.set_comm _ _ hw]
      exact this vs
    · rw [wipe_set h]
theorem wipe_wipe {σ : L2.St} : ∀ (ws vs : List Nat), (∀ w ∈ ws, w ∈ vs) → wipe (wipe σ ws) vs = wipe σ vs
  | [], vs, _ => rfl
  | w :: ws, vs, h => by
    show wipe ((wipe σ ws).set w none) vs = _
    rw [wipe_set (h w List.mem_cons_self), wipe_wipe ws vs fun x hx => h x (List.mem_cons_of_mem _ hx)]
section
variable {K : PySem.W.Frag} {T : List (Addr × Str)} {Φ : Fx} {A : List Addr} {Z : Addr → Prop} {σ σ2 : L2.St} {H H' : Hp} {ρ ρ2 : List Slot} {μ μ2 : List Cell} {B : Nat → Bool}
theorem Rep.wiped (R : Rep K T Φ A Z σ H ρ μ) : ∀ vs : List Nat, Rep K T Φ A Z (wipe σ vs) H (wipeD ρ vs) μ
  | [] => R
  | v :: vs => by
    have R' := R.wiped vs
    refine ⟨by show ((wipeD ρ vs).set v .non).length = ((wipe σ vs).set v none).length; rw [List.length_set, List.length_set]; exact R'.len, R'.alen, R'.nd, R'.zo, R'.tabs, R'.cell, fun i s e => ?_⟩
    have e : ((wipeD ρ vs).set v .non)[i]? = some s := e
    show SlotAt K Φ _ A ((wipe σ vs).set v none)[i]? s
    by_cases hi : v = i
    · subst hi
      by_cases hl : v < (wipeD ρ vs).length
      · rw [List.getElem?_set_self hl] at e; cases e; trivial
      · rw [List.getElem?_eq_none (by rw [List.length_set]; omega)] at e; cases e
    · rw [List.getElem?_set_ne hi] at e
      rw [List.getElem?_set_ne hi]
      exact R'.slot i s e
/-- the slots as they were, cells and tables as they are -/
theorem Rep.mix (R : Rep K T Φ A Z σ H ρ μ) (R2 : Rep K T Φ A Z σ2 H' ρ2 μ2) (x : XT (hid H fun a => Z a ∨ a ∈ A) (hid H' fun a => Z a ∨ a ∈ A)) : Rep K T Φ A Z σ H' ρ μ2 :=
  ⟨R.len, R2.alen, R.nd, R2.zo, R2.tabs, R2.cell, fun i s e => (R.slot i s e).xt x⟩
/-- what is hidden is written -/
theorem Rep.hidPut {a : Addr} {xs ys : List V} (R : Rep K T Φ A Z σ H ρ μ) (hz : Z a) (ha : H a = some (.lst xs)) : Rep K T Φ A Z σ (upd H a (.lst ys)) ρ μ := by
  have na : a ∉ A := (R.zo a hz).1
  have xt : XT (hid H fun x => Z x ∨ x ∈ A) (hid (upd H a (.lst ys)) fun x => Z x ∨ x ∈ A) := fun x u e t => by
    have q := of_hid e
    rw [hid_of q.2, upd_ne (show x ≠ a from fun z => q.2 (.inl (by rw [z]; exact hz)))]
    exact q.1
  have nt : ∀ b o, H b = some o → (∀ vs, o ≠ .lst vs) → upd H a (.lst ys) b = some o := fun b o e n => by
    rw [upd_ne]
    · exact e
    · rintro rfl
      rw [e] at ha
      cases ha
      exact n _ rfl
  refine ⟨R.len, R.alen, R.nd, fun x z => ⟨(R.zo x z).1, fun e => ?_⟩, fun p hp => ?_, fun j c x e1 e2 => (R.cell j c x e1 e2).xt xt fun o q _ => ?_, fun i s e => (R.slot i s e).xt xt⟩
  · exact (R.zo x z).2 (fr_up (fun ps z => by cases z) e)
  · obtain ⟨ps, q1, q2, q3⟩ := R.tabs p hp
    refine ⟨ps, nt _ _ q1 (fun vs z => by cases z), q2, fun pos cv hc => ?_⟩
    obtain ⟨c, e1, e2⟩ := q3 pos cv hc
    exact ⟨c, e1, nt _ _ e2 (fun vs z => by unfold LamX.CodeO at z; cases z)⟩
  · rw [upd_ne (show x ≠ a from fun z => na (by rw [← z]; exact List.mem_of_getElem? e2))]; exact q
end

/-! ### targets of a block -/
def tGc (K : PySem.W.Frag) (T : List (Addr × Str)) (Φ : Fx) (w : List Nat) (g : MG) : TG := fun v σ H Q => ∃ A Z ρ μ d ρ' μ', Rep K T Φ A Z σ H ρ μ ∧ Rp K (hid H fun a => Z a ∨ a ∈ A) v d ∧ g d ρ μ = some (ρ', μ') ∧
  ∀ σ', Rep K T Φ A Z σ' H ρ' μ' → wipe σ' w = wipe σ w → SameOwn ρ ρ' → Q σ' H
def tGcs (K : PySem.W.Frag) (T : List (Addr × Str)) (Φ : Fx) (w : List Nat) (g : MGs) : TGs := fun vs σ H Q => ∃ A Z ρ μ ds ρ' μ', Rep K T Φ A Z σ H ρ μ ∧ RpA K (hid H fun a => Z a ∨ a ∈ A) vs ds ∧ g ds ρ μ = some (ρ', μ') ∧
  ∀ σ', Rep K T Φ A Z σ' H ρ' μ' → wipe σ' w = wipe σ w → SameOwn ρ ρ' → Q σ' H
abbrev PDc (X : Cx) (T : List (Addr × Str)) (Φ : Fx) (w : List Nat) (tg : Expr) (g : MG) : Prop := PG X tg (tGc X.K T Φ w g)
abbrev PDcs (X : Cx) (T : List (Addr × Str)) (Φ : Fx) (w : List Nat) (tg : List Expr) (g : MGs) : Prop := PGs X tg (tGcs X.K T Φ w g)
def gcN (i : Nat) : MG := fun d ρ μ => if isOwn ρ i then none else some (ρ.set i (.val d), μ)
section
variable {X : Cx} {T : List (Addr × Str)} {Φ : Fx} {B : Nat → Bool} {pos : Pos} {w : List Nat}
theorem pc_n (i : Nat) {x : Str} (hw : i ∈ w) (hN : X.N.Nodup) (hi : X.N[i]? = some x := by rfl) (hx : Loc X.env.scope x := by first | exact Or.inl rfl | exact Or.inr rfl) (hf : X.fn x = true ∨ X.env.scope.names.lookup x = some .local := by first | exact .inr rfl | exact .inl rfl) : PDc X T Φ w (.Name x pos) (gcN i) :=
  PG.cons (pg_name hN hi hx hf) fun v σ H Q ⟨A, Z, ρ, μ, d, ρ', μ', R, hp, hg, k⟩ => by
    unfold gcN at hg
    split at hg
    · cases hg
    · rename_i ho
      cases hg
      exact k _ (R.setVal i hp) (wipe_set hw) (sameOwn_set (by simpa using ho) fun k z => by cases z)
theorem pcs_n : PDcs X T Φ w [] gsN := PGs.cons pgs_nil fun vs σ H Q ⟨A, Z, ρ, μ, ds, ρ', μ', R, hp, hg, k⟩ => by
  unfold gsN at hg
  cases ds with
  | nil => cases hg; exact ⟨hp, k σ R rfl (SameOwn.refl _)⟩
  | cons d ds => cases hg
theorem pcs_c {e : Expr} {es : List Expr} {g : MG} {gs : MGs} (h1 : PDc X T Φ w e g) (h2 : PDcs X T Φ w es gs) (hs : (assignEach (e :: es) X.env).map (·.2) = assign e X.env :: (assignEach es X.env).map (·.2) := by rfl) : PDcs X T Φ w (e :: es) (gsC g gs) :=
  PGs.cons (pgs_cons h1 h2 hs) fun vs σ H Q ⟨A, Z, ρ, μ, ds, ρ', μ', R, hp, hg, k⟩ => by
    unfold gsC at hg
    cases ds with
    | nil => cases hg
    | cons d ds =>
      obtain ⟨v, r, rfl, hp1, hp2⟩ := hp
      have hg : (g d ρ μ).bind (fun p => gs ds p.1 p.2) = some (ρ', μ') := hg
      cases e1 : g d ρ μ with
      | none => rw [e1] at hg; cases hg
      | some p =>
        rw [e1, Option.bind_some] at hg
        exact ⟨v, r, rfl, A, Z, ρ, μ, d, p.1, p.2, R, hp1, e1, fun σ1 R1 w1 o1 => ⟨A, Z, p.1, p.2, ds, ρ', μ', R1, hp2, hg, fun σ2 R2 w2 o2 => k σ2 R2 (w2.trans w1) (o1.trans o2)⟩⟩
theorem pc_t {es : List Expr} {j n : Nat} {gs : MGs} (hc : X.calm = true) (h : PDcs X T Φ w es gs) (hn : (assignEach es X.env).length = n := by rfl) (hst : (assignEach es X.env).findIdx? (·.1) = none := by rfl) : PDc X T Φ w (.Tuple es j pos) (gT n gs) :=
  PG.cons (pg_tup hc h hn hst) fun v σ H Q ⟨A, Z, ρ, μ, d, ρ', μ', R, hp, hg, k⟩ => by
    unfold gT at hg
    split at hg
    · rename_i ds
      split at hg
      · rename_i hl
        obtain ⟨a, xs, rfl, h1, h2⟩ := hp
        exact ⟨a, xs, rfl, hid_sqT h1.sq, by rw [h2.length]; exact hl, A, Z, ρ, μ, ds, ρ', μ', R, h2, hg, k⟩
      · cases hg
    · cases hg
end
def tTrue : MT := fun _ μ => some (true, μ)
abbrev PDts (X : Cx) (T : List (Addr × Str)) (Φ : Fx) (B : Nat → Bool) (es : List Expr) (m : MT) : Prop := PTs X es (tT X.K T Φ B m)
section
variable {X : Cx} {T : List (Addr × Str)} {Φ : Fx} {B : Nat → Bool} {c : Expr} {mt : MT}
theorem pts_0 : PDts X T Φ B [] tTrue := ⟨fun pins s σ H Q I ⟨A, Z, ρ, μ, d, μ', R, hm, k⟩ => by
  cases hm
  exact pts_nil.run pins s σ H Q I (k H (Fw.refl _ _) R)⟩
theorem pts_1 (h : PDt X T Φ B c mt) : PDts X T Φ B [c] mt := pts_one h
end
def lcD (g : MG) (t : MT) (e : ME) (ρ0 : List Slot) : List D → List Cell → Option (List D × List Cell)
  | [], μ => some ([], μ)
  | d :: ds, μ => (g d ρ0 μ).bind fun p => (t p.1 p.2).bind fun q => if q.1 = true then (e p.1 q.2).bind fun r => (lcD g t e ρ0 ds r.2).map fun z => (r.1 :: z.1, z.2) else lcD g t e ρ0 ds q.2
/-- s: what is walked is read of no cell, or is flat -/
def mLc (s : Bool) (mi : MA) (vs : List Nat) (g : MG) (t : MT) (e : ME) : MA := fun ρ μ => (mi ρ μ).bind fun p => if noOwn ρ vs && (s || flatA p.1) && decide (p.1.length ≤ sizeLine) then lcD g t e (wipeD ρ vs) p.1 p.2 else none
theorem flatA_get : ∀ {ds : List D} {i : Nat} {d : D}, flatA ds = true → ds[i]? = some d → flat d = true
  | [], _, _, _, e => by simp at e
  | d :: ds, 0, _, h, e => by
    simp at e
    subst e
    exact (Bool.and_eq_true_iff.mp h).1
  | d :: ds, j + 1, _, h, e => flatA_get (i := j) (Bool.and_eq_true_iff.mp h).2 (by simpa using e)
section
variable {X : Cx} {T : List (Addr × Str)} {Φ : Fx} {B : Nat → Bool} {mi : MA} {vs : List Nat} {g : MG} {mt : MT} {me : ME}
theorem lc_of {sb : Bool} (hsb : sb = true → B = B0) (σ : L2.St) (H : Hp) (Q : VK) (h : tF X.K T Φ B (mLc sb mi vs g mt me) σ H Q) : tLc (tI X.K T Φ B mi) (tGc X.K T Φ vs g) (tT X.K T Φ B mt) (tE X.K T Φ B me) vs σ H Q := by
  obtain ⟨A, Z, ρ, μ, res, μ', R, hm, k⟩ := h
  unfold mLc at hm
  cases e : mi ρ μ with
  | none => rw [e] at hm; cases hm
  | some p =>
    rw [e, Option.bind_some] at hm
    obtain ⟨ds, μ1⟩ := p
    dsimp only at hm
    split at hm
    · rename_i hc
      simp only [Bool.and_eq_true, decide_eq_true_eq] at hc
      obtain ⟨⟨hno, hfl⟩, hsz⟩ := hc
      refine ⟨A, Z, ρ, μ, ds, μ1, R, e, fun J H1 f1 R1 it Dn hD => ?_⟩
      have ow := wipeD_own hno
      have nzD : ¬ Z Dn := fun z => (R1.zo Dn z).2 (.inl hD)
      have Rb := R1.more (o := .lst []) hD
      have nDA : Dn ∉ A := (Rb.zo Dn (.inr rfl)).1
      have xtB : ∀ {Ha Hb : Hp}, Fw (fun a => Wr B ρ A a ∨ a = Dn) Ha Hb → XT (hid Ha (Zw B ρ A fun x => Z x ∨ x = Dn)) (hid Hb (Zw B ρ A fun x => Z x ∨ x = Dn)) := fun f => f.xt fun a z => z.elim .inr fun z => .inl (.inr z)
      have xtS : ∀ {Ha Hb : Hp}, Fw (fun a => Wr B ρ A a ∨ a = Dn) Ha Hb → XT (hid Ha fun a => (Z a ∨ a = Dn) ∨ a ∈ A) (hid Hb fun a => (Z a ∨ a = Dn) ∨ a ∈ A) := fun f => f.xt fun a z => z.elim (fun z => .inr z.mem) fun z => .inl (.inr z)
      have toA : ∀ {Ha Hb : Hp}, Fw (Wr B ρ A) Ha Hb → Fw (fun a => Wr B ρ A a ∨ a = Dn) Ha Hb := fun f => f.mono fun _ z => .inl z
      refine ⟨fun i m Hi => ∃ (acc : List V) (dacc rest : List D) (μi : List Cell), m = ds.length - i ∧ Rep X.K T Φ A (fun x => Z x ∨ x = Dn) (wipe σ vs) Hi (wipeD ρ vs) μi ∧ Hi Dn = some (.lst acc) ∧ RpA X.K (hid Hi (Zw B ρ A fun x => Z x ∨ x = Dn)) acc dacc ∧ acc.length ≤ i ∧
        Fw (fun a => Wr B ρ A a ∨ a = Dn) (upd H1 Dn (.lst [])) Hi ∧ lcD g mt me (wipeD ρ vs) (ds.drop i) μi = some (rest, μ') ∧ dacc ++ rest = res, ⟨ds.length, [], [], res, μ1, by simp, Rb.wiped vs, upd_same, rfl, Nat.le_refl _, Fw.refl _ _, by simpa using hm, rfl⟩, ?_⟩
      rintro i m Hi ⟨acc, dacc, rest, μi, em, Ri, hacc, pacc, lacc, fi, hl, er⟩
      have vis : XT (hid H1 (Zw B ρ A Z)) (hid Hi (Zw B ρ A fun x => Z x ∨ x = Dn)) := fun a o eo t => by
        have q := of_hid eo
        have na : a ≠ Dn := ne_of_none q.1 hD
        rw [hid_of]
        · refine fi.keep a o (by rw [upd_ne na]; exact q.1) ?_ t
          rintro (z | z)
          · exact q.2 (.inr z)
          · exact na z
        · rintro ((z | z) | z)
          · exact q.2 (.inl z)
          · exact na z
          · exact q.2 (.inr z)
      have trk : ∀ a, Zw B ρ A (fun x => Z x ∨ x = Dn) a → Hi a ≠ none := fun a z => by
        have z' : Zw B (wipeD ρ vs) A (fun x => Z x ∨ x = Dn) a := by rcases z with z | z; exact .inl z; exact .inr (by rw [ow.wr]; exact z)
        exact Ri.tracked a z'
      obtain ⟨hs, hgo⟩ := it Hi (Zw B ρ A fun x => Z x ∨ x = Dn) trk vis
      by_cases hi : i < ds.length
      · right
        obtain ⟨go, yl⟩ := hgo i ds[i] (List.getElem?_eq_getElem hi)
        refine ⟨go, fun H2 => ∃ (acc : List V) (dacc rest : List D) (μi : List Cell), Rep X.K T Φ A (fun x => Z x ∨ x = Dn) (wipe σ vs) H2 (wipeD ρ vs) μi ∧ H2 Dn = some (.lst acc) ∧ RpA X.K (hid H2 (Zw B ρ A fun x => Z x ∨ x = Dn)) acc dacc ∧ acc.length ≤ i + 1 ∧
          Fw (fun a => Wr B ρ A a ∨ a = Dn) (upd H1 Dn (.lst [])) H2 ∧ lcD g mt me (wipeD ρ vs) (ds.drop (i + 1)) μi = some (rest, μ') ∧ dacc ++ rest = res,
          fun H2 ⟨acc, dacc, rest, μi, a, b, c, d, e, f, g⟩ => ⟨ds.length - (i + 1), by omega, acc, dacc, rest, μi, rfl, a, b, c, d, e, f, g⟩, fun x H2 hy => ?_⟩
        obtain ⟨sm, px⟩ := yl x H2 hy
        rw [List.drop_eq_getElem_cons hi] at hl
        have hl : (g ds[i] (wipeD ρ vs) μi).bind (fun p => (mt p.1 p.2).bind fun q => if q.1 = true then (me p.1 q.2).bind fun r => (lcD g mt me (wipeD ρ vs) (ds.drop (i + 1)) r.2).map fun z => (r.1 :: z.1, z.2) else lcD g mt me (wipeD ρ vs) (ds.drop (i + 1)) q.2) = some (rest, μ') := hl
        cases e1 : g ds[i] (wipeD ρ vs) μi with
        | none => rw [e1] at hl; cases hl
        | some p1 =>
          obtain ⟨ρ1, μ2⟩ := p1
          rw [e1, Option.bind_some] at hl
          dsimp only at hl
          cases e2 : mt ρ1 μ2 with
          | none => rw [e2] at hl; cases hl
          | some q1 =>
            obtain ⟨t, μ3⟩ := q1
            rw [e2, Option.bind_some] at hl
            have Ri2 := Ri.same sm
            have px' : Rp X.K (hid H2 fun a => (Z a ∨ a = Dn) ∨ a ∈ A) x ds[i] := by
              have q : Rp X.K (hid H2 (Zw B (wipeD ρ vs) A fun x => Z x ∨ x = Dn)) x ds[i] := by
                refine Rp.mono (hid_le fun a z => ?_) _ _ px
                rcases z with z | z
                · exact .inl z
                · exact .inr (by rw [ow.wr] at z; exact z)
              refine keep_of Ri2 ?_ q
              rcases Bool.or_eq_true_iff.mp hfl with z | z
              · exact .inr fun j => by rw [hsb z]; rfl
              · exact .inl (flatA_get z (List.getElem?_eq_getElem hi))
            refine ⟨A, fun x => Z x ∨ x = Dn, wipeD ρ vs, μi, ds[i], ρ1, μ2, Ri2, px', e1, fun σ2 R2 w2 o2 => ⟨by rw [w2]; exact wipe_wipe vs vs fun _ h => h, ?_⟩⟩
            have oo : SameOwn ρ ρ1 := ow.trans o2
            refine ⟨A, fun x => Z x ∨ x = Dn, ρ1, μ2, t, μ3, R2, e2, fun H3 f3 R3 => ?_⟩
            rw [oo.wr] at f3
            have f13 : Fw (fun a => Wr B ρ A a ∨ a = Dn) Hi H3 := (Fw.same sm).trans (toA f3)
            cases t with
            | false =>
              refine iteF ?_
              have hl : lcD g mt me (wipeD ρ vs) (ds.drop (i + 1)) μ3 = some (rest, μ') := hl
              exact ⟨acc, dacc, rest, μ3, Ri.mix R3 (xtS f13), f3.keep Dn _ (sm Dn _ hacc) (fun z => nDA z.mem) (fun ps z => by cases z), RpA.mono (xtB f13) _ _ pacc, by omega, fi.trans f13, hl, er⟩
            | true =>
              refine iteT ?_
              have hl : (me ρ1 μ3).bind (fun r => (lcD g mt me (wipeD ρ vs) (ds.drop (i + 1)) r.2).map fun z => (r.1 :: z.1, z.2)) = some (rest, μ') := hl
              cases e3 : me ρ1 μ3 with
              | none => rw [e3] at hl; cases hl
              | some r1 =>
                obtain ⟨yd, μ4⟩ := r1
                rw [e3, Option.bind_some] at hl
                cases e4 : lcD g mt me (wipeD ρ vs) (ds.drop (i + 1)) μ4 with
                | none => rw [e4] at hl; cases hl
                | some z =>
                  rw [e4] at hl
                  cases hl
                  refine ⟨A, fun x => Z x ∨ x = Dn, ρ1, μ3, yd, μ4, R3, e3, fun y H4 f4 R4 p4 => ?_⟩
                  rw [oo.wr] at f4
                  have f14 : Fw (fun a => Wr B ρ A a ∨ a = Dn) Hi H4 := f13.trans (toA f4)
                  have hacc4 : H4 Dn = some (.lst acc) := f4.keep Dn _ (f3.keep Dn _ (sm Dn _ hacc) (fun z => nDA z.mem) (fun ps z => by cases z)) (fun z => nDA z.mem) (fun ps z => by cases z)
                  have p4 : Rp X.K (hid H4 (Zw B ρ A fun x => Z x ∨ x = Dn)) y yd := by
                    have : Zw B ρ1 A (fun x => Z x ∨ x = Dn) = Zw B ρ A (fun x => Z x ∨ x = Dn) := by unfold Zw; rw [oo.wr]
                    rw [this] at p4
                    exact p4
                  have fu : Fw (fun a => Wr B ρ A a ∨ a = Dn) H4 (upd H4 Dn (.lst (acc ++ [y]))) := ⟨fun b o eb nb t => by rw [upd_ne (show b ≠ Dn from fun z => nb (.inr z))]; exact eb, fun b eb => fr_up (fun ps z => by cases z) eb⟩
                  refine ⟨acc, hacc4, by have := sizeLine_eq; omega, acc ++ [y], dacc ++ [yd], z.1, μ4, ?_, upd_same, RpA.app (RpA.mono (xtB (f14.trans fu)) _ _ pacc) (RpA.one (Rp.mono (xtB fu) _ _ p4)), by rw [List.length_append]; simp; omega, (fi.trans f14).trans fu, e4, by rw [← er]; simp⟩
                  exact Ri.mix (R4.hidPut (.inr rfl) hacc4) (xtS (f14.trans fu))
      · left
        have hi' : ds.length ≤ i := by omega
        refine ⟨hs i hi', ?_⟩
        rw [List.drop_eq_nil_of_le hi'] at hl
        have hl : some (([] : List D), μi) = some (rest, μ') := hl
        cases hl
        rw [List.append_nil] at er
        subst er
        refine k Dn acc Hi (f1.trans ⟨fun a o ea na t => ?_, fun a ea => ?_⟩) nzD (Rb.mix Ri (xtS fi)) (f1.there _ (.inl hD)) hacc pacc
        · have nD : a ≠ Dn := ne_of_none ea hD
          exact fi.keep a o (by rw [upd_ne nD]; exact ea) (fun z => z.elim na nD) t
        · exact fr_up (fun ps z => by cases z) (fi.there a ea)
    · cases hm
theorem pf_lc {sb : Bool} {elt tg iter : Expr} {ifs : List Expr} {scope : Scope} {own : List (Str × Nat)} {pos : Pos} (hsb : sb = true → B = B0) (hc : X.calm = true) (hN : X.N.Nodup) (hi : PDi X T Φ B tg iter mi) (ok : BlkOk X.N X.env.scope scope own)
    (hg : ∀ (s : Shared) (H : Hp) (C : Addr) (cl : List (Str × Addr)) (fp : List Addr), PDc (X.blk s H scope (compEnvC scope cl C X.env) fp) T Φ (own.map (·.2)) tg g) (ht : ∀ (s : Shared) (H : Hp) (C : Addr) (cl : List (Str × Addr)) (fp : List Addr), PDts (X.blk s H scope (compEnvC scope cl C X.env) fp) T Φ B ifs mt)
    (he : ∀ (s : Shared) (H : Hp) (C : Addr) (cl : List (Str × Addr)) (fp : List Addr), PDe (X.blk s H scope (compEnvC scope cl C X.env) fp) T Φ B elt me) (hs : ∀ x, foldedSetIterable iter X.env x = pure x := by intro _; rfl) :
    PDf X T Φ B (.ListComp elt [⟨tg, iter, ifs, 0⟩] scope pos) (mLc sb mi (own.map (·.2)) g mt me) := PE.cons (pe_lc hc hN hi ok hg ht he hs) (lc_of hsb)
end
end PD
end
section
set_option linter.all false
set_option maxRecDepth 100000
set_option maxHeartbeats 4000000
/-! P7: ==, in, over data. -/
namespace PD
open PySem PySem.Spec PyProof.Rows L2

def eqL (f : D → D → Option Bool) : List D → List D → Option Bool
  | [], [] => some true
  | x :: xs, y :: ys => (f x y).bind fun p => (eqL f xs ys).map (p && ·)
  | [], _ :: _ => some false
  | _ :: _, [] => some false
def b2 (b : Bool) : Int := if b then 1 else 0
/-- == of two data, n levels deep -/
def eqF : Nat → D → D → Option Bool
  | 0, _, _ => none
  | n + 1, .list a, .list b => if a.length = b.length then eqL (eqF n) a b else some false
  | n + 1, .tuple a, .tuple b => eqL (eqF n) a b
  | _ + 1, .list _, .tuple _ => some false
  | _ + 1, .tuple _, .list _ => some false
  | _ + 1, .none, .none => some true
  | _ + 1, .bool a, .bool b => some (a == b)
  | _ + 1, .int a, .int b => some (a == b)
  | _ + 1, .bool a, .int b => some (b2 a == b)
  | _ + 1, .int a, .bool b => some (a == b2 b)
  | _ + 1, .str a, .str b => some (a == b)
  | _ + 1, .dict _, _ => none
  | _ + 1, _, .dict _ => none
  | _ + 1, .none, _ => some false
  | _ + 1, .bool _, _ => some false
  | _ + 1, .int _, _ => some false
  | _ + 1, .str _, _ => some false
  | _ + 1, .list _, _ => some false
  | _ + 1, .tuple _, _ => some false

section
variable {X : Cx} {pins : List (Addr × Obj)} {σ : L2.St} {H : Hp} {s : Shared}
theorem eqL_all {f : D → D → Option Bool} {e : Nat → Bool} : ∀ {ds es : List D} {r : Bool}, eqL f ds es = some r → (∀ (j : Nat) (d e' : D), ds[j]? = some d → es[j]? = some e' → f d e' = some (e j)) →
    ((List.range (min ds.length es.length)).all e && ds.length == es.length) = r
  | [], [], r, h, _ => by cases h; rfl
  | [], _ :: _, r, h, _ => by cases h; rfl
  | _ :: _, [], r, h, _ => by cases h; simp
  | x :: xs, y :: ys, r, h, he => by
    have h : (f x y).bind (fun p => (eqL f xs ys).map (p && ·)) = some r := h
    rw [he 0 x y rfl rfl, Option.bind_some] at h
    cases e2 : eqL f xs ys with
    | none => rw [e2] at h; cases h
    | some q =>
      rw [e2] at h
      have h : (e 0 && q) = r := Option.some.inj h
      have ih := eqL_all (e := fun j => e (j + 1)) e2 fun j d e' h1 h2 => he (j + 1) d e' (by simpa using h1) (by simpa using h2)
      rw [← h, ← ih, List.length_cons, List.length_cons, Nat.succ_min_succ, List.range_succ_eq_map, List.all_cons, List.all_map]
      simp only [Bool.and_assoc]
      congr 1
      congr 1
      rw [Bool.eq_iff_iff]
      simp
theorem eqL_get {f : D → D → Option Bool} : ∀ {ds es : List D} {r : Bool} {j : Nat} {d e : D}, eqL f ds es = some r → ds[j]? = some d → es[j]? = some e → ∃ b, f d e = some b
  | [], _, _, _, _, _, _, h, _ => by simp at h
  | _ :: _, [], _, _, _, _, _, _, h => by simp at h
  | x :: xs, y :: ys, r, j, d, e, h, h1, h2 => by
    have h : (f x y).bind (fun p => (eqL f xs ys).map (p && ·)) = some r := h
    cases e1 : f x y with
    | none => rw [e1] at h; cases h
    | some p =>
      rw [e1, Option.bind_some] at h
      cases e2 : eqL f xs ys with
      | none => rw [e2] at h; cases h
      | some q =>
        cases j with
        | zero => simp at h1 h2; subst h1 h2; exact ⟨p, e1⟩
        | succ j => exact eqL_get e2 (by simpa using h1) (by simpa using h2)
theorem eqL_same {f : D → D → Option Bool} (hf : ∀ d e v b, Rp X.K H v d → Rp X.K H v e → f d e = some b → b = true) : ∀ {ds es : List D} {vs : List V} {r : Bool}, RpA X.K H vs ds → RpA X.K H vs es → eqL f ds es = some r → r = true
  | [], [], _, r, _, _, h => by cases h; rfl
  | [], _ :: _, _, r, h1, ⟨_, _, e, _, _⟩, h => by rw [show _ = [] from h1] at e; cases e
  | _ :: _, [], _, r, ⟨_, _, e, _, _⟩, h1, h => by rw [show _ = [] from h1] at e; cases e
  | x :: xs, y :: ys, _, r, ⟨v, w, e0, g1, g2⟩, ⟨v', w', e0', k1, k2⟩, h => by
    rw [e0] at e0'
    cases e0'
    have h : (f x y).bind (fun p => (eqL f xs ys).map (p && ·)) = some r := h
    cases e1 : f x y with
    | none => rw [e1] at h; cases h
    | some p =>
      rw [e1, Option.bind_some] at h
      cases e2 : eqL f xs ys with
      | none => rw [e2] at h; cases h
      | some q =>
        rw [e2] at h
        have h : (p && q) = r := Option.some.inj h
        rw [← h, hf x y v p g1 k1 e1, eqL_same hf g2 k2 e2]; rfl
theorem ne_lt {a : Addr} {xs ys : List V} (I : Inv X pins σ H s) (h1 : SqL X.K H a xs) (h2 : SqT X.K H a ys) : False := by
  obtain ⟨its, _, pl, _⟩ := I.list h1
  obtain ⟨its2, _, pt, _⟩ := I.tuple h2
  obtain ⟨o, q1, q2, _⟩ := pl.isList
  obtain ⟨o', q3, q4, _⟩ := pt
  rw [q1] at q3
  cases q3
  rw [q2] at q4
  exact absurd (Value.type.inj q4) (by decide)
theorem eqF_same (I : Inv X pins σ H s) : ∀ (n : Nat) (d e : D) (v : V) (b : Bool), Rp X.K H v d → Rp X.K H v e → eqF n d e = some b → b = true
  | 0, _, _, _, _, _, _, h => by cases h
  | n + 1, d, e, v, b, h1, h2, h => by
    cases d with
    | none => rw [show v = .non from h1] at h2; cases e <;> first | (cases h; rfl) | exact nomatch h2 | (obtain ⟨_, q⟩ := h2; exact nomatch q.1) | (obtain ⟨_, _, q, _⟩ := h2; exact nomatch q)
    | bool x => rw [show v = .bl x from h1] at h2; cases e <;> first | exact nomatch (show (none : Option Bool) = some b from h) | (obtain ⟨_, _, q, _⟩ := h2; exact nomatch q) | (cases h2; cases h; simp; done) | exact nomatch h2
    | int x => rw [show v = .int x from h1] at h2; cases e <;> first | exact nomatch (show (none : Option Bool) = some b from h) | (obtain ⟨_, _, q, _⟩ := h2; exact nomatch q) | (cases h2; cases h; simp; done) | exact nomatch h2
    | str x => rw [show v = .str x from h1] at h2; cases e <;> first | exact nomatch (show (none : Option Bool) = some b from h) | (obtain ⟨_, _, q, _⟩ := h2; exact nomatch q) | (cases h2; cases h; simp; done) | exact nomatch h2
    | list ds =>
      obtain ⟨a, xs, rfl, g1, g2⟩ := h1
      cases e with
      | list es =>
        obtain ⟨a', ys, e2, k1, k2⟩ := h2
        cases e2
        have := I.list_inj (.inl g1) (.inl k1)
        subst this
        have h : (if ds.length = es.length then eqL (eqF n) ds es else some false) = some b := h
        rw [if_pos (by rw [← g2.length, ← k2.length])] at h
        exact eqL_same (eqF_same I n) g2 k2 h
      | tuple es => obtain ⟨a', ys, e2, k1, k2⟩ := h2; cases e2; exact (ne_lt I (.inl g1) k1.sq).elim
      | dict _ => cases h
      | none => exact nomatch h2
      | bool _ => exact nomatch h2
      | int _ => exact nomatch h2
      | str _ => exact nomatch h2
    | tuple ds =>
      obtain ⟨a, xs, rfl, g1, g2⟩ := h1
      cases e with
      | tuple es =>
        obtain ⟨a', ys, e2, k1, k2⟩ := h2
        cases e2
        have := I.tuple_inj g1.sq k1.sq
        subst this
        exact eqL_same (eqF_same I n) g2 k2 (show eqL (eqF n) ds es = some b from h)
      | list es => obtain ⟨a', ys, e2, k1, k2⟩ := h2; cases e2; exact (ne_lt I (.inl k1) g1.sq).elim
      | dict _ => cases h
      | none => exact nomatch h2
      | bool _ => exact nomatch h2
      | int _ => exact nomatch h2
      | str _ => exact nomatch h2
    | dict _ => cases e <;> cases h
theorem getV {xs : List V} {us : List Value} (r : Vals xs us) {j : Nat} (h : j < us.toArray.size) : ∃ x, xs[j]? = some x ∧ RelV x us.toArray[j] := by
  have hl : j < us.length := by simpa using h
  have hx : j < xs.length := by rw [r.length]; exact hl
  obtain ⟨u, e, q⟩ := r.get (List.getElem?_eq_getElem hx)
  rw [List.getElem?_eq_getElem hl] at e
  cases e
  exact ⟨_, List.getElem?_eq_getElem hx, by simpa using q⟩
theorem RpA.at {ds : List D} {vs : List V} {j : Nat} {v : V} {K : PySem.W.Frag} {H : Hp} (h : RpA K H vs ds) (e : vs[j]? = some v) : ∃ d, ds[j]? = some d ∧ Rp K H v d := by
  have hl : j < ds.length := by rw [← h.length]; exact (List.getElem?_eq_some_iff.mp e).1
  obtain ⟨w, e', q⟩ := h.get (List.getElem?_eq_getElem hl)
  rw [e] at e'
  cases e'
  exact ⟨_, List.getElem?_eq_getElem hl, q⟩
open SeqAt in
theorem eqAt_rp (I : Inv X pins σ H s) : ∀ (n : Nat) (A : Around) (d e : D) (x y : V) (v u : Value) (b : Bool), A.units + n < cLine → Rp X.K H x d → Rp X.K H y e → RelV x v → RelV y u → eqF n d e = some b → EqAt A s v u b
  | 0, _, _, _, _, _, _, _, _, _, _, _, _, _, h => by cases h
  | n + 1, A, d, e, x, y, v, u, b, hu, h1, h2, r1, r2, h => by
    have hu0 : A.units < cLine := by omega
    have hin : A.in1.units + n < cLine := by show A.units + 1 + n < cLine; omega
    cases d with
    | none =>
      cases (show x = .non from h1); cases r1
      cases e with
      | none => cases (show y = .non from h2); cases r2; cases h; exact EqAt.same _
      | bool z => cases (show y = .bl z from h2); cases r2; cases h; exact EqAt.none_bool z
      | int z => cases (show y = .int z from h2); obtain ⟨t, rfl⟩ := r2; cases h; exact EqAt.none_int z t
      | str z => cases (show y = .str z from h2); obtain ⟨t, rfl⟩ := r2; cases h; exact EqAt.none_str z t
      | list es => obtain ⟨a, ys, rfl, k1, k2⟩ := h2; cases r2; cases h; obtain ⟨its, _, pl, _⟩ := I.list (.inl k1); exact EqAt.none_list pl.isList hu0
      | tuple es => obtain ⟨a, ys, rfl, k1, k2⟩ := h2; cases r2; cases h; obtain ⟨its, _, pl, _⟩ := I.tuple k1.sq; exact EqAt.none_tuple pl hu0
      | dict _ => cases h
    | bool w =>
      cases (show x = .bl w from h1); cases r1
      cases e with
      | none => cases (show y = .non from h2); cases r2; cases h; exact EqAt.bool_none w
      | bool z => cases (show y = .bl z from h2); cases r2; cases h; exact EqAt.bool_bool w z
      | int z => cases (show y = .int z from h2); obtain ⟨t, rfl⟩ := r2; cases h; exact EqAt.bool_int w z t
      | str z => cases (show y = .str z from h2); obtain ⟨t, rfl⟩ := r2; cases h; exact EqAt.bool_str w z t
      | list es => obtain ⟨a, ys, rfl, k1, k2⟩ := h2; cases r2; cases h; obtain ⟨its, _, pl, _⟩ := I.list (.inl k1); exact EqAt.bool_list w pl.isList hu0
      | tuple es => obtain ⟨a, ys, rfl, k1, k2⟩ := h2; cases r2; cases h; obtain ⟨its, _, pl, _⟩ := I.tuple k1.sq; exact EqAt.bool_tuple w pl hu0
      | dict _ => cases h
    | int w =>
      cases (show x = .int w from h1); obtain ⟨t0, rfl⟩ := r1
      cases e with
      | none => cases (show y = .non from h2); cases r2; cases h; exact EqAt.int_none w t0
      | bool z => cases (show y = .bl z from h2); cases r2; cases h; exact EqAt.int_bool w t0 z
      | int z => cases (show y = .int z from h2); obtain ⟨t, rfl⟩ := r2; cases h; exact EqAt.int_int w t0 z t
      | str z => cases (show y = .str z from h2); obtain ⟨t, rfl⟩ := r2; cases h; exact EqAt.int_str w t0 z t
      | list es => obtain ⟨a, ys, rfl, k1, k2⟩ := h2; cases r2; cases h; obtain ⟨its, _, pl, _⟩ := I.list (.inl k1); exact EqAt.int_list w t0 pl.isList hu0
      | tuple es => obtain ⟨a, ys, rfl, k1, k2⟩ := h2; cases r2; cases h; obtain ⟨its, _, pl, _⟩ := I.tuple k1.sq; exact EqAt.int_tuple w t0 pl hu0
      | dict _ => cases h
    | str w =>
      cases (show x = .str w from h1); obtain ⟨t0, rfl⟩ := r1
      cases e with
      | none => cases (show y = .non from h2); cases r2; cases h; exact EqAt.str_none w t0
      | bool z => cases (show y = .bl z from h2); cases r2; cases h; exact EqAt.str_bool w t0 z
      | int z => cases (show y = .int z from h2); obtain ⟨t, rfl⟩ := r2; cases h; exact EqAt.str_int w t0 z t
      | str z => cases (show y = .str z from h2); obtain ⟨t, rfl⟩ := r2; cases h; exact EqAt.str_str w t0 z t
      | list es => obtain ⟨a, ys, rfl, k1, k2⟩ := h2; cases r2; cases h; obtain ⟨its, _, pl, _⟩ := I.list (.inl k1); exact EqAt.str_list w t0 pl.isList hu0
      | tuple es => obtain ⟨a, ys, rfl, k1, k2⟩ := h2; cases r2; cases h; obtain ⟨its, _, pl, _⟩ := I.tuple k1.sq; exact EqAt.str_tuple w t0 pl hu0
      | dict _ => cases h
    | list ds =>
      obtain ⟨a, xs, rfl, g1, g2⟩ := id h1
      cases r1
      obtain ⟨its, rv, pl, _⟩ := I.list (.inl g1)
      cases e with
      | none => cases (show y = .non from h2); cases r2; cases h; exact EqAt.list_none pl.isList hu0
      | bool z => cases (show y = .bl z from h2); cases r2; cases h; exact EqAt.list_bool z pl.isList hu0
      | int z => cases (show y = .int z from h2); obtain ⟨t, rfl⟩ := r2; cases h; exact EqAt.list_int z t pl.isList hu0
      | str z => cases (show y = .str z from h2); obtain ⟨t, rfl⟩ := r2; cases h; exact EqAt.list_str z t pl.isList hu0
      | tuple es => obtain ⟨a', ys, rfl, k1, k2⟩ := h2; cases r2; cases h; obtain ⟨its', _, pl', _⟩ := I.tuple k1.sq; exact EqAt.list_tuple pl.isList pl' hu0
      | dict _ => cases h
      | list es =>
        obtain ⟨a', ys, rfl, k1, k2⟩ := id h2
        cases r2
        obtain ⟨its', rv', pl', _⟩ := I.list (.inl k1)
        by_cases ha : a = a'
        · subst ha
          rw [eqF_same I (n + 1) _ _ _ _ h1 h2 h]
          exact EqAt.same _
        · refine EqAt.of_refs ha ?_
          have l1 := rv.length
          have l2 := rv'.length
          rw [g2.length] at l1
          rw [k2.length] at l2
          have h : (if ds.length = es.length then eqL (eqF n) ds es else some false) = some b := h
          by_cases hl : ds.length = es.length
          · rw [if_pos hl] at h
            have q := RcAt.lists (A := A) (s := s) (e := fun j => ((ds[j]?).bind fun d => (es[j]?).bind fun e => eqF n d e).getD false) pl.isList pl'.isList (by simp; omega) hu0 fun j j1 j2 => by
              obtain ⟨xv, ex, rx⟩ := getV rv j1
              obtain ⟨yv, ey, ry⟩ := getV rv' j2
              obtain ⟨dd, ed, pd⟩ := g2.at ex
              obtain ⟨de, ee, pe⟩ := k2.at ey
              obtain ⟨bb, eb⟩ := eqL_get h ed ee
              have : (((ds[j]?).bind fun d => (es[j]?).bind fun e => eqF n d e).getD false) = bb := by rw [ed, Option.bind_some, ee, Option.bind_some, eb]; rfl
              rw [this]
              exact eqAt_rp I n A.in1 dd de xv yv _ _ bb hin pd pe rx ry eb
            have t := eqL_all (e := fun j => ((ds[j]?).bind fun d => (es[j]?).bind fun e => eqF n d e).getD false) h fun j d e' e1 e2 => by
              obtain ⟨bb, eb⟩ := eqL_get h e1 e2
              rw [e1, Option.bind_some, e2, Option.bind_some, eb]; rfl
            rw [← t]
            have : (List.range its.toArray.size) = List.range (min ds.length es.length) := by congr 1; simp; omega
            rw [this] at q
            have hb : (ds.length == es.length) = true := by simpa using hl
            rw [hb, Bool.and_true]
            exact q
          · rw [if_neg hl] at h
            cases h
            exact RcAt.lists_lengths pl.isList pl'.isList (by simp; omega) hu0
    | tuple ds =>
      obtain ⟨a, xs, rfl, g1, g2⟩ := id h1
      cases r1
      obtain ⟨its, rv, pl, _⟩ := I.tuple g1.sq
      cases e with
      | none => cases (show y = .non from h2); cases r2; cases h; exact EqAt.tuple_none pl hu0
      | bool z => cases (show y = .bl z from h2); cases r2; cases h; exact EqAt.tuple_bool z pl hu0
      | int z => cases (show y = .int z from h2); obtain ⟨t, rfl⟩ := r2; cases h; exact EqAt.tuple_int z t pl hu0
      | str z => cases (show y = .str z from h2); obtain ⟨t, rfl⟩ := r2; cases h; exact EqAt.tuple_str z t pl hu0
      | list es => obtain ⟨a', ys, rfl, k1, k2⟩ := h2; cases r2; cases h; obtain ⟨its', _, pl', _⟩ := I.list (.inl k1); exact EqAt.tuple_list pl pl'.isList hu0
      | dict _ => cases h
      | tuple es =>
        obtain ⟨a', ys, rfl, k1, k2⟩ := id h2
        cases r2
        obtain ⟨its', rv', pl', _⟩ := I.tuple k1.sq
        by_cases ha : a = a'
        · subst ha
          rw [eqF_same I (n + 1) _ _ _ _ h1 h2 h]
          exact EqAt.same _
        · refine EqAt.of_refs ha ?_
          have l1 := rv.length
          have l2 := rv'.length
          rw [g2.length] at l1
          rw [k2.length] at l2
          have h : eqL (eqF n) ds es = some b := h
          have q := RcAt.tuples (A := A) (s := s) (e := fun j => ((ds[j]?).bind fun d => (es[j]?).bind fun e => eqF n d e).getD false) pl pl' hu0 fun j j1 j2 => by
            obtain ⟨xv, ex, rx⟩ := getV rv j1
            obtain ⟨yv, ey, ry⟩ := getV rv' j2
            obtain ⟨dd, ed, pd⟩ := g2.at ex
            obtain ⟨de, ee, pe⟩ := k2.at ey
            obtain ⟨bb, eb⟩ := eqL_get h ed ee
            have : (((ds[j]?).bind fun d => (es[j]?).bind fun e => eqF n d e).getD false) = bb := by rw [ed, Option.bind_some, ee, Option.bind_some, eb]; rfl
            rw [this]
            exact eqAt_rp I n A.in1 dd de xv yv _ _ bb hin pd pe rx ry eb
          have t := eqL_all (e := fun j => ((ds[j]?).bind fun d => (es[j]?).bind fun e => eqF n d e).getD false) h fun j d e' e1 e2 => by
            obtain ⟨bb, eb⟩ := eqL_get h e1 e2
            rw [e1, Option.bind_some, e2, Option.bind_some, eb]; rfl
          rw [← t]
          have z1 : its.toArray.size = ds.length := by simp; omega
          have z2 : its'.toArray.size = es.length := by simp; omega
          rw [z1, z2] at q
          exact q
    | dict _ => cases e <;> cases h
open SeqAt in
theorem rcAt_rp (I : Inv X pins σ H s) {n : Nat} {A : Around} {d e : D} {x y : V} {v u : Value} {b : Bool} (hu : A.units + (n + 1) < cLine) (h1 : Rp X.K H x d) (h2 : Rp X.K H y e) (r1 : RelV x v) (r2 : RelV y u) (h : eqF (n + 1) d e = some b) : RcAt A s v u b := by
    have hu0 : A.units < cLine := by omega
    have hin : A.in1.units + n < cLine := by show A.units + 1 + n < cLine; omega
    cases d with
    | none =>
      cases (show x = .non from h1); cases r1
      cases e with
      | none => cases (show y = .non from h2); cases r2; cases h; exact RcAt.none_none
      | bool z => cases (show y = .bl z from h2); cases r2; cases h; exact RcAt.none_bool z
      | int z => cases (show y = .int z from h2); obtain ⟨t, rfl⟩ := r2; cases h; exact RcAt.none_int z t
      | str z => cases (show y = .str z from h2); obtain ⟨t, rfl⟩ := r2; cases h; exact RcAt.none_str z t
      | list es => obtain ⟨a, ys, rfl, k1, k2⟩ := h2; cases r2; cases h; obtain ⟨its, _, pl, _⟩ := I.list (.inl k1); exact RcAt.none_list pl.isList hu0
      | tuple es => obtain ⟨a, ys, rfl, k1, k2⟩ := h2; cases r2; cases h; obtain ⟨its, _, pl, _⟩ := I.tuple k1.sq; exact RcAt.none_tuple pl hu0
      | dict _ => cases h
    | bool w =>
      cases (show x = .bl w from h1); cases r1
      cases e with
      | none => cases (show y = .non from h2); cases r2; cases h; exact RcAt.bool_none w
      | bool z => cases (show y = .bl z from h2); cases r2; cases h; exact RcAt.bool_bool w z
      | int z => cases (show y = .int z from h2); obtain ⟨t, rfl⟩ := r2; cases h; exact RcAt.bool_int w z t
      | str z => cases (show y = .str z from h2); obtain ⟨t, rfl⟩ := r2; cases h; exact RcAt.bool_str w z t
      | list es => obtain ⟨a, ys, rfl, k1, k2⟩ := h2; cases r2; cases h; obtain ⟨its, _, pl, _⟩ := I.list (.inl k1); exact RcAt.bool_list w pl.isList hu0
      | tuple es => obtain ⟨a, ys, rfl, k1, k2⟩ := h2; cases r2; cases h; obtain ⟨its, _, pl, _⟩ := I.tuple k1.sq; exact RcAt.bool_tuple w pl hu0
      | dict _ => cases h
    | int w =>
      cases (show x = .int w from h1); obtain ⟨t0, rfl⟩ := r1
      cases e with
      | none => cases (show y = .non from h2); cases r2; cases h; exact RcAt.int_none w t0
      | bool z => cases (show y = .bl z from h2); cases r2; cases h; exact RcAt.int_bool w t0 z
      | int z => cases (show y = .int z from h2); obtain ⟨t, rfl⟩ := r2; cases h; exact RcAt.int_int w t0 z t
      | str z => cases (show y = .str z from h2); obtain ⟨t, rfl⟩ := r2; cases h; exact RcAt.int_str w t0 z t
      | list es => obtain ⟨a, ys, rfl, k1, k2⟩ := h2; cases r2; cases h; obtain ⟨its, _, pl, _⟩ := I.list (.inl k1); exact RcAt.int_list w t0 pl.isList hu0
      | tuple es => obtain ⟨a, ys, rfl, k1, k2⟩ := h2; cases r2; cases h; obtain ⟨its, _, pl, _⟩ := I.tuple k1.sq; exact RcAt.int_tuple w t0 pl hu0
      | dict _ => cases h
    | str w =>
      cases (show x = .str w from h1); obtain ⟨t0, rfl⟩ := r1
      cases e with
      | none => cases (show y = .non from h2); cases r2; cases h; exact RcAt.str_none w t0
      | bool z => cases (show y = .bl z from h2); cases r2; cases h; exact RcAt.str_bool w t0 z
      | int z => cases (show y = .int z from h2); obtain ⟨t, rfl⟩ := r2; cases h; exact RcAt.str_int w t0 z t
      | str z => cases (show y = .str z from h2); obtain ⟨t, rfl⟩ := r2; cases h; exact RcAt.str_str w t0 z t
      | list es => obtain ⟨a, ys, rfl, k1, k2⟩ := h2; cases r2; cases h; obtain ⟨its, _, pl, _⟩ := I.list (.inl k1); exact RcAt.str_list w t0 pl.isList hu0
      | tuple es => obtain ⟨a, ys, rfl, k1, k2⟩ := h2; cases r2; cases h; obtain ⟨its, _, pl, _⟩ := I.tuple k1.sq; exact RcAt.str_tuple w t0 pl hu0
      | dict _ => cases h
    | list ds =>
      obtain ⟨a, xs, rfl, g1, g2⟩ := id h1
      cases r1
      obtain ⟨its, rv, pl, _⟩ := I.list (.inl g1)
      cases e with
      | none => cases (show y = .non from h2); cases r2; cases h; exact RcAt.list_none pl.isList hu0
      | bool z => cases (show y = .bl z from h2); cases r2; cases h; exact RcAt.list_bool z pl.isList hu0
      | int z => cases (show y = .int z from h2); obtain ⟨t, rfl⟩ := r2; cases h; exact RcAt.list_int z t pl.isList hu0
      | str z => cases (show y = .str z from h2); obtain ⟨t, rfl⟩ := r2; cases h; exact RcAt.list_str z t pl.isList hu0
      | tuple es => obtain ⟨a', ys, rfl, k1, k2⟩ := h2; cases r2; cases h; obtain ⟨its', _, pl', _⟩ := I.tuple k1.sq; exact RcAt.list_tuple pl.isList pl' hu0
      | dict _ => cases h
      | list es =>
        obtain ⟨a', ys, rfl, k1, k2⟩ := id h2
        cases r2
        obtain ⟨its', rv', pl', _⟩ := I.list (.inl k1)
        · skip
          have l1 := rv.length
          have l2 := rv'.length
          rw [g2.length] at l1
          rw [k2.length] at l2
          have h : (if ds.length = es.length then eqL (eqF n) ds es else some false) = some b := h
          by_cases hl : ds.length = es.length
          · rw [if_pos hl] at h
            have q := RcAt.lists (A := A) (s := s) (e := fun j => ((ds[j]?).bind fun d => (es[j]?).bind fun e => eqF n d e).getD false) pl.isList pl'.isList (by simp; omega) hu0 fun j j1 j2 => by
              obtain ⟨xv, ex, rx⟩ := getV rv j1
              obtain ⟨yv, ey, ry⟩ := getV rv' j2
              obtain ⟨dd, ed, pd⟩ := g2.at ex
              obtain ⟨de, ee, pe⟩ := k2.at ey
              obtain ⟨bb, eb⟩ := eqL_get h ed ee
              have : (((ds[j]?).bind fun d => (es[j]?).bind fun e => eqF n d e).getD false) = bb := by rw [ed, Option.bind_some, ee, Option.bind_some, eb]; rfl
              rw [this]
              exact eqAt_rp I n A.in1 dd de xv yv _ _ bb hin pd pe rx ry eb
            have t := eqL_all (e := fun j => ((ds[j]?).bind fun d => (es[j]?).bind fun e => eqF n d e).getD false) h fun j d e' e1 e2 => by
              obtain ⟨bb, eb⟩ := eqL_get h e1 e2
              rw [e1, Option.bind_some, e2, Option.bind_some, eb]; rfl
            rw [← t]
            have : (List.range its.toArray.size) = List.range (min ds.length es.length) := by congr 1; simp; omega
            rw [this] at q
            have hb : (ds.length == es.length) = true := by simpa using hl
            rw [hb, Bool.and_true]
            exact q
          · rw [if_neg hl] at h
            cases h
            exact RcAt.lists_lengths pl.isList pl'.isList (by simp; omega) hu0
    | tuple ds =>
      obtain ⟨a, xs, rfl, g1, g2⟩ := id h1
      cases r1
      obtain ⟨its, rv, pl, _⟩ := I.tuple g1.sq
      cases e with
      | none => cases (show y = .non from h2); cases r2; cases h; exact RcAt.tuple_none pl hu0
      | bool z => cases (show y = .bl z from h2); cases r2; cases h; exact RcAt.tuple_bool z pl hu0
      | int z => cases (show y = .int z from h2); obtain ⟨t, rfl⟩ := r2; cases h; exact RcAt.tuple_int z t pl hu0
      | str z => cases (show y = .str z from h2); obtain ⟨t, rfl⟩ := r2; cases h; exact RcAt.tuple_str z t pl hu0
      | list es => obtain ⟨a', ys, rfl, k1, k2⟩ := h2; cases r2; cases h; obtain ⟨its', _, pl', _⟩ := I.list (.inl k1); exact RcAt.tuple_list pl pl'.isList hu0
      | dict _ => cases h
      | tuple es =>
        obtain ⟨a', ys, rfl, k1, k2⟩ := id h2
        cases r2
        obtain ⟨its', rv', pl', _⟩ := I.tuple k1.sq
        · skip
          have l1 := rv.length
          have l2 := rv'.length
          rw [g2.length] at l1
          rw [k2.length] at l2
          have h : eqL (eqF n) ds es = some b := h
          have q := RcAt.tuples (A := A) (s := s) (e := fun j => ((ds[j]?).bind fun d => (es[j]?).bind fun e => eqF n d e).getD false) pl pl' hu0 fun j j1 j2 => by
            obtain ⟨xv, ex, rx⟩ := getV rv j1
            obtain ⟨yv, ey, ry⟩ := getV rv' j2
            obtain ⟨dd, ed, pd⟩ := g2.at ex
            obtain ⟨de, ee, pe⟩ := k2.at ey
            obtain ⟨bb, eb⟩ := eqL_get h ed ee
            have : (((ds[j]?).bind fun d => (es[j]?).bind fun e => eqF n d e).getD false) = bb := by rw [ed, Option.bind_some, ee, Option.bind_some, eb]; rfl
            rw [this]
            exact eqAt_rp I n A.in1 dd de xv yv _ _ bb hin pd pe rx ry eb
          have t := eqL_all (e := fun j => ((ds[j]?).bind fun d => (es[j]?).bind fun e => eqF n d e).getD false) h fun j d e' e1 e2 => by
            obtain ⟨bb, eb⟩ := eqL_get h e1 e2
            rw [e1, Option.bind_some, e2, Option.bind_some, eb]; rfl
          rw [← t]
          have z1 : its.toArray.size = ds.length := by simp; omega
          have z2 : its'.toArray.size = es.length := by simp; omega
          rw [z1, z2] at q
          exact q
    | dict _ => cases e <;> cases h
open SeqAt in
theorem rcNeAt_rp (I : Inv X pins σ H s) {n : Nat} {A : Around} {d e : D} {x y : V} {v u : Value} {b : Bool} (hu : A.units + (n + 1) < cLine) (h1 : Rp X.K H x d) (h2 : Rp X.K H y e) (r1 : RelV x v) (r2 : RelV y u) (h : eqF (n + 1) d e = some b) : RcNeAt A s v u (!b) := by
    have hu0 : A.units < cLine := by omega
    have hin : A.in1.units + n < cLine := by show A.units + 1 + n < cLine; omega
    cases d with
    | none =>
      cases (show x = .non from h1); cases r1
      cases e with
      | none => cases (show y = .non from h2); cases r2; cases h; exact RcNeAt.none_none
      | bool z => cases (show y = .bl z from h2); cases r2; cases h; exact RcNeAt.none_bool z
      | int z => cases (show y = .int z from h2); obtain ⟨t, rfl⟩ := r2; cases h; exact RcNeAt.none_int z t
      | str z => cases (show y = .str z from h2); obtain ⟨t, rfl⟩ := r2; cases h; exact RcNeAt.none_str z t
      | list es => obtain ⟨a, ys, rfl, k1, k2⟩ := h2; cases r2; cases h; obtain ⟨its, _, pl, _⟩ := I.list (.inl k1); exact RcNeAt.none_list pl.isList hu0
      | tuple es => obtain ⟨a, ys, rfl, k1, k2⟩ := h2; cases r2; cases h; obtain ⟨its, _, pl, _⟩ := I.tuple k1.sq; exact RcNeAt.none_tuple pl hu0
      | dict _ => cases h
    | bool w =>
      cases (show x = .bl w from h1); cases r1
      cases e with
      | none => cases (show y = .non from h2); cases r2; cases h; exact RcNeAt.bool_none w
      | bool z => cases (show y = .bl z from h2); cases r2; cases h; exact RcNeAt.bool_bool w z
      | int z => cases (show y = .int z from h2); obtain ⟨t, rfl⟩ := r2; cases h; exact RcNeAt.bool_int w z t
      | str z => cases (show y = .str z from h2); obtain ⟨t, rfl⟩ := r2; cases h; exact RcNeAt.bool_str w z t
      | list es => obtain ⟨a, ys, rfl, k1, k2⟩ := h2; cases r2; cases h; obtain ⟨its, _, pl, _⟩ := I.list (.inl k1); exact RcNeAt.bool_list w pl.isList hu0
      | tuple es => obtain ⟨a, ys, rfl, k1, k2⟩ := h2; cases r2; cases h; obtain ⟨its, _, pl, _⟩ := I.tuple k1.sq; exact RcNeAt.bool_tuple w pl hu0
      | dict _ => cases h
    | int w =>
      cases (show x = .int w from h1); obtain ⟨t0, rfl⟩ := r1
      cases e with
      | none => cases (show y = .non from h2); cases r2; cases h; exact RcNeAt.int_none w t0
      | bool z => cases (show y = .bl z from h2); cases r2; cases h; exact RcNeAt.int_bool w t0 z
      | int z => cases (show y = .int z from h2); obtain ⟨t, rfl⟩ := r2; cases h; exact RcNeAt.int_int w t0 z t
      | str z => cases (show y = .str z from h2); obtain ⟨t, rfl⟩ := r2; cases h; exact RcNeAt.int_str w t0 z t
      | list es => obtain ⟨a, ys, rfl, k1, k2⟩ := h2; cases r2; cases h; obtain ⟨its, _, pl, _⟩ := I.list (.inl k1); exact RcNeAt.int_list w t0 pl.isList hu0
      | tuple es => obtain ⟨a, ys, rfl, k1, k2⟩ := h2; cases r2; cases h; obtain ⟨its, _, pl, _⟩ := I.tuple k1.sq; exact RcNeAt.int_tuple w t0 pl hu0
      | dict _ => cases h
    | str w =>
      cases (show x = .str w from h1); obtain ⟨t0, rfl⟩ := r1
      cases e with
      | none => cases (show y = .non from h2); cases r2; cases h; exact RcNeAt.str_none w t0
      | bool z => cases (show y = .bl z from h2); cases r2; cases h; exact RcNeAt.str_bool w t0 z
      | int z => cases (show y = .int z from h2); obtain ⟨t, rfl⟩ := r2; cases h; exact RcNeAt.str_int w t0 z t
      | str z => cases (show y = .str z from h2); obtain ⟨t, rfl⟩ := r2; cases h; exact RcNeAt.str_str w t0 z t
      | list es => obtain ⟨a, ys, rfl, k1, k2⟩ := h2; cases r2; cases h; obtain ⟨its, _, pl, _⟩ := I.list (.inl k1); exact RcNeAt.str_list w t0 pl.isList hu0
      | tuple es => obtain ⟨a, ys, rfl, k1, k2⟩ := h2; cases r2; cases h; obtain ⟨its, _, pl, _⟩ := I.tuple k1.sq; exact RcNeAt.str_tuple w t0 pl hu0
      | dict _ => cases h
    | list ds =>
      obtain ⟨a, xs, rfl, g1, g2⟩ := id h1
      cases r1
      obtain ⟨its, rv, pl, _⟩ := I.list (.inl g1)
      cases e with
      | none => cases (show y = .non from h2); cases r2; cases h; exact RcNeAt.list_none pl.isList hu0
      | bool z => cases (show y = .bl z from h2); cases r2; cases h; exact RcNeAt.list_bool z pl.isList hu0
      | int z => cases (show y = .int z from h2); obtain ⟨t, rfl⟩ := r2; cases h; exact RcNeAt.list_int z t pl.isList hu0
      | str z => cases (show y = .str z from h2); obtain ⟨t, rfl⟩ := r2; cases h; exact RcNeAt.list_str z t pl.isList hu0
      | tuple es => obtain ⟨a', ys, rfl, k1, k2⟩ := h2; cases r2; cases h; obtain ⟨its', _, pl', _⟩ := I.tuple k1.sq; exact RcNeAt.list_tuple pl.isList pl' hu0
      | dict _ => cases h
      | list es =>
        obtain ⟨a', ys, rfl, k1, k2⟩ := id h2
        cases r2
        obtain ⟨its', rv', pl', _⟩ := I.list (.inl k1)
        · skip
          have l1 := rv.length
          have l2 := rv'.length
          rw [g2.length] at l1
          rw [k2.length] at l2
          have h : (if ds.length = es.length then eqL (eqF n) ds es else some false) = some b := h
          by_cases hl : ds.length = es.length
          · rw [if_pos hl] at h
            have q := RcNeAt.lists (A := A) (s := s) (e := fun j => ((ds[j]?).bind fun d => (es[j]?).bind fun e => eqF n d e).getD false) pl.isList pl'.isList (by simp; omega) hu0 fun j j1 j2 => by
              obtain ⟨xv, ex, rx⟩ := getV rv j1
              obtain ⟨yv, ey, ry⟩ := getV rv' j2
              obtain ⟨dd, ed, pd⟩ := g2.at ex
              obtain ⟨de, ee, pe⟩ := k2.at ey
              obtain ⟨bb, eb⟩ := eqL_get h ed ee
              have : (((ds[j]?).bind fun d => (es[j]?).bind fun e => eqF n d e).getD false) = bb := by rw [ed, Option.bind_some, ee, Option.bind_some, eb]; rfl
              rw [this]
              exact eqAt_rp I n A.in1 dd de xv yv _ _ bb hin pd pe rx ry eb
            have t := eqL_all (e := fun j => ((ds[j]?).bind fun d => (es[j]?).bind fun e => eqF n d e).getD false) h fun j d e' e1 e2 => by
              obtain ⟨bb, eb⟩ := eqL_get h e1 e2
              rw [e1, Option.bind_some, e2, Option.bind_some, eb]; rfl
            rw [← t]
            have : (List.range its.toArray.size) = List.range (min ds.length es.length) := by congr 1; simp; omega
            rw [this] at q
            have hb : (ds.length == es.length) = true := by simpa using hl
            rw [hb, Bool.and_true]
            exact q
          · rw [if_neg hl] at h
            cases h
            exact RcNeAt.lists_lengths pl.isList pl'.isList (by simp; omega) hu0
    | tuple ds =>
      obtain ⟨a, xs, rfl, g1, g2⟩ := id h1
      cases r1
      obtain ⟨its, rv, pl, _⟩ := I.tuple g1.sq
      cases e with
      | none => cases (show y = .non from h2); cases r2; cases h; exact RcNeAt.tuple_none pl hu0
      | bool z => cases (show y = .bl z from h2); cases r2; cases h; exact RcNeAt.tuple_bool z pl hu0
      | int z => cases (show y = .int z from h2); obtain ⟨t, rfl⟩ := r2; cases h; exact RcNeAt.tuple_int z t pl hu0
      | str z => cases (show y = .str z from h2); obtain ⟨t, rfl⟩ := r2; cases h; exact RcNeAt.tuple_str z t pl hu0
      | list es => obtain ⟨a', ys, rfl, k1, k2⟩ := h2; cases r2; cases h; obtain ⟨its', _, pl', _⟩ := I.list (.inl k1); exact RcNeAt.tuple_list pl pl'.isList hu0
      | dict _ => cases h
      | tuple es =>
        obtain ⟨a', ys, rfl, k1, k2⟩ := id h2
        cases r2
        obtain ⟨its', rv', pl', _⟩ := I.tuple k1.sq
        · skip
          have l1 := rv.length
          have l2 := rv'.length
          rw [g2.length] at l1
          rw [k2.length] at l2
          have h : eqL (eqF n) ds es = some b := h
          have q := RcNeAt.tuples (A := A) (s := s) (e := fun j => ((ds[j]?).bind fun d => (es[j]?).bind fun e => eqF n d e).getD false) pl pl' hu0 fun j j1 j2 => by
            obtain ⟨xv, ex, rx⟩ := getV rv j1
            obtain ⟨yv, ey, ry⟩ := getV rv' j2
            obtain ⟨dd, ed, pd⟩ := g2.at ex
            obtain ⟨de, ee, pe⟩ := k2.at ey
            obtain ⟨bb, eb⟩ := eqL_get h ed ee
            have : (((ds[j]?).bind fun d => (es[j]?).bind fun e => eqF n d e).getD false) = bb := by rw [ed, Option.bind_some, ee, Option.bind_some, eb]; rfl
            rw [this]
            exact eqAt_rp I n A.in1 dd de xv yv _ _ bb hin pd pe rx ry eb
          have t := eqL_all (e := fun j => ((ds[j]?).bind fun d => (es[j]?).bind fun e => eqF n d e).getD false) h fun j d e' e1 e2 => by
            obtain ⟨bb, eb⟩ := eqL_get h e1 e2
            rw [e1, Option.bind_some, e2, Option.bind_some, eb]; rfl
          rw [← t]
          have z1 : its.toArray.size = ds.length := by simp; omega
          have z2 : its'.toArray.size = es.length := by simp; omega
          rw [z1, z2] at q
          exact q
    | dict _ => cases e <;> cases h
end
end PD
end
section
set_option linter.all false
set_option maxRecDepth 100000
set_option maxHeartbeats 4000000
/-! P8: the operators over data. -/
namespace PD
open PySem PySem.Spec PyProof.Rows L2

/-! ### ==, !=, in, not in -/
def gEq : G2 := fun d e => (eqF 40 d e).map .bool
def gNe : G2 := fun d e => (eqF 40 d e).map fun b => .bool (!b)
def rEq40 (K : PySem.W.Frag) : R2 := fun x y H Q => ∃ d e b, Rp K H x d ∧ Rp K H y e ∧ eqF 40 d e = some b ∧ Q (.bl b) H
def rNe40 (K : PySem.W.Frag) : R2 := fun x y H Q => ∃ d e b, Rp K H x d ∧ Rp K H y e ∧ eqF 40 d e = some b ∧ Q (.bl (!b)) H
/-- of a list's or a tuple's items x is one -/
def anyF (x : D) : List D → Option Bool
  | [] => some false
  | y :: ys => (eqF 39 y x).bind fun p => (anyF x ys).map (p || ·)
def itemsOf : D → Option (List D)
  | .list ds => some ds
  | .tuple ds => some ds
  | _ => none
def signIn (x z : Str) : Option Bool := match x.cps.toList with
  | [c] => some (decide (c ∈ z.cps.toList))
  | _ => none
def gInB : D → D → Option Bool
  | .str x, .str z => signIn x z
  | x, .list ds => anyF x ds
  | x, .tuple ds => anyF x ds
  | _, _ => none
def gIn : G2 := fun x y => (gInB x y).map .bool
def gNotIn : G2 := fun x y => (gInB x y).map fun b => .bool (!b)
section
variable {X : Cx}
theorem hidRp {K : PySem.W.Frag} {H : Hp} {Z : Addr → Prop} {v : V} {d : D} (h : Rp K (hid H Z) v d) : Rp K H v d := Rp.mono (hid_xt H Z) _ _ h
theorem hidRpA {K : PySem.W.Frag} {H : Hp} {Z : Addr → Prop} {v : List V} {d : List D} (h : RpA K (hid H Z) v d) : RpA K H v d := RpA.mono (hid_xt H Z) _ _ h
theorem or_eq40 (hu : X.A.units + 64 < cLine) : OpR X (compareOp .Eq) (rEq40 X.K) := by
  intro pins s σ H x y v u Q I rx ry h
  obtain ⟨d, e, b, h1, h2, h3, q⟩ := h
  exact rcAt_rp I (n := 39) (A := X.A) (by omega) h1 h2 rx ry h3 X.prog X.w X.xe _ ⟨.bl b, H, I, rfl, q⟩
theorem or_ne40 (hu : X.A.units + 64 < cLine) : OpR X (compareOp .NotEq) (rNe40 X.K) := by
  intro pins s σ H x y v u Q I rx ry h
  obtain ⟨d, e, b, h1, h2, h3, q⟩ := h
  exact rcNeAt_rp I (n := 39) (A := X.A) (by omega) h1 h2 rx ry h3 X.prog X.w X.xe _ ⟨.bl _, H, I, rfl, q⟩
theorem rd_eq {K : PySem.W.Frag} : RD K (rEq40 K) gEq := fun H Z x y d1 d2 d Q hz h1 h2 hg k => by
  unfold gEq at hg
  cases e : eqF 40 d1 d2 with
  | none => rw [e] at hg; cases hg
  | some b => rw [e] at hg; cases hg; exact ⟨d1, d2, b, hidRp h1, hidRp h2, e, k _ H (Same.refl H) rfl⟩
theorem rd_ne {K : PySem.W.Frag} : RD K (rNe40 K) gNe := fun H Z x y d1 d2 d Q hz h1 h2 hg k => by
  unfold gNe at hg
  cases e : eqF 40 d1 d2 with
  | none => rw [e] at hg; cases hg
  | some b => rw [e] at hg; cases hg; exact ⟨d1, d2, b, hidRp h1, hidRp h2, e, k _ H (Same.refl H) rfl⟩
/-! in -/
theorem anyF_get {x : D} : ∀ {ds : List D} {r : Bool}, anyF x ds = some r → ∀ (j : Nat) (d : D), ds[j]? = some d → ∃ b, eqF 39 d x = some b ∧ (b = true → r = true)
  | [], _, _, j, d, h => by simp at h
  | y :: ys, r, h, j, d, hd => by
    have h : (eqF 39 y x).bind (fun p => (anyF x ys).map (p || ·)) = some r := h
    cases e1 : eqF 39 y x with
    | none => rw [e1] at h; cases h
    | some p =>
      rw [e1, Option.bind_some] at h
      cases e2 : anyF x ys with
      | none => rw [e2] at h; cases h
      | some q =>
        rw [e2] at h
        have h : (p || q) = r := Option.some.inj h
        cases j with
        | zero => simp at hd; subst hd; exact ⟨p, e1, fun z => by rw [← h, z]; rfl⟩
        | succ j =>
          obtain ⟨b, h1, h2⟩ := anyF_get e2 j d (by simpa using hd)
          exact ⟨b, h1, fun z => by rw [← h, h2 z]; simp⟩
theorem anyF_true {x : D} : ∀ {ds : List D}, anyF x ds = some true → ∃ (j : Nat) (d : D), ds[j]? = some d ∧ eqF 39 d x = some true
  | [], h => by cases h
  | y :: ys, h => by
    have h : (eqF 39 y x).bind (fun p => (anyF x ys).map (p || ·)) = some true := h
    cases e1 : eqF 39 y x with
    | none => rw [e1] at h; cases h
    | some p =>
      rw [e1, Option.bind_some] at h
      cases e2 : anyF x ys with
      | none => rw [e2] at h; cases h
      | some q =>
        rw [e2] at h
        have h : (p || q) = true := Option.some.inj h
        rcases Bool.or_eq_true_iff.mp h with z | z
        · subst z; exact ⟨0, y, rfl, e1⟩
        · subst z
          obtain ⟨j, d, h1, h2⟩ := anyF_true e2
          exact ⟨j + 1, d, by simpa using h1, h2⟩
open SeqAt in
theorem in_items {pins : List (Addr × Obj)} {s : Shared} {σ : L2.St} {H : Hp} (I : Inv X pins σ H s) (hu : X.A.units + 64 < cLine) {x : V} {v : Value} {d : D} {vs : List V} {its : List Value} {ds : List D} {r : Bool} (rx : RelV x v) (hx : Rp X.K H x d) (rv : Vals vs its) (hd : RpA X.K H vs ds) (h : anyF d ds = some r) :
    ∃ e : Value → Bool, (∀ y, y ∈ its.toArray → EqAt X.A.in1 s y v (e y)) ∧ its.toArray.any e = r := by
  classical
  have at_ : ∀ (j : Nat) (u : Value), its[j]? = some u → ∃ b, ds[j]?.bind (fun dd => eqF 39 dd d) = some b ∧ EqAt X.A.in1 s u v b := fun j u eu => by
    have hj : j < vs.length := by rw [rv.length]; exact (List.getElem?_eq_some_iff.mp eu).1
    obtain ⟨u', e1, r1⟩ := rv.get (List.getElem?_eq_getElem hj)
    rw [eu] at e1
    cases e1
    obtain ⟨dd, e2, p2⟩ := hd.at (List.getElem?_eq_getElem hj)
    obtain ⟨b, e3, _⟩ := anyF_get h j dd e2
    exact ⟨b, by rw [e2, Option.bind_some, e3], eqAt_rp I 39 X.A.in1 dd d _ x u v b (by show X.A.units + 1 + 39 < cLine; omega) p2 hx r1 rx e3⟩
  refine ⟨fun u => decide (∃ j : Nat, its[j]? = some u ∧ ds[j]?.bind (fun dd => eqF 39 dd d) = some true), fun y hy => ?_, ?_⟩
  · by_cases hex : ∃ j : Nat, its[j]? = some y ∧ ds[j]?.bind (fun dd => eqF 39 dd d) = some true
    · obtain ⟨j, h1, h2⟩ := id hex
      obtain ⟨b, h3, h4⟩ := at_ j y h1
      rw [h2] at h3
      cases h3
      dsimp only
      rw [decide_eq_true hex]
      exact h4
    · obtain ⟨j, hj⟩ := List.mem_iff_getElem?.mp (show y ∈ its by simpa using hy)
      obtain ⟨b, h3, h4⟩ := at_ j y hj
      dsimp only
      rw [decide_eq_false hex]
      cases b with
      | false => exact h4
      | true => exact absurd ⟨j, hj, h3⟩ hex
  · rw [show its.toArray.any (fun u => decide (∃ j : Nat, its[j]? = some u ∧ ds[j]?.bind (fun dd => eqF 39 dd d) = some true)) = its.any (fun u => decide (∃ j : Nat, its[j]? = some u ∧ ds[j]?.bind (fun dd => eqF 39 dd d) = some true)) by simp]
    cases r with
    | true =>
      obtain ⟨j, dd, h1, h2⟩ := anyF_true h
      have hj : j < its.length := by rw [← rv.length, hd.length]; exact (List.getElem?_eq_some_iff.mp h1).1
      exact List.any_eq_true.mpr ⟨its[j], List.getElem_mem hj, decide_eq_true ⟨j, List.getElem?_eq_getElem hj, by rw [h1, Option.bind_some, h2]⟩⟩
    | false =>
      refine List.any_eq_false.mpr fun u hu' q => ?_
      obtain ⟨j, h1, h2⟩ := of_decide_eq_true q
      cases e : ds[j]? with
      | none => rw [e] at h2; cases h2
      | some dd =>
        rw [e, Option.bind_some] at h2
        obtain ⟨b, h3, h4⟩ := anyF_get h j dd e
        rw [h2] at h3
        cases h3
        exact absurd (h4 rfl) (by decide)
def rIn40 (K : PySem.W.Frag) (neg : Bool) : R2 := fun x y H Q => ∃ d a vs ds r, y = .ref a ∧ (SqL K H a vs ∨ SqT K H a vs) ∧ Rp K H x d ∧ RpA K H vs ds ∧ anyF d ds = some r ∧ Q (.bl (if neg then !r else r)) H
theorem or_in40 (hu : X.A.units + 64 < cLine) : OpR X (compareOp .In) (rIn40 X.K false) := by
  intro pins s σ H x y v u Q I rx ry h
  obtain ⟨d, a, vs, ds, r, rfl, hs, hx, hd, h, q⟩ := h
  cases ry
  rcases hs with hs | hs
  · obtain ⟨its, rv, pl, _⟩ := I.list hs
    obtain ⟨e, h1, h2⟩ := in_items I hu rx hx rv hd h
    exact SeqAt.in_listAt e pl.isList h1 ⟨.bl _, H, I, rfl, by rw [h2]; exact q⟩
  · obtain ⟨its, rv, pl, _⟩ := I.tuple hs
    obtain ⟨e, h1, h2⟩ := in_items I hu rx hx rv hd h
    exact SeqAt.in_tupleAt e pl h1 ⟨.bl _, H, I, rfl, by rw [h2]; exact q⟩
theorem or_notIn40 (hu : X.A.units + 64 < cLine) : OpR X (compareOp .NotIn) (rIn40 X.K true) := by
  intro pins s σ H x y v u Q I rx ry h
  obtain ⟨d, a, vs, ds, r, rfl, hs, hx, hd, h, q⟩ := h
  cases ry
  rcases hs with hs | hs
  · obtain ⟨its, rv, pl, _⟩ := I.list hs
    obtain ⟨e, h1, h2⟩ := in_items I hu rx hx rv hd h
    exact SeqAt.notIn_listAt e pl.isList h1 ⟨.bl _, H, I, rfl, by rw [h2]; exact q⟩
  · obtain ⟨its, rv, pl, _⟩ := I.tuple hs
    obtain ⟨e, h1, h2⟩ := in_items I hu rx hx rv hd h
    exact SeqAt.notIn_tupleAt e pl h1 ⟨.bl _, H, I, rfl, by rw [h2]; exact q⟩
def rSign (neg : Bool) : R2 := fun x y H Q => ∃ (c : Nat) (z : Str), x = .str ⟨#[c]⟩ ∧ y = .str z ∧ Q (.bl (if neg then !decide (c ∈ z.cps.toList) else decide (c ∈ z.cps.toList))) H
theorem or_in (hu : X.A.units + 64 < cLine) : OpR X (compareOp .In) (fun x y H Q => rIn40 X.K false x y H Q ∨ rSign false x y H Q) := OpR.or (or_in40 hu) op_in_sign
theorem or_notIn (hu : X.A.units + 64 < cLine) : OpR X (compareOp .NotIn) (fun x y H Q => rIn40 X.K true x y H Q ∨ rSign true x y H Q) := OpR.or (or_notIn40 hu) op_notIn_sign
theorem signIn_some {x z : Str} {b : Bool} (h : signIn x z = some b) : ∃ c, x = ⟨#[c]⟩ ∧ b = decide (c ∈ z.cps.toList) := by
  unfold signIn at h
  split at h
  · rename_i c e
    cases h
    refine ⟨c, ?_, rfl⟩
    obtain ⟨⟨l⟩⟩ := x
    have e : l = [c] := e
    rw [e]
  · cases h
theorem in_cases {K : PySem.W.Frag} {neg : Bool} {H : Hp} {Z : Addr → Prop} {x y : V} {d1 d2 : D} {b : Bool} {Q : VK} (h1 : Rp K (hid H Z) x d1) (h2 : Rp K (hid H Z) y d2) (hg : gInB d1 d2 = some b) (q : Q (.bl (if neg then !b else b)) H) : rIn40 K neg x y H Q ∨ rSign neg x y H Q := by
  have seqL : ∀ ds, d2 = .list ds → anyF d1 ds = some b → rIn40 K neg x y H Q ∨ rSign neg x y H Q := fun ds e h => by
    subst e
    obtain ⟨a, vs, e, k1, k2⟩ := h2
    exact .inl ⟨d1, a, vs, ds, b, e, .inl (.inl (hid_rd k1).1), hidRp h1, hidRpA k2, h, q⟩
  have seqT : ∀ ds, d2 = .tuple ds → anyF d1 ds = some b → rIn40 K neg x y H Q ∨ rSign neg x y H Q := fun ds e h => by
    subst e
    obtain ⟨a, vs, e, k1, k2⟩ := h2
    exact .inl ⟨d1, a, vs, ds, b, e, .inr (hid_sqT k1.sq), hidRp h1, hidRpA k2, h, q⟩
  cases d2 with
  | list ds => exact seqL ds rfl (by cases d1 <;> exact hg)
  | tuple ds => exact seqT ds rfl (by cases d1 <;> exact hg)
  | str z =>
    cases d1 with
    | str w =>
      obtain ⟨c, e, eb⟩ := signIn_some hg
      subst e eb
      exact .inr ⟨c, z, h1, h2, q⟩
    | none => cases hg
    | bool _ => cases hg
    | int _ => cases hg
    | list _ => cases hg
    | tuple _ => cases hg
    | dict _ => cases hg
  | none => cases d1 <;> cases hg
  | bool _ => cases d1 <;> cases hg
  | int _ => cases d1 <;> cases hg
  | dict _ => cases d1 <;> cases hg
theorem rd_in {K : PySem.W.Frag} : RD K (fun x y H Q => rIn40 K false x y H Q ∨ rSign false x y H Q) gIn := fun H Z x y d1 d2 d Q hz h1 h2 hg k => by
  unfold gIn at hg
  cases e : gInB d1 d2 with
  | none => rw [e] at hg; cases hg
  | some b => rw [e] at hg; cases hg; exact in_cases h1 h2 e (k _ H (Same.refl H) rfl)
theorem rd_notIn {K : PySem.W.Frag} : RD K (fun x y H Q => rIn40 K true x y H Q ∨ rSign true x y H Q) gNotIn := fun H Z x y d1 d2 d Q hz h1 h2 hg k => by
  unfold gNotIn at hg
  cases e : gInB d1 d2 with
  | none => rw [e] at hg; cases hg
  | some b => rw [e] at hg; cases hg; exact in_cases (neg := true) h1 h2 e (k _ H (Same.refl H) rfl)
end
end PD
end
section
set_option linter.all false
set_option maxRecDepth 100000
set_option maxHeartbeats 4000000
/-! P9: arithmetic, order, parts, built-ins over data; what is walked. -/
namespace PD
open PySem PySem.Spec PyProof.Rows L2

/-! ### sizes of numbers -/
def mulOk (i j : Int) : Bool := decide (i.natAbs.log2 < 64) || decide (j.natAbs.log2 < 64) || decide (i.natAbs.log2 + j.natAbs.log2 < 1000000)
def divOk (j : Int) : Bool := decide (0 < j) && decide (j.natAbs.log2 < 9000)
def gAdd : G2
  | .int i, .int j => some (.int (i + j))
  | .str x, .str y => if x.length + y.length ≤ sizeLine then some (.str (x ++ y)) else none
  | .list a, .list b => if a.length + b.length ≤ sizeLine then some (.list (a ++ b)) else none
  | .tuple a, .tuple b => if a.length + b.length ≤ sizeLine then some (.tuple (a ++ b)) else none
  | _, _ => none
def gSub : G2
  | .int i, .int j => some (.int (i - j))
  | _, _ => none
def gMul : G2
  | .int i, .int j => if mulOk i j then some (.int (i * j)) else none
  | _, _ => none
def gDiv : G2
  | .int i, .int j => if divOk j then some (.int (i / j)) else none
  | _, _ => none
def gMod : G2
  | .int i, .int j => if 0 < j then some (.int (i % j)) else none
  | _, _ => none
def gPow : G2
  | .int i, .int j => if 0 ≤ j ∧ j ≤ 1000000 ∧ i.natAbs < 2 ^ 64 then some (.int (i ^ j.toNat)) else none
  | _, _ => none
def gNeg : G1
  | .int i => some (.int (-i))
  | _ => none
def gLt : G2
  | .int i, .int j => some (.bool (decide (i < j)))
  | .str x, .str y => some (.bool (decide (x.cps.toList < y.cps.toList)))
  | _, _ => none
def gLe : G2
  | .int i, .int j => some (.bool (decide (i ≤ j)))
  | _, _ => none
def gGt : G2
  | .int i, .int j => some (.bool (decide (j < i)))
  | _, _ => none
def gGe : G2
  | .int i, .int j => some (.bool (decide (j ≤ i)))
  | _, _ => none
section
variable {X : Cx} {K : PySem.W.Frag}
theorem log2_natAbs {i : Int} {n : Nat} (h : i.natAbs.log2 < n) : -(2 ^ n) < i ∧ i < 2 ^ n := by
  have h1 : i.natAbs < 2 ^ n := by
    by_cases h0 : i.natAbs = 0
    · rw [h0]; exact Nat.two_pow_pos n
    · exact (Nat.log2_lt h0).mp h
  have h2 : (i.natAbs : Int) < 2 ^ n := by exact_mod_cast h1
  omega
def rMulI : R2 := fun x y H Q => ∃ i j, x = .int i ∧ y = .int j ∧ mulOk i j = true ∧ Q (.int (i * j)) H
theorem or_mulI : OpR X (binaryOp .Mult) rMulI := by
  intro pins s σ H x y v u Q I rx ry h
  obtain ⟨i, j, rfl, rfl, hk, q⟩ := h
  unfold mulOk at hk
  simp only [Bool.or_eq_true, decide_eq_true_eq] at hk
  rcases hk with (hk | hk) | hk
  · exact op_mul pins s σ H _ _ v u Q I rx ry ⟨i, j, rfl, rfl, .inl (log2_natAbs hk), q⟩
  · exact op_mul pins s σ H _ _ v u Q I rx ry ⟨i, j, rfl, rfl, .inr (log2_natAbs hk), q⟩
  · exact op_mulW pins s σ H _ _ v u Q I rx ry ⟨i, j, rfl, rfl, hk, q⟩
/-- lists, known ones too -/
def rCat' : R2 := fun x y H Q => ∃ l b xs zs, x = .ref l ∧ y = .ref b ∧ Rd H l (.lst xs) ∧ Rd H b (.lst zs) ∧ xs.length + zs.length ≤ sizeLine ∧ ∀ p, H p = none → Q (.ref p) (upd H p (.lst (xs ++ zs)))
theorem or_cat : OpR X (binaryOp .Add) rCat' := by
  intro pins s σ H x y v u Q I rx ry h
  obtain ⟨l, b, xs, zs, rfl, rfl, hl, hb, hz, q⟩ := h
  cases rx
  cases ry
  obtain ⟨_, its, n, r, e⟩ := hl.ok I.hok
  obtain ⟨_, its2, n2, r2, e2⟩ := hb.ok I.hok
  have s1 := r.length
  have s2 := r2.length
  refine PySem.P.add_list e e2 ?_ (by simp only [List.size_toArray]; omega)
  have ea : its.toArray ++ its2.toArray = (its ++ its2).toArray := by simp
  rw [ea]
  have hn : H s.heap.objs.size = none := I.hok.fresh (Nat.le_refl _)
  refine ⟨.ref s.heap.objs.size, _, I.laid (t' := s.toks) (fun b o e => Heap.get?_push_of_some _ e) (Nat.le_refl _) (show ObjOk X.prog X.w _ _ _ (.lst (xs ++ zs)) from ⟨by rw [List.length_append]; exact hz, its ++ its2, 0, r.append r2, Heap.get?_push_size _ rfl⟩), rfl, q _ hn⟩
theorem or_add : OpR X (binaryOp .Add) (fun x y H Q => (rI0 (fun i j => .int (i + j)) x y H Q ∨ ∃ i j, x = .str i ∧ y = .str j ∧ i.length + j.length ≤ sizeLine ∧ Q (.str (i ++ j)) H) ∨ rCat' x y H Q ∨ rCatA X.K x y H Q) := OpR.or (OpR.or op_add op_add_str) (OpR.or or_cat op_catA)
theorem rd_add : RD K (fun x y H Q => (rI0 (fun i j => .int (i + j)) x y H Q ∨ ∃ i j, x = .str i ∧ y = .str j ∧ i.length + j.length ≤ sizeLine ∧ Q (.str (i ++ j)) H) ∨ rCat' x y H Q ∨ rCatA K x y H Q) gAdd := fun H Z x y d1 d2 d Q hz h1 h2 hg k => by
  unfold gAdd at hg
  split at hg
  · cases hg
    exact .inl (.inl ⟨_, _, h1, h2, k _ H (Same.refl H) rfl⟩)
  · split at hg
    · rename_i hl
      cases hg
      exact .inl (.inr ⟨_, _, h1, h2, hl, k _ H (Same.refl H) rfl⟩)
    · cases hg
  · split at hg
    · rename_i hl
      cases hg
      obtain ⟨l, vs, rfl, k1, k2⟩ := h1
      obtain ⟨l', ws, rfl, j1, j2⟩ := h2
      exact .inr (.inl ⟨l, l', vs, ws, rfl, rfl, (hid_rd k1).1, (hid_rd j1).1, by rw [k2.length, j2.length]; exact hl, fun p hp => k _ _ (same_upd hp) (rp_new_lst hz hp (RpA.app k2 j2))⟩)
    · cases hg
  · split at hg
    · rename_i a b hl
      cases hg
      obtain ⟨l, vs, rfl, k1, k2⟩ := id h1
      obtain ⟨l', ws, rfl, j1, j2⟩ := id h2
      refine .inr (.inr ⟨l, l', vs, ws, rfl, rfl, hid_sqT k1.sq, hid_sqT j1.sq, by rw [k2.length, j2.length]; exact hl, fun e => ?_, fun _ e => ?_, fun _ _ p hp => k _ _ (same_upd hp) (rp_new_tup hz hp (RpA.app k2 j2))⟩)
      · have : a = [] := List.length_eq_zero_iff.mp (by rw [← k2.length, e]; rfl)
        subst this
        exact k _ H (Same.refl H) h2
      · have : b = [] := List.length_eq_zero_iff.mp (by rw [← j2.length, e]; rfl)
        subst this
        refine k _ H (Same.refl H) ?_
        rw [List.append_nil]
        exact h1
    · cases hg
  · cases hg
theorem rd_sub : RD K (rI0 fun i j => .int (i - j)) gSub := fun H Z x y d1 d2 d Q hz h1 h2 hg k => by
  unfold gSub at hg
  split at hg
  · cases hg; exact ⟨_, _, h1, h2, k _ H (Same.refl H) rfl⟩
  · cases hg
def rRep' : R2 := fun x y H Q => ∃ l k xs, x = .ref l ∧ y = .int k ∧ H l = some (.lst xs) ∧ -(2 ^ 63) ≤ k ∧ k < 2 ^ 63 ∧ xs.length * k.toNat ≤ sizeLine ∧ ∀ p, H p = none → Q (.ref p) (upd H p (.lst (List.replicate k.toNat xs).flatten))
theorem RpA.rep {H : Hp} {vs : List V} {ds : List D} (h : RpA K H vs ds) : ∀ n, RpA K H (List.replicate n vs).flatten (List.replicate n ds).flatten
  | 0 => rfl
  | n + 1 => by rw [List.replicate_succ, List.replicate_succ, List.flatten_cons, List.flatten_cons]; exact RpA.app h (RpA.rep h n)
theorem rd_mul : RD K rMulI gMul := fun H Z x y d1 d2 d Q hz h1 h2 hg k => by
  unfold gMul at hg
  split at hg
  · split at hg
    · rename_i hm
      cases hg; exact ⟨_, _, h1, h2, hm, k _ H (Same.refl H) rfl⟩
    · cases hg
  · cases hg
theorem rd_div : RD K (rI CDivW fun i j => .int (i / j)) gDiv := fun H Z x y d1 d2 d Q hz h1 h2 hg k => by
  unfold gDiv at hg
  split at hg
  · split at hg
    · rename_i hm
      unfold divOk at hm
      simp only [Bool.and_eq_true, decide_eq_true_eq] at hm
      cases hg; exact ⟨_, _, h1, h2, hm, k _ H (Same.refl H) rfl⟩
    · cases hg
  · cases hg
theorem rd_mod : RD K (rI (fun _ j => 0 < j) fun i j => .int (i % j)) gMod := fun H Z x y d1 d2 d Q hz h1 h2 hg k => by
  unfold gMod at hg
  split at hg
  · split at hg
    · rename_i hm
      cases hg; exact ⟨_, _, h1, h2, hm, k _ H (Same.refl H) rfl⟩
    · cases hg
  · cases hg
theorem rd_pow : RD K (rI CPow fun i j => .int (i ^ j.toNat)) gPow := fun H Z x y d1 d2 d Q hz h1 h2 hg k => by
  unfold gPow at hg
  split at hg
  · split at hg
    · rename_i hm
      cases hg; exact ⟨_, _, h1, h2, hm, k _ H (Same.refl H) rfl⟩
    · cases hg
  · cases hg
theorem rd_neg : RD1 K (rU fun i => .int (-i)) gNeg := fun H Z x d1 d Q hz h1 hg k => by
  unfold gNeg at hg
  split at hg
  · cases hg; exact ⟨_, h1, k _ H (Same.refl H) rfl⟩
  · cases hg
theorem rd_le : RD K (rI0 fun i j => .bl (decide (i ≤ j))) gLe := fun H Z x y d1 d2 d Q hz h1 h2 hg k => by
  unfold gLe at hg
  split at hg
  · cases hg; exact ⟨_, _, h1, h2, k _ H (Same.refl H) rfl⟩
  · cases hg
theorem rd_gt : RD K (rI0 fun i j => .bl (decide (j < i))) gGt := fun H Z x y d1 d2 d Q hz h1 h2 hg k => by
  unfold gGt at hg
  split at hg
  · cases hg; exact ⟨_, _, h1, h2, k _ H (Same.refl H) rfl⟩
  · cases hg
theorem rd_ge : RD K (rI0 fun i j => .bl (decide (j ≤ i))) gGe := fun H Z x y d1 d2 d Q hz h1 h2 hg k => by
  unfold gGe at hg
  split at hg
  · cases hg; exact ⟨_, _, h1, h2, k _ H (Same.refl H) rfl⟩
  · cases hg
theorem or_lt : OpR X (compareOp .Lt) (fun x y H Q => rI0 (fun i j => .bl (decide (i < j))) x y H Q ∨ ∃ i j, x = .str i ∧ y = .str j ∧ Q (.bl (decide (i.cps.toList < j.cps.toList))) H) := OpR.or op_lt op_lt_str
theorem rd_lt : RD K (fun x y H Q => rI0 (fun i j => .bl (decide (i < j))) x y H Q ∨ ∃ i j, x = .str i ∧ y = .str j ∧ Q (.bl (decide (i.cps.toList < j.cps.toList))) H) gLt := fun H Z x y d1 d2 d Q hz h1 h2 hg k => by
  unfold gLt at hg
  split at hg
  · cases hg; exact .inl ⟨_, _, h1, h2, k _ H (Same.refl H) rfl⟩
  · cases hg; exact .inr ⟨_, _, h1, h2, k _ H (Same.refl H) rfl⟩
  · cases hg
/-! is None -/
def isNoneD : D → Bool
  | .none => true
  | _ => false
def gIsN : G1 := fun d => some (.bool (isNoneD d))
def gNotN : G1 := fun d => some (.bool (!isNoneD d))
theorem rp_none {H : Hp} {v : V} {d : D} (h : Rp K H v d) : decide (v = .non) = isNoneD d := by
  cases d with
  | none => cases (show v = .non from h); rfl
  | bool b => cases (show v = .bl b from h); rfl
  | int i => cases (show v = .int i from h); rfl
  | str x => cases (show v = .str x from h); rfl
  | list ds => obtain ⟨a, xs, rfl, _⟩ := h; rfl
  | tuple ds => obtain ⟨a, xs, rfl, _⟩ := h; rfl
  | dict ds => obtain ⟨a, rfl, _⟩ := h; rfl
variable {T : List (Addr × Str)} {Φ : Fx} {B : Nat → Bool} {a b c : Expr} {ma mb mc : ME} {pos pos' : Pos} {j : Nat}
theorem pd_isN (ha : PDe X T Φ B a ma) : PDe X T Φ B (.Compare a [.Is] [.Constant .none j pos'] pos) (e1 gIsN ma) := PE.cons (pe_cmp (pc_isN ha)) fun σ H Q ⟨A, Z, ρ, μ, d, μ', R, hm, k⟩ => by
  unfold e1 at hm
  cases e : ma ρ μ with
  | none => rw [e] at hm; cases hm
  | some p =>
    rw [e, Option.bind_some] at hm
    refine ⟨A, Z, ρ, μ, p.1, p.2, R, e, fun x H1 f1 R1 p1 => ?_⟩
    dsimp only
    rw [rp_none p1]
    cases hm
    exact k _ H1 f1 R1 rfl
theorem pd_notN (ha : PDe X T Φ B a ma) : PDe X T Φ B (.Compare a [.IsNot] [.Constant .none j pos'] pos) (e1 gNotN ma) := PE.cons (pe_cmp (pc_notN ha)) fun σ H Q ⟨A, Z, ρ, μ, d, μ', R, hm, k⟩ => by
  unfold e1 at hm
  cases e : ma ρ μ with
  | none => rw [e] at hm; cases hm
  | some p =>
    rw [e, Option.bind_some] at hm
    refine ⟨A, Z, ρ, μ, p.1, p.2, R, e, fun x H1 f1 R1 p1 => ?_⟩
    dsimp only
    rw [rp_none p1]
    cases hm
    exact k _ H1 f1 R1 rfl
/-! two comparisons in a row -/
def e3 (g g' : G2) (a b c : ME) : ME := fun ρ μ => (a ρ μ).bind fun p => (b ρ p.2).bind fun q => (g p.1 q.1).bind fun r => (gBool r).bind fun t => if t = true then (c ρ q.2).bind fun w => (g' q.1 w.1).map fun z => (z, w.2) else some (.bool false, q.2)
theorem pd_chain {op op' : CmpOp} {r r' : R2} {g g' : G2} (ho : OpR X (compareOp op) r) (hr : RD X.K r g) (ho' : OpR X (compareOp op') r') (hr' : RD X.K r' g') (ha : PDe X T Φ B a ma) (hb : PDe X T Φ B b mb) (hc : PDe X T Φ B c mc) (hm : lastMarks [op, op'] [b, c] = false := by with_unfolding_all rfl) :
    PDe X T Φ B (.Compare a [op, op'] [b, c] pos) (e3 g g' ma mb mc) := PE.cons (pe_chain ho ho' ha hb hc hm) fun σ H Q ⟨A, Z, ρ, μ, d, μ', R, hm, k⟩ => by
  unfold e3 at hm
  cases e : ma ρ μ with
  | none => rw [e] at hm; cases hm
  | some p =>
    rw [e, Option.bind_some] at hm
    cases e' : mb ρ p.2 with
    | none => rw [e'] at hm; cases hm
    | some q =>
      rw [e', Option.bind_some] at hm
      cases e2 : g p.1 q.1 with
      | none => rw [e2] at hm; cases hm
      | some w =>
        rw [e2, Option.bind_some] at hm
        cases e3 : gBool w with
        | none => rw [e3] at hm; cases hm
        | some t =>
          rw [e3, Option.bind_some] at hm
          refine ⟨A, Z, ρ, μ, p.1, p.2, R, e, fun x H1 f1 R1 p1 => ⟨A, Z, ρ, p.2, q.1, q.2, R1, e', fun y H2 f2 R2 p2 => ?_⟩⟩
          refine hr H2 _ x y _ _ w _ R2.tracked (Rp.mono (fw_xt f2) _ _ p1) p2 e2 fun v H3 s3 p3 => ?_
          rw [gBool_some e3] at p3
          refine ⟨t, p3, ?_⟩
          have R3 := R2.same s3
          have f3 : Fw (Wr B ρ A) H H3 := (f1.trans f2).trans (Fw.same s3)
          cases t with
          | false => cases hm; exact iteF (k _ H3 f3 R3 rfl)
          | true =>
            refine iteT ?_
            have hm : (mc ρ q.2).bind (fun w => (g' q.1 w.1).map fun z => (z, w.2)) = some (d, μ') := hm
            cases e4 : mc ρ q.2 with
            | none => rw [e4] at hm; cases hm
            | some u =>
              rw [e4, Option.bind_some] at hm
              cases e5 : g' q.1 u.1 with
              | none => rw [e5] at hm; cases hm
              | some z =>
                rw [e5] at hm; cases hm
                refine ⟨A, Z, ρ, q.2, u.1, u.2, R3, e4, fun y4 H4 f4 R4 p4 => ?_⟩
                exact hr' H4 _ y y4 _ _ _ Q R4.tracked (Rp.mono (fw_xt f4) _ _ (Rp.mono (Same.xt s3) _ _ p2)) p4 e5 fun v5 H5 s5 p5 => k v5 H5 ((f3.trans f4).trans (Fw.same s5)) (R4.same s5) p5
/-! ### parts -/
def gIx : G2
  | .list xs, .int i => atI xs i
  | .tuple xs, .int i => atI xs i
  | .str z, .int i => if z.length ≤ sizeLine then (atI z.cps.toList i).map fun c => .str ⟨#[c]⟩ else none
  | _, _ => none
theorem atI_rp {H : Hp} {vs : List V} {ds : List D} {i : Int} {d : D} (h : RpA K H vs ds) (e : atI ds i = some d) : ∃ v, atI vs i = some v ∧ Rp K H v d := by
  unfold atI at e ⊢
  rw [h.length]
  cases e' : ixN ds.length i with
  | none => rw [e'] at e; cases e
  | some j =>
    rw [e', Option.bind_some] at e
    rw [Option.bind_some]
    exact h.get e
theorem rd_ix : RD K (rIx K) gIx := fun H Z x y d1 d2 d Q hz h1 h2 hg k => by
  unfold gIx at hg
  split at hg
  · obtain ⟨a, vs, rfl, k1, k2⟩ := h1
    obtain ⟨v, e, p⟩ := atI_rp k2 hg
    exact .inl ⟨a, vs, _, v, rfl, h2, .inl (hid_rd k1).1, e, k v H (Same.refl H) p⟩
  · obtain ⟨a, vs, rfl, k1, k2⟩ := h1
    obtain ⟨v, e, p⟩ := atI_rp k2 hg
    exact .inr (.inl ⟨a, vs, _, v, rfl, h2, hid_sqT k1.sq, e, k v H (Same.refl H) p⟩)
  · split at hg
    · rename_i z i hl
      cases e : atI z.cps.toList i with
      | none => rw [e] at hg; cases hg
      | some c =>
        rw [e] at hg; cases hg
        exact .inr (.inr ⟨_, _, c, h1, h2, hl, e, k _ H (Same.refl H) rfl⟩)
    · cases hg
  · cases hg
/-- a slice's parts -/
def pN : List Slot → List Cell → Option (Option Int × List Cell) := fun _ μ => some (none, μ)
def pS (m : ME) : List Slot → List Cell → Option (Option Int × List Cell) := fun ρ μ => (m ρ μ).bind fun p => match p.1 with
  | .int i => some (some i, p.2)
  | _ => none
abbrev MP := List Slot → List Cell → Option (Option Int × List Cell)
def tP (K : PySem.W.Frag) (T : List (Addr × Str)) (Φ : Fx) (B : Nat → Bool) (m : MP) : TO := fun σ H Q => ∃ A Z ρ μ o μ', Rep K T Φ A Z σ H ρ μ ∧ m ρ μ = some (o, μ') ∧ ∀ H', Fw (Wr B ρ A) H H' → Rep K T Φ A Z σ H' ρ μ' → Q o H'
abbrev PDp (X : Cx) (T : List (Addr × Str)) (Φ : Fx) (B : Nat → Bool) (e : Option Expr) (m : MP) : Prop := PO X e (tP X.K T Φ B m)
theorem PO.cons {e : Option Expr} {t t' : TO} (h : PO X e t) (hc : ∀ σ H Q, t' σ H Q → t σ H Q) : PO X e t' := ⟨fun pins s σ H Q I q => h.run pins s σ H Q I (hc σ H Q q)⟩
theorem pp_n : PDp X T Φ B none pN := PO.cons po_none fun σ H Q ⟨A, Z, ρ, μ, o, μ', R, hm, k⟩ => by
  cases hm
  exact k H (Fw.refl _ _) R
theorem pp_s (ha : PDe X T Φ B a ma) : PDp X T Φ B (some a) (pS ma) := PO.cons (po_some ha) fun σ H Q ⟨A, Z, ρ, μ, o, μ', R, hm, k⟩ => by
  unfold pS at hm
  cases e : ma ρ μ with
  | none => rw [e] at hm; cases hm
  | some p =>
    rw [e, Option.bind_some] at hm
    split at hm
    · rename_i i ei
      cases hm
      refine ⟨A, Z, ρ, μ, p.1, p.2, R, e, fun x H1 f1 R1 p1 => ?_⟩
      rw [ei] at p1
      exact ⟨i, p1, k H1 f1 R1⟩
    · cases hm
def cutD (xs : List D) (lo hi : Option Int) : List D := (xs.drop (HT.sIx xs.length 0 lo)).take (HT.sIx xs.length xs.length hi - HT.sIx xs.length 0 lo)
def gSl (d : D) (lo hi : Option Int) : Option D := match d with
  | .list xs => some (.list (cutD xs lo hi))
  | .tuple xs => some (.tuple (cutD xs lo hi))
  | .str z => if z.length ≤ sizeLine then some (.str (cutS z lo hi)) else none
  | _ => none
def eSl (a : ME) (lo hi : MP) : ME := fun ρ μ => (a ρ μ).bind fun p => (lo ρ p.2).bind fun l => (hi ρ l.2).bind fun h => (gSl p.1 l.1 h.1).map fun d => (d, h.2)
theorem cut_rp {H : Hp} {vs : List V} {ds : List D} {lo hi : Option Int} (h : RpA K H vs ds) : RpA K H (cutV vs lo hi) (cutD ds lo hi) := by
  unfold cutV cutD
  rw [h.length]
  exact RpA.take _ (RpA.drop _ h)
def rSlAll (K : PySem.W.Frag) : V → Option Int → Option Int → Hp → VK → Prop := fun x lo hi H Q => rSlL K x lo hi H Q ∨ rSlA K x lo hi H Q ∨ rSlS x lo hi H Q
theorem sl_all : SlR X (rSlAll X.K) := SlR.or sl_list (SlR.or sl_tupA sl_str)
theorem cut_whole {xs : List D} {lo hi : Option Int} (h : HT.sIx xs.length 0 lo = 0 ∧ HT.sIx xs.length xs.length hi = xs.length) : cutD xs lo hi = xs := by
  unfold cutD
  rw [h.1, h.2]
  simp
theorem rd_sl (H : Hp) (Z : Addr → Prop) (x : V) (d1 d : D) (lo hi : Option Int) (Q : VK) (hz : ∀ a, Z a → H a ≠ none) (h1 : Rp K (hid H Z) x d1) (hg : gSl d1 lo hi = some d) (k : ∀ v H', Same H H' → Rp K (hid H' Z) v d → Q v H') : rSlAll K x lo hi H Q := by
  unfold gSl at hg
  split at hg
  · cases hg
    obtain ⟨a, vs, rfl, k1, k2⟩ := h1
    exact .inl ⟨a, vs, rfl, .inl (hid_rd k1).1, fun p hp => k _ _ (same_upd hp) (rp_new_lst hz hp (cut_rp k2))⟩
  · cases hg
    obtain ⟨a, vs, rfl, k1, k2⟩ := id h1
    refine .inr (.inl ⟨a, vs, rfl, hid_sqT k1.sq, fun e => ?_, fun _ p hp => k _ _ (same_upd hp) (rp_new_tup hz hp (cut_rp k2))⟩)
    rw [k2.length] at e
    exact k _ H (Same.refl H) (by rw [cut_whole e]; exact h1)
  · split at hg
    · rename_i hl
      cases hg
      exact .inr (.inr ⟨_, h1, hl, k _ H (Same.refl H) rfl⟩)
    · cases hg
  · cases hg
theorem pd_sl {lo hi : Option Expr} {ml mh : MP} {p2 : Pos} (ha : PDe X T Φ B a ma) (hl : PDp X T Φ B lo ml) (hh : PDp X T Φ B hi mh) : PDe X T Φ B (.Subscript a (.Slice lo hi none p2) pos) (eSl ma ml mh) := PE.cons (pe_slice sl_all ha hl hh) fun σ H Q ⟨A, Z, ρ, μ, d, μ', R, hm, k⟩ => by
  unfold eSl at hm
  cases e : ma ρ μ with
  | none => rw [e] at hm; cases hm
  | some p =>
    rw [e, Option.bind_some] at hm
    cases e1 : ml ρ p.2 with
    | none => rw [e1] at hm; cases hm
    | some l =>
      rw [e1, Option.bind_some] at hm
      cases e2 : mh ρ l.2 with
      | none => rw [e2] at hm; cases hm
      | some h =>
        rw [e2, Option.bind_some] at hm
        cases e3 : gSl p.1 l.1 h.1 with
        | none => rw [e3] at hm; cases hm
        | some z =>
          rw [e3] at hm; cases hm
          refine ⟨A, Z, ρ, μ, p.1, p.2, R, e, fun x H1 f1 R1 p1 => ⟨A, Z, ρ, p.2, l.1, l.2, R1, e1, fun H2 f2 R2 => ⟨A, Z, ρ, l.2, h.1, h.2, R2, e2, fun H3 f3 R3 => ?_⟩⟩⟩
          exact rd_sl H3 _ x p.1 _ l.1 h.1 Q R3.tracked (Rp.mono (fw_xt (f2.trans f3)) _ _ p1) e3 fun v H4 s4 p4 => k v H4 (((f1.trans f2).trans f3).trans (Fw.same s4)) (R3.same s4) p4
end
end PD
end
section
set_option linter.all false
set_option maxRecDepth 100000
set_option maxHeartbeats 4000000
/-! P10: built-in functions over data; what is walked. -/
namespace PD
open PySem PySem.Spec PyProof.Rows L2

def intsOf : List D → Option (List Int)
  | [] => some []
  | .int i :: r => (intsOf r).map (i :: ·)
  | _ => none
def strsOf : List D → Option (List Str)
  | [] => some []
  | .str i :: r => (strsOf r).map (i :: ·)
  | _ => none
def boolsOf : List D → Option (List Bool)
  | [] => some []
  | .bool i :: r => (boolsOf r).map (i :: ·)
  | _ => none
section
variable {X : Cx} {K : PySem.W.Frag}
theorem intsOf_rp {H : Hp} : ∀ {ds : List D} {vs : List V} {ns : List Int}, RpA K H vs ds → intsOf ds = some ns → vs = ns.map V.int
  | [], vs, ns, h, e => by cases e; exact h
  | d :: ds, vs, ns, ⟨v, r, e1, h1, h2⟩, e => by
    unfold intsOf at e
    split at e
    · rename_i h; cases h
    · rename_i i r' h
      cases h
      cases e2 : intsOf ds with
      | none => rw [e2] at e; cases e
      | some ms =>
        rw [e2] at e; cases e
        rw [e1, intsOf_rp h2 e2, show v = .int i from h1]
        rfl
    · cases e
theorem strsOf_rp {H : Hp} : ∀ {ds : List D} {vs : List V} {ns : List Str}, RpA K H vs ds → strsOf ds = some ns → vs = ns.map V.str
  | [], vs, ns, h, e => by cases e; exact h
  | d :: ds, vs, ns, ⟨v, r, e1, h1, h2⟩, e => by
    unfold strsOf at e
    split at e
    · rename_i h; cases h
    · rename_i i r' h
      cases h
      cases e2 : strsOf ds with
      | none => rw [e2] at e; cases e
      | some ms =>
        rw [e2] at e; cases e
        rw [e1, strsOf_rp h2 e2, show v = .str i from h1]
        rfl
    · cases e
theorem boolsOf_rp {H : Hp} : ∀ {ds : List D} {vs : List V} {ns : List Bool}, RpA K H vs ds → boolsOf ds = some ns → vs = ns.map V.bl
  | [], vs, ns, h, e => by cases e; exact h
  | d :: ds, vs, ns, ⟨v, r, e1, h1, h2⟩, e => by
    unfold boolsOf at e
    split at e
    · rename_i h; cases h
    · rename_i i r' h
      cases h
      cases e2 : boolsOf ds with
      | none => rw [e2] at e; cases e
      | some ms =>
        rw [e2] at e; cases e
        rw [e1, boolsOf_rp h2 e2, show v = .bl i from h1]
        rfl
    · cases e
theorem rp_ints {H : Hp} (f : D → Option Unit := fun _ => none) : ∀ (ns : List Int), RpA K H (ns.map V.int) (ns.map PyData.int)
  | [] => rfl
  | n :: ns => ⟨_, _, rfl, rfl, rp_ints (f := f) ns⟩
theorem rp_strs {H : Hp} : ∀ (ns : List Str), RpA K H (ns.map V.str) (ns.map PyData.str)
  | [] => rfl
  | n :: ns => ⟨_, _, rfl, rfl, rp_strs ns⟩
/-- one argument -/
def gl1 (g : G1) : GL
  | [d] => g d
  | _ => none
def gl2 (g : G2) : GL
  | [d, e] => g d e
  | _ => none
theorem rl1 {r : List V → Hp → VK → Prop} {g : G1} (h : ∀ (H : Hp) (Z : Addr → Prop) (x : V) (d1 d : D) (Q : VK), (∀ a, Z a → H a ≠ none) → Rp K (hid H Z) x d1 → g d1 = some d → (∀ v H', Same H H' → Rp K (hid H' Z) v d → Q v H') → r [x] H Q) : RL K r (gl1 g) := fun H Z xs ds d Q hz hp hg k => by
  unfold gl1 at hg
  split at hg
  · obtain ⟨v, r, rfl, h1, h2⟩ := hp
    cases (show r = [] from h2)
    exact h H Z v _ d Q hz h1 hg k
  · cases hg
theorem rl2 {r : List V → Hp → VK → Prop} {g : G2} (h : ∀ (H : Hp) (Z : Addr → Prop) (x y : V) (d1 d2 d : D) (Q : VK), (∀ a, Z a → H a ≠ none) → Rp K (hid H Z) x d1 → Rp K (hid H Z) y d2 → g d1 d2 = some d → (∀ v H', Same H H' → Rp K (hid H' Z) v d → Q v H') → r [x, y] H Q) : RL K r (gl2 g) := fun H Z xs ds d Q hz hp hg k => by
  unfold gl2 at hg
  split at hg
  · obtain ⟨v, r, rfl, h1, w, r2, rfl, h2, h3⟩ := hp
    cases (show r2 = [] from h3)
    exact h H Z v w _ _ d Q hz h1 h2 hg k
  · cases hg
def gLen : G1
  | .list ds => some (.int ds.length)
  | .tuple ds => some (.int ds.length)
  | .str x => if x.length ≤ sizeLine then some (.int x.length) else none
  | _ => none
theorem rl_len : RL K (fun xs H Q => ∃ x n, xs = [x] ∧ LenV K x H n ∧ Q (.int n) H) (gl1 gLen) := rl1 fun H Z x d1 d Q hz h hg k => by
  unfold gLen at hg
  split at hg
  · cases hg
    obtain ⟨a, vs, rfl, k1, k2⟩ := h
    exact ⟨.ref a, vs.length, rfl, .inl ⟨vs, .inl (hid_rd k1).1, rfl⟩, by rw [k2.length]; exact k _ H (Same.refl H) rfl⟩
  · cases hg
    obtain ⟨a, vs, rfl, k1, k2⟩ := h
    exact ⟨.ref a, vs.length, rfl, .inr ⟨vs, hid_sqT k1.sq, rfl⟩, by rw [k2.length]; exact k _ H (Same.refl H) rfl⟩
  · split at hg
    · rename_i x hl
      cases hg
      exact ⟨_, x.length, rfl, by rw [show _ = V.str x from h]; exact ⟨hl, rfl⟩, k _ H (Same.refl H) rfl⟩
    · cases hg
  · cases hg
def gInt : G1
  | .int i => some (.int i)
  | .bool b => some (.int (b2 b))
  | _ => none
theorem rl_int : RL K (fun xs H Q => (∃ i, xs = [.int i] ∧ Q (.int i) H) ∨ ∃ k, xs = [.bl k] ∧ Q (.int (if k then 1 else 0)) H) (gl1 gInt) := rl1 fun H Z x d1 d Q hz h hg k => by
  unfold gInt at hg
  split at hg
  · cases hg; exact .inl ⟨_, by rw [show x = _ from h], k _ H (Same.refl H) rfl⟩
  · cases hg; exact .inr ⟨_, by rw [show x = _ from h], k _ H (Same.refl H) rfl⟩
  · cases hg
def gAbs : G1
  | .int i => some (.int (if i < 0 then -i else i))
  | _ => none
theorem rl_abs : RL K (fun xs H Q => ∃ i, xs = [.int i] ∧ Q (.int (if i < 0 then -i else i)) H) (gl1 gAbs) := rl1 fun H Z x d1 d Q hz h hg k => by
  unfold gAbs at hg
  split at hg
  · cases hg; exact ⟨_, by rw [show x = _ from h], k _ H (Same.refl H) rfl⟩
  · cases hg
def gMax2 : G2
  | .int i, .int j => some (.int (if j > i then j else i))
  | _, _ => none
def gMin2 : G2
  | .int i, .int j => some (.int (if j < i then j else i))
  | _, _ => none
theorem rl_max2 : RL K (fun xs H Q => ∃ i j, xs = [.int i, .int j] ∧ Q (.int (if j > i then j else i)) H) (gl2 gMax2) := rl2 fun H Z x y d1 d2 d Q hz h h' hg k => by
  unfold gMax2 at hg
  split at hg
  · cases hg; exact ⟨_, _, by rw [show x = _ from h, show y = _ from h'], k _ H (Same.refl H) rfl⟩
  · cases hg
theorem rl_min2 : RL K (fun xs H Q => ∃ i j, xs = [.int i, .int j] ∧ Q (.int (if j < i then j else i)) H) (gl2 gMin2) := rl2 fun H Z x y d1 d2 d Q hz h h' hg k => by
  unfold gMin2 at hg
  split at hg
  · cases hg; exact ⟨_, _, by rw [show x = _ from h, show y = _ from h'], k _ H (Same.refl H) rfl⟩
  · cases hg
def gSum : G1
  | .list ds => (intsOf ds).map fun ns => .int ns.sum
  | _ => none
theorem rl_sum : RL K (rSum K) (gl1 gSum) := rl1 fun H Z x d1 d Q hz h hg k => by
  unfold gSum at hg
  split at hg
  · obtain ⟨a, vs, rfl, k1, k2⟩ := h
    rename_i ds
    cases e : intsOf ds with
    | none => rw [e] at hg; cases hg
    | some ns =>
      rw [e] at hg; cases hg
      refine ⟨a, ns, rfl, .inl ?_, k _ H (Same.refl H) rfl⟩
      rw [← intsOf_rp k2 e]
      exact (hid_rd k1).1
  · cases hg
def gAll : G1
  | .list ds => (boolsOf ds).map fun bs => .bool (bs.all id)
  | _ => none
def gAny : G1
  | .list ds => (boolsOf ds).map fun bs => .bool (bs.any id)
  | _ => none
theorem rl_all : RL K (rAll K) (gl1 gAll) := rl1 fun H Z x d1 d Q hz h hg k => by
  unfold gAll at hg
  split at hg
  · obtain ⟨a, vs, rfl, k1, k2⟩ := h
    rename_i ds
    cases e : boolsOf ds with
    | none => rw [e] at hg; cases hg
    | some ns =>
      rw [e] at hg; cases hg
      refine ⟨a, ns, rfl, .inl ?_, k _ H (Same.refl H) rfl⟩
      rw [← boolsOf_rp k2 e]
      exact (hid_rd k1).1
  · cases hg
theorem rl_any : RL K (rAny K) (gl1 gAny) := rl1 fun H Z x d1 d Q hz h hg k => by
  unfold gAny at hg
  split at hg
  · obtain ⟨a, vs, rfl, k1, k2⟩ := h
    rename_i ds
    cases e : boolsOf ds with
    | none => rw [e] at hg; cases hg
    | some ns =>
      rw [e] at hg; cases hg
      refine ⟨a, ns, rfl, .inl ?_, k _ H (Same.refl H) rfl⟩
      rw [← boolsOf_rp k2 e]
      exact (hid_rd k1).1
  · cases hg
def gList : G1
  | .list ds => some (.list ds)
  | .tuple ds => some (.list ds)
  | _ => none
theorem rl_list : RL K (fun xs H Q => ∃ p ys, xs = [.ref p] ∧ (SqL K H p ys ∨ SqT K H p ys) ∧ ∀ l, H l = none → Q (.ref l) (upd H l (.lst ys))) (gl1 gList) := rl1 fun H Z x d1 d Q hz h hg k => by
  unfold gList at hg
  split at hg
  · cases hg
    obtain ⟨a, vs, rfl, k1, k2⟩ := h
    exact ⟨a, vs, rfl, .inl (.inl (hid_rd k1).1), fun l hl => k _ _ (same_upd hl) (rp_new_lst hz hl k2)⟩
  · cases hg
    obtain ⟨a, vs, rfl, k1, k2⟩ := h
    exact ⟨a, vs, rfl, .inr (hid_sqT k1.sq), fun l hl => k _ _ (same_upd hl) (rp_new_lst hz hl k2)⟩
  · cases hg
def gTuple : G1
  | .list ds => some (.tuple ds)
  | .tuple ds => some (.tuple ds)
  | _ => none
theorem rl_tuple : RL K (fun xs H Q => ∃ p ys, xs = [.ref p] ∧ ((SqL K H p ys ∧ ∀ l, H l = none → Q (.ref l) (upd H l (.tup ys))) ∨ (SqT K H p ys ∧ Q (.ref p) H))) (gl1 gTuple) := rl1 fun H Z x d1 d Q hz h hg k => by
  unfold gTuple at hg
  split at hg
  · cases hg
    obtain ⟨a, vs, rfl, k1, k2⟩ := h
    exact ⟨a, vs, rfl, .inl ⟨.inl (hid_rd k1).1, fun l hl => k _ _ (same_upd hl) (rp_new_tup hz hl k2)⟩⟩
  · cases hg
    obtain ⟨a, vs, rfl, k1, k2⟩ := id h
    exact ⟨a, vs, rfl, .inr ⟨hid_sqT k1.sq, k _ H (Same.refl H) h⟩⟩
  · cases hg
def gDivmod : G2
  | .int i, .int j => if 0 < j ∧ j < 1073741824 then some (.tuple [.int (i / j), .int (i % j)]) else none
  | _, _ => none
theorem rl_divmod : RL K (fun xs H Q => ∃ i j, xs = [.int i, .int j] ∧ CDiv i j ∧ ∀ p, H p = none → Q (.ref p) (upd H p (.tup [.int (i / j), .int (i % j)]))) (gl2 gDivmod) := rl2 fun H Z x y d1 d2 d Q hz h h' hg k => by
  unfold gDivmod at hg
  split at hg
  · split at hg
    · rename_i hm
      cases hg
      exact ⟨_, _, by rw [show x = _ from h, show y = _ from h'], hm, fun p hp => k _ _ (same_upd hp) (rp_new_tup hz hp ⟨_, _, rfl, rfl, _, _, rfl, rfl, rfl⟩)⟩
    · cases hg
  · cases hg
def gGcd : G2
  | .int i, .int j => some (.int ((Nat.gcd i.natAbs j.natAbs : Nat) : Int))
  | _, _ => none
theorem rl_gcd : RL K rGcd (gl2 gGcd) := rl2 fun H Z x y d1 d2 d Q hz h h' hg k => by
  unfold gGcd at hg
  split at hg
  · cases hg
    exact ⟨_, _, by rw [show x = _ from h, show y = _ from h'], k _ H (Same.refl H) rfl⟩
  · cases hg
/-! isinstance -/
def tyN : D → String
  | .none => "NoneType"
  | .bool _ => "bool"
  | .int _ => "int"
  | .str _ => "str"
  | .list _ => "list"
  | .tuple _ => "tuple"
  | .dict _ => "dict"
/-- an exception's datum -/
def isX : D → Bool
  | .dict ((.none, _) :: _) => true
  | _ => false
theorem ty_rp {H : Hp} {x : V} {d : D} (hx : isX d = false) (h : Rp K H x d) : TyX K H x (.type (tyN d)) := by
  cases d with
  | none => cases (show x = .non from h); exact .base .non
  | bool b => cases (show x = .bl b from h); exact .base (.bl b)
  | int b => cases (show x = .int b from h); exact .base (.int b)
  | str b => cases (show x = .str b from h); exact .base (.str b)
  | list ds =>
    obtain ⟨a, vs, rfl, k1, k2⟩ := h
    rcases k1 with k1 | ⟨o, k1⟩
    · exact .base (.lst k1)
    · exact .base (.frz k1)
  | tuple ds =>
    obtain ⟨a, vs, rfl, k1, k2⟩ := h
    rcases k1.sq with (k1 | ⟨o, k1⟩) | ⟨o, its, n, e, c, _⟩
    · exact .base (.tup k1)
    · exact .fTuple k1
    · exact .kTuple e c
  | dict ds =>
    obtain ⟨a, rfl, (⟨ps, k1, _⟩ | ⟨ps, k1, _⟩ | ⟨nm, fs, _, k2, _⟩)⟩ := h
    · exact .base (.dK k1)
    · exact .base (.dT k1)
    · cases ds with
      | nil => cases k2
      | cons q r =>
        obtain ⟨q1, q2⟩ := q
        have e : PyData.none = q1 := (List.cons.inj k2).1
        subst e
        cases hx
def isInt : D → Bool
  | .int _ => true
  | .bool _ => true
  | _ => false
def isBool : D → Bool
  | .bool _ => true
  | _ => false
def isStr : D → Bool
  | .str _ => true
  | _ => false
def isTup : D → Bool
  | .tuple _ => true
  | _ => false
def isLst : D → Bool
  | .list _ => true
  | _ => false
theorem kit_int (d : D) : kitB (tyN d) "int" = some (isInt d) := by cases d <;> (simp only [tyN, isInt]; decide +kernel)
theorem kit_bool (d : D) : kitB (tyN d) "bool" = some (isBool d) := by cases d <;> (simp only [tyN, isBool]; decide +kernel)
theorem kit_str (d : D) : kitB (tyN d) "str" = some (isStr d) := by cases d <;> (simp only [tyN, isStr]; decide +kernel)
theorem kit_tup (d : D) : kitB (tyN d) "tuple" = some (isTup d) := by cases d <;> (simp only [tyN, isTup]; decide +kernel)
theorem kit_lst (d : D) : kitB (tyN d) "list" = some (isLst d) := by cases d <;> (simp only [tyN, isLst]; decide +kernel)
end
def eIs (g : D → Bool) (a : ME) : ME := fun ρ μ => (a ρ μ).bind fun p => if isX p.1 = true then none else some (.bool (g p.1), p.2)
section
variable {X : Cx} {T : List (Addr × Str)} {Φ : Fx} {B : Nat → Bool} {a b : Expr} {ma mb : ME} {pos p q : Pos}
theorem pd_isi {tn : String} {tx : Str} {g : D → Bool} (hk : ∀ d, kitB (tyN d) tn = some (g d)) (hg : Gl X "isinstance") (hm : X.mg "isinstance" = none) (hv : bootBuiltins "isinstance" = some (.builtin "isinstance")) (hg2 : Gl X tx) (hm2 : X.mg tx = none) (hv2 : bootBuiltins tx = some (.type tn)) (ha : PDe X T Φ B a ma)
    (hn : tx ≠ "__name__" := by decide) (hd : (tx == ("__debug__" : Str)) = false := by decide) (h1 : starEach [a, .Name tx q] X.env = (false, eval a X.env) :: starEach [.Name tx q] X.env := by rfl) (h2 : starEach [.Name tx q] X.env = (false, eval (.Name tx q) X.env) :: starEach [] X.env := by rfl)
    (hpl : (backTo pos (starEach [.Name tx q] X.env)).any (·.1) = false := by rfl) :
    PDe X T Φ B (.Call (.Name "isinstance" p) [a, .Name tx q] [] pos) (eIs g ma) :=
  PE.cons (pe_callB call_isi hg hm hv (pa_cons ha (pa_cons (pe_bltn (v := .ty tn) hg2 hm2 hv2 rfl hn hd) pa_nil h2) h1) (by decide) (by decide) h1 hpl) fun σ H Q ⟨A, Z, ρ, μ, d, μ', R, hm, k⟩ => by
    unfold eIs at hm
    cases e : ma ρ μ with
    | none => rw [e] at hm; cases hm
    | some p =>
      rw [e, Option.bind_some] at hm
      split at hm
      · cases hm
      rename_i hx
      cases hm
      exact ⟨A, Z, ρ, μ, p.1, p.2, R, e, fun x H1 f1 R1 p1 => ⟨x, .ty tn, .type (tyN p.1), .type tn, g p.1, rfl, .ty tn, ty_rp (by simpa using hx) (hidRp p1), kit_ty (hk _), k _ H1 f1 R1 rfl⟩⟩
end
/-! ### what is walked -/
section
variable {X : Cx} {T : List (Addr × Str)} {Φ : Fx} {B : Nat → Bool} {tg a b : Expr} {ma mb : ME} {pos p q : Pos}
theorem sqT_le {K : PySem.W.Frag} {Hv H : Hp} {Z : Addr → Prop} {a : Addr} {xs : List V} (x : XT Hv (hid H Z)) (h : SqT K Hv a xs) : SqT K H a xs := hid_sqT (x.sqT h)
theorem sqL_le {K : PySem.W.Frag} {Hv H : Hp} {Z : Addr → Prop} {a : Addr} {xs : List V} (x : XT Hv (hid H Z)) (h : Rd Hv a (.lst xs)) : SqL K H a xs := .inl (hid_rd (x.rd h fun ps z => by cases z)).1
/-- a list is one list -/
theorem rd_inj {H : Hp} {a : Addr} {xs ys : List V} (h : Rd H a (.lst xs)) (h' : Rd H a (.lst ys)) : xs = ys := by
  rcases h with h | ⟨o, h⟩ <;> rcases h' with h' | ⟨o', h'⟩ <;> rw [h] at h' <;> cases h' <;> rfl
def seqItems (a : ME) : MA := fun ρ μ => (a ρ μ).bind fun p => (itemsOf p.1).map fun ds => (ds, p.2)
def lstItems (a : ME) : MA := fun ρ μ => (a ρ μ).bind fun p => match p.1 with
  | .list ds => some (ds, p.2)
  | _ => none
def tupItems (a : ME) : MA := fun ρ μ => (a ρ μ).bind fun p => match p.1 with
  | .tuple ds => some (ds, p.2)
  | _ => none
def strItems (a : ME) : MA := fun ρ μ => (a ρ μ).bind fun p => match p.1 with
  | .str x => some (x.cps.toList.map fun c => .str ⟨#[c]⟩, p.2)
  | _ => none
theorem lt_of_some {α : Type} {l : List α} {i : Nat} {x : α} (h : l[i]? = some x) : i < l.length := (List.getElem?_eq_some_iff.mp h).1
theorem pi_l (ha : PDe X T Φ B a ma) : PDi X T Φ B tg a (lstItems ma) := PI.cons (pi_list ha) fun σ H R' ⟨A, Z, ρ, μ, ds, μ', R, hm, k⟩ => by
  unfold lstItems at hm
  cases e : ma ρ μ with
  | none => rw [e] at hm; cases hm
  | some p =>
    rw [e, Option.bind_some] at hm
    obtain ⟨d, μ1⟩ := p
    cases d with
    | list ds' =>
      cases hm
      refine ⟨A, Z, ρ, μ, _, _, R, e, fun x H1 f1 R1 p1 => ?_⟩
      obtain ⟨l, vs, rfl, k1, k2⟩ := p1
      refine ⟨l, rfl, ⟨vs, .inl (hid_rd k1).1⟩, k _ H1 f1 R1 fun H2 Z2 hz xt => ⟨fun i hi => ⟨vs, sqL_le xt k1, by rw [k2.length]; exact hi⟩, fun i d hd => ?_⟩⟩
      obtain ⟨v, e1, p1⟩ := k2.get hd
      refine ⟨⟨vs, v, sqL_le xt k1, e1⟩, fun x H' ⟨eH, hx⟩ => ⟨by rw [eH]; exact Same.refl _, ?_⟩⟩
      have := hx vs (sqL_le xt k1)
      rw [e1] at this
      cases this
      rw [eH]
      exact Rp.mono xt _ _ p1
    | none => cases hm
    | bool _ => cases hm
    | int _ => cases hm
    | str _ => cases hm
    | tuple _ => cases hm
    | dict _ => cases hm
theorem pi_t (ha : PDe X T Φ B a ma) : PDi X T Φ B tg a (tupItems ma) := PI.cons (pi_tup ha) fun σ H R' ⟨A, Z, ρ, μ, ds, μ', R, hm, k⟩ => by
  unfold tupItems at hm
  cases e : ma ρ μ with
  | none => rw [e] at hm; cases hm
  | some p =>
    rw [e, Option.bind_some] at hm
    obtain ⟨d, μ1⟩ := p
    cases d with
    | tuple ds' =>
      cases hm
      refine ⟨A, Z, ρ, μ, _, _, R, e, fun x H1 f1 R1 p1 => ?_⟩
      obtain ⟨l, vs, rfl, k1, k2⟩ := p1
      refine ⟨l, rfl, ⟨vs, hid_sqT k1.sq⟩, k _ H1 f1 R1 fun H2 Z2 hz xt => ⟨fun i hi => ⟨vs, sqT_le xt k1.sq, by rw [k2.length]; exact hi⟩, fun i d hd => ?_⟩⟩
      obtain ⟨v, e1, p1⟩ := k2.get hd
      refine ⟨⟨vs, v, sqT_le xt k1.sq, e1⟩, fun x H' ⟨eH, hx⟩ => ⟨by rw [eH]; exact Same.refl _, ?_⟩⟩
      have := hx vs (sqT_le xt k1.sq)
      rw [e1] at this
      cases this
      rw [eH]
      exact Rp.mono xt _ _ p1
    | none => cases hm
    | bool _ => cases hm
    | int _ => cases hm
    | str _ => cases hm
    | list _ => cases hm
    | dict _ => cases hm
theorem pi_s (ha : PDe X T Φ B a ma) : PDi X T Φ B tg a (strItems ma) := PI.cons (pi_str ha) fun σ H R' ⟨A, Z, ρ, μ, ds, μ', R, hm, k⟩ => by
  unfold strItems at hm
  cases e : ma ρ μ with
  | none => rw [e] at hm; cases hm
  | some p =>
    rw [e, Option.bind_some] at hm
    obtain ⟨d, μ1⟩ := p
    cases d with
    | str x =>
      cases hm
      refine ⟨A, Z, ρ, μ, _, _, R, e, fun v H1 f1 R1 p1 => ⟨x, p1, k _ H1 f1 R1 fun H2 Z2 hz xt => ⟨fun i hi => ?_, fun i d hd => ?_⟩⟩⟩
      · show x.cps.size ≤ i
        simpa using hi
      · rw [List.getElem?_map] at hd
        cases ec : x.cps.toList[i]? with
        | none => rw [ec] at hd; cases hd
        | some c =>
          rw [ec] at hd
          have hd : PyData.str ⟨#[c]⟩ = d := Option.some.inj hd
          subst hd
          refine ⟨(show i < x.cps.size by have := lt_of_some ec; simpa using this), fun v H' ⟨eH, c', e1, e2⟩ => ⟨by rw [eH]; exact Same.refl _, ?_⟩⟩
          have : c' = c := by
            rw [← Array.getElem?_toList, ec] at e1
            exact (Option.some.inj e1).symm
          subst this
          exact e2
    | none => cases hm
    | bool _ => cases hm
    | int _ => cases hm
    | list _ => cases hm
    | tuple _ => cases hm
    | dict _ => cases hm
/-- range(n), range(a, b) -/
def rngD (lo : Int) (n : Nat) : List D := (List.range n).map fun i : Nat => .int (lo + (i : Int))
def okR (i : Int) : Bool := decide (-(2 ^ 62) ≤ i) && decide (i < 2 ^ 62)
def rng1 (a : MA) : MA := fun ρ μ => (a ρ μ).bind fun p => match p.1 with
  | [.int j] => if okR j then some (rngD 0 j.toNat, p.2) else none
  | _ => none
def rng2 (a : MA) : MA := fun ρ μ => (a ρ μ).bind fun p => match p.1 with
  | [.int i, .int j] => if okR i && okR j then some (rngD i (j - i).toNat, p.2) else none
  | _ => none
theorem it_rng {K : PySem.W.Frag} {Hv : Hp} (lo : Int) (n : Nat) : ItOk K (Itr lo n) Hv (rngD lo n) := fun H2 Z2 hz xt => by
  have hl : (rngD lo n).length = n := by unfold rngD; simp
  refine ⟨fun i hi => by rw [hl] at hi; exact hi, fun i d hd => ?_⟩
  have hi : i < n := by have := lt_of_some hd; rw [hl] at this; exact this
  refine ⟨hi, fun x H' ⟨eH, ex⟩ => ⟨by rw [eH]; exact Same.refl _, ?_⟩⟩
  unfold rngD at hd
  rw [List.getElem?_map, List.getElem?_range hi] at hd
  cases hd
  exact ex
theorem pi_r1 {mas : MA} (hg : Gl X "range") (hm : X.mg "range" = none) (ha : PDa X T Φ B [a] mas) (hs : starEach [a] X.env = [(false, eval a X.env)] := by rfl) : PDi X T Φ B tg (.Call (.Name "range" p) [a] [] pos) (rng1 mas) := PI.cons (pi_range1 hg hm ha hs) fun σ H R' ⟨A, Z, ρ, μ, ds, μ', R, hm, k⟩ => by
  unfold rng1 at hm
  cases e : mas ρ μ with
  | none => rw [e] at hm; cases hm
  | some w =>
    rw [e, Option.bind_some] at hm
    obtain ⟨as, μ1⟩ := w
    refine ⟨A, Z, ρ, μ, as, μ1, R, e, fun vs H1 f1 R1 p1 => ?_⟩
    split at hm
    · rename_i j ej
      have ej : as = [.int j] := ej
      subst ej
      obtain ⟨v, r, rfl, h1, h2⟩ := p1
      cases (show r = [] from h2)
      cases (show v = .int j from h1)
      split at hm
      · rename_i ho
        unfold okR at ho
        simp only [Bool.and_eq_true, decide_eq_true_eq] at ho
        cases hm
        exact ⟨j, rfl, ho.1, ho.2, k _ H1 f1 R1 (it_rng 0 _)⟩
      · cases hm
    · cases hm
theorem pi_r2 {mas : MA} (hg : Gl X "range") (hm : X.mg "range" = none) (ha : PDa X T Φ B [a, b] mas) (hs : starEach [a, b] X.env = [(false, eval a X.env), (false, eval b X.env)] := by rfl) (hs2 : starEach [b] X.env = [(false, eval b X.env)] := by rfl) : PDi X T Φ B tg (.Call (.Name "range" p) [a, b] [] pos) (rng2 mas) := PI.cons (pi_range2 hg hm ha hs hs2) fun σ H R' ⟨A, Z, ρ, μ, ds, μ', R, hm, k⟩ => by
  unfold rng2 at hm
  cases e : mas ρ μ with
  | none => rw [e] at hm; cases hm
  | some w =>
    rw [e, Option.bind_some] at hm
    obtain ⟨as, μ1⟩ := w
    refine ⟨A, Z, ρ, μ, as, μ1, R, e, fun vs H1 f1 R1 p1 => ?_⟩
    split at hm
    · rename_i i j ej
      have ej : as = [.int i, .int j] := ej
      subst ej
      obtain ⟨v, r, rfl, h1, v2, r2, rfl, h2, h3⟩ := p1
      cases (show r2 = [] from h3)
      cases (show v = .int i from h1)
      cases (show v2 = .int j from h2)
      split at hm
      · rename_i ho
        unfold okR at ho
        simp only [Bool.and_eq_true, decide_eq_true_eq] at ho
        cases hm
        exact ⟨i, j, rfl, ⟨ho.1.1, ho.1.2, ho.2.1, ho.2.2⟩, k _ H1 f1 R1 (it_rng i _)⟩
      · cases hm
    · cases hm
/-- enumerate(a list), zip(two lists, two tuples) -/
def enumD : Nat → List D → List D
  | _, [] => []
  | i, d :: ds => .tuple [.int i, d] :: enumD (i + 1) ds
theorem enumD_length : ∀ (i : Nat) (ds : List D), (enumD i ds).length = ds.length
  | _, [] => rfl
  | i, d :: ds => by show (enumD (i + 1) ds).length + 1 = _; rw [enumD_length]; rfl
theorem enumD_get : ∀ (i : Nat) (ds : List D) (j : Nat), (enumD i ds)[j]? = (ds[j]?).map fun d => .tuple [.int ((i + j : Nat) : Int), d]
  | _, [], j => by simp [enumD]
  | i, d :: ds, 0 => rfl
  | i, d :: ds, j + 1 => by
    show (enumD (i + 1) ds)[j]? = _
    rw [enumD_get, show i + 1 + j = i + (j + 1) by omega]
    rfl
def enumItems (a : MA) : MA := fun ρ μ => (a ρ μ).bind fun p => match p.1 with
  | [.list ds] => some (enumD 0 ds, p.2)
  | _ => none
theorem pi_en {es : List Expr} {kk : Nat} {tpos : Pos} {mas : MA} (hg : Gl X "enumerate") (hm : X.mg "enumerate" = none) (ha : PDa X T Φ B [a] mas) (hs : starEach [a] X.env = [(false, eval a X.env)] := by rfl) : PDi X T Φ B (.Tuple es kk tpos) (.Call (.Name "enumerate" p) [a] [] pos) (enumItems mas) :=
  PI.cons (pi_enum hg hm ha hs) fun σ H R' ⟨A, Z, ρ, μ, ds, μ', R, hm, k⟩ => by
  unfold enumItems at hm
  cases e : mas ρ μ with
  | none => rw [e] at hm; cases hm
  | some w =>
    rw [e, Option.bind_some] at hm
    obtain ⟨as, μ1⟩ := w
    refine ⟨A, Z, ρ, μ, as, μ1, R, e, fun vs H1 f1 R1 p1 => ?_⟩
    split at hm
    · rename_i ds' ej
      have ej : as = [.list ds'] := ej
      subst ej
      cases hm
      obtain ⟨v, r, rfl, ⟨l, xs, rfl, k1, k2⟩, h2⟩ := p1
      cases (show r = [] from h2)
      refine ⟨l, xs, rfl, .inl (hid_rd k1).1, k _ H1 f1 R1 fun H2 Z2 hz xt => ⟨fun i hi => ⟨xs, sqL_le xt k1, by rw [k2.length]; rw [enumD_length] at hi; exact hi⟩, fun i d hd => ?_⟩⟩
      rw [enumD_get, Nat.zero_add] at hd
      cases ed : ds'[i]? with
      | none => rw [ed] at hd; cases hd
      | some d' =>
        rw [ed] at hd
        have hd : PyData.tuple [.int ((i : Nat) : Int), d'] = d := Option.some.inj hd
        subst hd
        obtain ⟨v, e1, p1⟩ := k2.get ed
        refine ⟨⟨xs, v, sqL_le xt k1, e1⟩, fun x H' ⟨t, x', ex, ht, eH, hx⟩ => ?_⟩
        have := hx xs (sqL_le xt k1)
        rw [e1] at this
        cases this
        subst ex eH
        exact ⟨same_upd ht, rp_new_tup hz ht ⟨_, _, rfl, rfl, _, _, rfl, Rp.mono xt _ _ p1, rfl⟩⟩
    · cases hm
def zipD : List D → List D → List D
  | x :: xs, y :: ys => .tuple [x, y] :: zipD xs ys
  | _, _ => []
theorem zipD_get : ∀ (xs ys : List D) (j : Nat), (zipD xs ys)[j]? = (xs[j]?).bind fun x => (ys[j]?).map fun y => .tuple [x, y]
  | [], ys, j => by simp [zipD]
  | x :: xs, [], j => by simp [zipD]
  | x :: xs, y :: ys, 0 => rfl
  | x :: xs, y :: ys, j + 1 => by
    show (zipD xs ys)[j]? = _
    rw [zipD_get]
    rfl
theorem zipD_length : ∀ (xs ys : List D), (zipD xs ys).length = min xs.length ys.length
  | [], ys => by simp [zipD]
  | x :: xs, [] => by simp [zipD]
  | x :: xs, y :: ys => by show (zipD xs ys).length + 1 = _; rw [zipD_length, List.length_cons, List.length_cons]; omega
def zipItems (a : MA) : MA := fun ρ μ => (a ρ μ).bind fun p => match p.1 with
  | [.list ds, .list es] => some (zipD ds es, p.2)
  | [.tuple ds, .tuple es] => some (zipD ds es, p.2)
  | _ => none
theorem pi_z {es : List Expr} {kk : Nat} {tpos : Pos} {mas : MA} (hg : Gl X "zip") (hm : X.mg "zip" = none) (ha : PDa X T Φ B [a, b] mas) (hs : starEach [a, b] X.env = (false, eval a X.env) :: starEach [b] X.env := by rfl) (hpl : (backTo pos (starEach [b] X.env)).any (·.1) = false := by rfl) :
    PDi X T Φ B (.Tuple es kk tpos) (.Call (.Name "zip" p) [a, b] [] pos) (zipItems mas) :=
  PI.cons (RZ.pi_zipA hg hm ha hs hpl) fun σ H R' ⟨A, Z, ρ, μ, ds, μ', R, hm, k⟩ => by
  unfold zipItems at hm
  cases e : mas ρ μ with
  | none => rw [e] at hm; cases hm
  | some w =>
    rw [e, Option.bind_some] at hm
    obtain ⟨as, μ1⟩ := w
    refine ⟨A, Z, ρ, μ, as, μ1, R, e, fun vs H1 f1 R1 p1 => ?_⟩
    split at hm
    · rename_i ds' es' ej
      have ej : as = [.list ds', .list es'] := ej
      subst ej
      cases hm
      obtain ⟨v, r, rfl, ⟨l, xs, rfl, k1, k2⟩, v2, r2, rfl, ⟨l2, ys, rfl, j1, j2⟩, h3⟩ := p1
      cases (show r2 = [] from h3)
      refine ⟨l, l2, xs, ys, rfl, .inl ⟨.inl (hid_rd k1).1, .inl (hid_rd j1).1, k _ H1 f1 R1 fun H2 Z2 hz xt => ⟨fun i hi => ⟨xs, ys, sqL_le xt k1, sqL_le xt j1, by rw [k2.length, j2.length]; rw [zipD_length] at hi; omega⟩, fun i d hd => ?_⟩⟩⟩
      rw [zipD_get] at hd
      cases ed : ds'[i]? with
      | none => rw [ed] at hd; cases hd
      | some d1 =>
        rw [ed, Option.bind_some] at hd
        cases ee : es'[i]? with
        | none => rw [ee] at hd; cases hd
        | some d2 =>
          rw [ee] at hd
          have hd : PyData.tuple [d1, d2] = d := Option.some.inj hd
          subst hd
          obtain ⟨v, e1, p1⟩ := k2.get ed
          obtain ⟨v', e2, p2⟩ := j2.get ee
          refine ⟨⟨xs, ys, v, v', sqL_le xt k1, sqL_le xt j1, e1, e2⟩, fun x H' ⟨t, x1, x2, ex, ht, eH, hx, hy⟩ => ?_⟩
          have q1 := hx xs (sqL_le xt k1)
          have q2 := hy ys (sqL_le xt j1)
          rw [e1] at q1
          rw [e2] at q2
          cases q1
          cases q2
          subst ex eH
          exact ⟨same_upd ht, rp_new_tup hz ht ⟨_, _, rfl, Rp.mono xt _ _ p1, _, _, rfl, Rp.mono xt _ _ p2, rfl⟩⟩
    · rename_i ds' es' ej
      have ej : as = [.tuple ds', .tuple es'] := ej
      subst ej
      cases hm
      obtain ⟨v, r, rfl, ⟨l, xs, rfl, k1, k2⟩, v2, r2, rfl, ⟨l2, ys, rfl, j1, j2⟩, h3⟩ := p1
      cases (show r2 = [] from h3)
      refine ⟨l, l2, xs, ys, rfl, .inr ⟨hid_sqT k1.sq, hid_sqT j1.sq, k _ H1 f1 R1 fun H2 Z2 hz xt => ⟨fun i hi => ⟨xs, ys, sqT_le xt k1.sq, sqT_le xt j1.sq, by rw [k2.length, j2.length]; rw [zipD_length] at hi; omega⟩, fun i d hd => ?_⟩⟩⟩
      rw [zipD_get] at hd
      cases ed : ds'[i]? with
      | none => rw [ed] at hd; cases hd
      | some d1 =>
        rw [ed, Option.bind_some] at hd
        cases ee : es'[i]? with
        | none => rw [ee] at hd; cases hd
        | some d2 =>
          rw [ee] at hd
          have hd : PyData.tuple [d1, d2] = d := Option.some.inj hd
          subst hd
          obtain ⟨v, e1, p1⟩ := k2.get ed
          obtain ⟨v', e2, p2⟩ := j2.get ee
          refine ⟨⟨xs, ys, v, v', sqT_le xt k1.sq, sqT_le xt j1.sq, e1, e2⟩, fun x H' ⟨t, x1, x2, ex, ht, eH, hx, hy⟩ => ?_⟩
          have q1 := hx xs (sqT_le xt k1.sq)
          have q2 := hy ys (sqT_le xt j1.sq)
          rw [e1] at q1
          rw [e2] at q2
          cases q1
          cases q2
          subst ex eH
          exact ⟨same_upd ht, rp_new_tup hz ht ⟨_, _, rfl, Rp.mono xt _ _ p1, _, _, rfl, Rp.mono xt _ _ p2, rfl⟩⟩
    · cases hm
end
end PD
end
section
set_option linter.all false
set_option maxRecDepth 100000
set_option maxHeartbeats 4000000
/-! P11: functions as values: lambdas with parameters handed to defs. -/
namespace PD
open PySem PySem.Spec PyProof.Rows L2

abbrev GF := List D → Option D
/-- the data seen in H are seen in H' (code objects and tables aside) -/
def XD (H H' : Hp) : Prop := ∀ b o, H b = some o → (∀ ps, o ≠ .tbl ps) → (∀ q, o ≠ LamX.CodeO b q) → H' b = some o
theorem XD.rd {H H' : Hp} (e : XD H H') {a : Addr} {u : HO} (h : Rd H a u) (n : ∀ ps, u ≠ .tbl ps) (n2 : ∀ q, u ≠ LamX.CodeO a q) : Rd H' a u := by
  rcases h with h | ⟨o, h⟩
  · exact .inl (e _ _ h n n2)
  · exact .inr ⟨o, e _ _ h (fun ps z => by cases z) fun q z => by unfold LamX.CodeO at z; cases z⟩
/-- a heap of one object -/
def heap1 (b : Addr) (o : Obj) : Heap := { objs := Array.replicate (b + 1) o }
def codeObj (q : Str) : Obj := { cls := .none, data := .fields #[.none, .str q 0] }
theorem heap1_get (b : Addr) (q : Str) : (heap1 b (codeObj q)).get? b = some (codeObj q) := by
  have e : (heap1 b (codeObj q)).objs[b]? = some (codeObj q) := by simp [heap1]
  unfold Heap.get?
  rw [e]
  rfl
theorem exo_code {b C : Addr} {d : Option Addr} {q : Str} : exo b C d ≠ LamX.CodeO b q := fun z => by
  unfold exo LamX.CodeO at z
  have e := congrFun (HO.ext.inj z) (heap1 b (codeObj q))
  have r : ∃ (oc : Obj) (vs : Array Value) (t : Tok), (heap1 b (codeObj q)).get? b = some oc ∧ oc.data = .fields vs ∧ vs[1]? = some (.str q t) := ⟨_, _, 0, heap1_get b q, rfl, rfl⟩
  rw [← e] at r
  obtain ⟨t1, h⟩ := r
  rw [heap1_get] at h
  cases h
theorem exd_code {b : Addr} {fs : List (Str × V)} {q : Str} : exd b fs ≠ LamX.CodeO b q := fun z => by
  unfold exd LamX.CodeO at z
  have e := congrFun (HO.ext.inj z) (heap1 b (codeObj q))
  have r : ∃ (oc : Obj) (vs : Array Value) (t : Tok), (heap1 b (codeObj q)).get? b = some oc ∧ oc.data = .fields vs ∧ vs[1]? = some (.str q t) := ⟨_, _, 0, heap1_get b q, rfl, rfl⟩
  rw [← e] at r
  obtain ⟨mA, hn, _⟩ := r
  obtain ⟨o, es, ep, h1, h2, _⟩ := hn
  rw [heap1_get] at h1
  cases h1
  cases h2
theorem excAt.xd {K : PySem.W.Frag} {H H' : Hp} {a : Addr} {nm : Str} {fs : List (Str × V)} (x : excAt K H a nm fs) (e : XD H H') : excAt K H' a nm fs := by
  obtain ⟨od, h1, h2⟩ := x
  refine ⟨od, e _ _ h1 (fun ps => exo_tbl) (fun q => exo_code), h2.imp id ?_⟩
  rintro ⟨dx, e1, e2⟩
  exact ⟨dx, e1, e _ _ e2 (fun ps => exd_tbl) fun q => exd_code⟩
theorem lst_code {a : Addr} {xs : List V} {q : Str} : HO.lst xs ≠ LamX.CodeO a q := fun z => by unfold LamX.CodeO at z; cases z
theorem tup_code {a : Addr} {xs : List V} {q : Str} : HO.tup xs ≠ LamX.CodeO a q := fun z => by unfold LamX.CodeO at z; cases z
theorem dK_code {a : Addr} {xs : List (Key × V)} {q : Str} : HO.dK xs ≠ LamX.CodeO a q := fun z => by unfold LamX.CodeO at z; cases z
theorem dT_code {a : Addr} {xs : List (List Key × V)} {q : Str} : HO.dT xs ≠ LamX.CodeO a q := fun z => by unfold LamX.CodeO at z; cases z
theorem SqK.xd {K : PySem.W.Frag} {H H' : Hp} (e : XD H H') {a : Addr} {xs : List V} {ds : List D} (h : SqK K H a xs ds) : SqK K H' a xs ds := by
  unfold SqK at h ⊢
  split
  · rename_i t
    rw [if_pos t] at h
    exact e _ _ h (fun ps z => by cases z) fun q => tup_code
  · rename_i t
    rw [if_neg t] at h
    exact h.elim (fun z => .inl (e.rd z (fun ps z => by cases z) fun q => tup_code)) .inr
section
variable {K : PySem.W.Frag} {H H' : Hp} (e : XD H H')
include e
mutual
theorem Rp.monoD : ∀ (d : D) (v : V), Rp K H v d → Rp K H' v d
  | .none, _, h => h
  | .bool _, _, h => h
  | .int _, _, h => h
  | .str _, _, h => h
  | .list ds, _, ⟨a, xs, e1, h1, h2⟩ => ⟨a, xs, e1, e.rd h1 (fun ps z => by cases z) fun q => lst_code, RpA.monoD ds _ h2⟩
  | .tuple ds, _, ⟨a, xs, e1, h1, h2⟩ => ⟨a, xs, e1, h1.xd e, RpA.monoD ds _ h2⟩
  | .dict kvs, _, ⟨a, e1, h⟩ => ⟨a, e1, h.elim (fun ⟨ps, h1, h2, h3⟩ => .inl ⟨ps, e _ _ h1 (fun ps z => by cases z) (fun q => dK_code), h2, RpP.monoD kvs _ h3⟩)
      (fun h => .inr (h.elim (fun ⟨ps, h1, h2, h3⟩ => .inl ⟨ps, e _ _ h1 (fun ps z => by cases z) (fun q => dT_code), h2, RpP.monoD kvs _ h3⟩)
        fun ⟨nm, fs, h1, h2, h3⟩ => .inr ⟨nm, fs, h1.xd e, h2, RpP.monoD kvs _ h3⟩))⟩
theorem RpA.monoD : ∀ (ds : List D) (vs : List V), RpA K H vs ds → RpA K H' vs ds
  | [], _, h => h
  | d :: ds, _, ⟨v, r, e1, h1, h2⟩ => ⟨v, r, e1, Rp.monoD d v h1, RpA.monoD ds r h2⟩
theorem RpP.monoD : ∀ (ds : List (D × D)) (vs : List V), RpP K H vs ds → RpP K H' vs ds
  | [], _, h => h
  | (_, d) :: ds, _, ⟨v, r, e1, h1, h2⟩ => ⟨v, r, e1, Rp.monoD d v h1, RpP.monoD ds r h2⟩
end
end
theorem Rep.calm {K : PySem.W.Frag} {T : List (Addr × Str)} {Φ : Fx} {A : List Addr} {Z : Addr → Prop} {σ : L2.St} {H H' : Hp} {ρ : List Slot} {μ : List Cell} (R : Rep K T Φ A Z σ H ρ μ) (f : Fw (fun _ => False) H H') (tb : LamX.Tabs T H') : Rep K T Φ A Z σ H' ρ μ :=
  ⟨R.len, R.alen, R.nd, fun a z => ⟨(R.zo a z).1, fun e => (R.zo a z).2 (f.there a e)⟩, tb, fun k c a e1 e2 => (R.cell k c a e1 e2).xt (f.xt fun _ h => h.elim) fun o e t => f.keep a o e id t, fun i s e => (R.slot i s e).xt (f.xt fun _ h => h.elim)⟩

/-! ### what a function value promises -/
section
variable (P : Program) (w : World) (K : PySem.W.Frag) (mg : Str → Option Value) (base : Heap) (T : List (Addr × Str)) (kk : Nat)
/-- the function at f does G in each state behind (s0, H0), as long as Ψ is to be seen -/
def FnV (fs0 : List Addr) (s0 : Shared) (H0 : Hp) (f : Addr) (Ψ : Hp → Prop) (G : GF) : Prop :=
  ∀ (fs1 : List Addr) (A : Around) (outer : List Env) (s1 : Shared) (H1 : Hp) (us : List Value) (vs : List V) (ds : List D) (d : D) (Q : VK) (Z : Addr → Prop),
    Room kk A → Env0 P w K mg base A outer s1 H1 → (∀ b ∈ frs outer, b ∈ fs1) → (∀ b ∈ fs1, b ∈ fs0 ∨ s0.heap.objs.size ≤ b) → s0.heap.objs.size ≤ s1.heap.objs.size → Un fs1 [] H0 H1 s0.heap s1.heap → Ψ (hid H1 Z) → (∀ a, Z a → ¬ Fr H1 a) → LamX.Tabs T H1 →
    Vals vs us → RpA K (hid H1 Z) vs ds → G ds = some d → (∀ v H', Fw (fun _ => False) H1 H' → LamX.Tabs T H' → Rp K (hid H' Z) v d → Q v H') → codeAny (model P w) A (.call (.ref f) ⟨us, []⟩) (CR CX0 outer P w H1 s1 Q E0) s1
structure FxAt (Φ : Fx) (fs0 : List Addr) (s0 : Shared) (H0 : Hp) : Prop where
  at_ : ∀ Hv v G, Φ.rel Hv v G → ∃ f, v = .ref f ∧ ∀ (fs1 : List Addr) (s1 : Shared) (H1 : Hp), (∀ b ∈ fs1, b ∈ fs0 ∨ s0.heap.objs.size ≤ b) → s0.heap.objs.size ≤ s1.heap.objs.size → Un fs1 [] H0 H1 s0.heap s1.heap → PySem.W.FnAt f s1.heap
  run : ∀ f G, FnV P w K mg base T kk fs0 s0 H0 f (fun Hv => Φ.rel Hv (.ref f) G) G
/-- the promise of a def that may be handed functions -/
def HoOk (k : Nat) (f : Addr) (fd : FuncData) (ps : List Str) (F : FD) : Prop :=
  ∀ (A : Around) (outer : List Env) (s : Shared) (H : Hp) (args : Args) (us : List Value) (vs : List V) (Q : VK) (Φ : Fx) (Z : Addr → Prop) (as : List Slot) (d : D),
    Room k A → Env0 P w K mg base A outer s H → BindsTo s fd args (ps.zip us) → Vals vs us → vs.length = ps.length → FxAt P w K mg base T kk Φ (frs outer) s H → Rep K T Φ [] Z (vs.map some) H as [] → F as [] = some (d, []) →
    (∀ v H', Fw (fun _ => False) H H' → LamX.Tabs T H' → Rp K (hid H' Z) v d → Q v H') → codeAny (model P w) A (.call (.ref f) args) (CR CX0 outer P w H s Q E0) s
end
section
variable {P : Program} {w : World} {K : PySem.W.Frag} {mg : Str → Option Value} {base : Heap} {T : List (Addr × Str)} {kk : Nat}
theorem fx_no {fs0 : List Addr} {s0 : Shared} {H0 : Hp} : FxAt P w K mg base T kk noFx fs0 s0 H0 := ⟨fun _ _ _ h => h.elim, fun f G fs1 A outer s1 H1 us vs ds d Q Z _ _ _ _ _ _ h => h.elim⟩
theorem FxAt.later {Φ : Fx} {fs0 fs1 : List Addr} {s0 s1 : Shared} {H0 H1 : Hp} (x : FxAt P w K mg base T kk Φ fs0 s0 H0) (hfs : ∀ b ∈ fs1, b ∈ fs0 ∨ s0.heap.objs.size ≤ b) (sz : s0.heap.objs.size ≤ s1.heap.objs.size) (un : Un fs1 [] H0 H1 s0.heap s1.heap) : FxAt P w K mg base T kk Φ fs1 s1 H1 := by
  have cmb : ∀ {fs2 : List Addr} {s2 : Shared} {H2 : Hp}, (∀ b ∈ fs2, b ∈ fs1 ∨ s1.heap.objs.size ≤ b) → Un fs2 [] H1 H2 s1.heap s2.heap → (∀ b ∈ fs1 ++ fs2, b ∈ fs0 ∨ s0.heap.objs.size ≤ b) ∧ Un (fs1 ++ fs2) [] H0 H2 s0.heap s2.heap := fun {fs2 s2 H2} h u =>
    ⟨fun b hb => (List.mem_append.mp hb).elim (hfs b) fun z => (h b z).elim (hfs b) fun z => .inr (Nat.le_trans sz z), (un.mono (fun b hb => List.mem_append_left _ hb) fun b hb => hb).trans (u.mono (fun b hb => List.mem_append_right _ hb) fun b hb => hb)⟩
  refine ⟨fun Hv v G h => ?_, fun f G fs2 A outer s2 H2 us vs ds d Q Z hr e0 ho h z u hΨ => ?_⟩
  · obtain ⟨f, e, q⟩ := x.at_ Hv v G h
    exact ⟨f, e, fun fs2 s2 H2 h z u => q _ s2 H2 (cmb h u).1 (Nat.le_trans sz z) (cmb h u).2⟩
  · exact x.run f G (fs1 ++ fs2) A outer s2 H2 us vs ds d Q Z hr e0 (fun b hb => List.mem_append_right _ (ho b hb)) (cmb h u).1 (Nat.le_trans sz z) (cmb h u).2 hΨ
theorem FxAt.mono {Φ : Fx} {fs0 : List Addr} {s0 : Shared} {H0 : Hp} {j : Nat} (x : FxAt P w K mg base T j Φ fs0 s0 H0) (h : j ≤ kk) : FxAt P w K mg base T kk Φ fs0 s0 H0 := ⟨x.at_, fun f G fs1 A outer s1 H1 us vs ds d Q Z hr => x.run f G fs1 A outer s1 H1 us vs ds d Q Z (hr.mono h)⟩
/-- THE RULE for a def that may be handed functions -/
theorem ho_of {x qual : Str} {st : Stmt} {f : Addr} {fd : FuncData} {N ps : List Str} {k : Nat} {m : MS} (F : Fun K x qual st f fd) (S : FnScope N ps (defScope st))
    (hb : ∀ (cd : Value), cd = codeV K f → ∀ (A : Around) (outer : List Env) (s : Shared) (H : Hp) (Φ : Fx), Room k (A.deeper (envOfC qual (defScope st) s.heap.objs.size f cd)) → FxAt P w K mg base T kk Φ (frs outer) s H → PDss (CtxF P w K mg base N qual (defScope st) f cd A outer s H E0) T Φ (defBody st) m) :
    HoOk P w K mg base T kk (k + 1) f fd ps (bodyF (N.length - ps.length) m) := by
  intro A outer s H args us vs Q Φ Z as d hr e0 hbi r hl hx R hm k'
  obtain ⟨oc, od, kV, doc, pm, an, cdv, ct, osl, rfl, lk, hcd⟩ := F.ex
  refine LamX.run_ofS lk hcd S hr e0 hbi r hl fun hr' => ?_
  refine ⟨_, (hb cdv (by unfold codeV; rw [lk]) A outer s H Φ hr' hx).nox, ?_⟩
  refine entry_of hl R hm fun v H' f1 R1 p1 => ?_
  refine k' v H' (f1.mono fun x h => by simp at h) R1.tabs ?_
  have e : (fun a => Z a ∨ a ∈ ([] : List Addr)) = Z := funext fun a => propext ⟨fun h => h.elim id fun z => by simp at z, .inl⟩
  rw [e] at p1
  exact p1
end
section
variable {X : Cx} {T : List (Addr × Str)} {Φ : Fx} {B : Nat → Bool} {a : Expr} {es : List Expr} {ma : ME} {mas : MA} {pos p : Pos} {kk : Nat} {x : Str}
abbrev FxX (X : Cx) (T : List (Addr × Str)) (kk : Nat) (Φ : Fx) : Prop := FxAt X.prog X.w X.K X.mg X.base T kk Φ X.fs X.s_0 X.H_0
theorem stk_sub {pins : List (Addr × Obj)} {σ : L2.St} {H : Hp} {s : Shared} (I : Inv X pins σ H s) : ∀ b ∈ frs X.stack, b ∈ X.fs ∨ X.s_0.heap.objs.size ≤ b := fun b hb => by
  rcases List.mem_cons.mp (I.stkSub b hb) with e | e
  · exact .inr (by rw [e]; exact I.ok.above)
  · exact .inl e
theorem stk_un {pins : List (Addr × Obj)} {σ : L2.St} {H : Hp} {s : Shared} (I : Inv X pins σ H s) (hex : X.ex = []) : Un (frs X.stack ++ X.fs) [] X.H_0 H X.s_0.heap s.heap := by
  have u := I.base
  rw [hex] at u
  exact u.mono (fun b hb => List.mem_append_right _ hb) fun b hb => hb
theorem FxX.now {pins : List (Addr × Obj)} {σ : L2.St} {H : Hp} {s : Shared} (hΦ : FxX X T kk Φ) (I : Inv X pins σ H s) (hex : X.ex = []) : FxAt X.prog X.w X.K X.mg X.base T kk Φ (frs X.stack ++ X.fs) s H :=
  FxAt.later hΦ (fun b hb => (List.mem_append.mp hb).elim (stk_sub I b) .inl) I.sz (stk_un I hex)
/-- x(..), x a name that holds a function -/
def eFn (i : Nat) (ma : MA) : ME := fun ρ μ => match ρ[i]? with
  | some (.fn G) => (ma ρ μ).bind fun p => (G p.1).map fun d => (d, p.2)
  | _ => none
theorem zw_nil {B : Nat → Bool} {ρ : List Slot} {Z : Addr → Prop} : Zw B ρ [] Z = Z := funext fun a => propext ⟨fun h => h.elim id fun ⟨k, e, _⟩ => by simp at e, .inl⟩
theorem pd_fn (i : Nat) (hΦ : FxX X T kk Φ) (hex : X.ex = []) (hr : Room kk X.A) (ha : PDa X T Φ B (a :: es) mas) (hN : X.N[i]? = some x := by rfl) (hv : Vis X.env.scope x := by first | exact Or.inl rfl | exact Or.inr (Or.inl rfl) | exact Or.inr (Or.inr rfl))
    (hd : (x == ("__debug__" : Str)) = false := by decide) (hcd : (x == ("__classdict__" : Str)) = false := by decide) (he : starEach (a :: es) X.env = (false, eval a X.env) :: starEach es X.env := by rfl) (hpl : (backTo pos (starEach es X.env)).any (·.1) = false := by rfl) :
    PDe X T Φ B (.Call (.Name x p) (a :: es) [] pos) (eFn i mas) := by
  refine ⟨fun pins s σ H Q I h => ?_⟩
  obtain ⟨A, Z, ρ, μ, d, μ', R, hm, k⟩ := h
  unfold eFn at hm
  split at hm
  · rename_i G eG
    cases e : mas ρ μ with
    | none => rw [e] at hm; cases hm
    | some q =>
      rw [e, Option.bind_some] at hm
      cases e2 : G q.1 with
      | none => rw [e2] at hm; cases hm
      | some d' =>
        rw [e2] at hm
        cases hm
        obtain ⟨v, hs, hrel⟩ := R.slot i _ eG
        obtain ⟨f, rfl, hat⟩ := hΦ.at_ _ _ _ hrel
        have fnAt : ∀ {σ' : L2.St} {H' : Hp} {s' : Shared}, Inv X pins σ' H' s' → PySem.W.FnAt f s'.heap := fun {σ' H' s'} I' => hat X.fs s' H' (fun b hb => .inl hb) I'.sz (by have u := I'.base; rw [hex] at u; exact u)
        refine wpAny_Call_Name_kw (thn ((pe_var (pos := p) hN hv hd hcd).run pins s σ H (fun v H1 => v = .ref f ∧ H1 = H) I ⟨.ref f, hs, rfl, rfl⟩) fun u s1 ⟨v, H1, I1, r1, q1⟩ => ?_)
        obtain ⟨ev, eH⟩ := q1
        subst ev
        rw [eH] at I1
        obtain rfl : u = Value.ref f := r1
        refine PySem.W.callWith_F (first := []) (fnAt I1) (thn (ha.run pos pins s1 σ H (fun vs H2 => Fw (Wr B ρ A) H H2 ∧ Rep X.K T Φ A Z σ H2 ρ q.2 ∧ RpA X.K (hid H2 (Zw B ρ A Z)) vs q.1) I1 ⟨A, Z, ρ, μ, q.1, q.2, R, e, fun vs H2 f2 R2 p2 => ⟨f2, R2, p2⟩⟩) fun us s2 ⟨vs, H2, I2, r, f2, R2, p2⟩ => ⟨fnAt I2, ?_⟩) he hpl
        show wpAny _ _ (call (.ref f) us) _ _ _
        obtain ⟨v', hs', hrel'⟩ := R2.slot i _ eG
        have ev : v' = V.ref f := by rw [hs] at hs'; cases hs'; rfl
        subst ev
        refine wpAny_call (codeAny_mono (hΦ.run f G (frs X.stack ++ X.fs) X.A X.stack s2 H2 us vs q.1 _ Q (Zw B ρ A Z) hr I2.env0 (fun b hb => List.mem_append_left _ hb) (fun b hb => (List.mem_append.mp hb).elim (stk_sub I2 b) .inl) I2.sz (stk_un I2 hex) (Φ.mono (Rep.see H2) hrel') R2.trackF R2.tabs r p2 e2 fun v H3 f3 t3 p3 => ?_) fun r s' hq => ?_)
        · exact k v H3 (f2.trans (f3.mono fun _ h => h.elim)) (R2.calm f3 t3) p3
        · cases r with
          | error e => exact (show False from hq).elim
          | ok fl =>
            cases fl with
            | ret u => exact I2.after hq
            | next => exact False.elim hq
            | brk => exact False.elim hq
            | cont => exact False.elim hq
  · cases hm
end
end PD
end
section
set_option linter.all false
set_option maxRecDepth 100000
set_option maxHeartbeats 4000000
/-! P12: lambdas made, handed on. -/
namespace PD
open PySem PySem.Spec PyProof.Rows L2 NdefX LamX

abbrev LamF (q : Str) (params : Arguments) (scope : Scope) (cl : List (Str × Addr)) (c' : Addr) : NF := ⟨"<lambda>", q, params, [], scope, cl, c'⟩
abbrev LamC (X : Cx) (N : List Str) (params : Arguments) (scope : Scope) (f c' : Addr) (cl : List (Str × Addr)) (A : Around) (outer : List Env) (s : Shared) (H : Hp) : Cx :=
  ncx CX0 X.prog X.w X.K X.mg X.base N (LamF (X.env.qual ++ "<lambda>") params scope cl c') f A outer s H E0
def lamG (n e : Nat) (mb : ME) (cap : List Slot) : GF := fun ds => if ds.length = n then (mb (ds.map .val ++ cap ++ List.replicate e .non) []).map (·.1) else none
def capO : Option Slot → Slot
  | some (.val d) => .val d
  | some (.fn G) => .fn G
  | _ => .non
def capS (ρ : List Slot) (js : List Nat) : List Slot := js.map fun j => capO ρ[j]?
def lamFx (K : PySem.W.Frag) (Φ : Fx) (f c' : Addr) (q : Str) (cap : List Slot) (ws : List (Option V)) (G : GF) : Fx where
  rel Hv v G' := v = .ref f ∧ G' = G ∧ Hv c' = some (CodeO c' q) ∧ ∀ (i : Nat) (s : Slot), cap[i]? = some s → SlotAt K Φ Hv [] ws[i]? s
  mono := fun {H H' v G} e h => ⟨h.1, h.2.1, e _ _ h.2.2.1 codeO_ne, fun i s q => SlotAt.xt (h.2.2.2 i s q) e⟩
section
variable {P : Program} {w : World} {K : PySem.W.Frag} {mg : Str → Option Value} {base : Heap} {T : List (Addr × Str)} {kk : Nat}
theorem FxAt.fewer {Φ : Fx} {fs0 fs : List Addr} {s0 : Shared} {H0 : Hp} (x : FxAt P w K mg base T kk Φ fs0 s0 H0) (h : ∀ b ∈ fs, b ∈ fs0) : FxAt P w K mg base T kk Φ fs s0 H0 := by
  have le : ∀ {fs1 : List Addr}, (∀ b ∈ fs1, b ∈ fs ∨ s0.heap.objs.size ≤ b) → ∀ b ∈ fs1, b ∈ fs0 ∨ s0.heap.objs.size ≤ b := fun q b hb => (q b hb).elim (fun z => .inl (h b z)) .inr
  refine ⟨fun Hv v G hr => ?_, fun f G fs1 A outer s1 H1 us vs ds d Q Z hr e0 ho hf => x.run f G fs1 A outer s1 H1 us vs ds d Q Z hr e0 ho (le hf)⟩
  obtain ⟨f, e, q⟩ := x.at_ Hv v G hr
  exact ⟨f, e, fun fs1 s1 H1 hf => q fs1 s1 H1 (le hf)⟩
theorem cells_un {cl : List (Str × Addr)} {fr : List Str} {ws : List (Option V)} {h h1 : Heap} {H H1 : Hp} {fs : List Addr} (C : CellsAt cl fr ws h H) (un : Un fs [] H H1 h h1) : CellsAt cl fr ws h1 H1 := by
  have kp : ∀ {c : Addr} {v : Option Value}, H c = none → h.IsCell c v → h1.IsCell c v := fun {c v} n ⟨o, ho, hd⟩ => by
    obtain ⟨sl, q⟩ := un.any ho n (by simp)
    exact ⟨_, q, hd⟩
  refine ⟨C.len, fun y c e => ?_, C.inj, fun i y e => ?_⟩
  · obtain ⟨n, v, o, ho, hd⟩ := C.all y c e
    exact ⟨un.free c o ho n (by simp), v, kp n ⟨o, ho, hd⟩⟩
  · obtain ⟨c, hc, hv⟩ := C.has i y e
    refine ⟨c, hc, fun v ev => ?_⟩
    obtain ⟨u, r, z⟩ := hv v ev
    exact ⟨u, r, kp (C.all y c hc).1 z⟩
end
section
variable {X : Cx} {T : List (Addr × Str)} {Φ : Fx} {B : Nat → Bool} {pins : List (Addr × Obj)} {σ : L2.St} {H : Hp} {s : Shared}
theorem lam_fx {kb kΦ : Nat} {f c' : Addr} {pm ctv : Value} {params : Arguments} {body : Expr} {scope : Scope} {cl : List (Str × Addr)} {N ps fr : List Str} {ws : List (Option V)} {cap : List Slot} {mb : ME} (I : Inv X pins σ H s) (hex : X.ex = [])
    (hf : s.heap.get? f = some (PySem.W.kla_obj "<lambda>" (X.env.qual ++ "<lambda>") params body scope cl pm c' ctv)) (hfn : H f = none) (hfr : f ∉ frs X.stack) (C : CellsAt cl fr ws s.heap H) (S : NScope N ps fr scope)
    (hbind : ∀ us : List Value, us.length = ps.length → bindArgs (PySem.W.kla_fn "<lambda>" (X.env.qual ++ "<lambda>") params body scope cl pm (.ref c') ctv) ⟨us, []⟩ = pure (ps.zip us)) (hcap : cap.length = fr.length) (hΦ : FxX X T kΦ Φ)
    (hb : ∀ (A : Around) (outer : List Env) (s1 : Shared) (H1 : Hp), Room kb (LamC X N params scope f c' cl A outer s1 H1).A → FxX (LamC X N params scope f c' cl A outer s1 H1) T kΦ Φ → PDe (LamC X N params scope f c' cl A outer s1 H1) T Φ B body mb) :
    FxAt X.prog X.w X.K X.mg X.base T (kb + 1) (lamFx X.K Φ f c' (X.env.qual ++ "<lambda>") cap ws (lamG ps.length (N.length - ps.length - fr.length) mb cap)) (frs X.stack) s H := by
  have lt := Heap.lt_size hf
  have nf : ∀ {fs1 : List Addr}, (∀ b ∈ fs1, b ∈ frs X.stack ∨ s.heap.objs.size ≤ b) → f ∉ fs1 := fun {fs1} h z => (h f z).elim hfr fun q => Nat.lt_irrefl _ (Nat.lt_of_lt_of_le lt q)
  refine ⟨fun Hv v G h => ⟨f, And.left h, fun fs1 s1 H1 hfs _ un => ⟨_, _, _, _, un.keep f _ hf hfn (nf hfs) (by simp)⟩⟩, ?_⟩
  intro f' G fs1 A outer s1 H1 us vs ds d Q Z hr e0 ho hfs hsz un hΨ hz hT r pd hG k
  obtain ⟨ef, rfl, hc, hcp⟩ := (show V.ref f' = V.ref f ∧ G = _ ∧ hid H1 Z c' = some (CodeO c' (X.env.qual ++ "<lambda>")) ∧ ∀ (i : Nat) (s : Slot), cap[i]? = some s → SlotAt X.K Φ (hid H1 Z) [] ws[i]? s from hΨ)
  cases ef
  have of1 := un.keep f _ hf hfn (nf hfs) (by simp)
  have hcO := (of_hid hc).1
  unfold lamG at hG
  split at hG
  · rename_i hl
    cases em : mb (ds.map .val ++ cap ++ List.replicate (N.length - ps.length - fr.length) .non) [] with
    | none => rw [em] at hG; cases hG
    | some q =>
      rw [em] at hG
      cases hG
      have lv : vs.length = ps.length := by rw [pd.length]; exact hl
      have lim : s1.heap.NoLimit := e0.mod.nolimit.keeps fun b o e => (e0.bs b o e).1
      refine PySem.W.kla_callFunE hr.depth of1 rfl S.co S.gen rfl (codeO_at e0.hok hcO) ?_
      rw [hbind us (by rw [← r.length]; exact lv)]
      refine wpAny_pure (wpAny_newFunctionEnv S.nocell (fun ⟨n, _⟩ hy => S.par n (List.of_mem_zip hy).1) (fun h₁ hns hsb => ⟨lim.fresh _ hsb, ?_⟩) S.kind)
      show codeAny _ _ (.expr body (envF (LamF (X.env.qual ++ "<lambda>") params scope cl c') f s1.heap.objs.size)) _ _
      have kp : ∀ b o, s1.heap.get? b = some o → h₁.get? b = some o := fun b o e => hsb.extBut b o (Nat.ne_of_lt (Heap.lt_size e)) (Heap.get?_push_of_some _ e)
      have C1 := cells_un C un
      have J : Inv (LamC X N params scope f c' cl A outer s1 H1) [] (startF N vs ws) H1 { s1 with heap := h₁, toks := s1.toks + (ps.zip us).length } := inv_startN S hr.hd e0 lv r C1 hns kp
      have x1 : FxX (LamC X N params scope f c' cl A outer s1 H1) T kΦ Φ := by
        have y := FxX.now hΦ I hex
        exact (y.later (fs1 := fs1) (fun b hb => (hfs b hb).elim (fun z => .inl (List.mem_append_left _ z)) .inr) hsz un).fewer ho
      refine PySem.W.kla_codeExpr (wpAny_mono ((hb A outer s1 H1 (hr.deeper _) x1).run [] _ _ H1 Q J ?_) (fun v s' hq => ?_) fun e s' hq => hq)
      · refine ⟨[], Z, _, [], q.1, q.2, ⟨?_, rfl, List.nodup_nil, fun a z => ⟨by simp, hz a z⟩, hT, fun k c a e1 => by simp at e1, fun i sl e => ?_⟩, em, fun v H' f1 R1 p1 => k v H' (f1.mono fun a ⟨j, e, _⟩ => by simp at e) R1.tabs (by rw [zw_nil] at p1; exact p1)⟩
        · have := C.len
          have := hcap
          unfold startF
          simp only [List.length_append, List.length_map, List.length_replicate]
          omega
        · have hzz : (fun a => Z a ∨ a ∈ ([] : List Addr)) = Z := funext fun a => propext ⟨fun h => h.elim id fun z => by simp at z, .inl⟩
          rw [hzz]
          have lc : ws.length = fr.length := C.len
          unfold startF
          by_cases h1 : i < ds.length
          · rw [List.append_assoc, List.getElem?_append_left (by rw [List.length_map]; exact h1), List.getElem?_map, List.getElem?_eq_getElem h1] at e
            have e : Slot.val ds[i] = sl := Option.some.inj e
            obtain ⟨v, ev, pv⟩ := pd.get (List.getElem?_eq_getElem h1)
            rw [← e]
            refine ⟨v, ?_, pv⟩
            rw [List.getElem?_append_left (by rw [List.length_map]; omega), List.getElem?_map, ev]
            rfl
          · rw [List.append_assoc, List.getElem?_append_right (by rw [List.length_map]; omega), List.length_map] at e
            rw [List.getElem?_append_right (by rw [List.length_map]; omega), List.length_map]
            have ei : i - vs.length = i - ds.length := by omega
            rw [ei]
            by_cases h2 : i - ds.length < cap.length
            · rw [List.getElem?_append_left h2] at e
              rw [List.getElem?_append_left (by omega)]
              exact hcp _ _ e
            · rw [List.getElem?_append_right (by omega), List.getElem?_replicate] at e
              split at e
              · cases e; trivial
              · cases e
      · obtain ⟨w', H', J', rv, q⟩ := hq
        exact ⟨w', H', J'.os, J'.bare, J'.base, J'.hok, rv, q⟩
  · cases hG
end

/-! ### arguments of which the last is a function -/
abbrev MF := List Slot → List Cell → Option ((List D × GF) × List Cell)
/-- the value v is the function G at s, H; Zw is hidden -/
def FnArg (X : Cx) (T : List (Addr × Str)) (kk : Nat) (H : Hp) (s : Shared) (Zw : Addr → Prop) (v : V) (G : GF) : Prop :=
  ∃ (Φ : Fx) (Zl : Addr → Prop), FxAt X.prog X.w X.K X.mg X.base T kk Φ (frs X.stack) s H ∧ (∀ a, Zl a → Zw a) ∧ (∀ a, Zw a → Zl a ∨ ∃ q, H a = some (CodeO a q)) ∧ Φ.rel (hid H Zl) v G
structure PL (X : Cx) (T : List (Addr × Str)) (Φ : Fx) (B : Nat → Bool) (kk : Nat) (es : List Expr) (m : MF) : Prop where
  run : ∀ (pos : Pos) (pins : List (Addr × Obj)) (s : Shared) (σ : L2.St) (H : Hp) (Post : List Value → Shared → Prop) (A : List Addr) (Z : Addr → Prop) (ρ : List Slot) (μ : List Cell) (ds : List D) (G : GF) (μ' : List Cell), Inv X pins σ H s → Rep X.K T Φ A Z σ H ρ μ → m ρ μ = some ((ds, G), μ') →
    (∀ vs us v u H1 s1, Inv X pins σ H1 s1 → Vals vs us → RelV v u → Fw (Wr B ρ A) H H1 → Rep X.K T Φ A Z σ H1 ρ μ' → RpA X.K (hid H1 (Zw B ρ A Z)) vs ds → FnArg X T kk H1 s1 (Zw B ρ A Z) v G → Post (us ++ [u]) s1) →
    wpAny (model X.prog X.w) X.A (spliced (backTo pos (starEach es X.env))) Post X.xe s
def lC (a : ME) (r : MF) : MF := fun ρ μ => (a ρ μ).bind fun p => (r ρ p.2).map fun q => ((p.1 :: q.1.1, q.1.2), q.2)
def lLam (n e : Nat) (js : List Nat) (mb : ME) : MF := fun ρ μ => some (([], lamG n e mb (capS ρ js)), μ)
def fnG (n : Nat) (F : FD) : GF := fun ds => if ds.length = n then (F (ds.map .val) []).map (·.1) else none
def lFn (G : GF) : MF := fun ρ μ => some (([], G), μ)
def eHo (n : Nat) (F : FD) (m : MF) : ME := fun ρ μ => (m ρ μ).bind fun p => (F (p.1.1.map .val ++ [.fn p.1.2]) []).bind fun q => if q.2.isEmpty && p.1.1.length + 1 == n then some (q.1, p.2) else none
section
variable {X : Cx} {T : List (Addr × Str)} {Φ : Fx} {B : Nat → Bool} {kk : Nat} {a : Expr} {es : List Expr} {ma : ME} {ml : MF} {pos p : Pos} {x : Str}
theorem pl_c (ha : PDe X T Φ B a ma) (hr : PL X T Φ B kk es ml) (hs : starEach (a :: es) X.env = (false, eval a X.env) :: starEach es X.env := by rfl) : PL X T Φ B kk (a :: es) (lC ma ml) := by
  refine ⟨fun pos pins s σ H Post A Z ρ μ ds G μ' I R hm k => ?_⟩
  unfold lC at hm
  cases e1 : ma ρ μ with
  | none => rw [e1] at hm; cases hm
  | some p =>
    rw [e1, Option.bind_some] at hm
    cases e2 : ml ρ p.2 with
    | none => rw [e2] at hm; cases hm
    | some q =>
      rw [e2] at hm
      cases hm
      rw [hs]
      show wpAny _ _ (spliced ((false, eval a X.env) :: backTo pos (starEach es X.env))) _ _ s
      refine Calls.spliced_cons (thn (ha.run pins s σ H (fun v H1 => Fw (Wr B ρ A) H H1 ∧ Rep X.K T Φ A Z σ H1 ρ p.2 ∧ Rp X.K (hid H1 (Zw B ρ A Z)) v p.1) I ⟨A, Z, ρ, μ, p.1, p.2, R, e1, fun v H1 f1 R1 p1 => ⟨f1, R1, p1⟩⟩) fun u s1 ⟨v, H1, I1, r1, f1, R1, p1⟩ => ?_)
      refine hr.run pos pins s1 σ H1 _ A Z ρ p.2 q.1.1 q.1.2 q.2 I1 R1 e2 fun vs us v2 u2 H2 s2 I2 r2 r3 f2 R2 p2 fa => ?_
      exact k (v :: vs) (u :: us) v2 u2 H2 s2 I2 (.cons r1 r2) r3 (f1.trans f2) R2 ⟨v, vs, rfl, Rp.mono (fw_xt f2) _ _ p1, p2⟩ fa
/-- a lambda -/
theorem pl_lam {kb kΦ : Nat} {c P : Addr} {params : Arguments} {body : Expr} {scope : Scope} {lpos : Pos} {N ps fr : List Str} {js : List Nat} {mb : ME} (hex : X.ex = []) (TB : TabB X.base X.mg c P) (hcode : X.env.code = .ref c) (hm : (P, X.env.qual ++ "<lambda>") ∈ T)
    (hu : ∀ p ∈ T, p.1 = P → p.2 = X.env.qual ++ "<lambda>") (hdef : defaultsOf params X.env = ([], [])) (hfree : ∀ y ∈ scope.names, y.2 = .free → X.env.scope.names.lookup y.1 = some .cell ∨ X.env.scope.names.lookup y.1 = some .free)
    (hfr : ∀ y ∈ fr, (y, NameKind.free) ∈ scope.names) (hjs : js.map (fun j => X.N[j]?) = fr.map some) (S : NScope N ps fr scope) (hl : js.length = fr.length)
    (hbind : ∀ (q : Str) (cl : List (Str × Addr)) (pm cv ctv : Value) (us : List Value), us.length = ps.length → bindArgs (PySem.W.kla_fn "<lambda>" q params body scope cl pm cv ctv) ⟨us, []⟩ = pure (ps.zip us)) (hΦ : FxX X T kΦ Φ)
    (hb : ∀ (f c' : Addr) (cl : List (Str × Addr)) (A : Around) (outer : List Env) (s1 : Shared) (H1 : Hp), Room kb (LamC X N params scope f c' cl A outer s1 H1).A → FxX (LamC X N params scope f c' cl A outer s1 H1) T kΦ Φ → PDe (LamC X N params scope f c' cl A outer s1 H1) T Φ B0 body mb) :
    PL X T Φ B (kb + 1) [.Lambda params body scope lpos] (lLam ps.length (N.length - ps.length - fr.length) js mb) := by
  refine ⟨fun pos pins s σ H Post A Z ρ μ ds G μ' I R hmm k => ?_⟩
  cases hmm
  show wpAny _ _ (spliced ((false, eval (.Lambda params body scope lpos) X.env) :: backTo pos (starEach [] X.env))) _ _ s
  have cp : Caps X (cloFrom X.env.cells scope.names []) fr js := Caps.made I.ok hfree hfr hjs
  have hfree' : ∀ y ∈ scope.names, y.2 = .free → ∃ c, X.env.cells.lookup y.1 = some c := fun y hy e => (hfree y hy e).elim (fun z => I.ok.has _ (.inl z)) fun z => I.ok.has _ (.inr z)
  refine Calls.spliced_cons (lam_make2 I TB hcode hm hu R.tabs hdef hfree' fun f c' pm' ctv H1 s' I1 eN T1 hf hfn hfnf hco => ?_)
  refine Calls.spliced_nil ?_
  have f1 : Fw (fun _ => False) H H1 := ⟨fun a o e _ t => eN a o e t, fun b f => by
    cases q : H b with
    | none => exact .inl q
    | some o =>
      by_cases t : ∃ ps, o = .tbl ps
      · obtain ⟨ps, rfl⟩ := t
        exact .inr ⟨ps, q⟩
      · exact (fr_not (eN b o q fun ps z => t ⟨ps, z⟩) (fun ps z => t ⟨ps, z⟩) f).elim⟩
  have R1 := R.calm f1 T1
  refine k [] [] (.ref f) (.ref f) H1 s' I1 .nil rfl (f1.mono fun _ h => h.elim) R1 rfl ?_
  have C := cells_of I1 cp
  have x := lam_fx (cap := capS ρ js) (ws := js.map (slotAt σ)) (mb := mb) (B := B0) I1 hex hf hfn hfnf C S (fun us hl => hbind _ _ _ _ _ us hl) (by unfold capS; rw [List.length_map]; exact hl) hΦ (fun A outer s1 H1 => hb f c' _ A outer s1 H1)
  refine ⟨_, fun b => Zw B ρ A Z b ∧ b ≠ c', x, fun b h => h.1, fun b h => ?_, rfl, rfl, ?_, fun i sl e => ?_⟩
  · by_cases hb : b = c'
    · exact .inr ⟨_, by rw [hb]; exact hco⟩
    · exact .inl ⟨h, hb⟩
  · rw [hid_of fun z => z.2 rfl]
    exact hco
  · have e' : (js.map fun j => capO ρ[j]?)[i]? = some sl := e
    rw [List.getElem?_map] at e'
    rw [List.getElem?_map]
    cases ej : js[i]? with
    | none => rw [ej] at e'; cases e'
    | some j =>
      rw [ej] at e'
      have e' : capO ρ[j]? = sl := Option.some.inj e'
      have le : XT (hid H1 fun a => Z a ∨ a ∈ A) (hid H1 fun b => Zw B ρ A Z b ∧ b ≠ c') := hid_le fun b h => zw_le h.1
      cases er : ρ[j]? with
      | none => rw [er] at e'; rw [← e']; trivial
      | some s0 =>
        have q := (R1.slot j s0 er).xt le
        rw [er] at e'
        cases s0 with
        | non => rw [← e']; trivial
        | own kc => rw [← e']; trivial
        | val d =>
          rw [← e']
          obtain ⟨v, h1, h2⟩ := q
          exact ⟨v, by show some (slotAt σ j) = _; rw [slotAt_of h1], h2⟩
        | fn G =>
          rw [← e']
          obtain ⟨v, h1, h2⟩ := q
          exact ⟨v, by show some (slotAt σ j) = _; rw [slotAt_of h1], h2⟩

theorem hid_nil {H : Hp} {Z : Addr → Prop} : (hid H fun a => Z a ∨ a ∈ ([] : List Addr)) = hid H Z := by
  have hzz : (fun a => Z a ∨ a ∈ ([] : List Addr)) = Z := funext fun a => propext ⟨fun h => h.elim id fun z => by simp at z, .inl⟩
  rw [hzz]
theorem rep_vals {K : PySem.W.Frag} {Φ : Fx} {Z : Addr → Prop} {H : Hp} {vs : List V} {ds : List D} (hz : ∀ a, Z a → ¬ Fr H a) (hT : Tabs T H) (pd : RpA K (hid H Z) vs ds) : Rep K T Φ [] Z (vs.map some) H (ds.map .val) [] := by
  refine ⟨by rw [List.length_map, List.length_map, pd.length], rfl, List.nodup_nil, fun a z => ⟨by simp, hz a z⟩, hT, fun k c a e1 => by simp at e1, fun i sl e => ?_⟩
  rw [hid_nil]
  rw [List.getElem?_map] at e
  cases ei : ds[i]? with
  | none => rw [ei] at e; cases e
  | some d =>
    rw [ei] at e
    have e : Slot.val d = sl := Option.some.inj e
    rw [← e]
    obtain ⟨v, ev, pv⟩ := pd.get ei
    exact ⟨v, by rw [List.getElem?_map, ev]; rfl, pv⟩
/-- a def by its name, of data -/
theorem pl_fn {k n : Nat} {f : Addr} {fd : FuncData} {ps : List Str} {F : FD} {q : Str} {st : Stmt} (G : FnOk X.prog X.w X.K X.mg X.base CX0 k f fd ps (spD X.K T n F)) (Fu : Fun X.K x q st f fd) (hr : k ≤ kk) (hg : Gl X x) (hm : X.mg x = some (.ref f)) (hb : Binds X.K fd ps [])
    (hd : (x == ("__debug__" : Str)) = false := by decide) : PL X T Φ B kk [.Name x p] (lFn (fnG n F)) := by
  refine ⟨fun pos pins s σ H Post A Z ρ μ ds G' μ' I R hmm kp => ?_⟩
  cases hmm
  show wpAny _ _ (spliced ((false, eval (.Name x p) X.env) :: backTo pos (starEach [] X.env))) _ _ s
  refine Calls.spliced_cons (thn ((pe_glob (v := .ref f) hg hm rfl hd).run pins s σ H (fun v H1 => v = .ref f ∧ H1 = H) I ⟨rfl, rfl⟩) fun u s1 ⟨v, H1, I1, r1, q1⟩ => ?_)
  obtain ⟨ev, eH⟩ := q1
  subst ev
  rw [eH] at I1
  obtain rfl : u = Value.ref f := r1
  refine Calls.spliced_nil ?_
  refine kp [] [] (.ref f) (.ref f) H s1 I1 .nil rfl (Fw.refl _ _) R rfl ?_
  obtain ⟨oc, od, kV, doc, pm, an, cdv, ct, osl, rfl, lk, hcd⟩ := Fu.ex
  refine ⟨⟨fun _ v G' => v = .ref f ∧ G' = fnG n F, fun _ h => h⟩, Zw B ρ A Z, ⟨fun Hv v G' h => ⟨f, h.1, fun fs1 s2 H2 _ _ un => ?_⟩, ?_⟩, fun _ h => h, fun _ h => .inl h, rfl, rfl⟩
  · obtain ⟨sl, q⟩ := un.any (I1.kIn _ _ lk) (I1.bs f _ (I1.mod.kin _ _ lk)).2 (by simp)
    exact ⟨_, _, _, _, q⟩
  · intro f' G' fs1 A1 outer s2 H2 us vs ds d Q Z2 hr2 e0 ho hfs hsz un hΨ hz hT r pd hG k
    obtain ⟨ef, rfl⟩ := (show V.ref f' = V.ref f ∧ G' = fnG n F from hΨ)
    cases ef
    unfold fnG at hG
    split at hG
    · rename_i hl
      cases em : F (ds.map .val) [] with
      | none => rw [em] at hG; cases hG
      | some q =>
        rw [em] at hG
        cases hG
        have sp : spD X.K T n F vs H2 Q E0 := ⟨by rw [pd.length]; exact hl, [], Z2, ds.map .val, [], q.1, q.2, rep_vals hz hT pd, em, fun v H' f1 R1 p1 => k v H' (f1.mono fun a h => by simp at h) R1.tabs (by rw [hid_nil] at p1; exact p1)⟩
        have lp := G.len _ _ _ _ sp
        refine G.run A1 outer s2 H2 _ us vs Q E0 (hr2.mono hr) e0 ?_ r sp
        have := hb s2 us (e0.mod.kin.keeps fun b o e => (e0.bs b o e).1) (by rw [List.append_nil, ← r.length]; exact lp)
        rw [List.append_nil] at this
        exact this
    · cases hG
/-- THE RULE: x(e, .., function) -/
theorem pd_ho {k : Nat} {f : Addr} {fd : FuncData} {ps : List Str} {F : FD} {n : Nat} (G : HoOk X.prog X.w X.K X.mg X.base T kk k f fd ps F) (hr : Room k X.A) (hg : Gl X x) (hm : X.mg x = some (.ref f)) (hk : PySem.W.keepIn X.K (.ref f) = true) (hb : Binds X.K fd ps []) (ha : PL X T Φ B kk (a :: es) ml)
    (hn : ps.length = n := by rfl)
    (hdb : (x == ("__debug__" : Str)) = false := by decide) (he : starEach (a :: es) X.env = (false, eval a X.env) :: starEach es X.env := by rfl) (hpl : (backTo pos (starEach es X.env)).any (·.1) = false := by rfl) :
    PDe X T Φ B (.Call (.Name x p) (a :: es) [] pos) (eHo n F ml) := by
  refine ⟨fun pins s σ H Q I h => ?_⟩
  obtain ⟨A, Z, ρ, μ, d, μ', R, hmm, kq⟩ := h
  unfold eHo at hmm
  cases e1 : ml ρ μ with
  | none => rw [e1] at hmm; cases hmm
  | some q =>
    rw [e1, Option.bind_some] at hmm
    obtain ⟨⟨ds, G'⟩, μ1⟩ := q
    dsimp only at hmm
    cases e2 : F (ds.map .val ++ [.fn G']) [] with
    | none => rw [e2] at hmm; cases hmm
    | some q2 =>
      rw [e2, Option.bind_some] at hmm
      obtain ⟨d2, cs2⟩ := q2
      dsimp only at hmm
      split at hmm
      · rename_i hemp
        cases hmm
        obtain ⟨hemp, hln⟩ := Bool.and_eq_true_iff.mp hemp
        have hln : ds.length + 1 = n := beq_iff_eq.mp hln
        have hc : cs2 = [] := List.isEmpty_iff.mp hemp
        subst hc
        refine wpAny_Call_Name_kw (ld_glob I hg hm ?_ hdb)
        refine PySem.W.callWith_K (h₀ := X.base) I.ok.mod.kin hk (ha.run pos pins s σ H _ A Z ρ μ ds G' μ' I R e1 fun vs us v u H1 s1 I1 r r2 f1 R1 p1 fa => ⟨I1.kIn, ?_⟩) he hpl
        show wpAny _ _ (call (.ref f) (us ++ [u])) _ _ _
        obtain ⟨Φ', Zl, fx, le1, le2, rel⟩ := fa
        have rr : Vals (vs ++ [v]) (us ++ [u]) := r.append (.cons r2 .nil)
        have hl : (vs ++ [v]).length = ps.length := by
          rw [hn, ← hln]
          simp [p1.length]
        have hz : ∀ a, Zl a → ¬ Fr H1 a := fun a z => R1.trackF a (le1 a z)
        have RC : Rep X.K T Φ' [] Zl ((vs ++ [v]).map some) H1 (ds.map .val ++ [.fn G']) [] := by
          have R0 := rep_vals (Φ := Φ') hz R1.tabs (RpA.mono (hid_le le1) _ _ p1)
          refine ⟨by simp [p1.length], rfl, List.nodup_nil, R0.zo, R0.tabs, R0.cell, fun i sl e => ?_⟩
          by_cases hi : i < ds.length
          · rw [List.getElem?_append_left (by rw [List.length_map]; exact hi)] at e
            rw [List.map_append, List.getElem?_append_left (by rw [List.length_map, p1.length]; exact hi)]
            exact R0.slot i sl e
          · rw [List.getElem?_append_right (by rw [List.length_map]; omega), List.length_map] at e
            rw [List.map_append, List.getElem?_append_right (by rw [List.length_map, p1.length]; omega), List.length_map, p1.length]
            cases ei : i - ds.length with
            | zero =>
              rw [ei] at e
              cases e
              exact ⟨v, rfl, by rw [hid_nil]; exact rel⟩
            | succ j => rw [ei] at e; simp at e
        have bt := hb s1 (us ++ [u]) I1.kIn (by rw [List.append_nil, ← rr.length]; exact hl)
        rw [List.append_nil] at bt
        refine wpAny_call (codeAny_mono (G X.A X.stack s1 H1 ⟨us ++ [u], []⟩ (us ++ [u]) (vs ++ [v]) Q Φ' Zl _ _ hr I1.env0 bt rr hl fx RC e2 fun v2 H2 f2 t2 p2 => ?_) fun r s' hq => ?_)
        · refine kq v2 H2 (f1.trans (f2.mono fun _ h => h.elim)) (R1.calm f2 t2) (Rp.monoD (fun b o e nt nc => ?_) _ _ p2)
          have q := of_hid e
          rw [hid_of]
          · exact q.1
          · intro z
            rcases le2 b z with z | ⟨qq, e'⟩
            · exact q.2 z
            · have := f2.keep b _ e' id codeO_ne
              rw [q.1] at this
              exact nc qq (Option.some.inj this)
        · cases r with
          | error e => exact (show False from hq).elim
          | ok fl =>
            cases fl with
            | ret u => exact I1.after hq
            | next => exact False.elim hq
            | brk => exact False.elim hq
            | cont => exact False.elim hq
      · cases hmm
end
end PD
end
section
set_option linter.all false
set_option maxRecDepth 100000
set_option maxHeartbeats 4000000
/-! P13: names that hold data or cells; items of cells stored. -/
namespace PD
open PySem PySem.Spec PyProof.Rows L2

def eAny (i : Nat) : ME := fun ρ μ => match ρ[i]? with
  | some (.val d) => some (d, μ)
  | some (.own k) => match μ[k]? with
    | some (.lst xs) => some (.list xs, μ)
    | _ => none
  | _ => none
def gPut (i : Nat) (mi : ME) : MG := fun d ρ μ => (mi ρ μ).bind fun p => match p.1 with
  | .int k => (cellL ρ p.2 i).bind fun q => (ixN q.2.length k).map fun j => (ρ, p.2.set q.1 (.lst (q.2.set j d)))
  | _ => none
section
variable {X : Cx} {T : List (Addr × Str)} {Φ : Fx} {B : Nat → Bool} {a b : Expr} {mi : ME} {pos : Pos}
theorem pd_any (i : Nat) {x : Str} (hB : B i = true := by rfl) (hN : X.N[i]? = some x := by rfl) (hv : Vis X.env.scope x := by first | exact Or.inl rfl | exact Or.inr (Or.inl rfl) | exact Or.inr (Or.inr rfl)) (hd : (x == ("__debug__" : Str)) = false := by decide)
    (hcd : (x == ("__classdict__" : Str)) = false := by decide) : PDe X T Φ B (.Name x pos) (eAny i) := by
  have h1 : PDe X T Φ B (.Name x pos) (eVar i) := pd_var i hN hv hd hcd
  have h2 : PDe X T Φ B (.Name x pos) (eOwn i) := pd_own i hB hN hv hd hcd
  refine ⟨fun pins s σ H Q I ⟨A, Z, ρ, μ, d, μ', R, hm, k⟩ => ?_⟩
  unfold eAny at hm
  split at hm
  · rename_i d' e
    exact h1.run pins s σ H Q I ⟨A, Z, ρ, μ, d, μ', R, by unfold eVar; rw [e]; exact hm, k⟩
  · rename_i k' e
    exact h2.run pins s σ H Q I ⟨A, Z, ρ, μ, d, μ', R, by unfold eOwn; rw [e]; exact hm, k⟩
  · cases hm
/-- x[e] = v, x a cell -/
theorem pg_put (i : Nat) {x : Str} {p : Pos} (hi : PDe X T Φ B0 b mi) (hN : X.N[i]? = some x := by rfl) (hv : Vis X.env.scope x := by first | exact Or.inl rfl | exact Or.inr (Or.inl rfl) | exact Or.inr (Or.inr rfl)) (hd : (x == ("__debug__" : Str)) = false := by decide)
    (hcd : (x == ("__classdict__" : Str)) = false := by decide)
    (ha : ∀ v, assign (.Subscript (.Name x p) b pos) X.env v = (do
      let ov ← holding [v] (eval (.Name x p) X.env)
      let iv ← holding [v, ov] (eval b X.env)
      standAt pos
      holding [v, ov, iv] (setItem ov iv v)
      release [v, ov, iv] []) := by intro _; rfl) : PDg X T Φ (.Subscript (.Name x p) b pos) (gPut i mi) :=
  PG.cons (pg_sub (pe_var (i := i) hN hv hd hcd) hi set_list ha) fun v σ H Q ⟨A, Z, ρ, μ, d, ρ', μ', R, hp, hg, k⟩ => by
    unfold gPut at hg
    cases e : mi ρ μ with
    | none => rw [e] at hg; cases hg
    | some q =>
      rw [e, Option.bind_some] at hg
      split at hg
      · rename_i kk ei
        cases e2 : cellL ρ q.2 i with
        | none => rw [e2] at hg; cases hg
        | some c =>
          rw [e2, Option.bind_some] at hg
          cases e3 : ixN c.2.length kk with
          | none => rw [e3] at hg; cases hg
          | some j =>
            rw [e3] at hg
            cases hg
            obtain ⟨c1, c2⟩ := c
            obtain ⟨s1, s2⟩ := cellL_some e2
            obtain ⟨l, a1, a2⟩ := R.slot i _ s1
            refine ⟨.ref l, a2, A, Z, ρ, μ, q.1, q.2, R, e, fun y H1 f1 R1 p1 => ?_⟩
            rw [ei] at p1
            obtain ⟨vs, h1, h2⟩ := R1.cell c1 _ l s2 a1
            have p1 : y = .int kk := p1
            refine ⟨l, vs, kk, j, rfl, p1, h1, by rw [h2.length]; exact e3, ?_⟩
            have f1' : Fw (· ∈ A) H H1 := f1.mono fun _ h => h.mem
            have hp' := Rp.mono (f1'.xt (Z := fun a => Z a ∨ a ∈ A) fun _ h => .inr h) _ _ hp
            refine k σ _ (f1'.trans ⟨fun b o eb nb t => ?_, fun b eb => fr_up (fun ps z => by cases z) eb⟩) (R1.put a1 (RpA.set hp' j h2))
            rw [upd_ne (show b ≠ l from fun z => nb (by rw [z]; exact List.mem_of_getElem? a1))]; exact eb
      · cases hg
end
end PD
end
section
set_option linter.all false
set_option maxRecDepth 100000
set_option maxHeartbeats 4000000
/-! P14: the words that the printed derivations use. -/
namespace PD
open PySem PySem.Spec PyProof.Rows L2

theorem hu_of {k : Nat} {A : Around} (r : Room k A) : A.units + 64 < cLine := by have := r.un; omega
/-- a def of the top that keeps F, called with data and lent cells -/
structure Def (P : Program) (w : World) (K : PySem.W.Frag) (mg : Str → Option Value) (base : Heap) (T : List (Addr × Str)) (k : Nat) (x qual : Str) (st : Stmt) (ps : List Str) (n : Nat) (F : FD) : Prop where
  ex : ∃ (f : Addr) (fd : FuncData), FnOk P w K mg base CX0 k f fd ps (spD K T n F) ∧ mg x = some (.ref f) ∧ PySem.W.keepIn K (.ref f) = true ∧ Binds K fd ps [] ∧ Fun K x qual st f fd
  len : ps.length = n
section
variable {P : Program} {w : World} {K : PySem.W.Frag} {mg : Str → Option Value} {base : Heap} {T : List (Addr × Str)}
theorem fun_D {x qual : Str} {st : Stmt} {f : Addr} {fd : FuncData} (F : FunD K x qual (defArgs st) (defBody st) (defScope st) [] [] f fd) : Fun K x qual st f fd := by
  obtain ⟨oc, od, dV, kV, doc, pm, an, cdv, ct, osl, rfl, lk, hcd, hD, hK⟩ := F.ex
  rcases hD with ⟨_, rfl⟩ | ⟨e, _⟩
  · exact ⟨⟨oc, od, kV, doc, pm, an, cdv, ct, osl, rfl, lk, hcd⟩, F.kp⟩
  · exact absurd rfl e
theorem def_of {x qual : Str} {st : Stmt} {f : Addr} {N ps : List Str} {k n : Nat} {m : MS} (F : ∃ fd, FunD K x qual (defArgs st) (defBody st) (defScope st) [] [] f fd) (hm : mg x = some (.ref f)) (S : FnScope N ps (defScope st)) (hn : ps.length = n)
    (hbi : ∀ (kV doc pm : Value) (an : Option Addr) (cdv ct : Value) (us : List Value), us.length = ps.length → bindArgs (PySem.W.fnOf x qual (defArgs st) (defBody st) (defScope st) .none kV doc pm an cdv ct) ⟨us, []⟩ = pure (ps.zip us))
    (hb : ∀ (cd : Value), cd = codeV K f → ∀ (A : Around) (outer : List Env) (s : Shared) (H : Hp) (E : XK), Room k (CtxF P w K mg base N qual (defScope st) f cd A outer s H E).A → PDss (CtxF P w K mg base N qual (defScope st) f cd A outer s H E) T noFx (defBody st) m) :
    Def P w K mg base T (k + 1) x qual st ps n (bodyF (N.length - n) m) := by
  obtain ⟨fd, F⟩ := F
  subst hn
  exact ⟨⟨f, fd, fnd_of (fun_D F) S hb, hm, F.kp, F.bindsN hbi, fun_D F⟩, rfl⟩
end
section
variable {X : Cx} {T : List (Addr × Str)} {Φ : Fx} {B : Nat → Bool} {a b c : Expr} {es : List Expr} {ma mb mc : ME} {mas : MA} {mr : MAr} {mt : MT} {pos p q : Pos} {k j n : Nat} {F : FD} {x qual : Str} {st : Stmt} {ps : List Str}
theorem pd_d (D : Def X.prog X.w X.K X.mg X.base T j x qual st ps n F) (hr : Room k X.A) (hg : Gl X x) (ha : PDr X T Φ B (a :: es) mr) (hj : j ≤ k := by decide)
    (hdb : (x == ("__debug__" : Str)) = false := by decide) (he : starEach (a :: es) X.env = (false, eval a X.env) :: starEach es X.env := by rfl) (hpl : (backTo pos (starEach es X.env)).any (·.1) = false := by rfl) :
    PDe X T Φ B (.Call (.Name x p) (a :: es) [] pos) (eCall n F mr) := by
  obtain ⟨f, fd, G, hm, hk, hb, _⟩ := D.ex
  exact pd_call G (hr.mono hj) hg hm hk hb ha hdb he hpl
theorem pd_d0 (D : Def X.prog X.w X.K X.mg X.base T j x qual st ps n F) (hr : Room k X.A) (hg : Gl X x) (hj : j ≤ k := by decide) (hdb : (x == ("__debug__" : Str)) = false := by decide) : PDe X T Φ B (.Call (.Name x p) [] [] pos) (eCall n F rN) := by
  obtain ⟨f, fd, G, hm, hk, hb, _⟩ := D.ex
  exact pd_call0 G (hr.mono hj) hg hm hk hb hdb
/-! keywords alone -/
def permL {α : Type} (π : List Nat) (l : List α) : List α := π.filterMap fun i => l[i]?
theorem permL_get {R : V → Value → Prop} : ∀ {π : List Nat} {zs : List V} {ws : List Value}, zs.length = ws.length → (∀ (i : Nat) (v : V) (u : Value), zs[i]? = some v → ws[i]? = some u → R v u) → Paired R (permL π zs) (permL π ws)
  | [], _, _, _, _ => .nil
  | i :: π, zs, ws, hl, h => by
    have q := permL_get (π := π) hl h
    unfold permL at q ⊢
    rw [List.filterMap_cons, List.filterMap_cons]
    cases e : zs[i]? with
    | none =>
      rw [List.getElem?_eq_none (show ws.length ≤ i by have := List.getElem?_eq_none_iff.mp e; omega)]
      exact q
    | some v =>
      have hi : i < ws.length := by have := (List.getElem?_eq_some_iff.mp e).1; omega
      rw [List.getElem?_eq_getElem hi]
      exact .cons (h i v _ e (List.getElem?_eq_getElem hi)) q
theorem permL_rp {K : PySem.W.Frag} {H : Hp} : ∀ {π : List Nat} {zs : List V} {ds : List D}, RpA K H zs ds → RpA K H (permL π zs) (permL π ds)
  | [], _, _, _ => rfl
  | i :: π, zs, ds, h => by
    have q := permL_rp (π := π) h
    unfold permL at q ⊢
    rw [List.filterMap_cons, List.filterMap_cons]
    cases e : ds[i]? with
    | none =>
      rw [List.getElem?_eq_none (show zs.length ≤ i by have := List.getElem?_eq_none_iff.mp e; have := h.length; omega)]
      exact q
    | some d =>
      obtain ⟨v, ev, pv⟩ := h.get e
      rw [ev]
      exact ⟨v, _, rfl, pv, q⟩
abbrev PDk (X : Cx) (T : List (Addr × Str)) (Φ : Fx) (B : Nat → Bool) (kws : List Keyword) (m : MA) : Prop := PK X kws (tA X.K T Φ B m)
theorem PK.cons {X : Cx} {es : List Keyword} {t t' : TA} (h : PK X es t) (hc : ∀ σ H Q, t' σ H Q → t σ H Q) : PK X es t' := ⟨fun pos pins s σ H Q I q => h.run pos pins s σ H Q I (hc σ H Q q)⟩
theorem pk_n : PDk X T Φ B [] aN := PK.cons pk_nil fun σ H Q ⟨A, Z, ρ, μ, d, μ', R, hm, k⟩ => by
  cases hm
  exact k [] H (Fw.refl _ _) R rfl
theorem pk_c {kws : List Keyword} {nm : Option Str} {kp : Pos} (ha : PDe X T Φ B a ma) (hr : PDk X T Φ B kws mas) : PDk X T Φ B (⟨nm, a, kp⟩ :: kws) (aC ma mas) := PK.cons (pk_cons ha hr) fun σ H Q ⟨A, Z, ρ, μ, ds, μ', R, hm, k⟩ => by
  obtain ⟨d, μ1, r, h1, h2, rfl⟩ := aC_some hm
  refine ⟨A, Z, ρ, μ, d, μ1, R, h1, fun x H1 f1 R1 p1 => ⟨A, Z, ρ, μ1, r, μ', R1, h2, fun y H2 f2 R2 p2 => ?_⟩⟩
  exact k _ H2 (f1.trans f2) R2 ⟨x, y, rfl, Rp.mono (fw_xt f2) _ _ p1, p2⟩
def eCallK (n : Nat) (F : FD) (π : List Nat) (m : MA) : ME := fun ρ μ => (m ρ μ).bind fun p => if p.1.length == n && (permL π p.1).length == n then (F ((permL π p.1).map .val) []).bind fun q => if q.2.isEmpty then some (q.1, p.2) else none else none
theorem pd_k {kws : List Keyword} {ks : List Str} {π : List Nat} (D : Def X.prog X.w X.K X.mg X.base T j x qual st ps n F) (hr : Room k X.A) (hg : Gl X x) (hkw : PDk X T Φ B kws mas)
    (hb : ∀ (kV doc pm : Value) (an : Option Addr) (cdv ct : Value) (ws : List Value), ws.length = n → bindArgs (PySem.W.fnOf x qual (defArgs st) (defBody st) (defScope st) .none kV doc pm an cdv ct) ⟨[], ks.zip ws⟩ = pure (ps.zip (permL π ws)))
    (hj : j ≤ k := by decide) (hall : (backToKw pos (keywordEach kws X.env)).all (·.1.isSome) = true := by rfl) (hks : (backToKw pos (keywordEach kws X.env)).filterMap (·.1) = ks := by rfl) (hdb : (x == ("__debug__" : Str)) = false := by decide)
    (hpl : ((backTo pos (starEach [] X.env)).any (·.1) || (backToKw pos (keywordEach kws X.env)).any (·.1.isNone)) = false := by rfl) : PDe X T Φ B (.Call (.Name x p) [] kws pos) (eCallK n F π mas) := by
  refine ⟨fun pins s σ H Q I ⟨A, Z, ρ, μ, d, μ', R, hmm, kq⟩ => ?_⟩
  obtain ⟨f, fd, G, hm, hk, _, Fu⟩ := D.ex
  unfold eCallK at hmm
  cases e : mas ρ μ with
  | none => rw [e] at hmm; cases hmm
  | some w =>
    rw [e, Option.bind_some] at hmm
    obtain ⟨ds, μ1⟩ := w
    dsimp only at hmm
    split at hmm
    · rename_i hc
      obtain ⟨hc1, hc2⟩ := Bool.and_eq_true_iff.mp hc
      have hc1 : ds.length = n := beq_iff_eq.mp hc1
      have hc2 : (permL π ds).length = n := beq_iff_eq.mp hc2
      cases e3 : F ((permL π ds).map .val) [] with
      | none => rw [e3] at hmm; cases hmm
      | some q =>
        rw [e3, Option.bind_some] at hmm
        split at hmm
        · rename_i hemp
          cases hmm
          obtain ⟨q1, q2⟩ := q
          have hemp : q2 = [] := List.isEmpty_iff.mp hemp
          subst hemp
          refine wpAny_Call_Name_kw (ld_glob I hg hm ?_ hdb)
          refine PySem.W.callWith_KW0 (h₀ := X.base) I.ok.mod.kin hk hall ?_ hpl
          refine thn (hkw.run pos pins s σ H (fun vs H1 => Fw (Wr B ρ A) H H1 ∧ Rep X.K T Φ A Z σ H1 ρ μ' ∧ RpA X.K (hid H1 (Zw B ρ A Z)) vs ds) I ⟨A, Z, ρ, μ, _, μ', R, e, fun vs H1 f1 R1 p1 => ⟨f1, R1, p1⟩⟩) fun ws s2 ⟨zs, H2, I2, rz, f1, R1, p1⟩ => ⟨I2.kIn, ?_⟩
          rw [hks]
          show wpAny _ _ (call (.ref f) [] (ks.zip ws)) _ _ _
          have hz : ∀ a, Zw B ρ A Z a → ¬ Fr H2 a := R1.trackF
          have pp := permL_rp (π := π) p1
          have RC := rep_vals (Φ := noFx) hz R1.tabs pp
          have lw : ws.length = n := by rw [← rz.length, p1.length, hc1]
          have bt : BindsTo s2 fd ⟨[], ks.zip ws⟩ (ps.zip (permL π ws)) := by
            obtain ⟨oc, od, kV, doc, pm, an, cdv, ct, osl, rfl, _, _⟩ := Fu.ex
            exact .of_eq (hb kV doc pm an cdv ct ws lw)
          have rr : Vals (permL π zs) (permL π ws) := permL_get rz.length fun i v u ev eu => by
            obtain ⟨u', e1, e2⟩ := rz.get ev
            rw [eu] at e1
            cases e1
            exact e2
          have sp : spD X.K T n F (permL π zs) H2 Q E0 := ⟨by rw [pp.length]; exact hc2, [], Zw B ρ A Z, (permL π ds).map .val, [], q1, [], RC, e3, fun v H' f2 R2 p2 => kq v H' (f1.trans (f2.mono fun a h => by simp at h)) (R1.calm (f2.mono fun a h => by simp at h) R2.tabs) (by rw [hid_nil] at p2; exact p2)⟩
          refine wpAny_call (codeAny_mono (G.run X.A X.stack s2 H2 ⟨[], ks.zip ws⟩ (permL π ws) (permL π zs) Q E0 (hr.mono hj) I2.env0 bt rr sp) fun r s' hq => ?_)
          cases r with
          | error e => exact (show False from hq).elim
          | ok fl =>
            cases fl with
            | ret u => exact I2.after hq
            | next => exact False.elim hq
            | brk => exact False.elim hq
            | cont => exact False.elim hq
        · cases hmm
    · cases hmm
theorem o_add (ha : PDe X T Φ B a ma) (hb : PDe X T Φ B b mb) : PDe X T Φ B (.BinOp a .Add b pos) (e2 gAdd ma mb) := pd_op or_add rd_add ha hb
theorem o_sub (ha : PDe X T Φ B a ma) (hb : PDe X T Φ B b mb) : PDe X T Φ B (.BinOp a .Sub b pos) (e2 gSub ma mb) := pd_op op_sub rd_sub ha hb
theorem o_mul (ha : PDe X T Φ B a ma) (hb : PDe X T Φ B b mb) : PDe X T Φ B (.BinOp a .Mult b pos) (e2 gMul ma mb) := pd_op or_mulI rd_mul ha hb
theorem o_div (ha : PDe X T Φ B a ma) (hb : PDe X T Φ B b mb) : PDe X T Φ B (.BinOp a .FloorDiv b pos) (e2 gDiv ma mb) := pd_op op_fdivW rd_div ha hb
theorem o_mod (ha : PDe X T Φ B a ma) (hb : PDe X T Φ B b mb) : PDe X T Φ B (.BinOp a .Mod b pos) (e2 gMod ma mb) := pd_op op_mod rd_mod ha hb
theorem o_pow (ha : PDe X T Φ B a ma) (hb : PDe X T Φ B b mb) : PDe X T Φ B (.BinOp a .Pow b pos) (e2 gPow ma mb) := pd_op op_pow rd_pow ha hb
theorem o_neg (ha : PDe X T Φ B a ma) : PDe X T Φ B (.UnaryOp .USub a pos) (e1 gNeg ma) := pd_un un_neg rd_neg ha
theorem c_lt (ha : PDe X T Φ B a ma) (hb : PDe X T Φ B b mb) : PDe X T Φ B (.Compare a [.Lt] [b] pos) (e2 gLt ma mb) := pd_cmp or_lt rd_lt ha hb
theorem c_le (ha : PDe X T Φ B a ma) (hb : PDe X T Φ B b mb) : PDe X T Φ B (.Compare a [.LtE] [b] pos) (e2 gLe ma mb) := pd_cmp op_le rd_le ha hb
theorem c_gt (ha : PDe X T Φ B a ma) (hb : PDe X T Φ B b mb) : PDe X T Φ B (.Compare a [.Gt] [b] pos) (e2 gGt ma mb) := pd_cmp op_gt rd_gt ha hb
theorem c_ge (ha : PDe X T Φ B a ma) (hb : PDe X T Φ B b mb) : PDe X T Φ B (.Compare a [.GtE] [b] pos) (e2 gGe ma mb) := pd_cmp op_ge rd_ge ha hb
theorem c_eq (hr : Room k X.A) (ha : PDe X T Φ B a ma) (hb : PDe X T Φ B b mb) : PDe X T Φ B (.Compare a [.Eq] [b] pos) (e2 gEq ma mb) := pd_cmp (or_eq40 (hu_of hr)) rd_eq ha hb
theorem c_ne (hr : Room k X.A) (ha : PDe X T Φ B a ma) (hb : PDe X T Φ B b mb) : PDe X T Φ B (.Compare a [.NotEq] [b] pos) (e2 gNe ma mb) := pd_cmp (or_ne40 (hu_of hr)) rd_ne ha hb
theorem c_in (hr : Room k X.A) (ha : PDe X T Φ B a ma) (hb : PDe X T Φ B b mb) (hm : behindInMarks .In b = false := by rfl) : PDe X T Φ B (.Compare a [.In] [b] pos) (e2 gIn ma mb) := pd_cmp (or_in (hu_of hr)) rd_in ha hb hm
theorem c_notin (hr : Room k X.A) (ha : PDe X T Φ B a ma) (hb : PDe X T Φ B b mb) (hm : behindInMarks .NotIn b = false := by rfl) : PDe X T Φ B (.Compare a [.NotIn] [b] pos) (e2 gNotIn ma mb) := pd_cmp (or_notIn (hu_of hr)) rd_notIn ha hb hm
theorem o_ix (ha : PDe X T Φ B a ma) (hb : PDe X T Φ B b mb) (hs : PlainIx b := by intro _ _; rfl) : PDe X T Φ B (.Subscript a b pos) (e2 gIx ma mb) := pd_ix ix_seq rd_ix ha hb hs
end
section
variable {X : Cx} {T : List (Addr × Str)} {Φ : Fx} {B : Nat → Bool} {a b c : Expr} {es : List Expr} {ma mb mc : ME} {mas : MA} {pos p q : Pos}
theorem b_len (hm : X.mg "len" = none) (hg : Gl X "len") (ha : PDa X T Φ B (a :: es) mas) (he : starEach (a :: es) X.env = (false, eval a X.env) :: starEach es X.env := by rfl) (hpl : (backTo pos (starEach es X.env)).any (·.1) = false := by rfl) :
    PDe X T Φ B (.Call (.Name "len" p) (a :: es) [] pos) (eL (gl1 gLen) mas) := pd_callB call_len rl_len hg hm (by decide +kernel) ha (by decide) (by decide) he hpl
theorem b_abs (hm : X.mg "abs" = none) (hg : Gl X "abs") (ha : PDa X T Φ B (a :: es) mas) (he : starEach (a :: es) X.env = (false, eval a X.env) :: starEach es X.env := by rfl) (hpl : (backTo pos (starEach es X.env)).any (·.1) = false := by rfl) :
    PDe X T Φ B (.Call (.Name "abs" p) (a :: es) [] pos) (eL (gl1 gAbs) mas) := pd_callB call_abs rl_abs hg hm (by decide +kernel) ha (by decide) (by decide) he hpl
theorem b_divmod (hm : X.mg "divmod" = none) (hg : Gl X "divmod") (ha : PDa X T Φ B (a :: es) mas) (he : starEach (a :: es) X.env = (false, eval a X.env) :: starEach es X.env := by rfl) (hpl : (backTo pos (starEach es X.env)).any (·.1) = false := by rfl) :
    PDe X T Φ B (.Call (.Name "divmod" p) (a :: es) [] pos) (eL (gl2 gDivmod) mas) := pd_callB call_divmod rl_divmod hg hm (by decide +kernel) ha (by decide) (by decide) he hpl
theorem b_max (hc : X.calm = true) (hm : X.mg "max" = none) (hg : Gl X "max") (ha : PDa X T Φ B (a :: es) mas) (he : starEach (a :: es) X.env = (false, eval a X.env) :: starEach es X.env := by rfl) (hpl : (backTo pos (starEach es X.env)).any (·.1) = false := by rfl) :
    PDe X T Φ B (.Call (.Name "max" p) (a :: es) [] pos) (eL (gl2 gMax2) mas) := pd_callB (call_max2 hc) rl_max2 hg hm (by decide +kernel) ha (by decide) (by decide) he hpl
theorem b_min (hc : X.calm = true) (hm : X.mg "min" = none) (hg : Gl X "min") (ha : PDa X T Φ B (a :: es) mas) (he : starEach (a :: es) X.env = (false, eval a X.env) :: starEach es X.env := by rfl) (hpl : (backTo pos (starEach es X.env)).any (·.1) = false := by rfl) :
    PDe X T Φ B (.Call (.Name "min" p) (a :: es) [] pos) (eL (gl2 gMin2) mas) := pd_callB (call_min2 hc) rl_min2 hg hm (by decide +kernel) ha (by decide) (by decide) he hpl
theorem b_sum (hc : X.calm = true) (hm : X.mg "sum" = none) (hg : Gl X "sum") (ha : PDa X T Φ B (a :: es) mas) (he : starEach (a :: es) X.env = (false, eval a X.env) :: starEach es X.env := by rfl) (hpl : (backTo pos (starEach es X.env)).any (·.1) = false := by rfl) :
    PDe X T Φ B (.Call (.Name "sum" p) (a :: es) [] pos) (eL (gl1 gSum) mas) := pd_callB (cr_sum hc) rl_sum hg hm (by decide +kernel) ha (by decide) (by decide) he hpl
theorem b_all (hc : X.calm = true) (hm : X.mg "all" = none) (hg : Gl X "all") (ha : PDa X T Φ B (a :: es) mas) (he : starEach (a :: es) X.env = (false, eval a X.env) :: starEach es X.env := by rfl) (hpl : (backTo pos (starEach es X.env)).any (·.1) = false := by rfl) :
    PDe X T Φ B (.Call (.Name "all" p) (a :: es) [] pos) (eL (gl1 gAll) mas) := pd_callB (cr_all hc) rl_all hg hm (by decide +kernel) ha (by decide) (by decide) he hpl
theorem b_any (hc : X.calm = true) (hm : X.mg "any" = none) (hg : Gl X "any") (ha : PDa X T Φ B (a :: es) mas) (he : starEach (a :: es) X.env = (false, eval a X.env) :: starEach es X.env := by rfl) (hpl : (backTo pos (starEach es X.env)).any (·.1) = false := by rfl) :
    PDe X T Φ B (.Call (.Name "any" p) (a :: es) [] pos) (eL (gl1 gAny) mas) := pd_callB (cr_any hc) rl_any hg hm (by decide +kernel) ha (by decide) (by decide) he hpl
theorem b_int (hm : X.mg "int" = none) (hg : Gl X "int") (ha : PDa X T Φ B (a :: es) mas) (he : starEach (a :: es) X.env = (false, eval a X.env) :: starEach es X.env := by rfl) (hpl : (backTo pos (starEach es X.env)).any (·.1) = false := by rfl) :
    PDe X T Φ B (.Call (.Name "int" p) (a :: es) [] pos) (eL (gl1 gInt) mas) := pd_callTy call_int1 rl_int hg hm (by decide +kernel) ha (by decide) (by decide) he hpl
theorem b_list (hm : X.mg "list" = none) (hg : Gl X "list") (ha : PDa X T Φ B (a :: es) mas) (he : starEach (a :: es) X.env = (false, eval a X.env) :: starEach es X.env := by rfl) (hpl : (backTo pos (starEach es X.env)).any (·.1) = false := by rfl) :
    PDe X T Φ B (.Call (.Name "list" p) (a :: es) [] pos) (eL (gl1 gList) mas) := pd_callTy call_list_of rl_list hg hm (by decide +kernel) ha (by decide) (by decide) he hpl
theorem b_tuple (hm : X.mg "tuple" = none) (hg : Gl X "tuple") (ha : PDa X T Φ B (a :: es) mas) (he : starEach (a :: es) X.env = (false, eval a X.env) :: starEach es X.env := by rfl) (hpl : (backTo pos (starEach es X.env)).any (·.1) = false := by rfl) :
    PDe X T Φ B (.Call (.Name "tuple" p) (a :: es) [] pos) (eL (gl1 gTuple) mas) := pd_callTy call_tuple_of rl_tuple hg hm (by decide +kernel) ha (by decide) (by decide) he hpl
theorem b_gcd (hm : X.mg "gcd" = some (.builtin "math.gcd")) (hg : Gl X "gcd") (ha : PDa X T Φ B (a :: es) mas) (he : starEach (a :: es) X.env = (false, eval a X.env) :: starEach es X.env := by rfl) (hpl : (backTo pos (starEach es X.env)).any (·.1) = false := by rfl) :
    PDe X T Φ B (.Call (.Name "gcd" p) (a :: es) [] pos) (eL (gl2 gGcd) mas) := pd_callBf cr_gcd rl_gcd hg hm ha (by decide) he hpl
end
end PD
end
section
set_option linter.all false
set_option maxRecDepth 100000
set_option maxHeartbeats 4000000
/-! P15: tests by operators, sequences walked, appends: packed. -/
namespace PD
open PySem PySem.Spec PyProof.Rows L2
def Bs (l : List Nat) : Nat → Bool := fun i => l.contains i
section
variable {X : Cx} {T : List (Addr × Str)} {Φ : Fx} {B : Nat → Bool} {a b tg : Expr} {ma mb : ME} {pos p : Pos} {k : Nat}
theorem t_lt (ha : PDe X T Φ B a ma) (hb : PDe X T Φ B b mb) : PDt X T Φ B (.Compare a [.Lt] [b] pos) (tV (e2 gLt ma mb)) := pt_cmp or_lt rd_lt ha hb
theorem t_le (ha : PDe X T Φ B a ma) (hb : PDe X T Φ B b mb) : PDt X T Φ B (.Compare a [.LtE] [b] pos) (tV (e2 gLe ma mb)) := pt_cmp op_le rd_le ha hb
theorem t_gt (ha : PDe X T Φ B a ma) (hb : PDe X T Φ B b mb) : PDt X T Φ B (.Compare a [.Gt] [b] pos) (tV (e2 gGt ma mb)) := pt_cmp op_gt rd_gt ha hb
theorem t_ge (ha : PDe X T Φ B a ma) (hb : PDe X T Φ B b mb) : PDt X T Φ B (.Compare a [.GtE] [b] pos) (tV (e2 gGe ma mb)) := pt_cmp op_ge rd_ge ha hb
theorem t_eq (hr : Room k X.A) (ha : PDe X T Φ B a ma) (hb : PDe X T Φ B b mb) : PDt X T Φ B (.Compare a [.Eq] [b] pos) (tV (e2 gEq ma mb)) := pt_cmp (or_eq40 (hu_of hr)) rd_eq ha hb
theorem t_ne (hr : Room k X.A) (ha : PDe X T Φ B a ma) (hb : PDe X T Φ B b mb) : PDt X T Φ B (.Compare a [.NotEq] [b] pos) (tV (e2 gNe ma mb)) := pt_cmp (or_ne40 (hu_of hr)) rd_ne ha hb
theorem t_in (hr : Room k X.A) (ha : PDe X T Φ B a ma) (hb : PDe X T Φ B b mb) (hm : behindInMarks .In b = false := by rfl) : PDt X T Φ B (.Compare a [.In] [b] pos) (tV (e2 gIn ma mb)) := pt_cmp (or_in (hu_of hr)) rd_in ha hb hm
theorem t_notin (hr : Room k X.A) (ha : PDe X T Φ B a ma) (hb : PDe X T Φ B b mb) (hm : behindInMarks .NotIn b = false := by rfl) : PDt X T Φ B (.Compare a [.NotIn] [b] pos) (tV (e2 gNotIn ma mb)) := pt_cmp (or_notIn (hu_of hr)) rd_notIn ha hb hm
/-- a list, a tuple, a text walked -/
def anyItems (a : ME) : MA := fun ρ μ => match a ρ μ with
  | some (.list _, _) => lstItems a ρ μ
  | some (.tuple _, _) => tupItems a ρ μ
  | some (.str _, _) => strItems a ρ μ
  | _ => none
theorem pi_any (ha : PDe X T Φ B a ma) : PDi X T Φ B tg a (anyItems ma) := by
  have h1 : PDi X T Φ B tg a (lstItems ma) := pi_l ha
  have h2 : PDi X T Φ B tg a (tupItems ma) := pi_t ha
  have h3 : PDi X T Φ B tg a (strItems ma) := pi_s ha
  refine ⟨fun pins s σ H Q I ⟨A, Z, ρ, μ, d, μ', R, hm, k⟩ => ?_⟩
  unfold anyItems at hm
  split at hm
  · exact h1.run pins s σ H Q I ⟨A, Z, ρ, μ, d, μ', R, hm, k⟩
  · exact h2.run pins s σ H Q I ⟨A, Z, ρ, μ, d, μ', R, hm, k⟩
  · exact h3.run pins s σ H Q I ⟨A, Z, ρ, μ, d, μ', R, hm, k⟩
  · cases hm
theorem s_append (sb : Bool) (i : Nat) {x : Str} {p apos cpos : Pos} (hB : sb = true → B = B0) (ha : PDe X T Φ B a ma) (hN : X.N[i]? = some x := by rfl) (hv : Vis X.env.scope x := by first | exact Or.inl rfl | exact Or.inr (Or.inl rfl) | exact Or.inr (Or.inr rfl)) (hd : (x == ("__debug__" : Str)) = false := by decide) (hcd : (x == ("__classdict__" : Str)) = false := by decide)
    (hst : starEach [a] X.env = (false, eval a X.env) :: starEach [] X.env := by rfl) (hbase : attributeBase (.Name x p) "append" X.env (eval (.Name x p) X.env) = eval (.Name x p) X.env := by rfl)
    (hfew : ((backTo cpos (starEach [a] X.env)).all (fun x => !x.1) && (backToKw cpos (keywordEach [] X.env)).all (fun x => x.1.isSome)
      && decide ([a].length + ([] : List Keyword).length + (if ([] : List Keyword).isEmpty then 0 else 1) < 30)) = true := by rfl)
    (hline : (apos.endLine == cpos.line) = true := by rfl) (hpl : (backTo cpos (starEach [] X.env)).any (·.1) = false := by rfl) (hs : swapsWith (.Call (.Attribute (.Name x p) "append" apos) [a] [] cpos) none pos.line X.env = pure false := by rfl) :
    PDs X T Φ (.Expr (.Call (.Attribute (.Name x p) "append" apos) [a] [] cpos) pos) (sApp sb B i ma) :=
  s_app sb i hB ha hN hv hd hcd hst (pe_bm PySem.F.plainAttrs_list PySem.F.slot_list_append PySem.F.type_list_append mt_append (pe_var hN hv hd hcd) (pa_cons ha pa_nil hst) hbase hfew hline hst hpl) hs
variable {c : Expr} {st : Stmt} {sts sts' : List Stmt} {ms mr : MS} {mt : MT} {g : MG}
theorem x_ret (B : Nat → Bool) (ha : PDe X T Φ B a ma) : PDs X T Φ (.Return (some a) pos) (sRet B ma) := s_ret ha
theorem x_if (B : Nat → Bool) (hc : PDt X T Φ B c mt) (ha : PDss X T Φ sts ms) (hb : PDss X T Φ sts' mr) : PDs X T Φ (.If c sts sts' pos) (sIf mt ms mr) := s_if hc ha hb
theorem x_while (B : Nat → Bool) (hp : PassesOwn (model X.prog X.w) X.A X.env X.xe) (hc : PDt X T Φ B c mt) (hb : PDss X T Φ sts ms) : PDs X T Φ (.While c sts [] pos) (sWhile mt ms) := s_while hp hc hb
theorem x_ex (B : Nat → Bool) (ha : PDe X T Φ B a ma) (hs : swapsWith a none pos.line X.env = pure false := by rfl) : PDs X T Φ (.Expr a pos) (sEx ma) := s_ex ha hs
theorem x_asF (B : Nat → Bool) {tg : Expr} (ha : PDe X T Φ B a ma) (hg : PDg X T Φ tg g) (hs : swapsWithSole [tg] a pos.line X.env = pure false := by rfl) (hw : swappedStores [tg] a X.env = pure none := by rfl) (h1 : (assignEach [tg] X.env).map (·.2) = [assign tg X.env] := by rfl) :
    PDs X T Φ (.Assign [tg] a pos) (sAsF ma g) := s_asF ha hg hs hw h1
theorem x_setF (B : Nat → Bool) (i : Nat) {x : Str} {pos' : Pos} (hN : X.N.Nodup) (ha : PDe X T Φ B a ma) (hi : X.N[i]? = some x := by rfl) (hx : Loc X.env.scope x := by first | exact Or.inl rfl | exact Or.inr rfl) (hs : swapsWith a (some (.Name x pos')) pos.line X.env = pure false := by rfl)
    (hf : X.fn x = true ∨ X.env.scope.names.lookup x = some .local := by first | exact .inl rfl | exact .inr rfl) : PDs X T Φ (.Assign [.Name x pos'] a pos) (sAsF ma (gN i)) := s_setF i hN ha hi hx hs hf
theorem x_append (B : Nat → Bool) (sb : Bool) (i : Nat) {x : Str} {p apos cpos : Pos} (hB : sb = true → B = B0) (ha : PDe X T Φ B a ma) (hN : X.N[i]? = some x := by rfl) (hv : Vis X.env.scope x := by first | exact Or.inl rfl | exact Or.inr (Or.inl rfl) | exact Or.inr (Or.inr rfl)) (hd : (x == ("__debug__" : Str)) = false := by decide) (hcd : (x == ("__classdict__" : Str)) = false := by decide)
    (hst : starEach [a] X.env = (false, eval a X.env) :: starEach [] X.env := by rfl) (hbase : attributeBase (.Name x p) "append" X.env (eval (.Name x p) X.env) = eval (.Name x p) X.env := by rfl)
    (hfew : ((backTo cpos (starEach [a] X.env)).all (fun x => !x.1) && (backToKw cpos (keywordEach [] X.env)).all (fun x => x.1.isSome)
      && decide ([a].length + ([] : List Keyword).length + (if ([] : List Keyword).isEmpty then 0 else 1) < 30)) = true := by rfl)
    (hline : (apos.endLine == cpos.line) = true := by rfl) (hpl : (backTo cpos (starEach [] X.env)).any (·.1) = false := by rfl) (hs : swapsWith (.Call (.Attribute (.Name x p) "append" apos) [a] [] cpos) none pos.line X.env = pure false := by rfl) :
    PDs X T Φ (.Expr (.Call (.Attribute (.Name x p) "append" apos) [a] [] cpos) pos) (sApp sb B i ma) := s_append sb i hB ha hN hv hd hcd hst hbase hfew hline hpl hs
end
end PD
end
section
set_option linter.all false
set_option maxRecDepth 100000
set_option maxHeartbeats 4000000
/-! P16: data read off the heap: orders of nested data, sorted. -/
namespace PD
open PySem PySem.Spec PyProof.Rows L2 PySem.W

mutual
def seqD : D → Bool
  | .none => true
  | .bool _ => true
  | .int _ => true
  | .str _ => true
  | .list ds => seqA ds
  | .tuple ds => seqA ds
  | .dict _ => false
def seqA : List D → Bool
  | [] => true
  | d :: ds => seqD d && seqA ds
end
section
variable {X : Cx} {pins : List (Addr × Obj)} {σ : L2.St} {H : Hp} {s : Shared}
mutual
theorem reads_rp (I : Inv X pins σ H s) : ∀ (d : D) (v : V) (u : Value), seqD d = true → Rp X.K H v d → RelV v u → ∃ as, Reads s.heap u d as
  | .none, _, _, _, h, r => by cases (show _ = V.non from h); cases r; exact ⟨_, .none⟩
  | .bool b, _, _, _, h, r => by cases (show _ = V.bl b from h); cases r; exact ⟨_, .bool b⟩
  | .int i, _, _, _, h, r => by cases (show _ = V.int i from h); obtain ⟨t, rfl⟩ := r; exact ⟨_, .int i t⟩
  | .str x, _, _, _, h, r => by cases (show _ = V.str x from h); obtain ⟨t, rfl⟩ := r; exact ⟨_, .str x t⟩
  | .list ds, _, _, hs, ⟨a, xs, e, h1, h2⟩, r => by
    subst e
    cases r
    obtain ⟨its, rv, pl, _⟩ := I.list (.inl h1)
    obtain ⟨o, ho, hc, n, hd⟩ := pl.isList
    obtain ⟨as, ra⟩ := readsA_rp I ds xs its (by simpa [seqD] using hs) h2 rv
    exact ⟨_, .list ho hc hd (by simpa using ra)⟩
  | .tuple ds, _, _, hs, ⟨a, xs, e, h1, h2⟩, r => by
    subst e
    cases r
    obtain ⟨its, rv, ⟨o, ho, hc, n, hd⟩, _⟩ := I.tuple h1.sq
    obtain ⟨as, ra⟩ := readsA_rp I ds xs its (by simpa [seqD] using hs) h2 rv
    exact ⟨_, .tuple ho hc hd (by simpa using ra)⟩
  | .dict _, _, _, hs, _, _ => by simp [seqD] at hs
theorem readsA_rp (I : Inv X pins σ H s) : ∀ (ds : List D) (vs : List V) (us : List Value), seqA ds = true → RpA X.K H vs ds → Vals vs us → ∃ as, ReadsAll s.heap us ds as
  | [], _, _, _, h, r => by rw [show _ = [] from h] at r; cases r; exact ⟨_, .nil⟩
  | d :: ds, _, _, hs, ⟨v, vr, e, h1, h2⟩, r => by
    subst e
    cases r with
    | cons r1 r2 =>
      have hs : seqD d = true ∧ seqA ds = true := by simpa [seqA] using hs
      obtain ⟨as, ra⟩ := reads_rp I d v _ hs.1 h1 r1
      obtain ⟨bs, rb⟩ := readsA_rp I ds vr _ hs.2 h2 r2
      exact ⟨_, .cons ra rb⟩
end
end
/-! ### orders -/
def okCmp (d e : D) : Bool := seqD d && (seqD e && (alike d e && (!isNoneD d && decide (d.depth ≤ 40))))
theorem okCmp_of {d e : D} (h : okCmp d e = true) : seqD d = true ∧ seqD e = true ∧ alike d e = true ∧ d ≠ .none ∧ d.depth ≤ 40 := by
  unfold okCmp at h
  simp only [Bool.and_eq_true, decide_eq_true_eq, Bool.not_eq_true'] at h
  obtain ⟨h1, h2, h3, h4, h5⟩ := h
  exact ⟨h1, h2, h3, fun z => by rw [z] at h4; exact absurd h4 (by decide), h5⟩
def rCmpD (K : PySem.W.Frag) (f : D → D → Bool) : R2 := fun x y H Q => ∃ d e, Rp K H x d ∧ Rp K H y e ∧ okCmp d e = true ∧ Q (.bl (f d e)) H
def gCmpD (f : D → D → Bool) : G2 := fun d e => if okCmp d e then some (.bool (f d e)) else none
section
variable {X : Cx}
theorem or_ltD (hu : X.A.units + 64 < cLine) : OpR X (compareOp .Lt) (rCmpD X.K dataLt) := by
  intro pins s σ H x y v u Q I rx ry h
  obtain ⟨d, e, h1, h2, hk, q⟩ := h
  obtain ⟨k1, k2, k3, k4, k5⟩ := okCmp_of hk
  obtain ⟨as, ra⟩ := reads_rp I d x v k1 h1 rx
  obtain ⟨bs, rb⟩ := reads_rp I e y u k2 h2 ry
  exact lt_data ra rb k3 k4 (by omega) ⟨.bl _, H, I, rfl, q⟩
theorem or_gtD (hu : X.A.units + 64 < cLine) : OpR X (compareOp .Gt) (rCmpD X.K fun d e => dataLt e d) := by
  intro pins s σ H x y v u Q I rx ry h
  obtain ⟨d, e, h1, h2, hk, q⟩ := h
  obtain ⟨k1, k2, k3, k4, k5⟩ := okCmp_of hk
  obtain ⟨as, ra⟩ := reads_rp I d x v k1 h1 rx
  obtain ⟨bs, rb⟩ := reads_rp I e y u k2 h2 ry
  exact gt_data ra rb k3 k4 (by omega) ⟨.bl _, H, I, rfl, q⟩
theorem or_leD (hu : X.A.units + 64 < cLine) : OpR X (compareOp .LtE) (rCmpD X.K fun d e => !dataLt e d) := by
  intro pins s σ H x y v u Q I rx ry h
  obtain ⟨d, e, h1, h2, hk, q⟩ := h
  obtain ⟨k1, k2, k3, k4, k5⟩ := okCmp_of hk
  obtain ⟨as, ra⟩ := reads_rp I d x v k1 h1 rx
  obtain ⟨bs, rb⟩ := reads_rp I e y u k2 h2 ry
  exact le_data ra rb k3 k4 (by omega) ⟨.bl _, H, I, rfl, q⟩
theorem or_geD (hu : X.A.units + 64 < cLine) : OpR X (compareOp .GtE) (rCmpD X.K fun d e => !dataLt d e) := by
  intro pins s σ H x y v u Q I rx ry h
  obtain ⟨d, e, h1, h2, hk, q⟩ := h
  obtain ⟨k1, k2, k3, k4, k5⟩ := okCmp_of hk
  obtain ⟨as, ra⟩ := reads_rp I d x v k1 h1 rx
  obtain ⟨bs, rb⟩ := reads_rp I e y u k2 h2 ry
  exact ge_data ra rb k3 k4 (by omega) ⟨.bl _, H, I, rfl, q⟩
end
theorem rd_cmpD {K : PySem.W.Frag} {f : D → D → Bool} : RD K (rCmpD K f) (gCmpD f) := fun H Z x y d1 d2 d Q hz h1 h2 hg k => by
  unfold gCmpD at hg
  split at hg
  · rename_i hk
    cases hg
    exact ⟨d1, d2, hidRp h1, hidRp h2, hk, k _ H (Same.refl H) rfl⟩
  · cases hg
/-! ### sorted -/
def sortD (ds : List D) : List D := ds.mergeSort (dataLe false id)
def sortableB (ds : List D) : Bool := (ds.all fun d => match d with
  | .tuple (_ :: _) => true
  | _ => false) || ds.all fun d => match d with
  | .none => false
  | .tuple _ => false
  | _ => true
def sortOk (ds : List D) : Bool := seqA ds && ((ds.all fun d => ds.all fun e => alike d e) && (sortableB ds && ((ds.all fun d => decide (d.depth ≤ 40)) && decide (ds.length ≤ sizeLine))))
theorem sortOk_of {ds : List D} (h : sortOk ds = true) : seqA ds = true ∧ AllAlike ds ∧ Sortable ds ∧ (∀ d ∈ ds, d.depth ≤ 40) ∧ ds.length ≤ sizeLine := by
  unfold sortOk at h
  simp only [Bool.and_eq_true, decide_eq_true_eq, List.all_eq_true] at h
  obtain ⟨h1, h2, h3, h4, h5⟩ := h
  refine ⟨h1, fun d hd e he => h2 d hd e he, ?_, h4, h5⟩
  unfold sortableB at h3
  rcases Bool.or_eq_true_iff.mp h3 with h3 | h3
  · refine .inl fun d hd => ?_
    have q := List.all_eq_true.mp h3 d hd
    split at q
    · exact ⟨_, _, rfl⟩
    · cases q
  · refine .inr fun d hd => ?_
    have q := List.all_eq_true.mp h3 d hd
    split at q
    · cases q
    · cases q
    · rename_i n1 n2
      exact ⟨fun e => n1 e, fun xs e => n2 xs e⟩
theorem seqA_mem : ∀ {ds : List D} {d : D}, seqA ds = true → d ∈ ds → seqD d = true
  | [], _, _, h => by simp at h
  | x :: ds, d, hs, h => by
    have hs : seqD x = true ∧ seqA ds = true := by simpa [seqA] using hs
    rcases List.mem_cons.mp h with e | h
    · rw [e]; exact hs.1
    · exact seqA_mem hs.2 h
def rSortD (K : PySem.W.Frag) : List V → Hp → VK → Prop := fun vs H Q => ∃ (a : Addr) (xs : List V) (ds : List D) (Pd : V → D → Prop), vs = [.ref a] ∧ SqL K H a xs ∧ EachIs Pd xs ds ∧ (∀ v d, Pd v d → Rp K H v d) ∧ sortOk ds = true ∧
  ∀ p ys, H p = none → EachIs Pd ys (sortD ds) → Q (.ref p) (upd H p (.lst ys))
theorem each_vals {Pd : V → D → Prop} : ∀ {us : List Value} {ds : List D}, EachIs (fun u d => ∃ v, RelV v u ∧ Pd v d) us ds → ∃ ys, Vals ys us ∧ EachIs Pd ys ds
  | _, _, .nil => ⟨[], .nil, .nil⟩
  | _, _, .cons ⟨v, r, p⟩ t => by
    obtain ⟨ys, h1, h2⟩ := each_vals t
    exact ⟨v :: ys, .cons r h1, .cons p h2⟩
theorem vals_each {Pd : V → D → Prop} : ∀ {us : List Value} {xs : List V} {ds : List D}, Vals xs us → EachIs Pd xs ds → EachIs (fun u d => ∃ v, RelV v u ∧ Pd v d) us ds
  | _, _, _, .nil, .nil => .nil
  | _, _, _, .cons r t, .cons p q => .cons ⟨_, r, p⟩ (vals_each t q)
theorem cr_sortD {X : Cx} (hu : X.A.units + 64 < cLine) : CallR X (.builtin "sorted") (rSortD X.K) := by
  intro pins s σ H vs us Q I r h
  obtain ⟨a, xs, ds, Pd, rfl, hs, he, hp, hk, q⟩ := h
  obtain ⟨k1, k2, k3, k4, k5⟩ := sortOk_of hk
  obtain ⟨its, rv, pl, hz⟩ := I.list hs
  rw [Vals.ref1 r]
  have e1 : EachIs (fun u d => ∃ v, RelV v u ∧ Pd v d) its ds := vals_each rv he
  have e2 : EachIs (fun u d => (∃ v, RelV v u ∧ Pd v d) ∧ d ∈ ds) its ds := each_mem e1
  refine sorted_data (enc := id) (bs := ds) pl.isList e1 (e2.mono fun u d ⟨⟨v, r1, p1⟩, hm⟩ => reads_rp I d v u (seqA_mem k1 hm) (hp v d p1) r1) (by simpa using k2) (by simpa using k3) k5 (fun d hd => by have := k4 d hd; show X.A.units + 2 + d.depth < cLine; omega) fun out hl ho => ?_
  obtain ⟨ys, r2, e3⟩ := each_vals ho
  obtain ⟨ep, he'⟩ := PyProof.Rows.sortedAll_at s.heap its (List.toArray out)
  have hlen : ys.length ≤ sizeLine := by rw [r2.length, hl]; exact k5
  exact ⟨.ref _, upd H (s.heap.objs.size + 1) (.lst ys), I.laid (t' := s.toks) (fun _ _ => PyProof.Rows.sortedAll_old) (Nat.le_succ _) ⟨hlen, out, ep, r2, he'⟩, rfl, q _ ys (I.hok.fresh (Nat.le_succ _)) e3⟩
def gSort : G1
  | .list ds => if sortOk ds then some (.list (sortD ds)) else none
  | _ => none
theorem each_rp {K : PySem.W.Frag} {H : Hp} : ∀ {xs : List V} {ds : List D}, RpA K H xs ds → EachIs (Rp K H) xs ds
  | _, [], h => by rw [show _ = [] from h]; exact .nil
  | _, d :: ds, ⟨v, vr, e, h1, h2⟩ => by subst e; exact .cons h1 (each_rp h2)
theorem rp_each {K : PySem.W.Frag} {H : Hp} : ∀ {xs : List V} {ds : List D}, EachIs (Rp K H) xs ds → RpA K H xs ds
  | _, _, .nil => rfl
  | _, _, .cons p t => ⟨_, _, rfl, p, rp_each t⟩
theorem rl_sortD {K : PySem.W.Frag} : RL K (rSortD K) (gl1 gSort) := rl1 fun H Z x d1 d Q hz h hg k => by
  unfold gSort at hg
  split at hg
  · rename_i ds
    split at hg
    · rename_i hk
      cases hg
      obtain ⟨a, xs, rfl, h1, h2⟩ := h
      refine ⟨a, xs, ds, Rp K (hid H Z), rfl, .inl (hid_rd h1).1, each_rp h2, fun v d hv => hidRp hv, hk, fun p ys hp e => ?_⟩
      exact k _ _ (same_upd hp) (rp_new_lst hz hp (rp_each e))
    · cases hg
  · cases hg
end PD
end
section
set_option linter.all false
set_option maxRecDepth 100000
set_option maxHeartbeats 4000000
/-! P17: tuple(zip(xs, ys)), two lists. -/
namespace PySem
open Sem (wp)
namespace PDZ
open PySem.W
section
variable {prog : Program} {w : World} {R : Result → Shared → Prop} {xs ys : Array Value} {z TI TO i1 i2 l1 l2 : Addr}
/-- the zip z after i items, S: a list that is no part of it -/
structure ZSt (z TI TO i1 i2 l1 l2 : Addr) (xs ys : Array Value) (S : Addr) (i : Nat) (h : Heap) : Prop where
  ti : IsPair h TI (.ref i1) (.ref i2)
  a1 : h.IsListIter i1 l1 i
  a2 : h.IsListIter i2 l2 i
  b1 : h.IsList l1 xs
  b2 : h.IsList l2 ys
  too : ∃ u, h.get? TO = some u
  zz : (IsZip h z TI TO .none ∧ ∃ a b, IsPair h TO a b) ∨ ∃ T f oT, IsZipHeld h z TI TO T f ∧ h.get? T = some oT ∧ T ≠ z ∧ T ≠ i1 ∧ T ≠ i2 ∧ T ≠ S
structure Off (S z TI TO i1 i2 l1 l2 : Addr) : Prop where
  z : S ≠ z
  ti : S ≠ TI
  to : S ≠ TO
  i1 : S ≠ i1
  i2 : S ≠ i2
  l1 : S ≠ l1
  l2 : S ≠ l2
theorem ZSt.keep {S : Addr} {i : Nat} {h h' : Heap} (o : Off S z TI TO i1 i2 l1 l2) (st : ZSt z TI TO i1 i2 l1 l2 xs ys S i h) (hk : ∀ b u, b ≠ S → h.get? b = some u → h'.get? b = some u) : ZSt z TI TO i1 i2 l1 l2 xs ys S i h' := by
  refine ⟨hk _ _ o.ti.symm st.ti, st.a1.at fun u e => hk _ u o.i1.symm e, st.a2.at fun u e => hk _ u o.i2.symm e, st.b1.at fun u e => hk _ u o.l1.symm e, st.b2.at fun u e => hk _ u o.l2.symm e, st.too.imp fun u e => hk _ u o.to.symm e, ?_⟩
  rcases st.zz with ⟨q, a, b, t⟩ | ⟨T, f, oT, q, hT, r1, r2, r3, r4⟩
  · exact .inl ⟨hk _ _ o.z.symm q, a, b, hk _ _ o.to.symm t⟩
  · exact .inr ⟨T, f, oT, hk _ _ o.z.symm q, hk _ _ r4 hT, r1, r2, r3, r4⟩
/-- what the list holds so far -/
def Got (xs ys : Array Value) (h : Heap) (acc : Array Value) (i : Nat) (wr : List Addr) (lo : Nat) : Prop := ∃ Ts : List Addr, Ts.length = i ∧ acc.toList = Ts.map Value.ref ∧ Ts.Nodup ∧ ∀ (j : Nat) (T : Addr), Ts[j]? = some T → ∃ x y, xs[j]? = some x ∧ ys[j]? = some y ∧ IsPair h T x y ∧ T ∉ wr ∧ lo ≤ T
theorem Got.size {h : Heap} {acc : Array Value} {i lo : Nat} {wr : List Addr} (g : Got xs ys h acc i wr lo) : acc.size = i := by
  obtain ⟨Ts, a, b, _⟩ := g
  rw [← Array.length_toList, b, List.length_map, a]
theorem Got.keep {h h' : Heap} {acc : Array Value} {i lo : Nat} {wr : List Addr} (g : Got xs ys h acc i wr lo) (hk : ∀ b u, b ∉ wr → h.get? b = some u → h'.get? b = some u) : Got xs ys h' acc i wr lo := by
  obtain ⟨Ts, a, b, c, d⟩ := g
  exact ⟨Ts, a, b, c, fun j T e => let ⟨x, y, q1, q2, q3, q4, q5⟩ := d j T e; ⟨x, y, q1, q2, hk _ _ q4 q3, q4, q5⟩⟩
theorem Got.push {h : Heap} {acc : Array Value} {i lo : Nat} {wr : List Addr} {T : Addr} {x y : Value} (g : Got xs ys h acc i wr lo) (hn : ∀ T' u, h.get? T' = some u → T' ≠ T → True) (hx : xs[i]? = some x) (hy : ys[i]? = some y) (hT : IsPair h T x y) (hw : T ∉ wr) (hlo : lo ≤ T) (hnew : ∀ (j : Nat) (T' : Addr), acc.toList[j]? = some (Value.ref T') → T' ≠ T) :
    Got xs ys h (acc.push (.ref T)) (i + 1) wr lo := by
  obtain ⟨Ts, a, b, c, d⟩ := g
  refine ⟨Ts ++ [T], by simp [a], by simp [b], ?_, fun j T' e => ?_⟩
  · rw [List.nodup_append]
    refine ⟨c, by simp, fun u hu v hv e => ?_⟩
    rw [show v = T by simpa using hv] at e
    obtain ⟨j, hj⟩ := List.mem_iff_getElem?.mp hu
    exact hnew j u (by rw [b, List.getElem?_map, hj]; rfl) e
  · by_cases hj : j < Ts.length
    · rw [List.getElem?_append_left hj] at e
      exact d j T' e
    · rw [List.getElem?_append_right (by omega)] at e
      have e0 : j - Ts.length = 0 := by
        by_cases z : j - Ts.length = 0
        · exact z
        · rw [List.getElem?_eq_none (by simp; omega)] at e; cases e
      rw [e0] at e
      have ej : j = i := by omega
      cases e
      rw [ej]
      exact ⟨x, y, hx, hy, hT, hw, hlo⟩
theorem loop_zip {A : Around} {n lo : Nat} {S : Addr} {res : Value} (D : ZipApart z TI TO i1 i2 l1 l2) (o : Off S z TI TO i1 i2 l1 l2) (hn : n ≤ sizeLine) (hxs : xs.size = n) (hys : ys.size = n) (hh : A.handled = none) :
    ∀ (k i : Nat) (s : Shared) (acc : Array Value) (c : Nat), n - i = k → i ≤ n → ZSt z TI TO i1 i2 l1 l2 xs ys S i s.heap → s.heap.get? S = some { cls := .type "list", dict := none, data := .seq acc c, slots := #[] } → Got xs ys s.heap acc i [S, z, TO, i1, i2] lo → lo ≤ s.heap.objs.size →
    (∀ h' acc' c', (∀ b u, b ∉ [S, z, TO, i1, i2] → s.heap.get? b = some u → h'.get? b = some u) → h'.get? S = some { cls := .type "list", dict := none, data := .seq acc' c', slots := #[] } → Got xs ys h' acc' n [S, z, TO, i1, i2] lo → R (.ok (.ret res)) { s with heap := h' }) →
    codeAny (model prog w) A (.builtin "list.extend.loop" ⟨[.ref S, .ref z, res], []⟩) R s := by
  intro k
  induction k with
  | zero =>
    intro i s acc c hk hi st hS g hlo hR
    obtain rfl : i = n := by omega
    refine codeAny_builtin F.entry_extend_loop ?_
    rw [Around.under_plainId F.plain_extend_loop _]
    show wpAny _ A.in1 (pyNext (.ref z) >>= _) _ _ s
    have fin : ∀ h', (∀ c o, c ≠ z → c ≠ TO → c ≠ i1 → c ≠ i2 → s.heap.get? c = some o → h'.get? c = some o) → R (.ok (.ret res)) { s with heap := h' } := fun h' hk => by
      have kp : ∀ b u, b ∉ [S, z, TO, i1, i2] → s.heap.get? b = some u → h'.get? b = some u := fun b u hb e => by
        simp only [List.mem_cons, List.not_mem_nil, or_false, not_or] at hb
        exact hk b u hb.2.1 hb.2.2.1 hb.2.2.2.1 hb.2.2.2.2 e
      exact hR h' acc c kp (hk S _ o.z o.to o.i1 o.i2 hS) (g.keep kp)
    have hend : xs[i]? = none ∨ ys[i]? = none := .inl (Array.getElem?_eq_none (by omega))
    rcases st.zz with ⟨q, a, b, t⟩ | ⟨T, f, oT, q, hT, r1, r2, r3, r4⟩
    · exact wpAny_bind (wpAny_pyNext_zip_end (A := A.in1) hh D q st.ti t st.a1 st.a2 st.b1 st.b2 hend fun h' hk => wpAny_pure (fin h' hk))
    · exact wpAny_bind (wpAny_pyNext_zip_end_held (A := A.in1) hh D q hT st.ti st.a1 st.a2 st.b1 st.b2 hend fun h' hk => wpAny_pure (fin h' fun c o c1 _ c3 c4 e => hk c o c1 c3 c4 e))
  | succ k ih =>
    intro i s acc c hk hi st hS g hlo hR
    have hlt : i < n := by omega
    refine codeAny_builtin F.entry_extend_loop ?_
    rw [Around.under_plainId F.plain_extend_loop _]
    show wpAny _ A.in1 (pyNext (.ref z) >>= _) _ _ s
    have ex := Array.getElem?_eq_getElem (xs := xs) (i := i) (by omega)
    have ey := Array.getElem?_eq_getElem (xs := ys) (i := i) (by omega)
    have lt : ∀ {c u}, s.heap.get? c = some u → s.heap.objs.size ≠ c := fun e => Nat.ne_of_gt (Heap.lt_size e)
    have nz : s.heap.objs.size ≠ z := by rcases st.zz with ⟨q, _⟩ | ⟨_, _, _, q, _⟩ <;> exact lt q
    have n1 : s.heap.objs.size ≠ i1 := let ⟨_, e, _⟩ := st.a1; lt e
    have n2 : s.heap.objs.size ≠ i2 := let ⟨_, e, _⟩ := st.a2; lt e
    have nS : s.heap.objs.size ≠ S := lt hS
    have rest : ∀ h', h'.objs.size = s.heap.objs.size + 1 → s.heap.objs.size ≠ TO → ZSt z TI TO i1 i2 l1 l2 xs ys S (i + 1) h' → IsPair h' s.heap.objs.size xs[i] ys[i] → (∀ c o, c ≠ z → c ≠ TO → c ≠ i1 → c ≠ i2 → s.heap.get? c = some o → h'.get? c = some o) →
        wpAny (model prog w) A.in1 (updateSeq S (·.push (.ref s.heap.objs.size)) >>= fun _ => again (.builtin "list.extend.loop" ⟨[.ref S, .ref z, res], []⟩)) (fun f s' => match f with | .done fl => R (.ok fl) s' | .again c => c.quiet = true ∧ codeAny (model prog w) A c R s') (fun e s' => R (.error e) s') { s with heap := h' } := fun h' hsz nTO st' hT hk => by
      have hS' := hk S _ o.z o.to o.i1 o.i2 hS
      have kp : ∀ b u, b ∉ [S, z, TO, i1, i2] → s.heap.get? b = some u → h'.get? b = some u := fun b u hb e => by
        simp only [List.mem_cons, List.not_mem_nil, or_false, not_or] at hb
        exact hk b u hb.2.1 hb.2.2.1 hb.2.2.2.1 hb.2.2.2.2 e
      have hnew : s.heap.objs.size ∉ [S, z, TO, i1, i2] := by
        simp only [List.mem_cons, List.not_mem_nil, or_false, not_or]
        exact ⟨nS, nz, nTO, n1, n2⟩
      refine wpAny_bind ?_
      refine wpAny_updateSeq hS' rfl (wpAny_pure ⟨plainId_quiet F.plain_extend_loop _, ih (i + 1) _ (acc.push (.ref s.heap.objs.size)) _ (by omega) hlt (st'.keep o fun b u hb e => ?_) (Heap.get?_update_self _ hS' rfl) ?_ (by show lo ≤ (h'.update _ _).objs.size; rw [Heap.size_update, hsz]; omega) fun h'' acc' c' hk2 hS2 g2 => ?_⟩)
        (by rw [g.size]; omega) (by show (acc.push (.ref s.heap.objs.size)).size ≤ sizeLine + 1; rw [Array.size_push, g.size]; omega)
      · exact (Heap.get?_update_other _ _ (Ne.symm hb)).trans e
      · have hnw : ∀ (j : Nat) (T' : Addr), acc.toList[j]? = some (Value.ref T') → T' ≠ s.heap.objs.size := fun j T' e => by
          obtain ⟨Ts, _, b, _, d⟩ := g
          rw [b, List.getElem?_map] at e
          cases ej : Ts[j]? with
          | none => rw [ej] at e; cases e
          | some T'' =>
            rw [ej] at e
            cases e
            obtain ⟨_, _, _, _, q3, _⟩ := d j T' ej
            exact (lt q3).symm
        refine ((g.keep kp).push (fun _ _ _ _ => trivial) ex ey hT hnew hlo hnw).keep fun b u hb e => ?_
        exact (Heap.get?_update_other _ _ (fun q : S = b => hb (by rw [← q]; exact List.mem_cons_self))).trans e
      · refine hR h'' acc' c' (fun b u hb e => hk2 b u hb ?_) hS2 g2
        exact (Heap.get?_update_other _ _ (fun q : S = b => hb (by rw [← q]; exact List.mem_cons_self))).trans (kp b u hb e)
    rcases st.zz with ⟨q, a, b, t⟩ | ⟨T, f, oT, q, hT, r1, r2, r3, r4⟩
    · refine wpAny_bind (wpAny_pyNext_zip_item (A := A.in1) D q st.ti t st.a1 st.a2 st.b1 st.b2 ex ey fun h' a1 a2 a3 a4 a5 a6 hk => ?_)
      exact rest h' a6 (lt t) ⟨hk _ _ D.TIz D.TITO D.TIi1 D.TIi2 st.ti, a3, a4, st.b1.at fun u e => hk _ u D.l1z D.l1TO D.l1i1 D.l1i2 e, st.b2.at fun u e => hk _ u D.l2z D.l2TO D.l2i1 D.l2i2 e, ⟨_, a2⟩, .inr ⟨s.heap.objs.size, false, _, a1, a5, nz, n1, n2, nS⟩⟩ a5 hk
    · refine wpAny_bind (wpAny_pyNext_zip_item_held (A := A.in1) D q hT st.ti st.a1 st.a2 st.b1 st.b2 ex ey fun h' a1 a3 a4 a5 a6 hk => ?_)
      obtain ⟨u0, hu0⟩ := st.too
      exact rest h' a6 (lt hu0) ⟨hk _ _ D.TIz D.TIi1 D.TIi2 st.ti, a3, a4, st.b1.at fun u e => hk _ u D.l1z D.l1i1 D.l1i2 e, st.b2.at fun u e => hk _ u D.l2z D.l2i1 D.l2i2 e, ⟨u0, hk _ _ D.TOz D.TOi1 D.TOi2 hu0⟩, .inr ⟨T, true, oT, a1, hk _ _ r1 r2 r3 hT, r1, r2, r3, r4⟩⟩ a5 fun c u c1 _ c3 c4 e => hk c u c1 c3 c4 e
theorem nolen_zip : typeLookup (.type "zip") "__len__" = pure none := by rw [typeLookup_type, builtinLookup_eq_fast]; kernel_rfl
theorem nohint_zip : typeLookup (.type "zip") "__length_hint__" = pure none := by rw [typeLookup_type, builtinLookup_eq_fast]; kernel_rfl
theorem collect_zip {A : Around} {n lo : Nat} {s : Shared} {Q : List Value → Shared → Prop} {E : Value → Shared → Prop} (D : ZipApart z TI TO i1 i2 l1 l2) (hn : n ≤ sizeLine) (hxs : xs.size = n) (hys : ys.size = n) (hh : A.handled = none)
    (hz : IsZip s.heap z TI TO .none) (hTI : IsPair s.heap TI (.ref i1) (.ref i2)) (hTO : ∃ a b, IsPair s.heap TO a b) (h1 : s.heap.IsListIter i1 l1 0) (h2 : s.heap.IsListIter i2 l2 0) (hl1 : s.heap.IsList l1 xs) (hl2 : s.heap.IsList l2 ys) (hlo : lo ≤ s.heap.objs.size)
    (hQ : ∀ h' acc, (∀ b u, b ∉ [z, TO, i1, i2] → s.heap.get? b = some u → h'.get? b = some u) → Got xs ys h' acc n [] lo → Q acc.toList { s with heap := h' }) : wpAny (model prog w) A (collect (.ref z)) Q E s := by
  have lt : ∀ {c u}, s.heap.get? c = some u → s.heap.objs.size ≠ c := fun e => Nat.ne_of_gt (Heap.lt_size e)
  obtain ⟨ta, tb, hTO⟩ := hTO
  have o : Off s.heap.objs.size z TI TO i1 i2 l1 l2 := ⟨lt hz, lt hTI, lt hTO, let ⟨_, e, _⟩ := h1; lt e, let ⟨_, e, _⟩ := h2; lt e, let ⟨_, e, _⟩ := hl1; lt e, let ⟨_, e, _⟩ := hl2; lt e⟩
  unfold collect
  refine wpAny_bind (wpAny_runValue (codeAny_builtin F.entry_proto_collect ?_))
  rw [Around.under_plainId F.plain_proto_collect _]
  show wpAny _ A.in1 (newList [] >>= fun l => again (.builtin "list.__iadd__" ⟨[l, .ref z], []⟩)) _ _ s
  refine wpAny_bind (wpAny_newObj_type ?_)
  refine wpAny_pure ⟨plainId_quiet F.plain_list_iadd _, codeAny_builtin F.entry_list_iadd ?_⟩
  rw [Around.under_plainId F.plain_list_iadd _]
  generalize hp : s.heap.push { cls := .type "list", data := .seq ([] : List Value).toArray } = h₁
  have k1 : ∀ b u, s.heap.get? b = some u → h₁.get? b = some u := fun b u e => by rw [← hp]; exact Heap.get?_push_of_some _ e
  have hS₁ : h₁.get? s.heap.objs.size = some { cls := .type "list", data := .seq ([] : List Value).toArray } := by rw [← hp]; exact Heap.get?_push_size _ rfl
  have hT : Shared.TypeIs { s with heap := h₁ } (.ref z) "zip" := ⟨_, k1 _ _ hz, rfl⟩
  show wpAny _ A.in1 (Builtin.List.listExtendWith (.ref s.heap.objs.size) (.ref z) (.ref s.heap.objs.size)) _ _ _
  unfold Builtin.List.listExtendWith
  refine wpAny_bind (wpAny_typeOf hT ?_)
  have e1 : Builtin.List.listSameRef (.ref s.heap.objs.size) (.ref z) = false := by simp [Builtin.List.listSameRef, o.z]
  have e2 : (Value.type "zip" == Value.type "list") = false := by decide
  have e3 : (Value.type "zip" == Value.type "tuple") = false := by decide
  simp only [e1, e2, e3, Bool.or_false, Bool.false_eq_true, if_false]
  refine wpAny_bind (wpAny_pyIter_zip (s := { s with heap := h₁ }) (k1 _ _ hz) ?_)
  refine wpAny_bind (wpAny_holding ?_)
  unfold Builtin.List.listLengthHint
  refine wpAny_bind (wpAny_specialOf hT nolen_zip ?_)
  show wpAny _ A.in1 (specialOf (Value.ref z) (Str.ofString "__length_hint__") >>= _) _ _ _
  refine wpAny_bind (wpAny_specialOf hT nohint_zip ?_)
  refine wpAny_pure ?_
  show wpAny _ A.in1 (rule "list.extend.makes-room" >>= fun _ => Builtin.List.listTouch (.ref s.heap.objs.size) >>= fun _ =>
    again (.builtin "list.extend.loop" ⟨[.ref s.heap.objs.size, .ref z, .ref s.heap.objs.size], []⟩)) _ _ _
  refine wpAny_bind (wpAny_rule ?_)
  refine wpAny_bind ?_
  show wpAny _ A.in1 (updateSeq s.heap.objs.size (·.push .none) >>= fun _ => updateSeq s.heap.objs.size (·.pop)) _ _ _
  refine wpAny_bind (wpAny_updateSeq hS₁ rfl ?_)
  have hS₂ := Heap.get?_update_self (Obj.mapSeq (·.push Value.none)) hS₁ rfl
  refine wpAny_updateSeq hS₂ rfl ?_
  have hS₃ := Heap.get?_update_self (Obj.mapSeq (·.pop)) hS₂ rfl
  have k3 : ∀ b u, b ≠ s.heap.objs.size → s.heap.get? b = some u → ((h₁.update s.heap.objs.size (Obj.mapSeq (·.push Value.none))).update s.heap.objs.size (Obj.mapSeq (·.pop))).get? b = some u :=
    fun b u hb e => (Heap.get?_update_other _ _ (Ne.symm hb)).trans ((Heap.get?_update_other _ _ (Ne.symm hb)).trans (k1 b u e))
  have st : ZSt z TI TO i1 i2 l1 l2 xs ys s.heap.objs.size 0 s.heap := ⟨hTI, h1, h2, hl1, hl2, ⟨_, hTO⟩, .inl ⟨hz, ta, tb, hTO⟩⟩
  refine wpAny_pure ⟨plainId_quiet F.plain_extend_loop _, loop_zip D o hn hxs hys hh n 0 _ _ _ rfl (Nat.zero_le _) (st.keep o k3) hS₃ ⟨[], rfl, rfl, List.nodup_nil, fun j T e => by simp at e⟩ (by show lo ≤ ((h₁.update _ _).update _ _).objs.size; rw [Heap.size_update, Heap.size_update, ← hp, Heap.size_push]; omega) fun h' acc' c' hk hS' g => ?_⟩
  show wpAny _ A (load s.heap.objs.size >>= _) _ _ _
  refine wpAny_bind (wpAny_load hS' ?_)
  refine wpAny_pure (hQ h' acc' (fun b u hb e => ?_) (let ⟨Ts, a, b, c, d⟩ := g; ⟨Ts, a, b, c, fun j T e => let ⟨x, y, q1, q2, q3, _, q5⟩ := d j T e; ⟨x, y, q1, q2, q3, by simp, q5⟩⟩))
  have nb : b ≠ s.heap.objs.size := (lt e).symm
  exact hk b u (by simp only [List.mem_cons, List.not_mem_nil, or_false, not_or] at hb ⊢; exact ⟨nb, hb⟩) (k3 b u nb e)
theorem code_tuple_zip {A : Around} {n lo : Nat} {s : Shared} {Q₁ : Value → Shared → Prop} {E : Value → Shared → Prop} (D : ZipApart z TI TO i1 i2 l1 l2) (hn : n ≤ sizeLine) (hxs : xs.size = n) (hys : ys.size = n) (hh : A.handled = none)
    (hz : IsZip s.heap z TI TO .none) (hTI : IsPair s.heap TI (.ref i1) (.ref i2)) (hTO : ∃ a b, IsPair s.heap TO a b) (h1 : s.heap.IsListIter i1 l1 0) (h2 : s.heap.IsListIter i2 l2 0) (hl1 : s.heap.IsList l1 xs) (hl2 : s.heap.IsList l2 ys) (hlo : lo ≤ s.heap.objs.size)
    (h : ∀ h' acc, (∀ b u, b ∉ [z, TO, i1, i2] → s.heap.get? b = some u → h'.get? b = some u) → Got xs ys h' acc n [] lo → Q₁ (.ref h'.objs.size) { s with heap := h'.push { cls := .type "tuple", data := .seq acc } }) :
    codeAny (model prog w) A (.call (.builtin "tuple.__new__") ⟨[.type "tuple", .ref z], []⟩) (wants Q₁ E) s := by
  refine codeAny_of_tree ?_
  show wpAny _ A.in1 (do checkBuiltinCall "tuple.__new__" ⟨[.type "tuple", .ref z], []⟩; again (.builtin "tuple.__new__" ⟨[.type "tuple", .ref z], []⟩)) _ _ s
  refine wpAny_bind (wpAny_of_eq (F.newCall_tuple_1 _) (wpAny_pure ⟨plainId_quiet F.plain_tuple_new _, codeAny_builtin F.entry_tuple_new ?_⟩))
  rw [Around.under_plainId F.plain_tuple_new _]
  have q1 := sub_tuple_self
  have q2 := init_tuple_lookup
  have q3 := madeHere_tuple
  have hT : s.TypeIs (.ref z) "zip" := ⟨_, hz, rfl⟩
  wp_walk using wpAny_typeOf hT, collect_zip (lo := lo) D hn hxs hys (show A.in1.handled = none from hh) hz hTI hTO h1 h2 hl1 hl2 hlo
  intro h' acc hk g
  show wpAny _ _ (Builtin.Tuple.tupleExact acc.toList.toArray >>= fun v => ret v) _ _ _
  unfold Builtin.Tuple.tupleExact
  refine wpAny_bind (wpAny_newObj_type ?_ (by show acc.toList.toArray.size ≤ sizeLine; simp only [Array.toArray_toList]; rw [g.size]; exact hn))
  refine wpAny_pure ?_
  have e : acc.toList.toArray = acc := by simp
  rw [e]
  exact h h' acc hk g
theorem call_tuple_zip {A : Around} {n lo : Nat} {s : Shared} {Q : Value → Shared → Prop} {E : Value → Shared → Prop} (D : ZipApart z TI TO i1 i2 l1 l2) (hn : n ≤ sizeLine) (hxs : xs.size = n) (hys : ys.size = n) (hh : A.handled = none)
    (hz : IsZip s.heap z TI TO .none) (hTI : IsPair s.heap TI (.ref i1) (.ref i2)) (hTO : ∃ a b, IsPair s.heap TO a b) (h1 : s.heap.IsListIter i1 l1 0) (h2 : s.heap.IsListIter i2 l2 0) (hl1 : s.heap.IsList l1 xs) (hl2 : s.heap.IsList l2 ys) (hlo : lo ≤ s.heap.objs.size)
    (h : ∀ h' acc, (∀ b u, b ∉ [z, TO, i1, i2] → s.heap.get? b = some u → h'.get? b = some u) → Got xs ys h' acc n [] lo → Q (.ref h'.objs.size) { s with heap := h'.push { cls := .type "tuple", data := .seq acc } }) :
    wpAny (model prog w) A (call (.type "tuple") [.ref z]) Q E s := by
  refine callType_codes (Q₁ := fun obj s₁ => s₁.TypeIs obj "tuple" ∧ Q obj s₁) F.called_tuple (F.typeCall_tuple_1 _) F.entry_object_init
    (code_tuple_zip (lo := lo) (A := A.in1) D hn hxs hys hh hz hTI hTO h1 h2 hl1 hl2 hlo fun h' acc hk g => ⟨⟨_, Heap.get?_push_size _ rfl, rfl⟩, h h' acc hk g⟩) fun obj s₁ h₁ => ?_
  exact ⟨h₁.1, F.args_object_init_2 obj _, object_init_meets F.called_tuple.init.lookup F.called_tuple.made (by decide) prog w A.in1 _ s₁ ⟨h₁.1, rfl, h₁.2⟩⟩
end
end PDZ
end PySem
namespace PD
open PySem PySem.Spec PyProof.Rows L2 PySem.W PySem.PDZ
/-- pairs of the places of two lists -/
def gZip2 : List D → Option D
  | [.list xs, .list ys] => if xs.length = ys.length ∧ xs.length ≤ sizeLine then some (.tuple (List.zipWith (fun a b => .tuple [a, b]) xs ys)) else none
  | _ => none
theorem rpA_of {K : PySem.W.Frag} {H : Hp} : ∀ {vs : List V} {ds : List D}, vs.length = ds.length → (∀ (j : Nat) (v : V) (d : D), vs[j]? = some v → ds[j]? = some d → Rp K H v d) → RpA K H vs ds
  | [], [], _, _ => rfl
  | v :: vs, d :: ds, hl, h => ⟨v, vs, rfl, h 0 v d rfl rfl, rpA_of (by simpa using hl) fun j v d a b => h (j + 1) v d (by simpa using a) (by simpa using b)⟩
  | [], _ :: _, hl, _ => by simp at hl
  | _ :: _, [], hl, _ => by simp at hl
theorem valsU : ∀ {xs : List V} {us : List Value} {j : Nat} {u : Value}, Vals xs us → us[j]? = some u → ∃ v, xs[j]? = some v ∧ RelV v u
  | _, _, j, u, .nil, h => by simp at h
  | _, _, 0, u, .cons r t, h => by
    simp at h
    subst h
    exact ⟨_, rfl, r⟩
  | _, _, j + 1, u, .cons r t, h => by
    obtain ⟨v, a, b⟩ := valsU (j := j) t (by simpa using h)
    exact ⟨v, by simpa using a, b⟩
section
variable {X : Cx} {T : List (Addr × Str)} {Φ : Fx} {B : Nat → Bool} {a b : Expr} {mas : MA} {p p2 q pos : Pos}
theorem pd_tzip (hc0 : X.calm = true) (hm : X.mg "tuple" = none) (hm2 : X.mg "zip" = none) (hg : Gl X "tuple") (hg2 : Gl X "zip") (ha : PDa X T Φ B [a, b] mas) (hs : starEach [a, b] X.env = (false, eval a X.env) :: starEach [b] X.env := by rfl) (hpl : (backTo q (starEach [b] X.env)).any (·.1) = false := by rfl)
    (na : starEach [.Call (.Name "zip" p2) [a, b] [] q] X.env = (false, eval (.Call (.Name "zip" p2) [a, b] [] q) X.env) :: starEach [] X.env := by rfl) :
    PDe X T Φ B (.Call (.Name "tuple" p) [.Call (.Name "zip" p2) [a, b] [] q] [] pos) (eL gZip2 mas) := by
  refine ⟨fun pins s σ H Q I h => ?_⟩
  obtain ⟨A, Z, ρ, μ, d, μ', R, hmm, k⟩ := h
  obtain ⟨ds, e1, e2⟩ := eL_some hmm
  unfold gZip2 at e2
  split at e2
  · rename_i dx dy
    split at e2
    · rename_i hc
      cases e2
      refine Call_ (ld_blt I hg hm (show bootBuiltins "tuple" = some (.type "tuple") by decide +kernel) (PyProof.Rows.callWith_type1 ?_ na rfl))
      rw [na]
      show wpAny _ _ (spliced ((false, eval (.Call (.Name "zip" p2) [a, b] [] q) X.env) :: backTo pos (starEach [] X.env))) _ _ s
      refine Calls.spliced_cons (Call_ (ld_blt I hg2 hm2 PyProof.Rows.boot_zip (PyProof.Rows.callWith_type1 (thn (ha.run q pins s σ H (fun vs H1 => Fw (Wr B ρ A) H H1 ∧ Rep X.K T Φ A Z σ H1 ρ μ' ∧ RpA X.K (hid H1 (Zw B ρ A Z)) vs [.list dx, .list dy]) I ⟨A, Z, ρ, μ, _, μ', R, e1, fun vs H1 f1 R1 p1 => ⟨f1, R1, p1⟩⟩) fun us s1 ⟨vs, H1, I1, r1, f1, R1, p1⟩ => ?_) hs hpl)))
      obtain ⟨v1, _, rfl, ⟨l1, xs, rfl, x1, x2⟩, v2, _, rfl, ⟨l2, ys, rfl, y1, y2⟩, rfl⟩ := p1
      cases r1 with
      | cons r rr =>
        cases rr with
        | cons r' rr =>
          cases rr
          cases r
          cases r'
          obtain ⟨its, rv, p1, _⟩ := I1.list (.inl (hid_rd x1).1)
          obtain ⟨its2, rv2, p2', _⟩ := I1.list (.inl (hid_rd y1).1)
          refine call_zip_2 p1.isList p2'.isList fun h' hz hTI hTO h1 h2 hsz hk => ?_
          refine Calls.spliced_nil ?_
          have lx : its.toArray.size = dx.length := by rw [List.size_toArray, ← rv.length, x2.length]
          have ly : its2.toArray.size = dx.length := by rw [List.size_toArray, ← rv2.length, y2.length, hc.1]
          have kl : ∀ {c : Addr} {its : Array Value}, s1.heap.IsList c its → h'.IsList c its := fun ⟨o, ho, r⟩ => ⟨o, hk _ _ ho, r⟩
          refine call_tuple_zip (lo := s1.heap.objs.size) (s := { s1 with heap := h' }) (n := dx.length) (PySem.W.ktu_apart s1.heap.objs.size l1 l2 p1.lt p2'.lt) hc.2 lx ly (I1.ok.hd hc0) hz hTI ⟨_, _, hTO⟩ h1 h2 (kl p1.isList) (kl p2'.isList) (by show s1.heap.objs.size ≤ h'.objs.size; omega) fun h'' acc hk2 g => ?_
          obtain ⟨Ts, t1, t2, t3, t4⟩ := g
          generalize hpp : h''.push { cls := .type "tuple", data := .seq acc } = h3
          have k3 : ∀ b u, s1.heap.get? b = some u → h3.get? b = some u := fun b u e => by
            rw [← hpp]
            refine Heap.get?_push_of_some _ (hk2 b u ?_ (hk b u e))
            have lt := Heap.lt_size e
            simp only [List.mem_cons, List.not_mem_nil, or_false, not_or]
            exact ⟨Nat.ne_of_lt (Nat.lt_of_lt_of_le lt (Nat.le_add_right _ _)), Nat.ne_of_lt (Nat.lt_of_lt_of_le lt (Nat.le_add_right _ _)), Nat.ne_of_lt lt, Nat.ne_of_lt (Nat.lt_of_lt_of_le lt (Nat.le_add_right _ _))⟩
          have hp0 : s1.heap.objs.size ≤ h''.objs.size := by
            by_cases z : s1.heap.objs.size ≤ h''.objs.size
            · exact z
            · exfalso
              have e := hk2 (s1.heap.objs.size + 2) _ (by simp only [List.mem_cons, List.not_mem_nil, or_false, not_or]; refine ⟨?_, ?_, ?_, ?_⟩ <;> (intro q; have q : (_ : Nat) = (_ : Nat) := q; omega)) hTI
              exact z (Nat.le_of_lt (Nat.lt_of_le_of_lt (Nat.le_add_right _ 2) (Heap.lt_size e)))
          have hpn : H1 h''.objs.size = none := I1.hok.fresh hp0
          have ltT : ∀ T ∈ Ts, T < h''.objs.size := fun T hT => by
            obtain ⟨j, hj⟩ := List.mem_iff_getElem?.mp hT
            obtain ⟨x, y, q1, q2, q3, _⟩ := t4 j T hj
            exact Heap.lt_size q3
          have vT : ∀ l : List Addr, Vals (l.map V.ref) (l.map Value.ref) := fun l => by
            induction l with
            | nil => exact .nil
            | cons a l ih => exact .cons rfl ih
          have I2 : Inv X pins σ (upd H1 h''.objs.size (.tup (Ts.map V.ref))) { s1 with heap := h3 } := I1.laid (t' := s1.toks) k3 hp0 (show ObjOk X.prog X.w _ h3 _ (.tup (Ts.map V.ref)) from ⟨by rw [List.length_map, t1]; exact hc.2, acc.toList, by rw [t2]; exact vT Ts, ⟨_, by rw [← hpp]; exact Heap.get?_push_size _ rfl, rfl, 0, by simp⟩⟩)
          have fresh : ∀ T ∈ Ts, s1.heap.objs.size ≤ T ∧ upd H1 h''.objs.size (.tup (Ts.map V.ref)) T = none ∧ ∃ vs, (∃ (j : Nat) (x y : V), Ts[j]? = some T ∧ xs[j]? = some x ∧ ys[j]? = some y ∧ vs = [x, y]) ∧ ∀ H2, ObjOk X.prog X.w H2 h3 T (.tup vs) := fun T hT => by
            obtain ⟨j, hj⟩ := List.mem_iff_getElem?.mp hT
            obtain ⟨x, y, q1, q2, q3, _, q5⟩ := t4 j T hj
            obtain ⟨vx, ex, rx⟩ := valsU rv (by simpa using q1)
            obtain ⟨vy, ey, ry⟩ := valsU rv2 (by simpa using q2)
            refine ⟨q5, by rw [upd_ne (Nat.ne_of_lt (ltT T hT))]; exact I1.hok.fresh q5, [vx, vy], ⟨j, vx, vy, hj, ex, ey, rfl⟩, fun H2 => ⟨by rw [sizeLine_eq]; exact (by decide : 2 ≤ 16777216), [x, y], .cons rx (.cons ry .nil), ⟨_, by rw [← hpp]; exact Heap.get?_push_of_some _ q3, rfl, 0, rfl⟩⟩⟩
          obtain ⟨H2, I3, g2, q2⟩ := L2.DX.takeT (h' := h3) (tk := s1.toks) I1 Ts _ I2 t3 fresh
          have sm : Same H1 H2 := fun b o e => g2 b o (by rw [upd_ne (ne_of_none e hpn)]; exact e)
          refine ⟨.ref h''.objs.size, H2, I3, rfl, k _ H2 (f1.trans (Fw.same sm)) (R1.same sm) ⟨_, _, rfl, SqK.new ((hid_of fun z => R1.tracked _ z hpn).trans (g2 _ _ upd_same)), rpA_of (by rw [List.length_map, t1, List.length_zipWith, hc.1, Nat.min_self]) fun j v d ev ed => ?_⟩⟩
          rw [List.getElem?_map] at ev
          cases eT : Ts[j]? with
          | none => rw [eT] at ev; cases ev
          | some T =>
            rw [eT] at ev
            cases ev
            have hT := List.mem_of_getElem? eT
            obtain ⟨vs, ⟨j', x, y, w1, w2, w3, rfl⟩, w4⟩ := q2 T hT
            have ej : j' = j := by
              obtain ⟨u1, u2⟩ := List.getElem?_eq_some_iff.mp w1
              obtain ⟨u3, u4⟩ := List.getElem?_eq_some_iff.mp eT
              exact (List.getElem_inj t3).mp (u2.trans u4.symm)
            subst ej
            rw [List.getElem?_zipWith] at ed
            cases exd : dx[j']? with
            | none => rw [exd] at ed; cases ed
            | some d1 =>
              cases eyd : dy[j']? with
              | none => rw [exd, eyd] at ed; cases ed
              | some d2 =>
                rw [exd, eyd] at ed
                cases ed
                obtain ⟨v1, r1, r2⟩ := x2.get exd
                obtain ⟨v2, r3, r4⟩ := y2.get eyd
                rw [w2] at r1
                rw [w3] at r3
                cases r1
                cases r3
                obtain ⟨c1, c2, _⟩ := fresh T hT
                refine ⟨T, [x, y], rfl, SqK.new ((hid_of fun z => R1.tracked _ z (I1.hok.fresh c1)).trans w4), x, [y], rfl, Rp.mono (Same.xt sm) _ _ r2, y, [], rfl, Rp.mono (Same.xt sm) _ _ r4, rfl⟩
    · cases e2
  · cases e2
end
end PD
end
section
set_option linter.all false
set_option maxRecDepth 100000
set_option maxHeartbeats 4000000
/-! P18: enumerate of a tuple. -/
namespace PySem
open Sem (wp)
open AutoSeq1 (wpAny_loadPart')
namespace PDZ
theorem meets_enum1 {v : Value} {o : Obj} {H : Heap → Prop} (B : Begins v o H) :
    Meets (Builtin.«enumerate.__new__» ⟨[.type "enumerate", v], []⟩) (fun _ R s => H s.heap ∧
      R (.ok (.ret (.ref (s.heap.push o).objs.size))) { s with heap := (s.heap.push o).push { cls := .type "enumerate", data := .fields #[.none, .bool false, .ref s.heap.objs.size, rawInt 0, .none, .none] } }) :=
  .of_wp fun prog w A R s h => by
    obtain ⟨hp, g, d, tk, os⟩ := s
    obtain ⟨h1, h⟩ := h
    have hsub := sub_enumerate
    have it1 : ∀ {A' : Around} {E : Value → Shared → Prop} {Q : Value → Shared → Prop}, Q (.ref hp.objs.size) ⟨hp.push o, g, d, tk, os⟩ → wpAny (model prog w) A' (pyIter v) Q E ⟨hp, g, d, tk, os⟩ :=
      fun q => B.iter prog w _ _ ⟨hp, g, d, tk, os⟩ _ h1 q
    wp_walk using it1
    refine wpAny_stack_any fun st => wpAny_pure ?_
    split
    · rename_i c _ _ _ _ _
      cases (c == Value.type "enumerate")
      · wp_walk using it1
        exact ⟨_, rfl, h⟩
      · wp_walk using it1
        exact ⟨_, rfl, h⟩
    · wp_walk using it1
      exact ⟨_, rfl, h⟩
theorem call_enum1 {prog : Program} {w : World} {A : Around} {E : Value → Shared → Prop} {s : Shared} {v : Value} {o : Obj} {H : Heap → Prop} {Q : Value → Shared → Prop} (B : Begins v o H) (h1 : H s.heap)
    (h : ∀ h', IsEnum h' (s.heap.objs.size + 1) s.heap.objs.size 0 .none → h'.get? s.heap.objs.size = some o → h'.objs.size = s.heap.objs.size + 2 →
      (∀ b u, s.heap.get? b = some u → h'.get? b = some u) → Q (.ref (s.heap.objs.size + 1)) { s with heap := h' }) :
    wpAny (model prog w) A (call (.type "enumerate") [v]) Q E s := by
  refine callType_new F.called_enumerate (by decide) (F.typeCall_enumerate_1 _) (F.newCall_enumerate_1 _) (fun obj => F.args_object_init_2 obj _) F.entry_enumerate_new
    (meets_enum1 B) ⟨h1, ?_⟩
  have hz : (s.heap.push o).objs.size = s.heap.objs.size + 1 := Heap.size_push ..
  show _ ∧ _
  rw [hz]
  have he : IsEnum ((s.heap.push o).push { cls := .type "enumerate", data := .fields #[.none, .bool false, .ref s.heap.objs.size, rawInt 0, .none, .none] }) (s.heap.objs.size + 1) s.heap.objs.size 0 .none := by
    have e := Heap.get?_push_size (s.heap.push o) (o := { cls := .type "enumerate", data := .fields #[.none, .bool false, .ref s.heap.objs.size, rawInt 0, .none, .none] }) rfl
    rw [hz] at e
    exact e
  exact ⟨⟨_, he, rfl⟩, h _ he (Heap.get?_push_of_some _ (Heap.get?_push_size _ B.free)) (by rw [Heap.size_push, hz]) fun b u x => Heap.get?_push_of_some _ (Heap.get?_push_of_some _ x)⟩
end PDZ
end PySem
namespace PD
open PySem PySem.Spec PyProof.Rows L2 PySem.PDZ
/-- the tuple at a, its items in new pairs -/
def Itt2 (K : PySem.W.Frag) (a : Addr) (n : Nat) : It :=
  ⟨fun i H => ∃ (xs : List V) (x : V), SqT K H a xs ∧ xs.length = n ∧ xs[i]? = some x, fun i H v H' => ∃ T x, v = .ref T ∧ H T = none ∧ H' = upd H T (.tup [.int (i : Nat), x]) ∧ ∀ xs, SqT K H a xs → xs[i]? = some x, fun i H => ∃ xs : List V, SqT K H a xs ∧ xs.length = n ∧ n ≤ i⟩
theorem tup_inj {X : Cx} {pins : List (Addr × Obj)} {σ : L2.St} {H : Hp} {s : Shared} (I : Inv X pins σ H s) {a : Addr} {xs ys : List V} (h : SqT X.K H a xs) (h' : SqT X.K H a ys) : xs = ys := I.tuple_inj h h'
theorem _root_.L2.Inv.turned2 {X : Cx} {pins : List (Addr × Obj)} {σ : L2.St} {H : Hp} {s : Shared} {h' : Heap} {t' : Nat} {ch : List Addr} (I : Inv X pins σ H s) (hk : ∀ b o, b ∉ ch → s.heap.get? b = some o → h'.get? b = some o) (hf : ∀ b ∈ ch, FpOk X pins H b) : Inv X pins σ H { s with heap := h', toks := t' } := by
  have apart : ∀ b u, H b = some u → b ∉ ch := fun b u e z => by
    rw [(hf b z).1] at e
    cases e
  have lives : ∀ b o, b ∉ ch → s.heap.get? b = some o → ∃ o', h'.get? b = some o' := fun b o hc e => ⟨o, hk b o hc e⟩
  refine I.step (g' := s.gens) (d' := s.drawn) (ch := ch) (fun b hb => ?_) (fun b o _ _ hc e _ => hk b o hc e) (fun b o _ _ hc e _ => ⟨o.slots, hk b o hc e⟩) (fun _ _ _ _ n => n) lives (fun _ _ e => e) (fun _ _ _ e => e) (fun b ps e => ⟨#[], by simp [e]⟩) (fun m hm => ?_) (fun b u e => ?_) I.bare
  · obtain ⟨q1, q2, q3, q4, q5, q6⟩ := hf b hb
    exact ⟨q4, q2, q5, q6⟩
  · obtain ⟨o, es, ep, ho, r⟩ := hm
    refine ⟨o, es, ep, hk _ o (fun z => ?_) ho, r⟩
    exact (hf _ z).2.1 rfl
  · exact (I.hok b u e).stay (fun c v hc q => hk c v (hc.elim (fun z => by rw [z]; exact apart b u e) fun z => apart c _ z) q) (fun _ q => q) (fun _ _ q => q)
theorem turn_enumT {P : Program} {w : World} {K : PySem.W.Frag} {elts : List Expr} {kk : Nat} {tpos : Pos} (a e it : Addr) (n : Nat) :
    Turn P w K (.Tuple elts kk tpos) (Itt2 K a n) [e, it] e (fun i h => (∃ old, IsEnum h e it ((0 : Int) + ((i : Nat) : Int)) old) ∧ h.IsTupleIter it a i ∧ e ≠ it ∧ i ≤ n) where
  mem := by simp
  obj := fun i h st b hb => by
    obtain ⟨⟨old, he⟩, ⟨o, ho, hc, hd⟩, _, _⟩ := st
    have e' : b = e ∨ b = it := by simpa using hb
    rcases e' with z | z
    · rw [z]; exact ⟨_, he, fun v q => nomatch q⟩
    · rw [z]; exact ⟨o, ho, fun v q => by rw [hd] at q; cases q⟩
  keep := fun i h h' st k => let ⟨⟨old, he⟩, hi, hne⟩ := st; ⟨⟨old, k e (by simp) _ he⟩, hi.at fun o q => k it (by simp) o q, hne⟩
  item := by
    intro X hP hw hK hc i pins s σ H E I hf st hg
    subst hP hw hK
    obtain ⟨⟨old, he⟩, hit, hne, hin⟩ := st
    obtain ⟨xs, x, hq, hxn, hx⟩ := hg
    obtain ⟨its, rv, p, hz⟩ := I.tuple hq
    obtain ⟨u, hu, ru⟩ := rv.get hx
    have hel : e < s.heap.objs.size := Heap.lt_size he
    have hil : it < s.heap.objs.size := by obtain ⟨_, q, _⟩ := hit; exact Heap.lt_size q
    have hea : e ≠ a := fun z => by
      obtain ⟨o, ho, hc', _⟩ := p
      rw [← z, he] at ho
      cases ho
      exact absurd (Value.type.inj hc') (by decide)
    have hia : a ≠ it := fun z => by
      obtain ⟨o, ho, hc', _⟩ := p
      obtain ⟨o2, ho2, hc2, _⟩ := hit
      rw [z, ho2] at ho
      cases ho
      rw [hc2] at hc'
      exact absurd hc' (by decide)
    have G := GoesN.enumFrom (elts := elts) (x1 := kk) (pos := tpos) 0 (Draws.tuple (prog := X.prog) (w := X.w) (A := X.A.in1) (I.ok.hd hc) it a hia its.toArray) e hne (by simp; exact ⟨hne, hea⟩) (by simp)
    have hl : i < its.toArray.size := by
      have := (List.getElem?_eq_some_iff.mp hu).1
      simpa using this
    refine wpAny_mono (G.goes i s (fun v s2 => ∃ x' H', Inv X pins σ H' s2 ∧ RelV x' v ∧ (Itt2 X.K a n).yld i H x' H' ∧ ((∃ old, IsEnum s2.heap e it ((0 : Int) + ((i + 1 : Nat) : Int)) old) ∧ s2.heap.IsTupleIter it a (i + 1) ∧ e ≠ it ∧ i + 1 ≤ n) ∧ ∀ b ∈ [e, it], H' b = none) E hl ⟨⟨old, he⟩, hit, p⟩ fun v h' tk hY st' hk htk => ?_) (fun r s1 h => h) (fun _ _ h => h)
    obtain ⟨T, t, y, rfl, hT, hy, hTT⟩ := hY
    have ey : y = u := by
      have h1 : its[i]? = some y := by simpa using hy
      rw [hu] at h1
      cases h1
      rfl
    subst ey
    obtain ⟨⟨old', he'⟩, hit', _⟩ := st'
    have hi0 : (0 : Int) + ((i : Nat) : Int) = ((i : Nat) : Int) := by omega
    rw [hi0] at hTT
    have new : ObjOk X.prog X.w (upd H T (.tup [.int (i : Nat), x])) h' T (.tup [.int (i : Nat), x]) :=
      ⟨by rw [sizeLine_eq]; exact (by decide : 2 ≤ 16777216), [.int i t, y], .cons ⟨_, rfl⟩ (.cons ru .nil), hTT⟩
    have I1 : Inv X pins σ (upd H T (.tup [.int (i : Nat), x])) { s with heap := h', toks := tk } :=
      I.turnedNew (ch := [e, it]) (fun b ob hb q => hk b ob hb q) hf hT new
    refine ⟨.ref T, _, I1, rfl, ⟨_, x, rfl, I.hok.fresh hT, rfl, fun ys hy => by rw [tup_inj I hy hq]; exact hx⟩, ⟨⟨old', he'⟩, hit', hne, by have := (List.getElem?_eq_some_iff.mp hx).1; omega⟩, fun b hb => ?_⟩
    have hb' : b < s.heap.objs.size := by
      have e' : b = e ∨ b = it := by simpa using hb
      rcases e' with z | z
      · rw [z]; exact hel
      · rw [z]; exact hil
    rw [upd_ne (Nat.ne_of_lt (Nat.lt_of_lt_of_le hb' hT))]
    exact (hf b hb).1
  done := by
    intro X hP hw hK hc i pins s σ H E I hf st hg
    subst hP hw hK
    obtain ⟨⟨old, he⟩, hit, hne, hin⟩ := st
    obtain ⟨xs, hq, hxn, hx⟩ := hg
    obtain ⟨its, rv, p, hz⟩ := I.tuple hq
    have hea : e ≠ a := fun z => by
      obtain ⟨o, ho, hc', _⟩ := p
      rw [← z, he] at ho
      cases ho
      exact absurd (Value.type.inj hc') (by decide)
    have hia : a ≠ it := fun z => by
      obtain ⟨o, ho, hc', _⟩ := p
      obtain ⟨o2, ho2, hc2, _⟩ := hit
      rw [z, ho2] at ho
      cases ho
      rw [hc2] at hc'
      exact absurd hc' (by decide)
    have G := GoesN.enumFrom (elts := elts) (x1 := kk) (pos := tpos) 0 (Draws.tuple (prog := X.prog) (w := X.w) (A := X.A.in1) (I.ok.hd hc) it a hia its.toArray) e hne (by simp; exact ⟨hne, hea⟩) (by simp)
    have hl : i = its.toArray.size := by
      have := rv.length
      have : its.toArray.size = its.length := by simp
      omega
    subst hl
    exact wpAny_mono (G.stops s (fun s1 => Inv X pins σ H s1) E ⟨⟨old, he⟩, hit, p⟩ fun h' tk hk _ => I.turned2 hk hf) (fun r s1 h => h) (fun _ _ h => h)
  self := fun A i s Q E st h => let ⟨⟨_, he⟩, _⟩ := st; wpAny_pyIter_enum he h
def gEnumT : List D → Option (List D)
  | [.tuple ds] => some (enumD 0 ds)
  | _ => none
def enumTI (m : MA) : MA := fun ρ μ => (m ρ μ).bind fun p => (gEnumT p.1).map fun ds => (ds, p.2)
section
variable {X : Cx} {T : List (Addr × Str)} {Φ : Fx} {B : Nat → Bool} {a : Expr} {mas : MA} {p pos : Pos}
theorem pi_enT {es : List Expr} {kk : Nat} {tpos : Pos} (hg : Gl X "enumerate") (hm : X.mg "enumerate" = none) (ha : PDa X T Φ B [a] mas) (hs : starEach [a] X.env = [(false, eval a X.env)] := by rfl) : PDi X T Φ B (.Tuple es kk tpos) (.Call (.Name "enumerate" p) [a] [] pos) (enumTI mas) := by
  refine ⟨fun pins s σ H R' I ⟨A, Z, ρ, μ, d, μ', R, hmm, k⟩ => ?_⟩
  unfold enumTI at hmm
  cases e : mas ρ μ with
  | none => rw [e] at hmm; cases hmm
  | some w =>
    rw [e, Option.bind_some] at hmm
    obtain ⟨as, μ1⟩ := w
    cases e2 : gEnumT as with
    | none => rw [e2] at hmm; cases hmm
    | some q =>
      rw [e2] at hmm
      cases hmm
      unfold gEnumT at e2
      split at e2
      · rename_i ds'
        cases e2
        refine Call_ (ld_blt I hg hm boot_enumerate (PyProof.Rows.callWith_type1 (thn (ha.run pos pins s σ H (fun vs H1 => Fw (Wr B ρ A) H H1 ∧ Rep X.K T Φ A Z σ H1 ρ μ1 ∧ RpA X.K (hid H1 (Zw B ρ A Z)) vs [.tuple ds']) I ⟨A, Z, ρ, μ, _, μ1, R, e, fun vs H1 f1 R1 p1 => ⟨f1, R1, p1⟩⟩) fun us s1 ⟨vs, H1, I1, r1, f1, R1, p1⟩ => ?_) hs rfl))
        obtain ⟨v, _, rfl, ⟨l, xs, rfl, k1, k2⟩, rfl⟩ := p1
        cases r1 with
        | cons r rr =>
          cases rr
          cases r
          have k1' : SqT X.K H1 l xs := hid_sqT k1.sq
          obtain ⟨its, rv, pt, hz⟩ := I1.tuple k1'
          refine call_enum1 (begins_tuple l its.toArray) pt fun h' he hit hsz hk => wpAny_pyIter_enum he ?_
          have I2 : Inv X pins σ H1 { s1 with heap := h' } := I1.kept (t' := s1.toks) hk
          refine ⟨s1.heap.objs.size + 1, [s1.heap.objs.size + 1, s1.heap.objs.size], _, _, H1, rfl, I2, turn_enumT l (s1.heap.objs.size + 1) s1.heap.objs.size xs.length, ⟨⟨.none, he⟩, ⟨_, hit, rfl, rfl⟩, Nat.succ_ne_self _, Nat.zero_le _⟩, fun b hb => ?_, k _ H1 f1 R1 fun H2 Z2 hz2 xt => ⟨fun i hi => ⟨xs, sqT_le xt k1.sq, rfl, by rw [k2.length]; rw [enumD_length] at hi; exact hi⟩, fun i d hd => ?_⟩⟩
          · have e' : b = s1.heap.objs.size + 1 ∨ b = s1.heap.objs.size := by simpa using hb
            have hle : s1.heap.objs.size ≤ b := by
              rcases e' with z | z
              · rw [z]; exact Nat.le_add_right _ _
              · rw [z]; exact Nat.le_refl _
            exact I1.fpOk hle (I1.hok.fresh hle)
          · rw [enumD_get, Nat.zero_add] at hd
            cases ed : ds'[i]? with
            | none => rw [ed] at hd; cases hd
            | some d' =>
              rw [ed] at hd
              have hd : PyData.tuple [.int ((i : Nat) : Int), d'] = d := Option.some.inj hd
              subst hd
              obtain ⟨v, e1, p1⟩ := k2.get ed
              refine ⟨⟨xs, v, sqT_le xt k1.sq, rfl, e1⟩, fun x H' ⟨t, x', ex, ht, eH, hx⟩ => ?_⟩
              have := hx xs (sqT_le xt k1.sq)
              rw [e1] at this
              cases this
              subst ex eH
              exact ⟨same_upd ht, rp_new_tup hz2 ht ⟨_, _, rfl, rfl, _, _, rfl, Rp.mono xt _ _ p1, rfl⟩⟩
      · cases e2
end
end PD
end
section
set_option linter.all false
set_option maxRecDepth 100000
set_option maxHeartbeats 4000000
/-! P19: texts, lists, tuples repeated. -/
namespace PD
open PySem PySem.Spec PyProof.Rows L2

def strRep (z : Str) (k : Nat) : Str := ⟨(List.replicate k z.cps).foldl (· ++ ·) #[]⟩
def rRepS : R2 := fun x y H Q => ∃ z k, x = .str z ∧ y = .int k ∧ 2 ≤ k ∧ k ≤ 1000 ∧ 1 ≤ z.length ∧ z.length ≤ 1000 ∧ Q (.str (strRep z k.toNat)) H
theorem fold_size {α : Type} (a : Array α) : ∀ (k : Nat) (b : Array α), ((List.replicate k a).foldl (· ++ ·) b).size = b.size + k * a.size
  | 0, b => by simp
  | k + 1, b => by
    rw [List.replicate_succ, List.foldl_cons, fold_size a k, Array.size_append, Nat.succ_mul]
    omega
theorem strRep_len (z : Str) (k : Nat) : (strRep z k).length = k * z.length := by
  have e := fold_size z.cps k #[]
  simpa [strRep, Str.length] using e
section
variable {X : Cx}
theorem op_repS : OpR X (binaryOp .Mult) rRepS := by
  intro pins s σ H x y v u Q I rx ry h
  obtain ⟨z, k, rfl, rfl, h1, h2, h3, h4, q⟩ := h
  obtain ⟨t, rfl⟩ := rx
  obtain ⟨t2, rfl⟩ := ry
  have e1 : ¬ k < 1 := by omega
  have e2 : (k == 1 || z.length == 0) = false := by
    have a : ¬ k = 1 := by omega
    have b : ¬ z.length = 0 := by omega
    simp [a, b]
  refine PySem.P.mul_str ?_ (fun _ _ => ?_) (fun _ _ => ?_) ?_
  · have a : ¬ k < -(2 ^ 63 : Int) := by omega
    have b : ¬ k ≥ 2 ^ 63 := by omega
    rw [decide_eq_false a, decide_eq_false b]; rfl
  · have m : (z.length : Int) * k ≤ 1000 * 1000 := Int.mul_le_mul (by omega) h2 (by omega) (by omega)
    have le : (z.length : Int) ≤ (2 ^ 63 - 1) / k := Int.le_ediv_of_mul_le (by omega) (by omega)
    omega
  · have m : z.length * k.toNat ≤ 1000 * 1000 := Nat.mul_le_mul h4 (by omega)
    show decide (z.length * k.toNat > sizeLine) = false
    rw [sizeLine_eq]
    exact decide_eq_false (by omega)
  · rw [if_neg e1, e2]
    refine ⟨?_, ⟨.str _, H, I.tok _, ⟨_, rfl⟩, q⟩⟩
    have m : k.toNat * z.length ≤ 1000 * 1000 := Nat.mul_le_mul (by omega) h4
    have l := strRep_len z k.toNat
    have e : (strRep z k.toNat).length ≤ sizeLine := by rw [l, sizeLine_eq]; omega
    exact e
end
def gMulS : G2
  | .str z, .int k => if 2 ≤ k ∧ k ≤ 1000 ∧ 1 ≤ z.length ∧ z.length ≤ 1000 then some (.str (strRep z k.toNat)) else none
  | .tuple ds, .int k => if 2 ≤ k ∧ k ≤ 1000 ∧ 1 ≤ ds.length ∧ ds.length ≤ 1000 then some (.tuple (List.replicate k.toNat ds).flatten) else none
  | _, _ => none
def rMulS (K : PySem.W.Frag) : R2 := fun x y H Q => rRepS x y H Q ∨ rRepT K x y H Q
section
variable {X : Cx} {T : List (Addr × Str)} {Φ : Fx} {B : Nat → Bool} {a b : Expr} {ma mb : ME} {mf : MA} {pos : Pos}
theorem or_mulS : OpR X (binaryOp .Mult) (rMulS X.K) := OpR.or op_repS op_repT
theorem rd_mulS {K : PySem.W.Frag} : RD K (rMulS K) gMulS := fun H Z x y d1 d2 d Q hz h1 h2 hg k => by
  unfold gMulS at hg
  split at hg
  · split at hg
    · rename_i hm
      cases hg
      exact .inl ⟨_, _, h1, h2, hm.1, hm.2.1, hm.2.2.1, hm.2.2.2, k _ H (Same.refl H) rfl⟩
    · cases hg
  · rename_i ds kk
    split at hg
    · rename_i hm
      cases hg
      obtain ⟨l, xs, rfl, k1, k2⟩ := h1
      have hl := k2.length
      refine .inr ⟨l, kk, xs, rfl, h2, hid_sqT k1.sq, fun z => ?_, hm.1, hm.2.1, by omega, fun p hp => k _ _ (same_upd hp) (rp_new_tup hz hp (RpA.rep k2 _))⟩
      rw [z] at hl
      have : ds.length = 0 := by simpa using hl.symm
      omega
    · cases hg
  · cases hg
theorem o_mulS (ha : PDe X T Φ B a ma) (hb : PDe X T Φ B b mb) : PDe X T Φ B (.BinOp a .Mult b pos) (e2 gMulS ma mb) := pd_op or_mulS rd_mulS ha hb
/-- a new list repeated -/
def mRep (mf : MA) (mb : ME) : MA := fun ρ μ => (mf ρ μ).bind fun p => (mb ρ p.2).bind fun q => match q.1 with
  | .int k => if -(2 ^ 63) ≤ k ∧ k < 2 ^ 63 ∧ p.1.length * k.toNat ≤ sizeLine then some ((List.replicate k.toNat p.1).flatten, q.2) else none
  | _ => none
theorem pf_rep (ha : PDf X T Φ B a mf) (hb : PDe X T Φ B b mb) : PDf X T Φ B (.BinOp a .Mult b pos) (mRep mf mb) := PE.cons (pe_op op_rep ha hb) fun σ H Q ⟨A, Z, ρ, μ, ds, μ', R, hm, k⟩ => by
  unfold mRep at hm
  cases e1 : mf ρ μ with
  | none => rw [e1] at hm; cases hm
  | some p =>
    rw [e1, Option.bind_some] at hm
    cases e2 : mb ρ p.2 with
    | none => rw [e2] at hm; cases hm
    | some q =>
      rw [e2, Option.bind_some] at hm
      split at hm
      · rename_i kk ek
        split at hm
        · rename_i hc
          cases hm
          refine ⟨A, Z, ρ, μ, p.1, p.2, R, e1, fun l vs H1 f1 nz R1 n0 h1 h2 => ⟨A, fun x => Z x ∨ x = l, ρ, p.2, q.1, q.2, R1, e2, fun y H2 f2 R2 p2 => ?_⟩⟩
          rw [ek] at p2
          have p2 : y = .int kk := p2
          have nA : l ∉ A := (R1.zo l (.inr rfl)).1
          have h3 := f2.keep l _ h1 (fun z => nA z.mem) (fun ps z => by cases z)
          have h4 : RpA X.K (hid H2 (Zw B ρ A fun x => Z x ∨ x = l)) vs p.1 := RpA.mono (fw_xt f2) _ _ h2
          refine ⟨l, kk, vs, rfl, p2, h3, hc.1, hc.2.1, by rw [h4.length]; exact hc.2.2, fun l2 hl2 => ?_⟩
          have R3 := R2.weakZ (Z' := Z) fun _ z => .inl z
          exact tF_new (B := B) (f1.trans f2) R3 hl2 (RpA.mono (hid_le fun x z => z.elim (fun z => .inl (.inl z)) .inr) _ _ (RpA.rep h4 _)) k
        · cases hm
      · cases hm
end
end PD
end
section
set_option linter.all false
set_option maxRecDepth 100000
set_option maxHeartbeats 4000000
/-! P20: defs that may be handed functions, lambdas: packed. -/
namespace PD
open PySem PySem.Spec PyProof.Rows L2 NdefX LamX

structure Ho (P : Program) (w : World) (K : PySem.W.Frag) (mg : Str → Option Value) (base : Heap) (T : List (Addr × Str)) (k kk : Nat) (x : Str) (ps : List Str) (n : Nat) (F : FD) : Prop where
  ex : ∃ (f : Addr) (fd : FuncData), HoOk P w K mg base T kk k f fd ps F ∧ mg x = some (.ref f) ∧ PySem.W.keepIn K (.ref f) = true ∧ Binds K fd ps []
  len : ps.length = n
section
variable {P : Program} {w : World} {K : PySem.W.Frag} {mg : Str → Option Value} {base : Heap} {T : List (Addr × Str)}
theorem ho_def {x qual : Str} {st : Stmt} {f : Addr} {N ps : List Str} {k kk n : Nat} {m : MS} (F : ∃ fd, FunD K x qual (defArgs st) (defBody st) (defScope st) [] [] f fd) (hm : mg x = some (.ref f)) (S : FnScope N ps (defScope st)) (hn : ps.length = n)
    (hbi : ∀ (kV doc pm : Value) (an : Option Addr) (cdv ct : Value) (us : List Value), us.length = ps.length → bindArgs (PySem.W.fnOf x qual (defArgs st) (defBody st) (defScope st) .none kV doc pm an cdv ct) ⟨us, []⟩ = pure (ps.zip us))
    (hb : ∀ (cd : Value), cd = codeV K f → ∀ (A : Around) (outer : List Env) (s : Shared) (H : Hp) (Φ : Fx), Room k (CtxF P w K mg base N qual (defScope st) f cd A outer s H E0).A → FxX (CtxF P w K mg base N qual (defScope st) f cd A outer s H E0) T kk Φ →
      PDss (CtxF P w K mg base N qual (defScope st) f cd A outer s H E0) T Φ (defBody st) m) :
    Ho P w K mg base T (k + 1) kk x ps n (bodyF (N.length - n) m) := by
  obtain ⟨fd, F⟩ := F
  subst hn
  exact ⟨⟨f, fd, ho_of (fun_D F) S hb, hm, F.kp, F.bindsN hbi⟩, rfl⟩
end
section
variable {X : Cx} {T : List (Addr × Str)} {Φ : Fx} {B : Nat → Bool} {a b : Expr} {es : List Expr} {ma mb : ME} {ml : MF} {pos p : Pos} {k j kk n : Nat} {F : FD} {x : Str} {ps : List Str}
theorem pd_h (D : Ho X.prog X.w X.K X.mg X.base T j kk x ps n F) (hr : Room k X.A) (hg : Gl X x) (ha : PL X T Φ B kk (a :: es) ml) (hj : j ≤ k := by decide)
    (hdb : (x == ("__debug__" : Str)) = false := by decide) (he : starEach (a :: es) X.env = (false, eval a X.env) :: starEach es X.env := by rfl) (hpl : (backTo pos (starEach es X.env)).any (·.1) = false := by rfl) :
    PDe X T Φ B (.Call (.Name x p) (a :: es) [] pos) (eHo n F ml) := by
  obtain ⟨f, fd, G, hm, hk, hb⟩ := D.ex
  exact pd_ho G (hr.mono hj) hg hm hk hb ha D.len hdb he hpl
/-- the tables' names are told apart -/
def TU (T : List (Addr × Str)) : Prop := ∀ p ∈ T, ∀ q ∈ T, p.1 = q.1 → p.2 = q.2
theorem pl_l {kb kΦ : Nat} {c P : Addr} {params : Arguments} {body : Expr} {scope : Scope} {lpos : Pos} (N qs fr : List Str) (js : List Nat) {mb : ME} (hex : X.ex = []) (TB : TabB X.base X.mg c P) (hcode : X.env.code = .ref c) (hm : (P, X.env.qual ++ "<lambda>") ∈ T) (hu : TU T)
    (hdef : defaultsOf params X.env = ([], [])) (hfree : ndefB X.env.scope scope fr = true) (hjs : js.map (fun j => X.N[j]?) = fr.map some) (S : nscB N qs fr scope = true) (hl : js.length = fr.length)
    (hbind : ∀ (q : Str) (cl : List (Str × Addr)) (pm cv ctv : Value) (us : List Value), us.length = qs.length → bindArgs (PySem.W.kla_fn "<lambda>" q params body scope cl pm cv ctv) ⟨us, []⟩ = pure (qs.zip us)) (hΦ : FxX X T kΦ Φ)
    (hb : ∀ (f c' : Addr) (cl : List (Str × Addr)) (A : Around) (outer : List Env) (s1 : Shared) (H1 : Hp), Room kb (LamC X N params scope f c' cl A outer s1 H1).A → FxX (LamC X N params scope f c' cl A outer s1 H1) T kΦ Φ → PDe (LamC X N params scope f c' cl A outer s1 H1) T Φ B0 body mb) :
    PL X T Φ B (kb + 1) [.Lambda params body scope lpos] (lLam qs.length (N.length - qs.length - fr.length) js mb) :=
  pl_lam hex TB hcode hm (fun q hq e => hu q hq _ hm e) hdef (ndef_free hfree) (ndef_fr hfree) hjs (nscope_by S) hl hbind hΦ hb
theorem pl_d {qual : Str} {st : Stmt} (D : Def X.prog X.w X.K X.mg X.base T j x qual st ps n F) (hr : j ≤ kk) (hg : Gl X x) (hd : (x == ("__debug__" : Str)) = false := by decide) : PL X T Φ B kk [.Name x p] (lFn (fnG n F)) := by
  obtain ⟨f, fd, G, hm, hk, hb, Fu⟩ := D.ex
  exact pl_fn G Fu hr hg hm hb hd
/-! orders by all data, sorted -/
theorem c_ltD (hr : Room k X.A) (ha : PDe X T Φ B a ma) (hb : PDe X T Φ B b mb) : PDe X T Φ B (.Compare a [.Lt] [b] pos) (e2 (gCmpD PySem.W.dataLt) ma mb) := pd_cmp (or_ltD (hu_of hr)) rd_cmpD ha hb
theorem c_geD (hr : Room k X.A) (ha : PDe X T Φ B a ma) (hb : PDe X T Φ B b mb) : PDe X T Φ B (.Compare a [.GtE] [b] pos) (e2 (gCmpD fun d e => !PySem.W.dataLt d e) ma mb) := pd_cmp (or_geD (hu_of hr)) rd_cmpD ha hb
theorem t_ltD (hr : Room k X.A) (ha : PDe X T Φ B a ma) (hb : PDe X T Φ B b mb) : PDt X T Φ B (.Compare a [.Lt] [b] pos) (tV (e2 (gCmpD PySem.W.dataLt) ma mb)) := pt_cmp (or_ltD (hu_of hr)) rd_cmpD ha hb
theorem t_geD (hr : Room k X.A) (ha : PDe X T Φ B a ma) (hb : PDe X T Φ B b mb) : PDt X T Φ B (.Compare a [.GtE] [b] pos) (tV (e2 (gCmpD fun d e => !PySem.W.dataLt d e) ma mb)) := pt_cmp (or_geD (hu_of hr)) rd_cmpD ha hb
theorem b_sorted (hr : Room k X.A) (hm : X.mg "sorted" = none) (hg : Gl X "sorted") {mas : MA} (ha : PDa X T Φ B (a :: es) mas) (he : starEach (a :: es) X.env = (false, eval a X.env) :: starEach es X.env := by rfl) (hpl : (backTo pos (starEach es X.env)).any (·.1) = false := by rfl) :
    PDe X T Φ B (.Call (.Name "sorted" p) (a :: es) [] pos) (eL (gl1 gSort) mas) := pd_callB (cr_sortD (hu_of hr)) rl_sortD hg hm (by decide +kernel) ha (by decide) (by decide) he hpl
end
end PD
end
section
set_option linter.all false
set_option maxRecDepth 100000
set_option maxHeartbeats 4000000
/-! P21: constants of the module. -/
namespace PD
open PySem PySem.Spec PyProof.Rows L2

mutual
/-- the value u is the datum d, all of it in the written part -/
def kV (K : PySem.W.Frag) (u : Value) : D → Bool
  | .none => match u with
    | .none => true
    | _ => false
  | .bool b => match u with
    | .bool c => b == c
    | _ => false
  | .int i => match u with
    | .int j _ => decide (i = j)
    | _ => false
  | .str x => match u with
    | .str y _ => decide (x = y)
    | _ => false
  | .tuple ds => match u with
    | .ref a => (match K.lookup a with
      | some ⟨.type c, _, .seq its _, _⟩ => !textsD ds && (decide (c = "tuple") && (decide (its.size ≤ sizeLine) && kVA K its.toList ds))
      | _ => false)
    | _ => false
  | .list _ => false
  | .dict _ => false
def kVA (K : PySem.W.Frag) (us : List Value) : List D → Bool
  | [] => us.isEmpty
  | d :: ds => match us with
    | u :: r => kV K u d && kVA K r ds
    | [] => false
end
section
variable {K : PySem.W.Frag}
mutual
theorem kV_ok : ∀ (d : D) (u : Value), kV K u d = true → ∃ v, RelV v u ∧ ∀ H, Rp K H v d
  | .none, u, h => by
    unfold kV at h
    split at h
    · exact ⟨.non, rfl, fun _ => rfl⟩
    · cases h
  | .bool b, u, h => by
    unfold kV at h
    split at h
    · exact ⟨.bl b, by rw [beq_iff_eq.mp h]; rfl, fun _ => rfl⟩
    · cases h
  | .int i, u, h => by
    unfold kV at h
    split at h
    · exact ⟨.int i, ⟨_, by rw [of_decide_eq_true h]⟩, fun _ => rfl⟩
    · cases h
  | .str x, u, h => by
    unfold kV at h
    split at h
    · exact ⟨.str x, ⟨_, by rw [of_decide_eq_true h]⟩, fun _ => rfl⟩
    · cases h
  | .tuple ds, u, h => by
    unfold kV at h
    split at h
    · rename_i a
      split at h
      · rename_i c od its n sl e
        obtain ⟨h0, h⟩ := Bool.and_eq_true_iff.mp h
        obtain ⟨h1, h⟩ := Bool.and_eq_true_iff.mp h
        obtain ⟨h2, h3⟩ := Bool.and_eq_true_iff.mp h
        obtain ⟨vs, r, p⟩ := kVA_ok ds _ h3
        refine ⟨.ref a, rfl, fun H => ⟨a, vs, rfl, SqK.of (.inr ⟨_, its, n, e, by rw [of_decide_eq_true h1], rfl, of_decide_eq_true h2, r⟩) (by simpa using h0), p H⟩⟩
      · cases h
    · cases h
  | .list _, _, h => by simp [kV] at h
  | .dict _, _, h => by simp [kV] at h
theorem kVA_ok : ∀ (ds : List D) (us : List Value), kVA K us ds = true → ∃ vs, Vals vs us ∧ ∀ H, RpA K H vs ds
  | [], us, h => by
    unfold kVA at h
    rw [List.isEmpty_iff.mp h]
    exact ⟨[], .nil, fun _ => rfl⟩
  | d :: ds, us, h => by
    unfold kVA at h
    split at h
    · obtain ⟨h1, h2⟩ := Bool.and_eq_true_iff.mp h
      obtain ⟨v, r1, p1⟩ := kV_ok d _ h1
      obtain ⟨vs, r2, p2⟩ := kVA_ok ds _ h2
      exact ⟨v :: vs, .cons r1 r2, fun H => ⟨v, vs, rfl, p1 H, p2 H⟩⟩
    · cases h
end
end
/-- x is the constant d -/
def Cst (K : PySem.W.Frag) (mg : Str → Option Value) (x : Str) (d : D) : Prop := ∃ v u, mg x = some u ∧ RelV v u ∧ ∀ H, Rp K H v d
def cstB (K : PySem.W.Frag) (x : Str) (d : D) : Bool := match PySem.W.nsIn K mainGlobals x with
  | some (some u) => kV K u d
  | _ => false
/-- x is the constant tuple of texts ds: it may be asked what is in it -/
def CstT (K : PySem.W.Frag) (mg : Str → Option Value) (x : Str) (d : D) : Prop := ∃ a vs ds, d = .tuple ds ∧ mg x = some (.ref a) ∧ (∀ H, SqT K H a vs) ∧ ∀ H, RpA K H vs ds
def cstTB (K : PySem.W.Frag) (x : Str) (d : D) : Bool := match d with
  | .tuple ds => (match PySem.W.nsIn K mainGlobals x with
    | some (some (.ref a)) => (match K.lookup a with
      | some ⟨.type c, _, .seq its _, _⟩ => decide (c = "tuple") && (decide (its.size ≤ sizeLine) && kVA K its.toList ds)
      | _ => false)
    | _ => false)
  | _ => false
section
variable {X : Cx} {T : List (Addr × Str)} {Φ : Fx} {B : Nat → Bool} {a : Expr} {ma : ME} {x : Str} {d : D} {pos p : Pos} {k : Nat}
theorem c_notinK (hr : Room k X.A) (ha : PDe X T Φ B a ma) (hg : Gl X x) (c : CstT X.K X.mg x d) (hd : (x == ("__debug__" : Str)) = false := by decide) (hm : behindInMarks .NotIn (.Name x p) = false := by rfl) : PDe X T Φ B (.Compare a [.NotIn] [.Name x p] pos) (e2 gNotIn ma (eC d)) := by
  obtain ⟨l, vs, ds, rfl, hmg, hs, hp⟩ := c
  refine PE.cons (pe_cmpR (or_notIn40 hr.units) ha (pe_glob (v := .ref l) hg hmg rfl hd) hm) fun σ H Q ⟨A, Z, ρ, μ, d', μ', R, hmm, kq⟩ => ?_
  unfold e2 at hmm
  cases e : ma ρ μ with
  | none => rw [e] at hmm; cases hmm
  | some q =>
    rw [e, Option.bind_some] at hmm
    have hmm : ((gNotIn q.1 (.tuple ds)).map fun d => (d, q.2)) = some (d', μ') := hmm
    have g : gNotIn q.1 (.tuple ds) = (anyF q.1 ds).map fun b => .bool (!b) := by cases q.1 <;> rfl
    rw [g] at hmm
    cases e2 : anyF q.1 ds with
    | none => rw [e2] at hmm; cases hmm
    | some b =>
      rw [e2] at hmm
      cases hmm
      exact ⟨A, Z, ρ, μ, q.1, q.2, R, e, fun y H1 f1 R1 p1 => ⟨_, l, vs, ds, b, rfl, .inr (hs H1), hidRp p1, hp H1, e2, kq _ H1 f1 R1 rfl⟩⟩
end
theorem pd_cst {X : Cx} {T : List (Addr × Str)} {Φ : Fx} {B : Nat → Bool} {x : Str} {d : D} {pos : Pos} (hg : Gl X x) (c : Cst X.K X.mg x d) (hd : (x == ("__debug__" : Str)) = false := by decide) : PDe X T Φ B (.Name x pos) (eC d) := by
  obtain ⟨v, u, hm, r, hp⟩ := c
  exact pd_glob hg hm r hp hd
end PD
end
section
set_option linter.all false
set_option maxRecDepth 100000
set_option maxHeartbeats 4000000
/-! P22: two names stored at once; a def that calls itself. -/
namespace PD
open PySem PySem.Spec PyProof.Rows L2

def sPar (B : Nat → Bool) (i j : Nat) (mas : MA) : MS := fun _ ρ μ => (mas ρ μ).bind fun p => match p.1 with
  | [d1, d2] => if (∀ k, k < ρ.length → B k = false) ∨ (flat d1 && flat d2) = true then some (.next ((ρ.set i (.val d1)).set j (.val d2)) p.2) else none
  | _ => none
section
variable {X : Cx} {T : List (Addr × Str)} {Φ : Fx} {a b : Expr} {mas : MA} {pos : Pos}
theorem s_par (B : Nat → Bool) (i j : Nat) {x y : Str} {px py pt : Pos} {kt k2 pt2} (hc : X.calm = true) (hN : X.N.Nodup) (ha : PDa X T Φ B [a, b] mas) (hij : i ≠ j := by decide) (hi : X.N[i]? = some x := by rfl) (hj : X.N[j]? = some y := by rfl)
    (hx : X.env.scope.names.lookup x = some .local := by rfl) (hy : X.env.scope.names.lookup y = some .local := by rfl)
    (hw : swappedStores [.Tuple [.Name x px, .Name y py] kt pt] (.Tuple [a, b] k2 pt2) X.env = pure (some [x, y]) := by rfl)
    (hs : swapsWithSole [.Tuple [.Name x px, .Name y py] kt pt] (.Tuple [a, b] k2 pt2) pos.line X.env = pure false := by rfl) :
    PDs X T Φ (.Assign [.Tuple [.Name x px, .Name y py] kt pt] (.Tuple [a, b] k2 pt2) pos) (sPar B i j mas) := PS.cons (ps_par hc hN hi hj hij hx hy ha hw hs) fun Dn σ H ⟨A, Z, n0, ρ, μ, fl, R, hn, hm, k⟩ => by
  unfold sPar at hm
  cases e : mas ρ μ with
  | none => rw [e] at hm; cases hm
  | some p =>
    rw [e, Option.bind_some] at hm
    split at hm
    · rename_i d1 d2 ed
      split at hm
      · rename_i hb
        cases hm
        refine ⟨A, Z, ρ, μ, p.1, p.2, R, e, fun vs H1 f1 R1 p1 => ?_⟩
        rw [ed] at p1
        obtain ⟨v, _, rfl, q1, w, _, rfl, q2, rfl⟩ := p1
        have see : ∀ {v : V} {d : D}, ((∀ k, k < ρ.length → B k = false) ∨ flat d = true) → Rp X.K (hid H1 (Zw B ρ A Z)) v d → Rp X.K (hid H1 fun a => Z a ∨ a ∈ A) v d := fun {v d} h q => by
          rcases h with h | h
          · refine Rp.mono (hid_le fun x z => ?_) _ _ q
            rcases z with z | z
            · exact .inl z
            · obtain ⟨kk, hk⟩ := List.mem_iff_getElem?.mp z
              refine .inr ⟨kk, hk, fun ⟨i, hB, ei⟩ => ?_⟩
              rw [h i (List.getElem?_eq_some_iff.mp ei).1] at hB
              cases hB
          · exact Rp.ofFlat (R1.tus fun _ z => z.elim (fun z => .inl (.inl z)) .inr) _ _ h q
        have h1 : (∀ k, k < ρ.length → B k = false) ∨ flat d1 = true := hb.imp_right fun z => (Bool.and_eq_true_iff.mp z).1
        have h2 : (∀ k, k < ρ.length → B k = false) ∨ flat d2 = true := hb.imp_right fun z => (Bool.and_eq_true_iff.mp z).2
        exact ⟨v, w, rfl, k _ H1 A (Fs.of (f1.mono fun _ h => h.mem)) ((R1.setVal i (see h1 q1)).setVal j (see h2 q2))⟩
      · cases hm
    · cases hm
end
section
variable {X : Cx} {T : List (Addr × Str)} {Φ : Fx} {B : Nat → Bool} {a : Expr} {ma : ME} {pos pos' : Pos} {j : Nat}
theorem t_isN (ha : PDe X T Φ B a ma) : PDt X T Φ B (.Compare a [.Is] [.Constant .none j pos'] pos) (tV (e1 gIsN ma)) := PT.cons (L2.pt_cmp (pc_isN ha)) fun σ H Q ⟨A, Z, ρ, μ, d, μ', R, hm, k⟩ => by
  have hm := tV_some hm
  unfold e1 at hm
  cases e : ma ρ μ with
  | none => rw [e] at hm; cases hm
  | some p =>
    rw [e, Option.bind_some] at hm
    refine ⟨A, Z, ρ, μ, p.1, p.2, R, e, fun x H1 f1 R1 p1 => ?_⟩
    dsimp only
    rw [rp_none p1]
    cases hm
    exact ⟨_, rfl, k H1 f1 R1⟩
theorem t_notN (ha : PDe X T Φ B a ma) : PDt X T Φ B (.Compare a [.IsNot] [.Constant .none j pos'] pos) (tV (e1 gNotN ma)) := PT.cons (L2.pt_cmp (pc_notN ha)) fun σ H Q ⟨A, Z, ρ, μ, d, μ', R, hm, k⟩ => by
  have hm := tV_some hm
  unfold e1 at hm
  cases e : ma ρ μ with
  | none => rw [e] at hm; cases hm
  | some p =>
    rw [e, Option.bind_some] at hm
    refine ⟨A, Z, ρ, μ, p.1, p.2, R, e, fun x H1 f1 R1 p1 => ?_⟩
    dsimp only
    rw [rp_none p1]
    cases hm
    exact ⟨_, rfl, k H1 f1 R1⟩
end
section
variable {X : Cx} {T : List (Addr × Str)} {Φ : Fx} {B : Nat → Bool} {ma : ME} {mf mi : MA} {g : MG} {mt : MT} {me : ME}
theorem tF_of {σ : L2.St} {H : Hp} {Q : VK} (h : tE X.K T Φ B (eF mf) σ H Q) : tF X.K T Φ B mf σ H Q := by
  obtain ⟨A, Z, ρ, μ, d, μ', R, hm, k⟩ := h
  unfold eF at hm
  cases e : mf ρ μ with
  | none => rw [e] at hm; cases hm
  | some p =>
    rw [e] at hm; cases hm
    refine ⟨A, Z, ρ, μ, p.1, p.2, R, e, fun l vs H1 f1 nz R1 n0 h1 h2 => k _ H1 f1 (R1.weakZ fun _ z => .inl z) ⟨l, vs, rfl, hid_rd_of (.inl h1) ?_, RpA.mono (hid_le fun x z => z.elim (fun z => .inl (.inl z)) .inr) _ _ h2⟩⟩
    rintro (z | z)
    · exact nz z
    · exact (R1.zo l (.inr rfl)).1 z.mem
theorem set_of {i : Nat} {Dn : Ends} {σ : L2.St} {H : Hp} (h : tS X.K T Φ (sAs ma (gN i)) Dn σ H) : tAsg (tE X.K T Φ B0 ma) (gName i) Dn σ H := by
  obtain ⟨A, Z, n0, ρ, μ, fl, R, hn, hm, k⟩ := h
  unfold sAs at hm
  cases e : ma ρ μ with
  | none => rw [e] at hm; cases hm
  | some p =>
    rw [e] at hm; cases hm
    refine ⟨A, Z, ρ, μ, p.1, p.2, R, e, fun v H1 f1 R1 p1 => ?_⟩
    exact k _ H1 A (Fs.of (f1.mono fun _ h => h.mem)) (R1.setVal i (Rp.mono (hid_le fun a h => zw0.mpr h) _ _ p1))
/-- name = [..] on one line -/
theorem s_setLc {elt tg iter : Expr} {ifs : List Expr} {scope : Scope} (own : List (Str × Nat)) {y : Str} {py pos spos : Pos} (i : Nat) (hc : X.calm = true) (hN : X.N.Nodup) (hi : PDi X T Φ B0 tg iter mi) (ok : BlkOk X.N X.env.scope scope own)
    (hg : ∀ (s : Shared) (H : Hp) (C : Addr) (cl : List (Str × Addr)) (fp : List Addr), PDc (X.blk s H scope (compEnvC scope cl C X.env) fp) T Φ (own.map (·.2)) tg g) (ht : ∀ (s : Shared) (H : Hp) (C : Addr) (cl : List (Str × Addr)) (fp : List Addr), PDts (X.blk s H scope (compEnvC scope cl C X.env) fp) T Φ B0 ifs mt)
    (he : ∀ (s : Shared) (H : Hp) (C : Addr) (cl : List (Str × Addr)) (fp : List Addr), PDe (X.blk s H scope (compEnvC scope cl C X.env) fp) T Φ B0 elt me) (hy : X.N[i]? = some y := by rfl) (hyl : X.env.scope.names.lookup y = some .local := by rfl)
    (hsw : swapsWith (.ListComp elt [⟨tg, iter, ifs, 0⟩] scope pos) (some (.Name y py)) spos.line X.env = pure true := by rfl) (hs : ∀ x, foldedSetIterable iter X.env x = pure x := by intro _; rfl) :
    PDs X T Φ (.Assign [.Name y py] (.ListComp elt [⟨tg, iter, ifs, 0⟩] scope pos) spos) (sAs (eF (mLc true mi (own.map (·.2)) g mt me)) (gN i)) :=
  PS.cons (ps_setLc hc hN hy hyl hsw hi ok hg ht he hs) fun Dn σ H h => lc_of (sb := true) (fun _ => rfl) σ H _ (tF_of (set_of h))
end
theorem def_zero {P : Program} {w : World} {K : PySem.W.Frag} {mg : Str → Option Value} {base : Heap} {T : List (Addr × Str)} {x qual : Str} {st : Stmt} {f : Addr} {ps : List Str} {n : Nat} (F : ∃ fd, FunD K x qual (defArgs st) (defBody st) (defScope st) [] [] f fd) (hm : mg x = some (.ref f)) (hn : ps.length = n)
    (hbi : ∀ (kV doc pm : Value) (an : Option Addr) (cdv ct : Value) (us : List Value), us.length = ps.length → bindArgs (PySem.W.fnOf x qual (defArgs st) (defBody st) (defScope st) .none kV doc pm an cdv ct) ⟨us, []⟩ = pure (ps.zip us)) (k : Nat) :
    Def P w K mg base T k x qual st ps n fun _ _ => none := by
  obtain ⟨fd, F⟩ := F
  subst hn
  refine ⟨⟨f, fd, ⟨fun vs H Q E h => h.1, fun A outer s H args us vs Q E _ _ _ _ h => ?_⟩, hm, F.kp, F.bindsN hbi, fun_D F⟩, rfl⟩
  obtain ⟨_, A, Z, as, cs, d, cs', R, hm, _⟩ := h
  cases hm
end PD
end
section
set_option linter.all false
set_option maxRecDepth 100000
set_option maxHeartbeats 4000000
/-! P23: defs that give back a new list. -/
namespace PD
open PySem PySem.Spec PyProof.Rows L2

abbrev FDF := List Slot → Option (List D)
/-- as spD, no cells lent; the value is a new list -/
def spF (K : PySem.W.Frag) (T : List (Addr × Str)) (n : Nat) (F : FDF) : Sp := fun vs H Q _ => vs.length = n ∧ ∃ Z as ds, Rep K T noFx [] Z (vs.map some) H as [] ∧ F as = some ds ∧
  ∀ a xs H', Fw (fun _ => False) H H' → ¬ Z a → (∀ x, Z x ∨ x = a → ¬ Fr H' x) → LamX.Tabs T H' → Fr H a → H' a = some (.lst xs) → RpA K (hid H' fun x => Z x ∨ x = a) xs ds → Q (.ref a) H'
/-- a block that ends by giving a new list back (no cells) -/
def tSF (K : PySem.W.Frag) (T : List (Addr × Str)) (m : List Slot → Option (List D)) : TS := fun Dn σ H => ∃ Z ρ ds, Rep K T noFx [] Z σ H ρ [] ∧ m ρ = some ds ∧
  ∀ a xs H', Fw (fun _ => False) H H' → ¬ Z a → (∀ x, Z x ∨ x = a → ¬ Fr H' x) → LamX.Tabs T H' → Fr H a → H' a = some (.lst xs) → RpA K (hid H' fun x => Z x ∨ x = a) xs ds → Dn.rt (.ref a) H'
def fRet (mf : MA) : List Slot → Option (List D) := fun ρ => (mf ρ []).bind fun p => if p.2.isEmpty then some p.1 else none
def fSeq (ms : MS) (mr : List Slot → Option (List D)) : List Slot → Option (List D) := fun ρ => (ms 0 ρ []).bind fun fl => match fl with
  | .next ρ' [] => mr ρ'
  | _ => none
section
variable {X : Cx} {T : List (Addr × Str)} {a : Expr} {mf : MA} {st : Stmt} {sts : List Stmt} {ms : MS} {mr : List Slot → Option (List D)} {pos : Pos}
theorem no_wr {B : Nat → Bool} {ρ : List Slot} {a : Addr} : ¬ Wr B ρ [] a := fun ⟨k, e, _⟩ => by simp at e
theorem sf_ret (ha : PDf X T noFx B0 a mf) : PSs X [.Return (some a) pos] (tSF X.K T (fRet mf)) := pss_one (PS.cons (ps_ret ha) fun Dn σ H ⟨Z, ρ, ds, R, hm, k⟩ => by
  unfold fRet at hm
  cases e : mf ρ [] with
  | none => rw [e] at hm; cases hm
  | some p =>
    rw [e, Option.bind_some] at hm
    split at hm
    · rename_i hemp
      cases hm
      refine ⟨[], Z, ρ, [], p.1, p.2, R, e, fun l vs H1 f1 nz R1 n0 h1 h2 => k l vs H1 (f1.mono fun x h => (no_wr h).elim) nz (fun x hx => (R1.zo x hx).2) R1.tabs n0 h1 ?_⟩
      rw [zw_nil] at h2
      exact h2
    · cases hm)
theorem sf_c (h1 : PDs X T noFx st ms) (h2 : PSs X sts (tSF X.K T mr)) : PSs X (st :: sts) (tSF X.K T (fSeq ms mr)) := PSs.cons (pss_cons h1 h2) fun Dn σ H ⟨Z, ρ, ds, R, hm, k⟩ => by
  unfold fSeq at hm
  cases e : ms 0 ρ [] with
  | none => rw [e] at hm; cases hm
  | some fl =>
    rw [e, Option.bind_some] at hm
    split at hm
    · rename_i ρ'
      refine ⟨[], Z, 0, ρ, [], _, R, Nat.le_refl _, e, fun σ1 H1 A1 f1 R1 => ?_⟩
      have eA : A1 = [] := List.eq_nil_of_length_eq_zero (by rw [R1.alen]; rfl)
      subst eA
      refine ⟨Z, ρ', ds, R1, hm, fun a xs H2 f2 nz nf tb fr h1 h2 => k a xs H2 ((f1.fw.mono fun x h => by simp at h).trans f2) nz nf tb (f1.fw.there a fr) h1 h2⟩
    · cases hm
/-- .. called: the list is one's own -/
def mCallF (n : Nat) (F : FDF) (m : MA) : MA := fun ρ μ => (m ρ μ).bind fun p => if p.1.length = n then (F (p.1.map .val)).map fun ds => (ds, p.2) else none
end
structure DefF (P : Program) (w : World) (K : PySem.W.Frag) (mg : Str → Option Value) (base : Heap) (T : List (Addr × Str)) (k : Nat) (x : Str) (ps : List Str) (n : Nat) (F : FDF) : Prop where
  ex : ∃ (f : Addr) (fd : FuncData), FnOk P w K mg base CX0 k f fd ps (spF K T n F) ∧ mg x = some (.ref f) ∧ PySem.W.keepIn K (.ref f) = true ∧ Binds K fd ps []
  len : ps.length = n
def bodyFF (n : Nat) (m : List Slot → Option (List D)) : FDF := fun as => m (as ++ List.replicate n .non)
section
variable {P : Program} {w : World} {K : PySem.W.Frag} {mg : Str → Option Value} {base : Heap} {T : List (Addr × Str)}
theorem defF_of {x qual : Str} {st : Stmt} {f : Addr} {N ps : List Str} {k n : Nat} {m : List Slot → Option (List D)} (F : ∃ fd, FunD K x qual (defArgs st) (defBody st) (defScope st) [] [] f fd) (hm : mg x = some (.ref f)) (S : FnScope N ps (defScope st)) (hn : ps.length = n)
    (hbi : ∀ (kV doc pm : Value) (an : Option Addr) (cdv ct : Value) (us : List Value), us.length = ps.length → bindArgs (PySem.W.fnOf x qual (defArgs st) (defBody st) (defScope st) .none kV doc pm an cdv ct) ⟨us, []⟩ = pure (ps.zip us))
    (hb : ∀ (cd : Value), cd = codeV K f → ∀ (A : Around) (outer : List Env) (s : Shared) (H : Hp) (E : XK), Room k (CtxF P w K mg base N qual (defScope st) f cd A outer s H E).A → PSs (CtxF P w K mg base N qual (defScope st) f cd A outer s H E) (defBody st) (tSF K T m)) :
    DefF P w K mg base T (k + 1) x ps n (bodyFF (N.length - n) m) := by
  obtain ⟨fd, F⟩ := F
  subst hn
  have Fu := fun_D F
  refine ⟨⟨f, fd, ?_, hm, F.kp, F.bindsN hbi⟩, rfl⟩
  obtain ⟨oc, od, kV, doc, pm, an, cdv, ct, osl, rfl, lk, hcd⟩ := Fu.ex
  refine fn_of lk hcd S (fun vs H Q E h => h.1) fun A outer s H vs Q E hr h => ⟨_, (hb cdv (by unfold codeV; rw [lk]) A outer s H E hr).nox, ?_⟩
  obtain ⟨hl, Z, as, ds, R, hm, k⟩ := h
  have la : as.length = vs.length := by rw [R.len, List.length_map]
  refine ⟨Z, as ++ List.replicate (N.length - ps.length) .non, ds, ⟨by unfold L2.start; rw [List.length_append, List.length_append, List.length_replicate, List.length_replicate, List.length_map, la, hl], R.alen, R.nd, R.zo, R.tabs, R.cell, fun i s' e => ?_⟩, (show m (as ++ List.replicate (N.length - ps.length) Slot.non) = some ds from hm), k⟩
  unfold L2.start
  by_cases hi : i < as.length
  · rw [List.getElem?_append_left hi] at e
    rw [List.getElem?_append_left (by rw [List.length_map, ← la]; exact hi)]
    exact R.slot i s' e
  · rw [List.getElem?_append_right (by omega), List.getElem?_replicate] at e
    split at e
    · cases e; trivial
    · cases e
end
section
variable {X : Cx} {T : List (Addr × Str)} {Φ : Fx} {B : Nat → Bool} {a : Expr} {es : List Expr} {mas : MA} {pos p : Pos} {k j n : Nat} {F : FDF} {x : Str} {ps : List Str}
theorem pf_d (D : DefF X.prog X.w X.K X.mg X.base T j x ps n F) (hr : Room k X.A) (hg : Gl X x) (ha : PDa X T Φ B (a :: es) mas) (hj : j ≤ k := by decide)
    (hdb : (x == ("__debug__" : Str)) = false := by decide) (he : starEach (a :: es) X.env = (false, eval a X.env) :: starEach es X.env := by rfl) (hpl : (backTo pos (starEach es X.env)).any (·.1) = false := by rfl) :
    PDf X T Φ B (.Call (.Name x p) (a :: es) [] pos) (mCallF n F mas) := by
  obtain ⟨f, fd, G, hm, hk, hb⟩ := D.ex
  refine PE.cons (pe_call G (hr.mono hj) hg hm hk hb .nil pass0 ha hdb he hpl) fun σ H Q ⟨A, Z, ρ, μ, ds, μ', R, hmm, kq⟩ => ?_
  unfold mCallF at hmm
  cases e : mas ρ μ with
  | none => rw [e] at hmm; cases hmm
  | some w =>
    rw [e, Option.bind_some] at hmm
    split at hmm
    · rename_i hl
      cases e2 : F (w.1.map .val) with
      | none => rw [e2] at hmm; cases hmm
      | some q =>
        rw [e2] at hmm
        cases hmm
        refine ⟨A, Z, ρ, μ, w.1, w.2, R, e, fun vs H1 f1 R1 p1 => ?_⟩
        show spF X.K T n F (vs ++ []) H1 Q E0
        rw [List.append_nil]
        refine ⟨by rw [p1.length]; exact hl, Zw B ρ A Z, w.1.map .val, ds, rep_vals R1.trackF R1.tabs p1, e2, fun a xs H2 f2 nz nf tb fr h1 h2 => ?_⟩
        have R2 := R1.calm f2 tb
        have na : a ∉ A := fun h => by
          obtain ⟨ys, ey, co⟩ := R1.cellAt h
          exact fr_not ey (fun ps z => by rw [z] at co; cases co) fr
        have nZ : ¬ Z a := fun z => nz (.inl z)
        have le : ∀ {x : Addr}, (hid H2 fun x => Z x ∨ x ∈ A) x = none ∨ True := fun {x} => .inr trivial
        have xt : XT (hid H1 fun x => Z x ∨ x ∈ A) (hid H2 fun x => (Z x ∨ x = a) ∨ x ∈ A) := fun b o eb t => by
          have q := of_hid eb
          have nb : b ≠ a := fun z => fr_not q.1 t (by rw [z]; exact fr)
          rw [hid_of]
          · exact f2.keep b o q.1 id t
          · rintro ((z | z) | z)
            · exact q.2 (.inl z)
            · exact nb z
            · exact q.2 (.inr z)
        refine kq a xs H2 (f1.trans (f2.mono fun _ h => h.elim)) nZ ⟨R1.len, R1.alen, R1.nd, fun x z => ?_, tb, fun kk c x e1 e3 => (R1.cell kk c x e1 e3).xt xt fun o eo t => f2.keep x o eo id t, fun i s es => (R1.slot i s es).xt xt⟩ (f1.there a fr) h1 (RpA.mono (hid_le fun x z => ?_) _ _ h2)
        · rcases z with z | z
          · exact ⟨(R1.zo x z).1, nf x (.inl (.inl z))⟩
          · rw [z]; exact ⟨na, nf a (.inr rfl)⟩
        · rcases z with (z | z) | z
          · exact .inl (.inl z)
          · exact .inr z
          · exact .inl (.inr z)
    · cases hmm
end
end PD
end
section
set_option linter.all false
set_option maxRecDepth 100000
set_option maxHeartbeats 4000000
/-! P24: sorted(set(t)) of a tuple of texts. -/
namespace PD
open PySem PySem.Spec PyProof.Rows L2 PySem.Froz

/-- the texts of a tuple, each once, in order -/
def gSSet : G1
  | .tuple ds => (strsOf ds).bind fun xs => if xs.length < 60 then some (.list (sortD (xs.eraseDups.map .str))) else none
  | _ => none
/-- the payload holds the texts l, each once, and can be walked -/
structure Tx (P : Program) (w : World) (D : SD) (l : List Str) : Prop where
  ok : TxOk P w D l
  nd : l.Nodup
  ris : Ris D.2.2.place.toList
  led : w.params.followText "set-order" = true ∨ D.2.2.led = true
def nwSet (w : World) : SD := (#[], 0, .fresh 0 0 (!w.params.followText "set-order"))
section
variable {P : Program} {w : World} {A : Around} {E : Value → Shared → Prop} {s : Shared}
theorem tx_new : Tx P w (nwSet w) [] := ⟨TxOk.nil (by rfl), List.nodup_nil, List.Pairwise.nil, by
  show _ ∨ (!w.params.followText "set-order") = true
  cases w.params.followText "set-order"
  · exact .inr rfl
  · exact .inl rfl⟩
theorem tail_ris {ep : Nat} {es1 : Array (Int × Value)} {t2 : SetTable} {d : Bool} (h : Ris t2.place.toList) (hl : w.params.followText "set-order" = true ∨ t2.led = true) : Ris (tailTx ep es1 t2 d).2.2.place.toList ∧ (w.params.followText "set-order" = true ∨ (tailTx ep es1 t2 d).2.2.led = true) := by
  unfold tailTx
  split
  · exact ⟨relayAll_ris _ _ _, hl.imp id fun z => (relayAll_led t2 es1 (SetTable.grown es1.size)).trans z⟩
  · exact ⟨h, hl⟩
theorem tx_add {D : SD} {l : List Str} {k : Str} (u : Tok) (F : Tx P w D l) (hk : k ∉ l) : Tx P w (addTx (hashStr w k) (.str k u) D) (k :: l) := by
  obtain ⟨es, ep, t⟩ := D
  have hr := layNew_ris t es (hashStr w k) (.str k u) F.ris
  have hl : w.params.followText "set-order" = true ∨ (layNew t es (hashStr w k) (.str k u)).2.1.led = true := F.led.imp id fun z => (layNew_led t es (hashStr w k) (.str k u)).trans z
  have q : Ris (addTx (hashStr w k) (.str k u) (es, ep, t)).2.2.place.toList ∧ (w.params.followText "set-order" = true ∨ (addTx (hashStr w k) (.str k u) (es, ep, t)).2.2.led = true) := by
    unfold addTx
    refine tail_ris ?_ ?_
    · split <;> exact hr
    · split <;> exact hl
  exact ⟨add_ok u F.ok, List.nodup_cons.mpr ⟨hk, F.nd⟩, q.1, q.2⟩
/-- a text is put in, there or not -/
theorem tx_put {a : Addr} {D : SD} {l : List Str} {k : Str} {u : Tok} {Q : Bool → Shared → Prop} (ho : s.heap.get? a = some (sObj "set" D)) (F : Tx P w D l) (hb : l.length + 1 < scanBound)
    (h : ∀ b h' D' l', Heap.SameBut a s.heap h' → h'.get? a = some (sObj "set" D') → Tx P w D' l' → (∀ x, x ∈ l' ↔ x ∈ l ∨ x = k) → l'.length ≤ l.length + 1 → Q b { s with heap := h' }) :
    wpAny (model P w) A (setAddHashed a (.str k u) (hashStr w k)) Q E s := by
  by_cases hk : k ∈ l
  · obtain ⟨es, ep, t⟩ := D
    have hd : (sObj "set" (es, ep, t)).data = .set es ep t := rfl
    have hf : t.fits es.size = true := F.ok.fit
    have hel : ElemsOf (strKind P w) es.toList := F.ok.el
    have hb0 : es.size < scanBound := by have : es.size = l.length := F.ok.sz; omega
    have hkey := is_str (P := P) (w := w) k u
    unfold setAddHashed setAddHashedIn
    refine wpAny_holding (wpAny_bind (wpAny_setState_of ho hd hf ?_))
    dsimp only
    rw [byScan_of rfl hb0 hel, if_pos rfl]
    unfold setAddByScan
    refine wpAny_bind (wpAny_bind (wpAny_rule (wpAny_bind (wpAny_setScan_of (knd := strKind P w) (k := k) hkey ho hd hf hel ?_))))
    cases hr : List.findIdx? (fun e => (strKind P w).is k e.2) es.toList with
    | none =>
      obtain ⟨e, he, z⟩ := (F.ok.mem k).mp hk
      rw [List.findIdx?_eq_none_iff.mp hr e he] at z
      cases z
    | some j =>
      refine wpAny_pure (wpAny_pure (h _ s.heap _ l (Heap.SameBut.refl a s.heap) ho F (fun x => ⟨.inl, fun z => z.elim id fun e => by rw [e]; exact hk⟩) (Nat.le_succ _)))
  · refine add_x ho F.ok hk hb ?_
    refine h _ _ _ (k :: l) (Heap.SameBut.update _ a _) (get_upd _ ho rfl) (tx_add u F hk) (fun x => ?_) (by simp)
    rw [List.mem_cons]
    exact Or.comm
/-- the rest of a walk over texts goes into the set -/
theorem tx_update {I : Addr} {fp wr : List Addr} {G : Array GenState → Array GenState → Prop} {n : Nat} {Pv : Nat → Value → Prop} {St : Nat → Shared → Prop} {R : Result → Shared → Prop}
    (W : WalksS P w A.in1 I fp wr G n Pv St) (a : Addr) (ha : a ∉ fp) (xs : List Str) (hn : n = xs.length) (hb : xs.length + 1 < scanBound) (hval : ∀ i v, Pv i v → ∃ k t, xs[i]? = some k ∧ v = .str k t) :
    ∀ (k i : Nat) (s : Shared), n - i = k → i ≤ n → St i s → (∃ D l, s.heap.get? a = some (sObj "set" D) ∧ Tx P w D l ∧ (∀ x, x ∈ l ↔ x ∈ xs.take i) ∧ l.length ≤ i) →
      (∀ s' D l, Moved (a :: wr) G s s' → s'.heap.get? a = some (sObj "set" D) → Tx P w D l → (∀ x, x ∈ l ↔ x ∈ xs) → l.length ≤ n → R (.ok (.ret .none)) s') →
      codeAny (model P w) A (.builtin "set.update.loop" ⟨[.ref a, .ref I], []⟩) R s := by
  have haw : a ∉ wr := fun h => ha (W.sub _ h)
  have hsub : ∀ b ∈ wr, b ∈ a :: wr := fun b hb => List.mem_cons_of_mem _ hb
  intro k; induction k with
  | zero =>
    intro i s hk hi hst ⟨D, l, ho, F, hm, hl⟩ hR
    have hin : i = n := by omega
    rw [hin, hn, List.take_length] at hm
    refine codeAny_builtin PyProof.Rows.F.entry_set_update_loop ?_; rw [Around.under_plainId PyProof.Rows.F.plain_set_update_loop _]
    show wpAny _ A.in1 (pyNext (.ref I) >>= _) _ _ s
    refine wpAny_bind (W.done s _ _ (hin ▸ hst) fun s' mv => ?_)
    exact wpAny_pure (hR s' D l (mv.mono hsub) (mv.heap a _ haw ho) F hm (by omega))
  | succ k ih =>
    intro i s hk hi hst ⟨D, l, ho, F, hm, hl⟩ hR
    have hlt : i < n := by omega
    refine codeAny_builtin PyProof.Rows.F.entry_set_update_loop ?_; rw [Around.under_plainId PyProof.Rows.F.plain_set_update_loop _]
    show wpAny _ A.in1 (pyNext (.ref I) >>= _) _ _ s
    refine wpAny_bind (W.item i s _ _ hlt hst fun v s' hP hst' mv => ?_)
    obtain ⟨z, t, hz, rfl⟩ := hval i v hP
    have ho' := mv.heap a _ haw ho
    show wpAny _ A.in1 (holding [Value.str z t] (setAdd a (.str z t)) >>= _) _ _ s'
    refine wpAny_bind (wpAny_holding ?_)
    unfold setAdd
    refine wpAny_holding (wpAny_bind ((strKind P w).pyHash (is_str (P := P) (w := w) z t) ?_))
    refine tx_put (s := { s' with toks := s'.toks + 1 }) ho' F (by omega) fun b h' D' l' sb ho2 F2 hm2 hl2 => ?_
    have hm3 : ∀ x, x ∈ l' ↔ x ∈ xs.take (i + 1) := fun x => by
      rw [hm2 x, hm x, List.take_add_one, hz]
      simp
    refine wpAny_pure ⟨plainId_quiet PyProof.Rows.F.plain_set_update_loop _, ih (i + 1) _ (by omega) hlt (W.frame _ s' _ _ hst' (Nat.le_succ _) fun b hb o e => ?_) ⟨D', l', ho2, F2, hm3, by omega⟩ fun s2 D2 l2 mv2 ho3 F3 hm4 hl4 => ?_⟩
    · rw [sb.2 b (fun h : b = a => ha (by rw [← h]; exact hb))]; exact e
    · refine hR s2 D2 l2 (Moved.trans W.gtrans ((mv.mono hsub).then_heap (Nat.le_succ _) fun b o hb e => ?_) mv2) ho3 F3 hm4 hl4
      rw [sb.2 b (fun h : b = a => hb (by rw [h]; exact List.mem_cons_self))]; exact e
def TxsAre (vs : List Value) (xs : List Str) : Prop := vs.length = xs.length ∧ ∀ (i : Nat) v, vs[i]? = some v → ∃ k t, xs[i]? = some k ∧ v = .str k t
/-- set(t), t a tuple of texts -/
theorem tx_made {l : Addr} {items : Array Value} (xs : List Str) {Q : Value → Shared → Prop} (hh : A.handled = none) (hl : s.heap.IsTuple l items) (hit : TxsAre items.toList xs) (hb : xs.length + 1 < scanBound)
    (h : ∀ (h' : Heap) (tk : Nat) (D : SD) (ys : List Str), h'.get? s.heap.objs.size = some (sObj "set" D) → Tx P w D ys → (∀ x, x ∈ ys ↔ x ∈ xs) → ys.length ≤ xs.length → (∀ b o, s.heap.get? b = some o → h'.get? b = some o) → Q (.ref s.heap.objs.size) { s with heap := h', toks := tk }) :
    wpAny (model P w) A (call (.type "set") [.ref l]) Q E s := by
  have hisz : items.size = xs.length := hit.1
  obtain ⟨c, tl, hmro⟩ := F.called_set.mro
  have hmade := F.called_set.made
  have hsub := F.called_set.sub
  refine wpAny_call (codeAny_of_tree ?_); show wpAny _ _ (callAny (.type "set") _) _ _ _
  refine wpAny_pure ⟨Code.quiet_builtin _ (by decide +kernel), codeAny_builtin F.entry_type_call ?_⟩
  rw [Around.under_plain (weight_type_call_type "set" [.ref l] []) rfl]
  have h1 := F.called_set.notType
  have h2 := F.called_set.canCreate
  have hct := F.typeCall_set_1 (.ref l)
  repeat (any_goals (first | assumption | wp_step))
  refine codeAny_mono (code_set_led1 (.ref l) (E := E) (Q₁ := fun obj s₁ => obj = .ref s.heap.objs.size ∧ s₁ = { s with heap := s.heap.push (sObj "set" (nwSet w)) }) ⟨rfl, rfl⟩) fun r s₁ hr => ?_
  cases r with
  | error e => exact hr
  | ok fl =>
    cases fl with
    | ret obj =>
      obtain ⟨rfl, rfl⟩ := hr
      have hS : (s.heap.push (sObj "set" (nwSet w))).get? s.heap.objs.size = some (sObj "set" (nwSet w)) := Heap.get?_push_size _ rfl
      have hT : Shared.TypeIs { s with heap := s.heap.push (sObj "set" (nwSet w)) } (.ref s.heap.objs.size) "set" := ⟨_, hS, rfl⟩
      have hli := F.called_set.init.lookup
      have hbi := F.called_set.init.bind (.ref s.heap.objs.size)
      repeat (any_goals (first | assumption | wp_step))
      refine codeAny_mono (codeAny_call_builtin (R := wants (fun r s₂ => r = .none ∧ ∃ h' tk D ys, s₂ = { s with heap := h', toks := tk } ∧ h'.get? s.heap.objs.size = some (sObj "set" D) ∧ Tx P w D ys ∧ (∀ x, x ∈ ys ↔ x ∈ xs) ∧ ys.length ≤ xs.length ∧
          (∀ b o, s.heap.get? b = some o → h'.get? b = some o)) E) F.called_set.init.plain F.entry_set_init (check_set_init_1 hT ?_)) fun r₂ s₂ hr₂ => ?_
      · obtain ⟨⟨ocls, odict, odata, oslots⟩, hol, hcl, nl, hdl⟩ := hl
        simp only at hcl hdl
        subst hcl; subst hdl
        have hol' : (s.heap.push (sObj "set" (nwSet w))).get? l = some { cls := .type "tuple", dict := odict, data := .seq items nl, slots := oslots } := Heap.get?_push_of_some _ hol
        have hsls := F.sub_tuple_set
        have hslf := F.sub_tuple_frozenset
        have hne : (Value.type "tuple" == Value.type "dict") = false := by decide
        have hl1 : (s.heap.push (sObj "set" (nwSet w))).IsTuple l items := ⟨_, hol', rfl, nl, rfl⟩
        unfold Builtin.«set.__init__» noKeywords Builtin.Frozenset.updateFrom
        generalize hPI : pyIter = PI
        wp_walk
        subst hPI
        refine wpAny_pyIter_tuple hl1 (wpAny_bind (wpAny_runValue ?_))
        have hlS : l < s.heap.objs.size := Heap.lt_size hol
        have hh3 : A.in1.in1.in1.handled = none := by simp [hh]
        have hneI : l ≠ (s.heap.push (sObj "set" (nwSet w))).objs.size := by
          rw [Heap.size_push]; exact Nat.ne_of_lt (Nat.lt_succ_of_lt hlS)
        have hSf : s.heap.objs.size ∉ [(s.heap.push (sObj "set" (nwSet w))).objs.size, l] := by
          rw [Heap.size_push]; simp only [List.mem_cons, List.mem_singleton, List.not_mem_nil, or_false, not_or]
          exact ⟨Nat.ne_of_lt (Nat.lt_succ_self _), Nat.ne_of_gt hlS⟩
        have hval : ∀ (i : Nat) (v : Value), items[i]? = some v → ∃ k t, xs[i]? = some k ∧ v = .str k t := fun i v hv => hit.2 i v (by rw [Array.getElem?_toList]; exact hv)
        refine tx_update ((Walks.tuple hh3 _ l hneI items).toS) s.heap.objs.size hSf xs hisz hb hval (items.size - 0) 0 _ (by omega) (Nat.zero_le _)
          ⟨⟨_, Heap.get?_push_size _ rfl, rfl, rfl⟩, (hl1.push _)⟩ ⟨nwSet w, [], Heap.get?_push_of_some _ hS, tx_new, fun x => by simp, Nat.le_refl _⟩ ?hR
        case hR =>
          intro s' D ys hm ho' F' hy hyl
          obtain ⟨h', g2, d', tk', os'⟩ := s'
          have eg : g2 = s.gens := hm.gens
          have ed : d' = s.drawn := hm.drawn
          have eo : os' = s.os := hm.os
          subst eg; subst ed; subst eo
          show wpAny _ _ _ _ _ _
          refine wpAny_pure ?_
          show wpAny _ _ (ret Value.none) _ _ _
          rw [hisz] at hyl
          refine wpAny_pure ⟨rfl, h', tk', D, ys, rfl, ho', F', hy, hyl, fun b o e => ?_⟩
          have hb0 : b < s.heap.objs.size := Heap.lt_size e
          exact hm.heap b o (by simp only [List.mem_cons, List.not_mem_nil, or_false, not_or]; refine ⟨Nat.ne_of_lt hb0, ?_⟩; rw [Heap.size_push]; exact Nat.ne_of_lt (Nat.lt_succ_of_lt hb0)) (Heap.get?_push_of_some _ (Heap.get?_push_of_some _ e))
      · cases r₂ with
        | error e => exact hr₂
        | ok fl₂ =>
          cases fl₂ with
          | ret r =>
            obtain ⟨rfl, h', tk, D, ys, rfl, k1, k2, k3, k4, k5⟩ := hr₂
            repeat (any_goals (first | assumption | wp_step))
            exact h _ _ _ _ k1 k2 k3 k4 k5
          | _ => exact hr₂.elim
    | _ => exact hr.elim
def txtOf : Value → Str
  | .str x _ => x
  | _ => ""
theorem perm_sub : ∀ (l k : List Str), l.Nodup → (∀ x ∈ l, x ∈ k) → l.length = k.length → l.Perm k
  | [], k, _, _, e => by
    have : k = [] := List.length_eq_zero_iff.mp e.symm
    rw [this]
  | x :: l, k, h, hs, e => by
    obtain ⟨h1, h2⟩ := List.nodup_cons.mp h
    have hx := hs x (List.mem_cons_self ..)
    have pe := List.perm_cons_erase hx
    have ih := perm_sub l (k.erase x) h2 (fun y hy => (List.mem_erase_of_ne (fun z : y = x => h1 (by rw [← z]; exact hy))).mpr (hs y (List.mem_cons_of_mem _ hy))) (by
      have := pe.length_eq
      simp only [List.length_cons] at this e
      omega)
    exact (List.Perm.cons x ih).trans pe.symm
theorem each_txt : ∀ (vs : List Value), (∀ v ∈ vs, ∃ k t, v = .str k t) → PySem.W.EachIs (fun v x => ∃ t, v = .str x t) vs (vs.map txtOf)
  | [], _ => .nil
  | v :: vs, h => by
    obtain ⟨k, t, rfl⟩ := h v (List.mem_cons_self ..)
    exact .cons ⟨t, rfl⟩ (each_txt vs fun u hu => h u (List.mem_cons_of_mem _ hu))
/-- sorted(s), s a set of texts -/
theorem tx_sorted {a : Addr} {D : SD} {l : List Str} {Q : Value → Shared → Prop} (hh : A.handled = none) (ho : s.heap.get? a = some (sObj "set" D)) (F : Tx P w D l) (hb : l.length < 60) (hu : A.units + 64 < cLine)
    (hQ : ∀ s' p (out : List Value) (c : Nat), (∀ b o, s.heap.get? b = some o → s'.heap.get? b = some o) → s'.gens = s.gens → s'.os = s.os → s.heap.objs.size ≤ p → s'.heap.get? p = some (seqObj "list" out.toArray c) →
      (∃ l' : List Str, l'.Perm l ∧ PySem.W.EachIs (fun v x => ∃ t, v = .str x t) out (l'.mergeSort (PySem.W.dataLe false PyData.str))) → Q (.ref p) s') :
    wpAny (model P w) A (call (.builtin "sorted") [.ref a]) Q E s := by
  obtain ⟨es, ep, t⟩ := D
  have hsz : es.size = l.length := F.ok.sz
  have hbs : es.size < scanBound := by rw [hsz]; exact Nat.lt_trans hb (by decide)
  refine Calls.call_function_entry kind_sorted plain_sorted entry_sorted (args_sorted1 _) ?_
  unfold Builtin.«sorted»
  refine wpAny_bind (m := checkCount "sorted" 1 1 _) (wpAny_pure ?_)
  refine wpAny_bind (collect_set (A := A.in1) hh ⟨_, ho, rfl, rfl⟩ F.ok.fit hbs F.ris F.led fun s1 vs k1 hz g1 o1 pm => ?_)
  have hvl : vs.length = l.length := by rw [pm.length_eq, List.length_map, Array.length_toList]; exact hsz
  have sh : ∀ v ∈ vs, ∃ k t, v = .str k t := fun v hv => by
    obtain ⟨e, he, q⟩ := List.mem_map.mp (pm.mem_iff.mp hv)
    obtain ⟨⟨k, hk, _⟩, _⟩ := F.ok.el e he
    obtain ⟨t, ht⟩ := Value.isStrOf_shape (show Value.isStrOf k e.2 = true from hk)
    exact ⟨k, t, by rw [← q]; exact ht⟩
  have e1 := each_txt vs sh
  have pl : (vs.map txtOf).Perm l := by
    refine (perm_sub l _ F.nd (fun x hx => ?_) (by rw [List.length_map]; exact hvl.symm)).symm
    obtain ⟨e, he, z⟩ := (F.ok.mem x).mp hx
    obtain ⟨t, ht⟩ := Value.isStrOf_shape (show Value.isStrOf x e.2 = true from z)
    exact List.mem_map.mpr ⟨e.2, pm.mem_iff.mpr (List.mem_map.mpr ⟨e, he, rfl⟩), by rw [ht]; rfl⟩
  refine wpAny_bind (wpAny_newList ?_ (by rw [hvl, sizeLine_eq]; omega))
  have hoL : (s1.heap.push (seqObj "list" vs.toArray 0)).get? s1.heap.objs.size = some (seqObj "list" vs.toArray 0) := Heap.get?_push_size _ rfl
  have al : PySem.W.AllAlike ((vs.map txtOf).map PyData.str) := fun d hd d' hd' => by
    obtain ⟨x, _, rfl⟩ := List.mem_map.mp hd
    obtain ⟨y, _, rfl⟩ := List.mem_map.mp hd'
    simp [PySem.W.alike]
  have so : PySem.W.Sortable ((vs.map txtOf).map PyData.str) := .inr fun d hd => by
    obtain ⟨x, _, rfl⟩ := List.mem_map.mp hd
    exact ⟨(fun z => by cases z), (fun _ z => by cases z)⟩
  refine wpAny_bind (wpAny_holding (PySem.W.list_sort_data (s := { s1 with heap := s1.heap.push (seqObj "list" vs.toArray 0) }) (bs := vs.map txtOf) (enc := PyData.str) hoL e1 (e1.mono fun v b ⟨t, hv⟩ => ⟨[], by rw [hv]; exact .str b t, by simp⟩) al so (by rw [List.length_map, hvl, sizeLine_eq]; omega) (fun b _ => by
    have : (PyData.str b).depth = 0 := by simp [PyData.depth]
    rw [this]
    show A.units + 1 + 1 + 0 < cLine
    omega) fun out hl he => ?_))
  obtain ⟨c, hc⟩ := sortedHeap_at (vs := vs) (out := out.toArray) hoL
  refine wpAny_pure ⟨_, rfl, hQ _ s1.heap.objs.size out c (fun b u e => ?_) g1 o1 hz hc ⟨_, pl, he⟩⟩
  · have q := k1 b u e
    have hlt := Heap.lt_size q
    show (sortedHeap (s1.heap.push (seqObj "list" vs.toArray 0)) s1.heap.objs.size vs out.toArray).get? b = some u
    rw [sortedHeap_old (Nat.ne_of_lt hlt) (by rw [size_push']; exact Nat.lt_succ_of_lt hlt)]
    exact Heap.get?_push_of_some _ q
end
end PD
end
section
set_option linter.all false
set_option maxRecDepth 100000
set_option maxHeartbeats 4000000
/-! P24s: the rule of sorted(set(t)). -/
namespace PD
open PySem PySem.Spec PyProof.Rows L2 PySem.Froz
def SetTx (P : Program) (w : World) (a : Addr) (l : List Str) : HO := .ext fun h => ∃ D ys, h.get? a = some (sObj "set" D) ∧ Tx P w D ys ∧ (∀ x, x ∈ ys ↔ x ∈ l) ∧ ys.length < 60
def rSetX (P : Program) (w : World) (K : PySem.W.Frag) : List V → Hp → VK → Prop := fun xs H Q => ∃ (p : Addr) (ts : List Str), xs = [.ref p] ∧ SqT K H p (ts.map V.str) ∧ ts.length < 60 ∧ ∀ q, H q = none → Q (.ref q) (upd H q (SetTx P w q ts))
def rSortX (P : Program) (w : World) : List V → Hp → VK → Prop := fun xs H Q => ∃ (a : Addr) (l : List Str), xs = [.ref a] ∧ H a = some (SetTx P w a l) ∧
  ∀ (p : Addr) (l' : List Str), H p = none → l'.Nodup → (∀ x, x ∈ l' ↔ x ∈ l) → Q (.ref p) (upd H p (.lst ((l'.mergeSort (PySem.W.dataLe false PyData.str)).map V.str)))
section
variable {X : Cx}
theorem setTx_new {P : Program} {w : World} {H : Hp} {h : Heap} {a : Addr} {l : List Str} {D : SD} {ys : List Str} (ho : h.get? a = some (sObj "set" D)) (F : Tx P w D ys) (hm : ∀ x, x ∈ ys ↔ x ∈ l) (hl : ys.length < 60) : ObjOk P w H h a (SetTx P w a l) :=
  ⟨⟨D, ys, ho, F, hm, hl⟩, ⟨_, ho⟩, fun h1 h2 ⟨D1, ys1, e, r⟩ k => ⟨D1, ys1, k _ e, r⟩⟩
theorem cr_setX (hc : X.calm = true) : CallR X (.type "set") (rSetX X.prog X.w X.K) := by
  intro pins s σ H vs us Q I r h
  obtain ⟨p, ts, rfl, hs, hl, q⟩ := h
  obtain ⟨its, rv, pt, hz⟩ := I.tuple hs
  rw [Vals.ref1 r]
  have hit : TxsAre its.toArray.toList ts := ⟨by simpa using rv.length.symm, fun i v hv => by
    obtain ⟨x, h1, h2⟩ := valsU rv (j := i) (u := v) (by simpa using hv)
    rw [List.getElem?_map] at h1
    cases e : ts[i]? with
    | none => rw [e] at h1; cases h1
    | some k =>
      rw [e] at h1
      cases h1
      obtain ⟨t, ht⟩ := h2
      exact ⟨k, t, rfl, ht⟩⟩
  refine tx_made ts (I.ok.hd hc) (show s.heap.IsTuple p its.toArray from pt) hit (Nat.lt_trans (Nat.succ_lt_succ hl) (by decide)) fun h' tk D ys ho F hm hy k => ?_
  exact ⟨.ref _, upd H s.heap.objs.size (SetTx X.prog X.w s.heap.objs.size ts), I.laid (t' := tk) k (Nat.le_refl _) (setTx_new ho F hm (Nat.lt_of_le_of_lt hy hl)), rfl, q _ (I.hok.fresh (Nat.le_refl _))⟩
theorem each_vstr : ∀ {out : List Value} {l : List Str}, PySem.W.EachIs (fun v x => ∃ t, v = .str x t) out l → Vals (l.map V.str) out
  | _, _, .nil => .nil
  | _, _, .cons h t => .cons h (each_vstr t)
theorem cr_sortX (hc : X.calm = true) (hu : X.A.units + 64 < cLine) : CallR X (.builtin "sorted") (rSortX X.prog X.w) := by
  intro pins s σ H vs us Q I r h
  obtain ⟨a, l, rfl, ha, q⟩ := h
  obtain ⟨D, ys, ho, F, hm, hl⟩ := (I.hok a _ ha).1
  rw [Vals.ref1 r]
  refine tx_sorted (I.ok.hd hc) ho F hl hu fun s' p out c k g o hp hg ⟨l', pl, he⟩ => ?_
  have rv := each_vstr he
  have hlen : ((l'.mergeSort (PySem.W.dataLe false PyData.str)).map V.str).length ≤ sizeLine := by
    rw [List.length_map, List.length_mergeSort, pl.length_eq, sizeLine_eq]
    omega
  have hn : H p = none := I.hok.fresh hp
  have J : Inv X pins σ (upd H p (.lst ((l'.mergeSort (PySem.W.dataLe false PyData.str)).map V.str))) s' :=
    I.call' (ch := []) o (Un.laid k hp hn) (I.hok.laid k hp ⟨hlen, out, c, rv, hg⟩) (by rw [g]; exact I.bare) (fun _ z => nomatch z)
  exact ⟨.ref p, _, J, rfl, q p l' hn (pl.nodup_iff.mpr F.nd) fun x => pl.mem_iff.trans (hm x)⟩
end
theorem nodup_dupsX : ∀ (n : Nat) (l : List Str), l.length ≤ n → l.eraseDups.Nodup
  | _, [], _ => by simp
  | 0, x :: l, h => by simp at h
  | n + 1, x :: l, h => by
    rw [List.eraseDups_cons]
    refine List.nodup_cons.mpr ⟨fun hx => ?_, nodup_dupsX n _ ?_⟩
    · have := (List.mem_filter.mp (List.mem_eraseDups.mp hx)).2
      simp at this
    · have := List.length_filter_le (fun b => !b == x) l
      simp only [List.length_cons] at h
      omega
theorem sub_len : ∀ (l k : List Str), l.Nodup → (∀ x ∈ l, x ∈ k) → l.length ≤ k.length
  | [], _, _, _ => Nat.zero_le _
  | x :: l, k, h, hs => by
    have hx := hs x (List.mem_cons_self ..)
    obtain ⟨h1, h2⟩ := List.nodup_cons.mp h
    have ih := sub_len l (k.erase x) h2 fun y hy => (List.mem_erase_of_ne (fun e : y = x => h1 (by rw [← e]; exact hy))).mpr (hs y (List.mem_cons_of_mem _ hy))
    rw [List.length_erase_of_mem hx] at ih
    have : 0 < k.length := List.length_pos_of_mem hx
    simp
    omega
/-- texts each once, sorted: one list alone -/
theorem sort_once {l k : List Str} (h1 : l.Nodup) (h2 : k.Nodup) (hm : ∀ x, x ∈ l ↔ x ∈ k) : l.mergeSort (PySem.W.dataLe false PyData.str) = k.mergeSort (PySem.W.dataLe false PyData.str) := by
  have pk : l.Perm k := perm_sub l k h1 (fun x hx => (hm x).mp hx) (Nat.le_antisymm (sub_len l k h1 fun x hx => (hm x).mp hx) (sub_len k l h2 fun x hx => (hm x).mpr hx))
  have e : PySem.W.dataLe false PyData.str = fun a b : Str => decide (a.cps.toList ≤ b.cps.toList) := PySem.W.dataLe_str (β := Str) id
  rw [e]
  have tr : ∀ a b c : Str, decide (a.cps.toList ≤ b.cps.toList) = true → decide (b.cps.toList ≤ c.cps.toList) = true → decide (a.cps.toList ≤ c.cps.toList) = true := fun a b c h h' => decide_eq_true (List.le_trans (of_decide_eq_true h) (of_decide_eq_true h'))
  have to : ∀ a b : Str, (decide (a.cps.toList ≤ b.cps.toList) || decide (b.cps.toList ≤ a.cps.toList)) = true := fun a b => by
    rcases List.le_total a.cps.toList b.cps.toList with h | h <;> simp [h]
  have p1 := List.pairwise_mergeSort tr to l
  have p2 := List.pairwise_mergeSort tr to k
  have pm : (l.mergeSort fun a b : Str => decide (a.cps.toList ≤ b.cps.toList)).Perm (k.mergeSort fun a b : Str => decide (a.cps.toList ≤ b.cps.toList)) := (List.mergeSort_perm l _).trans (pk.trans (List.mergeSort_perm k _).symm)
  exact List.Perm.eq_of_pairwise (fun a b _ _ h h' => PySem.W.str_of_cps (List.le_antisymm (of_decide_eq_true h) (of_decide_eq_true h'))) p1 p2 pm
theorem rpA_strs {K : PySem.W.Frag} {H : Hp} : ∀ xs : List Str, RpA K H (xs.map V.str) (xs.map .str)
  | [] => rfl
  | x :: xs => ⟨.str x, _, rfl, rfl, rpA_strs xs⟩
section
variable {X : Cx} {T : List (Addr × Str)} {Φ : Fx} {B : Nat → Bool} {a : Expr} {ma : ME} {pos p p2 q : Pos} {k : Nat}
theorem pd_sset (hr : Room k X.A) (hc : X.calm = true) (hm : X.mg "sorted" = none) (hm2 : X.mg "set" = none) (hg : Gl X "sorted") (hg2 : Gl X "set") (ha : PDe X T Φ B a ma)
    (h1 : starEach [a] X.env = (false, eval a X.env) :: starEach [] X.env := by rfl) (h2 : starEach [.Call (.Name "set" p2) [a] [] q] X.env = (false, eval (.Call (.Name "set" p2) [a] [] q) X.env) :: starEach [] X.env := by rfl) :
    PDe X T Φ B (.Call (.Name "sorted" p) [.Call (.Name "set" p2) [a] [] q] [] pos) (e1 gSSet ma) := by
  have i1 := pe_callTy (x := "set") (p := p2) (pos := q) (cr_setX hc) hg2 hm2 PyProof.Rows.boot_set (pa_cons ha pa_nil h1) (by decide) (by decide) h1 rfl
  have i2 := pe_callB (x := "sorted") (p := p) (pos := pos) (cr_sortX hc hr.units) hg hm PyProof.Rows.boot_sorted (pa_cons i1 pa_nil h2) (by decide) (by decide) h2 rfl
  refine PE.cons i2 fun σ H Q ⟨A, Z, ρ, μ, d, μ', R, hmm, kq⟩ => ?_
  unfold e1 at hmm
  cases e : ma ρ μ with
  | none => rw [e] at hmm; cases hmm
  | some pr =>
    rw [e, Option.bind_some] at hmm
    cases e' : gSSet pr.1 with
    | none => rw [e'] at hmm; cases hmm
    | some d' =>
      rw [e'] at hmm; cases hmm
      refine ⟨A, Z, ρ, μ, pr.1, pr.2, R, e, fun x H1 f1 R1 p1 => ?_⟩
      unfold gSSet at e'
      split at e'
      · rename_i ds hds
        rw [hds] at p1
        obtain ⟨a0, xs, rfl, k1, k2⟩ := p1
        cases es : strsOf ds with
        | none => rw [es] at e'; cases e'
        | some ts =>
          rw [es, Option.bind_some] at e'
          split at e'
          · rename_i hl
            cases e'
            have ex := strsOf_rp k2 es
            subst ex
            refine ⟨a0, ts, rfl, hid_sqT k1.sq, hl, fun s hs => ⟨s, ts, rfl, upd_same, fun l l' hn hnd hmm => ?_⟩⟩
            have so := sort_once hnd (nodup_dupsX _ ts (Nat.le_refl _)) fun x => (hmm x).trans List.mem_eraseDups.symm
            rw [so]
            have eD : sortD (ts.eraseDups.map .str) = (ts.eraseDups.mergeSort (PySem.W.dataLe false PyData.str)).map .str := (List.map_mergeSort (f := PyData.str) fun a _ b _ => rfl).symm
            have s1 : Same H1 (upd H1 s (SetTx X.prog X.w s ts)) := same_upd hs
            have s2 := same_upd (o := .lst ((ts.eraseDups.mergeSort (PySem.W.dataLe false PyData.str)).map V.str)) hn
            refine kq _ _ (f1.trans (Fw.same (s1.trans s2))) (R1.same (s1.trans s2)) ?_
            rw [eD]
            exact rp_new_lst (fun a z h => by
              cases e1 : H1 a with
              | none => exact R1.tracked a z e1
              | some o => rw [s1 a o e1] at h; cases h) hn (rpA_strs _)
          · cases e'
      · cases e'
end
end PD
end
section
set_option linter.all false
set_option maxRecDepth 100000
set_option maxHeartbeats 4000000
/-! P25: the end: a law's facts, its last step. -/
namespace PD
open PySem PySem.Spec PyProof.Rows L2 LamX

theorem ex_get {l : List Bool} (h : l.all id = true) (i : Nat) {b : Bool} (e : l[i]? = some b := by rfl) : b = true := (List.all_eq_true.mp h) b (List.mem_of_getElem? e)
section
variable {K : PySem.W.Frag} {h : Heap} {mg : Str → Option Value} (X : K.In h) (G : h.Ns mainGlobals mg)
include X G
theorem cst_ok {x : Str} {d : D} (c : cstB K x d = true) : Cst K mg x d := by
  unfold cstB at c
  split at c
  · rename_i u e
    obtain ⟨v, r, p⟩ := kV_ok d u c
    exact ⟨v, u, PySem.W.mg_of X G e, r, p⟩
  · cases c
theorem cstT_ok {x : Str} {d : D} (c : cstTB K x d = true) : CstT K mg x d := by
  unfold cstTB at c
  split at c
  · rename_i ds
    split at c
    · rename_i a e
      split at c
      · rename_i cl od its n sl e2
        obtain ⟨h1, h⟩ := Bool.and_eq_true_iff.mp c
        obtain ⟨h2, h3⟩ := Bool.and_eq_true_iff.mp h
        obtain ⟨vs, r, p⟩ := kVA_ok ds _ h3
        exact ⟨a, vs, ds, rfl, PySem.W.mg_of X G e, fun H => .inr ⟨_, its, n, e2, by rw [of_decide_eq_true h1], rfl, of_decide_eq_true h2, r⟩, p⟩
      · cases c
    · cases c
  · cases c
def bltB (K : PySem.W.Frag) (x : Str) (id : String) : Bool := match PySem.W.nsIn K mainGlobals x with
  | some (some (.builtin i)) => decide (i = id)
  | _ => false
theorem blt_ok {x : Str} {id : String} (c : bltB K x id = true) : mg x = some (.builtin id) := by
  unfold bltB at c
  split at c
  · rename_i i e
    rw [PySem.W.mg_of X G e, of_decide_eq_true c]
  · cases c
end
def cdB (K : PySem.W.Frag) (x : Str) : Bool := match codeV K (He.ga K x) with
  | .ref c => decide (c = He.codeOf K (x, none))
  | _ => false
theorem cd_ok {K : PySem.W.Frag} {x : Str} (c : cdB K x = true) : codeV K (He.ga K x) = .ref (He.codeOf K (x, none)) := by
  unfold cdB at c
  split at c
  · rename_i a e
    rw [e, of_decide_eq_true c]
  · cases c
def tuB (T : List (Addr × Str)) : Bool := T.all fun p => T.all fun q => !decide (p.1 = q.1) || decide (p.2 = q.2)
theorem tu_ok {T : List (Addr × Str)} (c : tuB T = true) : TU T := fun p hp q hq e => by
  have z := List.all_eq_true.mp (List.all_eq_true.mp c p hp) q hq
  simpa [e] using z
def noLists (K : PySem.W.Frag) : Bool := K.all fun p => match p.2.cls with
  | .type c => !decide (c = "list")
  | _ => true
theorem lookup_in {a : Addr} {o : Obj} : ∀ {K : List (Addr × Obj)}, K.lookup a = some o → (a, o) ∈ K
  | [], e => by simp at e
  | (b, u) :: r, e => by
    rw [List.lookup_cons] at e
    split at e
    · rename_i hb
      cases e
      rw [show a = b from by simpa using hb]
      exact List.mem_cons_self
    · exact List.mem_cons_of_mem _ (lookup_in e)
theorem sqL_rd {K : PySem.W.Frag} {H : Hp} {a : Addr} {xs : List V} (c : noLists K = true) (h : SqL K H a xs) : Rd H a (.lst xs) := by
  rcases h with h | ⟨o, its, n, e, hc, _⟩
  · exact h
  · have z := List.all_eq_true.mp c _ (lookup_in e)
    dsimp only at z
    rw [hc] at z
    simp at z
theorem rpA_ints {K : PySem.W.Frag} {H : Hp} : ∀ ns : List Int, RpA K H (ns.map V.int) (ns.map .int)
  | [] => rfl
  | n :: ns => ⟨.int n, _, rfl, rfl, rpA_ints ns⟩
/-- THE END: the law's def keeps F, F says True -/
theorem lawAt_of {l : PySem.W.OpenLaw} {w : World} {K : PySem.W.Frag} {k n : Nat} {mg : Str → Option Value} {fa : Addr} {h : Heap} {fs : List He.Fa} {fn : List He.DefD} {ts : List He.Tab} {tf : List He.Defn} {ex : PySem.W.Frag → Bool} {st : Stmt} {F : FD} {T : List (Addr × Str)} (c : He.SaysX fs fn ts tf ex w h K) (X : K.In h)
    (hmg : mg "law" = some (.ref fa)) (hno : noLists K = true) (hT : ∀ p ∈ T, p.1 ∈ tf.map fun q => (He.cT K q).2)
    (hD : ∀ base : Heap, K.In base → base.Ns mainGlobals mg → (∀ p ∈ tf.map (He.cT K), TabB base mg p.1 p.2) → Def l.prog w K mg base T k "law" "law" st ["script"] 1 F) (hFd : ∃ fd, FunD K "law" "law" (defArgs st) (defBody st) (defScope st) [] [] fa fd)
    (hbi : ∀ (kV doc pm : Value) (an : Option Addr) (cdv ct : Value) (us : List Value), us.length = ["script"].length → bindArgs (PySem.W.fnOf "law" "law" (defArgs st) (defBody st) (defScope st) .none kV doc pm an cdv ct) ⟨us, []⟩ = pure ((["script"] : List Str).zip us))
    (spec : ∀ ns : List Int, ns.length ≤ n → (∀ z ∈ ns, Builtin.Int.intBits z ≤ 1048576) → F [.val (.list (ns.map .int))] [] = some (.bool true, [])) : LawAtS l w K CX0 k n "script" mg fa h := by
  obtain ⟨fd, Fd⟩ := hFd
  have memT : ∀ p ∈ tf.map (He.cT K), ∃ q ∈ tf, He.cT K q = p := fun p hp => by
    obtain ⟨q, hq, e⟩ := List.mem_map.mp hp
    exact ⟨q, hq, e⟩
  refine ⟨fd, tf.map (He.cT K), spD K T 1 F, fun p hp => ?_, fun p hp => ?_, fun p hp => ?_, fun s u => ?_, fun H a ns hl hb hH hS => ?_, fun base KX KG tb => ?_⟩
  · obtain ⟨q, hq, rfl⟩ := memT p hp
    exact c.empty q hq
  · obtain ⟨q, hq, rfl⟩ := memT p hp
    exact c.out q hq
  · obtain ⟨q, hq, rfl⟩ := memT p hp
    exact PySem.W.codeHd_of_K X (c.hd q hq)
  · exact FunD.bindsA (ps := ["script"]) Fd hbi s [u] rfl
  · have tabs : Tabs T H := fun p hp => by
      obtain ⟨q, hq, e⟩ := List.mem_map.mp (hT p hp)
      exact TabS.nil (by rw [← e]; exact hH _ (List.mem_map.mpr ⟨q, hq, rfl⟩))
    refine ⟨rfl, [], fun _ => False, [.val (.list (ns.map .int))], [], .bool true, [], ⟨rfl, rfl, List.nodup_nil, fun a z => z.elim, tabs, fun k c a e1 => by simp at e1, fun i s e => ?_⟩, spec ns hl hb, fun v H' f1 R1 p1 => p1⟩
    cases i with
    | zero =>
      cases e
      exact ⟨.ref a, rfl, a, ns.map V.int, rfl, hid_rd_of (sqL_rd hno hS) (by simp), rpA_ints ns⟩
    | succ i => simp at e
  · obtain ⟨f', fd', G, hm', hk, hb', Fu⟩ := (hD base KX KG tb).ex
    rw [hmg] at hm'
    cases hm'
    obtain ⟨_, _, _, _, _, _, _, _, _, e1, lk1, _⟩ := Fu.ex
    obtain ⟨_, _, _, _, _, _, _, _, _, _, e2, lk2, _⟩ := Fd.ex
    rw [lk1] at lk2
    have : fd' = fd := by cases lk2; rfl
    rw [← this]
    exact G
end PD
end
section
set_option linter.all false
set_option maxRecDepth 100000
set_option maxHeartbeats 4000000
/-! P26: dicts of one's own by texts: {}, d[x] = y, d[x]; list.pop(i). -/
namespace PD
open PySem PySem.Spec PyProof.Rows L2

def cellD (ρ : List Slot) (μ : List Cell) (i : Nat) : Option (Nat × List (Str × D)) := match ρ[i]? with
  | some (.own k) => match μ[k]? with
    | some (.dct kvs) => some (k, kvs)
    | _ => none
  | _ => none
theorem cellD_some {ρ : List Slot} {μ : List Cell} {i k : Nat} {xs : List (Str × D)} (h : cellD ρ μ i = some (k, xs)) : ρ[i]? = some (.own k) ∧ μ[k]? = some (.dct xs) := by
  unfold cellD at h
  split at h
  · rename_i k' e
    split at h
    · rename_i ys em
      cases h
      exact ⟨e, em⟩
    · cases h
  · cases h
def dGet : List (Str × D) → Str → Option D
  | [], _ => none
  | p :: r, k => if p.1 = k then some p.2 else dGet r k
def dPut (kvs : List (Str × D)) (k : Str) (d : D) : List (Str × D) :=
  if (kvs.any fun p => decide (p.1 = k)) = true then kvs.map (fun p => if p.1 = k then (p.1, d) else p) else kvs ++ [(k, d)]
theorem get_cell {K : PySem.W.Frag} {Hv : Hp} {s : Str} : ∀ {kvs : List (Str × D)} {ws : List V} {d : D}, RpA K Hv ws (kvs.map (·.2)) → dGet kvs s = some d → ∃ v, valV (keyed (kvs.map (·.1)) ws) (.inr s) = some v ∧ Rp K Hv v d
  | [], ws, d, _, e => by cases e
  | p :: kvs, ws, d, ⟨w, r, e0, h1, h2⟩, e => by
    subst e0
    unfold dGet at e
    show ∃ v, valV ((.inr p.1, w) :: keyed (kvs.map (·.1)) r) (.inr s) = some v ∧ _
    by_cases q : p.1 = s
    · rw [if_pos q] at e
      cases e
      exact ⟨w, valV_pos (p := ((.inr p.1 : Key), w)) (by rw [q]), h1⟩
    · rw [if_neg q] at e
      obtain ⟨v, q1, q2⟩ := get_cell h2 e
      refine ⟨v, ?_, q2⟩
      have : ¬ ((Sum.inr p.1 : Key) = .inr s) := fun z => q (by cases z; rfl)
      simp only [valV, List.find?_cons, this, decide_false] at q1 ⊢
      exact q1
theorem any_cell {s : Str} : ∀ {kvs : List (Str × D)} {ws : List V}, ws.length = kvs.length → ((keyed (kvs.map (·.1)) ws).any fun kv => decide (kv.1 = (.inr s : Key))) = kvs.any fun p => decide (p.1 = s)
  | [], _, _ => by simp [keyed]
  | p :: kvs, [], h => by simp at h
  | p :: kvs, w :: ws, h => by
    have ih := any_cell (s := s) (kvs := kvs) (ws := ws) (by simpa using h)
    show (decide ((Sum.inr p.1 : Key) = .inr s) || _) = (decide (p.1 = s) || _)
    rw [← ih]
    by_cases q : p.1 = s
    · simp [q]
    · have : ¬ ((Sum.inr p.1 : Key) = .inr s) := fun z => q (by cases z; rfl)
      simp only [this, q, decide_false, Bool.false_or]
      rfl
theorem map_cell {K : PySem.W.Frag} {Hv : Hp} {s : Str} {v : V} {d : D} (hv : Rp K Hv v d) : ∀ {kvs : List (Str × D)} {ws : List V}, RpA K Hv ws (kvs.map (·.2)) →
    ∃ ws', (keyed (kvs.map (·.1)) ws).map (fun kv => if kv.1 = (.inr s : Key) then (kv.1, v) else kv) = keyed ((kvs.map fun p => if p.1 = s then (p.1, d) else p).map (·.1)) ws' ∧ RpA K Hv ws' ((kvs.map fun p => if p.1 = s then (p.1, d) else p).map (·.2))
  | [], ws, h => ⟨[], by simp [keyed], rfl⟩
  | p :: kvs, ws, ⟨w, r, e0, h1, h2⟩ => by
    subst e0
    obtain ⟨ws', q1, q2⟩ := map_cell (s := s) hv h2
    by_cases q : p.1 = s
    · refine ⟨v :: ws', ?_, ?_⟩
      · show (if (Sum.inr p.1 : Key) = .inr s then ((Sum.inr p.1 : Key), v) else (.inr p.1, w)) :: _ = _
        rw [if_pos (by rw [q])]
        simp only [List.map_cons, if_pos q]
        show _ = (Sum.inr p.1, v) :: keyed _ ws'
        rw [← q1]
        rfl
      · simp only [List.map_cons, if_pos q]
        exact ⟨v, ws', rfl, hv, q2⟩
    · have nq : ¬ ((Sum.inr p.1 : Key) = .inr s) := fun z => q (by cases z; rfl)
      refine ⟨w :: ws', ?_, ?_⟩
      · show (if (Sum.inr p.1 : Key) = .inr s then ((Sum.inr p.1 : Key), v) else (.inr p.1, w)) :: _ = _
        rw [if_neg nq]
        simp only [List.map_cons, if_neg q]
        show _ = (Sum.inr p.1, w) :: keyed _ ws'
        rw [← q1]
        rfl
      · simp only [List.map_cons, if_neg q]
        exact ⟨w, ws', rfl, h1, q2⟩
theorem keyed_snoc : ∀ {ks : List Str} {ws : List V} (k : Str) (v : V), ws.length = ks.length → keyed ks ws ++ [(.inr k, v)] = keyed (ks ++ [k]) (ws ++ [v])
  | [], [], k, v, _ => rfl
  | [], _ :: _, k, v, h => by simp at h
  | _ :: _, [], k, v, h => by simp at h
  | x :: ks, w :: ws, k, v, h => by
    have ih := keyed_snoc (ks := ks) (ws := ws) k v (by simpa using h)
    show (Sum.inr x, w) :: (keyed ks ws ++ [(.inr k, v)]) = (Sum.inr x, w) :: keyed (ks ++ [k]) (ws ++ [v])
    rw [ih]
theorem put_cell {K : PySem.W.Frag} {Hv : Hp} {s : Str} {v : V} {d : D} {kvs : List (Str × D)} {ws : List V} (hv : Rp K Hv v d) (h : RpA K Hv ws (kvs.map (·.2))) :
    ∃ ws', putK (keyed (kvs.map (·.1)) ws) (.inr s : Key) v = keyed ((dPut kvs s d).map (·.1)) ws' ∧ RpA K Hv ws' ((dPut kvs s d).map (·.2)) := by
  have hl : ws.length = kvs.length := by rw [h.length, List.length_map]
  unfold putK dPut
  rw [any_cell hl]
  by_cases q : (kvs.any fun p => decide (p.1 = s)) = true
  · rw [if_pos q, if_pos q]
    exact map_cell hv h
  · rw [if_neg q, if_neg q]
    refine ⟨ws ++ [v], ?_, ?_⟩
    · rw [List.map_append]
      exact keyed_snoc s v (by rw [List.length_map]; exact hl)
    · rw [List.map_append]
      exact RpA.app h (RpA.one hv)
theorem keyed_len {ks : List Str} {ws : List V} : (keyed ks ws).length = min ks.length ws.length := by simp [keyed]
def sNewD (i : Nat) : MS := fun _ ρ μ => some (.next (ρ.set i (.own μ.length)) (μ ++ [.dct []]))
def eGetD (i : Nat) (m : ME) : ME := fun ρ μ => (m ρ μ).bind fun p => match p.1 with
  | .str s => (cellD ρ p.2 i).bind fun c => (dGet c.2 s).map fun d => (d, p.2)
  | _ => none
def sPutD (i : Nat) (mk mv : ME) : MS := fun _ ρ μ => (mv ρ μ).bind fun p => (mk ρ p.2).bind fun q => match q.1 with
  | .str s => (cellD ρ q.2 i).bind fun c => if c.2.length < sizeLine then some (.next ρ (q.2.set c.1 (.dct (dPut c.2 s p.1)))) else none
  | _ => none
def ePopAt (B : Nat → Bool) (i : Nat) (m : ME) : ME := fun ρ μ => (cellL ρ μ i).bind fun _ => (m ρ μ).bind fun p => match p.1 with
  | .int j => (cellL ρ p.2 i).bind fun c => if noBo B ρ c.1 && okR j then (ixN c.2.length j).bind fun jj => (c.2[jj]?).map fun d => (d, p.2.set c.1 (.lst (c.2.eraseIdx jj))) else none
  | _ => none
theorem RpA.erase {K : PySem.W.Frag} {H : Hp} : ∀ {vs : List V} {ds : List D} (i : Nat), RpA K H vs ds → RpA K H (vs.eraseIdx i) (ds.eraseIdx i)
  | _, [], i, h => by rw [show _ = [] from h]; simp [RpA]
  | _, d :: ds, 0, ⟨v, r, e, h1, h2⟩ => by subst e; exact h2
  | _, d :: ds, i + 1, ⟨v, r, e, h1, h2⟩ => by subst e; exact ⟨v, r.eraseIdx i, rfl, h1, RpA.erase i h2⟩
section
variable {X : Cx} {T : List (Addr × Str)} {Φ : Fx} {B B' : Nat → Bool} {a b e : Expr} {ma mb me : ME} {pos p pos' : Pos} {k : Nat}
theorem s_newD (i : Nat) {x : Str} {pos' dp : Pos} (hN : X.N.Nodup) (hi : X.N[i]? = some x := by rfl) (hx : Loc X.env.scope x := by first | exact Or.inl rfl | exact Or.inr rfl) (hs : swapsWith (.Dict [] [] dp) (some (.Name x pos')) pos.line X.env = pure false := by rfl)
    (hf : X.fn x = true ∨ X.env.scope.names.lookup x = some .local := by first | exact .inl rfl | exact .inr rfl) : PDs X T Φ (.Assign [.Name x pos'] (.Dict [] [] dp) pos) (sNewD i) := PS.cons (ps_set hN hi hx pe_dnewK hs hf) fun Dn σ H ⟨A, Z, n0, ρ, μ, fl, R, hn, hm, k⟩ => by
  cases hm
  intro l hl
  have R1 := R.more (o := .dK []) hl
  have nz : ¬ Z l := fun z => (R.zo l z).2 (.inl hl)
  refine k _ _ (A ++ [l]) ⟨Fw.same (same_upd hl), [l], rfl, fun x hx => by rw [show x = l by simpa using hx]; exact .inl hl⟩ (R1.pushC (c0 := .dct []) nz ⟨[], upd_same, rfl⟩ i)
theorem new_of {mf : MA} {i : Nat} {Dn : Ends} {σ : L2.St} {H : Hp} (h : tS X.K T Φ (sNew i mf) Dn σ H) : tAsg (tF X.K T Φ B0 mf) (gName i) Dn σ H := by
  obtain ⟨A, Z, n0, ρ, μ, fl, R, hn, hm, k⟩ := h
  unfold sNew at hm
  cases e : mf ρ μ with
  | none => rw [e] at hm; cases hm
  | some p =>
    rw [e] at hm; cases hm
    refine ⟨A, Z, ρ, μ, p.1, p.2, R, e, fun l vs H1 f1 nz R1 n1 h1 h2 => ?_⟩
    refine k _ H1 (A ++ [l]) ⟨f1.mono fun _ h => h.mem, [l], rfl, fun x hx => by rw [show x = l by simpa using hx]; exact n1⟩ (R1.push nz h1 (RpA.mono (hid_le fun x z => ?_) _ _ h2) i)
    exact zw0.mpr z
/-- name = [..] on one line, a list of one's own -/
theorem s_newLc {elt tg iter : Expr} {ifs : List Expr} {scope : Scope} {mi : MA} {g : MG} {mt : MT} (own : List (Str × Nat)) {y : Str} {py pos spos : Pos} (i : Nat) (hc : X.calm = true) (hN : X.N.Nodup) (hi : PDi X T Φ B0 tg iter mi) (ok : BlkOk X.N X.env.scope scope own)
    (hg : ∀ (s : Shared) (H : Hp) (C : Addr) (cl : List (Str × Addr)) (fp : List Addr), PDc (X.blk s H scope (compEnvC scope cl C X.env) fp) T Φ (own.map (·.2)) tg g) (ht : ∀ (s : Shared) (H : Hp) (C : Addr) (cl : List (Str × Addr)) (fp : List Addr), PDts (X.blk s H scope (compEnvC scope cl C X.env) fp) T Φ B0 ifs mt)
    (he : ∀ (s : Shared) (H : Hp) (C : Addr) (cl : List (Str × Addr)) (fp : List Addr), PDe (X.blk s H scope (compEnvC scope cl C X.env) fp) T Φ B0 elt me) (hy : X.N[i]? = some y := by rfl) (hyl : X.env.scope.names.lookup y = some .local := by rfl)
    (hsw : swapsWith (.ListComp elt [⟨tg, iter, ifs, 0⟩] scope pos) (some (.Name y py)) spos.line X.env = pure true := by rfl) (hs : ∀ x, foldedSetIterable iter X.env x = pure x := by intro _; rfl) :
    PDs X T Φ (.Assign [.Name y py] (.ListComp elt [⟨tg, iter, ifs, 0⟩] scope pos) spos) (sNew i (mLc true mi (own.map (·.2)) g mt me)) :=
  PS.cons (ps_setLc hc hN hy hyl hsw hi ok hg ht he hs) fun Dn σ H h => lc_of (sb := true) (fun _ => rfl) σ H _ (new_of h)
theorem pd_getD (i : Nat) {x : Str} (hr : Room k X.A) (ha : PDe X T Φ B e me) (hN : X.N[i]? = some x := by rfl) (hv : Vis X.env.scope x := by first | exact Or.inl rfl | exact Or.inr (Or.inl rfl) | exact Or.inr (Or.inr rfl)) (hd : (x == ("__debug__" : Str)) = false := by decide) (hcd : (x == ("__classdict__" : Str)) = false := by decide)
    (hs : NoSl e := by intro _ _; rfl) : PDe X T Φ B (.Subscript (.Name x p) e pos) (eGetD i me) := PE.cons (pe_dget (by have := hr.units; omega) (pe_var hN hv hd hcd) ha hs) fun σ H Q ⟨A, Z, ρ, μ, d, μ', R, hm, kq⟩ => by
  unfold eGetD at hm
  cases e1 : me ρ μ with
  | none => rw [e1] at hm; cases hm
  | some q =>
    rw [e1, Option.bind_some] at hm
    split at hm
    · rename_i s hq
      cases e2 : cellD ρ q.2 i with
      | none => rw [e2] at hm; cases hm
      | some c =>
        rw [e2, Option.bind_some] at hm
        cases e3 : dGet c.2 s with
        | none => rw [e3] at hm; cases hm
        | some d' =>
          rw [e3] at hm
          cases hm
          obtain ⟨c1, c2⟩ := c
          obtain ⟨s1, s2⟩ := cellD_some e2
          obtain ⟨l, a1, a2⟩ := R.slot i _ s1
          refine ⟨.ref l, a2, A, Z, ρ, μ, q.1, q.2, R, e1, fun y H2 f2 R2 p2 => ?_⟩
          rw [hq] at p2
          obtain ⟨ws, h1, h2⟩ := R2.cell c1 (.dct c2) l s2 a1
          obtain ⟨v, g1, g2⟩ := get_cell h2 e3
          refine ⟨l, v, rfl, ?_, kq v H2 f2 R2 (Rp.mono (Rep.see H2) _ _ g2)⟩
          rw [← g1, show y = L2.kV (.inr s) from p2]
          exact DGet.k h1
    · cases hm
theorem s_putD (i : Nat) {x : Str} (hr : Room k X.A) (hkey : PDe X T Φ B0 e me) (hval : PDe X T Φ B0 a ma) (hN : X.N[i]? = some x := by rfl) (hv : Vis X.env.scope x := by first | exact Or.inl rfl | exact Or.inr (Or.inl rfl) | exact Or.inr (Or.inr rfl)) (hd : (x == ("__debug__" : Str)) = false := by decide) (hcd : (x == ("__classdict__" : Str)) = false := by decide)
    (hs : swapsWith a (some (.Subscript (.Name x p) e pos')) pos.line X.env = pure false := by rfl) : PDs X T Φ (.Assign [.Subscript (.Name x p) e pos'] a pos) (sPutD i me ma) := PS.cons (ps_dput (by have := hr.units; omega) (pe_var hN hv hd hcd) hkey hval hs) fun Dn σ H ⟨A, Z, n0, ρ, μ, fl, R, hn, hm, kq⟩ => by
  unfold sPutD at hm
  cases e1 : ma ρ μ with
  | none => rw [e1] at hm; cases hm
  | some pv =>
    rw [e1, Option.bind_some] at hm
    cases e2 : me ρ pv.2 with
    | none => rw [e2] at hm; cases hm
    | some q =>
      rw [e2, Option.bind_some] at hm
      split at hm
      · rename_i s hq
        cases e3 : cellD ρ q.2 i with
        | none => rw [e3] at hm; cases hm
        | some c =>
          rw [e3, Option.bind_some] at hm
          split at hm
          · rename_i hl
            cases hm
            obtain ⟨c1, c2⟩ := c
            obtain ⟨s1, s2⟩ := cellD_some e3
            obtain ⟨l, a1, a2⟩ := R.slot i _ s1
            refine ⟨A, Z, ρ, μ, pv.1, pv.2, R, e1, fun v H1 f1 R1 p1 => ⟨.ref l, a2, A, Z, ρ, pv.2, q.1, q.2, R1, e2, fun y H2 f2 R2 p2 => ?_⟩⟩
            rw [hq] at p2
            obtain ⟨ws, h1, h2⟩ := R2.cell c1 (.dct c2) l s2 a1
            have pv2 : Rp X.K (hid H2 fun x => Z x ∨ x ∈ A) v pv.1 := Rp.mono (hid_le fun x z => zw0.mpr z) _ _ (Rp.mono (fw_xt f2) _ _ p1)
            obtain ⟨ws', g1, g2⟩ := put_cell (s := s) pv2 h2
            have hlen : (keyed (c2.map (·.1)) ws).length < sizeLine := by
              rw [keyed_len, List.length_map, h2.length, List.length_map, Nat.min_self]
              exact hl
            refine ⟨l, _, rfl, by rw [show y = L2.kV (.inr s) from p2]; exact DPut.k h1 hlen, ?_⟩
            rw [g1]
            have xt : XT (hid H2 fun x => Z x ∨ x ∈ A) (hid H2 fun x => Z x ∨ x ∈ A) := fun _ _ h _ => h
            refine kq σ _ A (Fs.of ((((f1.mono fun _ h => h.mem).trans (f2.mono fun _ h => h.mem))).trans ⟨fun b o eb nb t => ?_, fun b eb => ?_⟩)) (R2.putC (c0 := .dct (dPut c2 s pv.1)) a1 rfl ⟨ws', upd_same, g2⟩)
            · rw [upd_ne (show b ≠ l from fun z => nb (by rw [z]; exact List.mem_of_getElem? a1))]; exact eb
            · exact fr_up (fun ps z => by cases z) eb
          · cases hm
      · cases hm
theorem pd_popAt (i : Nat) {x : Str} {apos cpos : Pos} (hBB : ∀ j, B j = true → B' j = true) (ha : PDe X T Φ B' a ma) (hN : X.N[i]? = some x := by rfl) (hv : Vis X.env.scope x := by first | exact Or.inl rfl | exact Or.inr (Or.inl rfl) | exact Or.inr (Or.inr rfl)) (hd : (x == ("__debug__" : Str)) = false := by decide) (hcd : (x == ("__classdict__" : Str)) = false := by decide)
    (hst : starEach [a] X.env = (false, eval a X.env) :: starEach [] X.env := by rfl) (hbase : attributeBase (.Name x p) "pop" X.env (eval (.Name x p) X.env) = eval (.Name x p) X.env := by rfl)
    (hfew : ((backTo cpos (starEach [a] X.env)).all (fun x => !x.1) && (backToKw cpos (keywordEach [] X.env)).all (fun x => x.1.isSome)
      && decide ([a].length + ([] : List Keyword).length + (if ([] : List Keyword).isEmpty then 0 else 1) < 30)) = true := by rfl)
    (hline : (apos.endLine == cpos.line) = true := by rfl) (hpl : (backTo cpos (starEach [] X.env)).any (·.1) = false := by rfl) :
    PDe X T Φ B (.Call (.Attribute (.Name x p) "pop" apos) [a] [] cpos) (ePopAt B i ma) :=
  PE.cons (pe_bm PySem.F.plainAttrs_list PySem.F.slot_list_pop PySem.F.type_list_pop mt_popAt (pe_var hN hv hd hcd) (pa_cons ha pa_nil hst) hbase hfew hline hst hpl) fun σ H Q ⟨A, Z, ρ, μ, d, μ', R, hm, kq⟩ => by
  unfold ePopAt at hm
  cases e0 : cellL ρ μ i with
  | none => rw [e0] at hm; cases hm
  | some c0 =>
  rw [e0, Option.bind_some] at hm
  obtain ⟨k0, xs0⟩ := c0
  obtain ⟨s01, s02⟩ := cellL_some e0
  cases e1 : ma ρ μ with
  | none => rw [e1] at hm; cases hm
  | some q =>
    rw [e1, Option.bind_some] at hm
    split at hm
    · rename_i j hq
      cases e2 : cellL ρ q.2 i with
      | none => rw [e2] at hm; cases hm
      | some c =>
        rw [e2, Option.bind_some] at hm
        obtain ⟨c1, c2⟩ := c
        split at hm
        · rename_i hc
          obtain ⟨hno, hok⟩ := Bool.and_eq_true_iff.mp hc
          cases e3 : ixN c2.length j with
          | none => rw [e3] at hm; cases hm
          | some jj =>
            rw [e3, Option.bind_some] at hm
            cases e4 : c2[jj]? with
            | none => rw [e4] at hm; cases hm
            | some d' =>
              rw [e4] at hm
              cases hm
              obtain ⟨s1, s2⟩ := cellL_some e2
              obtain ⟨l, a1, a2⟩ := R.slot i _ s1
              have kk : k0 = c1 := by rw [s1] at s01; cases s01; rfl
              subst kk
              obtain ⟨vs0, hl0, _⟩ := R.cell k0 (.lst _) l s02 a1
              refine ⟨.ref l, a2, .inl ⟨rfl, vs0, .inl (.inl hl0)⟩, A, Z, ρ, μ, q.1, q.2, R, e1, fun y H1 f1 R1 p1 => ?_⟩
              rw [hq] at p1
              obtain ⟨vs, h1, h2⟩ := R1.cell k0 (.lst _) l s2 a1
              obtain ⟨w, g1, g2⟩ := h2.get e4
              obtain ⟨i1, i2, i3, i4⟩ := ixN_seq e3
              have ob : -(2 ^ 62) ≤ j ∧ j < 2 ^ 62 := by simpa [okR] using hok
              refine ⟨l, vs, j, jj, w, rfl, by rw [show y = V.int j from p1], h1, by omega, by omega, by rw [h2.length]; exact i1, g1, ?_⟩
              have ml : l ∈ A := List.mem_of_getElem? a1
              have R2 := R1.put a1 (RpA.erase jj h2)
              have wl : Wr B ρ A l := wr_of hno a1
              refine kq w _ ((f1.mono fun b hb => ?_).trans ⟨fun b o eb nb t => ?_, fun b eb => ?_⟩) R2 (Rp.mono (Rep.see _) _ _ (Rp.mono (fun b o eb t => ?_) _ _ g2))
              · obtain ⟨kk, z1, z2⟩ := hb
                exact ⟨kk, z1, fun ⟨j, y1, y2⟩ => z2 ⟨j, hBB j y1, y2⟩⟩
              · rw [upd_ne (show b ≠ l from fun z => nb (by rw [z]; exact wl))]; exact eb
              · exact fr_up (fun ps z => by cases z) eb
              · have qq := of_hid eb
                rw [hid_of qq.2, upd_ne (show b ≠ l from fun z => qq.2 (.inr (by rw [z]; exact ml)))]
                exact qq.1
        · cases hm
    · cases hm
end
end PD
end
section
set_option linter.all false
set_option maxRecDepth 100000
set_option maxHeartbeats 4000000
/-! P27: dicts of one's own by tuples of texts: {}, d[t] = y, d[t], t in d, d.get(t, y). -/
namespace PD
open PySem PySem.Spec PyProof.Rows L2

def cellS (ρ : List Slot) (μ : List Cell) (i : Nat) : Option (Nat × List (List Str × D)) := match ρ[i]? with
  | some (.own k) => match μ[k]? with
    | some (.dcs kvs) => some (k, kvs)
    | _ => none
  | _ => none
theorem cellS_some {ρ : List Slot} {μ : List Cell} {i k : Nat} {xs : List (List Str × D)} (h : cellS ρ μ i = some (k, xs)) : ρ[i]? = some (.own k) ∧ μ[k]? = some (.dcs xs) := by
  unfold cellS at h
  split at h
  · rename_i k' e
    split at h
    · rename_i ys em
      cases h
      exact ⟨e, em⟩
    · cases h
  · cases h
def sGet : List (List Str × D) → List Str → Option D
  | [], _ => none
  | p :: r, k => if p.1 = k then some p.2 else sGet r k
def sPut (kvs : List (List Str × D)) (k : List Str) (d : D) : List (List Str × D) :=
  if (kvs.any fun p => decide (p.1 = k)) = true then kvs.map (fun p => if p.1 = k then (p.1, d) else p) else kvs ++ [(k, d)]
abbrev kT (ts : List Str) : List Key := ts.map .inr
theorem kT_inj {a b : List Str} (h : kT a = kT b) : a = b := (List.map_inj_right fun x y e => by cases e; rfl).mp h
theorem getS_cell {K : PySem.W.Frag} {Hv : Hp} {s : List Str} : ∀ {kvs : List (List Str × D)} {ws : List V}, RpA K Hv ws (kvs.map (·.2)) →
    (∀ d, sGet kvs s = some d → ∃ v, valV (keyedT (kvs.map (·.1)) ws) (kT s) = some v ∧ Rp K Hv v d) ∧ (sGet kvs s = none → valV (keyedT (kvs.map (·.1)) ws) (kT s) = none)
  | [], ws, _ => ⟨fun d e => (by cases e), fun _ => (by simp [keyedT, valV])⟩
  | p :: kvs, ws, ⟨w, r, e0, h1, h2⟩ => by
    subst e0
    obtain ⟨ih1, ih2⟩ := getS_cell (s := s) h2
    show (∀ d, (if p.1 = s then some p.2 else sGet kvs s) = some d → ∃ v, valV ((kT p.1, w) :: keyedT (kvs.map (·.1)) r) (kT s) = some v ∧ _) ∧ ((if p.1 = s then some p.2 else sGet kvs s) = none → valV ((kT p.1, w) :: keyedT (kvs.map (·.1)) r) (kT s) = none)
    by_cases q : p.1 = s
    · rw [if_pos q]
      refine ⟨fun d e => ?_, fun e => by cases e⟩
      cases e
      exact ⟨w, valV_pos (p := (kT p.1, w)) (by rw [q]), h1⟩
    · rw [if_neg q]
      have nk : ¬ kT p.1 = kT s := fun z => q (kT_inj z)
      refine ⟨fun d e => ?_, fun e => ?_⟩
      · obtain ⟨v, q1, q2⟩ := ih1 d e
        refine ⟨v, ?_, q2⟩
        simp only [valV, List.find?_cons, nk, decide_false] at q1 ⊢
        exact q1
      · have q1 := ih2 e
        simp only [valV, List.find?_cons, nk, decide_false] at q1 ⊢
        exact q1
theorem anyS_cell {s : List Str} : ∀ {kvs : List (List Str × D)} {ws : List V}, ws.length = kvs.length → ((keyedT (kvs.map (·.1)) ws).any fun kv => decide (kv.1 = kT s)) = kvs.any fun p => decide (p.1 = s)
  | [], _, _ => by simp [keyedT]
  | p :: kvs, [], h => by simp at h
  | p :: kvs, w :: ws, h => by
    have ih := anyS_cell (s := s) (kvs := kvs) (ws := ws) (by simpa using h)
    show (decide (kT p.1 = kT s) || _) = (decide (p.1 = s) || _)
    rw [← ih]
    by_cases q : p.1 = s
    · simp [q]
    · have nk : ¬ kT p.1 = kT s := fun z => q (kT_inj z)
      simp only [nk, q, decide_false, Bool.false_or]
      rfl
theorem mapS_cell {K : PySem.W.Frag} {Hv : Hp} {s : List Str} {v : V} {d : D} (hv : Rp K Hv v d) : ∀ {kvs : List (List Str × D)} {ws : List V}, RpA K Hv ws (kvs.map (·.2)) →
    ∃ ws', (keyedT (kvs.map (·.1)) ws).map (fun kv => if kv.1 = kT s then (kv.1, v) else kv) = keyedT ((kvs.map fun p => if p.1 = s then (p.1, d) else p).map (·.1)) ws' ∧ RpA K Hv ws' ((kvs.map fun p => if p.1 = s then (p.1, d) else p).map (·.2))
  | [], ws, h => ⟨[], by simp [keyedT], rfl⟩
  | p :: kvs, ws, ⟨w, r, e0, h1, h2⟩ => by
    subst e0
    obtain ⟨ws', q1, q2⟩ := mapS_cell (s := s) hv h2
    by_cases q : p.1 = s
    · refine ⟨v :: ws', ?_, ?_⟩
      · show (if kT p.1 = kT s then (kT p.1, v) else (kT p.1, w)) :: _ = _
        rw [if_pos (by rw [q])]
        simp only [List.map_cons, if_pos q]
        show _ = (kT p.1, v) :: keyedT _ ws'
        rw [← q1]
        rfl
      · simp only [List.map_cons, if_pos q]
        exact ⟨v, ws', rfl, hv, q2⟩
    · have nk : ¬ kT p.1 = kT s := fun z => q (kT_inj z)
      refine ⟨w :: ws', ?_, ?_⟩
      · show (if kT p.1 = kT s then (kT p.1, v) else (kT p.1, w)) :: _ = _
        rw [if_neg nk]
        simp only [List.map_cons, if_neg q]
        show _ = (kT p.1, w) :: keyedT _ ws'
        rw [← q1]
        rfl
      · simp only [List.map_cons, if_neg q]
        exact ⟨w, ws', rfl, h1, q2⟩
theorem keyedT_snoc : ∀ {ks : List (List Str)} {ws : List V} (k : List Str) (v : V), ws.length = ks.length → keyedT ks ws ++ [(kT k, v)] = keyedT (ks ++ [k]) (ws ++ [v])
  | [], [], k, v, _ => rfl
  | [], _ :: _, k, v, h => by simp at h
  | _ :: _, [], k, v, h => by simp at h
  | x :: ks, w :: ws, k, v, h => by
    have ih := keyedT_snoc (ks := ks) (ws := ws) k v (by simpa using h)
    show (kT x, w) :: (keyedT ks ws ++ [(kT k, v)]) = (kT x, w) :: keyedT (ks ++ [k]) (ws ++ [v])
    rw [ih]
theorem putS_cell {K : PySem.W.Frag} {Hv : Hp} {s : List Str} {v : V} {d : D} {kvs : List (List Str × D)} {ws : List V} (hv : Rp K Hv v d) (h : RpA K Hv ws (kvs.map (·.2))) :
    ∃ ws', putK (keyedT (kvs.map (·.1)) ws) (kT s) v = keyedT ((sPut kvs s d).map (·.1)) ws' ∧ RpA K Hv ws' ((sPut kvs s d).map (·.2)) := by
  have hl : ws.length = kvs.length := by rw [h.length, List.length_map]
  unfold putK sPut
  rw [anyS_cell hl]
  by_cases q : (kvs.any fun p => decide (p.1 = s)) = true
  · rw [if_pos q, if_pos q]
    exact mapS_cell hv h
  · rw [if_neg q, if_neg q]
    refine ⟨ws ++ [v], ?_, ?_⟩
    · rw [List.map_append]
      exact keyedT_snoc s v (by rw [List.length_map]; exact hl)
    · rw [List.map_append]
      exact RpA.app h (RpA.one hv)
theorem keyedT_len {ks : List (List Str)} {ws : List V} : (keyedT ks ws).length = min ks.length ws.length := by simp [keyedT]
/-- a key told as a datum -/
def keyS : D → Option (List Str)
  | .tuple ds => strsOf ds
  | _ => none
theorem texts_of : ∀ {ds : List D} {ts : List Str}, strsOf ds = some ts → textsD ds = true
  | [], _, _ => rfl
  | .str x :: r, ts, h => by
    unfold strsOf at h
    cases e : strsOf r with
    | none => rw [e] at h; cases h
    | some xs =>
      show textsD r = true
      exact texts_of (ts := xs) e
  | .none :: _, _, h => by cases h
  | .bool _ :: _, _, h => by cases h
  | .int _ :: _, _, h => by cases h
  | .list _ :: _, _, h => by cases h
  | .tuple _ :: _, _, h => by cases h
  | .dict _ :: _, _, h => by cases h
theorem key_at {K : PySem.W.Frag} {H : Hp} {v : V} {d : D} {ts : List Str} (h : Rp K H v d) (e : keyS d = some ts) : ∃ b, v = .ref b ∧ H b = some (.tup ((kT ts).map L2.kV)) := by
  unfold keyS at e
  split at e
  · rename_i ds
    obtain ⟨a, xs, rfl, h1, h2⟩ := h
    unfold SqK at h1
    rw [if_pos (texts_of e)] at h1
    rw [strsOf_rp h2 e] at h1
    refine ⟨a, rfl, ?_⟩
    rw [h1, List.map_map]
    rfl
  · cases e
def sNewS (i : Nat) : MS := fun _ ρ μ => some (.next (ρ.set i (.own μ.length)) (μ ++ [.dcs []]))
def eGetS (i : Nat) (m : ME) : ME := fun ρ μ => (m ρ μ).bind fun p => (keyS p.1).bind fun s => (cellS ρ p.2 i).bind fun c => (sGet c.2 s).map fun d => (d, p.2)
def eInS (neg : Bool) (m : ME) (i : Nat) : ME := fun ρ μ => (m ρ μ).bind fun p => (keyS p.1).bind fun s => (cellS ρ p.2 i).map fun c => (.bool (if neg then !(sGet c.2 s).isSome else (sGet c.2 s).isSome), p.2)
def eDefS (i : Nat) (m md : ME) : ME := fun ρ μ => (cellS ρ μ i).bind fun _ => (m ρ μ).bind fun p => (md ρ p.2).bind fun q => (keyS p.1).bind fun s => (cellS ρ q.2 i).map fun c => ((sGet c.2 s).getD q.1, q.2)
def sPutS (i : Nat) (mk mv : ME) : MS := fun _ ρ μ => (mv ρ μ).bind fun p => (mk ρ p.2).bind fun q => (keyS q.1).bind fun s => (cellS ρ q.2 i).bind fun c => if c.2.length < sizeLine then some (.next ρ (q.2.set c.1 (.dcs (sPut c.2 s p.1)))) else none
section
variable {X : Cx} {T : List (Addr × Str)} {Φ : Fx} {B B' : Nat → Bool} {a b e : Expr} {ma mb me : ME} {pos p pos' : Pos} {k : Nat}
theorem s_newS (i : Nat) {x : Str} {pos' dp : Pos} (hN : X.N.Nodup) (hi : X.N[i]? = some x := by rfl) (hx : Loc X.env.scope x := by first | exact Or.inl rfl | exact Or.inr rfl) (hs : swapsWith (.Dict [] [] dp) (some (.Name x pos')) pos.line X.env = pure false := by rfl)
    (hf : X.fn x = true ∨ X.env.scope.names.lookup x = some .local := by first | exact .inl rfl | exact .inr rfl) : PDs X T Φ (.Assign [.Name x pos'] (.Dict [] [] dp) pos) (sNewS i) := PS.cons (ps_set hN hi hx pe_dnewT hs hf) fun Dn σ H ⟨A, Z, n0, ρ, μ, fl, R, hn, hm, k⟩ => by
  cases hm
  intro l hl
  have R1 := R.more (o := .dT []) hl
  have nz : ¬ Z l := fun z => (R.zo l z).2 (.inl hl)
  refine k _ _ (A ++ [l]) ⟨Fw.same (same_upd hl), [l], rfl, fun x hx => by rw [show x = l by simpa using hx]; exact .inl hl⟩ (R1.pushC (c0 := .dcs []) nz ⟨[], upd_same, rfl⟩ i)
theorem pd_getS (i : Nat) {x : Str} (hr : Room k X.A) (ha : PDe X T Φ B e me) (hN : X.N[i]? = some x := by rfl) (hv : Vis X.env.scope x := by first | exact Or.inl rfl | exact Or.inr (Or.inl rfl) | exact Or.inr (Or.inr rfl)) (hd : (x == ("__debug__" : Str)) = false := by decide) (hcd : (x == ("__classdict__" : Str)) = false := by decide)
    (hs : NoSl e := by intro _ _; rfl) : PDe X T Φ B (.Subscript (.Name x p) e pos) (eGetS i me) := PE.cons (pe_dget (by have := hr.units; omega) (pe_var hN hv hd hcd) ha hs) fun σ H Q ⟨A, Z, ρ, μ, d, μ', R, hm, kq⟩ => by
  unfold eGetS at hm
  obtain ⟨q, e1, hm⟩ := Option.bind_eq_some_iff.mp hm
  obtain ⟨s, e2, hm⟩ := Option.bind_eq_some_iff.mp hm
  obtain ⟨c, e3, hm⟩ := Option.bind_eq_some_iff.mp hm
  obtain ⟨d', e4, hm⟩ := Option.map_eq_some_iff.mp hm
  cases hm
  obtain ⟨c1, c2⟩ := c
  obtain ⟨s1, s2⟩ := cellS_some e3
  obtain ⟨l, a1, a2⟩ := R.slot i _ s1
  refine ⟨.ref l, a2, A, Z, ρ, μ, q.1, q.2, R, e1, fun y H2 f2 R2 p2 => ?_⟩
  obtain ⟨b, rfl, hb⟩ := key_at p2 e2
  obtain ⟨ws, h1, h2⟩ := R2.cell c1 (.dcs c2) l s2 a1
  obtain ⟨v, g1, g2⟩ := (getS_cell h2).1 _ e4
  refine ⟨l, v, rfl, ?_, kq v H2 f2 R2 (Rp.mono (Rep.see H2) _ _ g2)⟩
  rw [← g1]
  exact DGet.t h1 (of_hid hb).1
theorem inS_of {neg : Bool} {i : Nat} {σ : L2.St} {H : Hp} {Q : VK} (h : tE X.K T Φ B (eInS neg me i) σ H Q) : tE X.K T Φ B me σ H fun y H1 => tVar i σ H1 fun x H2 => ∃ a o, x = .ref a ∧ DGet H2 a y o ∧ Q (.bl (if neg then !o.isSome else o.isSome)) H2 := by
  obtain ⟨A, Z, ρ, μ, d, μ', R, hm, kq⟩ := h
  unfold eInS at hm
  obtain ⟨q, e1, hm⟩ := Option.bind_eq_some_iff.mp hm
  obtain ⟨s, e2, hm⟩ := Option.bind_eq_some_iff.mp hm
  obtain ⟨c, e3, hm⟩ := Option.map_eq_some_iff.mp hm
  cases hm
  obtain ⟨c1, c2⟩ := c
  obtain ⟨s1, s2⟩ := cellS_some e3
  obtain ⟨l, a1, a2⟩ := R.slot i _ s1
  refine ⟨A, Z, ρ, μ, q.1, q.2, R, e1, fun y H2 f2 R2 p2 => ⟨.ref l, a2, ?_⟩⟩
  obtain ⟨b, rfl, hb⟩ := key_at p2 e2
  obtain ⟨ws, h1, h2⟩ := R2.cell c1 (.dcs c2) l s2 a1
  have hs : (sGet c2 s).isSome = (valV (keyedT (c2.map (·.1)) ws) (kT s)).isSome := by
    obtain ⟨g1, g2⟩ := getS_cell (s := s) h2
    cases e : sGet c2 s with
    | none => rw [g2 e]; rfl
    | some d => obtain ⟨v, z, _⟩ := g1 d e; rw [z]; rfl
  refine ⟨l, _, rfl, DGet.t h1 (of_hid hb).1, kq _ H2 f2 R2 ?_⟩
  rw [← hs]
  rfl
theorem c_inS (i : Nat) {x : Str} (hr : Room k X.A) (ha : PDe X T Φ B e me) (hN : X.N[i]? = some x := by rfl) (hv : Vis X.env.scope x := by first | exact Or.inl rfl | exact Or.inr (Or.inl rfl) | exact Or.inr (Or.inr rfl)) (hd : (x == ("__debug__" : Str)) = false := by decide) (hcd : (x == ("__classdict__" : Str)) = false := by decide) :
    PDe X T Φ B (.Compare e [.In] [.Name x p] pos) (eInS false me i) := PE.cons (pe_cmp (pc_din (by have := hr.units; omega) ha (pe_var hN hv hd hcd))) fun σ H Q h => inS_of h
theorem c_notinS (i : Nat) {x : Str} (hr : Room k X.A) (ha : PDe X T Φ B e me) (hN : X.N[i]? = some x := by rfl) (hv : Vis X.env.scope x := by first | exact Or.inl rfl | exact Or.inr (Or.inl rfl) | exact Or.inr (Or.inr rfl)) (hd : (x == ("__debug__" : Str)) = false := by decide) (hcd : (x == ("__classdict__" : Str)) = false := by decide) :
    PDe X T Φ B (.Compare e [.NotIn] [.Name x p] pos) (eInS true me i) := PE.cons (pe_cmp (pc_dnotin (by have := hr.units; omega) ha (pe_var hN hv hd hcd))) fun σ H Q h => inS_of h
theorem s_putS (i : Nat) {x : Str} (hr : Room k X.A) (hkey : PDe X T Φ B0 e me) (hval : PDe X T Φ B0 a ma) (hN : X.N[i]? = some x := by rfl) (hv : Vis X.env.scope x := by first | exact Or.inl rfl | exact Or.inr (Or.inl rfl) | exact Or.inr (Or.inr rfl)) (hd : (x == ("__debug__" : Str)) = false := by decide) (hcd : (x == ("__classdict__" : Str)) = false := by decide)
    (hs : swapsWith a (some (.Subscript (.Name x p) e pos')) pos.line X.env = pure false := by rfl) : PDs X T Φ (.Assign [.Subscript (.Name x p) e pos'] a pos) (sPutS i me ma) := PS.cons (ps_dput (by have := hr.units; omega) (pe_var hN hv hd hcd) hkey hval hs) fun Dn σ H ⟨A, Z, n0, ρ, μ, fl, R, hn, hm, kq⟩ => by
  unfold sPutS at hm
  obtain ⟨pv, e1, hm⟩ := Option.bind_eq_some_iff.mp hm
  obtain ⟨q, e2, hm⟩ := Option.bind_eq_some_iff.mp hm
  obtain ⟨s, e3, hm⟩ := Option.bind_eq_some_iff.mp hm
  obtain ⟨c, e4, hm⟩ := Option.bind_eq_some_iff.mp hm
  split at hm
  · rename_i hl
    cases hm
    obtain ⟨c1, c2⟩ := c
    obtain ⟨s1, s2⟩ := cellS_some e4
    obtain ⟨l, a1, a2⟩ := R.slot i _ s1
    refine ⟨A, Z, ρ, μ, pv.1, pv.2, R, e1, fun v H1 f1 R1 p1 => ⟨.ref l, a2, A, Z, ρ, pv.2, q.1, q.2, R1, e2, fun y H2 f2 R2 p2 => ?_⟩⟩
    obtain ⟨b, rfl, hb⟩ := key_at p2 e3
    obtain ⟨ws, h1, h2⟩ := R2.cell c1 (.dcs c2) l s2 a1
    have pv2 : Rp X.K (hid H2 fun x => Z x ∨ x ∈ A) v pv.1 := Rp.mono (hid_le fun x z => zw0.mpr z) _ _ (Rp.mono (fw_xt f2) _ _ p1)
    obtain ⟨ws', g1, g2⟩ := putS_cell (s := s) pv2 h2
    have hlen : (keyedT (c2.map (·.1)) ws).length < sizeLine := by
      rw [keyedT_len, List.length_map, h2.length, List.length_map, Nat.min_self]
      exact hl
    refine ⟨l, _, rfl, DPut.t h1 (of_hid hb).1 hlen, ?_⟩
    rw [g1]
    refine kq σ _ A (Fs.of ((((f1.mono fun _ h => h.mem).trans (f2.mono fun _ h => h.mem))).trans ⟨fun b o eb nb t => ?_, fun b eb => ?_⟩)) (R2.putC (c0 := .dcs (sPut c2 s pv.1)) a1 rfl ⟨ws', upd_same, g2⟩)
    · rw [upd_ne (show b ≠ l from fun z => nb (by rw [z]; exact List.mem_of_getElem? a1))]; exact eb
    · exact fr_up (fun ps z => by cases z) eb
  · cases hm
end
end PD
end
section
set_option linter.all false
set_option maxRecDepth 100000
set_option maxHeartbeats 4000000
/-! P28: new cells of any kind (lists, dicts), a, b = .. with a new cell, a call that is handed a new list, texts split, d.get(k, y). -/
namespace PD
open PySem PySem.Spec PyProof.Rows L2

abbrev MN := List Slot → List Cell → Option (Cell × List Cell)
/-- an expression that makes a new cell -/
def tN (K : PySem.W.Frag) (T : List (Addr × Str)) (Φ : Fx) (B : Nat → Bool) (m : MN) : TE := fun σ H Q => ∃ A Z ρ μ c μ', Rep K T Φ A Z σ H ρ μ ∧ m ρ μ = some (c, μ') ∧
  ∀ a H', Fw (Wr B ρ A) H H' → ¬ Z a → Rep K T Φ A (fun x => Z x ∨ x = a) σ H' ρ μ' → Fr H a → CellAt K (hid H' (Zw B ρ A fun x => Z x ∨ x = a)) H' a c → Q (.ref a) H'
abbrev PDn (X : Cx) (T : List (Addr × Str)) (Φ : Fx) (B : Nat → Bool) (e : Expr) (m : MN) : Prop := PE X e (tN X.K T Φ B m)
def nL (mf : MA) : MN := fun ρ μ => (mf ρ μ).map fun p => (.lst p.1, p.2)
def nD : MN := fun _ μ => some (.dct [], μ)
def nS : MN := fun _ μ => some (.dcs [], μ)
def sNewC (i : Nat) (m : MN) : MS := fun _ ρ μ => (m ρ μ).bind fun p => some (.next (ρ.set i (.own p.2.length)) (p.2 ++ [p.1]))
/-- x, y = a, new -/
def sParVC (i j : Nat) (ma : ME) (m : MN) : MS := fun _ ρ μ => (ma ρ μ).bind fun q => (m ρ q.2).bind fun p => some (.next ((ρ.set i (.val q.1)).set j (.own p.2.length)) (p.2 ++ [p.1]))
/-- x, y = new, b -/
def sParCV (i j : Nat) (m : MN) (mb : ME) : MS := fun _ ρ μ => (m ρ μ).bind fun p => (mb ρ p.2).bind fun q => if flat q.1 then some (.next ((ρ.set i (.own q.2.length)).set j (.val q.1)) (q.2 ++ [p.1])) else none
def gSplit : G2
  | .str a, .str b => if (b.length == 0) = false ∧ a.length + 2 ≤ sizeLine then some (.list ((Txt.split a b).map .str)) else none
  | _, _ => none
/-- a call whose one argument is a new list -/
def eCallF (F : FD) (mf : MA) : ME := fun ρ μ => (mf ρ μ).bind fun p => (F [.own 0] [.lst p.1]).bind fun q => if q.2.length = 1 then some (q.1, p.2) else none
section
variable {X : Cx} {T : List (Addr × Str)} {Φ : Fx} {B : Nat → Bool} {a b e f : Expr} {ma mb me md : ME} {mf : MA} {mn : MN} {pos p pos' : Pos} {k j : Nat} {F : FD} {x qual : Str} {st : Stmt} {ps : List Str}
theorem pn_l (h : PDf X T Φ B a mf) : PDn X T Φ B a (nL mf) := PE.cons h fun σ H Q ⟨A, Z, ρ, μ, c, μ', R, hm, k⟩ => by
  unfold nL at hm
  obtain ⟨q, e, hm⟩ := Option.map_eq_some_iff.mp hm
  cases hm
  exact ⟨A, Z, ρ, μ, q.1, q.2, R, e, fun l vs H1 f1 nz R1 n0 h1 h2 => k l H1 f1 nz R1 n0 ⟨vs, h1, h2⟩⟩
theorem pn_d : PDn X T Φ B (.Dict [] [] pos) nD := PE.cons pe_dnewK fun σ H Q ⟨A, Z, ρ, μ, c, μ', R, hm, k⟩ => by
  cases hm
  intro l hl
  exact k l _ (Fw.same (same_upd hl)) (fun z => (R.zo l z).2 (.inl hl)) (R.more (o := .dK []) hl) (.inl hl) ⟨[], upd_same, rfl⟩
theorem pn_s : PDn X T Φ B (.Dict [] [] pos) nS := PE.cons pe_dnewT fun σ H Q ⟨A, Z, ρ, μ, c, μ', R, hm, k⟩ => by
  cases hm
  intro l hl
  exact k l _ (Fw.same (same_upd hl)) (fun z => (R.zo l z).2 (.inl hl)) (R.more (o := .dT []) hl) (.inl hl) ⟨[], upd_same, rfl⟩
theorem s_newC (i : Nat) {x : Str} {pos' : Pos} (hN : X.N.Nodup) (ha : PDn X T Φ B0 a mn) (hi : X.N[i]? = some x := by rfl) (hx : Loc X.env.scope x := by first | exact Or.inl rfl | exact Or.inr rfl) (hs : swapsWith a (some (.Name x pos')) pos.line X.env = pure false := by rfl)
    (hf : X.fn x = true ∨ X.env.scope.names.lookup x = some .local := by first | exact .inl rfl | exact .inr rfl) : PDs X T Φ (.Assign [.Name x pos'] a pos) (sNewC i mn) := PS.cons (ps_set hN hi hx ha hs hf) fun Dn σ H ⟨A, Z, n0, ρ, μ, fl, R, hn, hm, k⟩ => by
  unfold sNewC at hm
  obtain ⟨q, e, hm⟩ := Option.bind_eq_some_iff.mp hm
  cases hm
  refine ⟨A, Z, ρ, μ, q.1, q.2, R, e, fun l H1 f1 nz R1 n1 h1 => ?_⟩
  refine k _ H1 (A ++ [l]) ⟨f1.mono fun _ h => h.mem, [l], rfl, fun x hx => by rw [show x = l by simpa using hx]; exact n1⟩ (R1.pushC (c0 := q.1) nz (h1.xt (hid_le fun x z => zw0.mpr z) fun _ z _ => z) i)
theorem s_parVC (i j : Nat) {x y : Str} {px py pt : Pos} {kt k2 pt2} (hc : X.calm = true) (hN : X.N.Nodup) (ha : PDe X T Φ B0 a ma) (hb : PDn X T Φ B0 b mn) (hij : i ≠ j := by decide) (hi : X.N[i]? = some x := by rfl) (hj : X.N[j]? = some y := by rfl)
    (hx : X.env.scope.names.lookup x = some .local := by rfl) (hy : X.env.scope.names.lookup y = some .local := by rfl) (h1 : starEach [a, b] X.env = (false, eval a X.env) :: starEach [b] X.env := by rfl) (h2 : starEach [b] X.env = (false, eval b X.env) :: starEach [] X.env := by rfl)
    (hw : swappedStores [.Tuple [.Name x px, .Name y py] kt pt] (.Tuple [a, b] k2 pt2) X.env = pure (some [x, y]) := by rfl)
    (hs : swapsWithSole [.Tuple [.Name x px, .Name y py] kt pt] (.Tuple [a, b] k2 pt2) pos.line X.env = pure false := by rfl) :
    PDs X T Φ (.Assign [.Tuple [.Name x px, .Name y py] kt pt] (.Tuple [a, b] k2 pt2) pos) (sParVC i j ma mn) := PS.cons (ps_par hc hN hi hj hij hx hy (pa_cons ha (pa_cons hb pa_nil h2) h1) hw hs) fun Dn σ H ⟨A, Z, n0, ρ, μ, fl, R, hn, hm, k⟩ => by
  unfold sParVC at hm
  obtain ⟨q, e, hm⟩ := Option.bind_eq_some_iff.mp hm
  obtain ⟨c, e2, hm⟩ := Option.bind_eq_some_iff.mp hm
  cases hm
  refine ⟨A, Z, ρ, μ, q.1, q.2, R, e, fun v H1 f1 R1 p1 => ⟨A, Z, ρ, q.2, c.1, c.2, R1, e2, fun l H2 f2 nz R2 n2 c2 => ⟨v, .ref l, rfl, ?_⟩⟩⟩
  have R3 := R2.pushC (c0 := c.1) nz (c2.xt (hid_le fun x z => zw0.mpr z) fun _ z _ => z) j
  have nA : l ∉ A := (R2.zo l (.inr rfl)).1
  have p2 : Rp X.K (hid H2 fun x => Z x ∨ x ∈ A ++ [l]) v q.1 := by
    refine Rp.mono (fun x o eo t => ?_) _ _ p1
    have qq := of_hid eo
    rw [hid_of]
    · exact f2.keep x o qq.1 (fun z => qq.2 (.inr z)) t
    · rintro (z | z)
      · exact qq.2 (.inl z)
      · rcases List.mem_append.mp z with z | z
        · exact qq.2 (zw0.mpr (.inr z))
        · have e : x = l := by simpa using z
          exact fr_not qq.1 t (by rw [e]; exact n2)
  have R4 := R3.setVal i p2
  rw [List.set_comm _ _ (Ne.symm hij), List.set_comm _ _ (Ne.symm hij)] at R4
  exact k _ H2 (A ++ [l]) ⟨(f1.mono fun _ h => h.mem).trans (f2.mono fun _ h => h.mem), [l], rfl, fun x hx => by rw [show x = l by simpa using hx]; exact f1.there l n2⟩ R4
theorem s_parCV (i j : Nat) {x y : Str} {px py pt : Pos} {kt k2 pt2} (hc : X.calm = true) (hN : X.N.Nodup) (ha : PDn X T Φ B0 a mn) (hb : PDe X T Φ B0 b mb) (hij : i ≠ j := by decide) (hi : X.N[i]? = some x := by rfl) (hj : X.N[j]? = some y := by rfl)
    (hx : X.env.scope.names.lookup x = some .local := by rfl) (hy : X.env.scope.names.lookup y = some .local := by rfl) (h1 : starEach [a, b] X.env = (false, eval a X.env) :: starEach [b] X.env := by rfl) (h2 : starEach [b] X.env = (false, eval b X.env) :: starEach [] X.env := by rfl)
    (hw : swappedStores [.Tuple [.Name x px, .Name y py] kt pt] (.Tuple [a, b] k2 pt2) X.env = pure (some [x, y]) := by rfl)
    (hs : swapsWithSole [.Tuple [.Name x px, .Name y py] kt pt] (.Tuple [a, b] k2 pt2) pos.line X.env = pure false := by rfl) :
    PDs X T Φ (.Assign [.Tuple [.Name x px, .Name y py] kt pt] (.Tuple [a, b] k2 pt2) pos) (sParCV i j mn mb) := PS.cons (ps_par hc hN hi hj hij hx hy (pa_cons ha (pa_cons hb pa_nil h2) h1) hw hs) fun Dn σ H ⟨A, Z, n0, ρ, μ, fl, R, hn, hm, k⟩ => by
  unfold sParCV at hm
  obtain ⟨c, e, hm⟩ := Option.bind_eq_some_iff.mp hm
  obtain ⟨q, e2, hm⟩ := Option.bind_eq_some_iff.mp hm
  split at hm
  · rename_i hfl
    cases hm
    refine ⟨A, Z, ρ, μ, c.1, c.2, R, e, fun l H1 f1 nz R1 n1 c1 => ⟨A, fun x => Z x ∨ x = l, ρ, c.2, q.1, q.2, R1, e2, fun v H2 f2 R2 p2 => ⟨.ref l, v, rfl, ?_⟩⟩⟩
    have nA : l ∉ A := (R1.zo l (.inr rfl)).1
    have c2 : CellAt X.K (hid H2 fun x => (Z x ∨ x = l) ∨ x ∈ A) H2 l c.1 := by
      refine (c1.xt (hid_le fun x z => zw0.mpr z) fun _ z _ => z).xt (f2.xt fun x z => .inr z.mem) fun o eo t => f2.keep l o eo (fun z => nA z.mem) t
    have R3 := R2.pushC (c0 := c.1) nz c2 i
    have p3 : Rp X.K (hid H2 fun x => Z x ∨ x ∈ A ++ [l]) v q.1 := by
      refine Rp.ofFlat (fun x o eo t => ?_) _ _ hfl p2
      have qq := of_hid eo
      rw [hid_of]
      · exact qq.1
      · rintro (z | z)
        · exact qq.2 (.inl (.inl z))
        · rcases List.mem_append.mp z with z | z
          · exact qq.2 (zw0.mpr (.inr z))
          · exact qq.2 (.inl (.inr (by simpa using z)))
    exact k _ H2 (A ++ [l]) ⟨(f1.mono fun _ h => h.mem).trans (f2.mono fun _ h => h.mem), [l], rfl, fun x hx => by rw [show x = l by simpa using hx]; exact n1⟩ (R3.setVal j p3)
  · cases hm
theorem pd_split {o : Expr} {mo : ME} {apos : Pos} (ho : PDe X T Φ B o mo) (he : PDe X T Φ B e me) (hs : starEach [e] X.env = [(false, eval e X.env)] := by rfl) (hbase : attributeBase o "split" X.env (eval o X.env) = eval o X.env := by rfl) (hline : (apos.endLine == pos.line) = true := by rfl) :
    PDe X T Φ B (.Call (.Attribute o "split" apos) [e] [] pos) (e2 gSplit mo me) := PE.cons (pe_split ho he hs hbase hline) fun σ H Q ⟨A, Z, ρ, μ, d, μ', R, hm, k⟩ => by
  unfold e2 at hm
  obtain ⟨q, e1, hm⟩ := Option.bind_eq_some_iff.mp hm
  obtain ⟨r, e2, hm⟩ := Option.bind_eq_some_iff.mp hm
  obtain ⟨d', e3, hm⟩ := Option.map_eq_some_iff.mp hm
  cases hm
  unfold gSplit at e3
  split at e3
  · rename_i x y hx hy
    split at e3
    · rename_i hc
      cases e3
      refine ⟨A, Z, ρ, μ, q.1, q.2, R, e1, fun v H1 f1 R1 p1 => ⟨⟨x, by rw [hx] at p1; exact p1⟩, A, Z, ρ, q.2, r.1, r.2, R1, e2, fun u H2 f2 R2 p2 => ?_⟩⟩
      rw [hx] at p1
      rw [hy] at p2
      refine ⟨x, y, p1, by rw [show u = .str y from p2], hc.1, hc.2, fun l hl => ?_⟩
      exact k _ _ ((f1.trans f2).trans (Fw.same (same_upd hl))) (R2.same (same_upd hl)) (rp_new_lst R2.tracked hl (rpA_strs _))
    · cases e3
  · cases e3
theorem pd_callF (D : Def X.prog X.w X.K X.mg X.base T j x qual st ps 1 F) (hr : Room k X.A) (hg : Gl X x) (ha : PDf X T Φ B a mf) (hj : j ≤ k := by decide)
    (hdb : (x == ("__debug__" : Str)) = false := by decide) (he : starEach (a :: []) X.env = (false, eval a X.env) :: starEach [] X.env := by rfl) (hpl : (backTo pos (starEach [] X.env)).any (·.1) = false := by rfl) :
    PDe X T Φ B (.Call (.Name x p) [a] [] pos) (eCallF F mf) := by
  obtain ⟨f, fd, G, hm, hk, hb, _⟩ := D.ex
  refine PE.cons (pe_call G (hr.mono hj) hg hm hk hb .nil pass0 (pa_cons ha pa_nil he) hdb he hpl) fun σ H Q ⟨A, Z, ρ, μ, d, μ', R, hmm, kq⟩ => ?_
  unfold eCallF at hmm
  obtain ⟨q, e1, hmm⟩ := Option.bind_eq_some_iff.mp hmm
  obtain ⟨r, e2, hmm⟩ := Option.bind_eq_some_iff.mp hmm
  split at hmm
  · rename_i hl
    cases hmm
    refine ⟨A, Z, ρ, μ, q.1, q.2, R, e1, fun l vs H1 f1 nz R1 n1 h1 h2 => ?_⟩
    have nA : l ∉ A := (R1.zo l (.inr rfl)).1
    have nW : ¬ Zw B ρ A Z l := fun z => z.elim nz fun z => nA z.mem
    have hz : (fun x => Zw B ρ A Z x ∨ x ∈ [l]) = Zw B ρ A fun x => Z x ∨ x = l := funext fun x => propext ⟨fun z => z.elim (fun z => z.elim (fun z => .inl (.inl z)) .inr) fun z => .inl (.inr (by simpa using z)), fun z => z.elim (fun z => z.elim (fun z => .inl (.inl z)) fun z => .inr (by simpa using z)) fun z => .inl (.inr z)⟩
    have RC : Rep X.K T noFx [l] (Zw B ρ A Z) [some (V.ref l)] H1 [.own 0] [.lst q.1] := by
      refine ⟨rfl, rfl, by simp, fun x z => ⟨fun e => nW (by rw [← show x = l by simpa using e]; exact z), (R1.weakZ fun _ z => .inl z).trackF x z⟩, R1.tabs, fun kk c x ec ex => ?_, fun i s es => ?_⟩
      · cases kk with
        | zero =>
          cases ec
          cases ex
          rw [hz]
          exact ⟨vs, h1, h2⟩
        | succ kk => simp at ec
      · cases i with
        | zero =>
          cases es
          exact ⟨l, rfl, rfl⟩
        | succ i => simp at es
    show spD X.K T 1 F ([V.ref l] ++ []) H1 Q E0
    refine ⟨rfl, [l], Zw B ρ A Z, [.own 0], [.lst q.1], r.1, r.2, RC, e2, fun v H2 f2 RC2 p2 => ?_⟩
    have fa : Fw (Wr B ρ A) H H2 := ⟨fun b o eb nb t => f2.keep b o (f1.keep b o eb nb t) (fun z => fr_not eb t (by rw [show b = l by simpa using z]; exact n1)) t, fun b eb => f1.there b (f2.there b eb)⟩
    have xt : XT (hid H1 fun x => (Z x ∨ x = l) ∨ x ∈ A) (hid H2 fun x => (Z x ∨ x = l) ∨ x ∈ A) := f2.xt fun x z => .inl (.inr (by simpa using z))
    have R2 : Rep X.K T Φ A (fun x => Z x ∨ x = l) σ H2 ρ q.2 := ⟨R1.len, R1.alen, R1.nd, fun x z => ⟨(R1.zo x z).1, fun e => (R1.zo x z).2 (f2.there x e)⟩, RC2.tabs, fun kk c x ec ex => (R1.cell kk c x ec ex).xt xt fun o eo t => f2.keep x o eo (fun z => nA (by rw [← show x = l by simpa using z]; exact List.mem_of_getElem? ex)) t, fun i s es => (R1.slot i s es).xt xt⟩
    refine kq v H2 fa (R2.weakZ fun _ z => .inl z) (Rp.mono (hid_le fun x z => .inl z) _ _ p2)
  · cases hmm
end
end PD
end
section
set_option linter.all false
set_option maxRecDepth 100000
set_option maxHeartbeats 4000000
/-! P29: dict(zip(a, b)) of two tuples or lists; sorted(a tuple of texts). -/
namespace PySem
open Sem (wp)
namespace PDW
section
variable {prog : Program} {w : World} {A : Around} {E : Value → Shared → Prop} {s : Shared} {zz ti to j1 j2 : Addr} {fa fb : List Addr} {na nb i : Nat} {Pa Pb : Nat → Value → Prop} {Sa Sb : Nat → Heap → Prop} {a1 a2 : Value}
theorem held_item {t : Addr} {f : Bool} {ot : Obj} {Q : Value → Shared → Prop} (S : ZipSep2 zz ti to j1 j2 fa fb) (Da : Draws prog w A j1 fa na Pa Sa) (Db : Draws prog w A j2 fb nb Pb Sb)
    (hz : IsZipHeld s.heap zz ti to t f) (ht : s.heap.get? t = some ot) (hti : IsTupOf2 s.heap ti (.ref j1) (.ref j2)) (sa : Sa i s.heap) (sb : Sb i s.heap) (la : i < na) (lb : i < nb)
    (hQ : ∀ x1 x2 h' tk, Pa i x1 → Pb i x2 → IsZipHeld h' zz ti to t true → Sa (i + 1) h' → Sb (i + 1) h' → IsTupOf2 h' s.heap.objs.size x1 x2 → h'.objs.size = s.heap.objs.size + 1 →
      (∀ c o, c ≠ zz → c ≠ j1 → c ≠ j2 → s.heap.get? c = some o → h'.get? c = some o) → Q (.ref s.heap.objs.size) { s with heap := h', toks := tk }) :
    wpAny (model prog w) A (Builtin.«zip.__next__» ⟨[.ref zz], []⟩) (fun fin s' => ∃ v, fin = .done (.ret v) ∧ Q v s') E s := by
  obtain ⟨hp, g, d, tk0, os⟩ := s
  show wpAny _ _ (field (.ref zz) 2 >>= _) _ _ _
  refine wpAny_bind (wpAny_field hz rfl (x := .bool false) rfl ?_)
  show wpAny _ _ (field (.ref zz) 3 >>= _) _ _ _
  refine wpAny_bind (wpAny_field hz rfl (x := .ref ti) rfl ?_)
  refine wpAny_bind (wpAny_seqItems hti rfl ?_)
  show wpAny _ _ (Builtin.SmallTypes.ownedTupleIsFree (.ref zz) >>= _) _ _ _
  refine wpAny_bind (wpAny_tupleHeld_zip hz ht fun g0 hz0 hs0 => ?_)
  replace hs0 : Heap.SameBut zz hp g0 := hs0
  simp only [Bool.false_eq_true, if_false]
  refine wpAny_bind ?_
  rw [← Array.forIn_toList]
  simp only [List.forIn_cons, List.forIn_nil]
  refine wpAny_bind (wpAny_bind (wpAny_holding ?_))
  show wpAny _ _ (Builtin.SmallTypes.nextOf (.ref j1) >>= _) _ _ ⟨g0, g, d, tk0, os⟩
  refine wpAny_bind (Da.item i _ _ _ la (Da.over sa hs0 S.zf1) fun x1 p1 tk1 hx1 sn1 hp1 => wpAny_pure ?_)
  replace hp1 : Heap.SameBut j1 g0 p1 := hp1
  refine wpAny_pure ?_
  refine wpAny_bind (wpAny_bind (wpAny_holding ?_))
  show wpAny _ _ (Builtin.SmallTypes.nextOf (.ref j2) >>= _) _ _ ⟨p1, g, d, tk1, os⟩
  refine wpAny_bind (Db.item i _ _ _ lb (Db.over (Db.over sb hs0 S.zf2) hp1 S.sep1_2) fun x2 p2 tk2 hx2 sn2 hp2 => wpAny_pure ?_)
  replace hp2 : Heap.SameBut j2 p1 p2 := hp2
  refine wpAny_pure (wpAny_pure ?_)
  show wpAny _ _ (newTuple [x1, x2] >>= _) _ _ _
  refine wpAny_bind (wpAny_newTuple ?_)
  have hsz : p2.objs.size = hp.objs.size := by rw [hp2.1, hp1.1, hs0.1]
  have hzp : IsZipHeld p2 zz ti to t true := hp2.extBut _ _ S.zi2 (hp1.extBut _ _ S.zi1 hz0)
  have hkk : ∀ c o, c ≠ zz → c ≠ j1 → c ≠ j2 → hp.get? c = some o → p2.get? c = some o := fun c o cz c1 c2 e => hp2.extBut _ _ c2 (hp1.extBut _ _ c1 (hs0.extBut _ _ cz e))
  have hj1 : Sa (i + 1) p2 := Da.over sn1 hp2 S.sep2_1
  refine wpAny_pure ⟨_, rfl, ?_⟩
  show Q (.ref p2.objs.size) ⟨p2.push { cls := .type "tuple", data := .seq #[x1, x2] }, g, d, tk2, os⟩
  have htt : IsTupOf2 (p2.push { cls := .type "tuple", data := .seq #[x1, x2] }) p2.objs.size x1 x2 := Heap.get?_push_size _ rfl
  have hz4 : (p2.push { cls := .type "tuple", data := .seq #[x1, x2] }).objs.size = p2.objs.size + 1 := Heap.size_push ..
  rw [hsz] at htt hz4 ⊢
  exact hQ x1 x2 _ tk2 hx1 hx2 (Heap.get?_push_of_some _ hzp) (Da.frame _ _ _ hj1 fun b _ o e => Heap.get?_push_of_some _ e) (Db.frame _ _ _ sn2 fun b _ o e => Heap.get?_push_of_some _ e) htt hz4 fun c o cz c1 c2 e => Heap.get?_push_of_some _ (hkk c o cz c1 c2 e)
theorem held_end {t : Addr} {f : Bool} {ot : Obj} {Q : Fin → Shared → Prop} (S : ZipSep2 zz ti to j1 j2 fa fb) (Da : Draws prog w A j1 fa na Pa Sa) (Db : Draws prog w A j2 fb nb Pb Sb)
    (hz : IsZipHeld s.heap zz ti to t f) (ht : s.heap.get? t = some ot) (hti : IsTupOf2 s.heap ti (.ref j1) (.ref j2)) (sa : Sa i s.heap) (sb : Sb i s.heap) (le1 : i ≤ na) (le2 : i ≤ nb) (hend : i = na ∨ i = nb)
    (hE : ∀ h' tk e, (∀ c o, c ≠ zz → c ≠ j1 → c ≠ j2 → s.heap.get? c = some o → h'.get? c = some o) → (∃ o, h'.get? e = some o ∧ o.cls = .type "StopIteration") → E (.ref e) { s with heap := h', toks := tk }) :
    wpAny (model prog w) A (Builtin.«zip.__next__» ⟨[.ref zz], []⟩) Q E s := by
  obtain ⟨hp, g, d, tk0, os⟩ := s
  show wpAny _ _ (field (.ref zz) 2 >>= _) _ _ _
  refine wpAny_bind (wpAny_field hz rfl (x := .bool false) rfl ?_)
  show wpAny _ _ (field (.ref zz) 3 >>= _) _ _ _
  refine wpAny_bind (wpAny_field hz rfl (x := .ref ti) rfl ?_)
  refine wpAny_bind (wpAny_seqItems hti rfl ?_)
  show wpAny _ _ (Builtin.SmallTypes.ownedTupleIsFree (.ref zz) >>= _) _ _ _
  refine wpAny_bind (wpAny_tupleHeld_zip hz ht fun g0 hz0 hs0 => ?_)
  replace hs0 : Heap.SameBut zz hp g0 := hs0
  simp only [Bool.false_eq_true, if_false]
  refine wpAny_bind ?_
  rw [← Array.forIn_toList]
  simp only [List.forIn_cons, List.forIn_nil]
  refine wpAny_bind (wpAny_bind (wpAny_holding ?_))
  show wpAny _ _ (Builtin.SmallTypes.nextOf (.ref j1) >>= _) _ _ ⟨g0, g, d, tk0, os⟩
  by_cases la : i < na
  · refine wpAny_bind (Da.item i _ _ _ la (Da.over sa hs0 S.zf1) fun x1 p1 tk1 hx1 sn1 hp1 => wpAny_pure ?_)
    replace hp1 : Heap.SameBut j1 g0 p1 := hp1
    refine wpAny_pure ?_
    have hi2 : i = nb := by omega
    refine wpAny_bind (wpAny_bind (wpAny_holding ?_))
    show wpAny _ _ (Builtin.SmallTypes.nextOf (.ref j2) >>= _) _ _ ⟨p1, g, d, tk1, os⟩
    refine wpAny_bind (Db.done ⟨p1, g, d, tk1, os⟩ _ _ (by rw [← hi2]; exact Db.over (Db.over sb hs0 S.zf2) hp1 S.sep1_2) fun q e hq he => ?_)
    replace hq : Heap.ExtBut j2 p1 q := hq
    exact hE q tk1 e (fun c o cz c1 c2 x => hq _ _ c2 (hp1.extBut _ _ c1 (hs0.extBut _ _ cz x))) he
  · have hi1 : i = na := by omega
    refine wpAny_bind (Da.done ⟨g0, g, d, tk0, os⟩ _ _ (by rw [← hi1]; exact Da.over sa hs0 S.zf1) fun q e hq he => ?_)
    replace hq : Heap.ExtBut j1 g0 q := hq
    exact hE q tk0 e (fun c o cz c1 c2 x => hq _ _ c1 (hs0.extBut _ _ cz x)) he
theorem next_held_item {t : Addr} {f : Bool} {ot : Obj} {Q : Option Value → Shared → Prop} (S : ZipSep2 zz ti to j1 j2 fa fb) (Da : Draws prog w A.in1 j1 fa na Pa Sa) (Db : Draws prog w A.in1 j2 fb nb Pb Sb)
    (hz : IsZipHeld s.heap zz ti to t f) (ht : s.heap.get? t = some ot) (hti : IsTupOf2 s.heap ti (.ref j1) (.ref j2)) (sa : Sa i s.heap) (sb : Sb i s.heap) (la : i < na) (lb : i < nb)
    (hQ : ∀ x1 x2 h' tk, Pa i x1 → Pb i x2 → IsZipHeld h' zz ti to t true → Sa (i + 1) h' → Sb (i + 1) h' → IsTupOf2 h' s.heap.objs.size x1 x2 → h'.objs.size = s.heap.objs.size + 1 →
      (∀ c o, c ≠ zz → c ≠ j1 → c ≠ j2 → s.heap.get? c = some o → h'.get? c = some o) → Q (some (.ref s.heap.objs.size)) { s with heap := h', toks := tk }) : wpAny (model prog w) A (pyNext (.ref zz)) Q E s := by
  have hty : s.TypeIs (.ref zz) "zip" := ⟨_, hz, rfl⟩
  unfold pyNext
  exact wpAny_bind (wpAny_attempt (wpAny_callSpecial?_slot (name := Str.ofString "__next__") hty F.slot_zip_next
    (wpAny_call_entry F.slot_zip_next hty F.entry_zip_next (held_item S Da Db hz ht hti sa sb la lb fun x1 x2 h' tk y1 y2 b1 d1 d2 b5 b6 b7 => wpAny_pure (hQ x1 x2 h' tk y1 y2 b1 d1 d2 b5 b6 b7)) (F.args_zip_next_1 _))))
theorem next_held_end {t : Addr} {f : Bool} {ot : Obj} {Q : Option Value → Shared → Prop} (S : ZipSep2 zz ti to j1 j2 fa fb) (Da : Draws prog w A.in1 j1 fa na Pa Sa) (Db : Draws prog w A.in1 j2 fb nb Pb Sb)
    (hz : IsZipHeld s.heap zz ti to t f) (ht : s.heap.get? t = some ot) (hti : IsTupOf2 s.heap ti (.ref j1) (.ref j2)) (sa : Sa i s.heap) (sb : Sb i s.heap) (le1 : i ≤ na) (le2 : i ≤ nb) (hend : i = na ∨ i = nb)
    (hQ : ∀ h' tk, (∀ c o, c ≠ zz → c ≠ j1 → c ≠ j2 → s.heap.get? c = some o → h'.get? c = some o) → Q none { s with heap := h', toks := tk }) : wpAny (model prog w) A (pyNext (.ref zz)) Q E s := by
  have hty : s.TypeIs (.ref zz) "zip" := ⟨_, hz, rfl⟩
  unfold pyNext
  refine wpAny_bind (wpAny_attempt (wpAny_callSpecial?_slot (name := Str.ofString "__next__") hty F.slot_zip_next
    (wpAny_call_entry F.slot_zip_next hty F.entry_zip_next (held_end S Da Db hz ht hti sa sb le1 le2 hend fun h' tk e hk he => ?_) (F.args_zip_next_1 _))))
  obtain ⟨o, ho, hc⟩ := he
  refine wpAny_bind (wpAny_isInstance (T := "StopIteration") (b := true) ⟨o, ho, hc⟩ isSubtype_stop ?_)
  exact wpAny_pure (hQ _ _ hk)
end
section
variable {prog : Program} {w : World} {zz ti to j1 j2 : Addr} {fa fb : List Addr} {na nb : Nat} {Pa Pb : Nat → Value → Prop} {Sa Sb : Nat → Heap → Prop}
/-- zip over two iterators of any kind, as what dict() is made of -/
theorem pairs_zip (S : ZipSep2 zz ti to j1 j2 fa fb) (Da : ∀ A : Around, A.handled = none → Draws prog w A j1 fa na Pa Sa) (Db : ∀ A : Around, A.handled = none → Draws prog w A j2 fb nb Pb Sb)
    (ra : ∀ h, Sa 0 h → ∀ b ∈ fa, ∃ o, h.get? b = some o) (rb : ∀ h, Sb 0 h → ∀ b ∈ fb, ∃ o, h.get? b = some o) (ka : ∀ i h h', Sa i h → (∀ b ∈ fa, ∀ o, h.get? b = some o → h'.get? b = some o) → Sa i h') (kb : ∀ i h h', Sb i h → (∀ b ∈ fb, ∀ o, h.get? b = some o → h'.get? b = some o) → Sb i h') :
    PairArg prog w "zip" zz (zz :: ti :: to :: (fa ++ fb)) [zz, to, j1, j2] (min na nb) (fun i k v => Pa i k ∧ Pb i v)
      (fun h => IsZip h zz ti to .none ∧ IsTupOf2 h ti (.ref j1) (.ref j2) ∧ (∃ a b, IsTupOf2 h to a b) ∧ Sa 0 h ∧ Sb 0 h) where
  type := fun s ok => ⟨_, ok.1, rfl⟩
  notDict := by decide
  keep := fun h h' ok hk => by
    obtain ⟨hz, hti, ⟨a, b, hto⟩, h1, h2⟩ := ok
    exact ⟨hk _ _ hz, hk _ _ hti, ⟨a, b, hk _ _ hto⟩, ka _ _ _ h1 fun b _ o e => hk _ o e, kb _ _ _ h2 fun b _ o e => hk _ o e⟩
  there := fun h ok b hb => by
    obtain ⟨hz, hti, ⟨a, c, hto⟩, h1, h2⟩ := ok
    simp only [List.mem_cons, List.mem_append] at hb
    rcases hb with q | q | q | q | q
    · rw [q]; exact ⟨_, hz⟩
    · rw [q]; exact ⟨_, hti⟩
    · rw [q]; exact ⟨_, hto⟩
    · exact ra h h1 b q
    · exact rb h h2 b q
  sub := fun b hb => by
    simp only [List.mem_cons, List.not_mem_nil, or_false, List.mem_append] at hb ⊢
    rcases hb with q | q | q | q
    · exact .inl q
    · exact .inr (.inr (.inl q))
    · exact .inr (.inr (.inr (.inl (by rw [q]; exact S.mem1))))
    · exact .inr (.inr (.inr (.inr (by rw [q]; exact S.mem2))))
  noKeys := fun A s Q E hA ok h => getAttrOr_miss_zip ok.1 rfl rfl rfl zip_no_keys (by decide +kernel) hA h
  iter := fun A s d Q E hA ok hd hdf h => by
    obtain ⟨hz, hti, ⟨a, b, hto⟩, h1, h2⟩ := ok
    simp only [List.mem_cons, List.mem_append, not_or] at hdf
    obtain ⟨dz, dti, dto, d1, d2⟩ := hdf
    have dj1 : d ≠ j1 := fun e => d1 (by rw [e]; exact S.mem1)
    have dj2 : d ≠ j2 := fun e => d2 (by rw [e]; exact S.mem2)
    refine wpAny_pyIter_zip hz (h zz [zz, to, j1, j2] (fun i h => IsTupOf2 h ti (.ref j1) (.ref j2) ∧ Sa i h ∧ Sb i h ∧
      ((IsZip h zz ti to .none ∧ ∃ a b, IsTupOf2 h to a b) ∨ ∃ T f oT, IsZipHeld h zz ti to T f ∧ h.get? T = some oT ∧ T ≠ zz ∧ T ≠ j1 ∧ T ≠ j2 ∧ T ≠ d)) s.heap s.toks ?_ ⟨hti, h1, h2, .inl ⟨hz, a, b, hto⟩⟩ (fun _ _ e => e) fun b hb => .inl hb)
    exact {
      off := fun hm => by
        simp only [List.mem_cons, List.not_mem_nil, or_false] at hm
        rcases hm with e | e | e | e
        · exact dz e
        · exact dto e
        · exact dj1 e
        · exact dj2 e
      frame := fun i h₁ h₂ st hk => by
        obtain ⟨hti, h1, h2, hz⟩ := st
        refine ⟨hk _ _ (Ne.symm dti) hti, ka _ _ _ h1 fun b hb o e => hk b o (fun q => d1 (by rw [← q]; exact hb)) e, kb _ _ _ h2 fun b hb o e => hk b o (fun q => d2 (by rw [← q]; exact hb)) e, ?_⟩
        rcases hz with ⟨hz, a, b, hto⟩ | ⟨T, f, oT, hz, hT, r1, r2, r3, r4⟩
        · exact .inl ⟨hk _ _ (Ne.symm dz) hz, a, b, hk _ _ (Ne.symm dto) hto⟩
        · exact .inr ⟨T, f, oT, hk _ _ (Ne.symm dz) hz, hk _ _ r4 hT, r1, r2, r3, r4⟩
      item := fun i s₁ Q₁ E₁ hi st hds hQ => by
        obtain ⟨hti, h1, h2, hz⟩ := st
        have lt : ∀ {c o}, s₁.heap.get? c = some o → s₁.heap.objs.size ≠ c := fun e => Nat.ne_of_gt (Heap.lt_size e)
        have n1 : s₁.heap.objs.size ≠ j1 := let ⟨_, e⟩ := (Da A hA).live _ _ h1; lt e
        have n2 : s₁.heap.objs.size ≠ j2 := let ⟨_, e⟩ := (Db A hA).live _ _ h2; lt e
        have i1 : i < na := by omega
        have i2 : i < nb := by omega
        rcases hz with ⟨hz, a, b, hto⟩ | ⟨T, f, oT, hz, hT, r1, r2, r3, r4⟩
        · refine wpAny_pyNext_zipD2_item S (Da _ hA) (Db _ hA) hz hti hto h1 h2 i1 i2 fun x1 x2 h' tk p1 p2 c1 c2 c3 c4 c5 c6 hk => ?_
          exact hQ s₁.heap.objs.size _ _ h' tk ⟨p1, p2⟩ (.inl ⟨_, c5, rfl, _, rfl⟩)
            ⟨hk _ _ S.TIz S.TITO S.TIi1 S.TIi2 hti, c3, c4, .inr ⟨s₁.heap.objs.size, false, _, c1, c5, lt hz, n1, n2, Nat.ne_of_gt hds⟩⟩
            fun c o hc e => hk c o (fun x => hc (by simp [x])) (fun x => hc (by simp [x])) (fun x => hc (by simp [x])) (fun x => hc (by simp [x])) e
        · refine next_held_item S (Da _ hA) (Db _ hA) hz hT hti h1 h2 i1 i2 fun x1 x2 h' tk p1 p2 c1 c3 c4 c5 c6 hk => ?_
          exact hQ s₁.heap.objs.size _ _ h' tk ⟨p1, p2⟩ (.inl ⟨_, c5, rfl, _, rfl⟩)
            ⟨hk _ _ S.TIz S.TIi1 S.TIi2 hti, c3, c4, .inr ⟨T, true, oT, c1, hk _ _ r1 r2 r3 hT, r1, r2, r3, r4⟩⟩
            fun c o hc e => hk c o (fun x => hc (by simp [x])) (fun x => hc (by simp [x])) (fun x => hc (by simp [x])) e
      done := fun s₁ Q₁ E₁ st hQ => by
        obtain ⟨hti, h1, h2, hz⟩ := st
        have le1 : min na nb ≤ na := Nat.min_le_left ..
        have le2 : min na nb ≤ nb := Nat.min_le_right ..
        have hend : min na nb = na ∨ min na nb = nb := by omega
        rcases hz with ⟨hz, a, b, hto⟩ | ⟨T, f, oT, hz, hT, r1, r2, r3, r4⟩
        · exact wpAny_pyNext_zipD2_end S (Da _ hA) (Db _ hA) hz hti hto h1 h2 le1 le2 hend fun h' tk hk => hQ h' tk fun c o hc e => hk c o (fun x => hc (by simp [x])) (fun x => hc (by simp [x])) (fun x => hc (by simp [x])) (fun x => hc (by simp [x])) e
        · exact next_held_end S (Da _ hA) (Db _ hA) hz hT hti h1 h2 le1 le2 hend fun h' tk hk => hQ h' tk fun c o hc e => hk c o (fun x => hc (by simp [x])) (fun x => hc (by simp [x])) (fun x => hc (by simp [x])) e }
end
end PDW
end PySem
namespace PD
open PySem PySem.Spec PyProof.Rows L2 PySem.PDW
theorem putK_new {kvs : List (Key × V)} {k : Key} {v : V} (h : ∀ p ∈ kvs, p.1 ≠ k) : putK kvs k v = kvs ++ [(k, v)] := by
  unfold putK
  rw [if_neg]
  intro z
  obtain ⟨p, hp, e⟩ := List.any_eq_true.mp z
  exact h p hp (of_decide_eq_true e)
theorem mergeK_new : ∀ {more kvs : List (Key × V)}, (more.map (·.1)).Nodup → (∀ p ∈ kvs, ∀ q ∈ more, p.1 ≠ q.1) → mergeK kvs more = kvs ++ more
  | [], kvs, _, _ => by simp [mergeK]
  | q :: more, kvs, hn, hd => by
    obtain ⟨h1, h2⟩ := List.nodup_cons.mp (by simpa using hn : (q.1 :: more.map (·.1)).Nodup)
    show mergeK (putK kvs q.1 q.2) more = _
    rw [putK_new fun p hp => hd p hp q (List.mem_cons_self ..), mergeK_new h2 fun p hp r hr => ?_]
    · simp
    · rcases List.mem_append.mp hp with z | z
      · exact hd p z r (List.mem_cons_of_mem _ hr)
      · rw [show p = (q.1, q.2) by simpa using z]
        exact fun e => h1 (List.mem_map.mpr ⟨r, hr, e.symm⟩)
theorem keyed_fst : ∀ {ks : List Str} {ws : List V}, ws.length = ks.length → (keyed ks ws).map (·.1) = ks.map Sum.inr
  | [], [], _ => rfl
  | [], _ :: _, h => by simp at h
  | _ :: _, [], h => by simp at h
  | k :: ks, w :: ws, h => by
    show Sum.inr k :: (keyed ks ws).map (·.1) = _
    rw [keyed_fst (by simpa using h)]
    rfl
theorem keyed_KV : ∀ {ks : List Str} {ws : List V} {us : List Value}, Vals ws us → KV (keyed ks ws) (List.zipWith (fun k u => ((.inr k : Key), u)) ks us)
  | [], _, _, _ => .nil
  | _ :: _, _, _, .nil => .nil
  | k :: ks, _, _, .cons r t => .cons ⟨rfl, r⟩ (keyed_KV t)
theorem nne {a b : Nat} (h : a ≠ b) : @Ne Addr a b := h
theorem zipSep (I l1 l2 : Nat) (h1 : l1 < I) (h2 : l2 < I) : ZipSep2 (I + 4) (I + 2) (I + 3) I (I + 1) [I, l1] [I + 1, l2] := by
  have off : ∀ {x a b : Nat}, x ≠ a → x ≠ b → (x : Addr) ∉ ([a, b] : List Addr) := fun h1 h2 hm => by
    simp only [List.mem_cons, List.not_mem_nil, or_false] at hm
    exact hm.elim h1 h2
  exact ⟨nne (by omega), nne (by omega), nne (by omega), nne (by omega), List.mem_cons_self .., off (by omega) (by omega), off (by omega) (by omega), nne (by omega), List.mem_cons_self .., off (by omega) (by omega), off (by omega) (by omega), off (by omega) (by omega), off (by omega) (by omega)⟩
/-- dict(zip(a, b)), two tuples, the first one of unlike texts -/
def nDzip (mas : MA) : MN := fun ρ μ => (mas ρ μ).bind fun p => match p.1 with
  | [.tuple xs, .tuple ys] => (strsOf xs).bind fun ks => if ks.Nodup ∧ ks.length = ys.length then some (.dct (ks.zip ys), p.2) else none
  | _ => none
section
variable {X : Cx} {T : List (Addr × Str)} {Φ : Fx} {B : Nat → Bool} {a b : Expr} {mas : MA} {p p2 q pos : Pos}
theorem pn_dzip (hc0 : X.calm = true) (hm : X.mg "dict" = none) (hm2 : X.mg "zip" = none) (hg : Gl X "dict") (hg2 : Gl X "zip") (ha : PDa X T Φ B [a, b] mas) (hs : starEach [a, b] X.env = (false, eval a X.env) :: starEach [b] X.env := by rfl) (hpl : (backTo q (starEach [b] X.env)).any (·.1) = false := by rfl)
    (na : starEach [.Call (.Name "zip" p2) [a, b] [] q] X.env = (false, eval (.Call (.Name "zip" p2) [a, b] [] q) X.env) :: starEach [] X.env := by rfl) :
    PDn X T Φ B (.Call (.Name "dict" p) [.Call (.Name "zip" p2) [a, b] [] q] [] pos) (nDzip mas) := by
  refine ⟨fun pins s σ H Q I h => ?_⟩
  obtain ⟨A, Z, ρ, μ, c, μ', R, hmm, k⟩ := h
  unfold nDzip at hmm
  obtain ⟨pr, e1, hmm⟩ := Option.bind_eq_some_iff.mp hmm
  obtain ⟨ds, μ1⟩ := pr
  dsimp only at hmm
  split at hmm
  · rename_i dx dy
    obtain ⟨ks, ek, hmm⟩ := Option.bind_eq_some_iff.mp hmm
    split at hmm
    · rename_i hc
      cases hmm
      refine Call_ (ld_blt I hg hm (show bootBuiltins "dict" = some (.type "dict") by decide +kernel) (PyProof.Rows.callWith_type1 ?_ na rfl))
      rw [na]
      show wpAny _ _ (spliced ((false, eval (.Call (.Name "zip" p2) [a, b] [] q) X.env) :: backTo pos (starEach [] X.env))) _ _ s
      refine Calls.spliced_cons (Call_ (ld_blt I hg2 hm2 PyProof.Rows.boot_zip (PyProof.Rows.callWith_type1 (thn (ha.run q pins s σ H (fun vs H1 => Fw (Wr B ρ A) H H1 ∧ Rep X.K T Φ A Z σ H1 ρ μ' ∧ RpA X.K (hid H1 (Zw B ρ A Z)) vs [.tuple dx, .tuple dy]) I ⟨A, Z, ρ, μ, _, μ', R, e1, fun vs H1 f1 R1 p1 => ⟨f1, R1, p1⟩⟩) fun us s1 ⟨vs, H1, I1, r1, f1, R1, p1⟩ => ?_) hs hpl)))
      obtain ⟨v1, _, rfl, ⟨l1, xs, rfl, x1, x2⟩, v2, _, rfl, ⟨l2, ys, rfl, y1, y2⟩, rfl⟩ := p1
      have exs : xs = ks.map V.str := strsOf_rp x2 ek
      subst exs
      cases r1 with
      | cons r rr =>
        cases rr with
        | cons r' rr =>
          cases rr
          cases r
          cases r'
          obtain ⟨its, rv, pt, hz1⟩ := I1.tuple (hid_sqT x1.sq)
          obtain ⟨its2, rv2, pt2, hz2⟩ := I1.tuple (hid_sqT y1.sq)
          have lt1 : l1 < s1.heap.objs.size := let ⟨o, ho, _⟩ := pt; Heap.lt_size ho
          have lt2 : l2 < s1.heap.objs.size := let ⟨o, ho, _⟩ := pt2; Heap.lt_size ho
          refine RZ.call_zipT (show s1.heap.IsTuple l1 its.toArray from pt) (show s1.heap.IsTuple l2 its2.toArray from pt2) fun h' hz hTI hTO h1 h2 hsz hk => ?_
          refine Calls.spliced_nil ?_
          have S := zipSep s1.heap.objs.size l1 l2 lt1 lt2
          have kt : ∀ {c : Addr} {its : Array Value}, s1.heap.IsTuple c its → h'.IsTuple c its := fun ⟨o, ho, r⟩ => ⟨o, hk _ _ ho, r⟩
          have l1e : ks.length = its.length := by rw [← rv.length, List.length_map]
          have l2e : dy.length = its2.length := by rw [← rv2.length, y2.length]
          have hl : ks.length = its2.length := by rw [hc.2, l2e]
          refine PySem.call_dict_pairs (s := { s1 with heap := h' }) (knd := mixKind X.prog X.w) (kvs := List.zipWith (fun k u => ((.inr k : Key), u)) ks its2)
            (pairs_zip S (fun A hA => Draws.tuple hA _ l1 (Nat.ne_of_lt lt1) its.toArray) (fun A hA => Draws.tuple hA _ l2 (Nat.ne_of_lt (Nat.lt_succ_of_lt lt2)) its2.toArray)
              (fun h hS b hb => ?_) (fun h hS b hb => ?_) (fun i h h' st hk => ⟨st.1.at fun o e => hk _ (List.mem_cons_self ..) o e, st.2.at fun o e => hk _ (List.mem_cons_of_mem _ (List.mem_cons_self ..)) o e⟩) (fun i h h' st hk => ⟨st.1.at fun o e => hk _ (List.mem_cons_self ..) o e, st.2.at fun o e => hk _ (List.mem_cons_of_mem _ (List.mem_cons_self ..)) o e⟩))
            (I1.ok.hd hc0) ⟨hz, hTI, ⟨_, _, hTO⟩, ⟨h1, kt pt⟩, h2, kt pt2⟩ ⟨?_, fun i key v hr => ?_⟩ ?_ fun h'' tk hd hk2 => ?_
          · obtain ⟨⟨o, ho, _⟩, o2, ho2, _⟩ := hS
            simp only [List.mem_cons, List.not_mem_nil, or_false] at hb
            rcases hb with z | z
            · rw [z]; exact ⟨_, ho⟩
            · rw [z]; exact ⟨_, ho2⟩
          · obtain ⟨⟨o, ho, _⟩, o2, ho2, _⟩ := hS
            simp only [List.mem_cons, List.not_mem_nil, or_false] at hb
            rcases hb with z | z
            · rw [z]; exact ⟨_, ho⟩
            · rw [z]; exact ⟨_, ho2⟩
          · rw [List.length_zipWith, List.size_toArray, List.size_toArray, l1e]
          · obtain ⟨q1, q2⟩ := hr
            rw [List.getElem?_toArray] at q1 q2
            obtain ⟨kv, w1, w2⟩ := valsU rv q1
            rw [List.getElem?_map] at w1
            cases e3 : ks[i]? with
            | none => rw [e3] at w1; cases w1
            | some k0 =>
              rw [e3] at w1
              cases w1
              obtain ⟨t, ht⟩ := w2
              refine ⟨.inr k0, by rw [List.getElem?_zipWith, e3, q2], ?_⟩
              rw [ht]
              exact mixKind_str _ _ k0 t
          · rw [List.size_toArray, List.size_toArray]
            refine Nat.le_trans (Nat.min_le_left ..) ?_
            rw [← l1e]
            simpa using hz1
          · have hp0 : s1.heap.objs.size ≤ h'.objs.size := by rw [hsz]; omega
            have hpn : H1 h'.objs.size = none := I1.hok.fresh hp0
            have k3 : ∀ b u, s1.heap.get? b = some u → h''.get? b = some u := fun b u e => by
              refine hk2 b u ?_ (hk b u e)
              have lt := Heap.lt_size e
              simp only [List.mem_cons, List.not_mem_nil, or_false, not_or]
              have ne : ∀ j : Nat, b ≠ s1.heap.objs.size + j := fun j => Nat.ne_of_lt (Nat.lt_of_lt_of_le lt (Nat.le_add_right _ _))
              exact ⟨ne 4, ne 3, ne 0, ne 1⟩
            have hly : ys.length = ks.length := by rw [y2.length, ← hc.2]
            have em : mergeK [] (keyed ks ys) = keyed ks ys := by
              rw [mergeK_new ?_ fun p hp => by simp at hp]
              · rfl
              · rw [keyed_fst hly]
                exact List.pairwise_map.mpr (hc.1.imp fun {x y} h z => h (Sum.inr.inj z))
            have hmn : (h'.objs.size == sysModules) = false := beq_eq_false_iff_ne.mpr (Nat.ne_of_gt (Nat.lt_of_lt_of_le I1.big hp0))
            have hkv : (mergeK [] (keyed ks ys)).length ≤ sizeLine := by
              rw [em, keyed_len]
              refine Nat.le_trans (Nat.min_le_left ..) ?_
              simpa using hz1
            have I2 := I1.laid (a := h'.objs.size) (o := .dK (mergeK [] (keyed ks ys))) (t' := tk) k3 hp0 (show ObjOk X.prog X.w _ h'' _ (.dK (mergeK [] (keyed ks ys))) from ⟨hkv, hmn, merged [] _, KV.merge (keyed_KV rv2) .nil, hd⟩)
            rw [em] at I2
            have R2 := R1.more (o := .dK (keyed ks ys)) hpn
            have nz : ¬ Z h'.objs.size := fun z => (R1.zo _ z).2 (.inl hpn)
            have sm := same_upd (o := .dK (keyed ks ys)) hpn
            refine ⟨.ref h'.objs.size, _, I2, rfl, k _ _ (f1.trans (Fw.same sm)) nz R2 (f1.there _ (.inl hpn)) ⟨ys, ?_, ?_⟩⟩
            · rw [List.map_fst_zip (Nat.le_of_eq hc.2)]
              exact upd_same
            · rw [List.map_snd_zip (Nat.le_of_eq hc.2.symm)]
              refine RpA.mono (fun x o eo t => ?_) _ _ y2
              have q := of_hid eo
              have nx : x ≠ h'.objs.size := ne_of_none q.1 hpn
              rw [hid_of, upd_ne nx]
              · exact q.1
              · rintro ((z | z) | z)
                · exact q.2 (.inl z)
                · exact nx z
                · exact q.2 (.inr z)
    · cases hmm
  · cases hmm
end
end PD
namespace PySem
open PyProof.Rows
namespace PDW
section
variable {P : Program} {w : World} {A : Around} {E : Value → Shared → Prop} {s : Shared}
theorem tup_sorted {a : Addr} {o : Obj} {items : Array Value} {n : Nat} {ts : List Str} {Q : Value → Shared → Prop} (ho : s.heap.get? a = some o) (hc : o.cls = .type "tuple") (hd : o.data = .seq items n) (hL : items.size ≤ sizeLine) (he : PySem.W.EachIs (fun v x => ∃ t, v = .str x t) items.toList ts) (hu : A.units + 64 < cLine)
    (hQ : ∀ (h1 h2 : Heap) (out : List Value) (c : Nat), (∀ b o, s.heap.get? b = some o → h1.get? b = some o) → (∀ b o, h1.get? b = some o → h2.get? b = some o) → h2.get? h1.objs.size = some (seqObj "list" out.toArray c) →
      PySem.W.EachIs (fun v x => ∃ t, v = .str x t) out (ts.mergeSort (PySem.W.dataLe false PyData.str)) → Q (.ref h1.objs.size) { s with heap := h2 }) :
    wpAny (model P w) A (call (.builtin "sorted") [.ref a]) Q E s := by
  have hlen : items.toList.length = ts.length := he.length
  refine Calls.call_function_entry kind_sorted plain_sorted entry_sorted (args_sorted1 _) ?_
  unfold Builtin.«sorted»
  refine wpAny_bind (m := checkCount "sorted" 1 1 _) (wpAny_pure ?_)
  refine wpAny_bind (wpAny_collect_seq (A := A.in1) a (.inr rfl) ho hc hd (fun h1 k1 => ?_) hL)
  refine wpAny_bind (wpAny_newList ?_ (by simpa using hL))
  have hoL : (h1.push (seqObj "list" items.toList.toArray 0)).get? h1.objs.size = some (seqObj "list" items.toList.toArray 0) := Heap.get?_push_size _ rfl
  have al : PySem.W.AllAlike (ts.map PyData.str) := fun d hd d' hd' => by
    obtain ⟨x, _, rfl⟩ := List.mem_map.mp hd
    obtain ⟨y, _, rfl⟩ := List.mem_map.mp hd'
    simp [PySem.W.alike]
  have so : PySem.W.Sortable (ts.map PyData.str) := .inr fun d hd => by
    obtain ⟨x, _, rfl⟩ := List.mem_map.mp hd
    exact ⟨(fun z => by cases z), (fun _ z => by cases z)⟩
  refine wpAny_bind (wpAny_holding (PySem.W.list_sort_data (s := { s with heap := h1.push (seqObj "list" items.toList.toArray 0) }) (bs := ts) (enc := PyData.str) hoL he (he.mono fun v b ⟨t, hv⟩ => ⟨[], by rw [hv]; exact .str b t, by simp⟩) al so (by rw [← hlen]; simpa using hL) (fun b _ => by
    have : (PyData.str b).depth = 0 := by simp [PyData.depth]
    rw [this]
    show A.units + 1 + 1 + 0 < cLine
    omega) fun out hl he2 => ?_))
  obtain ⟨c, hc2⟩ := sortedHeap_at (vs := items.toList) (out := out.toArray) hoL
  refine wpAny_pure ⟨_, rfl, hQ h1 _ out c k1 (fun b u q => ?_) hc2 he2⟩
  have hlt := Heap.lt_size q
  rw [sortedHeap_old (Nat.ne_of_lt hlt) (by rw [size_push']; exact Nat.lt_succ_of_lt hlt)]
  exact Heap.get?_push_of_some _ q
end
end PDW
end PySem
namespace PD
open PySem PySem.Spec PyProof.Rows L2 PySem.PDW
def gSortT : G1
  | .tuple ds => (strsOf ds).bind fun ts => if ts.length ≤ sizeLine then some (.list (sortD (ts.map .str))) else none
  | _ => none
def rSortT (K : PySem.W.Frag) : List V → Hp → VK → Prop := fun xs H Q => ∃ (p : Addr) (ts : List Str), xs = [.ref p] ∧ SqT K H p (ts.map V.str) ∧ ts.length ≤ sizeLine ∧ ∀ q, H q = none → Q (.ref q) (upd H q (.lst ((ts.mergeSort (PySem.W.dataLe false PyData.str)).map V.str)))
theorem vstr_each : ∀ {us : List Value} {ts : List Str}, Vals (ts.map V.str) us → PySem.W.EachIs (fun v x => ∃ t, v = .str x t) us ts
  | _, [], .nil => .nil
  | _, t :: ts, .cons r q => .cons r (vstr_each q)
theorem cr_sortT {X : Cx} (hu : X.A.units + 64 < cLine) : CallR X (.builtin "sorted") (rSortT X.K) := by
  intro pins s σ H vs us Q I r h
  obtain ⟨p, ts, rfl, hs, hl, q⟩ := h
  obtain ⟨its, rv, ⟨o, ho, hc, n, hd⟩, hz⟩ := I.tuple hs
  rw [Vals.ref1 r]
  refine tup_sorted ho hc hd (by rw [List.size_toArray, ← rv.length]; exact hz) (by simpa using vstr_each rv) hu fun h1 h2 out c k1 k2 hg he => ?_
  have I1 : Inv X pins σ H { s with heap := h1 } := I.kept (t' := s.toks) k1
  have rv2 := each_vstr he
  have hlen : ((ts.mergeSort (PySem.W.dataLe false PyData.str)).map V.str).length ≤ sizeLine := by rw [List.length_map, List.length_mergeSort]; exact hl
  have hn : H h1.objs.size = none := I1.hok.fresh (Nat.le_refl _)
  have J := I1.laid (o := .lst ((ts.mergeSort (PySem.W.dataLe false PyData.str)).map V.str)) (t' := s.toks) k2 (Nat.le_refl _) ⟨hlen, out, c, rv2, hg⟩
  exact ⟨.ref h1.objs.size, _, J, rfl, q _ hn⟩
section
variable {X : Cx} {T : List (Addr × Str)} {Φ : Fx} {B : Nat → Bool} {a : Expr} {mas : MA} {pos p : Pos} {k : Nat}
theorem rl_sortT {K : PySem.W.Frag} : RL K (rSortT K) (gl1 gSortT) := rl1 fun H Z x d1 d Q hz h hg k => by
  unfold gSortT at hg
  split at hg
  · rename_i ds
    obtain ⟨ts, e1, hg⟩ := Option.bind_eq_some_iff.mp hg
    split at hg
    · rename_i hk
      cases hg
      obtain ⟨a, xs, rfl, h1, h2⟩ := h
      have ex := strsOf_rp h2 e1
      subst ex
      have eD : sortD (ts.map .str) = (ts.mergeSort (PySem.W.dataLe false PyData.str)).map .str := (List.map_mergeSort (f := PyData.str) fun a _ b _ => rfl).symm
      refine ⟨a, ts, rfl, hid_sqT h1.sq, hk, fun p hp => ?_⟩
      rw [eD] at k
      exact k _ _ (same_upd hp) (rp_new_lst hz hp (rpA_strs _))
    · cases hg
  · cases hg
theorem b_sortedT {es : List Expr} (hr : Room k X.A) (hm : X.mg "sorted" = none) (hg : Gl X "sorted") (ha : PDa X T Φ B (a :: es) mas) (he : starEach (a :: es) X.env = (false, eval a X.env) :: starEach es X.env := by rfl) (hpl : (backTo pos (starEach es X.env)).any (·.1) = false := by rfl) :
    PDe X T Φ B (.Call (.Name "sorted" p) (a :: es) [] pos) (eL (gl1 gSortT) mas) := pd_callB (cr_sortT (by have := hr.units; omega)) rl_sortT hg hm (by decide +kernel) ha (by decide) (by decide) he hpl
end
end PD
end
section
set_option linter.all false
set_option maxRecDepth 100000
set_option maxHeartbeats 4000000
/-! P30: x, y = (a, new) and (new, b) where the names are cells (no swap). -/
namespace PD
open PySem PySem.Spec PyProof.Rows L2

section
variable {X : Cx} {T : List (Addr × Str)} {Φ : Fx} {a b : Expr} {ma mb : ME} {mn : MN} {pos : Pos}
theorem s_asVC (i j : Nat) {x y : Str} {px py pt : Pos} {kt k2 pt2} (hc : X.calm = true) (hN : X.N.Nodup) (ha : PDe X T Φ B0 a ma) (hb : PDn X T Φ B0 b mn) (hij : i ≠ j := by decide) (hi : X.N[i]? = some x := by rfl) (hj : X.N[j]? = some y := by rfl)
    (hx : Loc X.env.scope x := by first | exact Or.inl rfl | exact Or.inr rfl) (hy : Loc X.env.scope y := by first | exact Or.inl rfl | exact Or.inr rfl) (hfx : X.fn x = true ∨ X.env.scope.names.lookup x = some .local := by first | exact .inl rfl | exact .inr rfl) (hfy : X.fn y = true ∨ X.env.scope.names.lookup y = some .local := by first | exact .inl rfl | exact .inr rfl)
    (h1 : starEach [a, b] X.env = (false, eval a X.env) :: starEach [b] X.env := by rfl) (h2 : starEach [b] X.env = (false, eval b X.env) :: starEach [] X.env := by rfl)
    (hw : swappedStores [.Tuple [.Name x px, .Name y py] kt pt] (.Tuple [a, b] k2 pt2) X.env = pure none := by rfl)
    (hs : swapsWithSole [.Tuple [.Name x px, .Name y py] kt pt] (.Tuple [a, b] k2 pt2) pos.line X.env = pure false := by rfl) (hn : (assignEach [.Name x px, .Name y py] X.env).length = 2 := by rfl) (hst : (assignEach [.Name x px, .Name y py] X.env).findIdx? (·.1) = none := by rfl)
    (e1 : (assignEach [.Tuple [.Name x px, .Name y py] kt pt] X.env).map (·.2) = [assign (.Tuple [.Name x px, .Name y py] kt pt) X.env] := by rfl) (e2 : (assignEach [.Name x px, .Name y py] X.env).map (·.2) = assign (.Name x px) X.env :: (assignEach [.Name y py] X.env).map (·.2) := by rfl) (e3 : (assignEach [.Name y py] X.env).map (·.2) = assign (.Name y py) X.env :: (assignEach [] X.env).map (·.2) := by rfl) :
    PDs X T Φ (.Assign [.Tuple [.Name x px, .Name y py] kt pt] (.Tuple [a, b] k2 pt2) pos) (sParVC i j ma mn) :=
  PS.cons (ps_asg (pe_tup (pa_cons ha (pa_cons hb pa_nil h2) h1)) (pg_tup hc (pgs_cons (pg_name hN hi hx hfx) (pgs_cons (pg_name hN hj hy hfy) pgs_nil e3) e2) hn hst) hs hw e1) fun Dn σ H ⟨A, Z, n0, ρ, μ, fl, R, hn, hm, k⟩ => by
  unfold sParVC at hm
  obtain ⟨q, e, hm⟩ := Option.bind_eq_some_iff.mp hm
  obtain ⟨c, e2, hm⟩ := Option.bind_eq_some_iff.mp hm
  cases hm
  refine ⟨A, Z, ρ, μ, q.1, q.2, R, e, fun v H1 f1 R1 p1 => ⟨A, Z, ρ, q.2, c.1, c.2, R1, e2, fun l H2 f2 nz R2 n2 c2 => ⟨by show 2 ≤ sizeLine; decide, fun tp ht => ⟨tp, [v, .ref l], rfl, .inl (.inl upd_same), rfl, v, [.ref l], rfl, .ref l, [], rfl, rfl, ?_⟩⟩⟩⟩
  have sm := same_upd (o := .tup [v, .ref l]) ht
  have R2' := R2.same sm
  have nA : l ∉ A := (R2.zo l (.inr rfl)).1
  have c3 : CellAt X.K (hid (upd H2 tp (.tup [v, .ref l])) (Zw B0 ρ A fun x => Z x ∨ x = l)) (upd H2 tp (.tup [v, .ref l])) l c.1 := c2.xt (fun x o eo t => by
      have qq := of_hid eo
      rw [hid_of qq.2]
      exact sm x o qq.1) fun o eo t => sm l o eo
  have R3 := R2'.pushC (c0 := c.1) nz (c3.xt (hid_le fun x z => zw0.mpr z) fun _ z _ => z) j
  have p2 : Rp X.K (hid (upd H2 tp (.tup [v, .ref l])) fun x => Z x ∨ x ∈ A ++ [l]) v q.1 := by
    refine Rp.mono (fun x o eo t => ?_) _ _ p1
    have qq := of_hid eo
    rw [hid_of]
    · exact sm x o (f2.keep x o qq.1 (fun z => qq.2 (.inr z)) t)
    · rintro (z | z)
      · exact qq.2 (.inl z)
      · rcases List.mem_append.mp z with z | z
        · exact qq.2 (zw0.mpr (.inr z))
        · have e : x = l := by simpa using z
          exact fr_not qq.1 t (by rw [e]; exact n2)
  have R4 := R3.setVal i p2
  rw [List.set_comm _ _ (Ne.symm hij), List.set_comm _ _ (Ne.symm hij)] at R4
  rw [List.set_comm _ _ hij]
  exact k _ _ (A ++ [l]) ⟨(f1.mono fun _ h => h.mem).trans ((f2.mono fun _ h => h.mem).trans (Fw.same sm)), [l], rfl, fun x hx => by rw [show x = l by simpa using hx]; exact f1.there l n2⟩ (by first | exact R4 | (rw [List.set_comm _ _ hij]; exact R4) | (rw [List.set_comm _ _ (Ne.symm hij)]; exact R4))
theorem s_asCV (i j : Nat) {x y : Str} {px py pt : Pos} {kt k2 pt2} (hc : X.calm = true) (hN : X.N.Nodup) (ha : PDn X T Φ B0 a mn) (hb : PDe X T Φ B0 b mb) (hij : i ≠ j := by decide) (hi : X.N[i]? = some x := by rfl) (hj : X.N[j]? = some y := by rfl)
    (hx : Loc X.env.scope x := by first | exact Or.inl rfl | exact Or.inr rfl) (hy : Loc X.env.scope y := by first | exact Or.inl rfl | exact Or.inr rfl) (hfx : X.fn x = true ∨ X.env.scope.names.lookup x = some .local := by first | exact .inl rfl | exact .inr rfl) (hfy : X.fn y = true ∨ X.env.scope.names.lookup y = some .local := by first | exact .inl rfl | exact .inr rfl)
    (h1 : starEach [a, b] X.env = (false, eval a X.env) :: starEach [b] X.env := by rfl) (h2 : starEach [b] X.env = (false, eval b X.env) :: starEach [] X.env := by rfl)
    (hw : swappedStores [.Tuple [.Name x px, .Name y py] kt pt] (.Tuple [a, b] k2 pt2) X.env = pure none := by rfl)
    (hs : swapsWithSole [.Tuple [.Name x px, .Name y py] kt pt] (.Tuple [a, b] k2 pt2) pos.line X.env = pure false := by rfl) (hn : (assignEach [.Name x px, .Name y py] X.env).length = 2 := by rfl) (hst : (assignEach [.Name x px, .Name y py] X.env).findIdx? (·.1) = none := by rfl)
    (e1 : (assignEach [.Tuple [.Name x px, .Name y py] kt pt] X.env).map (·.2) = [assign (.Tuple [.Name x px, .Name y py] kt pt) X.env] := by rfl) (e2 : (assignEach [.Name x px, .Name y py] X.env).map (·.2) = assign (.Name x px) X.env :: (assignEach [.Name y py] X.env).map (·.2) := by rfl) (e3 : (assignEach [.Name y py] X.env).map (·.2) = assign (.Name y py) X.env :: (assignEach [] X.env).map (·.2) := by rfl) :
    PDs X T Φ (.Assign [.Tuple [.Name x px, .Name y py] kt pt] (.Tuple [a, b] k2 pt2) pos) (sParCV i j mn mb) :=
  PS.cons (ps_asg (pe_tup (pa_cons ha (pa_cons hb pa_nil h2) h1)) (pg_tup hc (pgs_cons (pg_name hN hi hx hfx) (pgs_cons (pg_name hN hj hy hfy) pgs_nil e3) e2) hn hst) hs hw e1) fun Dn σ H ⟨A, Z, n0, ρ, μ, fl, R, hn, hm, k⟩ => by
  unfold sParCV at hm
  obtain ⟨c, e, hm⟩ := Option.bind_eq_some_iff.mp hm
  obtain ⟨q, e2, hm⟩ := Option.bind_eq_some_iff.mp hm
  split at hm
  · rename_i hfl
    cases hm
    refine ⟨A, Z, ρ, μ, c.1, c.2, R, e, fun l H1 f1 nz R1 n1 c1 => ⟨A, fun x => Z x ∨ x = l, ρ, c.2, q.1, q.2, R1, e2, fun v H2 f2 R2 p2 => ⟨by show 2 ≤ sizeLine; decide, fun tp ht => ⟨tp, [.ref l, v], rfl, .inl (.inl upd_same), rfl, .ref l, [v], rfl, v, [], rfl, rfl, ?_⟩⟩⟩⟩
    have sm := same_upd (o := .tup [.ref l, v]) ht
    have R2' := R2.same sm
    have nA : l ∉ A := (R1.zo l (.inr rfl)).1
    have c2 : CellAt X.K (hid H2 fun x => (Z x ∨ x = l) ∨ x ∈ A) H2 l c.1 := by
      refine (c1.xt (hid_le fun x z => zw0.mpr z) fun _ z _ => z).xt (f2.xt fun x z => .inr z.mem) fun o eo t => f2.keep l o eo (fun z => nA z.mem) t
    have c3 : CellAt X.K (hid (upd H2 tp (.tup [.ref l, v])) fun x => (Z x ∨ x = l) ∨ x ∈ A) (upd H2 tp (.tup [.ref l, v])) l c.1 := c2.xt (fun x o eo t => by
      have qq := of_hid eo
      rw [hid_of qq.2]
      exact sm x o qq.1) fun o eo t => sm l o eo
    have R3 := R2'.pushC (c0 := c.1) nz c3 i
    have p3 : Rp X.K (hid (upd H2 tp (.tup [.ref l, v])) fun x => Z x ∨ x ∈ A ++ [l]) v q.1 := by
      refine Rp.ofFlat (fun x o eo t => ?_) _ _ hfl p2
      have qq := of_hid eo
      rw [hid_of]
      · exact sm x o qq.1
      · rintro (z | z)
        · exact qq.2 (.inl (.inl z))
        · rcases List.mem_append.mp z with z | z
          · exact qq.2 (zw0.mpr (.inr z))
          · exact qq.2 (.inl (.inr (by simpa using z)))
    exact k _ _ (A ++ [l]) ⟨(f1.mono fun _ h => h.mem).trans ((f2.mono fun _ h => h.mem).trans (Fw.same sm)), [l], rfl, fun x hx => by rw [show x = l by simpa using hx]; exact n1⟩ (R3.setVal j p3)
  · cases hm
end
section
variable {X : Cx} {T : List (Addr × Str)} {Φ : Fx} {B : Nat → Bool} {e : Expr} {me : ME} {pos p : Pos} {k : Nat}
theorem t_inS (i : Nat) {x : Str} (hr : Room k X.A) (ha : PDe X T Φ B e me) (hN : X.N[i]? = some x := by rfl) (hv : Vis X.env.scope x := by first | exact Or.inl rfl | exact Or.inr (Or.inl rfl) | exact Or.inr (Or.inr rfl)) (hd : (x == ("__debug__" : Str)) = false := by decide) (hcd : (x == ("__classdict__" : Str)) = false := by decide) :
    PDt X T Φ B (.Compare e [.In] [.Name x p] pos) (tV (eInS false me i)) := PT.cons (L2.pt_cmp (pc_din (by have := hr.units; omega) ha (pe_var hN hv hd hcd))) fun σ H Q ⟨A, Z, ρ, μ, d, μ', R, hm, q⟩ =>
  inS_of (neg := false) (Q := fun v H1 => ∃ d, v = .bl d ∧ Q d H1) ⟨A, Z, ρ, μ, .bool d, μ', R, tV_some hm, fun v H' f R' h => ⟨d, h, q H' f R'⟩⟩
theorem t_notinS (i : Nat) {x : Str} (hr : Room k X.A) (ha : PDe X T Φ B e me) (hN : X.N[i]? = some x := by rfl) (hv : Vis X.env.scope x := by first | exact Or.inl rfl | exact Or.inr (Or.inl rfl) | exact Or.inr (Or.inr rfl)) (hd : (x == ("__debug__" : Str)) = false := by decide) (hcd : (x == ("__classdict__" : Str)) = false := by decide) :
    PDt X T Φ B (.Compare e [.NotIn] [.Name x p] pos) (tV (eInS true me i)) := PT.cons (L2.pt_cmp (pc_dnotin (by have := hr.units; omega) ha (pe_var hN hv hd hcd))) fun σ H Q ⟨A, Z, ρ, μ, d, μ', R, hm, q⟩ =>
  inS_of (neg := true) (Q := fun v H1 => ∃ d, v = .bl d ∧ Q d H1) ⟨A, Z, ρ, μ, .bool d, μ', R, tV_some hm, fun v H' f R' h => ⟨d, h, q H' f R'⟩⟩
end
end PD
end
section
set_option linter.all false
set_option maxRecDepth 100000
set_option maxHeartbeats 4000000
/-! P31: the least and greatest of a sequence's items; a op b op c; dicts as values, d[x]; {x: c for x in t}; dict(zip(tuple, tuple or list)). -/
namespace PD
open PySem PySem.Spec PyProof.Rows L2 PySem.PDW

/-! ### what is read is one datum alone -/
mutual
theorem reads_det {h : Heap} : ∀ (d : PyData) (v : Value) (as : List Addr) (e : PyData) (bs : List Addr), seqD d = true → seqD e = true → Reads h v d as → Reads h v e bs → d = e
  | .none, _, _, _, _, _, _, r, r' => by cases r; cases r'; rfl
  | .bool _, _, _, _, _, _, _, r, r' => by cases r; cases r'; rfl
  | .int _, _, _, _, _, _, _, r, r' => by cases r; cases r'; rfl
  | .str _, _, _, _, _, _, _, r, r' => by cases r; cases r'; rfl
  | .list xs, _, _, e, _, hs, hs', r, r' => by
    cases r with
    | list h1 h2 h3 h4 =>
      cases e with
      | list ys =>
        cases r' with
        | list g1 g2 g3 g4 =>
          rw [h1] at g1
          cases g1
          rw [h3] at g3
          cases g3
          rw [readsA_det xs _ _ ys _ (by simpa [seqD] using hs) (by simpa [seqD] using hs') h4 g4]
      | tuple ys =>
        cases r' with
        | tuple g1 g2 g3 g4 =>
          rw [h1] at g1
          cases g1
          rw [h2] at g2
          injection g2 with g2
          exact absurd g2 (by decide)
      | none => cases r'
      | bool _ => cases r'
      | int _ => cases r'
      | str _ => cases r'
      | dict _ => simp [seqD] at hs'
  | .tuple xs, _, _, e, _, hs, hs', r, r' => by
    cases r with
    | tuple h1 h2 h3 h4 =>
      cases e with
      | tuple ys =>
        cases r' with
        | tuple g1 g2 g3 g4 =>
          rw [h1] at g1
          cases g1
          rw [h3] at g3
          cases g3
          rw [readsA_det xs _ _ ys _ (by simpa [seqD] using hs) (by simpa [seqD] using hs') h4 g4]
      | list ys =>
        cases r' with
        | list g1 g2 g3 g4 =>
          rw [h1] at g1
          cases g1
          rw [h2] at g2
          injection g2 with g2
          exact absurd g2 (by decide)
      | none => cases r'
      | bool _ => cases r'
      | int _ => cases r'
      | str _ => cases r'
      | dict _ => simp [seqD] at hs'
  | .dict _, _, _, _, _, hs, _, _, _ => by simp [seqD] at hs
theorem readsA_det {h : Heap} : ∀ (ds : List PyData) (vs : List Value) (as : List Addr) (es : List PyData) (bs : List Addr), seqA ds = true → seqA es = true → ReadsAll h vs ds as → ReadsAll h vs es bs → ds = es
  | [], _, _, _, _, _, _, r, r' => by cases r; cases r'; rfl
  | d :: ds, _, _, es, _, hs, hs', r, r' => by
    cases r with
    | cons h1 h2 =>
      cases r' with
      | cons g1 g2 =>
        have hs : seqD d = true ∧ seqA ds = true := by simpa [seqA] using hs
        simp only [seqA, Bool.and_eq_true] at hs'
        rw [reads_det d _ _ _ _ hs.1 hs'.1 h1 g1, readsA_det ds _ _ _ _ hs.2 hs'.2 h2 g2]
end
/-! ### min, max of a list's or a tuple's items -/
def bestOk (ds : List D) : Bool := seqA ds && ((ds.all fun d => ds.all fun e => PySem.W.alike d e) && ((ds.all fun d => !isNoneD d) && decide (PyData.depthAll ds ≤ 40)))
theorem bestOk_of {ds : List D} (h : bestOk ds = true) : seqA ds = true ∧ PySem.W.AlikeAll ds ∧ PyData.depthAll ds ≤ 40 := by
  unfold bestOk at h
  simp only [Bool.and_eq_true, decide_eq_true_eq, List.all_eq_true] at h
  obtain ⟨h1, h2, h3, h4⟩ := h
  exact ⟨h1, ⟨fun x hx y hy => h2 x hx y hy, fun x hx e => by have := h3 x hx; rw [e] at this; simp [isNoneD] at this⟩, h4⟩
theorem foldl_mem {α : Type} {f : α → α → Bool} : ∀ (xs : List α) (x : α), xs.foldl (fun a y => if f y a then y else a) x ∈ x :: xs
  | [], x => by simp
  | y :: xs, x => by
    rw [List.foldl_cons]
    have h := foldl_mem (f := f) xs (if f y x then y else x)
    rcases List.mem_cons.mp h with e | e
    · rw [e]
      split <;> simp
    · exact List.mem_cons_of_mem _ (List.mem_cons_of_mem _ e)
theorem minD_mem (x : D) (xs : List D) : PySem.W.minD x xs ∈ x :: xs := foldl_mem (f := fun y a => PySem.W.dataLt y a) xs x
theorem maxD_mem (x : D) (xs : List D) : PySem.W.maxD x xs ∈ x :: xs := foldl_mem (f := fun y a => PySem.W.dataLt a y) xs x
def rBest (K : PySem.W.Frag) (best : D → List D → D) : List V → Hp → VK → Prop := fun vs H Q => ∃ (a : Addr) (xs : List V) (d : D) (ds : List D) (Hv : Hp), vs = [.ref a] ∧ (SqL K H a xs ∨ SqT K H a xs) ∧ RpA K Hv xs (d :: ds) ∧ XT Hv H ∧ bestOk (d :: ds) = true ∧
  ∀ w, Rp K Hv w (best d ds) → Q w H
theorem cr_min {X : Cx} (hc : X.calm = true) (hu : X.A.units + 64 < cLine) : CallR X (.builtin "min") (rBest X.K PySem.W.minD) := by
  intro pins s σ H vs us Q I r h
  obtain ⟨a, xs, d, ds, Hv, rfl, hs, hp, xt, hk, q⟩ := h
  obtain ⟨k1, k2, k3⟩ := bestOk_of hk
  rw [Vals.ref1 r]
  have fin : ∀ (its : List Value), Vals xs its → ∀ (i : Nat) (v : Value) (h' : Heap) (tk : Nat) (bs : List Addr), its.toArray[i]? = some v → Reads h' v (PySem.W.minD d ds) bs → (∀ b o, s.heap.get? b = some o → h'.get? b = some o) → ∃ (w : V) (H' : Hp), Inv X pins σ H' { s with heap := h', toks := tk } ∧ RelV w v ∧ Q w H' := fun its rv i v h' tk bs hv hr k => by
    have J : Inv X pins σ H { s with heap := h', toks := tk } := I.kept k
    rw [List.getElem?_toArray] at hv
    obtain ⟨w, e1, rw'⟩ := valsU rv hv
    obtain ⟨di, e2, p2⟩ := (show ∃ di, (d :: ds)[i]? = some di ∧ Rp X.K Hv w di from by
      have hl : i < (d :: ds).length := by rw [← hp.length]; exact (List.getElem?_eq_some_iff.mp e1).1
      obtain ⟨w', z1, z2⟩ := hp.get (List.getElem?_eq_getElem hl)
      rw [e1] at z1
      cases z1
      exact ⟨_, List.getElem?_eq_getElem hl, z2⟩)
    obtain ⟨as, ra⟩ := reads_rp J di w v (seqA_mem k1 (List.mem_of_getElem? e2)) (Rp.mono xt _ _ p2) rw'
    have e : di = PySem.W.minD d ds := reads_det _ _ _ _ _ (seqA_mem k1 (List.mem_of_getElem? e2)) (seqA_mem k1 (minD_mem d ds)) ra hr
    exact ⟨w, H, J, rw', q w (by rw [← e]; exact p2)⟩
  rcases hs with hs | hs
  · obtain ⟨its, rv, pl, hz⟩ := I.list hs
    obtain ⟨as, ra⟩ := readsA_rp I (d :: ds) xs its k1 (RpA.mono xt _ _ hp) rv
    refine PySem.W.min_list_data (vs := its.toArray) (I.ok.hd hc) pl.isList (by simpa using ra) k2 (by omega) fun i v h' tk bs hv hr k => ?_
    obtain ⟨w, H', J, z1, z2⟩ := fin its rv i v h' tk bs hv hr k
    exact ⟨w, H', J, z1, z2⟩
  · obtain ⟨its, rv, pl, hz⟩ := I.tuple hs
    obtain ⟨as, ra⟩ := readsA_rp I (d :: ds) xs its k1 (RpA.mono xt _ _ hp) rv
    refine PySem.W.min_tuple_data (vs := its.toArray) (I.ok.hd hc) (show s.heap.IsTuple a its.toArray from pl) (by simpa using ra) k2 (by omega) fun i v h' tk bs hv hr k => ?_
    obtain ⟨w, H', J, z1, z2⟩ := fin its rv i v h' tk bs hv hr k
    exact ⟨w, H', J, z1, z2⟩
theorem cr_max {X : Cx} (hc : X.calm = true) (hu : X.A.units + 64 < cLine) : CallR X (.builtin "max") (rBest X.K PySem.W.maxD) := by
  intro pins s σ H vs us Q I r h
  obtain ⟨a, xs, d, ds, Hv, rfl, hs, hp, xt, hk, q⟩ := h
  obtain ⟨k1, k2, k3⟩ := bestOk_of hk
  rw [Vals.ref1 r]
  have fin : ∀ (its : List Value), Vals xs its → ∀ (i : Nat) (v : Value) (h' : Heap) (tk : Nat) (bs : List Addr), its.toArray[i]? = some v → Reads h' v (PySem.W.maxD d ds) bs → (∀ b o, s.heap.get? b = some o → h'.get? b = some o) → ∃ (w : V) (H' : Hp), Inv X pins σ H' { s with heap := h', toks := tk } ∧ RelV w v ∧ Q w H' := fun its rv i v h' tk bs hv hr k => by
    have J : Inv X pins σ H { s with heap := h', toks := tk } := I.kept k
    rw [List.getElem?_toArray] at hv
    obtain ⟨w, e1, rw'⟩ := valsU rv hv
    obtain ⟨di, e2, p2⟩ := (show ∃ di, (d :: ds)[i]? = some di ∧ Rp X.K Hv w di from by
      have hl : i < (d :: ds).length := by rw [← hp.length]; exact (List.getElem?_eq_some_iff.mp e1).1
      obtain ⟨w', z1, z2⟩ := hp.get (List.getElem?_eq_getElem hl)
      rw [e1] at z1
      cases z1
      exact ⟨_, List.getElem?_eq_getElem hl, z2⟩)
    obtain ⟨as, ra⟩ := reads_rp J di w v (seqA_mem k1 (List.mem_of_getElem? e2)) (Rp.mono xt _ _ p2) rw'
    have e : di = PySem.W.maxD d ds := reads_det _ _ _ _ _ (seqA_mem k1 (List.mem_of_getElem? e2)) (seqA_mem k1 (maxD_mem d ds)) ra hr
    exact ⟨w, H, J, rw', q w (by rw [← e]; exact p2)⟩
  rcases hs with hs | hs
  · obtain ⟨its, rv, pl, hz⟩ := I.list hs
    obtain ⟨as, ra⟩ := readsA_rp I (d :: ds) xs its k1 (RpA.mono xt _ _ hp) rv
    refine PySem.W.max_list_data (vs := its.toArray) (I.ok.hd hc) pl.isList (by simpa using ra) k2 (by omega) fun i v h' tk bs hv hr k => ?_
    obtain ⟨w, H', J, z1, z2⟩ := fin its rv i v h' tk bs hv hr k
    exact ⟨w, H', J, z1, z2⟩
  · obtain ⟨its, rv, pl, hz⟩ := I.tuple hs
    obtain ⟨as, ra⟩ := readsA_rp I (d :: ds) xs its k1 (RpA.mono xt _ _ hp) rv
    refine PySem.W.max_tuple_data (vs := its.toArray) (I.ok.hd hc) (show s.heap.IsTuple a its.toArray from pl) (by simpa using ra) k2 (by omega) fun i v h' tk bs hv hr k => ?_
    obtain ⟨w, H', J, z1, z2⟩ := fin its rv i v h' tk bs hv hr k
    exact ⟨w, H', J, z1, z2⟩
def gBest (best : D → List D → D) : G1
  | .list (d :: ds) => if bestOk (d :: ds) then some (best d ds) else none
  | .tuple (d :: ds) => if bestOk (d :: ds) then some (best d ds) else none
  | _ => none
theorem rl_best {K : PySem.W.Frag} {best : D → List D → D} : RL K (rBest K best) (gl1 (gBest best)) := rl1 fun H Z x d1 d Q hz h hg k => by
  unfold gBest at hg
  split at hg
  · rename_i e ds
    split at hg
    · rename_i hk
      cases hg
      obtain ⟨a, xs, rfl, h1, h2⟩ := h
      exact ⟨a, xs, e, ds, hid H Z, rfl, .inl (.inl (hid_rd h1).1), h2, hid_xt H Z, hk, fun w p => k w H (Same.refl H) p⟩
    · cases hg
  · rename_i e ds
    split at hg
    · rename_i hk
      cases hg
      obtain ⟨a, xs, rfl, h1, h2⟩ := h
      exact ⟨a, xs, e, ds, hid H Z, rfl, .inr (hid_sqT h1.sq), h2, hid_xt H Z, hk, fun w p => k w H (Same.refl H) p⟩
    · cases hg
  · cases hg
section
variable {X : Cx} {T : List (Addr × Str)} {Φ : Fx} {B : Nat → Bool} {a b c : Expr} {ma mb mc : ME} {mas : MA} {es : List Expr} {pos p : Pos} {k : Nat}
theorem b_minL (hc : X.calm = true) (hr : Room k X.A) (hm : X.mg "min" = none) (hg : Gl X "min") (ha : PDa X T Φ B (a :: es) mas) (he : starEach (a :: es) X.env = (false, eval a X.env) :: starEach es X.env := by rfl) (hpl : (backTo pos (starEach es X.env)).any (·.1) = false := by rfl) :
    PDe X T Φ B (.Call (.Name "min" p) (a :: es) [] pos) (eL (gl1 (gBest PySem.W.minD)) mas) := pd_callB (cr_min hc (by have := hr.units; omega)) rl_best hg hm (by decide +kernel) ha (by decide) (by decide) he hpl
theorem b_maxL (hc : X.calm = true) (hr : Room k X.A) (hm : X.mg "max" = none) (hg : Gl X "max") (ha : PDa X T Φ B (a :: es) mas) (he : starEach (a :: es) X.env = (false, eval a X.env) :: starEach es X.env := by rfl) (hpl : (backTo pos (starEach es X.env)).any (·.1) = false := by rfl) :
    PDe X T Φ B (.Call (.Name "max" p) (a :: es) [] pos) (eL (gl1 (gBest PySem.W.maxD)) mas) := pd_callB (cr_max hc (by have := hr.units; omega)) rl_best hg hm (by decide +kernel) ha (by decide) (by decide) he hpl
end
end PD
end
section
set_option linter.all false
set_option maxRecDepth 100000
set_option maxHeartbeats 4000000
/-! P32: dicts as values, d[x]; {x: c for x in t}; dict(zip(tuple, tuple or list)). -/
namespace PD
open PySem PySem.Spec PyProof.Rows L2 PySem.PDW
def nDzip2 (mas : MA) : MN := fun ρ μ => (mas ρ μ).bind fun p => match p.1 with
  | [.tuple xs, .tuple ys] => (strsOf xs).bind fun ks => if ks.Nodup ∧ ks.length = ys.length then some (.dct (ks.zip ys), p.2) else none
  | [.tuple xs, .list ys] => (strsOf xs).bind fun ks => if ks.Nodup ∧ ks.length = ys.length then some (.dct (ks.zip ys), p.2) else none
  | _ => none
section
variable {X : Cx} {T : List (Addr × Str)} {Φ : Fx} {B : Nat → Bool} {a b : Expr} {mas : MA} {p p2 q pos : Pos}
theorem pn_dzip2 (hc0 : X.calm = true) (hm : X.mg "dict" = none) (hm2 : X.mg "zip" = none) (hg : Gl X "dict") (hg2 : Gl X "zip") (ha : PDa X T Φ B [a, b] mas) (hs : starEach [a, b] X.env = (false, eval a X.env) :: starEach [b] X.env := by rfl) (hpl : (backTo q (starEach [b] X.env)).any (·.1) = false := by rfl)
    (na : starEach [.Call (.Name "zip" p2) [a, b] [] q] X.env = (false, eval (.Call (.Name "zip" p2) [a, b] [] q) X.env) :: starEach [] X.env := by rfl) :
    PDn X T Φ B (.Call (.Name "dict" p) [.Call (.Name "zip" p2) [a, b] [] q] [] pos) (nDzip2 mas) := by
  refine ⟨fun pins s σ H Q I h => ?_⟩
  obtain ⟨A, Z, ρ, μ, c, μ', R, hmm, k⟩ := h
  unfold nDzip2 at hmm
  obtain ⟨pr, e1, hmm⟩ := Option.bind_eq_some_iff.mp hmm
  obtain ⟨ds, μ1⟩ := pr
  dsimp only at hmm
  split at hmm
  · rename_i dx dy
    obtain ⟨ks, ek, hmm⟩ := Option.bind_eq_some_iff.mp hmm
    split at hmm
    · rename_i hc
      cases hmm
      refine Call_ (ld_blt I hg hm (show bootBuiltins "dict" = some (.type "dict") by decide +kernel) (PyProof.Rows.callWith_type1 ?_ na rfl))
      rw [na]
      show wpAny _ _ (spliced ((false, eval (.Call (.Name "zip" p2) [a, b] [] q) X.env) :: backTo pos (starEach [] X.env))) _ _ s
      refine Calls.spliced_cons (Call_ (ld_blt I hg2 hm2 PyProof.Rows.boot_zip (PyProof.Rows.callWith_type1 (thn (ha.run q pins s σ H (fun vs H1 => Fw (Wr B ρ A) H H1 ∧ Rep X.K T Φ A Z σ H1 ρ μ' ∧ RpA X.K (hid H1 (Zw B ρ A Z)) vs [.tuple dx, .tuple dy]) I ⟨A, Z, ρ, μ, _, μ', R, e1, fun vs H1 f1 R1 p1 => ⟨f1, R1, p1⟩⟩) fun us s1 ⟨vs, H1, I1, r1, f1, R1, p1⟩ => ?_) hs hpl)))
      obtain ⟨v1, _, rfl, ⟨l1, xs, rfl, x1, x2⟩, v2, _, rfl, ⟨l2, ys, rfl, y1, y2⟩, rfl⟩ := p1
      have exs : xs = ks.map V.str := strsOf_rp x2 ek
      subst exs
      cases r1 with
      | cons r rr =>
        cases rr with
        | cons r' rr =>
          cases rr
          cases r
          cases r'
          obtain ⟨its, rv, pt, hz1⟩ := I1.tuple (hid_sqT x1.sq)
          obtain ⟨its2, rv2, pt2, hz2⟩ := I1.tuple (hid_sqT y1.sq)
          have lt1 : l1 < s1.heap.objs.size := let ⟨o, ho, _⟩ := pt; Heap.lt_size ho
          have lt2 : l2 < s1.heap.objs.size := let ⟨o, ho, _⟩ := pt2; Heap.lt_size ho
          refine RZ.call_zipT (show s1.heap.IsTuple l1 its.toArray from pt) (show s1.heap.IsTuple l2 its2.toArray from pt2) fun h' hz hTI hTO h1 h2 hsz hk => ?_
          refine Calls.spliced_nil ?_
          have S := zipSep s1.heap.objs.size l1 l2 lt1 lt2
          have kt : ∀ {c : Addr} {its : Array Value}, s1.heap.IsTuple c its → h'.IsTuple c its := fun ⟨o, ho, r⟩ => ⟨o, hk _ _ ho, r⟩
          have l1e : ks.length = its.length := by rw [← rv.length, List.length_map]
          have l2e : dy.length = its2.length := by rw [← rv2.length, y2.length]
          have hl : ks.length = its2.length := by rw [hc.2, l2e]
          refine PySem.call_dict_pairs (s := { s1 with heap := h' }) (knd := mixKind X.prog X.w) (kvs := List.zipWith (fun k u => ((.inr k : Key), u)) ks its2)
            (pairs_zip S (fun A hA => Draws.tuple hA _ l1 (Nat.ne_of_lt lt1) its.toArray) (fun A hA => Draws.tuple hA _ l2 (Nat.ne_of_lt (Nat.lt_succ_of_lt lt2)) its2.toArray)
              (fun h hS b hb => ?_) (fun h hS b hb => ?_) (fun i h h' st hk => ⟨st.1.at fun o e => hk _ (List.mem_cons_self ..) o e, st.2.at fun o e => hk _ (List.mem_cons_of_mem _ (List.mem_cons_self ..)) o e⟩) (fun i h h' st hk => ⟨st.1.at fun o e => hk _ (List.mem_cons_self ..) o e, st.2.at fun o e => hk _ (List.mem_cons_of_mem _ (List.mem_cons_self ..)) o e⟩))
            (I1.ok.hd hc0) ⟨hz, hTI, ⟨_, _, hTO⟩, ⟨h1, kt pt⟩, h2, kt pt2⟩ ⟨?_, fun i key v hr => ?_⟩ ?_ fun h'' tk hd hk2 => ?_
          · obtain ⟨⟨o, ho, _⟩, o2, ho2, _⟩ := hS
            simp only [List.mem_cons, List.not_mem_nil, or_false] at hb
            rcases hb with z | z
            · rw [z]; exact ⟨_, ho⟩
            · rw [z]; exact ⟨_, ho2⟩
          · obtain ⟨⟨o, ho, _⟩, o2, ho2, _⟩ := hS
            simp only [List.mem_cons, List.not_mem_nil, or_false] at hb
            rcases hb with z | z
            · rw [z]; exact ⟨_, ho⟩
            · rw [z]; exact ⟨_, ho2⟩
          · rw [List.length_zipWith, List.size_toArray, List.size_toArray, l1e]
          · obtain ⟨q1, q2⟩ := hr
            rw [List.getElem?_toArray] at q1 q2
            obtain ⟨kv, w1, w2⟩ := valsU rv q1
            rw [List.getElem?_map] at w1
            cases e3 : ks[i]? with
            | none => rw [e3] at w1; cases w1
            | some k0 =>
              rw [e3] at w1
              cases w1
              obtain ⟨t, ht⟩ := w2
              refine ⟨.inr k0, by rw [List.getElem?_zipWith, e3, q2], ?_⟩
              rw [ht]
              exact mixKind_str _ _ k0 t
          · rw [List.size_toArray, List.size_toArray]
            refine Nat.le_trans (Nat.min_le_left ..) ?_
            rw [← l1e]
            simpa using hz1
          · have hp0 : s1.heap.objs.size ≤ h'.objs.size := by rw [hsz]; omega
            have hpn : H1 h'.objs.size = none := I1.hok.fresh hp0
            have k3 : ∀ b u, s1.heap.get? b = some u → h''.get? b = some u := fun b u e => by
              refine hk2 b u ?_ (hk b u e)
              have lt := Heap.lt_size e
              simp only [List.mem_cons, List.not_mem_nil, or_false, not_or]
              have ne : ∀ j : Nat, b ≠ s1.heap.objs.size + j := fun j => Nat.ne_of_lt (Nat.lt_of_lt_of_le lt (Nat.le_add_right _ _))
              exact ⟨ne 4, ne 3, ne 0, ne 1⟩
            have hly : ys.length = ks.length := by rw [y2.length, ← hc.2]
            have em : mergeK [] (keyed ks ys) = keyed ks ys := by
              rw [mergeK_new ?_ fun p hp => by simp at hp]
              · rfl
              · rw [keyed_fst hly]
                exact List.pairwise_map.mpr (hc.1.imp fun {x y} h z => h (Sum.inr.inj z))
            have hmn : (h'.objs.size == sysModules) = false := beq_eq_false_iff_ne.mpr (Nat.ne_of_gt (Nat.lt_of_lt_of_le I1.big hp0))
            have hkv : (mergeK [] (keyed ks ys)).length ≤ sizeLine := by
              rw [em, keyed_len]
              refine Nat.le_trans (Nat.min_le_left ..) ?_
              simpa using hz1
            have I2 := I1.laid (a := h'.objs.size) (o := .dK (mergeK [] (keyed ks ys))) (t' := tk) k3 hp0 (show ObjOk X.prog X.w _ h'' _ (.dK (mergeK [] (keyed ks ys))) from ⟨hkv, hmn, merged [] _, KV.merge (keyed_KV rv2) .nil, hd⟩)
            rw [em] at I2
            have R2 := R1.more (o := .dK (keyed ks ys)) hpn
            have nz : ¬ Z h'.objs.size := fun z => (R1.zo _ z).2 (.inl hpn)
            have sm := same_upd (o := .dK (keyed ks ys)) hpn
            refine ⟨.ref h'.objs.size, _, I2, rfl, k _ _ (f1.trans (Fw.same sm)) nz R2 (f1.there _ (.inl hpn)) ⟨ys, ?_, ?_⟩⟩
            · rw [List.map_fst_zip (Nat.le_of_eq hc.2)]
              exact upd_same
            · rw [List.map_snd_zip (Nat.le_of_eq hc.2.symm)]
              refine RpA.mono (fun x o eo t => ?_) _ _ y2
              have q := of_hid eo
              have nx : x ≠ h'.objs.size := ne_of_none q.1 hpn
              rw [hid_of, upd_ne nx]
              · exact q.1
              · rintro ((z | z) | z)
                · exact q.2 (.inl z)
                · exact nx z
                · exact q.2 (.inr z)
    · cases hmm
  · rename_i dx dy
    obtain ⟨ks, ek, hmm⟩ := Option.bind_eq_some_iff.mp hmm
    split at hmm
    · rename_i hc
      cases hmm
      refine Call_ (ld_blt I hg hm (show bootBuiltins "dict" = some (.type "dict") by decide +kernel) (PyProof.Rows.callWith_type1 ?_ na rfl))
      rw [na]
      show wpAny _ _ (spliced ((false, eval (.Call (.Name "zip" p2) [a, b] [] q) X.env) :: backTo pos (starEach [] X.env))) _ _ s
      refine Calls.spliced_cons (Call_ (ld_blt I hg2 hm2 PyProof.Rows.boot_zip (PyProof.Rows.callWith_type1 (thn (ha.run q pins s σ H (fun vs H1 => Fw (Wr B ρ A) H H1 ∧ Rep X.K T Φ A Z σ H1 ρ μ' ∧ RpA X.K (hid H1 (Zw B ρ A Z)) vs [.tuple dx, .list dy]) I ⟨A, Z, ρ, μ, _, μ', R, e1, fun vs H1 f1 R1 p1 => ⟨f1, R1, p1⟩⟩) fun us s1 ⟨vs, H1, I1, r1, f1, R1, p1⟩ => ?_) hs hpl)))
      obtain ⟨v1, _, rfl, ⟨l1, xs, rfl, x1, x2⟩, v2, _, rfl, ⟨l2, ys, rfl, y1, y2⟩, rfl⟩ := p1
      have exs : xs = ks.map V.str := strsOf_rp x2 ek
      subst exs
      cases r1 with
      | cons r rr =>
        cases rr with
        | cons r' rr =>
          cases rr
          cases r
          cases r'
          obtain ⟨its, rv, pt, hz1⟩ := I1.tuple (hid_sqT x1.sq)
          obtain ⟨its2, rv2, pl2, hz2⟩ := I1.list (.inl (hid_rd y1).1)
          have pt2 := pl2.isList
          have lt1 : l1 < s1.heap.objs.size := let ⟨o, ho, _⟩ := pt; Heap.lt_size ho
          have lt2 : l2 < s1.heap.objs.size := let ⟨o, ho, _⟩ := pt2; Heap.lt_size ho
          refine PySem.zip_begins2 (begins_tuple l1 its.toArray) (begins_list l2 its2.toArray) (show s1.heap.IsTuple l1 its.toArray from pt) pt2 fun h' hz hTI hTO g1 g2 hsz hk => ?_
          have h1 : h'.IsTupleIter s1.heap.objs.size l1 0 := ⟨_, g1, rfl, rfl⟩
          have h2 : h'.IsListIter (s1.heap.objs.size + 1) l2 0 := ⟨_, g2, rfl, rfl⟩
          have kl : ∀ {c : Addr} {its : Array Value}, s1.heap.IsList c its → h'.IsList c its := fun ⟨o, ho, r⟩ => ⟨o, hk _ _ ho, r⟩
          refine Calls.spliced_nil ?_
          have S := zipSep s1.heap.objs.size l1 l2 lt1 lt2
          have kt : ∀ {c : Addr} {its : Array Value}, s1.heap.IsTuple c its → h'.IsTuple c its := fun ⟨o, ho, r⟩ => ⟨o, hk _ _ ho, r⟩
          have l1e : ks.length = its.length := by rw [← rv.length, List.length_map]
          have l2e : dy.length = its2.length := by rw [← rv2.length, y2.length]
          have hl : ks.length = its2.length := by rw [hc.2, l2e]
          refine PySem.call_dict_pairs (s := { s1 with heap := h' }) (knd := mixKind X.prog X.w) (kvs := List.zipWith (fun k u => ((.inr k : Key), u)) ks its2)
            (pairs_zip S (fun A hA => Draws.tuple hA _ l1 (Nat.ne_of_lt lt1) its.toArray) (fun A hA => Draws.list hA _ l2 (Nat.ne_of_lt (Nat.lt_succ_of_lt lt2)) its2.toArray)
              (fun h hS b hb => ?_) (fun h hS b hb => ?_) (fun i h h' st hk => ⟨st.1.at fun o e => hk _ (List.mem_cons_self ..) o e, st.2.at fun o e => hk _ (List.mem_cons_of_mem _ (List.mem_cons_self ..)) o e⟩) (fun i h h' st hk => ⟨st.1.at fun o e => hk _ (List.mem_cons_self ..) o e, st.2.at fun o e => hk _ (List.mem_cons_of_mem _ (List.mem_cons_self ..)) o e⟩))
            (I1.ok.hd hc0) ⟨hz, hTI, ⟨_, _, hTO⟩, ⟨h1, kt pt⟩, h2, kl pt2⟩ ⟨?_, fun i key v hr => ?_⟩ ?_ fun h'' tk hd hk2 => ?_
          · obtain ⟨⟨o, ho, _⟩, o2, ho2, _⟩ := hS
            simp only [List.mem_cons, List.not_mem_nil, or_false] at hb
            rcases hb with z | z
            · rw [z]; exact ⟨_, ho⟩
            · rw [z]; exact ⟨_, ho2⟩
          · obtain ⟨⟨o, ho, _⟩, o2, ho2, _⟩ := hS
            simp only [List.mem_cons, List.not_mem_nil, or_false] at hb
            rcases hb with z | z
            · rw [z]; exact ⟨_, ho⟩
            · rw [z]; exact ⟨_, ho2⟩
          · rw [List.length_zipWith, List.size_toArray, List.size_toArray, l1e]
          · obtain ⟨q1, q2⟩ := hr
            rw [List.getElem?_toArray] at q1 q2
            obtain ⟨kv, w1, w2⟩ := valsU rv q1
            rw [List.getElem?_map] at w1
            cases e3 : ks[i]? with
            | none => rw [e3] at w1; cases w1
            | some k0 =>
              rw [e3] at w1
              cases w1
              obtain ⟨t, ht⟩ := w2
              refine ⟨.inr k0, by rw [List.getElem?_zipWith, e3, q2], ?_⟩
              rw [ht]
              exact mixKind_str _ _ k0 t
          · rw [List.size_toArray, List.size_toArray]
            refine Nat.le_trans (Nat.min_le_left ..) ?_
            rw [← l1e]
            simpa using hz1
          · have hp0 : s1.heap.objs.size ≤ h'.objs.size := by rw [hsz]; omega
            have hpn : H1 h'.objs.size = none := I1.hok.fresh hp0
            have k3 : ∀ b u, s1.heap.get? b = some u → h''.get? b = some u := fun b u e => by
              refine hk2 b u ?_ (hk b u e)
              have lt := Heap.lt_size e
              simp only [List.mem_cons, List.not_mem_nil, or_false, not_or]
              have ne : ∀ j : Nat, b ≠ s1.heap.objs.size + j := fun j => Nat.ne_of_lt (Nat.lt_of_lt_of_le lt (Nat.le_add_right _ _))
              exact ⟨ne 4, ne 3, ne 0, ne 1⟩
            have hly : ys.length = ks.length := by rw [y2.length, ← hc.2]
            have em : mergeK [] (keyed ks ys) = keyed ks ys := by
              rw [mergeK_new ?_ fun p hp => by simp at hp]
              · rfl
              · rw [keyed_fst hly]
                exact List.pairwise_map.mpr (hc.1.imp fun {x y} h z => h (Sum.inr.inj z))
            have hmn : (h'.objs.size == sysModules) = false := beq_eq_false_iff_ne.mpr (Nat.ne_of_gt (Nat.lt_of_lt_of_le I1.big hp0))
            have hkv : (mergeK [] (keyed ks ys)).length ≤ sizeLine := by
              rw [em, keyed_len]
              refine Nat.le_trans (Nat.min_le_left ..) ?_
              simpa using hz1
            have I2 := I1.laid (a := h'.objs.size) (o := .dK (mergeK [] (keyed ks ys))) (t' := tk) k3 hp0 (show ObjOk X.prog X.w _ h'' _ (.dK (mergeK [] (keyed ks ys))) from ⟨hkv, hmn, merged [] _, KV.merge (keyed_KV rv2) .nil, hd⟩)
            rw [em] at I2
            have R2 := R1.more (o := .dK (keyed ks ys)) hpn
            have nz : ¬ Z h'.objs.size := fun z => (R1.zo _ z).2 (.inl hpn)
            have sm := same_upd (o := .dK (keyed ks ys)) hpn
            refine ⟨.ref h'.objs.size, _, I2, rfl, k _ _ (f1.trans (Fw.same sm)) nz R2 (f1.there _ (.inl hpn)) ⟨ys, ?_, ?_⟩⟩
            · rw [List.map_fst_zip (Nat.le_of_eq hc.2)]
              exact upd_same
            · rw [List.map_snd_zip (Nat.le_of_eq hc.2.symm)]
              refine RpA.mono (fun x o eo t => ?_) _ _ y2
              have q := of_hid eo
              have nx : x ≠ h'.objs.size := ne_of_none q.1 hpn
              rw [hid_of, upd_ne nx]
              · exact q.1
              · rintro ((z | z) | z)
                · exact q.2 (.inl z)
                · exact nx z
                · exact q.2 (.inr z)
    · cases hmm
  · cases hmm
end
/-! ### a new dict as a value -/
def eN (m : MN) : ME := fun ρ μ => (m ρ μ).bind fun p => match p.1 with
  | .dct (kv :: kvs) => some (.dict ((kv :: kvs).map fun q => (.str q.1, q.2)), p.2)
  | _ => none
theorem rpP_of {K : PySem.W.Frag} {H : Hp} : ∀ {kvs : List (Str × D)} {ws : List V}, RpA K H ws (kvs.map (·.2)) → RpP K H ws (kvs.map fun q => (PyData.str q.1, q.2))
  | [], _, h => h
  | p :: kvs, _, ⟨v, r, e, h1, h2⟩ => ⟨v, r, e, h1, rpP_of h2⟩
theorem keyed_keyD : ∀ {kvs : List (Str × D)} {ws : List V}, ws.length = kvs.length → (keyed (kvs.map (·.1)) ws).map (fun p => keyD p.1) = (kvs.map fun q => (PyData.str q.1, q.2)).map (·.1)
  | [], [], _ => rfl
  | [], _ :: _, h => by simp at h
  | _ :: _, [], h => by simp at h
  | p :: kvs, w :: ws, h => by
    have ih := keyed_keyD (kvs := kvs) (ws := ws) (by simpa using h)
    show keyD (.inr p.1) :: (keyed (kvs.map (·.1)) ws).map (fun p => keyD p.1) = _
    rw [ih]
    rfl
theorem keyed_snd : ∀ {ks : List Str} {ws : List V}, ws.length = ks.length → (keyed ks ws).map (·.2) = ws
  | [], [], _ => rfl
  | [], _ :: _, h => by simp at h
  | _ :: _, [], h => by simp at h
  | k :: ks, w :: ws, h => by
    show w :: (keyed ks ws).map (·.2) = _
    rw [keyed_snd (by simpa using h)]
section
variable {X : Cx} {T : List (Addr × Str)} {Φ : Fx} {B : Nat → Bool} {a b e o : Expr} {mo me : ME} {mn : MN} {p p2 q pos : Pos} {k : Nat}
theorem pd_ofN (h : PDn X T Φ B e mn) : PDe X T Φ B e (eN mn) := PE.cons h fun σ H Q ⟨A, Z, ρ, μ, d, μ', R, hm, kq⟩ => by
  unfold eN at hm
  obtain ⟨pr, e1, hm⟩ := Option.bind_eq_some_iff.mp hm
  split at hm
  · rename_i kv kvs hc
    cases hm
    refine ⟨A, Z, ρ, μ, pr.1, pr.2, R, e1, fun l H' f nz R' n c1 => ?_⟩
    rw [hc] at c1
    obtain ⟨ws, h1, h2⟩ := c1
    have hl : ws.length = (kv :: kvs).length := by rw [h2.length, List.length_map]
    have nA : l ∉ A := (R'.zo l (.inr rfl)).1
    have nw : ¬ Zw B ρ A Z l := fun z => z.elim nz fun z => nA z.mem
    refine kq (.ref l) H' f (R'.weakZ fun _ z => .inl z) ⟨l, rfl, .inl ⟨_, (hid_of nw).trans h1, ⟨keyed_keyD hl, by simp⟩, ?_⟩⟩
    rw [keyed_snd (by rw [hl, List.length_map])]
    exact RpP.mono (hid_le fun x z => z.elim (fun z => .inl (.inl z)) .inr) _ _ (rpP_of h2)
  · cases hm
/-- d[x], the key a text -/
def dG : List (D × D) → Str → Option D
  | [], _ => none
  | (.str k, d) :: r, s => if k = s then some d else dG r s
  | _ :: _, _ => none
def gDGet : G2
  | .dict kvs, .str s => dG kvs s
  | _, _ => none
theorem dG_val {K : PySem.W.Frag} {H : Hp} {s : Str} {d : D} : ∀ {kvs : List (D × D)} {ps : List (Key × V)}, ps.map (fun p => keyD p.1) = kvs.map (·.1) → RpP K H (ps.map (·.2)) kvs → dG kvs s = some d → ∃ v, valV ps (.inr s) = some v ∧ Rp K H v d
  | [], _, _, _, h => by cases h
  | (k0, d0) :: kvs, [], h, _, _ => by simp at h
  | (k0, d0) :: kvs, p :: ps, h, ⟨v, r, e, h1, h2⟩, hg => by
    simp only [List.map_cons, List.cons.injEq] at h e
    obtain ⟨ha, hb⟩ := h
    obtain ⟨e1, e2⟩ := e
    cases k0 with
    | str k1 =>
      have hp : p.1 = .inr k1 := by
        cases hq : p.1 with
        | inl i => rw [hq] at ha; cases ha
        | inr x => rw [hq] at ha; cases ha; rfl
      unfold dG at hg
      by_cases z : k1 = s
      · rw [if_pos z] at hg
        cases hg
        exact ⟨p.2, valV_pos (by rw [hp, z]), by rw [e1]; exact h1⟩
      · rw [if_neg z] at hg
        obtain ⟨v', g1, g2⟩ := dG_val (ps := ps) hb (by rw [e2]; exact h2) hg
        refine ⟨v', ?_, g2⟩
        have nk : ¬ (p.1 = (.inr s : Key)) := fun w => z (by rw [hp] at w; cases w; rfl)
        simp only [valV, List.find?_cons, nk, decide_false] at g1 ⊢
        exact g1
    | none => cases hg
    | bool _ => cases hg
    | int _ => cases hg
    | list _ => cases hg
    | tuple _ => cases hg
    | dict _ => cases hg
theorem pd_dget (hr : Room k X.A) (ho : PDe X T Φ B o mo) (he : PDe X T Φ B e me) (hs : NoSl e := by intro _ _; rfl) : PDe X T Φ B (.Subscript o e pos) (e2 gDGet mo me) := PE.cons (pe_dget (by have := hr.units; omega) ho he hs) fun σ H Q ⟨A, Z, ρ, μ, d, μ', R, hm, kq⟩ => by
  unfold e2 at hm
  obtain ⟨pr, e1, hm⟩ := Option.bind_eq_some_iff.mp hm
  obtain ⟨qr, e2, hm⟩ := Option.bind_eq_some_iff.mp hm
  obtain ⟨d', e3, hm⟩ := Option.map_eq_some_iff.mp hm
  cases hm
  unfold gDGet at e3
  split at e3
  · rename_i kvs s hk hq
    refine ⟨A, Z, ρ, μ, pr.1, pr.2, R, e1, fun x H1 f1 R1 p1 => ⟨A, Z, ρ, pr.2, qr.1, qr.2, R1, e2, fun y H2 f2 R2 p2 => ?_⟩⟩
    have p1' := Rp.mono (fw_xt f2) _ _ p1
    rw [hk] at p1'
    rw [hq] at p2
    obtain ⟨l, rfl, h⟩ := p1'
    rcases h with ⟨ps, g1, ⟨g2, _⟩, g3⟩ | ⟨ps, g1, g2, g3⟩ | ⟨nm, fs, g1, g2, g3⟩
    · obtain ⟨v, v1, v2⟩ := dG_val g2 g3 e3
      refine ⟨l, v, rfl, ?_, kq v H2 (f1.trans f2) R2 v2⟩
      rw [← v1, show y = L2.kV (.inr s) from p2]
      exact DGet.k (of_hid g1).1
    · exfalso
      cases kvs with
      | nil => cases e3
      | cons a r =>
        obtain ⟨k0, d0⟩ := a
        cases ps with
        | nil => simp at g2
        | cons p ps =>
          simp only [List.map_cons, List.cons.injEq] at g2
          obtain ⟨z, _⟩ := g2
          subst z
          cases e3
    · exfalso
      cases kvs with
      | nil => cases e3
      | cons a r =>
        obtain ⟨k0, d0⟩ := a
        simp only [List.map_cons, List.cons.injEq] at g2
        obtain ⟨z, _⟩ := g2
        subst z
        cases e3
  · cases e3
end
end PD
end
section
set_option linter.all false
set_option maxRecDepth 100000
set_option maxHeartbeats 4000000
/-! P33: {x: c for x in t}, t a tuple of unlike texts, c a constant. -/
namespace PD
open PySem PySem.Spec PyProof.Rows L2
def nDcK (i : Nat) (m : ME) (d : D) : MN := fun ρ μ => (m ρ μ).bind fun p => match p.1 with
  | .tuple ds => (strsOf ds).bind fun ks => if ks.Nodup ∧ ks.length < 65536 ∧ i < ρ.length then some (.dct (ks.map fun k => (k, d)), p.2) else none
  | _ => none
theorem rep_rp {K : PySem.W.Frag} {H : Hp} {v : V} {d : D} (h : Rp K H v d) : ∀ n : Nat, RpA K H (List.replicate n v) (List.replicate n d)
  | 0 => rfl
  | n + 1 => ⟨v, _, rfl, h, rep_rp h n⟩
theorem keyed_take {ks : List Str} {v : V} {i : Nat} {k : Str} (hk : ks[i]? = some k) : keyed (ks.take i) (List.replicate i v) ++ [(.inr k, v)] = keyed (ks.take (i + 1)) (List.replicate (i + 1) v) := by
  have hl : i < ks.length := (List.getElem?_eq_some_iff.mp hk).1
  rw [keyed_snoc k v (by simp; omega)]
  congr 1
  · rw [List.take_succ, hk]; rfl
  · rw [List.replicate_succ']
section
variable {X : Cx} {T : List (Addr × Str)} {Φ : Fx} {B : Nat → Bool} {iter : Expr} {mi : ME} {pos p1 p2 p3 : Pos}
theorem pn_dcK {scope : Scope} {y z : Str} {i : Nat} {d : D} (own : List (Str × Nat)) (hw : own = [(y, i)]) (hc : X.calm = true) (hN : X.N.Nodup) (hi : PDe X T Φ B iter mi) (ok : BlkOk X.N X.env.scope scope own) (hz : Cst X.K X.mg z d)
    (hg : ∀ (s : Shared) (H : Hp) (C : Addr) (cl : List (Str × Addr)) (fp : List Addr), PG (X.blk s H scope (compEnvC scope cl C X.env) fp) (.Name y p1) (gName i))
    (hk : ∀ (s : Shared) (H : Hp) (C : Addr) (cl : List (Str × Addr)) (fp : List Addr), PE (X.blk s H scope (compEnvC scope cl C X.env) fp) (.Name y p2) (tVar i))
    (hgl : ∀ (s : Shared) (H : Hp) (C : Addr) (cl : List (Str × Addr)) (fp : List Addr), Gl (X.blk s H scope (compEnvC scope cl C X.env) fp) z) (hd : (z == ("__debug__" : Str)) = false := by decide) (hs : ∀ x, foldedSetIterable iter X.env x = pure x := by intro _; rfl) :
    PDn X T Φ B (.DictComp (.Name y p2) (.Name z p3) [⟨.Name y p1, iter, [], 0⟩] scope pos) (nDcK i mi d) := by
  subst hw
  obtain ⟨v, u, hmg, rel, hv⟩ := hz
  refine PE.cons (pe_dc (own := [(y, i)]) (tk := tVar i) (tv := tC v) (g := gName i) (tt := tYes) hc hN (pi_tup hi) ok hg (fun _ _ _ _ _ => pts_nil) hk (fun s H C cl fp => pe_glob (hgl s H C cl fp) hmg rel hd) hs) fun σ H Q ⟨A, Z, ρ, μ, c, μ', R, hm, kq⟩ => ?_
  unfold nDcK at hm
  obtain ⟨pr, e1, hm⟩ := Option.bind_eq_some_iff.mp hm
  split at hm
  · rename_i ds hds
    obtain ⟨ks, ek, hm⟩ := Option.bind_eq_some_iff.mp hm
    split at hm
    · rename_i hc2
      cases hm
      refine ⟨A, Z, ρ, μ, pr.1, pr.2, R, e1, fun x H1 f1 R1 q1 => ?_⟩
      rw [hds] at q1
      obtain ⟨l, xs, rfl, k1, k2⟩ := q1
      have exs := strsOf_rp k2 ek
      subst exs
      have sq : SqT X.K H1 l (ks.map V.str) := hid_sqT k1.sq
      refine ⟨l, rfl, ⟨_, sq⟩, fun D hD => ?_⟩
      have sqU : ∀ o, SqT X.K (upd H1 D o) l (ks.map V.str) := fun o => XT.sqT (H := H1) (H' := upd H1 D o) (fun x u e _ => by rw [upd_ne (ne_of_none e hD)]; exact e) sq
      have uu : ∀ a b : HO, upd (upd H1 D a) D b = upd H1 D b := fun a b => funext fun x => by
        by_cases hx : x = D
        · subst hx; rw [upd_same, upd_same]
        · rw [upd_ne hx, upd_ne hx, upd_ne hx]
      refine dc_tup (xs := ks.map V.str) (fun j Hj => Hj = upd H1 D (.dK (keyed (ks.take j) (List.replicate j v)))) (by simp [keyed]) (fun j Hj _ e => by rw [e]; exact sqU _) (fun j xv Hj hx e => ?_) fun Hj e => ?_
      · subst e
        rw [List.getElem?_map] at hx
        cases hk2 : ks[j]? with
        | none => rw [hk2] at hx; cases hx
        | some kk =>
          rw [hk2] at hx
          cases hx
          have hj : j < ks.length := (List.getElem?_eq_some_iff.mp hk2).1
          have il : i < (L2.wipe σ [i]).length := by
            rw [L2.wipe_length, ← R1.len]
            exact hc2.2.2
          refine ⟨?_, ?_⟩
          · show L2.wipe ((L2.wipe σ [i]).set i _) [i] = L2.wipe σ [i]
            simp [L2.wipe]
          · unfold tYes
            dsimp only
            rw [if_pos rfl]
            refine ⟨.str kk, by
              show ((L2.wipe σ [i]).set i (some (V.str kk)))[i]? = some (some (V.str kk))
              rw [List.getElem?_set_self il], ?_⟩
            show ∃ kvs k, _
            refine ⟨keyed (ks.take j) (List.replicate j v), .inr kk, rfl, upd_same, ?_, ?_⟩
            · rw [keyed_len, List.length_replicate]
              refine Nat.lt_of_le_of_lt (Nat.min_le_right ..) ?_
              rw [sizeLine_eq]; omega
            · rw [uu, putK_new fun p hp => ?_, keyed_take hk2]
              intro w
              have hl : (List.replicate j v).length = (ks.take j).length := by simp; omega
              have : p.1 ∈ (keyed (ks.take j) (List.replicate j v)).map (fun p : Key × V => p.1) := List.mem_map.mpr ⟨p, hp, rfl⟩
              rw [keyed_fst hl, w] at this
              obtain ⟨k', hk', e'⟩ := List.mem_map.mp this
              cases e'
              obtain ⟨n, hn, en⟩ := List.getElem_of_mem hk'
              rw [List.getElem_take] at en
              have hn' : n < j := by simp at hn; omega
              have e3 : ks[j] = kk := by rw [List.getElem?_eq_getElem hj] at hk2; exact Option.some.inj hk2
              have := (List.getElem_inj hc2.1).mp (en.trans e3.symm)
              omega
      · subst e
        have sm := same_upd (o := .dK (keyed (ks.take (ks.map V.str).length) (List.replicate (ks.map V.str).length v))) hD
        have hks : ks.take (ks.map V.str).length = ks := by rw [List.length_map]; exact List.take_length
        rw [hks, List.length_map] at sm ⊢
        have nz : ¬ Z D := fun z => (R1.zo _ z).2 (.inl hD)
        have e3 : (ks.map fun k => (k, d)).map (·.1) = ks := by rw [List.map_map]; exact List.map_id' ks
        have e4 : (ks.map fun k => (k, d)).map (·.2) = List.replicate ks.length d := by
          rw [List.map_map]
          exact List.map_const' ..
        refine kq D _ (f1.trans (Fw.same sm)) nz (R1.more hD) (f1.there _ (.inl hD)) ⟨List.replicate ks.length v, ?_, ?_⟩
        · rw [e3]; exact upd_same
        · rw [e4]; exact rep_rp (hv _) _
    · cases hm
  · cases hm
end
end PD
end
section
set_option linter.all false
set_option maxRecDepth 100000
set_option maxHeartbeats 4000000
namespace PD
open PySem
/-! what a meaning tells, told as: it tells something of which Q -/
def wp {α β : Type} (o : Option (α × β)) (Q : α → β → Prop) : Prop := ∃ a b, o = some (a, b) ∧ Q a b
def wp1 {α : Type} (o : Option α) (Q : α → Prop) : Prop := ∃ a, o = some a ∧ Q a
section
variable {α β γ : Type}
theorem wp_some {a : α} {b : β} {Q : α → β → Prop} : wp (some (a, b)) Q ↔ Q a b := ⟨fun ⟨_, _, e, q⟩ => by cases e; exact q, fun q => ⟨_, _, rfl, q⟩⟩
theorem wp1_some {a : α} {Q : α → Prop} : wp1 (some a) Q ↔ Q a := ⟨fun ⟨_, e, q⟩ => by cases e; exact q, fun q => ⟨_, rfl, q⟩⟩
theorem wp.mono {o : Option (α × β)} {Q R : α → β → Prop} (h : wp o Q) (k : ∀ a b, Q a b → R a b) : wp o R := by
  obtain ⟨a, b, e, q⟩ := h
  exact ⟨a, b, e, k a b q⟩
theorem wp1.mono {o : Option α} {Q R : α → Prop} (h : wp1 o Q) (k : ∀ a, Q a → R a) : wp1 o R := by
  obtain ⟨a, e, q⟩ := h
  exact ⟨a, e, k a q⟩
theorem wp_of {o : Option (α × β)} {a : α} {b : β} {Q : α → β → Prop} (h : o = some (a, b)) (q : Q a b) : wp o Q := ⟨a, b, h, q⟩
theorem wp1_of {o : Option α} {a : α} {Q : α → Prop} (h : o = some a) (q : Q a) : wp1 o Q := ⟨a, h, q⟩
theorem wp1_if {c : Prop} [Decidable c] {a : α} {Q : α → Prop} : wp1 (if c then some a else none) Q ↔ c ∧ Q a := by
  by_cases h : c <;> simp [h, wp1]
theorem wp_if {c : Prop} [Decidable c] {p : α × β} {Q : α → β → Prop} : wp (if c then some p else none) Q ↔ c ∧ Q p.1 p.2 := by
  by_cases h : c
  · obtain ⟨a, b⟩ := p
    rw [if_pos h, wp_some]
    exact ⟨fun q => ⟨h, q⟩, fun q => q.2⟩
  · rw [if_neg h]
    exact ⟨fun ⟨_, _, e, _⟩ => (by cases e), fun q => absurd q.1 h⟩
theorem wp_map1 {o : Option γ} {f : γ → α} {m : β} {Q : α → β → Prop} : wp (o.map fun d => (f d, m)) Q ↔ wp1 o fun d => Q (f d) m := by
  cases o with
  | none => exact ⟨fun ⟨_, _, e, _⟩ => (by cases e), fun ⟨_, e, _⟩ => (by cases e)⟩
  | some d => rw [Option.map_some, wp_some, wp1_some]
theorem wp_map {δ : Type} {o : Option (γ × δ)} {f : γ → α} {g : δ → β} {Q : α → β → Prop} : wp (o.map fun q => (f q.1, g q.2)) Q ↔ wp o fun a b => Q (f a) (g b) := by
  cases o with
  | none => exact ⟨fun ⟨_, _, e, _⟩ => (by cases e), fun ⟨_, _, e, _⟩ => (by cases e)⟩
  | some d => obtain ⟨a, b⟩ := d; rw [Option.map_some, wp_some, wp_some]
theorem wp_none {Q : α → β → Prop} : wp (none : Option (α × β)) Q ↔ False := ⟨fun ⟨_, _, e, _⟩ => (by cases e), False.elim⟩
theorem wp_bind {o : Option γ} {f : γ → Option (α × β)} {Q : α → β → Prop} : wp (o.bind f) Q ↔ ∃ c, o = some c ∧ wp (f c) Q := by
  cases o <;> simp [wp]
theorem wp1_bind {o : Option γ} {f : γ → Option α} {Q : α → Prop} : wp1 (o.bind f) Q ↔ ∃ c, o = some c ∧ wp1 (f c) Q := by
  cases o <;> simp [wp1]
end
section
variable {ρ : List Slot} {μ : List Cell} {a b : ME} {r : MA} {t u : MT} {Q : D → List Cell → Prop} {QA : List D → List Cell → Prop} {QT : Bool → List Cell → Prop}
theorem wp_eC {d : D} : wp (eC d ρ μ) Q ↔ Q d μ := wp_some
theorem wp_e1 {g : G1} : wp (e1 g a ρ μ) Q ↔ wp (a ρ μ) fun x μ1 => wp1 (g x) fun z => Q z μ1 := by
  unfold e1
  cases a ρ μ with
  | none => exact ⟨fun ⟨_, _, e, _⟩ => (by cases e), fun ⟨_, _, e, _⟩ => (by cases e)⟩
  | some p => obtain ⟨x, m⟩ := p; rw [Option.bind_some, wp_some]; exact wp_map1
theorem wp_e2 {g : G2} : wp (e2 g a b ρ μ) Q ↔ wp (a ρ μ) fun x μ1 => wp (b ρ μ1) fun y μ2 => wp1 (g x y) fun z => Q z μ2 := by
  unfold e2
  cases a ρ μ with
  | none => simp [wp]
  | some p =>
    obtain ⟨x, m⟩ := p
    rw [Option.bind_some, wp_some]
    dsimp only
    cases b ρ m with
    | none => simp [wp]
    | some q => obtain ⟨y, m2⟩ := q; rw [Option.bind_some, wp_some]; exact wp_map1
theorem wp_eL {g : GL} : wp (eL g r ρ μ) Q ↔ wp (r ρ μ) fun xs μ1 => wp1 (g xs) fun z => Q z μ1 := by
  unfold eL
  cases r ρ μ with
  | none => exact ⟨fun ⟨_, _, e, _⟩ => (by cases e), fun ⟨_, _, e, _⟩ => (by cases e)⟩
  | some p => obtain ⟨x, m⟩ := p; rw [Option.bind_some, wp_some]; exact wp_map1
theorem wp_aN : wp (aN ρ μ) QA ↔ QA [] μ := wp_some
theorem wp_aC : wp (aC a r ρ μ) QA ↔ wp (a ρ μ) fun x μ1 => wp (r ρ μ1) fun xs μ2 => QA (x :: xs) μ2 := by
  unfold aC
  cases a ρ μ with
  | none => simp [wp]
  | some p => obtain ⟨x, m⟩ := p; rw [Option.bind_some, wp_some]; exact wp_map (f := fun q => x :: q) (g := id)
theorem wp_eF {mf : MA} : wp (eF mf ρ μ) Q ↔ wp (mf ρ μ) fun ds μ1 => Q (.list ds) μ1 := by
  exact wp_map (f := fun x => PyData.list x) (g := id)
theorem wp_mLst : wp (mLst r ρ μ) QA ↔ wp (r ρ μ) fun ds μ1 => ds.length ≤ sizeLine ∧ QA ds μ1 := by
  unfold mLst
  cases r ρ μ with
  | none => simp [wp]
  | some p =>
    obtain ⟨x, m⟩ := p
    rw [Option.bind_some, wp_some]
    dsimp only
    exact wp_if
theorem wp_tV : wp (tV a ρ μ) QT ↔ wp (a ρ μ) fun x μ1 => wp1 (gBool x) fun b => QT b μ1 := by
  unfold tV
  cases a ρ μ with
  | none => exact ⟨fun ⟨_, _, e, _⟩ => (by cases e), fun ⟨_, _, e, _⟩ => (by cases e)⟩
  | some p => obtain ⟨x, m⟩ := p; rw [Option.bind_some, wp_some]; exact wp_map1
theorem wp_tTrue : wp (tTrue ρ μ) QT ↔ QT true μ := wp_some
theorem wp_eIf : wp (eIf t a b ρ μ) Q ↔ wp (t ρ μ) fun c μ1 => (c = true → wp (a ρ μ1) Q) ∧ (c = false → wp (b ρ μ1) Q) := by
  unfold eIf
  cases t ρ μ with
  | none => simp [wp]
  | some p => obtain ⟨x, m⟩ := p; rw [Option.bind_some, wp_some]; cases x <;> simp
theorem wp_tAnd : wp (tAnd t u ρ μ) QT ↔ wp (t ρ μ) fun c μ1 => (c = true → wp (u ρ μ1) QT) ∧ (c = false → QT false μ1) := by
  unfold tAnd
  cases t ρ μ with
  | none => simp [wp]
  | some p => obtain ⟨x, m⟩ := p; rw [Option.bind_some, wp_some]; cases x <;> simp [wp_some]
theorem wp_tOr : wp (tOr t u ρ μ) QT ↔ wp (t ρ μ) fun c μ1 => (c = true → QT true μ1) ∧ (c = false → wp (u ρ μ1) QT) := by
  unfold tOr
  cases t ρ μ with
  | none => simp [wp]
  | some p => obtain ⟨x, m⟩ := p; rw [Option.bind_some, wp_some]; cases x <;> simp [wp_some]
theorem wp_tNot : wp (tNot t ρ μ) QT ↔ wp (t ρ μ) fun c μ1 => QT (!c) μ1 := by
  exact wp_map (f := fun x => !x) (g := id)
theorem wp_rN {QR : List Arg → List Cell → Prop} : wp (rN ρ μ) QR ↔ QR [] μ := wp_some
theorem wp_rV {r : MAr} {QR : List Arg → List Cell → Prop} : wp (rV a r ρ μ) QR ↔ wp (a ρ μ) fun x μ1 => wp (r ρ μ1) fun xs μ2 => QR (.v x :: xs) μ2 := by
  unfold rV
  cases a ρ μ with
  | none => simp [wp]
  | some p => obtain ⟨x, m⟩ := p; rw [Option.bind_some, wp_some]; exact wp_map (f := fun q => Arg.v x :: q) (g := id)
theorem wp_rL {B : Nat → Bool} {i k : Nat} {r : MAr} {QR : List Arg → List Cell → Prop} (hi : ρ[i]? = some (.own k)) (hb : noBo B ρ k = true) (h : wp (r ρ μ) fun xs μ2 => QR (.l k :: xs) μ2) : wp (rL B i r ρ μ) QR := by
  unfold rL
  rw [hi]
  dsimp only
  rw [if_pos hb]
  obtain ⟨xs, m, e, q⟩ := h
  exact ⟨_, _, by rw [e]; rfl, q⟩
theorem wp_eCall {n : Nat} {F : FD} {r : MAr} (h : wp (r ρ μ) fun as μ1 => ∃ cs, cellsOf μ1 (lentOf as) = some cs ∧ (nodupB (lentOf as) && (slotsOf 0 as).length == n) = true ∧ wp (F (slotsOf 0 as) cs) fun d cs' => flatCs cs' = true ∧ Q d (setCells μ1 (lentOf as) cs')) : wp (eCall n F r ρ μ) Q := by
  obtain ⟨as, m, e, cs, h1, h2, d, cs', h3, h4, q⟩ := h
  refine ⟨d, _, ?_, q⟩
  unfold eCall
  rw [e, Option.bind_some]
  dsimp only
  rw [h1, Option.bind_some, if_pos h2, h3, Option.bind_some]
  dsimp only
  rw [if_pos h4]
theorem wp_rng1 {ρ : List Slot} : wp (rng1 r ρ μ) QA ↔ wp (r ρ μ) fun ds μ1 => ∃ j, ds = [.int j] ∧ okR j = true ∧ QA (rngD 0 j.toNat) μ1 := by
  unfold rng1
  cases r ρ μ with
  | none => simp [wp]
  | some p =>
    obtain ⟨x, m⟩ := p
    rw [Option.bind_some, wp_some]
    dsimp only
    constructor
    · intro h
      split at h
      · rename_i j
        by_cases o : okR j = true
        · rw [if_pos o, wp_some] at h
          exact ⟨j, rfl, o, h⟩
        · rw [if_neg o] at h
          simp [wp] at h
      · simp [wp] at h
    · rintro ⟨j, rfl, o, q⟩
      dsimp only
      rw [if_pos o, wp_some]
      exact q
def itemsAny : D → Option (List D)
  | .list ds => some ds
  | .tuple ds => some ds
  | .str x => some (x.cps.toList.map fun c => .str ⟨#[c]⟩)
  | _ => none
theorem wp_any (h : wp (a ρ μ) fun d μ1 => wp1 (itemsAny d) fun ds => QA ds μ1) : wp (anyItems a ρ μ) QA := by
  obtain ⟨d, m, e, ds, h1, q⟩ := h
  cases d <;> simp [itemsAny] at h1
  all_goals
    subst h1
    exact ⟨_, _, by simp [anyItems, lstItems, tupItems, strItems, e], q⟩
theorem wp_eSl {lo hi : MP} (h : wp (a ρ μ) fun d μ1 => wp (lo ρ μ1) fun l μ2 => wp (hi ρ μ2) fun u μ3 => wp1 (gSl d l u) fun z => Q z μ3) : wp (eSl a lo hi ρ μ) Q := by
  obtain ⟨d, m, e, l, m2, e2, u, m3, e3, z, e4, q⟩ := h
  refine ⟨z, m3, ?_, q⟩
  simp [eSl, e, e2, e3, e4]
theorem wp_pN {QP : Option Int → List Cell → Prop} : wp (pN ρ μ) QP ↔ QP none μ := wp_some
theorem wp_pS {QP : Option Int → List Cell → Prop} (h : wp (a ρ μ) fun d μ1 => ∃ i, d = .int i ∧ QP (some i) μ1) : wp (pS a ρ μ) QP := by
  obtain ⟨d, m, e, i, rfl, q⟩ := h
  exact ⟨some i, m, by simp [pS, e], q⟩
theorem wp_mLc {s : Bool} {mi : MA} {vs : List Nat} {g : MG} {e : ME} (h : wp (mi ρ μ) fun ds μ1 => noOwn ρ vs = true ∧ (s || flatA ds) = true ∧ ds.length ≤ sizeLine ∧ wp (lcD g t e (wipeD ρ vs) ds μ1) QA) : wp (mLc s mi vs g t e ρ μ) QA := by
  obtain ⟨ds, m, e1, h1, h2, h3, h4⟩ := h
  unfold mLc
  rw [e1, Option.bind_some]
  dsimp only
  rw [if_pos (by simp [h1, h2, h3])]
  exact h4
/-- a comprehension with a drawn test: what is kept is kept in its order -/
theorem wp_lcF {α : Type} {g : MG} {e : ME} {ρ0 : List Slot} (I : List Cell → Prop) (enc : α → D) (f : α → D) : ∀ (xs : List α) (μ : List Cell), I μ → (∀ x ∈ xs, ∀ μ, I μ → wp (g (enc x) ρ0 μ) fun ρ1 μ1 => wp (t ρ1 μ1) fun c μ2 => I μ2 ∧ (c = true → e ρ1 μ2 = some (f x, μ2))) →
    wp (lcD g t e ρ0 (xs.map enc) μ) fun rs μ' => I μ' ∧ ∃ ys : List α, ys.Sublist xs ∧ rs = ys.map f
  | [], μ, hI, _ => ⟨_, _, rfl, hI, [], .slnil, rfl⟩
  | x :: xs, μ, hI, h => by
    obtain ⟨ρ1, μ1, e1, c, μ2, e2, hI2, hc⟩ := h x (List.mem_cons_self ..) μ hI
    obtain ⟨rs, μ', e3, hI', ys, hs, hr⟩ := wp_lcF I enc f xs μ2 hI2 fun y hy => h y (List.mem_cons_of_mem _ hy)
    rw [List.map_cons]
    unfold lcD
    rw [e1, Option.bind_some]
    dsimp only
    rw [e2, Option.bind_some]
    dsimp only
    cases c
    · rw [if_neg (by decide)]
      exact ⟨rs, μ', e3, hI', ys, hs.cons _, hr⟩
    · rw [if_pos rfl, hc rfl, Option.bind_some]
      dsimp only
      rw [e3]
      exact ⟨_, _, rfl, hI', x :: ys, hs.cons_cons x, by rw [hr]; rfl⟩
/-- a comprehension whose values are drawn -/
theorem wp_lcN {α β : Type} {g : MG} {e : ME} {ρ0 : List Slot} (I : List Cell → Prop) (enc : α → D) (dec : β → D) (P : β → Prop) : ∀ (xs : List α) (μ : List Cell), I μ → (∀ x ∈ xs, ∀ μ, I μ → wp (g (enc x) ρ0 μ) fun ρ1 μ1 => wp (e ρ1 μ1) fun d μ2 => I μ2 ∧ ∃ y, d = dec y ∧ P y) →
    wp (lcD g tTrue e ρ0 (xs.map enc) μ) fun rs μ' => I μ' ∧ ∃ ys : List β, ys.length = xs.length ∧ rs = ys.map dec ∧ ∀ y ∈ ys, P y
  | [], μ, hI, _ => ⟨_, _, rfl, hI, [], rfl, rfl, fun _ h => by cases h⟩
  | x :: xs, μ, hI, h => by
    obtain ⟨ρ1, μ1, e1, d, μ2, e2, hI2, y, hd, hp⟩ := h x (List.mem_cons_self ..) μ hI
    obtain ⟨rs, μ', e3, hI', ys, hs, hr, ha⟩ := wp_lcN I enc dec P xs μ2 hI2 fun y hy => h y (List.mem_cons_of_mem _ hy)
    rw [List.map_cons]
    unfold lcD
    rw [e1, Option.bind_some]
    dsimp only
    rw [show tTrue ρ1 μ1 = some (true, μ1) from rfl, Option.bind_some]
    dsimp only
    rw [if_pos rfl, e2, Option.bind_some]
    dsimp only
    rw [e3]
    exact ⟨_, _, rfl, hI', y :: ys, by simp [hs], by rw [hr, hd]; rfl, fun z hz => by
      rcases List.mem_cons.mp hz with rfl | hz
      · exact hp
      · exact ha z hz⟩
end
section
variable {n n0 m : Nat} {ρ : List Slot} {μ : List Cell} {a b : ME} {ms mr : MS} {r : MA} {t : MT} {g : MG} {Q : Fl → Prop}
/-- a test that tells b -/
theorem wp1_test {o : Option D} {b : Bool} {Q : Bool → Prop} (h : o = some (.bool b)) (q : Q b) : wp1 o fun x => wp1 (gBool x) Q := ⟨_, h, _, rfl, q⟩
def thenF (b : MS) (n : Nat) (Q : Fl → Prop) : Fl → Prop
  | .next ρ μ => wp1 (b n ρ μ) Q
  | .brk ρ μ => Q (.brk ρ μ)
  | .cont ρ μ => Q (.cont ρ μ)
  | .ret d μ => Q (.ret d μ)
theorem ws_seq (h : wp1 (ms n ρ μ) (thenF mr n Q)) : wp1 (sSeq ms mr n ρ μ) Q := by
  obtain ⟨fl, e, q⟩ := h
  unfold sSeq
  rw [e, Option.bind_some]
  cases fl with
  | next ρ μ => exact q
  | brk ρ μ => exact ⟨_, rfl, q⟩
  | cont ρ μ => exact ⟨_, rfl, q⟩
  | ret d μ => exact ⟨_, rfl, q⟩
theorem ws_nil (h : Q (.next ρ μ)) : wp1 (sNil n ρ μ) Q := ⟨_, rfl, h⟩
theorem ws_if (h : wp (t ρ μ) fun c μ1 => (c = true → wp1 (ms n ρ μ1) Q) ∧ (c = false → wp1 (mr n ρ μ1) Q)) : wp1 (sIf t ms mr n ρ μ) Q := by
  obtain ⟨c, m1, e, h1, h2⟩ := h
  unfold sIf
  rw [e, Option.bind_some]
  cases c
  · rw [if_neg Bool.false_ne_true]; exact h2 rfl
  · rw [if_pos rfl]; exact h1 rfl
theorem ws_as (h : wp (a ρ μ) fun d μ1 => wp (g d ρ μ1) fun ρ' μ' => Q (.next ρ' μ')) : wp1 (sAs a g n ρ μ) Q := by
  obtain ⟨d, m1, e, ρ', μ', e2, q⟩ := h
  exact ⟨_, by simp [sAs, e, e2], q⟩
theorem ws_asF (h : wp (a ρ μ) fun d μ1 => flat d = true ∧ wp (g d ρ μ1) fun ρ' μ' => Q (.next ρ' μ')) : wp1 (sAsF a g n ρ μ) Q := by
  obtain ⟨d, m1, e, hf, ρ', μ', e2, q⟩ := h
  exact ⟨_, by simp [sAsF, e, e2, hf], q⟩
theorem ws_ret {B : Nat → Bool} (h : wp (a ρ μ) fun d μ1 => (okB B n ρ || flat d) = true ∧ Q (.ret d μ1)) : wp1 (sRet B a n ρ μ) Q := by
  obtain ⟨d, m1, e, h1, q⟩ := h
  exact ⟨_, by unfold sRet; rw [e, Option.bind_some, if_pos h1], q⟩
theorem okB0 (n : Nat) (ρ : List Slot) : okB B0 n ρ = true := by
  unfold okB
  rw [List.all_eq_true]
  intro q _
  cases q.1 <;> simp [B0]
theorem ws_ret0 (h : wp (a ρ μ) fun d μ1 => Q (.ret d μ1)) : wp1 (sRet B0 a n ρ μ) Q := ws_ret (h.mono fun d m q => ⟨by rw [okB0]; rfl, q⟩)
theorem ws_new {i : Nat} (h : wp (r ρ μ) fun ds μ1 => Q (.next (ρ.set i (.own μ1.length)) (μ1 ++ [.lst ds]))) : wp1 (sNew i r n ρ μ) Q := by
  obtain ⟨ds, m1, e, q⟩ := h
  exact ⟨_, by simp [sNew, e], q⟩
theorem ws_app {s : Bool} {B : Nat → Bool} {i k0 : Nat} {xs0 : List D} (h0 : cellL ρ μ i = some (k0, xs0)) (h : wp (a ρ μ) fun d μ1 => ∃ k xs, ρ[i]? = some (.own k) ∧ μ1[k]? = some (.lst xs) ∧ xs.length < sizeLine ∧ (s || flat d) = true ∧ noBo B ρ k = true ∧ Q (.next ρ (μ1.set k (.lst (xs ++ [d]))))) : wp1 (sApp s B i a n ρ μ) Q := by
  obtain ⟨d, m1, e, k, xs, h1, h2, h3, h4, h5, q⟩ := h
  refine ⟨_, ?_, q⟩
  unfold sApp
  rw [h0, Option.bind_some, e, Option.bind_some]
  have hc : cellL ρ m1 i = some (k, xs) := by simp [cellL, h1, h2]
  dsimp only
  rw [hc, Option.bind_some, if_pos ⟨h3, h4⟩]
theorem ws_appW {s : Bool} {B : Nat → Bool} {i k0 : Nat} {xs0 : List D} (h0 : cellL ρ μ i = some (k0, xs0)) (h : wp (a ρ μ) fun d μ1 => ∃ k xs, ρ[i]? = some (.own k) ∧ μ1[k]? = some (.lst xs) ∧ xs.length < sizeLine ∧ (s || flat d) = true ∧ Q (.next ρ (μ1.set k (.lst (xs ++ [d]))))) : wp1 (sApp s B i a n ρ μ) Q := by
  obtain ⟨d, m1, e, k, xs, h1, h2, h3, h4, q⟩ := h
  refine ⟨_, ?_, q⟩
  unfold sApp
  rw [h0, Option.bind_some, e, Option.bind_some]
  have hc : cellL ρ m1 i = some (k, xs) := by simp [cellL, h1, h2]
  dsimp only
  rw [hc, Option.bind_some, if_pos ⟨h3, h4⟩]
theorem ws_par {B : Nat → Bool} {i j : Nat} (h : wp (r ρ μ) fun ds μ1 => ∃ d1 d2, ds = [d1, d2] ∧ (flat d1 && flat d2) = true ∧ Q (.next ((ρ.set i (.val d1)).set j (.val d2)) μ1)) : wp1 (sPar B i j r n ρ μ) Q := by
  obtain ⟨ds, m1, e, d1, d2, rfl, h1, q⟩ := h
  refine ⟨_, ?_, q⟩
  unfold sPar
  rw [e, Option.bind_some]
  dsimp only
  rw [if_pos (.inr h1)]
theorem ws_par0 {i j : Nat} (h : wp (r ρ μ) fun ds μ1 => ∃ d1 d2, ds = [d1, d2] ∧ Q (.next ((ρ.set i (.val d1)).set j (.val d2)) μ1)) : wp1 (sPar B0 i j r n ρ μ) Q := by
  obtain ⟨ds, m1, e, d1, d2, rfl, q⟩ := h
  refine ⟨_, ?_, q⟩
  unfold sPar
  rw [e, Option.bind_some]
  dsimp only
  rw [if_pos (.inl fun k _ => rfl)]
def lapF (m : Nat) (I : List Slot → List Cell → Prop) (Q : Fl → Prop) : Fl → Prop
  | .next ρ μ => I (ρ.map (truncS m μ)) (μ.take m)
  | .cont ρ μ => I (ρ.map (truncS m μ)) (μ.take m)
  | .brk ρ μ => Q (.next ρ μ)
  | .ret d μ => Q (.ret d μ)
/-- a loop keeps what it keeps -/
theorem ws_for {mi : MA} (h : wp (mi ρ μ) fun ds μ1 => ∃ I : List D → List Slot → List Cell → Prop, I ds ρ μ1 ∧ (∀ d ds ρ μ, I (d :: ds) ρ μ → wp (g d ρ μ) fun ρ1 μ1' => wp1 (ms n ρ1 μ1') (lapF μ1.length (I ds) Q)) ∧ (∀ ρ μ, I [] ρ μ → Q (.next ρ μ))) : wp1 (sFor mi g ms n ρ μ) Q := by
  obtain ⟨ds, μ1, e, I, h0, h1, h2⟩ := h
  unfold sFor
  rw [e, Option.bind_some]
  dsimp only
  revert h0
  generalize μ1.length = m at h1 ⊢
  clear e
  induction ds generalizing ρ μ1 with
  | nil => intro h0; exact ⟨_, rfl, h2 _ _ h0⟩
  | cons d ds ih =>
    intro h0
    obtain ⟨ρ1, μ1', e1, fl, e2, q⟩ := h1 d ds ρ μ1 h0
    unfold forD
    rw [e1, Option.bind_some]
    dsimp only
    rw [e2, Option.bind_some]
    cases fl with
    | next ρ μ => exact ih _ q
    | cont ρ μ => exact ih _ q
    | brk ρ μ => exact ⟨_, rfl, q⟩
    | ret d μ => exact ⟨_, rfl, q⟩
theorem wp_body {k : Nat} {as : List Slot} {cs : List Cell} {Q : D → List Cell → Prop} (h : wp1 (ms cs.length (as ++ List.replicate k .non) cs) fun fl => match fl with | .ret d μ => Q d (μ.take cs.length) | .next _ μ => Q .none (μ.take cs.length) | _ => False) : wp (bodyF k ms as cs) Q := by
  obtain ⟨fl, e, q⟩ := h
  unfold bodyF
  rw [e, Option.bind_some]
  cases fl with
  | next ρ μ => exact ⟨_, _, rfl, q⟩
  | cont ρ μ => exact q.elim
  | brk ρ μ => exact q.elim
  | ret d μ => exact ⟨_, _, rfl, q⟩
end
end PD
end
section
set_option linter.all false
set_option maxRecDepth 100000
set_option maxHeartbeats 4000000
namespace PD
open PySem PySem.W
/-! what is sorted rises -/
theorem dataLe_f (d e : D) : dataLe false id d e = !dataLt e d := rfl
theorem dataLt_tr {a b c : D} (h1 : dataLt a b = true) (h2 : dataLt b c = true) : dataLt a c = true := PyProof.Rows.lex_trans _ _ _ h1 h2
theorem dataLt_neg {a b c : D} (h : dataLt a c = true) : dataLt a b = true ∨ dataLt b c = true := PyProof.Rows.lex_negTrans _ _ _ h
theorem dataLt_irr (a : D) : dataLt a a = false := PyProof.Rows.lex_irrefl _
theorem dataLt_tot {a b : D} (h1 : dataLt a b = false) (h2 : dataLt b a = false) : keyToks a = keyToks b := PyProof.Rows.lex_total _ _ h1 h2
theorem sortD_map {α : Type} (enc : α → D) (xs : List α) : ∃ ys : List α, ys.Perm xs ∧ sortD (xs.map enc) = ys.map enc ∧ ys.Pairwise fun a b => dataLt (enc b) (enc a) = false := by
  refine ⟨xs.mergeSort fun a b => dataLe false id (enc a) (enc b), List.mergeSort_perm _ _, ?_, ?_⟩
  · exact (List.map_mergeSort (f := enc) fun a _ b _ => rfl).symm
  · have := List.pairwise_mergeSort (le := fun a b => dataLe false id (enc a) (enc b)) (fun a b c h1 h2 => by
      rw [dataLe_f, Bool.not_eq_true'] at h1 h2 ⊢
      cases h : dataLt (enc c) (enc a) with
      | false => rfl
      | true =>
        rcases dataLt_neg (b := enc b) h with h | h
        · rw [h2] at h; cases h
        · rw [h1] at h; cases h) (fun a b => by
      rw [dataLe_f, dataLe_f]
      cases h1 : dataLt (enc b) (enc a) with
      | false => rfl
      | true =>
        cases h2 : dataLt (enc a) (enc b) with
        | false => rfl
        | true =>
          have := dataLt_tr h1 h2
          rw [dataLt_irr] at this
          cases this) xs
    exact this.imp fun h => by
      rw [dataLe_f, Bool.not_eq_true'] at h
      exact h
theorem sortD_strict {α : Type} (enc : α → D) (xs : List α) (inj : ∀ a b, keyToks (enc a) = keyToks (enc b) → a = b) (nd : xs.Nodup) : ∃ ys : List α, ys.Perm xs ∧ sortD (xs.map enc) = ys.map enc ∧ ys.Pairwise fun a b => dataLt (enc a) (enc b) = true := by
  obtain ⟨ys, h1, h2, h3⟩ := sortD_map enc xs
  refine ⟨ys, h1, h2, ?_⟩
  have nd' : ys.Pairwise fun a b => a ≠ b := h1.nodup_iff.mpr nd
  refine (h3.and nd').imp fun ⟨h, hne⟩ => ?_
  cases e : dataLt (enc _) (enc _) with
  | true => rfl
  | false => exact absurd (inj _ _ (dataLt_tot e h)) hne
end PD
end
section
set_option linter.all false
set_option maxRecDepth 100000
set_option maxHeartbeats 4000000
namespace PD
open PySem L2
section
variable {n : Nat} {ρ : List Slot} {μ : List Cell} {Q : Fl → Prop} {QE : D → List Cell → Prop} {mk mv m : ME} {i : Nat}
theorem ws_newD (h : Q (.next (ρ.set i (.own μ.length)) (μ ++ [.dct []]))) : wp1 (sNewD i n ρ μ) Q := ⟨_, rfl, h⟩
theorem ws_putD (h : wp (mv ρ μ) fun d μ1 => wp (mk ρ μ1) fun k μ2 => ∃ s c kvs, k = .str s ∧ cellD ρ μ2 i = some (c, kvs) ∧ kvs.length < sizeLine ∧ Q (.next ρ (μ2.set c (.dct (dPut kvs s d))))) : wp1 (sPutD i mk mv n ρ μ) Q := by
  obtain ⟨d, m1, e1, k, m2, e2, s, c, kvs, rfl, h1, h2, q⟩ := h
  refine ⟨_, ?_, q⟩
  unfold sPutD
  rw [e1, Option.bind_some]
  dsimp only
  rw [e2, Option.bind_some]
  dsimp only
  rw [h1, Option.bind_some]
  dsimp only
  rw [if_pos h2]
theorem wp_popAt {B : Nat → Bool} {c0 : Nat × List D} (h0 : cellL ρ μ i = some c0) (h : wp (m ρ μ) fun x μ1 => ∃ j c xs jj d, x = .int j ∧ cellL ρ μ1 i = some (c, xs) ∧ (noBo B ρ c && okR j) = true ∧ ixN xs.length j = some jj ∧ xs[jj]? = some d ∧ QE d (μ1.set c (.lst (xs.eraseIdx jj)))) : wp (ePopAt B i m ρ μ) QE := by
  obtain ⟨x, m1, e1, j, c, xs, jj, d, rfl, h1, h2, h3, h4, q⟩ := h
  refine ⟨_, _, ?_, q⟩
  unfold ePopAt
  rw [h0, Option.bind_some, e1, Option.bind_some]
  dsimp only
  rw [h1, Option.bind_some]
  dsimp only
  rw [if_pos h2, h3, Option.bind_some, h4]
  rfl
theorem getD_of {s : Str} {μ1 : List Cell} {c : Nat} {kvs : List (Str × D)} {d : D} (h : m ρ μ = some (.str s, μ1)) (hc : cellD ρ μ1 i = some (c, kvs)) (hg : dGet kvs s = some d) : eGetD i m ρ μ = some (d, μ1) := by
  unfold eGetD
  rw [h, Option.bind_some]
  dsimp only
  rw [hc, Option.bind_some, hg]
  rfl
end
end PD
end
section
set_option linter.all false
set_option maxRecDepth 100000
set_option maxHeartbeats 4000000
namespace K26
open PySem PySem.Spec PyProof.Rows L2 PD LamX
def top (i : Nat) : Stmt := PySem.Challenge.pw_heardweights_k26_whole_means_over_all_ch.main.body.getD i (.Pass ⟨0, 0, 0, 0⟩)
abbrev s_is_whole : Stmt := top 11
abbrev s_is_between : Stmt := top 12
abbrev s_is_one_of : Stmt := top 13
abbrev s_is_word : Stmt := top 14
abbrev s_is_name : Stmt := top 15
abbrev s_is_tuple_of : Stmt := top 16
abbrev s_is_pair : Stmt := top 17
abbrev s_wrong_in : Stmt := top 18
abbrev s_wrong_in_all : Stmt := top 19
abbrev s_are_below : Stmt := top 20
abbrev s_is_set_of_names : Stmt := top 21
abbrev s_lowest : Stmt := top 25
abbrev s_is_fraction : Stmt := top 26
abbrev s_plus : Stmt := top 27
abbrev s_total : Stmt := top 28
abbrev s_set_order : Stmt := top 30
abbrev s_wrong_in_frame : Stmt := top 33
abbrev s_is_mass : Stmt := top 34
abbrev s_wrong_in_masses : Stmt := top 35
abbrev s_is_share : Stmt := top 37
abbrev s_wrong_in_chances : Stmt := top 38
abbrev s_given_to : Stmt := top 39
abbrev s_check_frame : Stmt := top 41
abbrev s_check_masses : Stmt := top 42
abbrev s_check_chances : Stmt := top 44
abbrev s_is_worth : Stmt := top 47
abbrev s_wrong_in_worths : Stmt := top 48
abbrev s_mean_by : Stmt := top 49
abbrev s_least_of : Stmt := top 50
abbrev s_greatest_of : Stmt := top 51
abbrev s_least_mean : Stmt := top 52
abbrev s_greatest_mean : Stmt := top 53
abbrev s_check_worths : Stmt := top 55
abbrev s_check_worth : Stmt := top 56
abbrev s_least_worth : Stmt := top 57
abbrev s_greatest_worth : Stmt := top 58
abbrev s_mean_of : Stmt := top 59
abbrev s_law_voice : Stmt := top 61
abbrev s_law_say : Stmt := top 62
abbrev s_law_of : Stmt := top 63
abbrev s_law_same : Stmt := top 64
abbrev s_law_low : Stmt := top 65
abbrev s_law_plus : Stmt := top 66
abbrev s_law_less : Stmt := top 67
abbrev s_law_times : Stmt := top 68
abbrev s_law_up_to : Stmt := top 69
abbrev s_law_sum : Stmt := top 70
abbrev s_law_frame : Stmt := top 71
abbrev s_law_sets : Stmt := top 72
abbrev s_law_shared : Stmt := top 73
abbrev s_law_masses : Stmt := top 74
abbrev s_law_within : Stmt := top 75
abbrev s_law_belief : Stmt := top 76
abbrev s_law_do_fit : Stmt := top 77
abbrev s_law_mean : Stmt := top 78
abbrev s_law_orders : Stmt := top 79
abbrev s_law_grown : Stmt := top 80
abbrev s_law_least : Stmt := top 81
abbrev s_law_right : Stmt := top 82
abbrev s_law : Stmt := top 83
def c_LETTERS : D := .str "abcdefghijklmnopqrstuvwxyz"
def c_MOST_LETTERS : D := .int 8
def c_MOST_THINGS : D := .int 5
def c_MOST_WORTH : D := .int 99
def c_NOTHING : D := .tuple [.int 0, .int 1]
def c_WHOLE : D := .tuple [.int 1, .int 1]
def c_WORDS : D := .tuple [.str "all", .str "act", .str "acts", .str "believe", .str "book", .str "case", .str "doubt", .str "frame", .str "hear", .str "if", .str "is", .str "join", .str "least", .str "may", .str "none", .str "not", .str "of", .str "open", .str "or", .str "quit", .str "set", .str "sets", .str "share", .str "strike", .str "tell", .str "then", .str "undo", .str "weight", .str "witness", .str "worth", .str "yes"]
abbrev tabP (K : PySem.W.Frag) (x : Str) : Addr := He.tabOf K (He.codeOf K (x, none))
def TT (K : PySem.W.Frag) : List (Addr × Str) := [(tabP K "wrong_in_all", ("wrong_in_all" : Str) ++ ".<locals>." ++ "<lambda>"), (tabP K "is_set_of_names", ("is_set_of_names" : Str) ++ ".<locals>." ++ "<lambda>"), (tabP K "wrong_in_frame", ("wrong_in_frame" : Str) ++ ".<locals>." ++ "<lambda>"), (tabP K "wrong_in_masses", ("wrong_in_masses" : Str) ++ ".<locals>." ++ "<lambda>"), (tabP K "least_of", ("least_of" : Str) ++ ".<locals>." ++ "<lambda>")]
def fnL : List He.DefD := [⟨("is_whole", none), "is_whole", "is_whole", defArgs s_is_whole, defBody s_is_whole, defScope s_is_whole, [], []⟩, ⟨("is_between", none), "is_between", "is_between", defArgs s_is_between, defBody s_is_between, defScope s_is_between, [], []⟩, ⟨("is_one_of", none), "is_one_of", "is_one_of", defArgs s_is_one_of, defBody s_is_one_of, defScope s_is_one_of, [], []⟩, ⟨("is_word", none), "is_word", "is_word", defArgs s_is_word, defBody s_is_word, defScope s_is_word, [], []⟩, ⟨("is_name", none), "is_name", "is_name", defArgs s_is_name, defBody s_is_name, defScope s_is_name, [], []⟩, ⟨("is_tuple_of", none), "is_tuple_of", "is_tuple_of", defArgs s_is_tuple_of, defBody s_is_tuple_of, defScope s_is_tuple_of, [], []⟩, ⟨("is_pair", none), "is_pair", "is_pair", defArgs s_is_pair, defBody s_is_pair, defScope s_is_pair, [], []⟩, ⟨("wrong_in", none), "wrong_in", "wrong_in", defArgs s_wrong_in, defBody s_wrong_in, defScope s_wrong_in, [], []⟩, ⟨("wrong_in_all", none), "wrong_in_all", "wrong_in_all", defArgs s_wrong_in_all, defBody s_wrong_in_all, defScope s_wrong_in_all, [], []⟩, ⟨("are_below", none), "are_below", "are_below", defArgs s_are_below, defBody s_are_below, defScope s_are_below, [], []⟩, ⟨("is_set_of_names", none), "is_set_of_names", "is_set_of_names", defArgs s_is_set_of_names, defBody s_is_set_of_names, defScope s_is_set_of_names, [], []⟩, ⟨("lowest", none), "lowest", "lowest", defArgs s_lowest, defBody s_lowest, defScope s_lowest, [], []⟩, ⟨("is_fraction", none), "is_fraction", "is_fraction", defArgs s_is_fraction, defBody s_is_fraction, defScope s_is_fraction, [], []⟩, ⟨("plus", none), "plus", "plus", defArgs s_plus, defBody s_plus, defScope s_plus, [], []⟩, ⟨("total", none), "total", "total", defArgs s_total, defBody s_total, defScope s_total, [], []⟩, ⟨("set_order", none), "set_order", "set_order", defArgs s_set_order, defBody s_set_order, defScope s_set_order, [], []⟩, ⟨("wrong_in_frame", none), "wrong_in_frame", "wrong_in_frame", defArgs s_wrong_in_frame, defBody s_wrong_in_frame, defScope s_wrong_in_frame, [], []⟩, ⟨("is_mass", none), "is_mass", "is_mass", defArgs s_is_mass, defBody s_is_mass, defScope s_is_mass, [], []⟩, ⟨("wrong_in_masses", none), "wrong_in_masses", "wrong_in_masses", defArgs s_wrong_in_masses, defBody s_wrong_in_masses, defScope s_wrong_in_masses, [], []⟩, ⟨("is_share", none), "is_share", "is_share", defArgs s_is_share, defBody s_is_share, defScope s_is_share, [], []⟩, ⟨("wrong_in_chances", none), "wrong_in_chances", "wrong_in_chances", defArgs s_wrong_in_chances, defBody s_wrong_in_chances, defScope s_wrong_in_chances, [], []⟩, ⟨("given_to", none), "given_to", "given_to", defArgs s_given_to, defBody s_given_to, defScope s_given_to, [], []⟩, ⟨("check_frame", none), "check_frame", "check_frame", defArgs s_check_frame, defBody s_check_frame, defScope s_check_frame, [], []⟩, ⟨("check_masses", none), "check_masses", "check_masses", defArgs s_check_masses, defBody s_check_masses, defScope s_check_masses, [], []⟩, ⟨("check_chances", none), "check_chances", "check_chances", defArgs s_check_chances, defBody s_check_chances, defScope s_check_chances, [], []⟩, ⟨("is_worth", none), "is_worth", "is_worth", defArgs s_is_worth, defBody s_is_worth, defScope s_is_worth, [], []⟩, ⟨("wrong_in_worths", none), "wrong_in_worths", "wrong_in_worths", defArgs s_wrong_in_worths, defBody s_wrong_in_worths, defScope s_wrong_in_worths, [], []⟩, ⟨("mean_by", none), "mean_by", "mean_by", defArgs s_mean_by, defBody s_mean_by, defScope s_mean_by, [], []⟩, ⟨("least_of", none), "least_of", "least_of", defArgs s_least_of, defBody s_least_of, defScope s_least_of, [], []⟩, ⟨("greatest_of", none), "greatest_of", "greatest_of", defArgs s_greatest_of, defBody s_greatest_of, defScope s_greatest_of, [], []⟩, ⟨("least_mean", none), "least_mean", "least_mean", defArgs s_least_mean, defBody s_least_mean, defScope s_least_mean, [], []⟩, ⟨("greatest_mean", none), "greatest_mean", "greatest_mean", defArgs s_greatest_mean, defBody s_greatest_mean, defScope s_greatest_mean, [], []⟩, ⟨("check_worths", none), "check_worths", "check_worths", defArgs s_check_worths, defBody s_check_worths, defScope s_check_worths, [], []⟩, ⟨("check_worth", none), "check_worth", "check_worth", defArgs s_check_worth, defBody s_check_worth, defScope s_check_worth, [], []⟩, ⟨("least_worth", none), "least_worth", "least_worth", defArgs s_least_worth, defBody s_least_worth, defScope s_least_worth, [], []⟩, ⟨("greatest_worth", none), "greatest_worth", "greatest_worth", defArgs s_greatest_worth, defBody s_greatest_worth, defScope s_greatest_worth, [], []⟩, ⟨("mean_of", none), "mean_of", "mean_of", defArgs s_mean_of, defBody s_mean_of, defScope s_mean_of, [], []⟩, ⟨("_law_voice", none), "_law_voice", "_law_voice", defArgs s_law_voice, defBody s_law_voice, defScope s_law_voice, [], []⟩, ⟨("_law_say", none), "_law_say", "_law_say", defArgs s_law_say, defBody s_law_say, defScope s_law_say, [], []⟩, ⟨("_law_of", none), "_law_of", "_law_of", defArgs s_law_of, defBody s_law_of, defScope s_law_of, [], []⟩, ⟨("_law_same", none), "_law_same", "_law_same", defArgs s_law_same, defBody s_law_same, defScope s_law_same, [], []⟩, ⟨("_law_low", none), "_law_low", "_law_low", defArgs s_law_low, defBody s_law_low, defScope s_law_low, [], []⟩, ⟨("_law_plus", none), "_law_plus", "_law_plus", defArgs s_law_plus, defBody s_law_plus, defScope s_law_plus, [], []⟩, ⟨("_law_less", none), "_law_less", "_law_less", defArgs s_law_less, defBody s_law_less, defScope s_law_less, [], []⟩, ⟨("_law_times", none), "_law_times", "_law_times", defArgs s_law_times, defBody s_law_times, defScope s_law_times, [], []⟩, ⟨("_law_up_to", none), "_law_up_to", "_law_up_to", defArgs s_law_up_to, defBody s_law_up_to, defScope s_law_up_to, [], []⟩, ⟨("_law_sum", none), "_law_sum", "_law_sum", defArgs s_law_sum, defBody s_law_sum, defScope s_law_sum, [], []⟩, ⟨("_law_frame", none), "_law_frame", "_law_frame", defArgs s_law_frame, defBody s_law_frame, defScope s_law_frame, [], []⟩, ⟨("_law_sets", none), "_law_sets", "_law_sets", defArgs s_law_sets, defBody s_law_sets, defScope s_law_sets, [], []⟩, ⟨("_law_shared", none), "_law_shared", "_law_shared", defArgs s_law_shared, defBody s_law_shared, defScope s_law_shared, [], []⟩, ⟨("_law_masses", none), "_law_masses", "_law_masses", defArgs s_law_masses, defBody s_law_masses, defScope s_law_masses, [], []⟩, ⟨("_law_within", none), "_law_within", "_law_within", defArgs s_law_within, defBody s_law_within, defScope s_law_within, [], []⟩, ⟨("_law_belief", none), "_law_belief", "_law_belief", defArgs s_law_belief, defBody s_law_belief, defScope s_law_belief, [], []⟩, ⟨("_law_do_fit", none), "_law_do_fit", "_law_do_fit", defArgs s_law_do_fit, defBody s_law_do_fit, defScope s_law_do_fit, [], []⟩, ⟨("_law_mean", none), "_law_mean", "_law_mean", defArgs s_law_mean, defBody s_law_mean, defScope s_law_mean, [], []⟩, ⟨("_law_orders", none), "_law_orders", "_law_orders", defArgs s_law_orders, defBody s_law_orders, defScope s_law_orders, [], []⟩, ⟨("_law_grown", none), "_law_grown", "_law_grown", defArgs s_law_grown, defBody s_law_grown, defScope s_law_grown, [], []⟩, ⟨("_law_least", none), "_law_least", "_law_least", defArgs s_law_least, defBody s_law_least, defScope s_law_least, [], []⟩, ⟨("_law_right", none), "_law_right", "_law_right", defArgs s_law_right, defBody s_law_right, defScope s_law_right, [], []⟩, ⟨("law", none), "law", "law", defArgs s_law, defBody s_law, defScope s_law, [], []⟩]
def faL : List He.Fa := [.free "abs", .free "all", .free "bool", .free "dict", .free "divmod", .free "enumerate", .free "int", .free "isinstance", .free "len", .free "list", .free "max", .free "min", .free "range", .free "sorted", .free "str", .free "sum", .free "tuple", .free "zip", .glo "is_whole", .glo "is_between", .glo "is_one_of", .glo "is_word", .glo "is_name", .glo "is_tuple_of", .glo "is_pair", .glo "wrong_in", .glo "wrong_in_all", .glo "are_below", .glo "is_set_of_names", .glo "lowest", .glo "is_fraction", .glo "plus", .glo "total", .glo "set_order", .glo "wrong_in_frame", .glo "is_mass", .glo "wrong_in_masses", .glo "is_share", .glo "wrong_in_chances", .glo "given_to", .glo "check_frame", .glo "check_masses", .glo "check_chances", .glo "is_worth", .glo "wrong_in_worths", .glo "mean_by", .glo "least_of", .glo "greatest_of", .glo "least_mean", .glo "greatest_mean", .glo "check_worths", .glo "check_worth", .glo "least_worth", .glo "greatest_worth", .glo "mean_of", .glo "_law_voice", .glo "_law_say", .glo "_law_of", .glo "_law_same", .glo "_law_low", .glo "_law_plus", .glo "_law_less", .glo "_law_times", .glo "_law_up_to", .glo "_law_sum", .glo "_law_frame", .glo "_law_sets", .glo "_law_shared", .glo "_law_masses", .glo "_law_within", .glo "_law_belief", .glo "_law_do_fit", .glo "_law_mean", .glo "_law_orders", .glo "_law_grown", .glo "_law_least", .glo "_law_right", .glo "law"]
def tfL : List He.Defn := [("wrong_in_all", none), ("is_set_of_names", none), ("wrong_in_frame", none), ("wrong_in_masses", none), ("least_of", none)]
def exL (K : PySem.W.Frag) : List Bool := [cstB K "LETTERS" c_LETTERS, cstB K "MOST_LETTERS" c_MOST_LETTERS, cstB K "MOST_THINGS" c_MOST_THINGS, cstB K "MOST_WORTH" c_MOST_WORTH, cstB K "NOTHING" c_NOTHING, cstB K "WHOLE" c_WHOLE, cstTB K "WORDS" c_WORDS, cdB K "wrong_in_all", cdB K "is_set_of_names", cdB K "wrong_in_frame", cdB K "wrong_in_masses", cdB K "least_of", tuB (TT K), noLists K, bltB K "gcd" "math.gcd"]
def exB (K : PySem.W.Frag) : Bool := (exL K).all id
def loose0 : List Str := [("HeardError" : Str), ("InvalidFrame" : Str), ("InvalidMasses" : Str), ("InvalidChances" : Str), ("InvalidWorths" : Str), ("LETTERS" : Str), ("MOST_LETTERS" : Str), ("WORDS" : Str), ("is_whole" : Str), ("is_between" : Str), ("is_one_of" : Str), ("is_word" : Str), ("is_name" : Str), ("is_tuple_of" : Str), ("is_pair" : Str), ("wrong_in" : Str), ("wrong_in_all" : Str), ("are_below" : Str), ("is_set_of_names" : Str), ("NOTHING" : Str), ("WHOLE" : Str), ("lowest" : Str), ("is_fraction" : Str), ("plus" : Str), ("total" : Str), ("set_order" : Str), ("MOST_THINGS" : Str), ("wrong_in_frame" : Str), ("is_mass" : Str), ("wrong_in_masses" : Str), ("is_share" : Str), ("wrong_in_chances" : Str), ("given_to" : Str), ("check_frame" : Str), ("check_masses" : Str)]
def loose1 : List Str := [("check_chances" : Str), ("MOST_WORTH" : Str), ("is_worth" : Str), ("wrong_in_worths" : Str), ("mean_by" : Str), ("least_of" : Str), ("greatest_of" : Str), ("least_mean" : Str), ("greatest_mean" : Str), ("check_worths" : Str), ("check_worth" : Str), ("least_worth" : Str), ("greatest_worth" : Str), ("mean_of" : Str), ("_law_voice" : Str), ("_law_say" : Str), ("_law_of" : Str), ("_law_same" : Str), ("_law_low" : Str), ("_law_plus" : Str), ("_law_less" : Str), ("_law_times" : Str), ("_law_up_to" : Str), ("_law_sum" : Str), ("_law_frame" : Str), ("_law_sets" : Str), ("_law_shared" : Str), ("_law_masses" : Str), ("_law_within" : Str), ("_law_belief" : Str), ("_law_do_fit" : Str), ("_law_mean" : Str), ("_law_orders" : Str), ("_law_grown" : Str), ("_law_least" : Str)]
def loose2 : List Str := [("_law_right" : Str)]
def loose : List Str := loose0 ++ loose1 ++ loose2
abbrev R : PySem.W.OpenRow := PySem.W.OpenLaw.row PySem.Challenge.rw_heardweights_k26_whole_means_over_all_ch
abbrev hk : PySem.W.Hook := He.hookX 4 faL fnL [] tfL exB
def ob (s : PySem.W.SharedT) : He.AlX := He.obsX 4 faL fnL [] tfL exB (HandSHeadRun.getT s)
theorem ob_eq (s : PySem.W.SharedT) : ob s = hk.obs s.abs := He.obsX_eq (HandSHeadRun.getT_eq s)
theorem map3 {α β γ δ : Type} {o : Option α} {a : α → β} {b : α → γ} {c : α → δ} {x : β} {y : γ} {z : δ} (h1 : o.map a = some x) (h2 : o.map b = some y) (h3 : o.map c = some z) : o.map (fun t => (a t, b t, c t)) = some (x, y, z) := by
  cases o with
  | none => cases h1
  | some t =>
    simp only [Option.map_some, Option.some.injEq] at h1 h2 h3 ⊢
    rw [h1, h2, h3]
open PySem.W HandSHeadRun in
set_option maxHeartbeats 0 in
theorem run_b (w : World) : (HandSHeadRun.wholeF (fun p => HandSHeadRun.stepQ (HandSHeadRun.denQ HandSHeadRun.tabQ) p w) HandSHeadRun.fenceQ 6000 R.prog).map (fun x => HandSHeadRun.looksF R.prog x.1.heap x.2.abs) = some true := by
  kernel_rfl
open PySem.W HandSHeadRun in
set_option maxHeartbeats 0 in
theorem run_c (w : World) : (HandSHeadRun.wholeF (fun p => HandSHeadRun.stepQ (HandSHeadRun.denQ HandSHeadRun.tabQ) p w) HandSHeadRun.fenceQ 6000 R.prog).map (fun x => HandSHeadRun.seenQ (PySem.W.view R.prog [0, 83]) loose (importedModules R.prog.main.body) (fun s => xlAt (PySem.W.view R.prog [0, 83]) [] s && recOk R.toRowW.records s) x.2.abs) = some (openGood (PySem.W.view R.prog [0, 83]) loose) := by
  kernel_rfl
open PySem.W HandSHeadRun in
set_option maxHeartbeats 0 in
theorem run_d (w : World) : (HandSHeadRun.wholeF (fun p => HandSHeadRun.stepQ (HandSHeadRun.denQ HandSHeadRun.tabQ) p w) HandSHeadRun.fenceQ 6000 R.prog).map (fun x => ob x.2) = some (hk.val w) := by
  kernel_rfl
theorem run (w : World) : HandSHeadRun.RunEqI R (PySem.W.view R.prog [0, 83]) hk ob 6000 loose w := by
  delta HandSHeadRun.RunEqI
  exact map3 (run_b w) (run_c w) (run_d w)
end K26
end
section
set_option linter.all false
set_option maxRecDepth 100000
set_option maxHeartbeats 4000000
namespace K26
open PySem PySem.Spec PyProof.Rows L2 PD LamX
structure Gs (K : PySem.W.Frag) (mg : Str → Option Value) (base : Heap) : Prop where
  f_abs : mg "abs" = none
  f_all : mg "all" = none
  f_bool : mg "bool" = none
  f_dict : mg "dict" = none
  f_divmod : mg "divmod" = none
  f_enumerate : mg "enumerate" = none
  f_int : mg "int" = none
  f_isinstance : mg "isinstance" = none
  f_len : mg "len" = none
  f_list : mg "list" = none
  f_max : mg "max" = none
  f_min : mg "min" = none
  f_range : mg "range" = none
  f_sorted : mg "sorted" = none
  f_str : mg "str" = none
  f_sum : mg "sum" = none
  f_tuple : mg "tuple" = none
  f_zip : mg "zip" = none
  h_gcd : mg "gcd" = some (.builtin "math.gcd")
  k_LETTERS : Cst K mg "LETTERS" c_LETTERS
  k_MOST_LETTERS : Cst K mg "MOST_LETTERS" c_MOST_LETTERS
  k_MOST_THINGS : Cst K mg "MOST_THINGS" c_MOST_THINGS
  k_MOST_WORTH : Cst K mg "MOST_WORTH" c_MOST_WORTH
  k_NOTHING : Cst K mg "NOTHING" c_NOTHING
  k_WHOLE : Cst K mg "WHOLE" c_WHOLE
  k_WORDS : CstT K mg "WORDS" c_WORDS
  g_is_whole : mg "is_whole" = some (.ref (He.ga K "is_whole"))
  d_is_whole : ∃ fd, FunD K "is_whole" "is_whole" (defArgs s_is_whole) (defBody s_is_whole) (defScope s_is_whole) [] [] (He.ga K "is_whole") fd
  g_is_between : mg "is_between" = some (.ref (He.ga K "is_between"))
  d_is_between : ∃ fd, FunD K "is_between" "is_between" (defArgs s_is_between) (defBody s_is_between) (defScope s_is_between) [] [] (He.ga K "is_between") fd
  g_is_one_of : mg "is_one_of" = some (.ref (He.ga K "is_one_of"))
  d_is_one_of : ∃ fd, FunD K "is_one_of" "is_one_of" (defArgs s_is_one_of) (defBody s_is_one_of) (defScope s_is_one_of) [] [] (He.ga K "is_one_of") fd
  g_is_word : mg "is_word" = some (.ref (He.ga K "is_word"))
  d_is_word : ∃ fd, FunD K "is_word" "is_word" (defArgs s_is_word) (defBody s_is_word) (defScope s_is_word) [] [] (He.ga K "is_word") fd
  g_is_name : mg "is_name" = some (.ref (He.ga K "is_name"))
  d_is_name : ∃ fd, FunD K "is_name" "is_name" (defArgs s_is_name) (defBody s_is_name) (defScope s_is_name) [] [] (He.ga K "is_name") fd
  g_is_tuple_of : mg "is_tuple_of" = some (.ref (He.ga K "is_tuple_of"))
  d_is_tuple_of : ∃ fd, FunD K "is_tuple_of" "is_tuple_of" (defArgs s_is_tuple_of) (defBody s_is_tuple_of) (defScope s_is_tuple_of) [] [] (He.ga K "is_tuple_of") fd
  g_is_pair : mg "is_pair" = some (.ref (He.ga K "is_pair"))
  d_is_pair : ∃ fd, FunD K "is_pair" "is_pair" (defArgs s_is_pair) (defBody s_is_pair) (defScope s_is_pair) [] [] (He.ga K "is_pair") fd
  g_wrong_in : mg "wrong_in" = some (.ref (He.ga K "wrong_in"))
  d_wrong_in : ∃ fd, FunD K "wrong_in" "wrong_in" (defArgs s_wrong_in) (defBody s_wrong_in) (defScope s_wrong_in) [] [] (He.ga K "wrong_in") fd
  g_wrong_in_all : mg "wrong_in_all" = some (.ref (He.ga K "wrong_in_all"))
  d_wrong_in_all : ∃ fd, FunD K "wrong_in_all" "wrong_in_all" (defArgs s_wrong_in_all) (defBody s_wrong_in_all) (defScope s_wrong_in_all) [] [] (He.ga K "wrong_in_all") fd
  g_are_below : mg "are_below" = some (.ref (He.ga K "are_below"))
  d_are_below : ∃ fd, FunD K "are_below" "are_below" (defArgs s_are_below) (defBody s_are_below) (defScope s_are_below) [] [] (He.ga K "are_below") fd
  g_is_set_of_names : mg "is_set_of_names" = some (.ref (He.ga K "is_set_of_names"))
  d_is_set_of_names : ∃ fd, FunD K "is_set_of_names" "is_set_of_names" (defArgs s_is_set_of_names) (defBody s_is_set_of_names) (defScope s_is_set_of_names) [] [] (He.ga K "is_set_of_names") fd
  g_lowest : mg "lowest" = some (.ref (He.ga K "lowest"))
  d_lowest : ∃ fd, FunD K "lowest" "lowest" (defArgs s_lowest) (defBody s_lowest) (defScope s_lowest) [] [] (He.ga K "lowest") fd
  g_is_fraction : mg "is_fraction" = some (.ref (He.ga K "is_fraction"))
  d_is_fraction : ∃ fd, FunD K "is_fraction" "is_fraction" (defArgs s_is_fraction) (defBody s_is_fraction) (defScope s_is_fraction) [] [] (He.ga K "is_fraction") fd
  g_plus : mg "plus" = some (.ref (He.ga K "plus"))
  d_plus : ∃ fd, FunD K "plus" "plus" (defArgs s_plus) (defBody s_plus) (defScope s_plus) [] [] (He.ga K "plus") fd
  g_total : mg "total" = some (.ref (He.ga K "total"))
  d_total : ∃ fd, FunD K "total" "total" (defArgs s_total) (defBody s_total) (defScope s_total) [] [] (He.ga K "total") fd
  g_set_order : mg "set_order" = some (.ref (He.ga K "set_order"))
  d_set_order : ∃ fd, FunD K "set_order" "set_order" (defArgs s_set_order) (defBody s_set_order) (defScope s_set_order) [] [] (He.ga K "set_order") fd
  g_wrong_in_frame : mg "wrong_in_frame" = some (.ref (He.ga K "wrong_in_frame"))
  d_wrong_in_frame : ∃ fd, FunD K "wrong_in_frame" "wrong_in_frame" (defArgs s_wrong_in_frame) (defBody s_wrong_in_frame) (defScope s_wrong_in_frame) [] [] (He.ga K "wrong_in_frame") fd
  g_is_mass : mg "is_mass" = some (.ref (He.ga K "is_mass"))
  d_is_mass : ∃ fd, FunD K "is_mass" "is_mass" (defArgs s_is_mass) (defBody s_is_mass) (defScope s_is_mass) [] [] (He.ga K "is_mass") fd
  g_wrong_in_masses : mg "wrong_in_masses" = some (.ref (He.ga K "wrong_in_masses"))
  d_wrong_in_masses : ∃ fd, FunD K "wrong_in_masses" "wrong_in_masses" (defArgs s_wrong_in_masses) (defBody s_wrong_in_masses) (defScope s_wrong_in_masses) [] [] (He.ga K "wrong_in_masses") fd
  g_is_share : mg "is_share" = some (.ref (He.ga K "is_share"))
  d_is_share : ∃ fd, FunD K "is_share" "is_share" (defArgs s_is_share) (defBody s_is_share) (defScope s_is_share) [] [] (He.ga K "is_share") fd
  g_wrong_in_chances : mg "wrong_in_chances" = some (.ref (He.ga K "wrong_in_chances"))
  d_wrong_in_chances : ∃ fd, FunD K "wrong_in_chances" "wrong_in_chances" (defArgs s_wrong_in_chances) (defBody s_wrong_in_chances) (defScope s_wrong_in_chances) [] [] (He.ga K "wrong_in_chances") fd
  g_given_to : mg "given_to" = some (.ref (He.ga K "given_to"))
  d_given_to : ∃ fd, FunD K "given_to" "given_to" (defArgs s_given_to) (defBody s_given_to) (defScope s_given_to) [] [] (He.ga K "given_to") fd
  g_check_frame : mg "check_frame" = some (.ref (He.ga K "check_frame"))
  d_check_frame : ∃ fd, FunD K "check_frame" "check_frame" (defArgs s_check_frame) (defBody s_check_frame) (defScope s_check_frame) [] [] (He.ga K "check_frame") fd
  g_check_masses : mg "check_masses" = some (.ref (He.ga K "check_masses"))
  d_check_masses : ∃ fd, FunD K "check_masses" "check_masses" (defArgs s_check_masses) (defBody s_check_masses) (defScope s_check_masses) [] [] (He.ga K "check_masses") fd
  g_check_chances : mg "check_chances" = some (.ref (He.ga K "check_chances"))
  d_check_chances : ∃ fd, FunD K "check_chances" "check_chances" (defArgs s_check_chances) (defBody s_check_chances) (defScope s_check_chances) [] [] (He.ga K "check_chances") fd
  g_is_worth : mg "is_worth" = some (.ref (He.ga K "is_worth"))
  d_is_worth : ∃ fd, FunD K "is_worth" "is_worth" (defArgs s_is_worth) (defBody s_is_worth) (defScope s_is_worth) [] [] (He.ga K "is_worth") fd
  g_wrong_in_worths : mg "wrong_in_worths" = some (.ref (He.ga K "wrong_in_worths"))
  d_wrong_in_worths : ∃ fd, FunD K "wrong_in_worths" "wrong_in_worths" (defArgs s_wrong_in_worths) (defBody s_wrong_in_worths) (defScope s_wrong_in_worths) [] [] (He.ga K "wrong_in_worths") fd
  g_mean_by : mg "mean_by" = some (.ref (He.ga K "mean_by"))
  d_mean_by : ∃ fd, FunD K "mean_by" "mean_by" (defArgs s_mean_by) (defBody s_mean_by) (defScope s_mean_by) [] [] (He.ga K "mean_by") fd
  g_least_of : mg "least_of" = some (.ref (He.ga K "least_of"))
  d_least_of : ∃ fd, FunD K "least_of" "least_of" (defArgs s_least_of) (defBody s_least_of) (defScope s_least_of) [] [] (He.ga K "least_of") fd
  g_greatest_of : mg "greatest_of" = some (.ref (He.ga K "greatest_of"))
  d_greatest_of : ∃ fd, FunD K "greatest_of" "greatest_of" (defArgs s_greatest_of) (defBody s_greatest_of) (defScope s_greatest_of) [] [] (He.ga K "greatest_of") fd
  g_least_mean : mg "least_mean" = some (.ref (He.ga K "least_mean"))
  d_least_mean : ∃ fd, FunD K "least_mean" "least_mean" (defArgs s_least_mean) (defBody s_least_mean) (defScope s_least_mean) [] [] (He.ga K "least_mean") fd
  g_greatest_mean : mg "greatest_mean" = some (.ref (He.ga K "greatest_mean"))
  d_greatest_mean : ∃ fd, FunD K "greatest_mean" "greatest_mean" (defArgs s_greatest_mean) (defBody s_greatest_mean) (defScope s_greatest_mean) [] [] (He.ga K "greatest_mean") fd
  g_check_worths : mg "check_worths" = some (.ref (He.ga K "check_worths"))
  d_check_worths : ∃ fd, FunD K "check_worths" "check_worths" (defArgs s_check_worths) (defBody s_check_worths) (defScope s_check_worths) [] [] (He.ga K "check_worths") fd
  g_check_worth : mg "check_worth" = some (.ref (He.ga K "check_worth"))
  d_check_worth : ∃ fd, FunD K "check_worth" "check_worth" (defArgs s_check_worth) (defBody s_check_worth) (defScope s_check_worth) [] [] (He.ga K "check_worth") fd
  g_least_worth : mg "least_worth" = some (.ref (He.ga K "least_worth"))
  d_least_worth : ∃ fd, FunD K "least_worth" "least_worth" (defArgs s_least_worth) (defBody s_least_worth) (defScope s_least_worth) [] [] (He.ga K "least_worth") fd
  g_greatest_worth : mg "greatest_worth" = some (.ref (He.ga K "greatest_worth"))
  d_greatest_worth : ∃ fd, FunD K "greatest_worth" "greatest_worth" (defArgs s_greatest_worth) (defBody s_greatest_worth) (defScope s_greatest_worth) [] [] (He.ga K "greatest_worth") fd
  g_mean_of : mg "mean_of" = some (.ref (He.ga K "mean_of"))
  d_mean_of : ∃ fd, FunD K "mean_of" "mean_of" (defArgs s_mean_of) (defBody s_mean_of) (defScope s_mean_of) [] [] (He.ga K "mean_of") fd
  g_law_voice : mg "_law_voice" = some (.ref (He.ga K "_law_voice"))
  d_law_voice : ∃ fd, FunD K "_law_voice" "_law_voice" (defArgs s_law_voice) (defBody s_law_voice) (defScope s_law_voice) [] [] (He.ga K "_law_voice") fd
  g_law_say : mg "_law_say" = some (.ref (He.ga K "_law_say"))
  d_law_say : ∃ fd, FunD K "_law_say" "_law_say" (defArgs s_law_say) (defBody s_law_say) (defScope s_law_say) [] [] (He.ga K "_law_say") fd
  g_law_of : mg "_law_of" = some (.ref (He.ga K "_law_of"))
  d_law_of : ∃ fd, FunD K "_law_of" "_law_of" (defArgs s_law_of) (defBody s_law_of) (defScope s_law_of) [] [] (He.ga K "_law_of") fd
  g_law_same : mg "_law_same" = some (.ref (He.ga K "_law_same"))
  d_law_same : ∃ fd, FunD K "_law_same" "_law_same" (defArgs s_law_same) (defBody s_law_same) (defScope s_law_same) [] [] (He.ga K "_law_same") fd
  g_law_low : mg "_law_low" = some (.ref (He.ga K "_law_low"))
  d_law_low : ∃ fd, FunD K "_law_low" "_law_low" (defArgs s_law_low) (defBody s_law_low) (defScope s_law_low) [] [] (He.ga K "_law_low") fd
  g_law_plus : mg "_law_plus" = some (.ref (He.ga K "_law_plus"))
  d_law_plus : ∃ fd, FunD K "_law_plus" "_law_plus" (defArgs s_law_plus) (defBody s_law_plus) (defScope s_law_plus) [] [] (He.ga K "_law_plus") fd
  g_law_less : mg "_law_less" = some (.ref (He.ga K "_law_less"))
  d_law_less : ∃ fd, FunD K "_law_less" "_law_less" (defArgs s_law_less) (defBody s_law_less) (defScope s_law_less) [] [] (He.ga K "_law_less") fd
  g_law_times : mg "_law_times" = some (.ref (He.ga K "_law_times"))
  d_law_times : ∃ fd, FunD K "_law_times" "_law_times" (defArgs s_law_times) (defBody s_law_times) (defScope s_law_times) [] [] (He.ga K "_law_times") fd
  g_law_up_to : mg "_law_up_to" = some (.ref (He.ga K "_law_up_to"))
  d_law_up_to : ∃ fd, FunD K "_law_up_to" "_law_up_to" (defArgs s_law_up_to) (defBody s_law_up_to) (defScope s_law_up_to) [] [] (He.ga K "_law_up_to") fd
  g_law_sum : mg "_law_sum" = some (.ref (He.ga K "_law_sum"))
  d_law_sum : ∃ fd, FunD K "_law_sum" "_law_sum" (defArgs s_law_sum) (defBody s_law_sum) (defScope s_law_sum) [] [] (He.ga K "_law_sum") fd
  g_law_frame : mg "_law_frame" = some (.ref (He.ga K "_law_frame"))
  d_law_frame : ∃ fd, FunD K "_law_frame" "_law_frame" (defArgs s_law_frame) (defBody s_law_frame) (defScope s_law_frame) [] [] (He.ga K "_law_frame") fd
  g_law_sets : mg "_law_sets" = some (.ref (He.ga K "_law_sets"))
  d_law_sets : ∃ fd, FunD K "_law_sets" "_law_sets" (defArgs s_law_sets) (defBody s_law_sets) (defScope s_law_sets) [] [] (He.ga K "_law_sets") fd
  g_law_shared : mg "_law_shared" = some (.ref (He.ga K "_law_shared"))
  d_law_shared : ∃ fd, FunD K "_law_shared" "_law_shared" (defArgs s_law_shared) (defBody s_law_shared) (defScope s_law_shared) [] [] (He.ga K "_law_shared") fd
  g_law_masses : mg "_law_masses" = some (.ref (He.ga K "_law_masses"))
  d_law_masses : ∃ fd, FunD K "_law_masses" "_law_masses" (defArgs s_law_masses) (defBody s_law_masses) (defScope s_law_masses) [] [] (He.ga K "_law_masses") fd
  g_law_within : mg "_law_within" = some (.ref (He.ga K "_law_within"))
  d_law_within : ∃ fd, FunD K "_law_within" "_law_within" (defArgs s_law_within) (defBody s_law_within) (defScope s_law_within) [] [] (He.ga K "_law_within") fd
  g_law_belief : mg "_law_belief" = some (.ref (He.ga K "_law_belief"))
  d_law_belief : ∃ fd, FunD K "_law_belief" "_law_belief" (defArgs s_law_belief) (defBody s_law_belief) (defScope s_law_belief) [] [] (He.ga K "_law_belief") fd
  g_law_do_fit : mg "_law_do_fit" = some (.ref (He.ga K "_law_do_fit"))
  d_law_do_fit : ∃ fd, FunD K "_law_do_fit" "_law_do_fit" (defArgs s_law_do_fit) (defBody s_law_do_fit) (defScope s_law_do_fit) [] [] (He.ga K "_law_do_fit") fd
  g_law_mean : mg "_law_mean" = some (.ref (He.ga K "_law_mean"))
  d_law_mean : ∃ fd, FunD K "_law_mean" "_law_mean" (defArgs s_law_mean) (defBody s_law_mean) (defScope s_law_mean) [] [] (He.ga K "_law_mean") fd
  g_law_orders : mg "_law_orders" = some (.ref (He.ga K "_law_orders"))
  d_law_orders : ∃ fd, FunD K "_law_orders" "_law_orders" (defArgs s_law_orders) (defBody s_law_orders) (defScope s_law_orders) [] [] (He.ga K "_law_orders") fd
  g_law_grown : mg "_law_grown" = some (.ref (He.ga K "_law_grown"))
  d_law_grown : ∃ fd, FunD K "_law_grown" "_law_grown" (defArgs s_law_grown) (defBody s_law_grown) (defScope s_law_grown) [] [] (He.ga K "_law_grown") fd
  g_law_least : mg "_law_least" = some (.ref (He.ga K "_law_least"))
  d_law_least : ∃ fd, FunD K "_law_least" "_law_least" (defArgs s_law_least) (defBody s_law_least) (defScope s_law_least) [] [] (He.ga K "_law_least") fd
  g_law_right : mg "_law_right" = some (.ref (He.ga K "_law_right"))
  d_law_right : ∃ fd, FunD K "_law_right" "_law_right" (defArgs s_law_right) (defBody s_law_right) (defScope s_law_right) [] [] (He.ga K "_law_right") fd
  g_law : mg "law" = some (.ref (He.ga K "law"))
  d_law : ∃ fd, FunD K "law" "law" (defArgs s_law) (defBody s_law) (defScope s_law) [] [] (He.ga K "law") fd
  c_wrong_in_all : codeV K (He.ga K "wrong_in_all") = .ref (He.codeOf K ("wrong_in_all", none))
  t_wrong_in_all : TabB base mg (He.codeOf K ("wrong_in_all", none)) (tabP K "wrong_in_all")
  m_wrong_in_all : (tabP K "wrong_in_all", ("wrong_in_all" : Str) ++ ".<locals>." ++ "<lambda>") ∈ TT K
  c_is_set_of_names : codeV K (He.ga K "is_set_of_names") = .ref (He.codeOf K ("is_set_of_names", none))
  t_is_set_of_names : TabB base mg (He.codeOf K ("is_set_of_names", none)) (tabP K "is_set_of_names")
  m_is_set_of_names : (tabP K "is_set_of_names", ("is_set_of_names" : Str) ++ ".<locals>." ++ "<lambda>") ∈ TT K
  c_wrong_in_frame : codeV K (He.ga K "wrong_in_frame") = .ref (He.codeOf K ("wrong_in_frame", none))
  t_wrong_in_frame : TabB base mg (He.codeOf K ("wrong_in_frame", none)) (tabP K "wrong_in_frame")
  m_wrong_in_frame : (tabP K "wrong_in_frame", ("wrong_in_frame" : Str) ++ ".<locals>." ++ "<lambda>") ∈ TT K
  c_wrong_in_masses : codeV K (He.ga K "wrong_in_masses") = .ref (He.codeOf K ("wrong_in_masses", none))
  t_wrong_in_masses : TabB base mg (He.codeOf K ("wrong_in_masses", none)) (tabP K "wrong_in_masses")
  m_wrong_in_masses : (tabP K "wrong_in_masses", ("wrong_in_masses" : Str) ++ ".<locals>." ++ "<lambda>") ∈ TT K
  c_least_of : codeV K (He.ga K "least_of") = .ref (He.codeOf K ("least_of", none))
  t_least_of : TabB base mg (He.codeOf K ("least_of", none)) (tabP K "least_of")
  m_least_of : (tabP K "least_of", ("least_of" : Str) ++ ".<locals>." ++ "<lambda>") ∈ TT K
  u : TU (TT K)
noncomputable def m_is_whole : MS := sRet B0 (eAnd (eIs isInt (eVar 0)) (eNot (eIs isBool (eVar 0))))
noncomputable def F_is_whole : FD := bodyF 0 m_is_whole
noncomputable def m_is_between : MS := sRet B0 (eAnd (eCall 1 F_is_whole (rV (eVar 0) (rN))) (e3 gLe gLe (eVar 1) (eVar 0) (eVar 2)))
noncomputable def F_is_between : FD := bodyF 0 m_is_between
noncomputable def m_is_one_of : MS := sRet B0 (eAnd (eIs isStr (eVar 0)) (e2 gIn (eVar 0) (eVar 1)))
noncomputable def F_is_one_of : FD := bodyF 0 m_is_one_of
noncomputable def m_is_word : MS := sRet B0 (eAnd (eIs isStr (eVar 0)) (eAnd (e2 gNe (eVar 0) (eC (.str ""))) (eL (gl1 gAll) (aC (eF (mLc true (anyItems (eVar 0)) [1] (gcN 1) (tTrue) (e2 gIn (eVar 1) (eC c_LETTERS)))) (aN)))))
noncomputable def F_is_word : FD := bodyF 1 m_is_word
noncomputable def m_is_name : MS := sRet B0 (eAnd (eCall 1 F_is_word (rV (eVar 0) (rN))) (eAnd (e2 gLe (eL (gl1 gLen) (aC (eVar 0) (aN))) (eC c_MOST_LETTERS)) (e2 gNotIn (eVar 0) (eC c_WORDS))))
noncomputable def F_is_name : FD := bodyF 0 m_is_name
noncomputable def m_is_tuple_of : MS := sRet B0 (eAnd (eIs isTup (eVar 0)) (e2 gEq (eL (gl1 gLen) (aC (eVar 0) (aN))) (eVar 1)))
noncomputable def F_is_tuple_of : FD := bodyF 0 m_is_tuple_of
noncomputable def m_is_pair : MS := sRet B0 (eCall 2 F_is_tuple_of (rV (eVar 0) (rV (eC (.int 2)) (rN))))
noncomputable def F_is_pair : FD := bodyF 0 m_is_pair
noncomputable def m_wrong_in : MS := sSeq (sIf (tOr (tNot (tV (eIs isTup (eVar 0)))) (tV (e2 gLt (eL (gl1 gLen) (aC (eVar 0) (aN))) (eVar 1)))) (sRet B0 (eL gLst (aC (eC .none) (aN)))) (sNil)) (sSeq (sFor (enumTI (aC (eVar 0) (aN))) (gT 2 (gsC (gN 4) (gsC (gN 5) (gsN)))) (sIf (tOr (tV (e2 gEq (eVar 4) (eVar 2))) (tNot (tV (eFn 3 (aC (eSl (eVar 0) (pN) (pS (eVar 4))) (aC (eVar 5) (aN))))))) (sRet B0 (eL gLst (aC (eVar 4) (aN)))) (sNil))) (sRet B0 (eL gLst (aN))))
noncomputable def F_wrong_in : FD := bodyF 2 m_wrong_in
noncomputable def m_wrong_in_all : MS := sRet B0 (eIf (tV (eCall 2 F_is_tuple_of (rV (eVar 0) (rV (eVar 1) (rN))))) (eHo 4 F_wrong_in (lC (eVar 0) (lC (eVar 1) (lC (eVar 1) (lLam 2 0 [2] (eFn 2 (aC (eVar 1) (aN)))))))) (eL gLst (aC (eC .none) (aN))))
noncomputable def F_wrong_in_all : FD := bodyF 0 m_wrong_in_all
noncomputable def m_are_below : MS := sRet B0 (eOr (e2 gEq (eVar 0) (eL gTup (aN))) (e2 gLt (e2 gIx (eVar 0) (e1 gNeg (eC (.int 1)))) (eVar 1)))
noncomputable def F_are_below : FD := bodyF 0 m_are_below
noncomputable def m_is_set_of_names : MS := sRet B0 (e2 gEq (eHo 4 F_wrong_in (lC (eVar 0) (lC (eC (.int 0)) (lC (eL (gl1 gLen) (aC (eVar 1) (aN))) (lLam 2 0 [1] (eAnd (eCall 2 F_is_one_of (rV (eVar 1) (rV (eVar 2) (rN)))) (eCall 2 F_are_below (rV (eVar 0) (rV (eVar 1) (rN)))))))))) (eL gLst (aN)))
noncomputable def F_is_set_of_names : FD := bodyF 0 m_is_set_of_names
noncomputable def m_lowest : MS := sSeq (sAs (eIf (tV (e2 gGt (eVar 1) (eC (.int 0)))) (eL (gl2 gGcd) (aC (eVar 0) (aC (eVar 1) (aN)))) (e1 gNeg (eL (gl2 gGcd) (aC (eVar 0) (aC (eVar 1) (aN)))))) (gN 2)) (sRet B0 (eL gTup (aC (e2 gDiv (eVar 0) (eVar 2)) (aC (e2 gDiv (eVar 1) (eVar 2)) (aN)))))
noncomputable def F_lowest : FD := bodyF 1 m_lowest
noncomputable def m_is_fraction : MS := sSeq (sIf (tOr (tNot (tV (eCall 1 F_is_pair (rV (eVar 0) (rN))))) (tNot (tV (eL (gl1 gAll) (aC (eF (mLc true (anyItems (eVar 0)) [1] (gcN 1) (tTrue) (eCall 1 F_is_whole (rV (eVar 1) (rN))))) (aN)))))) (sRet B0 (eC (.bool false))) (sNil)) (sRet B0 (eAnd (e2 gGt (e2 gIx (eVar 0) (eC (.int 1))) (eC (.int 0))) (e2 gEq (eL (gl2 gGcd) (aC (e2 gIx (eVar 0) (eC (.int 0))) (aC (e2 gIx (eVar 0) (eC (.int 1))) (aN)))) (eC (.int 1)))))
noncomputable def F_is_fraction : FD := bodyF 1 m_is_fraction
noncomputable def m_plus : MS := sRet B0 (eCall 2 F_lowest (rV (e2 gAdd (e2 gMul (e2 gIx (eVar 0) (eC (.int 0))) (e2 gIx (eVar 1) (eC (.int 1)))) (e2 gMul (e2 gIx (eVar 1) (eC (.int 0))) (e2 gIx (eVar 0) (eC (.int 1))))) (rV (e2 gMul (e2 gIx (eVar 0) (eC (.int 1))) (e2 gIx (eVar 1) (eC (.int 1)))) (rN))))
noncomputable def F_plus : FD := bodyF 0 m_plus
noncomputable def m_total : MS := sSeq (sAs (eC c_NOTHING) (gN 1)) (sSeq (sFor (anyItems (eVar 0)) (gN 2) (sAs (eCall 2 F_plus (rV (eVar 1) (rV (eVar 2) (rN)))) (gN 1))) (sRet B0 (eVar 1)))
noncomputable def F_total : FD := bodyF 2 m_total
noncomputable def m_set_order : MS := sRet B0 (eL gTup (aC (eL (gl1 gLen) (aC (eVar 0) (aN))) (aC (eVar 0) (aN))))
noncomputable def F_set_order : FD := bodyF 0 m_set_order
noncomputable def m_wrong_in_frame : MS := sRet B0 (eHo 4 F_wrong_in (lC (eVar 0) (lC (eC (.int 1)) (lC (eC c_MOST_THINGS) (lLam 2 0 [] (eAnd (eCall 1 F_is_name (rV (eVar 1) (rN))) (eCall 2 F_are_below (rV (eVar 0) (rV (eVar 1) (rN))))))))))
noncomputable def F_wrong_in_frame : FD := bodyF 0 m_wrong_in_frame
noncomputable def m_is_mass : MS := sSeq (sIf (tOr (tNot (tV (eCall 1 F_is_pair (rV (eVar 1) (rN))))) (tOr (tNot (tV (eCall 2 F_is_set_of_names (rV (e2 gIx (eVar 1) (eC (.int 0))) (rV (eVar 0) (rN)))))) (tV (e2 gEq (e2 gIx (eVar 1) (eC (.int 0))) (eL gTup (aN)))))) (sRet B0 (eC (.bool false))) (sNil)) (sRet B0 (eAnd (eCall 1 F_is_fraction (rV (e2 gIx (eVar 1) (eC (.int 1))) (rN))) (e2 gGt (e2 gIx (e2 gIx (eVar 1) (eC (.int 1))) (eC (.int 0))) (eC (.int 0)))))
noncomputable def F_is_mass : FD := bodyF 0 m_is_mass
noncomputable def m_wrong_in_masses : MS := sSeq (sAs (eHo 4 F_wrong_in (lC (eVar 1) (lC (eC (.int 0)) (lC (eC .none) (lLam 2 0 [0] (eAnd (eCall 2 F_is_mass (rV (eVar 2) (rV (eVar 1) (rN)))) (eOr (e2 gEq (eVar 0) (eL gTup (aN))) (e2 (gCmpD PySem.W.dataLt) (eCall 1 F_set_order (rV (e2 gIx (e2 gIx (eVar 0) (e1 gNeg (eC (.int 1)))) (eC (.int 0))) (rN))) (eCall 1 F_set_order (rV (e2 gIx (eVar 1) (eC (.int 0))) (rN))))))))))) (gN 2)) (sSeq (sIf (tV (e2 gNe (eVar 2) (eL gLst (aN)))) (sRet B0 (eVar 2)) (sNil)) (sRet B0 (eIf (tV (e2 gEq (eCall 1 F_total (rV (eF (mLc true (anyItems (eVar 1)) [3, 4] (gT 2 (gsC (gcN 3) (gsC (gcN 4) (gsN)))) (tTrue) (eVar 4))) (rN))) (eC c_WHOLE))) (eL gLst (aN)) (eL gLst (aC (eC .none) (aN))))))
noncomputable def F_wrong_in_masses : FD := bodyF 3 m_wrong_in_masses
noncomputable def m_is_share : MS := sRet B0 (eAnd (eCall 1 F_is_fraction (rV (eVar 0) (rN))) (e2 gGe (e2 gIx (eVar 0) (eC (.int 0))) (eC (.int 0))))
noncomputable def F_is_share : FD := bodyF 0 m_is_share
noncomputable def m_wrong_in_chances : MS := sSeq (sAs (eHo 3 F_wrong_in_all (lC (eVar 1) (lC (eL (gl1 gLen) (aC (eVar 0) (aN))) (lFn (fnG 1 F_is_share))))) (gN 2)) (sSeq (sIf (tV (e2 gNe (eVar 2) (eL gLst (aN)))) (sRet B0 (eVar 2)) (sNil)) (sRet B0 (eIf (tV (e2 gEq (eCall 1 F_total (rV (eVar 1) (rN))) (eC c_WHOLE))) (eL gLst (aN)) (eL gLst (aC (eC .none) (aN))))))
noncomputable def F_wrong_in_chances : FD := bodyF 1 m_wrong_in_chances
noncomputable def m_given_to : MS := sSeq (sNewC 3 (nDcK 6 (eVar 0) c_NOTHING)) (sSeq (sFor (anyItems (eVar 1)) (gT 2 (gsC (gN 4) (gsC (gN 5) (gsN)))) (sSeq (sAs (eFn 2 (aC (eVar 4) (aN))) (gN 6)) (sPutD 3 (eVar 6) (eCall 2 F_plus (rV (eGetD 3 (eVar 6)) (rV (eVar 5) (rN))))))) (sRet B0 (eL (gl1 gTuple) (aC (eF (mLc true (anyItems (eVar 0)) [6] (gcN 6) (tTrue) (eGetD 3 (eVar 6)))) (aN)))))
noncomputable def F_given_to : FD := bodyF 4 m_given_to
noncomputable def m_check_frame : MS := sFor (anyItems (eCall 1 F_wrong_in_frame (rV (eVar 0) (rN)))) (gN 1) (sNever)
noncomputable def F_check_frame : FD := bodyF 1 m_check_frame
noncomputable def m_check_masses : MS := sSeq (sEx (eCall 1 F_check_frame (rV (eVar 0) (rN)))) (sFor (anyItems (eCall 2 F_wrong_in_masses (rV (eVar 0) (rV (eVar 1) (rN))))) (gN 2) (sNever))
noncomputable def F_check_masses : FD := bodyF 1 m_check_masses
noncomputable def m_check_chances : MS := sFor (anyItems (eCall 2 F_wrong_in_chances (rV (eVar 0) (rV (eVar 1) (rN))))) (gN 2) (sNever)
noncomputable def F_check_chances : FD := bodyF 1 m_check_chances
noncomputable def m_is_worth : MS := sRet B0 (eCall 3 F_is_between (rV (eVar 0) (rV (e1 gNeg (eC c_MOST_WORTH)) (rV (eC c_MOST_WORTH) (rN)))))
noncomputable def F_is_worth : FD := bodyF 0 m_is_worth
noncomputable def m_wrong_in_worths : MS := sRet B0 (eHo 3 F_wrong_in_all (lC (eVar 1) (lC (eL (gl1 gLen) (aC (eVar 0) (aN))) (lFn (fnG 1 F_is_worth)))))
noncomputable def F_wrong_in_worths : FD := bodyF 0 m_wrong_in_worths
noncomputable def m_mean_by : MS := sRet B0 (eCall 1 F_total (rV (eF (mLc true (zipItems (aC (eVar 0) (aC (eVar 1) (aN)))) [2, 3] (gT 2 (gsC (gcN 2) (gsC (gcN 3) (gsN)))) (tTrue) (eCall 2 F_lowest (rV (e2 gMul (e2 gIx (eVar 2) (eC (.int 0))) (eVar 3)) (rV (e2 gIx (eVar 2) (eC (.int 1))) (rN)))))) (rN)))
noncomputable def F_mean_by : FD := bodyF 2 m_mean_by
noncomputable def m_least_of : MS := sSeq (sAs (eN (nDzip2 (aC (eVar 0) (aC (eVar 2) (aN))))) (gN 3)) (sRet B0 (eHo 3 F_given_to (lC (eVar 0) (lC (eVar 1) (lLam 1 1 [3] (e2 gIx (eL (gl1 (gBest PySem.W.minD)) (aC (eF (mLc true (anyItems (eVar 0)) [2] (gcN 2) (tTrue) (eL gTup (aC (e2 gDGet (eVar 1) (eVar 2)) (aC (eVar 2) (aN)))))) (aN))) (eC (.int 1))))))))
noncomputable def F_least_of : FD := bodyF 2 m_least_of
noncomputable def m_greatest_of : MS := sRet B0 (eCall 3 F_least_of (rV (eVar 0) (rV (eVar 1) (rV (eF (mLc true (anyItems (eVar 2)) [3] (gcN 3) (tTrue) (e1 gNeg (eVar 3)))) (rN)))))
noncomputable def F_greatest_of : FD := bodyF 1 m_greatest_of
noncomputable def m_least_mean : MS := sRet B0 (eCall 2 F_mean_by (rV (eCall 3 F_least_of (rV (eVar 0) (rV (eVar 1) (rV (eVar 2) (rN))))) (rV (eVar 2) (rN))))
noncomputable def F_least_mean : FD := bodyF 0 m_least_mean
noncomputable def m_greatest_mean : MS := sRet B0 (eCall 2 F_mean_by (rV (eCall 3 F_greatest_of (rV (eVar 0) (rV (eVar 1) (rV (eVar 2) (rN))))) (rV (eVar 2) (rN))))
noncomputable def F_greatest_mean : FD := bodyF 0 m_greatest_mean
noncomputable def m_check_worths : MS := sFor (anyItems (eCall 2 F_wrong_in_worths (rV (eVar 0) (rV (eVar 1) (rN))))) (gN 2) (sNever)
noncomputable def F_check_worths : FD := bodyF 1 m_check_worths
noncomputable def m_check_worth : MS := sSeq (sEx (eCall 2 F_check_masses (rV (eVar 0) (rV (eVar 1) (rN))))) (sEx (eCall 2 F_check_worths (rV (eVar 0) (rV (eVar 2) (rN)))))
noncomputable def F_check_worth : FD := bodyF 0 m_check_worth
noncomputable def m_least_worth : MS := sSeq (sEx (eCall 3 F_check_worth (rV (eVar 0) (rV (eVar 1) (rV (eVar 2) (rN)))))) (sRet B0 (eCall 3 F_least_mean (rV (eVar 0) (rV (eVar 1) (rV (eVar 2) (rN))))))
noncomputable def F_least_worth : FD := bodyF 0 m_least_worth
noncomputable def m_greatest_worth : MS := sSeq (sEx (eCall 3 F_check_worth (rV (eVar 0) (rV (eVar 1) (rV (eVar 2) (rN)))))) (sRet B0 (eCall 3 F_greatest_mean (rV (eVar 0) (rV (eVar 1) (rV (eVar 2) (rN))))))
noncomputable def F_greatest_worth : FD := bodyF 0 m_greatest_worth
noncomputable def m_mean_of : MS := sSeq (sEx (eCall 1 F_check_frame (rV (eVar 0) (rN)))) (sSeq (sEx (eCall 2 F_check_chances (rV (eVar 0) (rV (eVar 1) (rN))))) (sSeq (sEx (eCall 2 F_check_worths (rV (eVar 0) (rV (eVar 2) (rN))))) (sRet B0 (eCall 2 F_mean_by (rV (eVar 1) (rV (eVar 2) (rN)))))))
noncomputable def F_mean_of : FD := bodyF 0 m_mean_of
noncomputable def m_law_voice : List Slot → Option (List D) := fSeq (sAs (eIf (tV (e2 gLt (eVar 1) (eL (gl1 gLen) (aC (eVar 0) (aN))))) (eL (gl1 gInt) (aC (e2 gIx (eVar 0) (eVar 1)) (aN))) (eC (.int 0))) (gN 2)) (fSeq (sAs (e2 gAdd (eC (.int 3083)) (e2 gMul (eC (.int 1459)) (eVar 1))) (gN 3)) (fSeq (sFor (anyItems (e2 gAdd (eSl (eVar 0) (pN) (pS (eC (.int 9)))) (eL gLst (aC (eVar 2) (aN))))) (gN 4) (sAs (e2 gMod (eL (gl1 gInt) (aC (e2 gAdd (e2 gAdd (e2 gMul (eVar 3) (eC (.int 33599))) (e2 gMod (eL (gl1 gInt) (aC (eVar 4) (aN))) (eC (.int 2147482763)))) (eC (.int 101))) (aN))) (eC (.int 2147483029))) (gN 3))) (fRet (mLst (aC (eIf (tOr (tV (e2 gLt (eVar 2) (eC (.int 0)))) (tV (e2 gGe (eVar 2) (e2 gPow (eC (.int 10)) (eC (.int 16)))))) (e2 gMod (eL (gl1 gAbs) (aC (eVar 2) (aN))) (e2 gPow (eC (.int 10)) (eC (.int 60)))) (eC (.int 0))) (aC (eVar 3) (aC (eC (.int 0)) (aN))))))))
noncomputable def F_law_voice : FDF := bodyFF 3 m_law_voice
noncomputable def m_law_say : MS := sSeq (sIf (tV (e2 gGt (e2 gIx (eOwn 0) (eC (.int 0))) (eC (.int 0)))) (sSeq (sAsF (eL (gl2 gDivmod) (aC (e2 gIx (eOwn 0) (eC (.int 0))) (aC (eVar 1) (aN)))) (gT 2 (gsC (gPut 0 (eC (.int 0))) (gsC (gN 2) (gsN))))) (sRet B0 (eVar 2))) (sNil)) (sSeq (sAsF (e2 gAdd (e2 gIx (eOwn 0) (eC (.int 2))) (eC (.int 1))) (gPut 0 (eC (.int 2)))) (sSeq (sAsF (e2 gMod (eL (gl1 gInt) (aC (e2 gAdd (e2 gAdd (e2 gMul (e2 gIx (eOwn 0) (eC (.int 1))) (e2 gAdd (e2 gMod (eL (gl1 gInt) (aC (e2 gIx (eOwn 0) (eC (.int 1))) (aN))) (eC (.int 9973))) (eC (.int 31013)))) (e2 gMul (eC (.int 10091)) (e2 gIx (eOwn 0) (eC (.int 2))))) (eC (.int 113))) (aN))) (eC (.int 2147483029))) (gPut 0 (eC (.int 1)))) (sRet (Bs [0]) (e2 gMod (eL (gl1 gInt) (aC (e2 gDiv (e2 gIx (eOwn 0) (eC (.int 1))) (eC (.int 421))) (aN))) (eVar 1)))))
noncomputable def F_law_say : FD := bodyF 1 m_law_say
noncomputable def m_law_of : MS := sRet B0 (e2 gIx (eVar 1) (eCall 2 F_law_say (rL B0 0 (rV (eL (gl1 gLen) (aC (eVar 1) (aN))) (rN)))))
noncomputable def F_law_of : FD := bodyF 0 m_law_of
noncomputable def m_law_same (Fs : FD) : MS := sSeq (sIf (tOr (tV (eIs isTup (eVar 1))) (tV (eIs isLst (eVar 1)))) (sSeq (sIf (tOr (tV (e2 gNe (eIs isTup (eVar 0)) (eIs isTup (eVar 1)))) (tV (e2 gNe (eIs isLst (eVar 0)) (eIs isLst (eVar 1))))) (sRet B0 (eC (.bool false))) (sNil)) (sRet B0 (eAnd (e2 gEq (eL (gl1 gLen) (aC (eVar 0) (aN))) (eL (gl1 gLen) (aC (eVar 1) (aN)))) (eL (gl1 gAll) (aC (eF (mLc true (zipItems (aC (eVar 0) (aC (eVar 1) (aN)))) [2, 3] (gT 2 (gsC (gcN 2) (gsC (gcN 3) (gsN)))) (tTrue) (eCall 2 Fs (rV (eVar 2) (rV (eVar 3) (rN)))))) (aN)))))) (sNil)) (sSeq (sIf (tV (e1 gIsN (eVar 1))) (sRet B0 (e1 gIsN (eVar 0))) (sNil)) (sSeq (sIf (tV (eIs isInt (eVar 1))) (sRet B0 (eAnd (eIs isInt (eVar 0)) (eAnd (e2 gEq (eIs isBool (eVar 0)) (eIs isBool (eVar 1))) (e2 gEq (eVar 0) (eVar 1))))) (sNil)) (sRet B0 (eAnd (eIs isStr (eVar 1)) (eAnd (eIs isStr (eVar 0)) (e2 gEq (eVar 0) (eVar 1)))))))
noncomputable def Fr_law_same : Nat → FD
  | 0 => fun _ _ => none
  | i + 1 => bodyF 2 (m_law_same (Fr_law_same i))
noncomputable abbrev F_law_same : FD := Fr_law_same 6
noncomputable def m_law_low : MS := sSeq (sPar B0 2 3 (aC (eL (gl1 gAbs) (aC (eVar 0) (aN))) (aC (eL (gl1 gAbs) (aC (eVar 1) (aN))) (aN)))) (sSeq (sWhile (tV (e2 gGt (eVar 3) (eC (.int 0)))) (sPar B0 2 3 (aC (eVar 3) (aC (e2 gMod (eL (gl1 gInt) (aC (eVar 2) (aN))) (eVar 3)) (aN))))) (sSeq (sAs (eIf (tV (e2 gGt (eVar 1) (eC (.int 0)))) (eVar 2) (e2 gSub (eC (.int 0)) (eVar 2))) (gN 2)) (sRet B0 (eL gTup (aC (e2 gDiv (eVar 0) (eVar 2)) (aC (e2 gDiv (eVar 1) (eVar 2)) (aN)))))))
noncomputable def F_law_low : FD := bodyF 2 m_law_low
noncomputable def m_law_plus : MS := sRet B0 (eCall 2 F_law_low (rV (e2 gAdd (e2 gMul (e2 gIx (eVar 0) (eC (.int 0))) (e2 gIx (eVar 1) (eC (.int 1)))) (e2 gMul (e2 gIx (eVar 1) (eC (.int 0))) (e2 gIx (eVar 0) (eC (.int 1))))) (rV (e2 gMul (e2 gIx (eVar 0) (eC (.int 1))) (e2 gIx (eVar 1) (eC (.int 1)))) (rN))))
noncomputable def F_law_plus : FD := bodyF 0 m_law_plus
noncomputable def m_law_less : MS := sRet B0 (eCall 2 F_law_low (rV (e2 gSub (e2 gMul (e2 gIx (eVar 0) (eC (.int 0))) (e2 gIx (eVar 1) (eC (.int 1)))) (e2 gMul (e2 gIx (eVar 1) (eC (.int 0))) (e2 gIx (eVar 0) (eC (.int 1))))) (rV (e2 gMul (e2 gIx (eVar 0) (eC (.int 1))) (e2 gIx (eVar 1) (eC (.int 1)))) (rN))))
noncomputable def F_law_less : FD := bodyF 0 m_law_less
noncomputable def m_law_times : MS := sRet B0 (eCall 2 F_law_low (rV (e2 gMul (e2 gIx (eVar 0) (eC (.int 0))) (e2 gIx (eVar 1) (eC (.int 0)))) (rV (e2 gMul (e2 gIx (eVar 0) (eC (.int 1))) (e2 gIx (eVar 1) (eC (.int 1)))) (rN))))
noncomputable def F_law_times : FD := bodyF 0 m_law_times
noncomputable def m_law_up_to : MS := sRet B0 (e2 gLe (e2 gMul (e2 gIx (eVar 0) (eC (.int 0))) (e2 gIx (eVar 1) (eC (.int 1)))) (e2 gMul (e2 gIx (eVar 1) (eC (.int 0))) (e2 gIx (eVar 0) (eC (.int 1)))))
noncomputable def F_law_up_to : FD := bodyF 0 m_law_up_to
noncomputable def m_law_sum : MS := sSeq (sAs (eL gTup (aC (eC (.int 0)) (aC (eC (.int 1)) (aN)))) (gN 1)) (sSeq (sFor (anyItems (eVar 0)) (gN 2) (sAs (eCall 2 F_law_plus (rV (eVar 1) (rV (eVar 2) (rN)))) (gN 1))) (sRet B0 (eVar 1)))
noncomputable def F_law_sum : FD := bodyF 2 m_law_sum
noncomputable def m_law_frame : MS := sSeq (sAs (e2 gSplit (eC (.str "all act acts believe book case doubt frame hear if is join least may none not of open or quit set sets share strike")) (eC (.str " "))) (gN 2)) (sSeq (sParVC 4 5 (e2 gAdd (eVar 2) (e2 gSplit (eC (.str "tell then undo weight witness worth yes")) (eC (.str " ")))) (nL (mLst (aN)))) (sSeq (sFor (rng1 (aC (e2 gAdd (eC (.int 1)) (eCall 2 F_law_say (rL B0 0 (rV (eVar 1) (rN))))) (aN))) (gN 3) (sSeq (sAs (eC (.str "")) (gN 6)) (sSeq (sFor (rng1 (aC (e2 gAdd (eC (.int 1)) (eCall 2 F_law_of (rL B0 0 (rV (eL gLst (aC (eC (.int 0)) (aC (eC (.int 0)) (aC (eC (.int 1)) (aC (eC (.int 2)) (aC (eC (.int 7)) (aN))))))) (rN))))) (aN))) (gN 7) (sAs (e2 gAdd (eVar 6) (eCall 2 F_law_of (rL B0 0 (rV (eC (.str "abcdefghijklmnopqrstuvwxyz")) (rN))))) (gN 6))) (sSeq (sAs (eCall 2 F_law_of (rL B0 0 (rV (eL gLst (aC (eC (.str "a")) (aC (eC (.str "b")) (aC (eC (.str "frames")) (aC (eVar 6) (aC (eVar 6) (aC (eVar 6) (aC (eVar 6) (aN))))))))) (rN)))) (gN 6)) (sApp false (Bs [5]) 5 (e2 gIx (eF (mLc false (anyItems (e2 gAdd (eL gLst (aC (eVar 6) (aN))) (eF (mLc false (anyItems (eC (.str "abcdefghijklmnopqrstuvwxyz"))) [9] (gcN 9) (tTrue) (e2 gAdd (eSl (eVar 6) (pN) (pS (eC (.int 7)))) (eVar 9)))))) [8] (gcN 8) (tV (e2 gNotIn (eVar 8) (e2 gAdd (eVar 4) (eOwn 5)))) (eVar 8))) (eC (.int 0)))))))) (sRet (Bs [5]) (eL (gl1 gTuple) (aC (eL (gl1 gSort) (aC (eOwn 5) (aN))) (aN))))))
noncomputable def F_law_frame : FD := bodyF 8 m_law_frame
noncomputable def m_law_sets : MS := sSeq (sAs (eL gLst (aC (eL gTup (aN)) (aN))) (gN 1)) (sSeq (sFor (anyItems (eVar 0)) (gN 2) (sAs (e2 gAdd (eVar 1) (eF (mLc true (anyItems (eVar 1)) [4] (gcN 4) (tTrue) (e2 gAdd (eVar 4) (eL gTup (aC (eVar 2) (aN))))))) (gN 1))) (sRet B0 (eF (mLc true (anyItems (eL (gl1 gSort) (aC (eF (mLc true (anyItems (eVar 1)) [4] (gcN 4) (tTrue) (eL gTup (aC (eL (gl1 gLen) (aC (eVar 4) (aN))) (aC (eVar 4) (aN)))))) (aN)))) [3, 4] (gT 2 (gsC (gcN 3) (gsC (gcN 4) (gsN)))) (tTrue) (eVar 4)))))
noncomputable def F_law_sets : FD := bodyF 4 m_law_sets
noncomputable def m_law_shared : MS := sSeq (sAs (eF (mLc true (rng1 (aC (eVar 1) (aN))) [3] (gcN 3) (tTrue) (e2 gAdd (eC (.int 1)) (eCall 2 F_law_say (rL B0 0 (rV (eCall 2 F_law_of (rL B0 0 (rV (eL gLst (aC (eC (.int 1)) (aC (eC (.int 2)) (aC (eC (.int 4)) (aC (eC (.int 9)) (aN)))))) (rN)))) (rN))))))) (gN 2)) (sRet B0 (eF (mLc true (anyItems (eVar 2)) [4] (gcN 4) (tTrue) (eCall 2 F_law_low (rV (eVar 4) (rV (eL (gl1 gSum) (aC (eVar 2) (aN))) (rN)))))))
noncomputable def F_law_shared : FD := bodyF 3 m_law_shared
noncomputable def m_law_masses : MS := sSeq (sParVC 4 5 (eSl (eCall 1 F_law_sets (rV (eVar 1) (rN))) (pS (eC (.int 1))) (pN)) (nS)) (sSeq (sFor (rng1 (aC (eCall 2 F_law_of (rL B0 0 (rV (eL gLst (aC (eC (.int 1)) (aC (eC (.int 2)) (aC (eC (.int 3)) (aC (eC (.int 4)) (aC (eC (.int 5)) (aN))))))) (rN)))) (aN))) (gN 2) (sPutS 5 (eCall 2 F_law_of (rL B0 0 (rV (eVar 4) (rN)))) (eC (.bool true)))) (sSeq (sIf (tV (e2 gEq (eCall 2 F_law_say (rL B0 0 (rV (eC (.int 2)) (rN)))) (eC (.int 0)))) (sPutS 5 (eVar 1) (eC (.bool true))) (sNil)) (sSeq (sAs (eF (mLc true (anyItems (eVar 4)) [6] (gcN 6) (tV (eInS false (eVar 6) 5)) (eVar 6))) (gN 3)) (sRet B0 (eL gZip2 (aC (eVar 3) (aC (eCall 2 F_law_shared (rL B0 0 (rV (eL (gl1 gLen) (aC (eVar 3) (aN))) (rN)))) (aN))))))))
noncomputable def F_law_masses : FD := bodyF 5 m_law_masses
noncomputable def m_law_within : MS := sRet B0 (eL (gl1 gAll) (aC (eF (mLc true (anyItems (eVar 0)) [2] (gcN 2) (tTrue) (e2 gIn (eVar 2) (eVar 1)))) (aN)))
noncomputable def F_law_within : FD := bodyF 1 m_law_within
noncomputable def m_law_belief : MS := sRet B0 (eCall 1 F_law_sum (rV (eF (mLc true (anyItems (eVar 0)) [2, 3] (gT 2 (gsC (gcN 2) (gsC (gcN 3) (gsN)))) (tV (eCall 2 F_law_within (rV (eVar 2) (rV (eVar 1) (rN))))) (eVar 3))) (rN)))
noncomputable def F_law_belief : FD := bodyF 2 m_law_belief
noncomputable def m_law_do_fit : MS := sSeq (sAs (eN (nDzip2 (aC (eVar 0) (aC (eVar 2) (aN))))) (gN 3)) (sRet B0 (eL (gl1 gAll) (aC (eF (mLc true (anyItems (eCall 1 F_law_sets (rV (eVar 0) (rN)))) [4] (gcN 4) (tTrue) (eCall 2 F_law_up_to (rV (eCall 2 F_law_belief (rV (eVar 1) (rV (eVar 4) (rN)))) (rV (eCall 1 F_law_sum (rV (eF (mLc true (anyItems (eVar 4)) [5] (gcN 5) (tTrue) (e2 gDGet (eVar 3) (eVar 5)))) (rN))) (rN)))))) (aN))))
noncomputable def F_law_do_fit : FD := bodyF 3 m_law_do_fit
noncomputable def m_law_mean : MS := sRet B0 (eCall 1 F_law_sum (rV (eF (mLc true (zipItems (aC (eVar 0) (aC (eVar 1) (aN)))) [2, 3] (gT 2 (gsC (gcN 2) (gsC (gcN 3) (gsN)))) (tTrue) (eCall 2 F_law_times (rV (eVar 2) (rV (eL gTup (aC (eVar 3) (aC (eC (.int 1)) (aN)))) (rN)))))) (rN)))
noncomputable def F_law_mean : FD := bodyF 2 m_law_mean
noncomputable def m_law_orders : MS := sSeq (sAs (eL gLst (aC (eL gTup (aN)) (aN))) (gN 1)) (sSeq (sFor (rng1 (aC (eL (gl1 gLen) (aC (eVar 0) (aN))) (aN))) (gN 2) (sSeq (sAs (eL gLst (aN)) (gN 3)) (sSeq (sFor (anyItems (eVar 1)) (gN 4) (sAs (e2 gAdd (eVar 3) (eF (mLc true (anyItems (eVar 0)) [5] (gcN 5) (tV (e2 gNotIn (eVar 5) (eVar 4))) (e2 gAdd (eVar 4) (eL gTup (aC (eVar 5) (aN))))))) (gN 3))) (sAs (eVar 3) (gN 1))))) (sRet B0 (eVar 1)))
noncomputable def F_law_orders : FD := bodyF 5 m_law_orders
noncomputable def m_law_grown : MS := sSeq (sParCV 4 5 (nD) (eL gTup (aN))) (sSeq (sFor (anyItems (eVar 2)) (gN 3) (sSeq (sAs (eL (gl1 gTuple) (aC (eL (gl1 gSortT) (aC (e2 gAdd (eVar 5) (eL gTup (aC (eVar 3) (aN)))) (aN))) (aN))) (gN 6)) (sSeq (sPutD 4 (eVar 3) (eCall 2 F_law_less (rV (eCall 2 F_law_belief (rV (eVar 1) (rV (eVar 6) (rN)))) (rV (eCall 2 F_law_belief (rV (eVar 1) (rV (eVar 5) (rN)))) (rN))))) (sAs (eVar 6) (gN 5))))) (sRet B0 (eL (gl1 gTuple) (aC (eF (mLc true (anyItems (eVar 0)) [3] (gcN 3) (tTrue) (eGetD 4 (eVar 3)))) (aN)))))
noncomputable def F_law_grown : FD := bodyF 4 m_law_grown
noncomputable def m_law_least : MS := sSeq (sAs (e2 gIx (eVar 0) (eC (.int 0))) (gN 1)) (sSeq (sFor (anyItems (eVar 0)) (gN 2) (sAs (eIf (tV (eCall 2 F_law_up_to (rV (eVar 2) (rV (eVar 1) (rN))))) (eVar 2) (eVar 1)) (gN 1))) (sRet B0 (eVar 1)))
noncomputable def F_law_least : FD := bodyF 2 m_law_least
noncomputable def m_law_right : MS := sSeq (sFor (rng1 (aC (eC (.int 4)) (aN))) (gN 1) (sSeq (sAs (eCall 2 F_law_frame (rL B0 0 (rV (eC (.int 4)) (rN)))) (gN 2)) (sSeq (sAs (eCall 2 F_law_masses (rL B0 0 (rV (eVar 2) (rN)))) (gN 3)) (sSeq (sAs (eL (gl1 gTuple) (aC (eF (mLc true (anyItems (eVar 2)) [19] (gcN 19) (tTrue) (eIf (tV (e2 gEq (eCall 2 F_law_say (rL B0 0 (rV (eC (.int 2)) (rN)))) (eC (.int 0)))) (e2 gSub (eCall 2 F_law_say (rL B0 0 (rV (eC (.int 199)) (rN)))) (eC (.int 99))) (eCall 2 F_law_say (rL B0 0 (rV (eC (.int 3)) (rN))))))) (aN))) (gN 4)) (sSeq (sAs (eF (mLc true (anyItems (eCall 1 F_law_orders (rV (eVar 2) (rN)))) [17] (gcN 17) (tTrue) (eCall 3 F_law_grown (rV (eVar 2) (rV (eVar 3) (rV (eVar 17) (rN))))))) (gN 5)) (sSeq (sIf (tNot (tV (eL (gl1 gAll) (aC (eF (mLc true (anyItems (eVar 5)) [18] (gcN 18) (tTrue) (eCall 3 F_law_do_fit (rV (eVar 2) (rV (eVar 3) (rV (eVar 18) (rN))))))) (aN))))) (sRet B0 (eC (.bool false))) (sNil)) (sSeq (sAs (eF (mLc true (anyItems (eVar 5)) [18] (gcN 18) (tTrue) (eCall 2 F_law_mean (rV (eVar 18) (rV (eVar 4) (rN)))))) (gN 6)) (sSeq (sPar B0 12 13 (aC (eCall 1 F_law_least (rV (eVar 6) (rN))) (aC (eCall 2 F_law_less (rV (eL gTup (aC (eC (.int 0)) (aC (eC (.int 1)) (aN)))) (rV (eCall 1 F_law_least (rV (eF (mLc true (anyItems (eVar 6)) [8] (gcN 8) (tTrue) (eCall 2 F_law_less (rV (eL gTup (aC (eC (.int 0)) (aC (eC (.int 1)) (aN)))) (rV (eVar 8) (rN)))))) (rN))) (rN)))) (aN)))) (sSeq (sIf (tNot (tV (eCall 2 F_law_same (rV (eL gLst (aC (eCall 3 F_least_worth (rV (eVar 2) (rV (eVar 3) (rV (eVar 4) (rN))))) (aC (eCall 3 F_greatest_worth (rV (eVar 2) (rV (eVar 3) (rV (eVar 4) (rN))))) (aN)))) (rV (eL gLst (aC (eVar 12) (aC (eVar 13) (aN)))) (rN)))))) (sRet B0 (eC (.bool false))) (sNil)) (sSeq (sAs (eL gTup (aC (eCall 2 F_law_of (rL B0 0 (rV (eVar 5) (rN)))) (aC (eCall 2 F_law_of (rL B0 0 (rV (eVar 5) (rN)))) (aC (eCall 2 F_law_low (rV (eC (.int 1)) (rV (e2 gAdd (eC (.int 2)) (eCall 2 F_law_say (rL B0 0 (rV (eC (.int 4)) (rN))))) (rN)))) (aN))))) (gT 3 (gsC (gN 14) (gsC (gN 15) (gsC (gN 16) (gsN)))))) (sSeq (sAs (eL (gl1 gTuple) (aC (eF (mLc true (zipItems (aC (eVar 14) (aC (eVar 15) (aN)))) [21, 22] (gT 2 (gsC (gcN 21) (gsC (gcN 22) (gsN)))) (tTrue) (eCall 2 F_law_plus (rV (eCall 2 F_law_times (rV (eVar 16) (rV (eVar 21) (rN)))) (rV (eCall 2 F_law_times (rV (eCall 2 F_law_less (rV (eL gTup (aC (eC (.int 1)) (aC (eC (.int 1)) (aN)))) (rV (eVar 16) (rN)))) (rV (eVar 22) (rN)))) (rN)))))) (aN))) (gN 7)) (sSeq (sAs (eCall 3 F_mean_of (rV (eVar 2) (rV (eVar 7) (rV (eVar 4) (rN))))) (gN 8)) (sSeq (sIf (tOr (tNot (tV (eCall 2 F_law_same (rV (eVar 8) (rV (eCall 2 F_law_mean (rV (eVar 7) (rV (eVar 4) (rN)))) (rN)))))) (tNot (tAnd (tV (eCall 2 F_law_up_to (rV (eVar 12) (rV (eVar 8) (rN))))) (tV (eCall 2 F_law_up_to (rV (eVar 8) (rV (eVar 13) (rN)))))))) (sRet B0 (eC (.bool false))) (sNil)) (sSeq (sAs (eL (gl1 gTuple) (aC (eF (mLc true (anyItems (eVar 4)) [20] (gcN 20) (tTrue) (eL (gl2 gMax2) (aC (e1 gNeg (eC (.int 99))) (aC (eL (gl2 gMin2) (aC (eC (.int 99)) (aC (e2 gSub (eCall 2 F_law_say (rL B0 0 (rV (eC (.int 11)) (rN)))) (eC (.int 5))) (aN)))) (aN)))))) (aN))) (gN 9)) (sSeq (sAs (eL (gl1 gTuple) (aC (eF (mLc true (zipItems (aC (eVar 4) (aC (eVar 9) (aN)))) [21, 22] (gT 2 (gsC (gcN 21) (gsC (gcN 22) (gsN)))) (tTrue) (e2 gAdd (eVar 21) (eVar 22)))) (aN))) (gN 10)) (sSeq (sIf (tV (eL (gl1 gAll) (aC (eF (mLc true (anyItems (eVar 10)) [20] (gcN 20) (tTrue) (e3 gLt gLt (e1 gNeg (eC (.int 100))) (eVar 20) (eC (.int 100))))) (aN)))) (sIf (tNot (tV (eCall 2 F_law_up_to (rV (eCall 2 F_law_plus (rV (eVar 12) (rV (eCall 3 F_least_worth (rV (eVar 2) (rV (eVar 3) (rV (eVar 9) (rN))))) (rN)))) (rV (eCall 3 F_least_worth (rV (eVar 2) (rV (eVar 3) (rV (eVar 10) (rN))))) (rN)))))) (sRet B0 (eC (.bool false))) (sNil)) (sNil)) (sSeq (sAs (eL (gl1 gTuple) (aC (eF (mLc true (anyItems (eVar 4)) [20] (gcN 20) (tTrue) (e2 gAdd (eVar 20) (eC (.int 1))))) (aN))) (gN 11)) (sIf (tAnd (tV (e2 gLt (eL (gl1 (gBest PySem.W.maxD)) (aC (eVar 11) (aN))) (eC (.int 100)))) (tNot (tV (eCall 2 F_law_same (rV (eCall 3 F_least_worth (rV (eVar 2) (rV (eVar 3) (rV (eVar 11) (rN))))) (rV (eCall 2 F_law_plus (rV (eVar 12) (rV (eL gTup (aC (eC (.int 1)) (aC (eC (.int 1)) (aN)))) (rN)))) (rN))))))) (sRet B0 (eC (.bool false))) (sNil))))))))))))))))))) (sRet B0 (eC (.bool true)))
noncomputable def F_law_right : FD := bodyF 22 m_law_right
noncomputable def m_law : MS := sRet B0 (eL (gl1 gAll) (aC (eF (mLc true (rng1 (aC (eL (gl2 gMax2) (aC (eC (.int 1)) (aC (eL (gl2 gMin2) (aC (eL (gl1 gLen) (aC (eVar 0) (aN))) (aC (eC (.int 3)) (aN)))) (aN)))) (aN))) [1] (gcN 1) (tTrue) (eCallF F_law_right (mCallF 2 F_law_voice (aC (eVar 0) (aC (eVar 1) (aN))))))) (aN)))
noncomputable def F_law : FD := bodyF 1 m_law
section
variable {P : Program} {w : World} {K : PySem.W.Frag} {mg : Str → Option Value} {base : Heap}
theorem sc_is_whole : FnScope ["value"] ["value"] (defScope s_is_whole) := ⟨rfl, rfl, rfl, by decide +kernel, rfl, by decide +kernel, by decide +kernel⟩
theorem ok_is_whole (G : Gs K mg base) : Def P w K mg base (TT K) 1 "is_whole" "is_whole" s_is_whole ["value"] 1 F_is_whole := def_of (N := ["value"]) (ps := ["value"]) (m := m_is_whole) G.d_is_whole G.g_is_whole sc_is_whole rfl (fun _ _ _ _ _ _ us hl => match us, hl with | [_], _ => rfl) fun cd hcd A outer s H E hr =>
  ss_1 (x_ret B0 (pd_and (pd_isi kit_int rfl G.f_isinstance (by decide +kernel) rfl G.f_int (by decide +kernel) (pd_var 0)) (pd_1a (pd_not (pd_isi kit_bool rfl G.f_isinstance (by decide +kernel) rfl G.f_bool (by decide +kernel) (pd_var 0))))))
theorem sc_is_between : FnScope ["value", "least", "most"] ["value", "least", "most"] (defScope s_is_between) := ⟨rfl, rfl, rfl, by decide +kernel, rfl, by decide +kernel, by decide +kernel⟩
theorem ok_is_between (G : Gs K mg base) : Def P w K mg base (TT K) 2 "is_between" "is_between" s_is_between ["value", "least", "most"] 3 F_is_between := def_of (N := ["value", "least", "most"]) (ps := ["value", "least", "most"]) (m := m_is_between) G.d_is_between G.g_is_between sc_is_between rfl (fun _ _ _ _ _ _ us hl => match us, hl with | [_, _, _], _ => rfl) fun cd hcd A outer s H E hr =>
  ss_1 (x_ret B0 (pd_and (pd_d (ok_is_whole G) hr rfl (pr_v (pd_var 0) (pr_n))) (pd_1a (pd_chain op_le rd_le op_le rd_le (pd_var 1) (pd_var 0) (pd_var 2)))))
theorem sc_is_one_of : FnScope ["value", "words"] ["value", "words"] (defScope s_is_one_of) := ⟨rfl, rfl, rfl, by decide +kernel, rfl, by decide +kernel, by decide +kernel⟩
theorem ok_is_one_of (G : Gs K mg base) : Def P w K mg base (TT K) 1 "is_one_of" "is_one_of" s_is_one_of ["value", "words"] 2 F_is_one_of := def_of (N := ["value", "words"]) (ps := ["value", "words"]) (m := m_is_one_of) G.d_is_one_of G.g_is_one_of sc_is_one_of rfl (fun _ _ _ _ _ _ us hl => match us, hl with | [_, _], _ => rfl) fun cd hcd A outer s H E hr =>
  ss_1 (x_ret B0 (pd_and (pd_isi kit_str rfl G.f_isinstance (by decide +kernel) rfl G.f_str (by decide +kernel) (pd_var 0)) (pd_1a (c_in hr (pd_var 0) (pd_var 1)))))
theorem sc_is_word : FnScope ["value", "sign"] ["value"] (defScope s_is_word) := ⟨rfl, rfl, rfl, by decide +kernel, rfl, by decide +kernel, by decide +kernel⟩
theorem ok_is_word (G : Gs K mg base) : Def P w K mg base (TT K) 1 "is_word" "is_word" s_is_word ["value"] 1 F_is_word := def_of (N := ["value", "sign"]) (ps := ["value"]) (m := m_is_word) G.d_is_word G.g_is_word sc_is_word rfl (fun _ _ _ _ _ _ us hl => match us, hl with | [_], _ => rfl) fun cd hcd A outer s H E hr =>
  ss_1 (x_ret B0 (pd_and (pd_isi kit_str rfl G.f_isinstance (by decide +kernel) rfl G.f_str (by decide +kernel) (pd_var 0)) (pd_and (c_ne hr (pd_var 0) (pd_str)) (pd_1a (b_all rfl G.f_all rfl (pa_c (pd_f (pf_lc (own := [("sign", 1)]) (fun _ => rfl) rfl sc_is_word.nd (pi_any (pd_var 0)) (blkOk_by rfl) (fun _ _ _ _ _ => pc_n 1 (by decide) sc_is_word.nd) (fun _ _ _ _ _ => pts_0) (fun _ _ _ _ _ => c_in hr (pd_var 1) (pd_cst rfl G.k_LETTERS)))) (pa_n)))))))
theorem sc_is_name : FnScope ["value"] ["value"] (defScope s_is_name) := ⟨rfl, rfl, rfl, by decide +kernel, rfl, by decide +kernel, by decide +kernel⟩
theorem ok_is_name (G : Gs K mg base) : Def P w K mg base (TT K) 2 "is_name" "is_name" s_is_name ["value"] 1 F_is_name := def_of (N := ["value"]) (ps := ["value"]) (m := m_is_name) G.d_is_name G.g_is_name sc_is_name rfl (fun _ _ _ _ _ _ us hl => match us, hl with | [_], _ => rfl) fun cd hcd A outer s H E hr =>
  ss_1 (x_ret B0 (pd_and (pd_d (ok_is_word G) hr rfl (pr_v (pd_var 0) (pr_n))) (pd_and (c_le (b_len G.f_len rfl (pa_c (pd_var 0) (pa_n))) (pd_cst rfl G.k_MOST_LETTERS)) (pd_1a (c_notinK hr (pd_var 0) rfl G.k_WORDS)))))
theorem sc_is_tuple_of : FnScope ["value", "many"] ["value", "many"] (defScope s_is_tuple_of) := ⟨rfl, rfl, rfl, by decide +kernel, rfl, by decide +kernel, by decide +kernel⟩
theorem ok_is_tuple_of (G : Gs K mg base) : Def P w K mg base (TT K) 1 "is_tuple_of" "is_tuple_of" s_is_tuple_of ["value", "many"] 2 F_is_tuple_of := def_of (N := ["value", "many"]) (ps := ["value", "many"]) (m := m_is_tuple_of) G.d_is_tuple_of G.g_is_tuple_of sc_is_tuple_of rfl (fun _ _ _ _ _ _ us hl => match us, hl with | [_, _], _ => rfl) fun cd hcd A outer s H E hr =>
  ss_1 (x_ret B0 (pd_and (pd_isi kit_tup rfl G.f_isinstance (by decide +kernel) rfl G.f_tuple (by decide +kernel) (pd_var 0)) (pd_1a (c_eq hr (b_len G.f_len rfl (pa_c (pd_var 0) (pa_n))) (pd_var 1)))))
theorem sc_is_pair : FnScope ["value"] ["value"] (defScope s_is_pair) := ⟨rfl, rfl, rfl, by decide +kernel, rfl, by decide +kernel, by decide +kernel⟩
theorem ok_is_pair (G : Gs K mg base) : Def P w K mg base (TT K) 2 "is_pair" "is_pair" s_is_pair ["value"] 1 F_is_pair := def_of (N := ["value"]) (ps := ["value"]) (m := m_is_pair) G.d_is_pair G.g_is_pair sc_is_pair rfl (fun _ _ _ _ _ _ us hl => match us, hl with | [_], _ => rfl) fun cd hcd A outer s H E hr =>
  ss_1 (x_ret B0 (pd_d (ok_is_tuple_of G) hr rfl (pr_v (pd_var 0) (pr_v (pd_int) (pr_n)))))
theorem sc_wrong_in : FnScope ["value", "least", "most", "is_right", "index", "each"] ["value", "least", "most", "is_right"] (defScope s_wrong_in) := ⟨rfl, rfl, rfl, by decide +kernel, rfl, by decide +kernel, by decide +kernel⟩
theorem ok_wrong_in (kk : Nat) (G : Gs K mg base) : Ho P w K mg base (TT K) (kk + 1) kk "wrong_in" ["value", "least", "most", "is_right"] 4 F_wrong_in := ho_def (N := ["value", "least", "most", "is_right", "index", "each"]) (ps := ["value", "least", "most", "is_right"]) (m := m_wrong_in) G.d_wrong_in G.g_wrong_in sc_wrong_in rfl (fun _ _ _ _ _ _ us hl => match us, hl with | [_, _, _, _], _ => rfl) fun cd hcd A outer s H Φ hr hΦ =>
  ss_c (x_if B0 (pt_w (pw_o (pt_not (pt_v (pd_isi kit_tup rfl G.f_isinstance (by decide +kernel) rfl G.f_tuple (by decide +kernel) (pd_var 0)))) (pw_1o (t_lt (b_len G.f_len rfl (pa_c (pd_var 0) (pa_n))) (pd_var 1))))) (ss_1 (x_ret B0 (pd_lst (pa_c (pd_non) (pa_n))))) (ss_nil)) (ss_c (s_for PassesOwn.never rfl (pi_enT rfl G.f_enumerate (pa_c (pd_var 0) (pa_n))) (pg_t rfl (pgs_c (pg_n 4 sc_wrong_in.nd) (pgs_c (pg_n 5 sc_wrong_in.nd) (pgs_n)))) (ss_1 (x_if B0 (pt_w (pw_o (t_eq hr (pd_var 4) (pd_var 2)) (pw_1o (pt_not (pt_v (pd_fn 3 hΦ rfl hr (pa_c (pd_sl (pd_var 0) (pp_n) (pp_s (pd_var 4))) (pa_c (pd_var 5) (pa_n))))))))) (ss_1 (x_ret B0 (pd_lst (pa_c (pd_var 4) (pa_n))))) (ss_nil)))) (ss_1 (x_ret B0 (pd_lst (pa_n)))))
theorem sc_wrong_in_all : FnScope ["value", "many", "is_right"] ["value", "many", "is_right"] (defScope s_wrong_in_all) := ⟨rfl, rfl, rfl, by decide +kernel, rfl, by decide +kernel, by decide +kernel⟩
theorem ok_wrong_in_all (kk : Nat) (G : Gs K mg base) : Ho P w K mg base (TT K) (kk + 3) kk "wrong_in_all" ["value", "many", "is_right"] 3 F_wrong_in_all := ho_def (N := ["value", "many", "is_right"]) (ps := ["value", "many", "is_right"]) (m := m_wrong_in_all) G.d_wrong_in_all G.g_wrong_in_all sc_wrong_in_all rfl (fun _ _ _ _ _ _ us hl => match us, hl with | [_, _, _], _ => rfl) fun cd hcd A outer s H Φ hr hΦ =>
  ss_1 (x_ret B0 (pd_if (pt_v (pd_d (ok_is_tuple_of G) hr rfl (pr_v (pd_var 0) (pr_v (pd_var 1) (pr_n))) (by omega))) (pd_h (ok_wrong_in (kk + 1) G) hr rfl (pl_c (pd_var 0) (pl_c (pd_var 1) (pl_c (pd_var 1) (pl_l (kb := kk) (kΦ := kk) ["ahead", "each", "is_right"] ["ahead", "each"] ["is_right"] [2] rfl G.t_wrong_in_all (hcd.trans G.c_wrong_in_all) G.m_wrong_in_all G.u rfl rfl rfl rfl rfl (fun _ _ _ _ _ us hl => match us, hl with | [_, _], _ => rfl) hΦ (fun f c' cl A outer s1 H1 hr hΦ => pd_fn 2 hΦ rfl hr (pa_c (pd_var 1) (pa_n))))))) (by omega)) (pd_lst (pa_c (pd_non) (pa_n)))))
theorem sc_are_below : FnScope ["ahead", "value"] ["ahead", "value"] (defScope s_are_below) := ⟨rfl, rfl, rfl, by decide +kernel, rfl, by decide +kernel, by decide +kernel⟩
theorem ok_are_below (G : Gs K mg base) : Def P w K mg base (TT K) 1 "are_below" "are_below" s_are_below ["ahead", "value"] 2 F_are_below := def_of (N := ["ahead", "value"]) (ps := ["ahead", "value"]) (m := m_are_below) G.d_are_below G.g_are_below sc_are_below rfl (fun _ _ _ _ _ _ us hl => match us, hl with | [_, _], _ => rfl) fun cd hcd A outer s H E hr =>
  ss_1 (x_ret B0 (pd_or (c_eq hr (pd_var 0) (pd_tup (pa_n))) (pd_1a (c_lt (o_ix (pd_var 0) (o_neg (pd_int))) (pd_var 1)))))
theorem sc_is_set_of_names : FnScope ["value", "names"] ["value", "names"] (defScope s_is_set_of_names) := ⟨rfl, rfl, rfl, by decide +kernel, rfl, by decide +kernel, by decide +kernel⟩
theorem ok_is_set_of_names (G : Gs K mg base) : Def P w K mg base (TT K) 4 "is_set_of_names" "is_set_of_names" s_is_set_of_names ["value", "names"] 2 F_is_set_of_names := def_of (N := ["value", "names"]) (ps := ["value", "names"]) (m := m_is_set_of_names) G.d_is_set_of_names G.g_is_set_of_names sc_is_set_of_names rfl (fun _ _ _ _ _ _ us hl => match us, hl with | [_, _], _ => rfl) fun cd hcd A outer s H E hr =>
  ss_1 (x_ret B0 (c_eq hr (pd_h (ok_wrong_in (2) G) hr rfl (pl_c (pd_var 0) (pl_c (pd_int) (pl_c (b_len G.f_len rfl (pa_c (pd_var 1) (pa_n))) (pl_l (kb := 1) (kΦ := 0) ["ahead", "each", "names"] ["ahead", "each"] ["names"] [1] rfl G.t_is_set_of_names (hcd.trans G.c_is_set_of_names) G.m_is_set_of_names G.u rfl rfl rfl rfl rfl (fun _ _ _ _ _ us hl => match us, hl with | [_, _], _ => rfl) fx_no (fun f c' cl A outer s1 H1 hr hΦ => pd_and (pd_d (ok_is_one_of G) hr rfl (pr_v (pd_var 1) (pr_v (pd_var 2) (pr_n)))) (pd_1a (pd_d (ok_are_below G) hr rfl (pr_v (pd_var 0) (pr_v (pd_var 1) (pr_n))))))))))) (pd_lst (pa_n))))
theorem sc_lowest : FnScope ["one", "two", "common"] ["one", "two"] (defScope s_lowest) := ⟨rfl, rfl, rfl, by decide +kernel, rfl, by decide +kernel, by decide +kernel⟩
theorem ok_lowest (G : Gs K mg base) : Def P w K mg base (TT K) 1 "lowest" "lowest" s_lowest ["one", "two"] 2 F_lowest := def_of (N := ["one", "two", "common"]) (ps := ["one", "two"]) (m := m_lowest) G.d_lowest G.g_lowest sc_lowest rfl (fun _ _ _ _ _ _ us hl => match us, hl with | [_, _], _ => rfl) fun cd hcd A outer s H E hr =>
  ss_c (s_set 2 sc_lowest.nd (pd_if (t_gt (pd_var 1) (pd_int)) (b_gcd G.h_gcd rfl (pa_c (pd_var 0) (pa_c (pd_var 1) (pa_n)))) (o_neg (b_gcd G.h_gcd rfl (pa_c (pd_var 0) (pa_c (pd_var 1) (pa_n))))))) (ss_1 (x_ret B0 (pd_tup (pa_c (o_div (pd_var 0) (pd_var 2)) (pa_c (o_div (pd_var 1) (pd_var 2)) (pa_n))))))
theorem sc_is_fraction : FnScope ["value", "each"] ["value"] (defScope s_is_fraction) := ⟨rfl, rfl, rfl, by decide +kernel, rfl, by decide +kernel, by decide +kernel⟩
theorem ok_is_fraction (G : Gs K mg base) : Def P w K mg base (TT K) 3 "is_fraction" "is_fraction" s_is_fraction ["value"] 1 F_is_fraction := def_of (N := ["value", "each"]) (ps := ["value"]) (m := m_is_fraction) G.d_is_fraction G.g_is_fraction sc_is_fraction rfl (fun _ _ _ _ _ _ us hl => match us, hl with | [_], _ => rfl) fun cd hcd A outer s H E hr =>
  ss_c (x_if B0 (pt_w (pw_o (pt_not (pt_v (pd_d (ok_is_pair G) hr rfl (pr_v (pd_var 0) (pr_n))))) (pw_1o (pt_not (pt_v (b_all rfl G.f_all rfl (pa_c (pd_f (pf_lc (own := [("each", 1)]) (fun _ => rfl) rfl sc_is_fraction.nd (pi_any (pd_var 0)) (blkOk_by rfl) (fun _ _ _ _ _ => pc_n 1 (by decide) sc_is_fraction.nd) (fun _ _ _ _ _ => pts_0) (fun _ _ _ _ _ => pd_d (ok_is_whole G) hr rfl (pr_v (pd_var 1) (pr_n))))) (pa_n)))))))) (ss_1 (x_ret B0 (pd_bl))) (ss_nil)) (ss_1 (x_ret B0 (pd_and (c_gt (o_ix (pd_var 0) (pd_int)) (pd_int)) (pd_1a (c_eq hr (b_gcd G.h_gcd rfl (pa_c (o_ix (pd_var 0) (pd_int)) (pa_c (o_ix (pd_var 0) (pd_int)) (pa_n)))) (pd_int))))))
theorem sc_plus : FnScope ["one", "two"] ["one", "two"] (defScope s_plus) := ⟨rfl, rfl, rfl, by decide +kernel, rfl, by decide +kernel, by decide +kernel⟩
theorem ok_plus (G : Gs K mg base) : Def P w K mg base (TT K) 2 "plus" "plus" s_plus ["one", "two"] 2 F_plus := def_of (N := ["one", "two"]) (ps := ["one", "two"]) (m := m_plus) G.d_plus G.g_plus sc_plus rfl (fun _ _ _ _ _ _ us hl => match us, hl with | [_, _], _ => rfl) fun cd hcd A outer s H E hr =>
  ss_1 (x_ret B0 (pd_d (ok_lowest G) hr rfl (pr_v (o_add (o_mul (o_ix (pd_var 0) (pd_int)) (o_ix (pd_var 1) (pd_int))) (o_mul (o_ix (pd_var 1) (pd_int)) (o_ix (pd_var 0) (pd_int)))) (pr_v (o_mul (o_ix (pd_var 0) (pd_int)) (o_ix (pd_var 1) (pd_int))) (pr_n)))))
theorem sc_total : FnScope ["some", "found", "each"] ["some"] (defScope s_total) := ⟨rfl, rfl, rfl, by decide +kernel, rfl, by decide +kernel, by decide +kernel⟩
theorem ok_total (G : Gs K mg base) : Def P w K mg base (TT K) 3 "total" "total" s_total ["some"] 1 F_total := def_of (N := ["some", "found", "each"]) (ps := ["some"]) (m := m_total) G.d_total G.g_total sc_total rfl (fun _ _ _ _ _ _ us hl => match us, hl with | [_], _ => rfl) fun cd hcd A outer s H E hr =>
  ss_c (s_set 1 sc_total.nd (pd_cst rfl G.k_NOTHING)) (ss_c (s_for PassesOwn.never rfl (pi_any (pd_var 0)) (pg_n 2 sc_total.nd) (ss_1 (s_set 1 sc_total.nd (pd_d (ok_plus G) hr rfl (pr_v (pd_var 1) (pr_v (pd_var 2) (pr_n))))))) (ss_1 (x_ret B0 (pd_var 1))))
theorem sc_set_order : FnScope ["lot"] ["lot"] (defScope s_set_order) := ⟨rfl, rfl, rfl, by decide +kernel, rfl, by decide +kernel, by decide +kernel⟩
theorem ok_set_order (G : Gs K mg base) : Def P w K mg base (TT K) 1 "set_order" "set_order" s_set_order ["lot"] 1 F_set_order := def_of (N := ["lot"]) (ps := ["lot"]) (m := m_set_order) G.d_set_order G.g_set_order sc_set_order rfl (fun _ _ _ _ _ _ us hl => match us, hl with | [_], _ => rfl) fun cd hcd A outer s H E hr =>
  ss_1 (x_ret B0 (pd_tup (pa_c (b_len G.f_len rfl (pa_c (pd_var 0) (pa_n))) (pa_c (pd_var 0) (pa_n)))))
theorem sc_wrong_in_frame : FnScope ["value"] ["value"] (defScope s_wrong_in_frame) := ⟨rfl, rfl, rfl, by decide +kernel, rfl, by decide +kernel, by decide +kernel⟩
theorem ok_wrong_in_frame (G : Gs K mg base) : Def P w K mg base (TT K) 5 "wrong_in_frame" "wrong_in_frame" s_wrong_in_frame ["value"] 1 F_wrong_in_frame := def_of (N := ["value"]) (ps := ["value"]) (m := m_wrong_in_frame) G.d_wrong_in_frame G.g_wrong_in_frame sc_wrong_in_frame rfl (fun _ _ _ _ _ _ us hl => match us, hl with | [_], _ => rfl) fun cd hcd A outer s H E hr =>
  ss_1 (x_ret B0 (pd_h (ok_wrong_in (3) G) hr rfl (pl_c (pd_var 0) (pl_c (pd_int) (pl_c (pd_cst rfl G.k_MOST_THINGS) (pl_l (kb := 2) (kΦ := 0) ["ahead", "each"] ["ahead", "each"] [] [] rfl G.t_wrong_in_frame (hcd.trans G.c_wrong_in_frame) G.m_wrong_in_frame G.u rfl rfl rfl rfl rfl (fun _ _ _ _ _ us hl => match us, hl with | [_, _], _ => rfl) fx_no (fun f c' cl A outer s1 H1 hr hΦ => pd_and (pd_d (ok_is_name G) hr rfl (pr_v (pd_var 1) (pr_n))) (pd_1a (pd_d (ok_are_below G) hr rfl (pr_v (pd_var 0) (pr_v (pd_var 1) (pr_n))))))))))))
theorem sc_is_mass : FnScope ["frame", "value"] ["frame", "value"] (defScope s_is_mass) := ⟨rfl, rfl, rfl, by decide +kernel, rfl, by decide +kernel, by decide +kernel⟩
theorem ok_is_mass (G : Gs K mg base) : Def P w K mg base (TT K) 5 "is_mass" "is_mass" s_is_mass ["frame", "value"] 2 F_is_mass := def_of (N := ["frame", "value"]) (ps := ["frame", "value"]) (m := m_is_mass) G.d_is_mass G.g_is_mass sc_is_mass rfl (fun _ _ _ _ _ _ us hl => match us, hl with | [_, _], _ => rfl) fun cd hcd A outer s H E hr =>
  ss_c (x_if B0 (pt_w (pw_o (pt_not (pt_v (pd_d (ok_is_pair G) hr rfl (pr_v (pd_var 1) (pr_n))))) (pw_o (pt_not (pt_v (pd_d (ok_is_set_of_names G) hr rfl (pr_v (o_ix (pd_var 1) (pd_int)) (pr_v (pd_var 0) (pr_n)))))) (pw_1o (t_eq hr (o_ix (pd_var 1) (pd_int)) (pd_tup (pa_n))))))) (ss_1 (x_ret B0 (pd_bl))) (ss_nil)) (ss_1 (x_ret B0 (pd_and (pd_d (ok_is_fraction G) hr rfl (pr_v (o_ix (pd_var 1) (pd_int)) (pr_n))) (pd_1a (c_gt (o_ix (o_ix (pd_var 1) (pd_int)) (pd_int)) (pd_int))))))
theorem sc_wrong_in_masses : FnScope ["frame", "value", "found", "_", "weight"] ["frame", "value"] (defScope s_wrong_in_masses) := ⟨rfl, rfl, rfl, by decide +kernel, rfl, by decide +kernel, by decide +kernel⟩
theorem ok_wrong_in_masses (G : Gs K mg base) : Def P w K mg base (TT K) 8 "wrong_in_masses" "wrong_in_masses" s_wrong_in_masses ["frame", "value"] 2 F_wrong_in_masses := def_of (N := ["frame", "value", "found", "_", "weight"]) (ps := ["frame", "value"]) (m := m_wrong_in_masses) G.d_wrong_in_masses G.g_wrong_in_masses sc_wrong_in_masses rfl (fun _ _ _ _ _ _ us hl => match us, hl with | [_, _], _ => rfl) fun cd hcd A outer s H E hr =>
  ss_c (s_set 2 sc_wrong_in_masses.nd (pd_h (ok_wrong_in (6) G) hr rfl (pl_c (pd_var 1) (pl_c (pd_int) (pl_c (pd_non) (pl_l (kb := 5) (kΦ := 0) ["ahead", "each", "frame"] ["ahead", "each"] ["frame"] [0] rfl G.t_wrong_in_masses (hcd.trans G.c_wrong_in_masses) G.m_wrong_in_masses G.u rfl rfl rfl rfl rfl (fun _ _ _ _ _ us hl => match us, hl with | [_, _], _ => rfl) fx_no (fun f c' cl A outer s1 H1 hr hΦ => pd_and (pd_d (ok_is_mass G) hr rfl (pr_v (pd_var 2) (pr_v (pd_var 1) (pr_n)))) (pd_1a (pd_or (c_eq hr (pd_var 0) (pd_tup (pa_n))) (pd_1a (c_ltD hr (pd_d (ok_set_order G) hr rfl (pr_v (o_ix (o_ix (pd_var 0) (o_neg (pd_int))) (pd_int)) (pr_n))) (pd_d (ok_set_order G) hr rfl (pr_v (o_ix (pd_var 1) (pd_int)) (pr_n)))))))))))))) (ss_c (x_if B0 (t_ne hr (pd_var 2) (pd_lst (pa_n))) (ss_1 (x_ret B0 (pd_var 2))) (ss_nil)) (ss_1 (x_ret B0 (pd_if (t_eq hr (pd_d (ok_total G) hr rfl (pr_v (pd_f (pf_lc (own := [("_", 3), ("weight", 4)]) (fun _ => rfl) rfl sc_wrong_in_masses.nd (pi_any (pd_var 1)) (blkOk_by rfl) (fun _ _ _ _ _ => pc_t rfl (pcs_c (pc_n 3 (by decide) sc_wrong_in_masses.nd) (pcs_c (pc_n 4 (by decide) sc_wrong_in_masses.nd) (pcs_n)))) (fun _ _ _ _ _ => pts_0) (fun _ _ _ _ _ => pd_var 4))) (pr_n))) (pd_cst rfl G.k_WHOLE)) (pd_lst (pa_n)) (pd_lst (pa_c (pd_non) (pa_n)))))))
theorem sc_is_share : FnScope ["value"] ["value"] (defScope s_is_share) := ⟨rfl, rfl, rfl, by decide +kernel, rfl, by decide +kernel, by decide +kernel⟩
theorem ok_is_share (G : Gs K mg base) : Def P w K mg base (TT K) 4 "is_share" "is_share" s_is_share ["value"] 1 F_is_share := def_of (N := ["value"]) (ps := ["value"]) (m := m_is_share) G.d_is_share G.g_is_share sc_is_share rfl (fun _ _ _ _ _ _ us hl => match us, hl with | [_], _ => rfl) fun cd hcd A outer s H E hr =>
  ss_1 (x_ret B0 (pd_and (pd_d (ok_is_fraction G) hr rfl (pr_v (pd_var 0) (pr_n))) (pd_1a (c_ge (o_ix (pd_var 0) (pd_int)) (pd_int)))))
theorem sc_wrong_in_chances : FnScope ["frame", "value", "found"] ["frame", "value"] (defScope s_wrong_in_chances) := ⟨rfl, rfl, rfl, by decide +kernel, rfl, by decide +kernel, by decide +kernel⟩
theorem ok_wrong_in_chances (G : Gs K mg base) : Def P w K mg base (TT K) 8 "wrong_in_chances" "wrong_in_chances" s_wrong_in_chances ["frame", "value"] 2 F_wrong_in_chances := def_of (N := ["frame", "value", "found"]) (ps := ["frame", "value"]) (m := m_wrong_in_chances) G.d_wrong_in_chances G.g_wrong_in_chances sc_wrong_in_chances rfl (fun _ _ _ _ _ _ us hl => match us, hl with | [_, _], _ => rfl) fun cd hcd A outer s H E hr =>
  ss_c (s_set 2 sc_wrong_in_chances.nd (pd_h (ok_wrong_in_all (4) G) hr rfl (pl_c (pd_var 1) (pl_c (b_len G.f_len rfl (pa_c (pd_var 0) (pa_n))) (pl_d (ok_is_share G) (by decide) rfl))))) (ss_c (x_if B0 (t_ne hr (pd_var 2) (pd_lst (pa_n))) (ss_1 (x_ret B0 (pd_var 2))) (ss_nil)) (ss_1 (x_ret B0 (pd_if (t_eq hr (pd_d (ok_total G) hr rfl (pr_v (pd_var 1) (pr_n))) (pd_cst rfl G.k_WHOLE)) (pd_lst (pa_n)) (pd_lst (pa_c (pd_non) (pa_n)))))))
theorem sc_given_to : FnScope ["frame", "masses", "choose", "found", "some", "weight", "thing"] ["frame", "masses", "choose"] (defScope s_given_to) := ⟨rfl, rfl, rfl, by decide +kernel, rfl, by decide +kernel, by decide +kernel⟩
theorem ok_given_to (kk : Nat) (G : Gs K mg base) : Ho P w K mg base (TT K) (kk + 4) kk "given_to" ["frame", "masses", "choose"] 3 F_given_to := ho_def (N := ["frame", "masses", "choose", "found", "some", "weight", "thing"]) (ps := ["frame", "masses", "choose"]) (m := m_given_to) G.d_given_to G.g_given_to sc_given_to rfl (fun _ _ _ _ _ _ us hl => match us, hl with | [_, _, _], _ => rfl) fun cd hcd A outer s H Φ hr hΦ =>
  ss_c (s_newC 3 sc_given_to.nd (pn_dcK [("thing", 6)] rfl rfl sc_given_to.nd (pd_var 0) (blkOk_by rfl) G.k_NOTHING (fun _ _ _ _ _ => pg_name sc_given_to.nd rfl (.inl rfl) (.inr rfl)) (fun _ _ _ _ _ => pe_var rfl (.inl rfl)) (fun _ _ _ _ _ => rfl))) (ss_c (s_for PassesOwn.never rfl (pi_any (pd_var 1)) (pg_t rfl (pgs_c (pg_n 4 sc_given_to.nd) (pgs_c (pg_n 5 sc_given_to.nd) (pgs_n)))) (ss_c (s_set 6 sc_given_to.nd (pd_fn 2 hΦ rfl (hr.mono (by omega)) (pa_c (pd_var 4) (pa_n)))) (ss_1 (s_putD 3 hr (pd_var 6) (pd_d (ok_plus G) hr rfl (pr_v (pd_getD 3 (by exact hr) (pd_var 6)) (pr_v (pd_var 5) (pr_n))) (by omega)))))) (ss_1 (x_ret B0 (b_tuple G.f_tuple rfl (pa_c (pd_f (pf_lc (own := [("thing", 6)]) (fun _ => rfl) rfl sc_given_to.nd (pi_any (pd_var 0)) (blkOk_by rfl) (fun _ _ _ _ _ => pc_n 6 (by decide) sc_given_to.nd) (fun _ _ _ _ _ => pts_0) (fun _ _ _ _ _ => pd_getD 3 (by exact hr) (pd_var 6)))) (pa_n))))))
theorem sc_check_frame : FnScope ["frame", "index"] ["frame"] (defScope s_check_frame) := ⟨rfl, rfl, rfl, by decide +kernel, rfl, by decide +kernel, by decide +kernel⟩
theorem ok_check_frame (G : Gs K mg base) : Def P w K mg base (TT K) 6 "check_frame" "check_frame" s_check_frame ["frame"] 1 F_check_frame := def_of (N := ["frame", "index"]) (ps := ["frame"]) (m := m_check_frame) G.d_check_frame G.g_check_frame sc_check_frame rfl (fun _ _ _ _ _ _ us hl => match us, hl with | [_], _ => rfl) fun cd hcd A outer s H E hr =>
  ss_1 (s_for PassesOwn.never rfl (pi_any (pd_d (ok_wrong_in_frame G) hr rfl (pr_v (pd_var 0) (pr_n)))) (pg_n 1 sc_check_frame.nd) (ss_1 (s_never)))
theorem sc_check_masses : FnScope ["frame", "masses", "index"] ["frame", "masses"] (defScope s_check_masses) := ⟨rfl, rfl, rfl, by decide +kernel, rfl, by decide +kernel, by decide +kernel⟩
theorem ok_check_masses (G : Gs K mg base) : Def P w K mg base (TT K) 9 "check_masses" "check_masses" s_check_masses ["frame", "masses"] 2 F_check_masses := def_of (N := ["frame", "masses", "index"]) (ps := ["frame", "masses"]) (m := m_check_masses) G.d_check_masses G.g_check_masses sc_check_masses rfl (fun _ _ _ _ _ _ us hl => match us, hl with | [_, _], _ => rfl) fun cd hcd A outer s H E hr =>
  ss_c (x_ex B0 (pd_d (ok_check_frame G) hr rfl (pr_v (pd_var 0) (pr_n)))) (ss_1 (s_for PassesOwn.never rfl (pi_any (pd_d (ok_wrong_in_masses G) hr rfl (pr_v (pd_var 0) (pr_v (pd_var 1) (pr_n))))) (pg_n 2 sc_check_masses.nd) (ss_1 (s_never))))
theorem sc_check_chances : FnScope ["frame", "chances", "index"] ["frame", "chances"] (defScope s_check_chances) := ⟨rfl, rfl, rfl, by decide +kernel, rfl, by decide +kernel, by decide +kernel⟩
theorem ok_check_chances (G : Gs K mg base) : Def P w K mg base (TT K) 9 "check_chances" "check_chances" s_check_chances ["frame", "chances"] 2 F_check_chances := def_of (N := ["frame", "chances", "index"]) (ps := ["frame", "chances"]) (m := m_check_chances) G.d_check_chances G.g_check_chances sc_check_chances rfl (fun _ _ _ _ _ _ us hl => match us, hl with | [_, _], _ => rfl) fun cd hcd A outer s H E hr =>
  ss_1 (s_for PassesOwn.never rfl (pi_any (pd_d (ok_wrong_in_chances G) hr rfl (pr_v (pd_var 0) (pr_v (pd_var 1) (pr_n))))) (pg_n 2 sc_check_chances.nd) (ss_1 (s_never)))
theorem sc_is_worth : FnScope ["value"] ["value"] (defScope s_is_worth) := ⟨rfl, rfl, rfl, by decide +kernel, rfl, by decide +kernel, by decide +kernel⟩
theorem ok_is_worth (G : Gs K mg base) : Def P w K mg base (TT K) 3 "is_worth" "is_worth" s_is_worth ["value"] 1 F_is_worth := def_of (N := ["value"]) (ps := ["value"]) (m := m_is_worth) G.d_is_worth G.g_is_worth sc_is_worth rfl (fun _ _ _ _ _ _ us hl => match us, hl with | [_], _ => rfl) fun cd hcd A outer s H E hr =>
  ss_1 (x_ret B0 (pd_d (ok_is_between G) hr rfl (pr_v (pd_var 0) (pr_v (o_neg (pd_cst rfl G.k_MOST_WORTH)) (pr_v (pd_cst rfl G.k_MOST_WORTH) (pr_n))))))
theorem sc_wrong_in_worths : FnScope ["frame", "value"] ["frame", "value"] (defScope s_wrong_in_worths) := ⟨rfl, rfl, rfl, by decide +kernel, rfl, by decide +kernel, by decide +kernel⟩
theorem ok_wrong_in_worths (G : Gs K mg base) : Def P w K mg base (TT K) 7 "wrong_in_worths" "wrong_in_worths" s_wrong_in_worths ["frame", "value"] 2 F_wrong_in_worths := def_of (N := ["frame", "value"]) (ps := ["frame", "value"]) (m := m_wrong_in_worths) G.d_wrong_in_worths G.g_wrong_in_worths sc_wrong_in_worths rfl (fun _ _ _ _ _ _ us hl => match us, hl with | [_, _], _ => rfl) fun cd hcd A outer s H E hr =>
  ss_1 (x_ret B0 (pd_h (ok_wrong_in_all (3) G) hr rfl (pl_c (pd_var 1) (pl_c (b_len G.f_len rfl (pa_c (pd_var 0) (pa_n))) (pl_d (ok_is_worth G) (by decide) rfl)))))
theorem sc_mean_by : FnScope ["chances", "worths", "chance", "worth"] ["chances", "worths"] (defScope s_mean_by) := ⟨rfl, rfl, rfl, by decide +kernel, rfl, by decide +kernel, by decide +kernel⟩
theorem ok_mean_by (G : Gs K mg base) : Def P w K mg base (TT K) 4 "mean_by" "mean_by" s_mean_by ["chances", "worths"] 2 F_mean_by := def_of (N := ["chances", "worths", "chance", "worth"]) (ps := ["chances", "worths"]) (m := m_mean_by) G.d_mean_by G.g_mean_by sc_mean_by rfl (fun _ _ _ _ _ _ us hl => match us, hl with | [_, _], _ => rfl) fun cd hcd A outer s H E hr =>
  ss_1 (x_ret B0 (pd_d (ok_total G) hr rfl (pr_v (pd_f (pf_lc (own := [("chance", 2), ("worth", 3)]) (fun _ => rfl) rfl sc_mean_by.nd (pi_z rfl G.f_zip (pa_c (pd_var 0) (pa_c (pd_var 1) (pa_n)))) (blkOk_by rfl) (fun _ _ _ _ _ => pc_t rfl (pcs_c (pc_n 2 (by decide) sc_mean_by.nd) (pcs_c (pc_n 3 (by decide) sc_mean_by.nd) (pcs_n)))) (fun _ _ _ _ _ => pts_0) (fun _ _ _ _ _ => pd_d (ok_lowest G) hr rfl (pr_v (o_mul (o_ix (pd_var 2) (pd_int)) (pd_var 3)) (pr_v (o_ix (pd_var 2) (pd_int)) (pr_n)))))) (pr_n))))
theorem sc_least_of : FnScope ["frame", "masses", "worths", "told", "thing"] ["frame", "masses", "worths"] (defScope s_least_of) := ⟨rfl, rfl, rfl, by decide +kernel, rfl, by decide +kernel, by decide +kernel⟩
theorem ok_least_of (G : Gs K mg base) : Def P w K mg base (TT K) 6 "least_of" "least_of" s_least_of ["frame", "masses", "worths"] 3 F_least_of := def_of (N := ["frame", "masses", "worths", "told", "thing"]) (ps := ["frame", "masses", "worths"]) (m := m_least_of) G.d_least_of G.g_least_of sc_least_of rfl (fun _ _ _ _ _ _ us hl => match us, hl with | [_, _, _], _ => rfl) fun cd hcd A outer s H E hr =>
  ss_c (s_set 3 sc_least_of.nd (pd_ofN (pn_dzip2 rfl G.f_dict G.f_zip rfl rfl (pa_c (pd_var 0) (pa_c (pd_var 2) (pa_n)))))) (ss_1 (x_ret B0 (pd_h (ok_given_to (1) G) hr rfl (pl_c (pd_var 0) (pl_c (pd_var 1) (pl_l (kb := 0) (kΦ := 0) ["own", "told", "thing"] ["own"] ["told"] [3] rfl G.t_least_of (hcd.trans G.c_least_of) G.m_least_of G.u rfl rfl rfl rfl rfl (fun _ _ _ _ _ us hl => match us, hl with | [_], _ => rfl) fx_no (fun f c' cl A outer s1 H1 hr hΦ => o_ix (b_minL rfl (by exact hr) G.f_min rfl (pa_c (pd_f (pf_lc (own := [("thing", 2)]) (fun _ => rfl) rfl (show (["own", "told", "thing"] : List Str).Nodup from by decide +kernel) (pi_any (pd_var 0)) (blkOk_by rfl) (fun _ _ _ _ _ => pc_n 2 (by decide) (show (["own", "told", "thing"] : List Str).Nodup from by decide +kernel)) (fun _ _ _ _ _ => pts_0) (fun _ _ _ _ _ => pd_tup (pa_c (pd_dget (by exact hr) (pd_var 1) (pd_var 2)) (pa_c (pd_var 2) (pa_n)))))) (pa_n))) (pd_int))))))))
theorem sc_greatest_of : FnScope ["frame", "masses", "worths", "worth"] ["frame", "masses", "worths"] (defScope s_greatest_of) := ⟨rfl, rfl, rfl, by decide +kernel, rfl, by decide +kernel, by decide +kernel⟩
theorem ok_greatest_of (G : Gs K mg base) : Def P w K mg base (TT K) 7 "greatest_of" "greatest_of" s_greatest_of ["frame", "masses", "worths"] 3 F_greatest_of := def_of (N := ["frame", "masses", "worths", "worth"]) (ps := ["frame", "masses", "worths"]) (m := m_greatest_of) G.d_greatest_of G.g_greatest_of sc_greatest_of rfl (fun _ _ _ _ _ _ us hl => match us, hl with | [_, _, _], _ => rfl) fun cd hcd A outer s H E hr =>
  ss_1 (x_ret B0 (pd_d (ok_least_of G) hr rfl (pr_v (pd_var 0) (pr_v (pd_var 1) (pr_v (pd_f (pf_lc (own := [("worth", 3)]) (fun _ => rfl) rfl sc_greatest_of.nd (pi_any (pd_var 2)) (blkOk_by rfl) (fun _ _ _ _ _ => pc_n 3 (by decide) sc_greatest_of.nd) (fun _ _ _ _ _ => pts_0) (fun _ _ _ _ _ => o_neg (pd_var 3)))) (pr_n))))))
theorem sc_least_mean : FnScope ["frame", "masses", "worths"] ["frame", "masses", "worths"] (defScope s_least_mean) := ⟨rfl, rfl, rfl, by decide +kernel, rfl, by decide +kernel, by decide +kernel⟩
theorem ok_least_mean (G : Gs K mg base) : Def P w K mg base (TT K) 7 "least_mean" "least_mean" s_least_mean ["frame", "masses", "worths"] 3 F_least_mean := def_of (N := ["frame", "masses", "worths"]) (ps := ["frame", "masses", "worths"]) (m := m_least_mean) G.d_least_mean G.g_least_mean sc_least_mean rfl (fun _ _ _ _ _ _ us hl => match us, hl with | [_, _, _], _ => rfl) fun cd hcd A outer s H E hr =>
  ss_1 (x_ret B0 (pd_d (ok_mean_by G) hr rfl (pr_v (pd_d (ok_least_of G) hr rfl (pr_v (pd_var 0) (pr_v (pd_var 1) (pr_v (pd_var 2) (pr_n))))) (pr_v (pd_var 2) (pr_n)))))
theorem sc_greatest_mean : FnScope ["frame", "masses", "worths"] ["frame", "masses", "worths"] (defScope s_greatest_mean) := ⟨rfl, rfl, rfl, by decide +kernel, rfl, by decide +kernel, by decide +kernel⟩
theorem ok_greatest_mean (G : Gs K mg base) : Def P w K mg base (TT K) 8 "greatest_mean" "greatest_mean" s_greatest_mean ["frame", "masses", "worths"] 3 F_greatest_mean := def_of (N := ["frame", "masses", "worths"]) (ps := ["frame", "masses", "worths"]) (m := m_greatest_mean) G.d_greatest_mean G.g_greatest_mean sc_greatest_mean rfl (fun _ _ _ _ _ _ us hl => match us, hl with | [_, _, _], _ => rfl) fun cd hcd A outer s H E hr =>
  ss_1 (x_ret B0 (pd_d (ok_mean_by G) hr rfl (pr_v (pd_d (ok_greatest_of G) hr rfl (pr_v (pd_var 0) (pr_v (pd_var 1) (pr_v (pd_var 2) (pr_n))))) (pr_v (pd_var 2) (pr_n)))))
theorem sc_check_worths : FnScope ["frame", "worths", "index"] ["frame", "worths"] (defScope s_check_worths) := ⟨rfl, rfl, rfl, by decide +kernel, rfl, by decide +kernel, by decide +kernel⟩
theorem ok_check_worths (G : Gs K mg base) : Def P w K mg base (TT K) 8 "check_worths" "check_worths" s_check_worths ["frame", "worths"] 2 F_check_worths := def_of (N := ["frame", "worths", "index"]) (ps := ["frame", "worths"]) (m := m_check_worths) G.d_check_worths G.g_check_worths sc_check_worths rfl (fun _ _ _ _ _ _ us hl => match us, hl with | [_, _], _ => rfl) fun cd hcd A outer s H E hr =>
  ss_1 (s_for PassesOwn.never rfl (pi_any (pd_d (ok_wrong_in_worths G) hr rfl (pr_v (pd_var 0) (pr_v (pd_var 1) (pr_n))))) (pg_n 2 sc_check_worths.nd) (ss_1 (s_never)))
theorem sc_check_worth : FnScope ["frame", "masses", "worths"] ["frame", "masses", "worths"] (defScope s_check_worth) := ⟨rfl, rfl, rfl, by decide +kernel, rfl, by decide +kernel, by decide +kernel⟩
theorem ok_check_worth (G : Gs K mg base) : Def P w K mg base (TT K) 10 "check_worth" "check_worth" s_check_worth ["frame", "masses", "worths"] 3 F_check_worth := def_of (N := ["frame", "masses", "worths"]) (ps := ["frame", "masses", "worths"]) (m := m_check_worth) G.d_check_worth G.g_check_worth sc_check_worth rfl (fun _ _ _ _ _ _ us hl => match us, hl with | [_, _, _], _ => rfl) fun cd hcd A outer s H E hr =>
  ss_c (x_ex B0 (pd_d (ok_check_masses G) hr rfl (pr_v (pd_var 0) (pr_v (pd_var 1) (pr_n))))) (ss_1 (x_ex B0 (pd_d (ok_check_worths G) hr rfl (pr_v (pd_var 0) (pr_v (pd_var 2) (pr_n))))))
theorem sc_least_worth : FnScope ["frame", "masses", "worths"] ["frame", "masses", "worths"] (defScope s_least_worth) := ⟨rfl, rfl, rfl, by decide +kernel, rfl, by decide +kernel, by decide +kernel⟩
theorem ok_least_worth (G : Gs K mg base) : Def P w K mg base (TT K) 11 "least_worth" "least_worth" s_least_worth ["frame", "masses", "worths"] 3 F_least_worth := def_of (N := ["frame", "masses", "worths"]) (ps := ["frame", "masses", "worths"]) (m := m_least_worth) G.d_least_worth G.g_least_worth sc_least_worth rfl (fun _ _ _ _ _ _ us hl => match us, hl with | [_, _, _], _ => rfl) fun cd hcd A outer s H E hr =>
  ss_c (x_ex B0 (pd_d (ok_check_worth G) hr rfl (pr_v (pd_var 0) (pr_v (pd_var 1) (pr_v (pd_var 2) (pr_n)))))) (ss_1 (x_ret B0 (pd_d (ok_least_mean G) hr rfl (pr_v (pd_var 0) (pr_v (pd_var 1) (pr_v (pd_var 2) (pr_n)))))))
theorem sc_greatest_worth : FnScope ["frame", "masses", "worths"] ["frame", "masses", "worths"] (defScope s_greatest_worth) := ⟨rfl, rfl, rfl, by decide +kernel, rfl, by decide +kernel, by decide +kernel⟩
theorem ok_greatest_worth (G : Gs K mg base) : Def P w K mg base (TT K) 11 "greatest_worth" "greatest_worth" s_greatest_worth ["frame", "masses", "worths"] 3 F_greatest_worth := def_of (N := ["frame", "masses", "worths"]) (ps := ["frame", "masses", "worths"]) (m := m_greatest_worth) G.d_greatest_worth G.g_greatest_worth sc_greatest_worth rfl (fun _ _ _ _ _ _ us hl => match us, hl with | [_, _, _], _ => rfl) fun cd hcd A outer s H E hr =>
  ss_c (x_ex B0 (pd_d (ok_check_worth G) hr rfl (pr_v (pd_var 0) (pr_v (pd_var 1) (pr_v (pd_var 2) (pr_n)))))) (ss_1 (x_ret B0 (pd_d (ok_greatest_mean G) hr rfl (pr_v (pd_var 0) (pr_v (pd_var 1) (pr_v (pd_var 2) (pr_n)))))))
theorem sc_mean_of : FnScope ["frame", "chances", "worths"] ["frame", "chances", "worths"] (defScope s_mean_of) := ⟨rfl, rfl, rfl, by decide +kernel, rfl, by decide +kernel, by decide +kernel⟩
theorem ok_mean_of (G : Gs K mg base) : Def P w K mg base (TT K) 10 "mean_of" "mean_of" s_mean_of ["frame", "chances", "worths"] 3 F_mean_of := def_of (N := ["frame", "chances", "worths"]) (ps := ["frame", "chances", "worths"]) (m := m_mean_of) G.d_mean_of G.g_mean_of sc_mean_of rfl (fun _ _ _ _ _ _ us hl => match us, hl with | [_, _, _], _ => rfl) fun cd hcd A outer s H E hr =>
  ss_c (x_ex B0 (pd_d (ok_check_frame G) hr rfl (pr_v (pd_var 0) (pr_n)))) (ss_c (x_ex B0 (pd_d (ok_check_chances G) hr rfl (pr_v (pd_var 0) (pr_v (pd_var 1) (pr_n))))) (ss_c (x_ex B0 (pd_d (ok_check_worths G) hr rfl (pr_v (pd_var 0) (pr_v (pd_var 2) (pr_n))))) (ss_1 (x_ret B0 (pd_d (ok_mean_by G) hr rfl (pr_v (pd_var 1) (pr_v (pd_var 2) (pr_n))))))))
theorem sc_law_voice : FnScope ["script", "lap", "own", "stir", "cell"] ["script", "lap"] (defScope s_law_voice) := ⟨rfl, rfl, rfl, by decide +kernel, rfl, by decide +kernel, by decide +kernel⟩
theorem ok_law_voice (G : Gs K mg base) : DefF P w K mg base (TT K) 1 "_law_voice" ["script", "lap"] 2 F_law_voice := defF_of (N := ["script", "lap", "own", "stir", "cell"]) (ps := ["script", "lap"]) (m := m_law_voice) G.d_law_voice G.g_law_voice sc_law_voice rfl (fun _ _ _ _ _ _ us hl => match us, hl with | [_, _], _ => rfl) fun cd hcd A outer s H E hr =>
  sf_c (s_set 2 sc_law_voice.nd (pd_if (t_lt (pd_var 1) (b_len G.f_len rfl (pa_c (pd_var 0) (pa_n)))) (b_int G.f_int rfl (pa_c (o_ix (pd_var 0) (pd_var 1)) (pa_n))) (pd_int))) (sf_c (s_set 3 sc_law_voice.nd (o_add (pd_int) (o_mul (pd_int) (pd_var 1)))) (sf_c (s_for PassesOwn.never rfl (pi_any (o_add (pd_sl (pd_var 0) (pp_n) (pp_s (pd_int))) (pd_lst (pa_c (pd_var 2) (pa_n))))) (pg_n 4 sc_law_voice.nd) (ss_1 (s_set 3 sc_law_voice.nd (o_mod (b_int G.f_int rfl (pa_c (o_add (o_add (o_mul (pd_var 3) (pd_int)) (o_mod (b_int G.f_int rfl (pa_c (pd_var 4) (pa_n))) (pd_int))) (pd_int)) (pa_n))) (pd_int))))) (sf_ret (pf_lst (pa_c (pd_if (pt_w (pw_o (t_lt (pd_var 2) (pd_int)) (pw_1o (t_ge (pd_var 2) (o_pow (pd_int) (pd_int)))))) (o_mod (b_abs G.f_abs rfl (pa_c (pd_var 2) (pa_n))) (o_pow (pd_int) (pd_int))) (pd_int)) (pa_c (pd_var 3) (pa_c (pd_int) (pa_n))))))))
theorem sc_law_say : FnScope ["voice", "many", "figure"] ["voice", "many"] (defScope s_law_say) := ⟨rfl, rfl, rfl, by decide +kernel, rfl, by decide +kernel, by decide +kernel⟩
theorem ok_law_say (G : Gs K mg base) : Def P w K mg base (TT K) 1 "_law_say" "_law_say" s_law_say ["voice", "many"] 2 F_law_say := def_of (N := ["voice", "many", "figure"]) (ps := ["voice", "many"]) (m := m_law_say) G.d_law_say G.g_law_say sc_law_say rfl (fun _ _ _ _ _ _ us hl => match us, hl with | [_, _], _ => rfl) fun cd hcd A outer s H E hr =>
  ss_c (x_if (Bs [0]) (t_gt (o_ix (pd_own 0) (pd_int)) (pd_int)) (ss_c (x_asF (Bs [0]) (b_divmod G.f_divmod rfl (pa_c (o_ix (pd_own 0) (pd_int)) (pa_c (pd_var 1) (pa_n)))) (pg_t rfl (pgs_c (pg_put 0 (pd_int)) (pgs_c (pg_n 2 sc_law_say.nd) (pgs_n))))) (ss_1 (x_ret B0 (pd_var 2)))) (ss_nil)) (ss_c (x_asF (Bs [0]) (o_add (o_ix (pd_own 0) (pd_int)) (pd_int)) (pg_put 0 (pd_int))) (ss_c (x_asF (Bs [0]) (o_mod (b_int G.f_int rfl (pa_c (o_add (o_add (o_mul (o_ix (pd_own 0) (pd_int)) (o_add (o_mod (b_int G.f_int rfl (pa_c (o_ix (pd_own 0) (pd_int)) (pa_n))) (pd_int)) (pd_int))) (o_mul (pd_int) (o_ix (pd_own 0) (pd_int)))) (pd_int)) (pa_n))) (pd_int)) (pg_put 0 (pd_int))) (ss_1 (x_ret (Bs [0]) (o_mod (b_int G.f_int rfl (pa_c (o_div (o_ix (pd_own 0) (pd_int)) (pd_int)) (pa_n))) (pd_var 1))))))
theorem sc_law_of : FnScope ["voice", "some"] ["voice", "some"] (defScope s_law_of) := ⟨rfl, rfl, rfl, by decide +kernel, rfl, by decide +kernel, by decide +kernel⟩
theorem ok_law_of (G : Gs K mg base) : Def P w K mg base (TT K) 2 "_law_of" "_law_of" s_law_of ["voice", "some"] 2 F_law_of := def_of (N := ["voice", "some"]) (ps := ["voice", "some"]) (m := m_law_of) G.d_law_of G.g_law_of sc_law_of rfl (fun _ _ _ _ _ _ us hl => match us, hl with | [_, _], _ => rfl) fun cd hcd A outer s H E hr =>
  ss_1 (x_ret B0 (o_ix (pd_var 1) (pd_d (ok_law_say G) hr rfl (pr_l 0 (pr_v (b_len G.f_len rfl (pa_c (pd_var 1) (pa_n))) (pr_n))))))
theorem sc_law_same : FnScope ["told", "due", "one", "two"] ["told", "due"] (defScope s_law_same) := ⟨rfl, rfl, rfl, by decide +kernel, rfl, by decide +kernel, by decide +kernel⟩
theorem okr_law_same (G : Gs K mg base) : ∀ i, Def P w K mg base (TT K) (1 + i) "_law_same" "_law_same" s_law_same ["told", "due"] 2 (Fr_law_same i)
  | 0 => def_zero G.d_law_same G.g_law_same rfl (fun _ _ _ _ _ _ us hl => match us, hl with | [_, _], _ => rfl) _
  | i + 1 => def_of (k := 1 + i) (N := ["told", "due", "one", "two"]) (ps := ["told", "due"]) (m := m_law_same (Fr_law_same i)) G.d_law_same G.g_law_same sc_law_same rfl (fun _ _ _ _ _ _ us hl => match us, hl with | [_, _], _ => rfl) fun cd hcd A outer s H E hr =>
  have D := okr_law_same G i
  ss_c (x_if B0 (pt_w (pw_o (pt_v (pd_isi kit_tup rfl G.f_isinstance (by decide +kernel) rfl G.f_tuple (by decide +kernel) (pd_var 1))) (pw_1o (pt_v (pd_isi kit_lst rfl G.f_isinstance (by decide +kernel) rfl G.f_list (by decide +kernel) (pd_var 1)))))) (ss_c (x_if B0 (pt_w (pw_o (t_ne hr (pd_isi kit_tup rfl G.f_isinstance (by decide +kernel) rfl G.f_tuple (by decide +kernel) (pd_var 0)) (pd_isi kit_tup rfl G.f_isinstance (by decide +kernel) rfl G.f_tuple (by decide +kernel) (pd_var 1))) (pw_1o (t_ne hr (pd_isi kit_lst rfl G.f_isinstance (by decide +kernel) rfl G.f_list (by decide +kernel) (pd_var 0)) (pd_isi kit_lst rfl G.f_isinstance (by decide +kernel) rfl G.f_list (by decide +kernel) (pd_var 1)))))) (ss_1 (x_ret B0 (pd_bl))) (ss_nil)) (ss_1 (x_ret B0 (pd_and (c_eq hr (b_len G.f_len rfl (pa_c (pd_var 0) (pa_n))) (b_len G.f_len rfl (pa_c (pd_var 1) (pa_n)))) (pd_1a (b_all rfl G.f_all rfl (pa_c (pd_f (pf_lc (own := [("one", 2), ("two", 3)]) (fun _ => rfl) rfl sc_law_same.nd (pi_z rfl G.f_zip (pa_c (pd_var 0) (pa_c (pd_var 1) (pa_n)))) (blkOk_by rfl) (fun _ _ _ _ _ => pc_t rfl (pcs_c (pc_n 2 (by decide) sc_law_same.nd) (pcs_c (pc_n 3 (by decide) sc_law_same.nd) (pcs_n)))) (fun _ _ _ _ _ => pts_0) (fun _ _ _ _ _ => pd_d D hr rfl (pr_v (pd_var 2) (pr_v (pd_var 3) (pr_n))) (Nat.le_refl _)))) (pa_n)))))))) (ss_nil)) (ss_c (x_if B0 (t_isN (pd_var 1)) (ss_1 (x_ret B0 (pd_isN (pd_var 0)))) (ss_nil)) (ss_c (x_if B0 (pt_v (pd_isi kit_int rfl G.f_isinstance (by decide +kernel) rfl G.f_int (by decide +kernel) (pd_var 1))) (ss_1 (x_ret B0 (pd_and (pd_isi kit_int rfl G.f_isinstance (by decide +kernel) rfl G.f_int (by decide +kernel) (pd_var 0)) (pd_and (c_eq hr (pd_isi kit_bool rfl G.f_isinstance (by decide +kernel) rfl G.f_bool (by decide +kernel) (pd_var 0)) (pd_isi kit_bool rfl G.f_isinstance (by decide +kernel) rfl G.f_bool (by decide +kernel) (pd_var 1))) (pd_1a (c_eq hr (pd_var 0) (pd_var 1))))))) (ss_nil)) (ss_1 (x_ret B0 (pd_and (pd_isi kit_str rfl G.f_isinstance (by decide +kernel) rfl G.f_str (by decide +kernel) (pd_var 1)) (pd_and (pd_isi kit_str rfl G.f_isinstance (by decide +kernel) rfl G.f_str (by decide +kernel) (pd_var 0)) (pd_1a (c_eq hr (pd_var 0) (pd_var 1)))))))))
theorem ok_law_same (G : Gs K mg base) : Def P w K mg base (TT K) 7 "_law_same" "_law_same" s_law_same ["told", "due"] 2 F_law_same := okr_law_same G 6
theorem sc_law_low : FnScope ["top", "under", "one", "two"] ["top", "under"] (defScope s_law_low) := ⟨rfl, rfl, rfl, by decide +kernel, rfl, by decide +kernel, by decide +kernel⟩
theorem ok_law_low (G : Gs K mg base) : Def P w K mg base (TT K) 1 "_law_low" "_law_low" s_law_low ["top", "under"] 2 F_law_low := def_of (N := ["top", "under", "one", "two"]) (ps := ["top", "under"]) (m := m_law_low) G.d_law_low G.g_law_low sc_law_low rfl (fun _ _ _ _ _ _ us hl => match us, hl with | [_, _], _ => rfl) fun cd hcd A outer s H E hr =>
  ss_c (s_par B0 2 3 rfl sc_law_low.nd (pa_c (b_abs G.f_abs rfl (pa_c (pd_var 0) (pa_n))) (pa_c (b_abs G.f_abs rfl (pa_c (pd_var 1) (pa_n))) (pa_n)))) (ss_c (x_while B0 PassesOwn.never (t_gt (pd_var 3) (pd_int)) (ss_1 (s_par B0 2 3 rfl sc_law_low.nd (pa_c (pd_var 3) (pa_c (o_mod (b_int G.f_int rfl (pa_c (pd_var 2) (pa_n))) (pd_var 3)) (pa_n)))))) (ss_c (s_set 2 sc_law_low.nd (pd_if (t_gt (pd_var 1) (pd_int)) (pd_var 2) (o_sub (pd_int) (pd_var 2)))) (ss_1 (x_ret B0 (pd_tup (pa_c (o_div (pd_var 0) (pd_var 2)) (pa_c (o_div (pd_var 1) (pd_var 2)) (pa_n))))))))
theorem sc_law_plus : FnScope ["one", "two"] ["one", "two"] (defScope s_law_plus) := ⟨rfl, rfl, rfl, by decide +kernel, rfl, by decide +kernel, by decide +kernel⟩
theorem ok_law_plus (G : Gs K mg base) : Def P w K mg base (TT K) 2 "_law_plus" "_law_plus" s_law_plus ["one", "two"] 2 F_law_plus := def_of (N := ["one", "two"]) (ps := ["one", "two"]) (m := m_law_plus) G.d_law_plus G.g_law_plus sc_law_plus rfl (fun _ _ _ _ _ _ us hl => match us, hl with | [_, _], _ => rfl) fun cd hcd A outer s H E hr =>
  ss_1 (x_ret B0 (pd_d (ok_law_low G) hr rfl (pr_v (o_add (o_mul (o_ix (pd_var 0) (pd_int)) (o_ix (pd_var 1) (pd_int))) (o_mul (o_ix (pd_var 1) (pd_int)) (o_ix (pd_var 0) (pd_int)))) (pr_v (o_mul (o_ix (pd_var 0) (pd_int)) (o_ix (pd_var 1) (pd_int))) (pr_n)))))
theorem sc_law_less : FnScope ["one", "two"] ["one", "two"] (defScope s_law_less) := ⟨rfl, rfl, rfl, by decide +kernel, rfl, by decide +kernel, by decide +kernel⟩
theorem ok_law_less (G : Gs K mg base) : Def P w K mg base (TT K) 2 "_law_less" "_law_less" s_law_less ["one", "two"] 2 F_law_less := def_of (N := ["one", "two"]) (ps := ["one", "two"]) (m := m_law_less) G.d_law_less G.g_law_less sc_law_less rfl (fun _ _ _ _ _ _ us hl => match us, hl with | [_, _], _ => rfl) fun cd hcd A outer s H E hr =>
  ss_1 (x_ret B0 (pd_d (ok_law_low G) hr rfl (pr_v (o_sub (o_mul (o_ix (pd_var 0) (pd_int)) (o_ix (pd_var 1) (pd_int))) (o_mul (o_ix (pd_var 1) (pd_int)) (o_ix (pd_var 0) (pd_int)))) (pr_v (o_mul (o_ix (pd_var 0) (pd_int)) (o_ix (pd_var 1) (pd_int))) (pr_n)))))
theorem sc_law_times : FnScope ["one", "two"] ["one", "two"] (defScope s_law_times) := ⟨rfl, rfl, rfl, by decide +kernel, rfl, by decide +kernel, by decide +kernel⟩
theorem ok_law_times (G : Gs K mg base) : Def P w K mg base (TT K) 2 "_law_times" "_law_times" s_law_times ["one", "two"] 2 F_law_times := def_of (N := ["one", "two"]) (ps := ["one", "two"]) (m := m_law_times) G.d_law_times G.g_law_times sc_law_times rfl (fun _ _ _ _ _ _ us hl => match us, hl with | [_, _], _ => rfl) fun cd hcd A outer s H E hr =>
  ss_1 (x_ret B0 (pd_d (ok_law_low G) hr rfl (pr_v (o_mul (o_ix (pd_var 0) (pd_int)) (o_ix (pd_var 1) (pd_int))) (pr_v (o_mul (o_ix (pd_var 0) (pd_int)) (o_ix (pd_var 1) (pd_int))) (pr_n)))))
theorem sc_law_up_to : FnScope ["one", "two"] ["one", "two"] (defScope s_law_up_to) := ⟨rfl, rfl, rfl, by decide +kernel, rfl, by decide +kernel, by decide +kernel⟩
theorem ok_law_up_to (G : Gs K mg base) : Def P w K mg base (TT K) 1 "_law_up_to" "_law_up_to" s_law_up_to ["one", "two"] 2 F_law_up_to := def_of (N := ["one", "two"]) (ps := ["one", "two"]) (m := m_law_up_to) G.d_law_up_to G.g_law_up_to sc_law_up_to rfl (fun _ _ _ _ _ _ us hl => match us, hl with | [_, _], _ => rfl) fun cd hcd A outer s H E hr =>
  ss_1 (x_ret B0 (c_le (o_mul (o_ix (pd_var 0) (pd_int)) (o_ix (pd_var 1) (pd_int))) (o_mul (o_ix (pd_var 1) (pd_int)) (o_ix (pd_var 0) (pd_int)))))
theorem sc_law_sum : FnScope ["some", "found", "each"] ["some"] (defScope s_law_sum) := ⟨rfl, rfl, rfl, by decide +kernel, rfl, by decide +kernel, by decide +kernel⟩
theorem ok_law_sum (G : Gs K mg base) : Def P w K mg base (TT K) 3 "_law_sum" "_law_sum" s_law_sum ["some"] 1 F_law_sum := def_of (N := ["some", "found", "each"]) (ps := ["some"]) (m := m_law_sum) G.d_law_sum G.g_law_sum sc_law_sum rfl (fun _ _ _ _ _ _ us hl => match us, hl with | [_], _ => rfl) fun cd hcd A outer s H E hr =>
  ss_c (s_set 1 sc_law_sum.nd (pd_tup (pa_c (pd_int) (pa_c (pd_int) (pa_n))))) (ss_c (s_for PassesOwn.never rfl (pi_any (pd_var 0)) (pg_n 2 sc_law_sum.nd) (ss_1 (s_set 1 sc_law_sum.nd (pd_d (ok_law_plus G) hr rfl (pr_v (pd_var 1) (pr_v (pd_var 2) (pr_n))))))) (ss_1 (x_ret B0 (pd_var 1))))
theorem sc_law_frame : FnScope ["voice", "most", "words", "lap", "bad", "found", "word", "spot", "each", "sign"] ["voice", "most"] (defScope s_law_frame) := ⟨rfl, rfl, rfl, by decide +kernel, rfl, by decide +kernel, by decide +kernel⟩
theorem ok_law_frame (G : Gs K mg base) : Def P w K mg base (TT K) 3 "_law_frame" "_law_frame" s_law_frame ["voice", "most"] 2 F_law_frame := def_of (N := ["voice", "most", "words", "lap", "bad", "found", "word", "spot", "each", "sign"]) (ps := ["voice", "most"]) (m := m_law_frame) G.d_law_frame G.g_law_frame sc_law_frame rfl (fun _ _ _ _ _ _ us hl => match us, hl with | [_, _], _ => rfl) fun cd hcd A outer s H E hr =>
  ss_c (s_set 2 sc_law_frame.nd (pd_split (pd_str) (pd_str))) (ss_c (s_asVC 4 5 rfl sc_law_frame.nd (o_add (pd_var 2) (pd_split (pd_str) (pd_str))) (pn_l (pf_lst (pa_n)))) (ss_c (s_for PassesOwn.never rfl (pi_r1 rfl G.f_range (pa_c (o_add (pd_int) (pd_d (ok_law_say G) hr rfl (pr_l 0 (pr_v (pd_var 1) (pr_n))))) (pa_n))) (pg_n 3 sc_law_frame.nd) (ss_c (s_set 6 sc_law_frame.nd (pd_str)) (ss_c (s_for PassesOwn.never rfl (pi_r1 rfl G.f_range (pa_c (o_add (pd_int) (pd_d (ok_law_of G) hr rfl (pr_l 0 (pr_v (pd_lst (pa_c (pd_int) (pa_c (pd_int) (pa_c (pd_int) (pa_c (pd_int) (pa_c (pd_int) (pa_n))))))) (pr_n))))) (pa_n))) (pg_n 7 sc_law_frame.nd) (ss_1 (s_set 6 sc_law_frame.nd (o_add (pd_var 6) (pd_d (ok_law_of G) hr rfl (pr_l 0 (pr_v (pd_str) (pr_n)))))))) (ss_c (s_set 6 sc_law_frame.nd (pd_d (ok_law_of G) hr rfl (pr_l 0 (pr_v (pd_lst (pa_c (pd_str) (pa_c (pd_str) (pa_c (pd_str) (pa_c (pd_var 6) (pa_c (pd_var 6) (pa_c (pd_var 6) (pa_c (pd_var 6) (pa_n))))))))) (pr_n))))) (ss_1 (x_append (Bs [5]) false 5 (fun h => by cases h) (o_ix (pd_f (pf_lc (own := [("each", 8)]) (fun h => by cases h) rfl sc_law_frame.nd (pi_any (o_add (pd_lst (pa_c (pd_var 6) (pa_n))) (pd_f (pf_lc (own := [("sign", 9)]) (fun h => by cases h) rfl sc_law_frame.nd (pi_any (pd_str)) (blkOk_by rfl) (fun _ _ _ _ _ => pc_n 9 (by decide) sc_law_frame.nd) (fun _ _ _ _ _ => pts_0) (fun _ _ _ _ _ => o_add (pd_sl (pd_var 6) (pp_n) (pp_s (pd_int))) (pd_var 9)))))) (blkOk_by rfl) (fun _ _ _ _ _ => pc_n 8 (by decide) sc_law_frame.nd) (fun _ _ _ _ _ => pts_1 (t_notin hr (pd_var 8) (o_add (pd_var 4) (pd_own 5)))) (fun _ _ _ _ _ => pd_var 8))) (pd_int)))))))) (ss_1 (x_ret (Bs [5]) (b_tuple G.f_tuple rfl (pa_c (b_sorted (by exact hr) G.f_sorted (by rfl) (pa_c (pd_own 5) (pa_n))) (pa_n)))))))
theorem sc_law_sets : FnScope ["frame", "found", "thing", "size", "some"] ["frame"] (defScope s_law_sets) := ⟨rfl, rfl, rfl, by decide +kernel, rfl, by decide +kernel, by decide +kernel⟩
theorem ok_law_sets (G : Gs K mg base) : Def P w K mg base (TT K) 1 "_law_sets" "_law_sets" s_law_sets ["frame"] 1 F_law_sets := def_of (N := ["frame", "found", "thing", "size", "some"]) (ps := ["frame"]) (m := m_law_sets) G.d_law_sets G.g_law_sets sc_law_sets rfl (fun _ _ _ _ _ _ us hl => match us, hl with | [_], _ => rfl) fun cd hcd A outer s H E hr =>
  ss_c (s_set 1 sc_law_sets.nd (pd_lst (pa_c (pd_tup (pa_n)) (pa_n)))) (ss_c (s_for PassesOwn.never rfl (pi_any (pd_var 0)) (pg_n 2 sc_law_sets.nd) (ss_1 (s_set 1 sc_law_sets.nd (o_add (pd_var 1) (pd_f (pf_lc (own := [("some", 4)]) (fun _ => rfl) rfl sc_law_sets.nd (pi_any (pd_var 1)) (blkOk_by rfl) (fun _ _ _ _ _ => pc_n 4 (by decide) sc_law_sets.nd) (fun _ _ _ _ _ => pts_0) (fun _ _ _ _ _ => o_add (pd_var 4) (pd_tup (pa_c (pd_var 2) (pa_n)))))))))) (ss_1 (x_ret B0 (pd_f (pf_lc (own := [("size", 3), ("some", 4)]) (fun _ => rfl) rfl sc_law_sets.nd (pi_any (b_sorted (by exact hr) G.f_sorted (by rfl) (pa_c (pd_f (pf_lc (own := [("some", 4)]) (fun _ => rfl) rfl sc_law_sets.nd (pi_any (pd_var 1)) (blkOk_by rfl) (fun _ _ _ _ _ => pc_n 4 (by decide) sc_law_sets.nd) (fun _ _ _ _ _ => pts_0) (fun _ _ _ _ _ => pd_tup (pa_c (b_len G.f_len rfl (pa_c (pd_var 4) (pa_n))) (pa_c (pd_var 4) (pa_n)))))) (pa_n)))) (blkOk_by rfl) (fun _ _ _ _ _ => pc_t rfl (pcs_c (pc_n 3 (by decide) sc_law_sets.nd) (pcs_c (pc_n 4 (by decide) sc_law_sets.nd) (pcs_n)))) (fun _ _ _ _ _ => pts_0) (fun _ _ _ _ _ => pd_var 4))))))
theorem sc_law_shared : FnScope ["voice", "many", "rows", "lap", "row"] ["voice", "many"] (defScope s_law_shared) := ⟨rfl, rfl, rfl, by decide +kernel, rfl, by decide +kernel, by decide +kernel⟩
theorem ok_law_shared (G : Gs K mg base) : Def P w K mg base (TT K) 3 "_law_shared" "_law_shared" s_law_shared ["voice", "many"] 2 F_law_shared := def_of (N := ["voice", "many", "rows", "lap", "row"]) (ps := ["voice", "many"]) (m := m_law_shared) G.d_law_shared G.g_law_shared sc_law_shared rfl (fun _ _ _ _ _ _ us hl => match us, hl with | [_, _], _ => rfl) fun cd hcd A outer s H E hr =>
  ss_c (s_set 2 sc_law_shared.nd (pd_f (pf_lc (own := [("lap", 3)]) (fun _ => rfl) rfl sc_law_shared.nd (pi_r1 rfl G.f_range (pa_c (pd_var 1) (pa_n))) (blkOk_by rfl) (fun _ _ _ _ _ => pc_n 3 (by decide) sc_law_shared.nd) (fun _ _ _ _ _ => pts_0) (fun _ _ _ _ _ => o_add (pd_int) (pd_d (ok_law_say G) hr rfl (pr_l 0 (pr_v (pd_d (ok_law_of G) hr rfl (pr_l 0 (pr_v (pd_lst (pa_c (pd_int) (pa_c (pd_int) (pa_c (pd_int) (pa_c (pd_int) (pa_n)))))) (pr_n)))) (pr_n)))))))) (ss_1 (x_ret B0 (pd_f (pf_lc (own := [("row", 4)]) (fun _ => rfl) rfl sc_law_shared.nd (pi_any (pd_var 2)) (blkOk_by rfl) (fun _ _ _ _ _ => pc_n 4 (by decide) sc_law_shared.nd) (fun _ _ _ _ _ => pts_0) (fun _ _ _ _ _ => pd_d (ok_law_low G) hr rfl (pr_v (pd_var 4) (pr_v (b_sum rfl G.f_sum rfl (pa_c (pd_var 2) (pa_n))) (pr_n))))))))
theorem sc_law_masses : FnScope ["voice", "frame", "lap", "some", "sets", "found", "each"] ["voice", "frame"] (defScope s_law_masses) := ⟨rfl, rfl, rfl, by decide +kernel, rfl, by decide +kernel, by decide +kernel⟩
theorem ok_law_masses (G : Gs K mg base) : Def P w K mg base (TT K) 4 "_law_masses" "_law_masses" s_law_masses ["voice", "frame"] 2 F_law_masses := def_of (N := ["voice", "frame", "lap", "some", "sets", "found", "each"]) (ps := ["voice", "frame"]) (m := m_law_masses) G.d_law_masses G.g_law_masses sc_law_masses rfl (fun _ _ _ _ _ _ us hl => match us, hl with | [_, _], _ => rfl) fun cd hcd A outer s H E hr =>
  ss_c (s_asVC 4 5 rfl sc_law_masses.nd (pd_sl (pd_d (ok_law_sets G) hr rfl (pr_v (pd_var 1) (pr_n))) (pp_s (pd_int)) (pp_n)) (pn_s)) (ss_c (s_for PassesOwn.never rfl (pi_r1 rfl G.f_range (pa_c (pd_d (ok_law_of G) hr rfl (pr_l 0 (pr_v (pd_lst (pa_c (pd_int) (pa_c (pd_int) (pa_c (pd_int) (pa_c (pd_int) (pa_c (pd_int) (pa_n))))))) (pr_n)))) (pa_n))) (pg_n 2 sc_law_masses.nd) (ss_1 (s_putS 5 hr (pd_d (ok_law_of G) hr rfl (pr_l 0 (pr_v (pd_var 4) (pr_n)))) (pd_bl)))) (ss_c (x_if B0 (t_eq hr (pd_d (ok_law_say G) hr rfl (pr_l 0 (pr_v (pd_int) (pr_n)))) (pd_int)) (ss_1 (s_putS 5 hr (pd_var 1) (pd_bl))) (ss_nil)) (ss_c (s_setLc [("each", 6)] 3 rfl sc_law_masses.nd (pi_any (pd_var 4)) (blkOk_by rfl) (fun _ _ _ _ _ => pc_n 6 (by decide) sc_law_masses.nd) (fun _ _ _ _ _ => pts_1 (t_inS 5 (by exact hr) (pd_var 6))) (fun _ _ _ _ _ => pd_var 6)) (ss_1 (x_ret B0 (pd_tzip rfl G.f_tuple G.f_zip rfl rfl (pa_c (pd_var 3) (pa_c (pd_d (ok_law_shared G) hr rfl (pr_l 0 (pr_v (b_len G.f_len rfl (pa_c (pd_var 3) (pa_n))) (pr_n)))) (pa_n)))))))))
theorem sc_law_within : FnScope ["one", "two", "thing"] ["one", "two"] (defScope s_law_within) := ⟨rfl, rfl, rfl, by decide +kernel, rfl, by decide +kernel, by decide +kernel⟩
theorem ok_law_within (G : Gs K mg base) : Def P w K mg base (TT K) 1 "_law_within" "_law_within" s_law_within ["one", "two"] 2 F_law_within := def_of (N := ["one", "two", "thing"]) (ps := ["one", "two"]) (m := m_law_within) G.d_law_within G.g_law_within sc_law_within rfl (fun _ _ _ _ _ _ us hl => match us, hl with | [_, _], _ => rfl) fun cd hcd A outer s H E hr =>
  ss_1 (x_ret B0 (b_all rfl G.f_all rfl (pa_c (pd_f (pf_lc (own := [("thing", 2)]) (fun _ => rfl) rfl sc_law_within.nd (pi_any (pd_var 0)) (blkOk_by rfl) (fun _ _ _ _ _ => pc_n 2 (by decide) sc_law_within.nd) (fun _ _ _ _ _ => pts_0) (fun _ _ _ _ _ => c_in hr (pd_var 2) (pd_var 1)))) (pa_n))))
theorem sc_law_belief : FnScope ["masses", "some", "each", "part"] ["masses", "some"] (defScope s_law_belief) := ⟨rfl, rfl, rfl, by decide +kernel, rfl, by decide +kernel, by decide +kernel⟩
theorem ok_law_belief (G : Gs K mg base) : Def P w K mg base (TT K) 4 "_law_belief" "_law_belief" s_law_belief ["masses", "some"] 2 F_law_belief := def_of (N := ["masses", "some", "each", "part"]) (ps := ["masses", "some"]) (m := m_law_belief) G.d_law_belief G.g_law_belief sc_law_belief rfl (fun _ _ _ _ _ _ us hl => match us, hl with | [_, _], _ => rfl) fun cd hcd A outer s H E hr =>
  ss_1 (x_ret B0 (pd_d (ok_law_sum G) hr rfl (pr_v (pd_f (pf_lc (own := [("each", 2), ("part", 3)]) (fun _ => rfl) rfl sc_law_belief.nd (pi_any (pd_var 0)) (blkOk_by rfl) (fun _ _ _ _ _ => pc_t rfl (pcs_c (pc_n 2 (by decide) sc_law_belief.nd) (pcs_c (pc_n 3 (by decide) sc_law_belief.nd) (pcs_n)))) (fun _ _ _ _ _ => pts_1 (pt_v (pd_d (ok_law_within G) hr rfl (pr_v (pd_var 2) (pr_v (pd_var 1) (pr_n)))))) (fun _ _ _ _ _ => pd_var 3))) (pr_n))))
theorem sc_law_do_fit : FnScope ["frame", "masses", "chances", "own", "some", "thing"] ["frame", "masses", "chances"] (defScope s_law_do_fit) := ⟨rfl, rfl, rfl, by decide +kernel, rfl, by decide +kernel, by decide +kernel⟩
theorem ok_law_do_fit (G : Gs K mg base) : Def P w K mg base (TT K) 5 "_law_do_fit" "_law_do_fit" s_law_do_fit ["frame", "masses", "chances"] 3 F_law_do_fit := def_of (N := ["frame", "masses", "chances", "own", "some", "thing"]) (ps := ["frame", "masses", "chances"]) (m := m_law_do_fit) G.d_law_do_fit G.g_law_do_fit sc_law_do_fit rfl (fun _ _ _ _ _ _ us hl => match us, hl with | [_, _, _], _ => rfl) fun cd hcd A outer s H E hr =>
  ss_c (s_set 3 sc_law_do_fit.nd (pd_ofN (pn_dzip2 rfl G.f_dict G.f_zip rfl rfl (pa_c (pd_var 0) (pa_c (pd_var 2) (pa_n)))))) (ss_1 (x_ret B0 (b_all rfl G.f_all rfl (pa_c (pd_f (pf_lc (own := [("some", 4)]) (fun _ => rfl) rfl sc_law_do_fit.nd (pi_any (pd_d (ok_law_sets G) hr rfl (pr_v (pd_var 0) (pr_n)))) (blkOk_by rfl) (fun _ _ _ _ _ => pc_n 4 (by decide) sc_law_do_fit.nd) (fun _ _ _ _ _ => pts_0) (fun _ _ _ _ _ => pd_d (ok_law_up_to G) hr rfl (pr_v (pd_d (ok_law_belief G) hr rfl (pr_v (pd_var 1) (pr_v (pd_var 4) (pr_n)))) (pr_v (pd_d (ok_law_sum G) hr rfl (pr_v (pd_f (pf_lc (own := [("thing", 5)]) (fun _ => rfl) rfl sc_law_do_fit.nd (pi_any (pd_var 4)) (blkOk_by rfl) (fun _ _ _ _ _ => pc_n 5 (by decide) sc_law_do_fit.nd) (fun _ _ _ _ _ => pts_0) (fun _ _ _ _ _ => pd_dget (by exact hr) (pd_var 3) (pd_var 5)))) (pr_n))) (pr_n)))))) (pa_n)))))
theorem sc_law_mean : FnScope ["chances", "worths", "chance", "worth"] ["chances", "worths"] (defScope s_law_mean) := ⟨rfl, rfl, rfl, by decide +kernel, rfl, by decide +kernel, by decide +kernel⟩
theorem ok_law_mean (G : Gs K mg base) : Def P w K mg base (TT K) 4 "_law_mean" "_law_mean" s_law_mean ["chances", "worths"] 2 F_law_mean := def_of (N := ["chances", "worths", "chance", "worth"]) (ps := ["chances", "worths"]) (m := m_law_mean) G.d_law_mean G.g_law_mean sc_law_mean rfl (fun _ _ _ _ _ _ us hl => match us, hl with | [_, _], _ => rfl) fun cd hcd A outer s H E hr =>
  ss_1 (x_ret B0 (pd_d (ok_law_sum G) hr rfl (pr_v (pd_f (pf_lc (own := [("chance", 2), ("worth", 3)]) (fun _ => rfl) rfl sc_law_mean.nd (pi_z rfl G.f_zip (pa_c (pd_var 0) (pa_c (pd_var 1) (pa_n)))) (blkOk_by rfl) (fun _ _ _ _ _ => pc_t rfl (pcs_c (pc_n 2 (by decide) sc_law_mean.nd) (pcs_c (pc_n 3 (by decide) sc_law_mean.nd) (pcs_n)))) (fun _ _ _ _ _ => pts_0) (fun _ _ _ _ _ => pd_d (ok_law_times G) hr rfl (pr_v (pd_var 2) (pr_v (pd_tup (pa_c (pd_var 3) (pa_c (pd_int) (pa_n)))) (pr_n)))))) (pr_n))))
theorem sc_law_orders : FnScope ["frame", "found", "lap", "later", "row", "thing"] ["frame"] (defScope s_law_orders) := ⟨rfl, rfl, rfl, by decide +kernel, rfl, by decide +kernel, by decide +kernel⟩
theorem ok_law_orders (G : Gs K mg base) : Def P w K mg base (TT K) 1 "_law_orders" "_law_orders" s_law_orders ["frame"] 1 F_law_orders := def_of (N := ["frame", "found", "lap", "later", "row", "thing"]) (ps := ["frame"]) (m := m_law_orders) G.d_law_orders G.g_law_orders sc_law_orders rfl (fun _ _ _ _ _ _ us hl => match us, hl with | [_], _ => rfl) fun cd hcd A outer s H E hr =>
  ss_c (s_set 1 sc_law_orders.nd (pd_lst (pa_c (pd_tup (pa_n)) (pa_n)))) (ss_c (s_for PassesOwn.never rfl (pi_r1 rfl G.f_range (pa_c (b_len G.f_len rfl (pa_c (pd_var 0) (pa_n))) (pa_n))) (pg_n 2 sc_law_orders.nd) (ss_c (s_set 3 sc_law_orders.nd (pd_lst (pa_n))) (ss_c (s_for PassesOwn.never rfl (pi_any (pd_var 1)) (pg_n 4 sc_law_orders.nd) (ss_1 (s_set 3 sc_law_orders.nd (o_add (pd_var 3) (pd_f (pf_lc (own := [("thing", 5)]) (fun _ => rfl) rfl sc_law_orders.nd (pi_any (pd_var 0)) (blkOk_by rfl) (fun _ _ _ _ _ => pc_n 5 (by decide) sc_law_orders.nd) (fun _ _ _ _ _ => pts_1 (t_notin hr (pd_var 5) (pd_var 4))) (fun _ _ _ _ _ => o_add (pd_var 4) (pd_tup (pa_c (pd_var 5) (pa_n)))))))))) (ss_1 (s_set 1 sc_law_orders.nd (pd_var 3)))))) (ss_1 (x_ret B0 (pd_var 1))))
theorem sc_law_grown : FnScope ["frame", "masses", "order", "thing", "found", "ahead", "more"] ["frame", "masses", "order"] (defScope s_law_grown) := ⟨rfl, rfl, rfl, by decide +kernel, rfl, by decide +kernel, by decide +kernel⟩
theorem ok_law_grown (G : Gs K mg base) : Def P w K mg base (TT K) 5 "_law_grown" "_law_grown" s_law_grown ["frame", "masses", "order"] 3 F_law_grown := def_of (N := ["frame", "masses", "order", "thing", "found", "ahead", "more"]) (ps := ["frame", "masses", "order"]) (m := m_law_grown) G.d_law_grown G.g_law_grown sc_law_grown rfl (fun _ _ _ _ _ _ us hl => match us, hl with | [_, _, _], _ => rfl) fun cd hcd A outer s H E hr =>
  ss_c (s_asCV 4 5 rfl sc_law_grown.nd (pn_d) (pd_tup (pa_n))) (ss_c (s_for PassesOwn.never rfl (pi_any (pd_var 2)) (pg_n 3 sc_law_grown.nd) (ss_c (s_set 6 sc_law_grown.nd (b_tuple G.f_tuple rfl (pa_c (b_sortedT (by exact hr) G.f_sorted (by rfl) (pa_c (o_add (pd_var 5) (pd_tup (pa_c (pd_var 3) (pa_n)))) (pa_n))) (pa_n)))) (ss_c (s_putD 4 hr (pd_var 3) (pd_d (ok_law_less G) hr rfl (pr_v (pd_d (ok_law_belief G) hr rfl (pr_v (pd_var 1) (pr_v (pd_var 6) (pr_n)))) (pr_v (pd_d (ok_law_belief G) hr rfl (pr_v (pd_var 1) (pr_v (pd_var 5) (pr_n)))) (pr_n))))) (ss_1 (s_set 5 sc_law_grown.nd (pd_var 6)))))) (ss_1 (x_ret B0 (b_tuple G.f_tuple rfl (pa_c (pd_f (pf_lc (own := [("thing", 3)]) (fun _ => rfl) rfl sc_law_grown.nd (pi_any (pd_var 0)) (blkOk_by rfl) (fun _ _ _ _ _ => pc_n 3 (by decide) sc_law_grown.nd) (fun _ _ _ _ _ => pts_0) (fun _ _ _ _ _ => pd_getD 4 (by exact hr) (pd_var 3)))) (pa_n))))))
theorem sc_law_least : FnScope ["some", "found", "each"] ["some"] (defScope s_law_least) := ⟨rfl, rfl, rfl, by decide +kernel, rfl, by decide +kernel, by decide +kernel⟩
theorem ok_law_least (G : Gs K mg base) : Def P w K mg base (TT K) 2 "_law_least" "_law_least" s_law_least ["some"] 1 F_law_least := def_of (N := ["some", "found", "each"]) (ps := ["some"]) (m := m_law_least) G.d_law_least G.g_law_least sc_law_least rfl (fun _ _ _ _ _ _ us hl => match us, hl with | [_], _ => rfl) fun cd hcd A outer s H E hr =>
  ss_c (s_set 1 sc_law_least.nd (o_ix (pd_var 0) (pd_int))) (ss_c (s_for PassesOwn.never rfl (pi_any (pd_var 0)) (pg_n 2 sc_law_least.nd) (ss_1 (s_set 1 sc_law_least.nd (pd_if (pt_v (pd_d (ok_law_up_to G) hr rfl (pr_v (pd_var 2) (pr_v (pd_var 1) (pr_n))))) (pd_var 2) (pd_var 1))))) (ss_1 (x_ret B0 (pd_var 1))))
theorem sc_law_right : FnScope ["voice", "lap", "frame", "masses", "worths", "corners", "means", "mixed", "mean", "more", "both", "up", "low", "high", "one", "two", "part", "order", "corner", "thing", "worth", "first", "second"] ["voice"] (defScope s_law_right) := ⟨rfl, rfl, rfl, by decide +kernel, rfl, by decide +kernel, by decide +kernel⟩
theorem ok_law_right (G : Gs K mg base) : Def P w K mg base (TT K) 12 "_law_right" "_law_right" s_law_right ["voice"] 1 F_law_right := def_of (N := ["voice", "lap", "frame", "masses", "worths", "corners", "means", "mixed", "mean", "more", "both", "up", "low", "high", "one", "two", "part", "order", "corner", "thing", "worth", "first", "second"]) (ps := ["voice"]) (m := m_law_right) G.d_law_right G.g_law_right sc_law_right rfl (fun _ _ _ _ _ _ us hl => match us, hl with | [_], _ => rfl) fun cd hcd A outer s H E hr =>
  ss_c (s_for PassesOwn.never rfl (pi_r1 rfl G.f_range (pa_c (pd_int) (pa_n))) (pg_n 1 sc_law_right.nd) (ss_c (s_set 2 sc_law_right.nd (pd_d (ok_law_frame G) hr rfl (pr_l 0 (pr_v (pd_int) (pr_n))))) (ss_c (s_set 3 sc_law_right.nd (pd_d (ok_law_masses G) hr rfl (pr_l 0 (pr_v (pd_var 2) (pr_n))))) (ss_c (s_set 4 sc_law_right.nd (b_tuple G.f_tuple rfl (pa_c (pd_f (pf_lc (own := [("thing", 19)]) (fun _ => rfl) rfl sc_law_right.nd (pi_any (pd_var 2)) (blkOk_by rfl) (fun _ _ _ _ _ => pc_n 19 (by decide) sc_law_right.nd) (fun _ _ _ _ _ => pts_0) (fun _ _ _ _ _ => pd_if (t_eq hr (pd_d (ok_law_say G) hr rfl (pr_l 0 (pr_v (pd_int) (pr_n)))) (pd_int)) (o_sub (pd_d (ok_law_say G) hr rfl (pr_l 0 (pr_v (pd_int) (pr_n)))) (pd_int)) (pd_d (ok_law_say G) hr rfl (pr_l 0 (pr_v (pd_int) (pr_n))))))) (pa_n)))) (ss_c (s_setLc [("order", 17)] 5 rfl sc_law_right.nd (pi_any (pd_d (ok_law_orders G) hr rfl (pr_v (pd_var 2) (pr_n)))) (blkOk_by rfl) (fun _ _ _ _ _ => pc_n 17 (by decide) sc_law_right.nd) (fun _ _ _ _ _ => pts_0) (fun _ _ _ _ _ => pd_d (ok_law_grown G) hr rfl (pr_v (pd_var 2) (pr_v (pd_var 3) (pr_v (pd_var 17) (pr_n)))))) (ss_c (x_if B0 (pt_not (pt_v (b_all rfl G.f_all rfl (pa_c (pd_f (pf_lc (own := [("corner", 18)]) (fun _ => rfl) rfl sc_law_right.nd (pi_any (pd_var 5)) (blkOk_by rfl) (fun _ _ _ _ _ => pc_n 18 (by decide) sc_law_right.nd) (fun _ _ _ _ _ => pts_0) (fun _ _ _ _ _ => pd_d (ok_law_do_fit G) hr rfl (pr_v (pd_var 2) (pr_v (pd_var 3) (pr_v (pd_var 18) (pr_n))))))) (pa_n))))) (ss_1 (x_ret B0 (pd_bl))) (ss_nil)) (ss_c (s_setLc [("corner", 18)] 6 rfl sc_law_right.nd (pi_any (pd_var 5)) (blkOk_by rfl) (fun _ _ _ _ _ => pc_n 18 (by decide) sc_law_right.nd) (fun _ _ _ _ _ => pts_0) (fun _ _ _ _ _ => pd_d (ok_law_mean G) hr rfl (pr_v (pd_var 18) (pr_v (pd_var 4) (pr_n))))) (ss_c (s_par B0 12 13 rfl sc_law_right.nd (pa_c (pd_d (ok_law_least G) hr rfl (pr_v (pd_var 6) (pr_n))) (pa_c (pd_d (ok_law_less G) hr rfl (pr_v (pd_tup (pa_c (pd_int) (pa_c (pd_int) (pa_n)))) (pr_v (pd_d (ok_law_least G) hr rfl (pr_v (pd_f (pf_lc (own := [("mean", 8)]) (fun _ => rfl) rfl sc_law_right.nd (pi_any (pd_var 6)) (blkOk_by rfl) (fun _ _ _ _ _ => pc_n 8 (by decide) sc_law_right.nd) (fun _ _ _ _ _ => pts_0) (fun _ _ _ _ _ => pd_d (ok_law_less G) hr rfl (pr_v (pd_tup (pa_c (pd_int) (pa_c (pd_int) (pa_n)))) (pr_v (pd_var 8) (pr_n)))))) (pr_n))) (pr_n)))) (pa_n)))) (ss_c (x_if B0 (pt_not (pt_v (pd_d (ok_law_same G) hr rfl (pr_v (pd_lst (pa_c (pd_d (ok_least_worth G) hr rfl (pr_v (pd_var 2) (pr_v (pd_var 3) (pr_v (pd_var 4) (pr_n))))) (pa_c (pd_d (ok_greatest_worth G) hr rfl (pr_v (pd_var 2) (pr_v (pd_var 3) (pr_v (pd_var 4) (pr_n))))) (pa_n)))) (pr_v (pd_lst (pa_c (pd_var 12) (pa_c (pd_var 13) (pa_n)))) (pr_n)))))) (ss_1 (x_ret B0 (pd_bl))) (ss_nil)) (ss_c (s_as (pd_tup (pa_c (pd_d (ok_law_of G) hr rfl (pr_l 0 (pr_v (pd_var 5) (pr_n)))) (pa_c (pd_d (ok_law_of G) hr rfl (pr_l 0 (pr_v (pd_var 5) (pr_n)))) (pa_c (pd_d (ok_law_low G) hr rfl (pr_v (pd_int) (pr_v (o_add (pd_int) (pd_d (ok_law_say G) hr rfl (pr_l 0 (pr_v (pd_int) (pr_n))))) (pr_n)))) (pa_n))))) (pg_t rfl (pgs_c (pg_n 14 sc_law_right.nd) (pgs_c (pg_n 15 sc_law_right.nd) (pgs_c (pg_n 16 sc_law_right.nd) (pgs_n)))))) (ss_c (s_set 7 sc_law_right.nd (b_tuple G.f_tuple rfl (pa_c (pd_f (pf_lc (own := [("first", 21), ("second", 22)]) (fun _ => rfl) rfl sc_law_right.nd (pi_z rfl G.f_zip (pa_c (pd_var 14) (pa_c (pd_var 15) (pa_n)))) (blkOk_by rfl) (fun _ _ _ _ _ => pc_t rfl (pcs_c (pc_n 21 (by decide) sc_law_right.nd) (pcs_c (pc_n 22 (by decide) sc_law_right.nd) (pcs_n)))) (fun _ _ _ _ _ => pts_0) (fun _ _ _ _ _ => pd_d (ok_law_plus G) hr rfl (pr_v (pd_d (ok_law_times G) hr rfl (pr_v (pd_var 16) (pr_v (pd_var 21) (pr_n)))) (pr_v (pd_d (ok_law_times G) hr rfl (pr_v (pd_d (ok_law_less G) hr rfl (pr_v (pd_tup (pa_c (pd_int) (pa_c (pd_int) (pa_n)))) (pr_v (pd_var 16) (pr_n)))) (pr_v (pd_var 22) (pr_n)))) (pr_n)))))) (pa_n)))) (ss_c (s_set 8 sc_law_right.nd (pd_d (ok_mean_of G) hr rfl (pr_v (pd_var 2) (pr_v (pd_var 7) (pr_v (pd_var 4) (pr_n)))))) (ss_c (x_if B0 (pt_w (pw_o (pt_not (pt_v (pd_d (ok_law_same G) hr rfl (pr_v (pd_var 8) (pr_v (pd_d (ok_law_mean G) hr rfl (pr_v (pd_var 7) (pr_v (pd_var 4) (pr_n)))) (pr_n)))))) (pw_1o (pt_not (pt_w (pw_a (pt_v (pd_d (ok_law_up_to G) hr rfl (pr_v (pd_var 12) (pr_v (pd_var 8) (pr_n))))) (pw_1a (pt_v (pd_d (ok_law_up_to G) hr rfl (pr_v (pd_var 8) (pr_v (pd_var 13) (pr_n)))))))))))) (ss_1 (x_ret B0 (pd_bl))) (ss_nil)) (ss_c (s_set 9 sc_law_right.nd (b_tuple G.f_tuple rfl (pa_c (pd_f (pf_lc (own := [("worth", 20)]) (fun _ => rfl) rfl sc_law_right.nd (pi_any (pd_var 4)) (blkOk_by rfl) (fun _ _ _ _ _ => pc_n 20 (by decide) sc_law_right.nd) (fun _ _ _ _ _ => pts_0) (fun _ _ _ _ _ => b_max rfl G.f_max rfl (pa_c (o_neg (pd_int)) (pa_c (b_min rfl G.f_min rfl (pa_c (pd_int) (pa_c (o_sub (pd_d (ok_law_say G) hr rfl (pr_l 0 (pr_v (pd_int) (pr_n)))) (pd_int)) (pa_n)))) (pa_n)))))) (pa_n)))) (ss_c (s_set 10 sc_law_right.nd (b_tuple G.f_tuple rfl (pa_c (pd_f (pf_lc (own := [("first", 21), ("second", 22)]) (fun _ => rfl) rfl sc_law_right.nd (pi_z rfl G.f_zip (pa_c (pd_var 4) (pa_c (pd_var 9) (pa_n)))) (blkOk_by rfl) (fun _ _ _ _ _ => pc_t rfl (pcs_c (pc_n 21 (by decide) sc_law_right.nd) (pcs_c (pc_n 22 (by decide) sc_law_right.nd) (pcs_n)))) (fun _ _ _ _ _ => pts_0) (fun _ _ _ _ _ => o_add (pd_var 21) (pd_var 22)))) (pa_n)))) (ss_c (x_if B0 (pt_v (b_all rfl G.f_all rfl (pa_c (pd_f (pf_lc (own := [("worth", 20)]) (fun _ => rfl) rfl sc_law_right.nd (pi_any (pd_var 10)) (blkOk_by rfl) (fun _ _ _ _ _ => pc_n 20 (by decide) sc_law_right.nd) (fun _ _ _ _ _ => pts_0) (fun _ _ _ _ _ => pd_chain or_lt rd_lt or_lt rd_lt (o_neg (pd_int)) (pd_var 20) (pd_int)))) (pa_n)))) (ss_1 (x_if B0 (pt_not (pt_v (pd_d (ok_law_up_to G) hr rfl (pr_v (pd_d (ok_law_plus G) hr rfl (pr_v (pd_var 12) (pr_v (pd_d (ok_least_worth G) hr rfl (pr_v (pd_var 2) (pr_v (pd_var 3) (pr_v (pd_var 9) (pr_n))))) (pr_n)))) (pr_v (pd_d (ok_least_worth G) hr rfl (pr_v (pd_var 2) (pr_v (pd_var 3) (pr_v (pd_var 10) (pr_n))))) (pr_n)))))) (ss_1 (x_ret B0 (pd_bl))) (ss_nil))) (ss_nil)) (ss_c (s_set 11 sc_law_right.nd (b_tuple G.f_tuple rfl (pa_c (pd_f (pf_lc (own := [("worth", 20)]) (fun _ => rfl) rfl sc_law_right.nd (pi_any (pd_var 4)) (blkOk_by rfl) (fun _ _ _ _ _ => pc_n 20 (by decide) sc_law_right.nd) (fun _ _ _ _ _ => pts_0) (fun _ _ _ _ _ => o_add (pd_var 20) (pd_int)))) (pa_n)))) (ss_1 (x_if B0 (pt_w (pw_a (t_lt (b_maxL rfl (by exact hr) G.f_max rfl (pa_c (pd_var 11) (pa_n))) (pd_int)) (pw_1a (pt_not (pt_v (pd_d (ok_law_same G) hr rfl (pr_v (pd_d (ok_least_worth G) hr rfl (pr_v (pd_var 2) (pr_v (pd_var 3) (pr_v (pd_var 11) (pr_n))))) (pr_v (pd_d (ok_law_plus G) hr rfl (pr_v (pd_var 12) (pr_v (pd_tup (pa_c (pd_int) (pa_c (pd_int) (pa_n)))) (pr_n)))) (pr_n))))))))) (ss_1 (x_ret B0 (pd_bl))) (ss_nil)))))))))))))))))))) (ss_1 (x_ret B0 (pd_bl)))
theorem sc_law : FnScope ["script", "lap"] ["script"] (defScope s_law) := ⟨rfl, rfl, rfl, by decide +kernel, rfl, by decide +kernel, by decide +kernel⟩
theorem ok_law (G : Gs K mg base) : Def P w K mg base (TT K) 13 "law" "law" s_law ["script"] 1 F_law := def_of (N := ["script", "lap"]) (ps := ["script"]) (m := m_law) G.d_law G.g_law sc_law rfl (fun _ _ _ _ _ _ us hl => match us, hl with | [_], _ => rfl) fun cd hcd A outer s H E hr =>
  ss_1 (x_ret B0 (b_all rfl G.f_all rfl (pa_c (pd_f (pf_lc (own := [("lap", 1)]) (fun _ => rfl) rfl sc_law.nd (pi_r1 rfl G.f_range (pa_c (b_max rfl G.f_max rfl (pa_c (pd_int) (pa_c (b_min rfl G.f_min rfl (pa_c (b_len G.f_len rfl (pa_c (pd_var 0) (pa_n))) (pa_c (pd_int) (pa_n)))) (pa_n)))) (pa_n))) (blkOk_by rfl) (fun _ _ _ _ _ => pc_n 1 (by decide) sc_law.nd) (fun _ _ _ _ _ => pts_0) (fun _ _ _ _ _ => pd_callF (ok_law_right G) hr rfl (pf_d (ok_law_voice G) hr rfl (pa_c (pd_var 0) (pa_c (pd_var 1) (pa_n))))))) (pa_n))))
end
end K26
end
section
set_option linter.all false
set_option maxRecDepth 100000
set_option maxHeartbeats 4000000
namespace K26
open PySem PD
theorem mulOk_r {i j : Int} (h : j.natAbs < 2 ^ 64) : mulOk i j = true := by
  unfold mulOk
  have : j.natAbs.log2 < 64 := by
    by_cases z : j.natAbs = 0
    · rw [z]; decide
    · exact (Nat.log2_lt z).mpr h
  simp [this]
theorem mulOk_l {i j : Int} (h : i.natAbs < 2 ^ 64) : mulOk i j = true := by
  unfold mulOk
  have : i.natAbs.log2 < 64 := by
    by_cases z : i.natAbs = 0
    · rw [z]; decide
    · exact (Nat.log2_lt z).mpr h
  simp [this]
theorem mod_small {x : Int} : (x % 2147483563).natAbs < 2 ^ 64 := by
  have h1 := Int.emod_nonneg x (show (2147483563 : Int) ≠ 0 by decide)
  have h2 := Int.emod_lt_of_pos x (show (0 : Int) < 2147483563 by decide)
  omega
def Pool (p : Cell) : Prop := ∃ a b c : Int, p = .lst [.int a, .int b, .int c] ∧ 0 ≤ a
def isV : Slot → Bool
  | .val _ => true
  | .non => true
  | _ => false
theorem truncS_v {s : Slot} (h : isV s = true) : truncS 0 [] s = s := by cases s <;> simp_all [isV, truncS]
theorem truncS_val (d : D) : truncS 0 [] (.val d) = .val d := rfl
theorem cut_ints (ns : List Int) (lo hi : Option Int) : ∃ ms : List Int, PD.cutD (ns.map .int) lo hi = ms.map .int := by
  unfold PD.cutD
  exact ⟨_, by rw [← List.map_drop, ← List.map_take]⟩
def nfN (n m : Int) : Int := n / ((Nat.gcd n.natAbs m.natAbs : Nat) : Int)
def nfD (n m : Int) : Int := m / ((Nat.gcd n.natAbs m.natAbs : Nat) : Int)
theorem gcd_scale (n m : Int) {k : Int} (hk : 0 < k) : ((Nat.gcd (k * n).natAbs (k * m).natAbs : Nat) : Int) = k * ((Nat.gcd n.natAbs m.natAbs : Nat) : Int) := by
  rw [Int.natAbs_mul, Int.natAbs_mul, Nat.gcd_mul_left]
  have : (k.natAbs : Int) = k := Int.natAbs_of_nonneg (by omega)
  rw [Int.natCast_mul, this]
theorem nfN_scale (n m : Int) {k : Int} (hk : 0 < k) : nfN (k * n) (k * m) = nfN n m := by
  unfold nfN
  rw [gcd_scale n m hk, Int.mul_ediv_mul_of_pos _ _ hk]
theorem nfD_scale (n m : Int) {k : Int} (hk : 0 < k) : nfD (k * n) (k * m) = nfD n m := by
  unfold nfD
  rw [gcd_scale n m hk, Int.mul_ediv_mul_of_pos _ _ hk]
theorem nf_same {n m r s : Int} (hm : 0 < m) (hs : 0 < s) (h : n * s = r * m) : nfN n m = nfN r s ∧ nfD n m = nfD r s := by
  have e : m * s = s * m := Int.mul_comm _ _
  refine ⟨?_, ?_⟩
  · rw [← nfN_scale n m hs, ← nfN_scale r s hm, Int.mul_comm s n, h, Int.mul_comm r m, e]
  · rw [← nfD_scale n m hs, ← nfD_scale r s hm, Int.mul_comm s n, h, Int.mul_comm r m, e]
def frac (s r : Int) : D := .tuple [.int (nfN r s), .int (nfD r s)]
theorem g_pos (r : Int) {s : Int} (hs : 0 < s) : 0 < ((Nat.gcd r.natAbs s.natAbs : Nat) : Int) := by
  have : 0 < Nat.gcd r.natAbs s.natAbs := Nat.gcd_pos_of_pos_right _ (by omega)
  omega
theorem g_dvd_r (r s : Int) : ((Nat.gcd r.natAbs s.natAbs : Nat) : Int) ∣ r := Int.gcd_dvd_left ..
theorem g_dvd_s (r s : Int) : ((Nat.gcd r.natAbs s.natAbs : Nat) : Int) ∣ s := Int.gcd_dvd_right ..
theorem nfN_mul (r s : Int) : nfN r s * ((Nat.gcd r.natAbs s.natAbs : Nat) : Int) = r := Int.ediv_mul_cancel (g_dvd_r r s)
theorem nfD_mul (r s : Int) : nfD r s * ((Nat.gcd r.natAbs s.natAbs : Nat) : Int) = s := Int.ediv_mul_cancel (g_dvd_s r s)
theorem nfD_pos (r : Int) {s : Int} (hs : 0 < s) : 0 < nfD r s :=
  Int.ediv_pos_of_pos_of_dvd hs (Int.le_of_lt (g_pos r hs)) (g_dvd_s r s)
theorem nfD_le (r : Int) {s : Int} (hs : 0 < s) : nfD r s ≤ s := Int.ediv_le_self _ (by omega)
theorem nf_cross (r : Int) {s : Int} (hs : 0 < s) : nfN r s * s = r * nfD r s := by
  have h1 := nfN_mul r s
  have h2 := nfD_mul r s
  generalize ((Nat.gcd r.natAbs s.natAbs : Nat) : Int) = g at *
  calc nfN r s * s = nfN r s * (nfD r s * g) := by rw [h2]
    _ = (nfN r s * g) * nfD r s := by rw [Int.mul_assoc, Int.mul_comm g, ]
    _ = r * nfD r s := by rw [h1]
/-- the fraction tells its upper number -/
theorem frac_inj {s r r' : Int} (hs : 0 < s) (h : frac s r = frac s r') : r = r' := by
  unfold frac at h
  simp only [PyData.tuple.injEq, List.cons.injEq, PyData.int.injEq, and_true] at h
  have h1 := nf_cross r hs
  have h2 := nf_cross r' hs
  rw [h.1, h.2] at h1
  have hd := nfD_pos r' hs
  rw [h2] at h1
  exact (Int.eq_of_mul_eq_mul_right (by omega) h1).symm
theorem log_small {i : Int} (h : i.natAbs < 2 ^ 64) : i.natAbs.log2 < 64 := by
  by_cases z : i.natAbs = 0
  · rw [z]; decide
  · exact (Nat.log2_lt z).mpr h
theorem divOk_small {j : Int} (h : 0 < j) (h2 : j < 2 ^ 64) : divOk j = true := by
  have : j.natAbs.log2 < 64 := log_small (by omega)
  unfold divOk
  simp [h]
  omega
theorem g_le (r : Int) {s : Int} (hs : 0 < s) : ((Nat.gcd r.natAbs s.natAbs : Nat) : Int) ≤ s := by
  have : Nat.gcd r.natAbs s.natAbs ≤ s.natAbs := Nat.gcd_le_right _ (by omega)
  omega
theorem szl {n : Nat} (h : n ≤ 16777216 := by omega) : n ≤ sizeLine := by rw [sizeLine_eq]; exact h
theorem lowest_spec {n m : Int} (hm : 0 < m) (hb : m < 2 ^ 64) : F_lowest [.val (.int n), .val (.int m)] [] = some (.tuple [.int (nfN n m), .int (nfD n m)], []) := by
  have hd : divOk ((Nat.gcd n.natAbs m.natAbs : Nat) : Int) = true := divOk_small (g_pos n hm) (Int.lt_of_le_of_lt (g_le n hm) hb)
  simp [F_lowest, bodyF, m_lowest, sSeq, sAs, eIf, tV, e2, e1, eVar, eC, eL, aC, aN, gl2, gGt, gBool, hm, gGcd, gN, gDiv, hd, sRet, gTup, okB, B0, nfN, nfD, szl (n := 2)]
theorem plus_cross {a b s : Int} (hs : 0 < s) : (nfN a s * nfD b s + nfN b s * nfD a s) * s = (a + b) * (nfD a s * nfD b s) := by
  have h1 := nf_cross a hs
  have h2 := nf_cross b hs
  generalize nfN a s = x at *
  generalize nfD a s = y at *
  generalize nfN b s = z at *
  generalize nfD b s = w at *
  calc (x * w + z * y) * s = (x * s) * w + (z * s) * y := by
        rw [Int.add_mul, Int.mul_right_comm x w s, Int.mul_right_comm z y s]
    _ = (a * y) * w + (b * w) * y := by rw [h1, h2]
    _ = (a + b) * (y * w) := by rw [Int.add_mul, Int.mul_assoc, Int.mul_right_comm b w y, Int.mul_assoc b]
theorem frac_plus {a b s : Int} (hs : 0 < s) : PyData.tuple [.int (nfN (nfN a s * nfD b s + nfN b s * nfD a s) (nfD a s * nfD b s)), .int (nfD (nfN a s * nfD b s + nfN b s * nfD a s) (nfD a s * nfD b s))] = frac s (a + b) := by
  have h := nf_same (Int.mul_pos (nfD_pos a hs) (nfD_pos b hs)) hs (plus_cross (a := a) (b := b) hs)
  unfold frac
  rw [h.1, h.2]
theorem nfD_small (r : Int) {s : Int} (hs : 0 < s) (hb : s < 65536) : (nfD r s).natAbs < 2 ^ 64 := by
  have h1 := nfD_pos r hs
  have h2 := nfD_le r hs
  omega
theorem den_small {a b s : Int} (hs : 0 < s) (hb : s < 65536) : nfD a s * nfD b s < 2 ^ 64 := by
  have h1 := nfD_pos a hs
  have h2 := nfD_le a hs
  have h3 := nfD_pos b hs
  have h4 := nfD_le b hs
  have : nfD a s * nfD b s ≤ 65536 * 65536 := Int.mul_le_mul (by omega) (by omega) (by omega) (by omega)
  omega
theorem plus_spec {a b s : Int} (hs : 0 < s) (hb : s < 65536) : F_plus [.val (frac s a), .val (frac s b)] [] = some (frac s (a + b), []) := by
  have m1 : ∀ x, mulOk x (nfD b s) = true := fun x => mulOk_r (nfD_small b hs hb)
  have m2 : ∀ x, mulOk x (nfD a s) = true := fun x => mulOk_r (nfD_small a hs hb)
  have l := lowest_spec (n := nfN a s * nfD b s + nfN b s * nfD a s) (Int.mul_pos (nfD_pos a hs) (nfD_pos b hs)) (den_small (a := a) (b := b) hs hb)
  rw [frac_plus hs] at l
  simp [F_plus, bodyF, m_plus, sRet, e2, eVar, eC, eCall, rV, rN, lentOf, slotsOf, cellsOf, nodupB, frac, gIx, L2.atI, L2.ixN, gMul, m1, m2, gAdd, flatCs, setCells, okB, B0] at l ⊢
  rw [l]
  rfl
theorem frac_zero {s : Int} (hs : 0 < s) : PyData.tuple [.int 0, .int 1] = frac s 0 := by
  unfold frac nfN nfD
  have : ((Nat.gcd (0 : Int).natAbs s.natAbs : Nat) : Int) = s := by
    rw [Int.natAbs_zero, Nat.gcd_zero_left]
    omega
  rw [this, Int.zero_ediv, Int.ediv_self (by omega)]
theorem frac_one {s : Int} (hs : 0 < s) : PyData.tuple [.int 1, .int 1] = frac s s := by
  unfold frac nfN nfD
  have : ((Nat.gcd s.natAbs s.natAbs : Nat) : Int) = s := by
    rw [Nat.gcd_self]
    omega
  rw [this, Int.ediv_self (by omega)]
theorem total_loop {s : Int} (hs : 0 < s) (hb : s < 65536) (S : Slot) (hS : isV S = true) (n0 : Nat) : ∀ (rs : List Int) (a : Int) (e : Slot), isV e = true →
    ∃ e', isV e' = true ∧ forD (gN 2) (sAs (eCall 2 F_plus (rV (eVar 1) (rV (eVar 2) (rN)))) (gN 1)) n0 0 (rs.map (frac s)) [S, .val (frac s a), e] [] = some (.next [S, .val (frac s (a + rs.sum)), e'] [])
  | [], a, e, he => ⟨e, he, by simp [forD]⟩
  | r :: rs, a, e, he => by
    obtain ⟨e', h1, h2⟩ := total_loop hs hb S hS n0 rs (a + r) (.val (frac s r)) rfl
    refine ⟨e', h1, ?_⟩
    rw [List.sum_cons, ← Int.add_assoc, ← h2]
    simp [forD, gN, sAs, eCall, rV, rN, eVar, lentOf, slotsOf, cellsOf, nodupB, plus_spec hs hb, flatCs, setCells, truncS_v hS, truncS_val]
theorem flat_frac {s a : Int} : flat (frac s a) = true := rfl
theorem total_spec {s : Int} (hs : 0 < s) (hb : s < 65536) (rs : List Int) : F_total [.val (.list (rs.map (frac s)))] [] = some (frac s rs.sum, []) := by
  obtain ⟨e', h1, h2⟩ := total_loop hs hb (.val (.list (rs.map (frac s)))) rfl 0 rs 0 .non rfl
  rw [Int.zero_add, ← frac_zero hs] at h2
  simp [F_total, bodyF, m_total, sSeq, sAs, eC, gN, c_NOTHING, sFor, anyItems, lstItems, eVar, sRet, okB, B0, h2, flat_frac]
theorem fr_loop (N M : Int) : ∀ (f : Nat) (l h : Nat), h < f → ∃ f', whD (tV (e2 gGt (eVar 3) (eC (.int 0)))) (sPar B0 2 3 (aC (eVar 3) (aC (e2 gMod (eL (gl1 gInt) (aC (eVar 2) (aN))) (eVar 3)) (aN)))) 0 f' 0 [.val (.int N), .val (.int M), .val (.int (l : Int)), .val (.int (h : Int))] [] = some (.next [.val (.int N), .val (.int M), .val (.int ((Nat.gcd l h : Nat) : Int)), .val (.int 0)] [])
  | 0, l, h, hf => absurd hf (Nat.not_lt_zero _)
  | f + 1, l, h, hf => by
    by_cases hz : h = 0
    · subst hz
      refine ⟨1, ?_⟩
      simp [whD, tV, e2, eVar, eC, gGt, gBool]
    · have hp : 0 < h := Nat.pos_of_ne_zero hz
      have hm := Nat.mod_lt l hp
      obtain ⟨f', h'⟩ := fr_loop N M f h (l % h) (by omega)
      refine ⟨f' + 1, ?_⟩
      have hg : Nat.gcd h (l % h) = Nat.gcd l h := by rw [Nat.gcd_comm h, ← Nat.gcd_rec, Nat.gcd_comm]
      rw [hg] at h'
      have hp' : (0 : Int) < (h : Int) := by omega
      rw [← h']
      simp [whD, tV, e2, eVar, eC, gGt, gBool, hp, sPar, aC, aN, eL, gl1, gInt, gMod, flat, B0, truncS_val]
theorem nfN_neg (r s : Int) : 0 - nfN r s = nfN (-r) s := by
  unfold nfN
  rw [Int.natAbs_neg, Int.zero_sub, Int.neg_ediv_of_dvd (g_dvd_r r s)]
theorem nfD_neg (r s : Int) : nfD r s = nfD (-r) s := by
  unfold nfD
  rw [Int.natAbs_neg]
theorem lt_iff {a b s : Int} (hs : 0 < s) : nfN a s * nfD b s < nfN b s * nfD a s ↔ a < b := by
  have h1 := nf_cross a hs
  have h2 := nf_cross b hs
  have p1 := nfD_pos a hs
  have p2 := nfD_pos b hs
  generalize nfN a s = x at *
  generalize nfD a s = y at *
  generalize nfN b s = z at *
  generalize nfD b s = w at *
  have e1 : (x * w) * s = a * (y * w) := by rw [Int.mul_right_comm, h1, Int.mul_assoc]
  have e2 : (z * y) * s = b * (y * w) := by rw [Int.mul_right_comm, h2, Int.mul_assoc, Int.mul_comm w]
  constructor
  · intro h
    have := Int.mul_lt_mul_of_pos_right h hs
    rw [e1, e2] at this
    exact Int.lt_of_mul_lt_mul_right this (Int.le_of_lt (Int.mul_pos p1 p2))
  · intro h
    have := Int.mul_lt_mul_of_pos_right h (Int.mul_pos p1 p2)
    rw [← e1, ← e2] at this
    exact Int.lt_of_mul_lt_mul_right this (Int.le_of_lt hs)
def setD (xs : List Str) : D := .tuple (xs.map .str)
theorem eq_str (n : Nat) (x y : Str) : eqF (n + 1) (.str x) (.str y) = some (x == y) := by
  simp [eqF]
theorem anyF_str (x : Str) : ∀ b : List Str, anyF (.str x) (b.map .str) = some (decide (x ∈ b))
  | [] => by simp [anyF]
  | y :: ys => by
    rw [List.map_cons, anyF, eq_str, anyF_str x ys]
    by_cases h : y = x
    · subst h; simp
    · have h' : ¬ x = y := fun e => h e.symm
      simp [h, h']
theorem in_set (x : Str) (b : List Str) : gIn (.str x) (setD b) = some (.bool (decide (x ∈ b))) := by
  simp [gIn, gInB, setD, itemsOf, anyF_str]
theorem notin_set (x : Str) (b : List Str) : gNotIn (.str x) (setD b) = some (.bool (!decide (x ∈ b))) := by
  simp [gNotIn, gInB, setD, itemsOf, anyF_str]
theorem lcD_map {α : Type} {g : MG} {t : MT} {e : ME} {ρ0 : List Slot} {μ : List Cell} (enc : α → D) (b : α → Bool) (f : α → D) : ∀ (xs : List α), (∀ x ∈ xs, ∃ ρ, g (enc x) ρ0 μ = some (ρ, μ) ∧ t ρ μ = some (b x, μ) ∧ (b x = true → e ρ μ = some (f x, μ))) → lcD g t e ρ0 (xs.map enc) μ = some ((xs.filter b).map f, μ)
  | [], _ => rfl
  | x :: xs, h => by
    obtain ⟨ρ, h1, h2, h3⟩ := h x (List.mem_cons_self ..)
    have ih := lcD_map enc b f xs fun y hy => h y (List.mem_cons_of_mem _ hy)
    rw [List.map_cons, lcD, h1, Option.bind_some, h2, Option.bind_some]
    by_cases hb : b x = true
    · simp [hb, h3 hb, ih]
    · simp [hb, ih]
theorem bools_map {α : Type} (p : α → Bool) : ∀ xs : List α, boolsOf (xs.map fun x => .bool (p x)) = some (xs.map p)
  | [] => rfl
  | x :: xs => by simp [boolsOf, bools_map p xs]
def sub (a b : List Str) : Bool := a.all fun x => decide (x ∈ b)
def meet (a b : List Str) : Bool := a.any fun x => decide (x ∈ b)
theorem len_map_sz {α : Type} {f : α → D} {xs : List α} (h : xs.length < 65536) : decide ((xs.map f).length ≤ sizeLine) = true := by
  rw [List.length_map]
  exact decide_eq_true (szl (n := xs.length) (by omega))
theorem filter_tt {α : Type} (xs : List α) : xs.filter (fun _ => true) = xs := by simp
theorem items_tup {a : ME} {ρ : List Slot} {μ μ' : List Cell} {ds : List D} (h : a ρ μ = some (.tuple ds, μ')) : anyItems a ρ μ = some (ds, μ') := by
  simp [anyItems, tupItems, h]
theorem items_list {a : ME} {ρ : List Slot} {μ μ' : List Cell} {ds : List D} (h : a ρ μ = some (.list ds, μ')) : anyItems a ρ μ = some (ds, μ') := by
  simp [anyItems, lstItems, h]
theorem lc_of {α : Type} {mi : MA} {vs : List Nat} {g : MG} {t : MT} {e : ME} {ρ : List Slot} {μ : List Cell} (enc : α → D) (b : α → Bool) (f : α → D) (xs : List α) (hi : mi ρ μ = some (xs.map enc, μ)) (hn : noOwn ρ vs = true) (hl : xs.length < 65536)
    (h : ∀ x ∈ xs, ∃ ρ', g (enc x) (wipeD ρ vs) μ = some (ρ', μ) ∧ t ρ' μ = some (b x, μ) ∧ (b x = true → e ρ' μ = some (f x, μ))) : mLc true mi vs g t e ρ μ = some ((xs.filter b).map f, μ) := by
  unfold mLc
  rw [hi, Option.bind_some]
  show (if (noOwn ρ vs && (true || _) && decide ((xs.map enc).length ≤ sizeLine)) = true then lcD g t e (wipeD ρ vs) (xs.map enc) μ else none) = _
  rw [hn, len_map_sz hl, lcD_map enc b f xs h]
  rfl
theorem lc_all {α : Type} {mi : MA} {vs : List Nat} {g : MG} {e : ME} {ρ : List Slot} {μ : List Cell} (enc : α → D) (f : α → D) (xs : List α) (hi : mi ρ μ = some (xs.map enc, μ)) (hn : noOwn ρ vs = true) (hl : xs.length < 65536)
    (h : ∀ x ∈ xs, ∃ ρ', g (enc x) (wipeD ρ vs) μ = some (ρ', μ) ∧ e ρ' μ = some (f x, μ)) : mLc true mi vs g tTrue e ρ μ = some (xs.map f, μ) := by
  have := lc_of (t := tTrue) enc (fun _ => true) f xs hi hn hl fun x hx => by
    obtain ⟨ρ', h1, h2⟩ := h x hx
    exact ⟨ρ', h1, rfl, fun _ => h2⟩
  rwa [filter_tt] at this
/-- masses: sets with what they weigh, over one under-number -/
def massD (s : Int) (m : List (List Str × Int)) : D := .tuple (m.map fun p => .tuple [setD p.1, frac s p.2])
def sumOf (m : List (List Str × Int)) (p : List Str → Bool) : Int := ((m.filter fun q => p q.1).map (·.2)).sum
structure Okm (s : Int) (m : List (List Str × Int)) : Prop where
  pos : 0 < s
  low : s < 65536
  len : m.length < 65536
  lens : ∀ q ∈ m, q.1.length < 65536
theorem unz (s : Int) (q : List Str × Int) (A B C E : Slot) (hA : isOwn [A, B, C, E] 2 = false) (hB : isOwn [A, B, C, E] 3 = false) : gT 2 (gsC (gcN 2) (gsC (gcN 3) gsN)) (.tuple [setD q.1, frac s q.2]) [A, B, C, E] [] = some ([A, B, .val (setD q.1), .val (frac s q.2)], []) := by
  simp [gT, gsC, gsN, gcN, hA, hB]
  cases C <;> cases E <;> simp_all [isOwn]
theorem eq_nil (xs : List D) : gEq (.list xs) (.list []) = some (.bool xs.isEmpty) := by
  cases xs <;> simp [gEq, eqF, eqL]
theorem ne_nil (xs : List D) : gNe (.list xs) (.list []) = some (.bool (!xs.isEmpty)) := by
  cases xs <;> simp [gNe, eqF, eqL]
theorem filter_empty {α : Type} (p : α → Bool) (xs : List α) : (xs.filter fun x => !p x).isEmpty = xs.all p := by
  induction xs with
  | nil => rfl
  | cons x xs ih => by_cases h : p x = true <;> simp_all
theorem filter_some {α : Type} (p : α → Bool) (xs : List α) : (!(xs.filter p).isEmpty) = xs.any p := by
  induction xs with
  | nil => rfl
  | cons x xs ih => by_cases h : p x = true <;> simp_all
theorem tV_of {a : ME} {ρ : List Slot} {μ μ' : List Cell} {b : Bool} (h : a ρ μ = some (.bool b, μ')) : tV a ρ μ = some (b, μ') := by
  unfold tV; rw [h]; rfl
theorem e2_of {g : G2} {a b : ME} {ρ : List Slot} {μ μ1 μ2 : List Cell} {x y z : D} (h : a ρ μ = some (x, μ1)) (h2 : b ρ μ1 = some (y, μ2)) (hg : g x y = some z) : e2 g a b ρ μ = some (z, μ2) := by
  unfold e2; rw [h, Option.bind_some, h2, Option.bind_some, hg]; rfl
theorem eF_of {m : MA} {ρ : List Slot} {μ μ' : List Cell} {ds : List D} (h : m ρ μ = some (ds, μ')) : eF m ρ μ = some (.list ds, μ') := by
  unfold eF; rw [h]; rfl
theorem unz5 (s : Int) (q : List Str × Int) (A B C E F : Slot) (hA : isOwn [A, B, C, E, F] 2 = false) (hB : isOwn [A, B, C, E, F] 3 = false) : gT 2 (gsC (gcN 2) (gsC (gcN 3) gsN)) (.tuple [setD q.1, frac s q.2]) [A, B, C, E, F] [] = some ([A, B, .val (setD q.1), .val (frac s q.2), F], []) := by
  simp [gT, gsC, gsN, gcN, hA, hB]
  cases C <;> cases E <;> simp_all [isOwn]
theorem cut_to {ds : List D} {i : Nat} (h : i ≤ ds.length) : PD.cutD ds none (some (i : Int)) = ds.take i := by
  have e : HT.sIx ds.length ds.length (some (i : Int)) = i := by
    show (if (i : Int) < 0 then ((i : Int) + (ds.length : Int)).toNat else min (i : Int).toNat ds.length) = i
    rw [if_neg (by omega)]
    omega
  unfold PD.cutD
  rw [e]
  show (ds.drop 0).take (i - 0) = _
  rw [List.drop_zero, Nat.sub_zero]
/-- a bound at the top: none, or a number -/
def topD : Option Nat → D
  | none => .none
  | some n => .int n
def topOk (n : Nat) : Option Nat → Prop
  | none => True
  | some m => n ≤ m
theorem top_ne {i n : Nat} {o : Option Nat} (h : topOk n o) (hi : i < n) : gEq (.int i) (topD o) = some (.bool false) := by
  cases o with
  | none => rfl
  | some m =>
    have h : n ≤ m := h
    have : ¬ ((i : Int) = (m : Int)) := by omega
    simp [topD, gEq, eqF, this]
theorem truncS_fn (G : List D → Option D) : truncS 0 [] (.fn G) = .fn G := rfl
theorem wi_loop (ds : List D) (L : Slot) (o : Option Nat) (G : List D → Option D) (hL : isV L = true) (ho : topOk ds.length o) (n0 : Nat) : ∀ (k : Nat) (rest : List D) (u w : Slot), isV u = true → isV w = true → ds.drop k = rest → (∀ i (h : i < ds.length), k ≤ i → G [.tuple (ds.take i), ds[i]] = some (.bool true)) →
    ∃ u' w', isV u' = true ∧ isV w' = true ∧ forD (gT 2 (gsC (gN 4) (gsC (gN 5) (gsN)))) (sIf (tOr (tV (e2 gEq (eVar 4) (eVar 2))) (tNot (tV (eFn 3 (aC (eSl (eVar 0) (pN) (pS (eVar 4))) (aC (eVar 5) (aN))))))) (sRet B0 (eL gLst (aC (eVar 4) (aN)))) (sNil)) n0 0 (enumD k rest) [.val (.tuple ds), L, .val (topD o), .fn G, u, w] [] = some (.next [.val (.tuple ds), L, .val (topD o), .fn G, u', w'] [])
  | k, [], u, w, h1, h2, _, _ => ⟨u, w, h1, h2, rfl⟩
  | k, r :: rest, u, w, h1, h2, hd, hG => by
    have hk : k < ds.length := by
      have := congrArg List.length hd
      simp at this
      omega
    have hr : ds[k] = r := by
      have := congrArg (·[0]?) hd
      simp [List.getElem?_drop, List.getElem?_eq_getElem hk] at this
      exact this
    obtain ⟨u', w', q1, q2, ih⟩ := wi_loop ds L o G hL ho n0 (k + 1) rest (.val (.int k)) (.val r) rfl rfl (by rw [← List.drop_drop, hd]; rfl) fun i h hi => hG i h (by omega)
    refine ⟨u', w', q1, q2, ?_⟩
    rw [← ih]
    have g := hG k hk (Nat.le_refl _)
    rw [hr] at g
    have c : gSl (.tuple ds) none (some (k : Int)) = some (.tuple (ds.take k)) := by rw [← cut_to (Nat.le_of_lt hk)]; rfl
    rw [show enumD k (r :: rest) = .tuple [.int k, r] :: enumD (k + 1) rest from rfl]
    cases u <;> cases w <;> simp [isV] at h1 h2 <;> simp [forD, gT, gsC, gsN, gN, sIf, tOr, tV, PD.e2, eVar, top_ne ho hk, gBool, tNot, eFn, aC, aN, eSl, pN, pS, c, g, sNil, truncS_val, truncS_fn, truncS_v hL]
theorem wrong_in_spec {ds : List D} {l : Int} {o : Option Nat} {G : List D → Option D} (hl : l ≤ ds.length) (ho : topOk ds.length o) (hG : ∀ i (h : i < ds.length), G [.tuple (ds.take i), ds[i]] = some (.bool true)) :
    F_wrong_in [.val (.tuple ds), .val (.int l), .val (topD o), .fn G] [] = some (.list [], []) := by
  obtain ⟨u, w, h1, h2, h⟩ := wi_loop ds (.val (.int l)) o G rfl ho 0 0 ds .non .non rfl rfl rfl fun i h _ => hG i h
  have hl' : ¬ ((ds.length : Int) < l) := by omega
  simp [F_wrong_in, bodyF, m_wrong_in, sSeq, sIf, tOr, tNot, tV, eIs, isX, isTup, eVar, gBool, e2, eL, gl1, gLen, aC, aN, gLt, hl', sNil, sFor, enumTI, gEnumT, h, sRet, gLst, okB, B0]
  cases u <;> cases w <;> simp_all [isV]
def slt (x y : Str) : Bool := decide (x.cps.toList < y.cps.toList)
theorem ix_last (ds : List D) (d : D) : gIx (.tuple (ds ++ [d])) (.int (-1)) = some d := by
  have e : L2.ixN (ds ++ [d]).length (-1) = some ds.length := by
    have h1 : (0 : Int) ≤ -1 + ((ds.length : Int) + 1) := by omega
    simp [L2.ixN]
    omega
  simp only [gIx, L2.atI, e]
  simp
theorem eq_tup_nil (ds : List D) : gEq (.tuple ds) (.tuple []) = some (.bool ds.isEmpty) := by
  cases ds <;> simp [gEq, eqF, eqL]
theorem below_nil (x : Str) : F_are_below [.val (.tuple []), .val (.str x)] [] = some (.bool true, []) := by
  simp [F_are_below, bodyF, m_are_below, sRet, eOr, e2, eVar, eL, gTup, aN, eq_tup_nil, gBool, okB, B0]
theorem below_snoc (ds : List D) (y x : Str) : F_are_below [.val (.tuple (ds ++ [.str y])), .val (.str x)] [] = some (.bool (slt y x), []) := by
  simp [F_are_below, bodyF, m_are_below, sRet, eOr, e2, e1, eC, gNeg, eVar, eL, gTup, aN, eq_tup_nil, gBool, okB, B0, ix_last, gLt, slt]
theorem one_of_spec (x : Str) (b : List Str) : F_is_one_of [.val (.str x), .val (setD b)] [] = some (.bool (decide (x ∈ b)), []) := by
  simp [F_is_one_of, bodyF, m_is_one_of, sRet, eAnd, eIs, isX, isStr, e2, eVar, in_set, gBool, okB, B0]
abbrev Inc (a : List Str) : Prop := a.Pairwise fun x y => slt x y = true
theorem below_take {a : List Str} (h : Inc a) {i : Nat} (hi : i < a.length) : F_are_below [.val (.tuple ((a.map PyData.str).take i)), .val (.str a[i])] [] = some (.bool true, []) := by
  cases i with
  | zero => exact below_nil _
  | succ j =>
    have hj : j < a.length := by omega
    have e : (a.map PyData.str).take (j + 1) = (a.map PyData.str).take j ++ [.str a[j]] := by
      rw [List.take_succ_eq_append_getElem (by simpa using hj)]
      simp
    have hl : slt a[j] a[j + 1] = true := List.pairwise_iff_getElem.mp h j (j + 1) hj hi (by omega)
    rw [e, below_snoc, hl]
theorem set_spec {a b : List Str} (h : Inc a) (hs : ∀ x ∈ a, x ∈ b) (hl : a.length ≤ b.length) : F_is_set_of_names [.val (setD a), .val (setD b)] [] = some (.bool true, []) := by
  have w := wrong_in_spec (ds := a.map .str) (l := 0) (o := some b.length) (G := lamG 2 0 (eAnd (eCall 2 F_is_one_of (rV (eVar 1) (rV (eVar 2) (rN)))) (eCall 2 F_are_below (rV (eVar 0) (rV (eVar 1) (rN))))) [.val (setD b)]) (by omega) (by simpa [topOk] using hl) fun i hi => by
    have hi' : i < a.length := by simpa using hi
    have m : a[i] ∈ b := hs _ (List.getElem_mem hi')
    have bt := below_take h hi'
    simp [lamG, eAnd, eCall, rV, rN, eVar, lentOf, slotsOf, cellsOf, nodupB, flatCs, setCells, one_of_spec, m, gBool]
    simp [bt, flatCs, gBool]
  have e : (a.map PyData.str).length = a.length := by simp
  simp [F_is_set_of_names, bodyF, m_is_set_of_names, sRet, e2, eHo, lC, lLam, eVar, eC, eL, gl1, gLen, aC, aN, setD, capS, capO, okB, B0, gLst]
  simp [setD, topD] at w
  rw [w]
  simp [eq_nil, topD]
theorem nfN_pos {r s : Int} (hr : 0 < r) (hs : 0 < s) : 0 < nfN r s :=
  Int.ediv_pos_of_pos_of_dvd hr (Int.le_of_lt (g_pos r hs)) (g_dvd_r r s)
theorem nf_coprime (r : Int) {s : Int} (hs : 0 < s) : Nat.gcd (nfN r s).natAbs (nfD r s).natAbs = 1 := by
  have h1 := nfN_mul r s
  have h2 := nfD_mul r s
  have hg := g_pos r hs
  have e1 : (nfN r s).natAbs * Nat.gcd r.natAbs s.natAbs = r.natAbs := by
    have := congrArg Int.natAbs h1
    rwa [Int.natAbs_mul, Int.natAbs_natCast] at this
  have e2 : (nfD r s).natAbs * Nat.gcd r.natAbs s.natAbs = s.natAbs := by
    have := congrArg Int.natAbs h2
    rwa [Int.natAbs_mul, Int.natAbs_natCast] at this
  have e3 := Nat.gcd_mul_right (nfN r s).natAbs (Nat.gcd r.natAbs s.natAbs) (nfD r s).natAbs
  rw [e1, e2] at e3
  have hg' : 0 < Nat.gcd r.natAbs s.natAbs := by omega
  exact Nat.eq_of_mul_eq_mul_right hg' (by omega)
theorem pair_spec (x y : D) : F_is_pair [.val (.tuple [x, y])] [] = some (.bool true, []) := by
  have h : F_is_tuple_of [.val (.tuple [x, y]), .val (.int 2)] [] = some (.bool true, []) := by
    simp [F_is_tuple_of, bodyF, m_is_tuple_of, sRet, eAnd, eIs, isX, isTup, eVar, gBool, e2, eL, gl1, gLen, aC, aN, gEq, eqF, okB, B0]
  simp [F_is_pair, bodyF, m_is_pair, sRet, eCall, rV, rN, eVar, eC, lentOf, slotsOf, cellsOf, nodupB, flatCs, setCells, h, okB, B0]
theorem whole_spec (i : Int) : F_is_whole [.val (.int i)] [] = some (.bool true, []) := by
  simp [F_is_whole, bodyF, m_is_whole, sRet, eAnd, eIs, isX, isInt, isBool, eVar, gBool, eNot, okB, B0]
theorem call1_of {F : FD} {a : ME} {ρ : List Slot} {x y : D} (ha : a ρ [] = some (x, [])) (h : F [.val x] [] = some (y, [])) : eCall 1 F (rV a rN) ρ [] = some (y, []) := by
  simp [eCall, rV, rN, ha, lentOf, slotsOf, cellsOf, nodupB, flatCs, setCells, h]
theorem call2_of {F : FD} {a b : ME} {ρ : List Slot} {x x' y : D} (ha : a ρ [] = some (x, [])) (hb : b ρ [] = some (x', [])) (h : F [.val x, .val x'] [] = some (y, [])) : eCall 2 F (rV a (rV b rN)) ρ [] = some (y, []) := by
  simp [eCall, rV, rN, ha, hb, lentOf, slotsOf, cellsOf, nodupB, flatCs, setCells, h]
theorem call3_of {F : FD} {a b c : ME} {ρ : List Slot} {x x' x2 y : D} (ha : a ρ [] = some (x, [])) (hb : b ρ [] = some (x', [])) (hc : c ρ [] = some (x2, [])) (h : F [.val x, .val x', .val x2] [] = some (y, [])) : eCall 3 F (rV a (rV b (rV c rN))) ρ [] = some (y, []) := by
  simp [eCall, rV, rN, ha, hb, hc, lentOf, slotsOf, cellsOf, nodupB, flatCs, setCells, h]
theorem eL1_of {g : G1} {a : ME} {ρ : List Slot} {μ μ' : List Cell} {x y : D} (ha : a ρ μ = some (x, μ')) (h : g x = some y) : eL (gl1 g) (aC a aN) ρ μ = some (y, μ') := by
  simp [eL, aC, aN, ha, gl1, h]
theorem fraction_spec (r : Int) {s : Int} (hs : 0 < s) : F_is_fraction [.val (frac s r)] [] = some (.bool true, []) := by
  have h : mLc true (anyItems (eVar 0)) [1] (gcN 1) (tTrue) (eCall 1 F_is_whole (rV (eVar 1) (rN))) [.val (frac s r), .non] [] = some ([nfN r s, nfD r s].map fun _ => .bool true, []) :=
    lc_all PyData.int _ [nfN r s, nfD r s] (items_tup rfl) rfl (by simp) fun i _ => ⟨[.val (frac s r), .val (.int i)], rfl, call1_of rfl (whole_spec i)⟩
  have p1 : tV (eCall 1 F_is_pair (rV (eVar 0) (rN))) [.val (frac s r), .non] [] = some (true, []) := tV_of (call1_of rfl (pair_spec (.int (nfN r s)) (.int (nfD r s))))
  have p2 : tV (eL (gl1 gAll) (aC (eF (mLc true (anyItems (eVar 0)) [1] (gcN 1) (tTrue) (eCall 1 F_is_whole (rV (eVar 1) (rN))))) (aN))) [.val (frac s r), .non] [] = some (true, []) := tV_of (eL1_of (eF_of h) (by rw [gAll, bools_map]; rfl))
  have c := nf_coprime r hs
  have d := nfD_pos r hs
  simp [F_is_fraction, bodyF, m_is_fraction, sSeq, sIf, tOr, tNot, p1, p2, sNil]
  simp [frac, sRet, eAnd, e2, eVar, eC, gIx, L2.atI, L2.ixN, gGt, d, gBool, eL, gl2, aC, aN, gGcd, c, gEq, eqF, okB, B0]
theorem mass_spec {frame a : List Str} {r s : Int} (hs : 0 < s) (hr : 0 < r) (h : Inc a) (hsub : ∀ x ∈ a, x ∈ frame) (hl : a.length ≤ frame.length) (hne : a ≠ []) : F_is_mass [.val (setD frame), .val (.tuple [setD a, frac s r])] [] = some (.bool true, []) := by
  have p1 : tV (eCall 1 F_is_pair (rV (eVar 1) (rN))) [.val (setD frame), .val (.tuple [setD a, frac s r])] [] = some (true, []) := tV_of (call1_of rfl (pair_spec _ _))
  have p2 : tV (eCall 2 F_is_set_of_names (rV (e2 gIx (eVar 1) (eC (.int 0))) (rV (eVar 0) (rN)))) [.val (setD frame), .val (.tuple [setD a, frac s r])] [] = some (true, []) := tV_of (call2_of rfl rfl (set_spec h hsub hl))
  have p3 : tV (e2 gEq (e2 gIx (eVar 1) (eC (.int 0))) (eL gTup (aN))) [.val (setD frame), .val (.tuple [setD a, frac s r])] [] = some (false, []) := tV_of (e2_of (y := .tuple []) (show e2 gIx (eVar 1) (eC (.int 0)) _ _ = some (setD a, []) from rfl) (by simp [eL, aN, gTup]) (by rw [setD, eq_tup_nil]; simp [hne]))
  have p4 : eCall 1 F_is_fraction (rV (e2 gIx (eVar 1) (eC (.int 1))) (rN)) [.val (setD frame), .val (.tuple [setD a, frac s r])] [] = some (.bool true, []) := call1_of rfl (fraction_spec r hs)
  have n := nfN_pos hr hs
  simp [F_is_mass, bodyF, m_is_mass, sSeq, sIf, tOr, tNot, p1, p2, p3, sNil]
  have p5 : e2 gGt (e2 gIx (e2 gIx (eVar 1) (eC (.int 1))) (eC (.int 0))) (eC (.int 0)) [.val (setD frame), .val (.tuple [setD a, frac s r])] [] = some (.bool true, []) := by
    simp [e2, eVar, eC, gIx, L2.atI, L2.ixN, frac, gGt, n]
  simp [sRet, eAnd, p4, p5, gBool, okB, B0]
def so (a : List Str) : D := .tuple [.int (a.length : Int), setD a]
theorem order_spec (a : List Str) : F_set_order [.val (setD a)] [] = some (so a, []) := by
  simp [F_set_order, bodyF, m_set_order, sRet, eL, gl1, gLen, aC, aN, eVar, setD, gTup, szl (n := 2), okB, B0, so]
theorem al_strs : ∀ a b : List Str, PySem.W.alikeAll (a.map .str) (b.map .str) = true
  | [], [] => by simp [PySem.W.alikeAll]
  | [], _ :: _ => by simp [PySem.W.alikeAll]
  | _ :: _, [] => by simp [PySem.W.alikeAll]
  | x :: a, y :: b => by simp [PySem.W.alikeAll, PySem.W.alike, al_strs a b]
theorem depth_strs : ∀ a : List Str, PyData.depthAll (a.map .str) ≤ 1
  | [] => by simp [PyData.depthAll]
  | x :: a => by
    have := depth_strs a
    simp [PyData.depthAll, PyData.depth]
    omega
theorem seq_strs : ∀ a : List Str, seqA (a.map .str) = true
  | [] => by simp [seqA]
  | x :: a => by simp [seqA, seqD, seq_strs a]
theorem okCmp_so (a b : List Str) : okCmp (so a) (so b) = true := by
  have h := depth_strs a
  simp [okCmp, so, setD, seqD, seqA, seq_strs, PySem.W.alike, PySem.W.alikeAll, al_strs, isNoneD, PyData.depth, PyData.depthAll]
  omega
abbrev sle (a b : List Str) : Bool := PySem.W.dataLt (so a) (so b)
/-- masses of a frame: rising sets of its things, none empty, each weighing more than nothing -/
structure Mass (frame : List Str) (s : Int) (m : List (List Str × Int)) : Prop where
  ok : Okm s m
  pos : ∀ q ∈ m, 0 < q.2
  inc : ∀ q ∈ m, Inc q.1
  sub : ∀ q ∈ m, ∀ x ∈ q.1, x ∈ frame
  few : ∀ q ∈ m, q.1.length ≤ frame.length
  full : ∀ q ∈ m, q.1 ≠ []
  rise : m.Pairwise fun p q => sle p.1 q.1 = true
  sum : (m.map (·.2)).sum = s
def pairD (s : Int) (p : List Str × Int) : D := .tuple [setD p.1, frac s p.2]
theorem wi_masses {frame : List Str} {s : Int} {m : List (List Str × Int)} (o : Mass frame s m) : F_wrong_in_masses [.val (setD frame), .val (massD s m)] [] = some (.list [], []) := by
  let mb : ME := eAnd (eCall 2 F_is_mass (rV (eVar 2) (rV (eVar 1) (rN)))) (eOr (e2 gEq (eVar 0) (eL gTup (aN))) (e2 (gCmpD PySem.W.dataLt) (eCall 1 F_set_order (rV (e2 gIx (e2 gIx (eVar 0) (e1 gNeg (eC (.int 1)))) (eC (.int 0))) (rN))) (eCall 1 F_set_order (rV (e2 gIx (eVar 1) (eC (.int 0))) (rN)))))
  have w := wrong_in_spec (ds := m.map (pairD s)) (l := 0) (o := none) (G := lamG 2 0 mb [.val (setD frame)]) (by omega) trivial fun i hi => by
    have hi' : i < m.length := by simpa using hi
    have mem := List.getElem_mem hi'
    have p := mass_spec o.ok.pos (o.pos _ mem) (o.inc _ mem) (o.sub _ mem) (o.few _ mem) (o.full _ mem)
    have ei : (m.map (pairD s))[i] = pairD s m[i] := by simp
    rw [ei]
    have c1 : eCall 2 F_is_mass (rV (eVar 2) (rV (eVar 1) (rN))) [.val (.tuple ((m.map (pairD s)).take i)), .val (pairD s m[i]), .val (setD frame)] [] = some (.bool true, []) := call2_of rfl rfl p
    have c2 : eOr (e2 gEq (eVar 0) (eL gTup (aN))) (e2 (gCmpD PySem.W.dataLt) (eCall 1 F_set_order (rV (e2 gIx (e2 gIx (eVar 0) (e1 gNeg (eC (.int 1)))) (eC (.int 0))) (rN))) (eCall 1 F_set_order (rV (e2 gIx (eVar 1) (eC (.int 0))) (rN)))) [.val (.tuple ((m.map (pairD s)).take i)), .val (pairD s m[i]), .val (setD frame)] [] = some (.bool true, []) := by
      cases i with
      | zero => simp [eOr, e2, eVar, eL, aN, gTup, eq_tup_nil, gBool]
      | succ j =>
        have hj : j < m.length := by omega
        have e : (m.map (pairD s)).take (j + 1) = (m.map (pairD s)).take j ++ [pairD s m[j]] := by
          rw [List.take_succ_eq_append_getElem (by simpa using hj)]
          simp
        have hl : sle m[j].1 m[j + 1].1 = true := List.pairwise_iff_getElem.mp o.rise j (j + 1) hj hi' (by omega)
        rw [e]
        generalize (m.map (pairD s)).take j = ys
        have a1 : e2 gEq (eVar 0) (eL gTup (aN)) [.val (.tuple (ys ++ [pairD s m[j]])), .val (pairD s m[j + 1]), .val (setD frame)] [] = some (.bool false, []) := e2_of (y := .tuple []) rfl (by simp [eL, aN, gTup]) (by rw [eq_tup_nil]; simp)
        have a2 : e2 gIx (e2 gIx (eVar 0) (e1 gNeg (eC (.int 1)))) (eC (.int 0)) [.val (.tuple (ys ++ [pairD s m[j]])), .val (pairD s m[j + 1]), .val (setD frame)] [] = some (setD m[j].1, []) := e2_of (e2_of (y := .int (-1)) rfl rfl (ix_last ys _)) rfl rfl
        have a3 := call1_of (F := F_set_order) a2 (order_spec m[j].1)
        have a4 : eCall 1 F_set_order (rV (e2 gIx (eVar 1) (eC (.int 0))) (rN)) [.val (.tuple (ys ++ [pairD s m[j]])), .val (pairD s m[j + 1]), .val (setD frame)] [] = some (so m[j + 1].1, []) := call1_of (e2_of (x := pairD s m[j + 1]) (y := .int 0) rfl rfl rfl) (order_spec _)
        have a5 := e2_of (g := gCmpD PySem.W.dataLt) a3 a4 (show gCmpD PySem.W.dataLt (so m[j].1) (so m[j + 1].1) = some (.bool true) from by rw [gCmpD, if_pos (okCmp_so _ _)]; exact congrArg (fun b => some (PyData.bool b)) hl)
        unfold eOr
        rw [a1, Option.bind_some]
        simp [gBool, a5]
    simp only [lamG, mb, eAnd]
    simp [c1, gBool]
    simp [c2]
  have t := total_spec o.ok.pos o.ok.low (m.map (·.2))
  rw [o.sum, ← frac_one o.ok.pos, List.map_map] at t
  have hl : mLc true (anyItems (eVar 1)) [3, 4] (gT 2 (gsC (gcN 3) (gsC (gcN 4) (gsN)))) (tTrue) (eVar 4) [.val (setD frame), .val (massD s m), .val (.list []), .non, .non] [] = some (m.map fun q => frac s q.2, []) :=
    lc_all (pairD s) (fun q => frac s q.2) m (items_tup rfl) rfl o.ok.len fun q _ => ⟨[.val (setD frame), .val (massD s m), .val (.list []), .val (setD q.1), .val (frac s q.2)], rfl, rfl⟩
  have c3 := call1_of (F := F_total) (eF_of hl) t
  have c4 : eHo 4 F_wrong_in (lC (eVar 1) (lC (eC (.int 0)) (lC (eC .none) (lLam 2 0 [0] mb)))) [.val (setD frame), .val (massD s m), .non, .non, .non] [] = some (.list [], []) := by
    simp only [eHo, lC, lLam, eVar, eC]
    simp [capS, capO]
    have e : massD s m = .tuple (m.map (pairD s)) := rfl
    rw [show topD none = PyData.none from rfl] at w
    rw [e, w]
    rfl
  have c5 : tV (e2 gEq (eCall 1 F_total (rV (eF (mLc true (anyItems (eVar 1)) [3, 4] (gT 2 (gsC (gcN 3) (gsC (gcN 4) (gsN)))) (tTrue) (eVar 4))) (rN))) (eC c_WHOLE)) [.val (setD frame), .val (massD s m), .val (.list []), .non, .non] [] = some (true, []) := tV_of (e2_of c3 rfl rfl)
  simp only [mb] at c4
  simp [F_wrong_in_masses, bodyF, m_wrong_in_masses, sSeq, sAs, c4, gN]
  simp [sIf, tV, e2, eVar, eL, aN, gLst, ne_nil, gBool, sNil]
  simp only [tV, e2] at c5
  simp [sRet, eIf, c5, tV, e2, okB, B0, eL, aN, gLst]
def letters : Str := "abcdefghijklmnopqrstuvwxyz"
def words : List Str := ["all", "act", "acts", "believe", "book", "case", "doubt", "frame", "hear", "if", "is", "join", "least", "may", "none", "not", "of", "open", "or", "quit", "set", "sets", "share", "strike", "tell", "then", "undo", "weight", "witness", "worth", "yes"]
structure Nm (x : Str) : Prop where
  one : 1 ≤ x.length
  few : x.length ≤ 8
  let' : ∀ c ∈ x.cps.toList, c ∈ letters.cps.toList
  no : x ∉ words
theorem items_str {a : ME} {ρ : List Slot} {μ μ' : List Cell} {x : Str} (h : a ρ μ = some (.str x, μ')) : anyItems a ρ μ = some (x.cps.toList.map fun c => .str ⟨#[c]⟩, μ') := by
  simp [anyItems, strItems, h]
theorem word_spec {x : Str} (h : Nm x) : F_is_word [.val (.str x)] [] = some (.bool true, []) := by
  have hl : x.cps.toList.length < 65536 := by
    have := h.few
    have e : x.cps.toList.length = x.length := by simp [Str.length]
    omega
  have l : mLc true (anyItems (eVar 0)) [1] (gcN 1) (tTrue) (e2 gIn (eVar 1) (eC c_LETTERS)) [.val (.str x), .non] [] = some (x.cps.toList.map fun _ => .bool true, []) :=
    lc_all (fun c => .str ⟨#[c]⟩) _ x.cps.toList (items_str rfl) rfl hl fun c hc => ⟨[.val (.str x), .val (.str ⟨#[c]⟩)], rfl, e2_of rfl rfl (by
      have := h.let' c hc
      have s : signIn ⟨#[c]⟩ letters = some true := by
        show some (decide (c ∈ letters.cps.toList)) = _
        rw [decide_eq_true this]
      show (signIn ⟨#[c]⟩ letters).map PyData.bool = _
      rw [s]
      rfl)⟩
  have a := eL1_of (g := gAll) (eF_of l) (y := .bool true) (by rw [gAll, bools_map]; simp)
  have ne : gNe (.str x) (.str "") = some (.bool true) := by
    have : ¬ x = "" := fun e => by
      have h1 := h.one
      rw [e] at h1
      exact absurd h1 (by decide)
    simp [gNe, eqF, this]
  simp [F_is_word, bodyF, m_is_word, sRet, eAnd, eIs, isX, isStr, eVar, gBool, e2, eC, ne, a, okB, B0]
theorem name_spec {x : Str} (h : Nm x) : F_is_name [.val (.str x)] [] = some (.bool true, []) := by
  have a := call1_of (F := F_is_word) (a := eVar 0) (ρ := [.val (.str x)]) rfl (word_spec h)
  have w : gNotIn (.str x) c_WORDS = some (.bool true) := by
    show gNotIn (.str x) (setD words) = _
    rw [notin_set]
    simp [h.no]
  have l : gLe (.int x.length) (.int 8) = some (.bool true) := by
    have := h.few
    simp [gLe]
    omega
  have z : x.length ≤ sizeLine := szl (n := x.length) (by have := h.few; omega)
  simp [F_is_name, bodyF, m_is_name, sRet, eAnd, a, gBool, e2, eL, gl1, gLen, aC, aN, eVar, eC, c_MOST_LETTERS, l, w, z, okB, B0]
structure Frame (f : List Str) : Prop where
  inc : Inc f
  nm : ∀ x ∈ f, Nm x
  one : 1 ≤ f.length
  few : f.length ≤ 5
theorem wi_frame {f : List Str} (o : Frame f) : F_wrong_in_frame [.val (setD f)] [] = some (.list [], []) := by
  have w := wrong_in_spec (ds := f.map .str) (l := 1) (o := some 5) (G := lamG 2 0 (eAnd (eCall 1 F_is_name (rV (eVar 1) (rN))) (eCall 2 F_are_below (rV (eVar 0) (rV (eVar 1) (rN))))) []) (by have := o.one; simp; omega) (by have := o.few; simpa [topOk] using this) fun i hi => by
    have hi' : i < f.length := by simpa using hi
    have m := name_spec (o.nm _ (List.getElem_mem hi'))
    have bt := below_take o.inc hi'
    have ei : (f.map PyData.str)[i] = .str f[i] := by simp
    rw [ei]
    have c1 : eCall 1 F_is_name (rV (eVar 1) (rN)) [.val (.tuple ((f.map PyData.str).take i)), .val (.str f[i])] [] = some (.bool true, []) := call1_of rfl m
    have c2 : eCall 2 F_are_below (rV (eVar 0) (rV (eVar 1) (rN))) [.val (.tuple ((f.map PyData.str).take i)), .val (.str f[i])] [] = some (.bool true, []) := call2_of rfl rfl bt
    simp only [lamG, eAnd]
    simp [c1, c2, gBool]
  rw [show topD (some 5) = PyData.int 5 from rfl] at w
  simp [F_wrong_in_frame, bodyF, m_wrong_in_frame, sRet, eHo, lC, lLam, eVar, eC, c_MOST_THINGS, capS]
  rw [show setD f = .tuple (f.map .str) from rfl, w]
  simp [okB, B0]
theorem check_frame_spec {f : List Str} (o : Frame f) : F_check_frame [.val (setD f)] [] = some (.none, []) := by
  have i := items_list (call1_of (F := F_wrong_in_frame) (a := eVar 0) (ρ := [.val (setD f), .non]) rfl (wi_frame o))
  simp [F_check_frame, bodyF, m_check_frame, sFor, i, forD]
theorem check_masses_spec {f : List Str} {s : Int} {m : List (List Str × Int)} (o : Frame f) (q : Mass f s m) : F_check_masses [.val (setD f), .val (massD s m)] [] = some (.none, []) := by
  have i := items_list (call2_of (F := F_wrong_in_masses) (a := eVar 0) (b := eVar 1) (ρ := [.val (setD f), .val (massD s m), .non]) rfl rfl (wi_masses q))
  have c := call1_of (F := F_check_frame) (a := eVar 0) (ρ := [.val (setD f), .val (massD s m), .non]) rfl (check_frame_spec o)
  simp [F_check_masses, bodyF, m_check_masses, sSeq, sEx, c, sFor, i, forD]
structure Sub (f x : List Str) : Prop where
  inc : Inc x
  sub : ∀ y ∈ x, y ∈ f
  few : x.length ≤ f.length
/-- a call that lends the pool and hands a value -/
theorem callP_of {F : FD} {B : Nat → Bool} {a : ME} {ρ : List Slot} {p p' : Cell} {μ : List Cell} {x y : D} (h0 : ρ[0]? = some (.own 0)) (hB : noBo B ρ 0 = true) (ha : a ρ (p :: μ) = some (x, p :: μ)) (hF : F [.own 0, .val x] [p] = some (y, [p'])) (hf : flatC p' = true) : eCall 2 F (rL B 0 (rV a rN)) ρ (p :: μ) = some (y, p' :: μ) := by
  simp [eCall, rL, h0, hB, rV, rN, ha, lentOf, slotsOf, cellsOf, nodupB, hF, flatCs, hf, setCells]
theorem pool_flat {p : Cell} (h : Pool p) : flatC p = true := by
  obtain ⟨a, b, c, rfl, _⟩ := h
  rfl
abbrev Lets (x : Str) : Prop := ∀ c ∈ x.cps.toList, c ∈ letters.cps.toList
theorem letter_at {r : Int} (h0 : 0 ≤ r) (h1 : r < 26) : ∃ c, c ∈ letters.cps.toList ∧ gIx (.str letters) (.int r) = some (.str ⟨#[c]⟩) := by
  have hl : letters.cps.toList.length = 26 := by decide
  have hr : r.toNat < letters.cps.toList.length := by omega
  refine ⟨letters.cps.toList[r.toNat], List.getElem_mem hr, ?_⟩
  have z : letters.length ≤ sizeLine := szl (n := letters.length) (by decide)
  have e : L2.atI letters.cps.toList r = some letters.cps.toList[r.toNat] := by
    rw [L2.atI, hl]
    simp only [L2.ixN]
    rw [if_pos h0, if_pos (by omega)]
    exact List.getElem?_eq_getElem hr
  simp only [gIx]
  rw [if_pos z, e]
  rfl
theorem noBo0 (ρ : List Slot) (k : Nat) : noBo B0 ρ k = true := by
  unfold noBo
  rw [List.all_eq_true]
  intro q _
  cases q.1 <;> simp [B0]
theorem rng_ints (n : Nat) : ∃ ds : List Int, ds.length = n ∧ rngD 0 n = ds.map .int :=
  ⟨(List.range n).map fun i : Nat => (0 : Int) + (i : Int), by simp, by simp [rngD]⟩
/-- a text's beginning -/
theorem cut_str (x : Str) (n : Nat) : (L2.cutS x none (some (n : Int))).cps.toList = x.cps.toList.take n := by
  have e : HT.sIx x.length x.length (some (n : Int)) = min n x.length := by
    show (if (n : Int) < 0 then ((n : Int) + (x.length : Int)).toNat else min (n : Int).toNat x.length) = _
    rw [if_neg (by omega)]
    simp
  have e0 : HT.sIx x.length 0 none = 0 := rfl
  simp only [L2.cutS, e, e0, List.drop_zero, Nat.sub_zero]
  rw [List.take_eq_take_iff.mpr]
  simp [Str.length]
theorem cut_len (x : Str) (n : Nat) : (L2.cutS x none (some (n : Int))).length = min n x.length := by
  have h := congrArg List.length (cut_str x n)
  simpa [Str.length] using h
theorem cut_lets {x : Str} (h : Lets x) (n : Nat) : Lets (L2.cutS x none (some (n : Int))) := by
  intro c hc
  rw [cut_str] at hc
  exact h c (List.mem_of_mem_take hc)
theorem wp_call1 {F : FD} {a : ME} {ρ : List Slot} {μ : List Cell} {Q : D → List Cell → Prop} (h : wp (a ρ μ) fun x μ1 => ∃ y, F [.val x] [] = some (y, []) ∧ Q y μ1) : wp (eCall 1 F (rV a rN) ρ μ) Q := by
  obtain ⟨x, m, e, y, hF, q⟩ := h
  exact ⟨y, m, by simp [eCall, rV, rN, e, lentOf, slotsOf, cellsOf, nodupB, flatCs, setCells, hF], q⟩
theorem wp_call2 {F : FD} {a b : ME} {ρ : List Slot} {μ : List Cell} {Q : D → List Cell → Prop} (h : wp (a ρ μ) fun x μ1 => wp (b ρ μ1) fun x2 μ2 => ∃ y, F [.val x, .val x2] [] = some (y, []) ∧ Q y μ2) : wp (eCall 2 F (rV a (rV b rN)) ρ μ) Q := by
  obtain ⟨x, m, e, x2, m2, e2, y, hF, q⟩ := h
  exact ⟨y, m2, by simp [eCall, rV, rN, e, e2, lentOf, slotsOf, cellsOf, nodupB, flatCs, setCells, hF], q⟩
theorem wp_call3 {F : FD} {a b c : ME} {ρ : List Slot} {μ : List Cell} {Q : D → List Cell → Prop} (h : wp (a ρ μ) fun x μ1 => wp (b ρ μ1) fun x2 μ2 => wp (c ρ μ2) fun x3 μ3 => ∃ y, F [.val x, .val x2, .val x3] [] = some (y, []) ∧ Q y μ3) : wp (eCall 3 F (rV a (rV b (rV c rN))) ρ μ) Q := by
  obtain ⟨x, m, e, x2, m2, e2, x3, m3, e3, y, hF, q⟩ := h
  exact ⟨y, m3, by simp [eCall, rV, rN, e, e2, e3, lentOf, slotsOf, cellsOf, nodupB, flatCs, setCells, hF], q⟩
/-- a call that lends the pool, which comes back a pool -/
theorem wp_callP {F : FD} {B : Nat → Bool} {a : ME} {ρ : List Slot} {p : Cell} {μ : List Cell} {Q : D → List Cell → Prop} (h0 : ρ[0]? = some (.own 0)) (hB : noBo B ρ 0 = true) (h : wp (a ρ (p :: μ)) fun x μ1 => ∃ p1, μ1 = p1 :: μ ∧ wp (F [.own 0, .val x] [p1]) fun y c => ∃ p', c = [p'] ∧ Pool p' ∧ Q y (p' :: μ)) : wp (eCall 2 F (rL B 0 (rV a rN)) ρ (p :: μ)) Q := by
  obtain ⟨x, m, e, p1, rfl, y, c, hF, p', rfl, hp, q⟩ := h
  exact ⟨y, _, by simp [eCall, rL, h0, hB, rV, rN, e, lentOf, slotsOf, cellsOf, nodupB, flatCs, setCells, hF, pool_flat hp], q⟩
theorem wp_callP2 {F : FD} {B : Nat → Bool} {a b : ME} {ρ : List Slot} {p : Cell} {μ : List Cell} {Q : D → List Cell → Prop} (h0 : ρ[0]? = some (.own 0)) (hB : noBo B ρ 0 = true) (h : wp (a ρ (p :: μ)) fun x μ1 => wp (b ρ μ1) fun x2 μ2 => ∃ p1, μ2 = p1 :: μ ∧ wp (F [.own 0, .val x, .val x2] [p1]) fun y c => ∃ p', c = [p'] ∧ Pool p' ∧ Q y (p' :: μ)) : wp (eCall 3 F (rL B 0 (rV a (rV b rN))) ρ (p :: μ)) Q := by
  obtain ⟨x, m, e, x2, m2, e2, p1, rfl, y, c, hF, p', rfl, hp, q⟩ := h
  exact ⟨y, _, by simp [eCall, rL, h0, hB, rV, rN, e, e2, lentOf, slotsOf, cellsOf, nodupB, flatCs, setCells, hF, pool_flat hp], q⟩
/-- a call that lends the pool and a list of the frame's own, which stays -/
theorem wp_callPL {F : FD} {B C : Nat → Bool} {i : Nat} {ρ : List Slot} {p U : Cell} {Q : D → List Cell → Prop} (h0 : ρ[0]? = some (.own 0)) (h1 : ρ[i]? = some (.own 1)) (hB : noBo B ρ 0 = true) (hC : noBo C ρ 1 = true) (hU : flatC U = true) (h : wp (F [.own 0, .own 1] [p, U]) fun y c => ∃ p', c = [p', U] ∧ Pool p' ∧ Q y [p', U]) : wp (eCall 2 F (rL B 0 (rL C i rN)) ρ [p, U]) Q := by
  obtain ⟨y, c, hF, p', rfl, hp, q⟩ := h
  exact ⟨y, _, by simp [eCall, rL, h0, h1, hB, hC, rN, lentOf, slotsOf, cellsOf, nodupB, flatCs, setCells, hF, pool_flat hp, hU], q⟩
theorem flat_strs : ∀ xs : List Str, flatA (xs.map .str) = true
  | [] => rfl
  | x :: xs => by simp [flatA, flat, flat_strs xs]
theorem anyF_strs_list (x : Str) (b : List Str) : gNotIn (.str x) (.list (b.map .str)) = some (.bool (!decide (x ∈ b))) := by
  simp [gNotIn, gInB, anyF_str]
theorem ne_list_nil (b : List Str) : gNe (.list (b.map .str)) (.list []) = some (.bool (!b.isEmpty)) := by
  rw [ne_nil]
  cases b <;> rfl
theorem words_len : ∀ w ∈ words, w.length ≤ 7 := by decide
theorem ws_forE {n : Nat} {ρ : List Slot} {μ : List Cell} {mi : MA} {g : MG} {ms : MS} {Q : Fl → Prop} (h : wp (mi ρ μ) fun ds μ1 => wp1 (forD g ms n μ1.length ds ρ μ1) Q) : wp1 (sFor mi g ms n ρ μ) Q := by
  obtain ⟨ds, m, e, fl, e2, q⟩ := h
  exact ⟨fl, by simp [sFor, e, e2], q⟩
theorem nm_lets {x : Str} (h : Nm x) : Lets x := h.let'
def rp (i : Nat) : Str := strRep ⟨#[97 + i]⟩ 8
theorem rp_cps (i : Nat) : (rp i).cps.toList = List.replicate 8 (97 + i) := by
  simp [rp, strRep, List.replicate]
theorem rp_len (i : Nat) : (rp i).length = 8 := by
  have h := congrArg List.length (rp_cps i)
  simpa [Str.length] using h
theorem rp_inj {i j : Nat} (h : rp i = rp j) : i = j := by
  have e := congrArg (fun x : Str => x.cps.toList.head?) h
  simp only [rp_cps] at e
  simp [List.replicate] at e
  exact e
theorem words_not8 {x : Str} (h : x.length = 8) : x ∉ words := fun hx => by
  have := words_len x hx
  omega
theorem lets12 : ∀ i, i < 12 → 97 + i ∈ letters.cps.toList := by decide
theorem nm_rp {i : Nat} (h : i < 12) : Nm (rp i) := ⟨by rw [rp_len]; omega, by rw [rp_len]; omega, fun c hc => by
  rw [rp_cps] at hc
  rw [(List.mem_replicate.mp hc).2]
  exact lets12 i h, words_not8 (rp_len i)⟩
theorem nodup_le : ∀ (l k : List Str), l.Nodup → (∀ x ∈ l, x ∈ k) → l.length ≤ k.length
  | [], _, _, _ => Nat.zero_le _
  | x :: l, k, h, hs => by
    have hx := hs x (List.mem_cons_self ..)
    obtain ⟨h1, h2⟩ := List.nodup_cons.mp h
    have ih := nodup_le l (k.erase x) h2 fun y hy => (List.mem_erase_of_ne (fun e : y = x => h1 (by rw [← e]; exact hy))).mpr (hs y (List.mem_cons_of_mem _ hy))
    rw [List.length_erase_of_mem hx] at ih
    have : 0 < k.length := List.length_pos_of_mem hx
    simp
    omega
theorem rp_free {used : List Str} (hl : used.length < 12) : ∃ i, i < 12 ∧ rp i ∉ used := by
  apply Classical.byContradiction
  intro h
  have a : ∀ i, i < 12 → rp i ∈ used := fun i hi => Classical.byContradiction fun z => h ⟨i, hi, z⟩
  have nd : ((List.range 12).map rp).Nodup := by
    rw [List.Nodup, List.pairwise_map]
    exact List.Pairwise.imp (fun hne e => hne (rp_inj e)) (List.nodup_range (n := 12))
  have := nodup_le _ used nd fun x hx => by
    obtain ⟨i, hi, rfl⟩ := List.mem_map.mp hx
    exact a i (List.mem_range.mp hi)
  simp at this
  omega
theorem ix12 : ∀ i : Nat, i < 12 → L2.atI ("abcdefghijkl" : Str).cps.toList (0 + (i : Int)) = some (97 + i) := by decide
theorem rp_val {ρ : List Slot} {μ : List Cell} {i : Nat} (hi : i < 12) (h : ρ[5]? = some (.val (.int (0 + (i : Int))))) : e2 gMulS (e2 gIx (eC (.str "abcdefghijkl")) (eVar 5)) (eC (.int 8)) ρ μ = some (.str (rp i), μ) := by
  have v : eVar 5 ρ μ = some (.int (0 + (i : Int)), μ) := by simp [eVar, h]
  have g : gIx (.str "abcdefghijkl") (.int (0 + (i : Int))) = some (.str ⟨#[97 + i]⟩) := by
    show (if ("abcdefghijkl" : Str).length ≤ sizeLine then (L2.atI ("abcdefghijkl" : Str).cps.toList (0 + (i : Int))).map fun c => PyData.str ⟨#[c]⟩ else none) = _
    rw [if_pos (show ("abcdefghijkl" : Str).length ≤ sizeLine from szl (n := 12) (by omega)), ix12 i hi]
    rfl
  exact e2_of (e2_of rfl v g) rfl (by
    show (if (2 : Int) ≤ 8 ∧ (8 : Int) ≤ 1000 ∧ 1 ≤ (⟨#[97 + i]⟩ : Str).length ∧ (⟨#[97 + i]⟩ : Str).length ≤ 1000 then some (PyData.str (strRep ⟨#[97 + i]⟩ (8 : Int).toNat)) else none) = _
    rw [if_pos (by simp [Str.length])]
    rfl)
theorem gEq_int (a b : Int) : gEq (.int a) (.int b) = some (.bool (decide (a = b))) := by
  simp [gEq, eqF]
  rfl
theorem gLst_nil : gLst [] = some (.list []) := by simp [gLst]
theorem tr_v {s : Slot} {μ : List Cell} {m : Nat} (h : isV s = true) : truncS m μ s = s := by cases s <;> simp_all [isV, truncS]
theorem alike_str (x y : Str) : PySem.W.alike (.str x) (.str y) = true := by simp [PySem.W.alike]
theorem sortOk_strs (xs : List Str) (h : xs.length < 65536) : sortOk (xs.map .str) = true := by
  have z : xs.length ≤ sizeLine := szl (n := xs.length) (by omega)
  unfold sortOk
  simp only [Bool.and_eq_true]
  refine ⟨seq_strs xs, ?_, ?_, ?_, ?_⟩
  · rw [List.all_map, List.all_eq_true]
    intro x _
    show (List.all _ _) = true
    rw [List.all_map, List.all_eq_true]
    intro y _
    exact alike_str x y
  · unfold sortableB
    rw [Bool.or_eq_true]
    right
    rw [List.all_map, List.all_eq_true]
    intro x _
    rfl
  · rw [List.all_map, List.all_eq_true]
    intro x _
    simp [PyData.depth]
  · simpa using z
theorem key_str {x y : Str} (h : PySem.W.keyToks (.str x) = PySem.W.keyToks (.str y)) : x = y := by
  simp [PySem.W.keyToks] at h
  exact PySem.W.str_of_cps (by simpa using h)
theorem sort_strs (xs : List Str) (nd : xs.Nodup) : ∃ ys : List Str, ys.Perm xs ∧ sortD (xs.map .str) = ys.map .str ∧ Inc ys := by
  obtain ⟨ys, h1, h2, h3⟩ := sortD_strict PyData.str xs (fun a b h => key_str h) nd
  exact ⟨ys, h1, h2, h3.imp fun {a b} h => by rw [PySem.W.dataLt_str] at h; exact h⟩
theorem slt_irr (x : Str) : slt x x = false := by
  unfold slt
  exact decide_eq_false (List.lt_irrefl _)
theorem inc_nodup {a : List Str} (h : Inc a) : a.Nodup := h.imp fun {x y} h e => by
  subst e
  rw [slt_irr] at h
  cases h
theorem toks_inj : ∀ (a b : List Str), PySem.W.keyToksAll (a.map .str) = PySem.W.keyToksAll (b.map .str) → a = b
  | [], [], _ => rfl
  | [], y :: b, h => by simp [PySem.W.keyToksAll] at h
  | x :: a, [], h => by simp [PySem.W.keyToksAll] at h
  | x :: a, y :: b, h => by
    simp [PySem.W.keyToksAll, PySem.W.keyToks] at h
    have e : x = y := PySem.W.str_of_cps (by simpa using h.1)
    rw [e, toks_inj a b h.2]
theorem so_inj (a b : List Str) (h : PySem.W.keyToks (so a) = PySem.W.keyToks (so b)) : a = b := by
  simp only [so, setD, PySem.W.keyToks, PySem.W.keyToksAll, List.cons_append, List.nil_append, List.cons.injEq] at h
  exact toks_inj a b (List.append_cancel_right h.2.2.2)
theorem sle_nil (a : List Str) : sle a [] = false := by
  unfold sle so
  rw [PySem.W.dataLt_tuple, PySem.W.dataLt_cons (by simp [PySem.W.alike])]
  split
  · rename_i h
    have h : (a.length : Int) = ([] : List Str).length := by simpa [PyData.eqv] using h
    have e : a = [] := List.length_eq_zero_iff.mp (by simpa using h)
    subst e
    exact PyProof.Rows.lex_irrefl _
  · rw [PySem.W.dataLt_int]
    simp
theorem sle_ne {a b : List Str} (h : sle a b = true) : b ≠ [] := fun e => by
  rw [e, sle_nil] at h
  cases h
theorem alike_so (a b : List Str) : PySem.W.alike (so a) (so b) = true := by
  simp [so, setD, PySem.W.alike, PySem.W.alikeAll, al_strs]
theorem sortOk_so (xs : List (List Str)) (h : xs.length < 65536) : sortOk (xs.map so) = true := by
  have z : xs.length ≤ sizeLine := szl (n := xs.length) (by omega)
  unfold sortOk
  simp only [Bool.and_eq_true]
  refine ⟨?_, ?_, ?_, ?_, ?_⟩
  · clear h z
    induction xs with
    | nil => simp [seqA]
    | cons x xs ih => simp [seqA, seqD, so, setD, seq_strs, ih]
  · rw [List.all_map, List.all_eq_true]
    intro x _
    show (List.all _ _) = true
    rw [List.all_map, List.all_eq_true]
    intro y _
    exact alike_so x y
  · unfold sortableB
    rw [Bool.or_eq_true]
    left
    rw [List.all_map, List.all_eq_true]
    intro x _
    rfl
  · rw [List.all_map, List.all_eq_true]
    intro x _
    have := depth_strs x
    simp [so, setD, PyData.depth, PyData.depthAll]
    omega
  · simpa using z
theorem gAdd_list {a b : List D} (h : a.length + b.length < 65536) : gAdd (.list a) (.list b) = some (.list (a ++ b)) := by
  rw [gAdd, if_pos (szl (n := a.length + b.length) (by omega))]
theorem gAdd_set {a : List Str} {x : Str} (h : a.length < 65536) : gAdd (setD a) (.tuple [.str x]) = some (setD (a ++ [x])) := by
  show gAdd (.tuple (a.map .str)) (.tuple [.str x]) = _
  rw [gAdd, if_pos (show (a.map PyData.str).length + [PyData.str x].length ≤ sizeLine from szl (by simp; omega))]
  simp [setD]
structure Sets (f : List Str) (ys : List (List Str)) : Prop where
  rise : ys.Pairwise fun a b => sle a b = true
  sub : ∀ y ∈ ys, y.Sublist f
  emp : [] ∈ ys
  few : ys.length ≤ 32
  len : ys.length = 2 ^ f.length
theorem Sets.ne {f : List Str} {ys : List (List Str)} (o : Sets f ys) {y : List Str} (h : y ∈ ys.drop 1) : y ≠ [] := by
  cases ys with
  | nil => simp at h
  | cons a ys => exact sle_ne ((List.pairwise_cons.mp o.rise).1 y (by simpa using h))
theorem sets_spec {f : List Str} (hi : Inc f) (hl : f.length ≤ 5) : ∃ ys, F_law_sets [.val (setD f)] [] = some (.list (ys.map setD), []) ∧ Sets f ys := by
  suffices h : wp (F_law_sets [.val (setD f)] []) fun d μ => μ = [] ∧ ∃ ys : List (List Str), d = .list (ys.map setD) ∧ Sets f ys by
    obtain ⟨d, m, e, rfl, ys, rfl, o⟩ := h
    exact ⟨ys, e, o⟩
  refine wp_body ?_
  unfold m_law_sets
  refine ws_seq (ws_as (wp_eL.mpr (wp_aC.mpr (wp_eL.mpr (wp_aN.mpr (wp1_of (a := .tuple []) (by simp [gTup]) (wp_aN.mpr (wp1_of (a := .list [.tuple []]) (by simp [gLst, szl (n := 1)]) (wp_some.mpr ?_)))))))))
  refine ws_seq (ws_for (wp_any (wp_of (a := setD f) (b := []) rfl (wp1_of (a := f.map .str) rfl ?_))))
  refine ⟨fun ds ρ μ => ∃ (done rest : List Str) (acc : List (List Str)) (E : Slot), isV E = true ∧ done ++ rest = f ∧ ds = rest.map .str ∧ (∀ y ∈ acc, y.Sublist done) ∧ acc.Nodup ∧ [] ∈ acc ∧ acc.length = 2 ^ done.length ∧ ρ = [.val (setD f), .val (.list (acc.map setD)), E, .non, .non] ∧ μ = [], ⟨[], f, [[]], .non, rfl, rfl, rfl, ?_, ?_, ?_, rfl, rfl, rfl⟩, ?_, ?_⟩
  · simp
  · simp
  · simp
  · rintro d ds _ _ ⟨done, rest, acc, E, hE, hf, hd, hs, nd, he, hlen, rfl, rfl⟩
    cases rest with
    | nil => simp at hd
    | cons x rest =>
      simp only [List.map_cons, List.cons.injEq] at hd
      obtain ⟨rfl, rfl⟩ := hd
      have hdl : done.length + 1 ≤ 5 := by
        rw [← hf] at hl
        simp at hl
        omega
      have hal : acc.length ≤ 16 := by
        rw [hlen]
        exact Nat.pow_le_pow_right (by omega) (show done.length ≤ 4 by omega)
      have hx : x ∉ done := by
        have nf := inc_nodup hi
        rw [← hf] at nf
        have := (List.nodup_append.mp nf).2.2
        exact fun h => this x h x (List.mem_cons_self ..) rfl
      have lc : mLc true (anyItems (eVar 1)) [4] (gcN 4) (tTrue) (e2 gAdd (eVar 4) (eL gTup (aC (eVar 2) (aN)))) [.val (setD f), .val (.list (acc.map setD)), .val (.str x), .non, .non] [] = some (acc.map fun y => setD (y ++ [x]), []) :=
        lc_all setD _ acc (items_list rfl) rfl (by omega) fun y hy => ⟨[.val (setD f), .val (.list (acc.map setD)), .val (.str x), .non, .val (setD y)], rfl, e2_of (x := setD y) (y := .tuple [.str x]) rfl (by simp [eL, aC, aN, eVar, gTup, szl (n := 1)]) (gAdd_set (by have := (hs y hy).length_le; omega))⟩
      refine wp_some.mpr (ws_as (wp_e2.mpr (wp_of (a := .list (acc.map setD)) (b := []) rfl (wp_eF.mpr (wp_of lc (wp1_of (gAdd_list (by simp; omega)) (wp_some.mpr ?_)))))))
      refine ⟨done ++ [x], rest, acc ++ acc.map (· ++ [x]), .val (.str x), rfl, by simpa using hf, rfl, ?_, ?_, ?_, ?_, ?_, rfl⟩
      · intro y hy
        rcases List.mem_append.mp hy with hy | hy
        · exact (hs y hy).trans (List.sublist_append_left ..)
        · obtain ⟨z, hz, rfl⟩ := List.mem_map.mp hy
          exact List.Sublist.append (hs z hz) (List.Sublist.refl _)
      · refine List.nodup_append.mpr ⟨nd, ?_, fun a ha b hb e => ?_⟩
        · rw [List.Nodup, List.pairwise_map]
          exact List.Pairwise.imp (fun {a b} hne e => hne (List.append_cancel_right e)) nd
        · obtain ⟨z, hz, rfl⟩ := List.mem_map.mp hb
          subst e
          exact hx ((hs _ ha).subset (by simp))
      · exact List.mem_append_left _ he
      · simp [hlen, Nat.pow_succ]
        omega
      · simp [truncS]
  · rintro _ _ ⟨done, rest, acc, E, hE, hf, hd, hs, nd, he, hlen, rfl, rfl⟩
    have hr : rest = [] := by
      cases rest with
      | nil => rfl
      | cons => simp at hd
    subst hr
    rw [List.append_nil] at hf
    subst hf
    have hal : acc.length ≤ 32 := by
      rw [hlen]
      exact Nat.pow_le_pow_right (by omega) hl
    obtain ⟨ys, h1, h2, h3⟩ := sortD_strict so acc (fun a b h => so_inj a b h) nd
    have hyl := h1.length_eq
    have l1 : mLc true (anyItems (eVar 1)) [4] (gcN 4) (tTrue) (eL gTup (aC (eL (gl1 gLen) (aC (eVar 4) (aN))) (aC (eVar 4) (aN)))) [.val (setD done), .val (.list (acc.map setD)), E, .non, .non] [] = some (acc.map so, []) :=
      lc_all setD so acc (items_list rfl) rfl (by omega) fun y hy => ⟨[.val (setD done), .val (.list (acc.map setD)), E, .non, .val (setD y)], rfl, by
        have e : gLen (setD y) = some (.int y.length) := by simp [gLen, setD]
        simp [eL, aC, aN, eVar, gl1, e, gTup, szl (n := 2), so]⟩
    have s1 : eL (gl1 gSort) (aC (eF (mLc true (anyItems (eVar 1)) [4] (gcN 4) (tTrue) (eL gTup (aC (eL (gl1 gLen) (aC (eVar 4) (aN))) (aC (eVar 4) (aN)))))) (aN)) [.val (setD done), .val (.list (acc.map setD)), E, .non, .non] [] = some (.list (ys.map so), []) :=
      eL1_of (eF_of l1) (by rw [gSort, if_pos (sortOk_so acc (by omega)), h2])
    have l2 : mLc true (anyItems (eL (gl1 gSort) (aC (eF (mLc true (anyItems (eVar 1)) [4] (gcN 4) (tTrue) (eL gTup (aC (eL (gl1 gLen) (aC (eVar 4) (aN))) (aC (eVar 4) (aN)))))) (aN)))) [3, 4] (gT 2 (gsC (gcN 3) (gsC (gcN 4) (gsN)))) (tTrue) (eVar 4) [.val (setD done), .val (.list (acc.map setD)), E, .non, .non] [] = some (ys.map setD, []) :=
      lc_all so setD ys (items_list s1) rfl (by omega) fun y hy => ⟨[.val (setD done), .val (.list (acc.map setD)), E, .val (.int y.length), .val (setD y)], by simp [gT, so, gsC, gsN, gcN, wipeD, isOwn], rfl⟩
    refine ws_ret0 (wp_eF.mpr (wp_of l2 ?_))
    exact ⟨rfl, ys, rfl, h3, fun y hy => hs y (h1.mem_iff.mp hy), h1.mem_iff.mpr he, by omega, by omega⟩
theorem ints_of : ∀ rs : List Int, intsOf (rs.map .int) = some rs
  | [] => rfl
  | r :: rs => by simp [intsOf, ints_of rs]
theorem sum_le : ∀ (rs : List Int) (b : Int), (∀ r ∈ rs, r ≤ b) → rs.sum ≤ rs.length * b
  | [], b, _ => by simp
  | r :: rs, b, h => by
    have h1 := h r (List.mem_cons_self ..)
    have h2 := sum_le rs b fun x hx => h x (List.mem_cons_of_mem _ hx)
    simp only [List.sum_cons, List.length_cons, Int.natCast_add, Int.add_mul]
    omega
theorem le_sum : ∀ (rs : List Int) (b : Int), (∀ r ∈ rs, b ≤ r) → rs.length * b ≤ rs.sum
  | [], b, _ => by simp
  | r :: rs, b, h => by
    have h1 := h r (List.mem_cons_self ..)
    have h2 := le_sum rs b fun x hx => h x (List.mem_cons_of_mem _ hx)
    simp only [List.sum_cons, List.length_cons, Int.natCast_add, Int.add_mul]
    omega
theorem sle_len {a b : List Str} (h : a.length < b.length) : sle a b = true := by
  unfold sle so
  rw [PySem.W.dataLt_tuple, PySem.W.dataLt_cons (by simp [PySem.W.alike])]
  rw [if_neg (by simp [PyData.eqv]; omega), PySem.W.dataLt_int]
  simpa using h
/-- kept sets -/
structure Kept (f : List Str) (ks : List (List Str)) : Prop where
  rise : ks.Pairwise fun a b => sle a b = true
  sub : ∀ y ∈ ks, y.Sublist f
  full : ∀ y ∈ ks, y ≠ []
  few : ks.length ≤ 32
theorem Kept.of {f : List Str} {ys ks : List (List Str)} (o : Sets f ys) (h : ks.Sublist (ys.drop 1)) : Kept f ks := ⟨(o.rise.sublist (List.drop_sublist 1 ys)).sublist h, fun y hy => o.sub y ((List.drop_sublist 1 ys).subset (h.subset hy)), fun y hy => o.ne (h.subset hy), by
  have := (h.trans (List.drop_sublist 1 ys)).length_le
  have := o.few
  omega⟩
theorem Kept.pre {f : List Str} {is : List Nat} (hl : f.length ≤ 5) (h : is.Sublist (List.range f.length)) : Kept f (is.map fun i => f.take (i + 1)) := by
  have hlt : ∀ i ∈ is, i < f.length := fun i hi => List.mem_range.mp (h.subset hi)
  refine ⟨?_, ?_, ?_, ?_⟩
  · rw [List.pairwise_map]
    have p : is.Pairwise (· < ·) := (List.pairwise_lt_range (n := f.length)).sublist h
    exact p.imp_of_mem fun {a b} ha hb hab => sle_len (by
      have := hlt a ha
      have := hlt b hb
      simp only [List.length_take]
      omega)
  · intro y hy
    obtain ⟨i, hi, rfl⟩ := List.mem_map.mp hy
    exact List.take_sublist _ _
  · intro y hy
    obtain ⟨i, hi, rfl⟩ := List.mem_map.mp hy
    have := hlt i hi
    intro e
    have := congrArg List.length e
    simp only [List.length_take, List.length_nil] at this
    omega
  · have := h.length_le
    simp at this ⊢
    omega
theorem Kept.one {f : List Str} (h : 1 ≤ f.length) : Kept f [f] := ⟨by simp, fun y hy => by rw [List.mem_singleton.mp hy]; exact List.Sublist.refl _, fun y hy => by
  rw [List.mem_singleton.mp hy]
  intro e
  rw [e] at h
  simp at h, by simp⟩
theorem kept_mass {f : List Str} {ks : List (List Str)} {rows : List Int} (hf : Frame f) (o : Kept f ks) (hr : rows.length = ks.length) (hp : ∀ r ∈ rows, 0 < r) (h0 : 0 < rows.sum) (h1 : rows.sum < 65536) : Mass f rows.sum (ks.zip rows) := by
  have mem : ∀ q ∈ ks.zip rows, q.1 ∈ ks ∧ q.2 ∈ rows := fun q hq => ⟨(List.of_mem_zip hq).1, (List.of_mem_zip hq).2⟩
  have few := o.few
  have lenz : (ks.zip rows).length ≤ 32 := by simp; omega
  have ff := hf.few
  refine ⟨⟨h0, h1, by omega, fun q hq => ?_⟩, fun q hq => hp _ (mem q hq).2, fun q hq => hf.inc.sublist (o.sub _ (mem q hq).1), fun q hq x hx => (o.sub _ (mem q hq).1).subset hx, fun q hq => (o.sub _ (mem q hq).1).length_le, fun q hq => o.full _ (mem q hq).1, ?_, ?_⟩
  · have := (o.sub _ (mem q hq).1).length_le
    omega
  · have e : (ks.zip rows).map (·.1) = ks := by
      rw [List.map_fst_zip]
      omega
    have := o.rise
    rw [← e, List.pairwise_map] at this
    exact this
  · rw [List.map_snd_zip]
    omega
theorem zip_pairs (S : Int) : ∀ (ks : List (List Str)) (rows : List Int), List.zipWith (fun a b => PyData.tuple [a, b]) (ks.map setD) (rows.map (frac S)) = (ks.zip rows).map (pairD S)
  | [], _ => by simp
  | _ :: _, [] => by simp
  | k :: ks, r :: rs => by
    simp only [List.map_cons, List.zipWith_cons_cons, List.zip_cons_cons, zip_pairs S ks rs]
    rfl
theorem drop1 (xs : List D) : PD.cutD xs (some 1) none = xs.drop 1 := by
  cases xs with
  | nil => rfl
  | cons x xs =>
    have e1 : HT.sIx (x :: xs).length (x :: xs).length none = (x :: xs).length := rfl
    have e2 : HT.sIx (x :: xs).length 0 (some 1) = 1 := by
      show (if (1 : Int) < 0 then ((1 : Int) + ((x :: xs).length : Int)).toNat else min (1 : Int).toNat (x :: xs).length) = 1
      rw [if_neg (by omega)]
      simp
    unfold PD.cutD
    rw [e1, e2]
    simp
abbrev M2 := List (List Str × Int)
theorem sumOf_cons (q : List Str × Int) (m : M2) (p : List Str → Bool) : sumOf (q :: m) p = (if p q.1 = true then q.2 else 0) + sumOf m p := by
  unfold sumOf
  by_cases h : p q.1 = true
  · simp [h]
  · simp [h]
theorem sumOf_nil (p : List Str → Bool) : sumOf [] p = 0 := rfl
theorem sumOf_not (p : List Str → Bool) : ∀ m : M2, sumOf m p + sumOf m (fun y => !p y) = (m.map (·.2)).sum
  | [] => rfl
  | q :: m => by
    have ih := sumOf_not p m
    rw [sumOf_cons, sumOf_cons, List.map_cons, List.sum_cons, ← ih]
    by_cases h : p q.1 = true
    · simp [h]; omega
    · simp [h]; omega
theorem sumOf_congr {p r : List Str → Bool} : ∀ m : M2, (∀ q ∈ m, p q.1 = r q.1) → sumOf m p = sumOf m r
  | [], _ => rfl
  | q :: m, h => by
    rw [sumOf_cons, sumOf_cons, h q (List.mem_cons_self ..), sumOf_congr m fun x hx => h x (List.mem_cons_of_mem _ hx)]
theorem sumOf_mono {p r : List Str → Bool} : ∀ m : M2, (∀ q ∈ m, 0 < q.2) → (∀ q ∈ m, p q.1 = true → r q.1 = true) → sumOf m p ≤ sumOf m r
  | [], _, _ => Int.le_refl _
  | q :: m, hp, h => by
    have ih := sumOf_mono m (fun x hx => hp x (List.mem_cons_of_mem _ hx)) fun x hx => h x (List.mem_cons_of_mem _ hx)
    have h1 := hp q (List.mem_cons_self ..)
    have h2 := h q (List.mem_cons_self ..)
    rw [sumOf_cons, sumOf_cons]
    by_cases e : p q.1 = true
    · rw [if_pos e, if_pos (h2 e)]; omega
    · rw [if_neg e]
      split <;> omega
theorem sumOf_false {p : List Str → Bool} : ∀ m : M2, (∀ q ∈ m, p q.1 = false) → sumOf m p = 0
  | [], _ => rfl
  | q :: m, h => by
    rw [sumOf_cons, h q (List.mem_cons_self ..), sumOf_false m fun x hx => h x (List.mem_cons_of_mem _ hx)]
    rfl
theorem sumOf_true {p : List Str → Bool} : ∀ m : M2, (∀ q ∈ m, p q.1 = true) → sumOf m p = (m.map (·.2)).sum
  | [], _ => rfl
  | q :: m, h => by
    rw [sumOf_cons, h q (List.mem_cons_self ..), sumOf_true m fun x hx => h x (List.mem_cons_of_mem _ hx), List.map_cons, List.sum_cons]
    rfl
theorem sub_iff {a b : List Str} : sub a b = true ↔ ∀ x ∈ a, x ∈ b := by
  simp [sub]
theorem meet_iff {a b : List Str} : meet a b = true ↔ ∃ x ∈ a, x ∈ b := by
  simp [meet]
def sameOk : Nat → D → Bool
  | 0, _ => false
  | _ + 1, .int _ => true
  | _ + 1, .str _ => true
  | _ + 1, .bool _ => true
  | _ + 1, .none => true
  | k + 1, .list ds => decide (ds.length < 65536) && ds.all (sameOk k)
  | k + 1, .tuple ds => decide (ds.length < 65536) && ds.all (sameOk k)
  | _ + 1, _ => false
theorem eqF_str (n : Nat) (x : Str) : eqF (n + 1) (.str x) (.str x) = some true := by simp [eqF]
theorem gEq_str (x : Str) : gEq (.str x) (.str x) = some (.bool true) := by simp [gEq, eqF]
theorem gEq_bool (x : Bool) : gEq (.bool x) (.bool x) = some (.bool true) := by cases x <;> rfl
theorem all_true {n : Nat} : gAll (.list ((List.range n).map fun _ => .bool true)) = some (.bool true) := by
  rw [gAll, bools_map]
  simp
theorem rng1_n {a : ME} {ρ : List Slot} {μ μ' : List Cell} {n : Nat} (h : a ρ μ = some (.int n, μ')) (hn : n < 65536) : rng1 (aC a aN) ρ μ = some ((List.range n).map fun i : Nat => .int (0 + (i : Int)), μ') := by
  obtain ⟨x, y, e, q⟩ := (wp_rng1 (r := aC a aN) (ρ := ρ) (μ := μ) (QA := fun x y => x = (List.range n).map (fun i : Nat => .int (0 + (i : Int))) ∧ y = μ')).mpr (wp_aC.mpr (wp_of h (wp_aN.mpr ⟨(n : Int), rfl, by simp [okR]; omega, rfl, rfl⟩)))
  rw [e, q.1, q.2]
theorem same_items {k : Nat} {ds : List D} {seq : List D → D} (hx : isX (seq ds) = false) (hgl : gLen (seq ds) = some (.int ds.length)) (hix : ∀ i : Nat, (h : i < ds.length) → gIx (seq ds) (.int (0 + (i : Int))) = some ds[i]) (hl : ds.length < 65536) (h : ∀ d ∈ ds, Fr_law_same k [.val d, .val d] [] = some (.bool true, [])) (c : D) :
    eAnd (e2 gEq (eL (gl1 gLen) (aC (eVar 0) (aN))) (eL (gl1 gLen) (aC (eVar 1) (aN)))) (eL (gl1 gAll) (aC (eF (mLc true (rng1 (aC (eL (gl1 gLen) (aC (eVar 1) (aN))) (aN))) [3] (gcN 3) (tTrue) (eCall 2 (Fr_law_same k) (rV (e2 gIx (eVar 0) (eVar 3)) (rV (e2 gIx (eVar 1) (eVar 3)) (rN)))))) (aN))) [.val (seq ds), .val (seq ds), .val c, .non] [] = some (.bool true, []) := by
  have l0 : eL (gl1 gLen) (aC (eVar 0) (aN)) [.val (seq ds), .val (seq ds), .val c, .non] [] = some (.int ds.length, []) := eL1_of (x := seq ds) rfl hgl
  have l1 : eL (gl1 gLen) (aC (eVar 1) (aN)) [.val (seq ds), .val (seq ds), .val c, .non] [] = some (.int ds.length, []) := eL1_of (x := seq ds) rfl hgl
  have it : rng1 (aC (eL (gl1 gLen) (aC (eVar 1) (aN))) (aN)) [.val (seq ds), .val (seq ds), .val c, .non] [] = some ((List.range ds.length).map fun i : Nat => .int (0 + (i : Int)), []) := by
    exact rng1_n l1 hl
  have lc : mLc true (rng1 (aC (eL (gl1 gLen) (aC (eVar 1) (aN))) (aN))) [3] (gcN 3) (tTrue) (eCall 2 (Fr_law_same k) (rV (e2 gIx (eVar 0) (eVar 3)) (rV (e2 gIx (eVar 1) (eVar 3)) (rN)))) [.val (seq ds), .val (seq ds), .val c, .non] [] = some ((List.range ds.length).map fun _ => .bool true, []) :=
    lc_all (fun i : Nat => .int (0 + (i : Int))) (fun _ => .bool true) (List.range ds.length) it rfl (by simpa using hl) fun i hi => by
      have hi := List.mem_range.mp hi
      exact ⟨[.val (seq ds), .val (seq ds), .val c, .val (.int (0 + (i : Int)))], rfl, call2_of (e2_of rfl rfl (hix i hi)) (e2_of rfl rfl (hix i hi)) (h _ (List.getElem_mem hi))⟩
  have a := eL1_of (g := gAll) (eF_of lc) all_true
  unfold eAnd
  rw [e2_of l0 l1 (gEq_int _ _), Option.bind_some]
  simp [gBool, a]
theorem ix_at {α : Type} (ds : List α) (i : Nat) (h : i < ds.length) : L2.atI ds (0 + (i : Int)) = some ds[i] := by
  simp [L2.atI, L2.ixN, h]
theorem callm1 {F : FD} {a : ME} {ρ : List Slot} {μ : List Cell} {x y : D} (ha : a ρ μ = some (x, μ)) (h : F [.val x] [] = some (y, [])) : eCall 1 F (rV a rN) ρ μ = some (y, μ) := by
  simp [eCall, rV, rN, ha, lentOf, slotsOf, cellsOf, nodupB, flatCs, setCells, h]
theorem callm2 {F : FD} {a b : ME} {ρ : List Slot} {μ : List Cell} {x x' y : D} (ha : a ρ μ = some (x, μ)) (hb : b ρ μ = some (x', μ)) (h : F [.val x, .val x'] [] = some (y, [])) : eCall 2 F (rV a (rV b rN)) ρ μ = some (y, μ) := by
  simp [eCall, rV, rN, ha, hb, lentOf, slotsOf, cellsOf, nodupB, flatCs, setCells, h]
theorem callm3 {F : FD} {a b c : ME} {ρ : List Slot} {μ : List Cell} {x x' x2 y : D} (ha : a ρ μ = some (x, μ)) (hb : b ρ μ = some (x', μ)) (hc : c ρ μ = some (x2, μ)) (h : F [.val x, .val x', .val x2] [] = some (y, [])) : eCall 3 F (rV a (rV b (rV c rN))) ρ μ = some (y, μ) := by
  simp [eCall, rV, rN, ha, hb, hc, lentOf, slotsOf, cellsOf, nodupB, flatCs, setCells, h]
theorem callmK {F : FD} {a b c : ME} {ρ : List Slot} {μ : List Cell} {x x' x2 y : D} (ha : a ρ μ = some (x, μ)) (hb : b ρ μ = some (x', μ)) (hc : c ρ μ = some (x2, μ)) (h : F [.val x2, .val x', .val x] [] = some (y, [])) : eCallK 3 F [2, 1, 0] (aC a (aC b (aC c aN))) ρ μ = some (y, μ) := by
  simp [eCallK, aC, aN, ha, hb, hc, permL, h]
theorem list3_of {a b c : ME} {ρ : List Slot} {μ : List Cell} {x x' x2 : D} (ha : a ρ μ = some (x, μ)) (hb : b ρ μ = some (x', μ)) (hc : c ρ μ = some (x2, μ)) : eL gLst (aC a (aC b (aC c aN))) ρ μ = some (.list [x, x', x2], μ) := by
  simp [eL, aC, aN, ha, hb, hc, gLst, szl (n := 3)]
theorem list4_of {a b c d : ME} {ρ : List Slot} {μ : List Cell} {x x' x2 x3 : D} (ha : a ρ μ = some (x, μ)) (hb : b ρ μ = some (x', μ)) (hc : c ρ μ = some (x2, μ)) (hd : d ρ μ = some (x3, μ)) : eL gLst (aC a (aC b (aC c (aC d aN)))) ρ μ = some (.list [x, x', x2, x3], μ) := by
  simp [eL, aC, aN, ha, hb, hc, hd, gLst, szl (n := 4)]
theorem tup2_of {a b : ME} {ρ : List Slot} {μ : List Cell} {x x' : D} (ha : a ρ μ = some (x, μ)) (hb : b ρ μ = some (x', μ)) : eL gTup (aC a (aC b aN)) ρ μ = some (.tuple [x, x'], μ) := by
  simp [eL, aC, aN, ha, hb, gTup, szl (n := 2)]
theorem tup0_of {ρ : List Slot} {μ : List Cell} : eL gTup aN ρ μ = some (.tuple [], μ) := by
  simp [eL, aN, gTup]
theorem tOr_f {t u : MT} {ρ : List Slot} {μ : List Cell} (h : t ρ μ = some (false, μ)) (h2 : u ρ μ = some (false, μ)) : tOr t u ρ μ = some (false, μ) := by
  simp [tOr, h, h2]
theorem sIf_f {t : MT} {ms : MS} {n : Nat} {ρ : List Slot} {μ : List Cell} (h : t ρ μ = some (false, μ)) : sIf t ms sNil n ρ μ = some (.next ρ μ) := by
  simp [sIf, h, sNil]
theorem tNot_f {t : MT} {ρ : List Slot} {μ : List Cell} (h : t ρ μ = some (true, μ)) : tNot t ρ μ = some (false, μ) := by
  simp [tNot, h]
theorem ne_frac (s a : Int) : gNe (frac s a) (frac s a) = some (.bool false) := by
  simp [frac, gNe, eqF, eqL]
theorem sub_nil_left (x : List Str) : sub [] x = true := rfl
theorem sub_nil_right {y : List Str} (h : y ≠ []) : sub y [] = false := by
  cases y with
  | nil => exact absurd rfl h
  | cons a b => simp [sub]
theorem meet_nil (y : List Str) : meet y [] = false := by
  simp [meet]
theorem Sub.nil (f : List Str) : Sub f [] := ⟨List.Pairwise.nil, fun _ h => (by cases h), Nat.zero_le _⟩
theorem Sub.all {f : List Str} (h : Inc f) : Sub f f := ⟨h, fun _ h => h, Nat.le_refl _⟩
theorem Sub.of {f x : List Str} (h : Inc f) (hs : x.Sublist f) : Sub f x := ⟨h.sublist hs, fun _ hx => hs.subset hx, hs.length_le⟩
section
variable {f : List Str} {s : Int} {m : M2} (hf : Frame f) (q : Mass f s m)
include q
theorem m_other (x : List Str) : sumOf m (fun y => meet y x) = s - sumOf m fun y => sub y (f.filter fun t => !decide (t ∈ x)) := by
  have e : sumOf m (fun y => sub y (f.filter fun t => !decide (t ∈ x))) = sumOf m fun y => !meet y x := sumOf_congr m fun w hw => by
    rw [Bool.eq_iff_iff, sub_iff]
    have hs := q.sub w hw
    constructor
    · intro h
      rw [Bool.not_eq_true']
      cases e : meet w.1 x with
      | false => rfl
      | true =>
        obtain ⟨t, h1, h2⟩ := meet_iff.mp e
        have := (List.mem_filter.mp (h t h1)).2
        simp [h2] at this
    · intro h t ht
      rw [Bool.not_eq_true'] at h
      refine List.mem_filter.mpr ⟨hs t ht, ?_⟩
      by_cases hx : t ∈ x
      · have := meet_iff.mpr ⟨t, ht, hx⟩
        rw [h] at this
        cases this
      · simp [hx]
  have n := sumOf_not (fun y => meet y x) m
  rw [q.sum] at n
  rw [e]
  omega
theorem b_le_m (x : List Str) : sumOf m (fun y => sub y x) ≤ sumOf m fun y => meet y x := sumOf_mono m q.pos fun w hw h => by
  have hne := q.full w hw
  have h := sub_iff.mp h
  refine meet_iff.mpr ?_
  cases e : w.1 with
  | nil => exact absurd e hne
  | cons a b => exact ⟨a, List.mem_cons_self .., h a (by rw [e]; exact List.mem_cons_self ..)⟩
theorem b_mono {x w : List Str} (h : ∀ t ∈ x, t ∈ w) : sumOf m (fun y => sub y x) ≤ sumOf m fun y => sub y w := sumOf_mono m q.pos fun z _ hz => sub_iff.mpr fun t ht => h t (sub_iff.mp hz t ht)
theorem m_mono {x w : List Str} (h : ∀ t ∈ x, t ∈ w) : sumOf m (fun y => meet y x) ≤ sumOf m fun y => meet y w := sumOf_mono m q.pos fun z _ hz => by
  obtain ⟨t, h1, h2⟩ := meet_iff.mp hz
  exact meet_iff.mpr ⟨t, h1, h t h2⟩
theorem c_mono {x w : List Str} (h : ∀ t ∈ x, t ∈ w) : sumOf m (fun y => sub w y) ≤ sumOf m fun y => sub x y := sumOf_mono m q.pos fun z _ hz => sub_iff.mpr fun t ht => sub_iff.mp hz t (h t ht)
theorem b_nil : sumOf m (fun y => sub y []) = 0 := sumOf_false m fun w hw => sub_nil_right (q.full w hw)
theorem b_all : sumOf m (fun y => sub y f) = s := by
  exact (sumOf_true (p := fun y => sub y f) m fun w hw => sub_iff.mpr (q.sub w hw)).trans q.sum
theorem c_nil : sumOf m (fun y => sub [] y) = s := by
  exact (sumOf_true (p := fun y => sub [] y) m fun w hw => sub_nil_left _).trans q.sum
theorem m_nil : sumOf m (fun y => meet y []) = 0 := sumOf_false m fun w hw => meet_nil _
end
/-- sorted(set(...)) of a set's things and one more -/
theorem nodup_dups : ∀ (n : Nat) (l : List Str), l.length ≤ n → l.eraseDups.Nodup
  | _, [], _ => by simp
  | 0, x :: l, h => by simp at h
  | n + 1, x :: l, h => by
    rw [List.eraseDups_cons]
    refine List.nodup_cons.mpr ⟨fun hx => ?_, nodup_dups n _ ?_⟩
    · have := (List.mem_filter.mp (List.mem_eraseDups.mp hx)).2
      simp at this
    · have := List.length_filter_le (fun b => !b == x) l
      simp only [List.length_cons] at h
      omega
theorem strs_of : ∀ xs : List Str, strsOf (xs.map .str) = some xs
  | [] => rfl
  | x :: xs => by simp [strsOf, strs_of xs]
theorem wide_spec {f x : List Str} (hf : Frame f) (p : Sub f x) {t : Str} (ht : t ∈ f) : ∃ w, gSSet (.tuple ((x ++ [t]).map .str)) = some (.list (w.map .str)) ∧ Sub f w ∧ ∀ y ∈ x, y ∈ w := by
  obtain ⟨w, h1, h2, h3⟩ := sort_strs (x ++ [t]).eraseDups (nodup_dups _ _ (Nat.le_refl _))
  have hl : (x ++ [t]).length < 60 := by
    have := p.few
    have := hf.few
    simp
    omega
  have mem : ∀ y, y ∈ w ↔ y ∈ x ++ [t] := fun y => h1.mem_iff.trans List.mem_eraseDups
  have hsub : ∀ y ∈ w, y ∈ f := fun y hy => by
    rcases List.mem_append.mp ((mem y).mp hy) with h | h
    · exact p.sub y h
    · rw [List.mem_singleton.mp h]; exact ht
  refine ⟨w, ?_, ⟨h3, hsub, nodup_le w f (inc_nodup h3) hsub⟩, fun y hy => (mem y).mpr (List.mem_append_left _ hy)⟩
  rw [gSSet, strs_of, Option.bind_some, if_pos hl, h2]
theorem low_spec {n m : Int} (hm : 0 < m) (hb : m < 2 ^ 64) : F_law_low [.val (.int n), .val (.int m)] [] = some (.tuple [.int (nfN n m), .int (nfD n m)], []) := by
  obtain ⟨f', h⟩ := fr_loop n m (m.natAbs + 1) n.natAbs m.natAbs (by omega)
  have h := sWhile_of (t := tV (e2 gGt (eVar 3) (eC (.int 0)))) (μ := []) (n0 := 0) h
  have e1 : (m.natAbs : Int) = m := by omega
  have hd : divOk ((Nat.gcd n.natAbs m.natAbs : Nat) : Int) = true := divOk_small (g_pos n hm) (Int.lt_of_le_of_lt (g_le n hm) hb)
  have hab : ∀ x : Int, (if x < 0 then -x else x) = (x.natAbs : Int) := fun x => by split <;> omega
  simp [F_law_low, bodyF, m_law_low, sSeq, sPar, aC, aN, eL, gl1, gAbs, eVar, hab, flat, B0] at h ⊢
  rw [h]
  simp [sAs, gN, sRet, eIf, tV, e2, eVar, eC, gGt, gBool, hm, eL, gTup, aC, aN, gDiv, hd, okB, B0, nfN, nfD, szl (n := 2)]
theorem lplus_spec {a b s : Int} (hs : 0 < s) (hb : s < 65536) : F_law_plus [.val (frac s a), .val (frac s b)] [] = some (frac s (a + b), []) := by
  have m1 : ∀ x, mulOk x (nfD b s) = true := fun x => mulOk_r (nfD_small b hs hb)
  have m2 : ∀ x, mulOk x (nfD a s) = true := fun x => mulOk_r (nfD_small a hs hb)
  have l := low_spec (n := nfN a s * nfD b s + nfN b s * nfD a s) (Int.mul_pos (nfD_pos a hs) (nfD_pos b hs)) (den_small (a := a) (b := b) hs hb)
  rw [frac_plus hs] at l
  simp [F_law_plus, bodyF, m_law_plus, sRet, e2, eVar, eC, eCall, rV, rN, lentOf, slotsOf, cellsOf, nodupB, frac, gIx, L2.atI, L2.ixN, gMul, m1, m2, gAdd, flatCs, setCells, okB, B0] at l ⊢
  rw [l]
  rfl
theorem lsum_loop {s : Int} (hs : 0 < s) (hb : s < 65536) (S : Slot) (hS : isV S = true) (n0 : Nat) : ∀ (rs : List Int) (a : Int) (e : Slot), isV e = true →
    ∃ e', isV e' = true ∧ forD (gN 2) (sAs (eCall 2 F_law_plus (rV (eVar 1) (rV (eVar 2) (rN)))) (gN 1)) n0 0 (rs.map (frac s)) [S, .val (frac s a), e] [] = some (.next [S, .val (frac s (a + rs.sum)), e'] [])
  | [], a, e, he => ⟨e, he, by simp [forD]⟩
  | r :: rs, a, e, he => by
    obtain ⟨e', h1, h2⟩ := lsum_loop hs hb S hS n0 rs (a + r) (.val (frac s r)) rfl
    refine ⟨e', h1, ?_⟩
    rw [List.sum_cons, ← Int.add_assoc, ← h2]
    simp [forD, gN, sAs, eCall, rV, rN, eVar, lentOf, slotsOf, cellsOf, nodupB, lplus_spec hs hb, flatCs, setCells, truncS_v hS, truncS_val]
theorem lsum_spec {s : Int} (hs : 0 < s) (hb : s < 65536) (rs : List Int) : F_law_sum [.val (.list (rs.map (frac s)))] [] = some (frac s rs.sum, []) := by
  obtain ⟨e', h1, h2⟩ := lsum_loop hs hb (.val (.list (rs.map (frac s)))) rfl 0 rs 0 .non rfl
  rw [Int.zero_add, ← frac_zero hs] at h2
  simp [F_law_sum, bodyF, m_law_sum, sSeq, sAs, eC, gN, eL, gTup, aC, aN, szl (n := 2), sFor, anyItems, lstItems, eVar, sRet, okB, B0, h2, flat_frac]
theorem minus_cross {a b s : Int} (hs : 0 < s) : (nfN a s * nfD b s - nfN b s * nfD a s) * s = (a - b) * (nfD a s * nfD b s) := by
  have h := plus_cross (a := a) (b := -b) hs
  rw [← nfN_neg, ← nfD_neg] at h
  rw [show nfN a s * nfD b s - nfN b s * nfD a s = nfN a s * nfD b s + (0 - nfN b s) * nfD a s by rw [Int.zero_sub, Int.neg_mul, Int.sub_eq_add_neg], h, ← Int.sub_eq_add_neg]
theorem frac_minus {a b s : Int} (hs : 0 < s) : PyData.tuple [.int (nfN (nfN a s * nfD b s - nfN b s * nfD a s) (nfD a s * nfD b s)), .int (nfD (nfN a s * nfD b s - nfN b s * nfD a s) (nfD a s * nfD b s))] = frac s (a - b) := by
  obtain ⟨h1, h2⟩ := nf_same (Int.mul_pos (nfD_pos a hs) (nfD_pos b hs)) hs (minus_cross (a := a) (b := b) hs)
  rw [h1, h2]
  rfl
theorem lless_spec {a b s : Int} (hs : 0 < s) (hb : s < 65536) : F_law_less [.val (frac s a), .val (frac s b)] [] = some (frac s (a - b), []) := by
  have m1 : ∀ x, mulOk x (nfD b s) = true := fun x => mulOk_r (nfD_small b hs hb)
  have m2 : ∀ x, mulOk x (nfD a s) = true := fun x => mulOk_r (nfD_small a hs hb)
  have l := low_spec (n := nfN a s * nfD b s - nfN b s * nfD a s) (Int.mul_pos (nfD_pos a hs) (nfD_pos b hs)) (den_small (a := a) (b := b) hs hb)
  rw [frac_minus hs] at l
  simp [F_law_less, bodyF, m_law_less, sRet, e2, eVar, eC, eCall, rV, rN, lentOf, slotsOf, cellsOf, nodupB, frac, gIx, L2.atI, L2.ixN, gMul, m1, m2, gSub, flatCs, setCells, okB, B0] at l ⊢
  rw [l]
  rfl
theorem over_cross {a b s : Int} (hs : 0 < s) : (nfN a s * nfD b s) * b = a * (nfD a s * nfN b s) := by
  have h1 := nf_cross a hs
  have h2 := nf_cross b hs
  have hsn : s ≠ 0 := by omega
  apply Int.eq_of_mul_eq_mul_right hsn
  generalize nfN a s = x at *
  generalize nfD a s = y at *
  generalize nfN b s = z at *
  generalize nfD b s = w at *
  calc x * w * b * s = (x * s) * (b * w) := by rw [Int.mul_assoc x w b, Int.mul_comm w b, Int.mul_right_comm]
    _ = (a * y) * (z * s) := by rw [h1, h2]
    _ = a * (y * z) * s := by rw [← Int.mul_assoc, Int.mul_assoc a y z]
theorem nfN_le {r s : Int} (hr : 0 ≤ r) (hs : 0 < s) : nfN r s ≤ r := by
  have h1 := nfN_mul r s
  have h2 := g_pos r hs
  by_cases z : nfN r s ≤ 0
  · omega
  · have : nfN r s * 1 ≤ nfN r s * ((Nat.gcd r.natAbs s.natAbs : Nat) : Int) := Int.mul_le_mul_of_nonneg_left (by omega) (by omega)
    omega
theorem quo_small {a b s : Int} (hs : 0 < s) (hb : s < 65536) (h0 : 0 < b) (h1 : b ≤ s) : 0 < nfD a s * nfN b s ∧ nfD a s * nfN b s < 2 ^ 64 := by
  have p1 := nfD_pos a hs
  have p2 := nfN_pos h0 hs
  have q1 := nfD_le a hs
  have q2 := nfN_le (Int.le_of_lt h0) hs
  refine ⟨Int.mul_pos p1 p2, ?_⟩
  have : nfD a s * nfN b s ≤ 65536 * 65536 := Int.mul_le_mul (by omega) (by omega) (by omega) (by omega)
  omega
theorem frac_over {a b s : Int} (hs : 0 < s) (h0 : 0 < b) : PyData.tuple [.int (nfN (nfN a s * nfD b s) (nfD a s * nfN b s)), .int (nfD (nfN a s * nfD b s) (nfD a s * nfN b s))] = frac b a := by
  obtain ⟨h1, h2⟩ := nf_same (Int.mul_pos (nfD_pos a hs) (nfN_pos h0 hs)) h0 (over_cross (a := a) (b := b) hs)
  rw [h1, h2]
  rfl
theorem mul4 (a b c d : Int) : a * b * (c * d) = a * c * (b * d) := by ac_rfl
theorem up_iff {q r q' r' : Int} (hq : 0 < q) (hq' : 0 < q') : nfN r q * nfD r' q' ≤ nfN r' q' * nfD r q ↔ r * q' ≤ r' * q := by
  have h1 := nf_cross r hq
  have h2 := nf_cross r' hq'
  have p1 := nfD_pos r hq
  have p2 := nfD_pos r' hq'
  generalize nfN r q = x at *
  generalize nfD r q = y at *
  generalize nfN r' q' = z at *
  generalize nfD r' q' = w at *
  have e1 : x * w * (q * q') = (r * q') * (y * w) := by
    rw [mul4, h1]
    ac_rfl
  have e2 : z * y * (q * q') = (r' * q) * (y * w) := by
    rw [Int.mul_comm q q', mul4, h2]
    ac_rfl
  have hp : 0 < q * q' := Int.mul_pos hq hq'
  have hw : 0 < y * w := Int.mul_pos p1 p2
  constructor
  · intro h
    have := Int.mul_le_mul_of_nonneg_right h (Int.le_of_lt hp)
    rw [e1, e2] at this
    exact Int.le_of_mul_le_mul_right this hw
  · intro h
    have := Int.mul_le_mul_of_nonneg_right h (Int.le_of_lt hw)
    rw [← e1, ← e2] at this
    exact Int.le_of_mul_le_mul_right this hp
theorem up_spec {q r q' r' : Int} (hq : 0 < q) (hb : q < 65536) (hq' : 0 < q') (hb' : q' < 65536) : F_law_up_to [.val (frac q r), .val (frac q' r')] [] = some (.bool (decide (r * q' ≤ r' * q)), []) := by
  have m1 : ∀ x, mulOk x (nfD r' q') = true := fun x => mulOk_r (nfD_small r' hq' hb')
  have m2 : ∀ x, mulOk x (nfD r q) = true := fun x => mulOk_r (nfD_small r hq hb)
  simp [F_law_up_to, bodyF, m_law_up_to, sRet, e2, eVar, eC, frac, gIx, L2.atI, L2.ixN, gMul, m1, m2, gLe, okB, B0, up_iff hq hq']
theorem nf_one {q r : Int} (hq : 0 < q) (hb : q < 65536) : F_law_less [.val (.tuple [.int 1, .int 1]), .val (frac q r)] [] = some (frac q (q - r), []) := by
  rw [frac_one hq]
  exact lless_spec hq hb
/-- two fractions alike -/
theorem frac_eq {q r q' r' : Int} (hq : 0 < q) (hq' : 0 < q') (h : r * q' = r' * q) : frac q r = frac q' r' := by
  obtain ⟨h1, h2⟩ := nf_same hq hq' h
  unfold frac
  rw [h1, h2]
/-- what a / (a + b) is, empty where both are 0 -/
def partD (a b : Int) (e : Int) : D := if a + b = 0 then frac 1 e else frac (a + b) a
theorem frac_eqF {s a b : Int} (hs : 0 < s) : eqF 40 (frac s a) (frac s b) = some (decide (a = b)) := by
  have e : ((nfN a s == nfN b s) && (nfD a s == nfD b s)) = decide (a = b) := by
    by_cases h : a = b
    · subst h; simp
    · rw [decide_eq_false h]
      cases z : ((nfN a s == nfN b s) && (nfD a s == nfD b s)) with
      | false => rfl
      | true =>
        simp at z
        exact absurd (frac_inj hs (by unfold frac; rw [z.1, z.2])) h
  rw [← e]
  simp [frac, eqF, eqL]
theorem frac_gEq {s a b : Int} (hs : 0 < s) : gEq (frac s a) (frac s b) = some (.bool (decide (a = b))) := by
  unfold gEq; rw [frac_eqF hs]; rfl
theorem frac_gNe {s a b : Int} (hs : 0 < s) : gNe (frac s a) (frac s b) = some (.bool (!decide (a = b))) := by
  unfold gNe; rw [frac_eqF hs]; rfl
theorem lwithin_spec (a b : List Str) (ha : a.length < 65536) : F_law_within [.val (setD a), .val (setD b)] [] = some (.bool (sub a b), []) := by
  have h : mLc true (anyItems (eVar 0)) [2] (gcN 2) tTrue (e2 gIn (eVar 2) (eVar 1)) [.val (setD a), .val (setD b), .non] [] = some (a.map fun x => .bool (decide (x ∈ b)), []) :=
    lc_all PyData.str _ a (items_tup rfl) rfl ha fun x _ => ⟨[.val (setD a), .val (setD b), .val (.str x)], rfl, by simp [e2, eVar, in_set]⟩
  simp [F_law_within, bodyF, m_law_within, sRet, eL, gl1, aC, aN, eF, h, gAll, bools_map, okB, B0, sub]
def both (a b : List Str) : List Str := a.filter fun x => decide (x ∈ b)
def apart (a b : List Str) : List Str := a.filter fun x => !decide (x ∈ b)
theorem lbelief_spec {s : Int} {m : List (List Str × Int)} (o : Okm s m) (x : List Str) : F_law_belief [.val (massD s m), .val (setD x)] [] = some (frac s (sumOf m fun y => sub y x), []) := by
  have h : mLc true (anyItems (eVar 0)) [2, 3] (gT 2 (gsC (gcN 2) (gsC (gcN 3) (gsN)))) (tV (eCall 2 F_law_within (rV (eVar 2) (rV (eVar 1) (rN))))) (eVar 3) [.val (massD s m), .val (setD x), .non, .non] [] = some ((m.filter fun q => sub q.1 x).map fun q => frac s q.2, []) :=
    lc_of (fun p => .tuple [setD p.1, frac s p.2]) (fun q => sub q.1 x) (fun q => frac s q.2) m (items_tup rfl) rfl o.len fun q hq => ⟨[.val (massD s m), .val (setD x), .val (setD q.1), .val (frac s q.2)], unz s q _ _ _ _ rfl rfl, by
      simp [tV, eCall, rV, rN, eVar, lentOf, slotsOf, cellsOf, nodupB, flatCs, setCells, lwithin_spec q.1 x (o.lens q hq), gBool], fun _ => rfl⟩
  have t := lsum_spec o.pos o.low ((m.filter fun q => sub q.1 x).map (·.2))
  rw [List.map_map] at t
  simp [F_law_belief, bodyF, m_law_belief, sRet, eCall, rV, rN, eF, h, lentOf, slotsOf, cellsOf, nodupB, flatCs, setCells, okB, B0, sumOf]
  rw [show (fun q : List Str × Int => frac s q.2) = (frac s ∘ fun q => q.2) from rfl, t]
  rfl
theorem ne_tup_nil (xs : List Str) : gNe (setD xs) (.tuple []) = some (.bool (!xs.isEmpty)) := by
  cases xs with
  | nil => simp [setD, gNe, eqF, eqL]
  | cons a b => simp [setD, gNe, eqF, eqL]
theorem list1_of {a : ME} {ρ : List Slot} {μ : List Cell} {x : D} (ha : a ρ μ = some (x, μ)) : eL gLst (aC a aN) ρ μ = some (.list [x], μ) := by
  simp [eL, aC, aN, ha, gLst, szl (n := 1)]
theorem list2_of {a b : ME} {ρ : List Slot} {μ : List Cell} {x y : D} (ha : a ρ μ = some (x, μ)) (hb : b ρ μ = some (y, μ)) : eL gLst (aC a (aC b aN)) ρ μ = some (.list [x, y], μ) := by
  simp [eL, aC, aN, ha, hb, gLst, szl (n := 2)]
abbrev bel (m : List (List Str × Int)) (x : List Str) : Int := sumOf m fun y => sub y x
abbrev may (m : List (List Str × Int)) (x : List Str) : Int := sumOf m fun y => meet y x
/-- a part: over, under; what stands where both are nothing -/
def part (a b : Int) (e : Int) : Int × Int := if a + b = 0 then (1, e) else (a + b, a)
def lowP (m : List (List Str × Int)) (x k : List Str) : Int × Int := part (bel m (both k x)) (may m (apart k x)) 1
def highP (m : List (List Str × Int)) (x k : List Str) : Int × Int := part (may m (both k x)) (bel m (apart k x)) 0
def fracP (p : Int × Int) : D := frac p.1 p.2
def endsD (m : List (List Str × Int)) (x k : List Str) : D := .tuple [fracP (lowP m x k), fracP (highP m x k)]
def boundsD (m : List (List Str × Int)) (x k : List Str) : D := if may m k = 0 then .none else endsD m x k
theorem part_frac (a b e : Int) : (if a + b = 0 then frac 1 e else frac (a + b) a) = fracP (part a b e) := by
  unfold part fracP
  split <;> rfl
structure Room2 (s : Int) (m : List (List Str × Int)) (x k : List Str) : Prop where
  kl : k.length < 65536
  l0 : 0 ≤ bel m (both k x)
  l1 : 0 ≤ may m (apart k x)
  l2 : bel m (both k x) + may m (apart k x) ≤ s
  h0 : 0 ≤ may m (both k x)
  h1 : 0 ≤ bel m (apart k x)
  h2 : may m (both k x) + bel m (apart k x) ≤ s
theorem one_one : PyData.tuple [.int 1, .int 1] = frac 1 1 := frac_one (by decide)
theorem zero_one : PyData.tuple [.int 0, .int 1] = frac 1 0 := frac_zero (by decide)
theorem say_pos {a b c m : Int} (ha : 0 < a) (hm : 0 < m) (hm2 : m < 1073741824) :
    F_law_say [.own 0, .val (.int m)] [.lst [.int a, .int b, .int c]] = some (.int (a % m), [.lst [.int (a / m), .int b, .int c]]) := by
  simp [F_law_say, bodyF, m_law_say, sSeq, sIf, tV, e2, e1, eL, eOwn, eC, eVar, gIx, L2.atI, L2.ixN, gGt, gBool, sAsF, aC, aN, gl1, gl2, gDivmod, gT, gsC, gsN, gN, gPut, cellL, flat, flatA, sRet, okB, ha, hm, hm2, B0]
def mixV (b c : Int) : Int := (b * (b % 9973 + 31013) + 10091 * (c + 1) + 113) % 2147483029
theorem say_zero {b c m : Int} (hm : 0 < m) :
    F_law_say [.own 0, .val (.int m)] [.lst [.int 0, .int b, .int c]] = some (.int (mixV b c / 421 % m), [.lst [.int 0, .int (mixV b c), .int (c + 1)]]) := by
  have e1 : ∀ x y : Int, mulOk x (y % 9973 + 31013) = true := fun x y => mulOk_r (by
    have h1 := Int.emod_nonneg y (show (9973 : Int) ≠ 0 by decide)
    have h2 := Int.emod_lt_of_pos y (show (0 : Int) < 9973 by decide)
    omega)
  have e2' : ∀ x : Int, mulOk 10091 x = true := fun x => mulOk_l (by decide)
  have e4 : divOk 421 = true := by decide
  simp [F_law_say, bodyF, m_law_say, sSeq, sIf, tV, e2, PD.e1, eL, eOwn, eC, eVar, gIx, L2.atI, L2.ixN, gGt, gBool, sAsF, aC, aN, gl1, gl2, gDivmod, gT, gsC, gsN, gN, gPut, cellL, flat, flatA, sRet, okB, hm, B0, sNil, gAdd, gMul, gMod, gDiv, gInt, e1, e2', e4, mixV, Bs]
theorem say_spec {p : Cell} (hp : Pool p) {m : Int} (hm : 0 < m) (hm2 : m < 1073741824) : ∃ r p', F_law_say [.own 0, .val (.int m)] [p] = some (.int r, [p']) ∧ Pool p' ∧ 0 ≤ r ∧ r < m := by
  obtain ⟨a, b, c, rfl, ha⟩ := hp
  by_cases h : 0 < a
  · exact ⟨_, _, say_pos h hm hm2, ⟨_, _, _, rfl, Int.ediv_nonneg ha (by omega)⟩, Int.emod_nonneg _ (by omega), Int.emod_lt_of_pos _ hm⟩
  · have : a = 0 := by omega
    subst this
    exact ⟨_, _, say_zero hm, ⟨_, _, _, rfl, Int.le_refl _⟩, Int.emod_nonneg _ (by omega), Int.emod_lt_of_pos _ hm⟩
theorem wp_say {p : Cell} (hp : Pool p) {m : Int} (hm : 0 < m) (hm2 : m < 1073741824) {Q : D → List Cell → Prop} (k : ∀ r p', Pool p' → 0 ≤ r → r < m → Q (.int r) [p']) : wp (F_law_say [.own 0, .val (.int m)] [p]) Q := by
  obtain ⟨r, p', e, hp', h0, h1⟩ := say_spec hp hm hm2
  exact ⟨_, _, e, k r p' hp' h0 h1⟩
theorem wp_drawS {B : Nat → Bool} {ρ : List Slot} {p : Cell} {μ : List Cell} {m : Int} {Q : D → List Cell → Prop} (hp : Pool p) (h0 : ρ[0]? = some (.own 0)) (hB : noBo B ρ 0 = true) (hm : 0 < m) (hm2 : m < 1073741824) (k : ∀ r p', Pool p' → 0 ≤ r → r < m → Q (.int r) (p' :: μ)) : wp (eCall 2 F_law_say (rL B 0 (rV (eC (.int m)) rN)) ρ (p :: μ)) Q :=
  wp_callP h0 hB (wp_eC.mpr ⟨p, rfl, wp_say hp hm hm2 fun r p' hp' h0 h1 => ⟨p', rfl, hp', k r p' hp' h0 h1⟩⟩)
/-- an item of a list is drawn -/
theorem wp_of_list {α : Type} {p : Cell} (hp : Pool p) (enc : α → D) (xs : List α) (h1 : 0 < xs.length) (h2 : xs.length < 65536) {Q : D → List Cell → Prop} (k : ∀ x ∈ xs, ∀ p', Pool p' → Q (enc x) [p']) : wp (F_law_of [.own 0, .val (.list (xs.map enc))] [p]) Q := by
  obtain ⟨r, p', hb, hp', r0, rm⟩ := say_spec hp (m := xs.length) (by omega) (by omega)
  have hr : r.toNat < xs.length := by omega
  refine ⟨enc xs[r.toNat], [p'], ?_, k _ (List.getElem_mem hr) p' hp'⟩
  have c := callP_of (F := F_law_say) (B := B0) (a := eL (gl1 gLen) (aC (eVar 1) (aN))) (ρ := [.own 0, .val (.list (xs.map enc))]) (μ := []) rfl rfl (eL1_of (x := .list (xs.map enc)) rfl (by rw [gLen]; simp)) hb (pool_flat hp')
  have g : gIx (.list (xs.map enc)) (.int r) = some (enc xs[r.toNat]) := by
    simp [gIx, L2.atI, L2.ixN, r0, rm, List.getElem?_eq_getElem hr]
  have d := e2_of (g := gIx) (show eVar 1 [.own 0, .val (.list (xs.map enc))] [p] = some (.list (xs.map enc), [p]) from rfl) c g
  simp [F_law_of, bodyF, m_law_of, sRet, d, okB, B0]
/-- a letter is drawn -/
theorem wp_of_let {p : Cell} (hp : Pool p) {Q : D → List Cell → Prop} (k : ∀ c ∈ letters.cps.toList, ∀ p', Pool p' → Q (.str ⟨#[c]⟩) [p']) : wp (F_law_of [.own 0, .val (.str letters)] [p]) Q := by
  obtain ⟨r, p', hb, hp', r0, rm⟩ := say_spec hp (m := 26) (by omega) (by omega)
  obtain ⟨c0, hc0, g⟩ := letter_at r0 rm
  refine ⟨_, [p'], ?_, k c0 hc0 p' hp'⟩
  have c := callP_of (F := F_law_say) (B := B0) (a := eL (gl1 gLen) (aC (eVar 1) (aN))) (ρ := [.own 0, .val (.str letters)]) (μ := []) rfl rfl (eL1_of (x := .str letters) rfl (by rfl)) hb (pool_flat hp')
  have d := e2_of (g := gIx) (show eVar 1 [.own 0, .val (.str letters)] [p] = some (.str letters, [p]) from rfl) c g
  simp [F_law_of, bodyF, m_law_of, sRet, d, okB, B0]
theorem voice_loop (S L C : Slot) (hS : isV S = true) (hL : isV L = true) (hC : isV C = true) (n0 : Nat) : ∀ (ns : List Int) (st : Int) (e : Slot), isV e = true →
    ∃ st' e', isV e' = true ∧ forD (gN 4) (sAs (e2 gMod (eL (gl1 gInt) (aC (e2 gAdd (e2 gAdd (e2 gMul (eVar 3) (eC (.int 33599))) (e2 gMod (eL (gl1 gInt) (aC (eVar 4) (aN))) (eC (.int 2147482763)))) (eC (.int 101))) (aN))) (eC (.int 2147483029))) (gN 3)) n0 0 (ns.map .int) [S, L, C, .val (.int st), e] [] = some (.next [S, L, C, .val (.int st'), e'] [])
  | [], st, e, he => ⟨st, e, he, rfl⟩
  | n :: ns, st, e, he => by
    have e1 : ∀ x : Int, mulOk x 33599 = true := fun x => mulOk_r (by decide)
    obtain ⟨st', e', h1, h2⟩ := voice_loop S L C hS hL hC n0 ns ((st * 33599 + n % 2147482763 + 101) % 2147483029) (.val (.int n)) rfl
    refine ⟨st', e', h1, ?_⟩
    rw [← h2]
    simp [forD, gN, sAs, e2, eL, aC, aN, eVar, eC, gl1, gInt, gMod, gAdd, gMul, e1, truncS_val, truncS_v hS, truncS_v hL, truncS_v hC]
theorem voice_own (ns : List Int) (lap : Int) (h0 : 0 ≤ lap) (A B C : Slot) : ∃ own : Int, (eIf (tV (e2 gLt (eVar 1) (eL (gl1 gLen) (aC (eVar 0) (aN))))) (eL (gl1 gInt) (aC (e2 gIx (eVar 0) (eVar 1)) (aN))) (eC (.int 0))) [.val (.list (ns.map .int)), .val (.int lap), A, B, C] [] = some (.int own, []) := by
  by_cases h : lap < ns.length
  · have hl : lap.toNat < ns.length := by omega
    refine ⟨ns[lap.toNat], ?_⟩
    simp [eIf, tV, e2, eL, aC, aN, eVar, eC, gl1, gLen, gLt, gBool, h, gInt, gIx, L2.atI, L2.ixN, h0, List.getElem?_eq_getElem hl]
  · refine ⟨0, ?_⟩
    simp [eIf, tV, e2, eL, aC, aN, eVar, eC, gl1, gLen, gLt, gBool, h]
theorem cut_intsN (ns : List Int) (lo hi : Option Int) : ∃ ms : List Int, PD.cutD (ns.map .int) lo hi = ms.map .int ∧ ms.length ≤ ns.length := by
  unfold PD.cutD
  refine ⟨_, by rw [← List.map_drop, ← List.map_take], ?_⟩
  rw [List.length_take, List.length_drop]
  omega
theorem voice_spec (ns : List Int) (hn : ns.length ≤ 63) (lap : Int) (h0 : 0 ≤ lap) : ∃ p : List D, F_law_voice [.val (.list (ns.map .int)), .val (.int lap)] = some p ∧ Pool (.lst p) := by
  have e2' : ∀ x : Int, mulOk 1459 x = true := fun x => mulOk_l (by decide)
  obtain ⟨own, hc⟩ := voice_own ns lap h0 .non .non .non
  obtain ⟨ms, hms, hml⟩ := cut_intsN ns none (some 9)
  obtain ⟨st', e', hv, hloop⟩ := voice_loop (.val (.list (ns.map .int))) (.val (.int lap)) (.val (.int own)) rfl rfl rfl 0 (ms ++ [own]) (3083 + 1459 * lap) .non rfl
  have s1 : (sAs (eIf (tV (e2 gLt (eVar 1) (eL (gl1 gLen) (aC (eVar 0) (aN))))) (eL (gl1 gInt) (aC (e2 gIx (eVar 0) (eVar 1)) (aN))) (eC (.int 0))) (gN 2)) 0 [.val (.list (ns.map .int)), .val (.int lap), .non, .non, .non] [] = some (.next [.val (.list (ns.map .int)), .val (.int lap), .val (.int own), .non, .non] []) := by
    unfold sAs
    rw [hc]
    rfl
  have s2 : (sAs (e2 gAdd (eC (.int 3083)) (e2 gMul (eC (.int 1459)) (eVar 1))) (gN 3)) 0 [.val (.list (ns.map .int)), .val (.int lap), .val (.int own), .non, .non] [] = some (.next [.val (.list (ns.map .int)), .val (.int lap), .val (.int own), .val (.int (3083 + 1459 * lap)), .non] []) := by
    simp [sAs, e2, eC, eVar, gAdd, gMul, gN, e2']
  have s3 : (sFor (anyItems (e2 gAdd (eSl (eVar 0) (pN) (pS (eC (.int 9)))) (eL gLst (aC (eVar 2) (aN))))) (gN 4) (sAs (e2 gMod (eL (gl1 gInt) (aC (e2 gAdd (e2 gAdd (e2 gMul (eVar 3) (eC (.int 33599))) (e2 gMod (eL (gl1 gInt) (aC (eVar 4) (aN))) (eC (.int 2147482763)))) (eC (.int 101))) (aN))) (eC (.int 2147483029))) (gN 3))) 0 [.val (.list (ns.map .int)), .val (.int lap), .val (.int own), .val (.int (3083 + 1459 * lap)), .non] [] = some (.next [.val (.list (ns.map .int)), .val (.int lap), .val (.int own), .val (.int st'), e'] []) := by
    have z : ms.length + 1 ≤ sizeLine := szl (n := ms.length + 1) (by omega)
    have sl : anyItems (e2 gAdd (eSl (eVar 0) (pN) (pS (eC (.int 9)))) (eL gLst (aC (eVar 2) (aN)))) [.val (.list (ns.map .int)), .val (.int lap), .val (.int own), .val (.int (3083 + 1459 * lap)), .non] [] = some ((ms ++ [own]).map .int, []) := by
      simp [anyItems, lstItems, eSl, eVar, pN, pS, eC, gSl, hms, e2, eL, aC, aN, gLst, gAdd, z, szl (n := 1)]
    unfold sFor
    rw [sl, Option.bind_some]
    exact hloop
  have all : ∀ (r : List D), (fRet (mLst (aC (eIf (tOr (tV (e2 gLt (eVar 2) (eC (.int 0)))) (tV (e2 gGe (eVar 2) (e2 gPow (eC (.int 10)) (eC (.int 16)))))) (e2 gMod (eL (gl1 gAbs) (aC (eVar 2) (aN))) (e2 gPow (eC (.int 10)) (eC (.int 60)))) (eC (.int 0))) (aC (eVar 3) (aC (eC (.int 0)) (aN)))))) [.val (.list (ns.map .int)), .val (.int lap), .val (.int own), .val (.int st'), e'] = some r → F_law_voice [.val (.list (ns.map .int)), .val (.int lap)] = some r := fun r hr => by
    show m_law_voice [.val (.list (ns.map .int)), .val (.int lap), .non, .non, .non] = some r
    unfold m_law_voice
    unfold fSeq
    rw [s1, Option.bind_some]
    show fSeq _ _ _ = _
    unfold fSeq
    rw [s2, Option.bind_some]
    show fSeq _ _ _ = _
    unfold fSeq
    rw [s3, Option.bind_some]
    exact hr
  have p16 : gPow (.int 10) (.int 16) = some (.int 10000000000000000) := by rfl
  have p60 : gPow (.int 10) (.int 60) = some (.int 1000000000000000000000000000000000000000000000000000000000000) := by rfl
  have szl : (3 : Nat) ≤ sizeLine := by rw [sizeLine_eq]; decide
  by_cases hcl : own < 0 ∨ 10000000000000000 ≤ own
  · refine ⟨[.int ((if own < 0 then -own else own) % 1000000000000000000000000000000000000000000000000000000000000), .int st', .int 0], ?_, _, _, _, rfl, Int.emod_nonneg _ (by decide)⟩
    refine all _ ?_
    rcases hcl with h | h
    · simp [fRet, mLst, aC, aN, eIf, tOr, tV, e2, eVar, eC, gLt, gBool, eL, gl1, gAbs, h, szl, p60, gMod]
    · have h' : ¬ own < 0 := by omega
      simp [fRet, mLst, aC, aN, eIf, tOr, tV, e2, eVar, eC, gLt, gBool, eL, gl1, gAbs, h', h, gGe, p16, szl, p60, gMod]
  · refine ⟨[.int 0, .int st', .int 0], ?_, _, _, _, rfl, by omega⟩
    refine all _ ?_
    have h1 : ¬ own < 0 := fun z => hcl (.inl z)
    have h2 : ¬ 10000000000000000 ≤ own := fun z => hcl (.inr z)
    simp [fRet, mLst, aC, aN, eIf, tOr, tV, e2, eVar, eC, gLt, gBool, eL, gl1, gAbs, h1, h2, gGe, p16, szl]
abbrev LI := List (Str × Int)
def grow (m : M2) : List Str → List Str → LI
  | _, [] => []
  | pre, t :: r => (t, bel m (pre ++ [t]) - bel m pre) :: grow m (pre ++ [t]) r
theorem grow_keys (m : M2) : ∀ (r pre : List Str), (grow m pre r).map (·.1) = r
  | [], _ => rfl
  | t :: r, pre => by rw [grow, List.map_cons, grow_keys m r]
/-- the sum over the things in E -/
def gs (E : Str → Bool) (l : LI) : Int := ((l.filter fun p => E p.1).map (·.2)).sum
theorem gs_nil (E : Str → Bool) : gs E [] = 0 := rfl
theorem gs_cons (E : Str → Bool) (p : Str × Int) (l : LI) : gs E (p :: l) = (if E p.1 = true then p.2 else 0) + gs E l := by
  unfold gs
  by_cases h : E p.1 = true
  · simp [h]
  · simp [h]
theorem gs_congr {E F : Str → Bool} : ∀ {l : LI}, (∀ t ∈ l.map (·.1), E t = F t) → gs E l = gs F l
  | [], _ => rfl
  | p :: l, h => by
    rw [gs_cons, gs_cons, h p.1 (by simp), gs_congr fun t ht => h t (by simpa using .inr (by simpa using ht))]
theorem gs_split {E F G : Str → Bool} : ∀ {l : LI}, (∀ t ∈ l.map (·.1), (E t = (F t || G t)) ∧ (F t && G t) = false) → gs E l = gs F l + gs G l
  | [], _ => rfl
  | p :: l, h => by
    have ih := gs_split (E := E) (F := F) (G := G) (l := l) fun t ht => h t (by simpa using .inr (by simpa using ht))
    obtain ⟨h1, h2⟩ := h p.1 (by simp)
    rw [gs_cons, gs_cons, gs_cons, ih, h1]
    cases e1 : F p.1 <;> cases e2 : G p.1 <;> simp [e1, e2] at h2 ⊢ <;> omega
/-- what a thing has -/
def val : LI → Str → Int
  | [], _ => 0
  | p :: r, t => if p.1 = t then p.2 else val r t
theorem val_notin : ∀ {l : LI} {p : Str × Int} {t : Str}, t ∈ l.map (·.1) → p.1 ∉ l.map (·.1) → val (p :: l) t = val l t
  | l, p, t, ht, hp => by
    have : p.1 ≠ t := fun e => hp (e ▸ ht)
    simp [val, this]
theorem gs_val (E : Str → Bool) : ∀ (l : LI), (l.map (·.1)).Nodup → gs E l = (((l.map (·.1)).filter E).map (val l)).sum
  | [], _ => rfl
  | p :: l, hn => by
    obtain ⟨h1, h2⟩ := List.nodup_cons.mp (by simpa using hn : (p.1 :: l.map (·.1)).Nodup)
    have ih := gs_val E l h2
    have e : ((l.map (·.1)).filter E).map (val (p :: l)) = ((l.map (·.1)).filter E).map (val l) := List.map_congr_left fun t ht => val_notin (List.mem_filter.mp ht).1 h1
    rw [gs_cons, ih, List.map_cons, List.filter_cons]
    by_cases h : E p.1 = true
    · rw [if_pos h, if_pos h, List.map_cons, List.sum_cons, e]
      simp [val]
    · rw [if_neg h, if_neg h, e, Int.zero_add]
theorem sum_perm {a b : List Int} (h : a.Perm b) : a.sum = b.sum := by
  induction h with
  | nil => rfl
  | cons x _ ih => rw [List.sum_cons, List.sum_cons, ih]
  | swap x y l => simp only [List.sum_cons]; omega
  | trans _ _ i1 i2 => exact i1.trans i2
theorem perm_of {a b : List Str} (ha : a.Nodup) (hb : b.Nodup) (h : ∀ x, x ∈ a ↔ x ∈ b) : a.Perm b :=
  perm_sub a b ha (fun x hx => (h x).mp hx) (Nat.le_antisymm (sub_len a b ha fun x hx => (h x).mp hx) (sub_len b a hb fun x hx => (h x).mpr hx))
theorem sum_val {l : LI} {k : List Str} (hl : (l.map (·.1)).Nodup) (hk : k.Nodup) (h : ∀ x ∈ k, x ∈ l.map (·.1)) : (k.map (val l)).sum = gs (fun t => decide (t ∈ k)) l := by
  rw [gs_val _ l hl]
  refine sum_perm (List.Perm.map _ (perm_of hk (hl.filter _) fun x => ?_))
  simp only [List.mem_filter, decide_eq_true_eq]
  exact ⟨fun hx => ⟨h x hx, hx⟩, fun hx => hx.2⟩
theorem bel_congr (m : M2) {a b : List Str} (h : ∀ x, x ∈ a ↔ x ∈ b) : bel m a = bel m b := sumOf_congr m fun q _ => by
  rw [Bool.eq_iff_iff, sub_iff, sub_iff]
  exact ⟨fun z x hx => (h x).mp (z x hx), fun z x hx => (h x).mpr (z x hx)⟩
theorem may_congr (m : M2) {a b : List Str} (h : ∀ x, x ∈ a ↔ x ∈ b) : may m a = may m b := sumOf_congr m fun q _ => by
  rw [Bool.eq_iff_iff, meet_iff, meet_iff]
  exact ⟨fun ⟨x, z, w⟩ => ⟨x, z, (h x).mp w⟩, fun ⟨x, z, w⟩ => ⟨x, z, (h x).mpr w⟩⟩
theorem grow_total (m : M2) : ∀ (r pre : List Str), gs (fun _ => true) (grow m pre r) = bel m (pre ++ r) - bel m pre
  | [], pre => by simp [grow, gs_nil]
  | t :: r, pre => by
    rw [grow, gs_cons, grow_total m r, if_pos rfl, List.append_assoc]
    show _ = bel m (pre ++ ([t] ++ r)) - _
    omega
theorem super {A B : List Str} {t : Str} (hs : ∀ x ∈ A, x ∈ B) (ht : t ∉ B) : ∀ (m : M2), (∀ q ∈ m, 0 < q.2) → bel m (A ++ [t]) - bel m A ≤ bel m (B ++ [t]) - bel m B
  | [], _ => Int.le_refl _
  | q :: m, hp => by
    have ih := super hs ht m fun x hx => hp x (List.mem_cons_of_mem _ hx)
    have h0 := hp q (List.mem_cons_self ..)
    unfold bel at ih ⊢
    rw [sumOf_cons, sumOf_cons, sumOf_cons, sumOf_cons]
    have c1 : sub q.1 A = true → sub q.1 (A ++ [t]) = true := fun h => sub_iff.mpr fun x hx => List.mem_append_left _ (sub_iff.mp h x hx)
    have c2 : sub q.1 B = true → sub q.1 (B ++ [t]) = true := fun h => sub_iff.mpr fun x hx => List.mem_append_left _ (sub_iff.mp h x hx)
    have c3 : sub q.1 (A ++ [t]) = true → sub q.1 (B ++ [t]) = true := fun h => sub_iff.mpr fun x hx => by
      rcases List.mem_append.mp (sub_iff.mp h x hx) with z | z
      · exact List.mem_append_left _ (hs x z)
      · exact List.mem_append_right _ z
    have c4 : sub q.1 A = true → sub q.1 B = true := fun h => sub_iff.mpr fun x hx => hs x (sub_iff.mp h x hx)
    have c5 : sub q.1 (A ++ [t]) = true → sub q.1 B = true → sub q.1 A = true := fun h h' => sub_iff.mpr fun x hx => by
      rcases List.mem_append.mp (sub_iff.mp h x hx) with z | z
      · exact z
      · rw [List.mem_singleton.mp z] at hx
        exact absurd (sub_iff.mp h' t hx) ht
    cases e1 : sub q.1 A <;> cases e2 : sub q.1 B <;> cases e3 : sub q.1 (A ++ [t]) <;> cases e4 : sub q.1 (B ++ [t]) <;> simp [e1, e2, e3, e4] at c1 c2 c3 c4 c5 ⊢ <;> omega
/-- what the things in E grow by is no less than what is believed of them -/
theorem grow_low (m : M2) (hp : ∀ q ∈ m, 0 < q.2) (E : Str → Bool) : ∀ (r pre : List Str), (pre ++ r).Nodup → bel m ((pre ++ r).filter E) - bel m (pre.filter E) ≤ gs E (grow m pre r)
  | [], pre, _ => by simp [grow, gs_nil]
  | t :: r, pre, hn => by
    have e : pre ++ t :: r = (pre ++ [t]) ++ r := by simp
    rw [e] at hn ⊢
    have ih := grow_low m hp E r (pre ++ [t]) hn
    rw [grow, gs_cons]
    have nt : t ∉ pre := by
      have := (List.nodup_append.mp hn).1
      exact fun h => (List.nodup_append.mp this).2.2 t h t (by simp) rfl
    by_cases h : E t = true
    · rw [if_pos h]
      have ef : (pre ++ [t]).filter E = pre.filter E ++ [t] := by rw [List.filter_append]; simp [h]
      rw [ef] at ih
      have s := super (A := pre.filter E) (B := pre) (t := t) (fun x hx => (List.mem_filter.mp hx).1) nt m hp
      omega
    · rw [if_neg h]
      have ef : (pre ++ [t]).filter E = pre.filter E := by rw [List.filter_append]; simp [h]
      rw [ef] at ih
      omega
theorem gs_none (m : M2) (E : Str → Bool) : ∀ (r pre : List Str), (∀ t ∈ r, E t = false) → gs E (grow m pre r) = 0
  | [], _, _ => rfl
  | t :: r, pre, h => by
    rw [grow, gs_cons, h t (List.mem_cons_self ..), gs_none m E r _ fun x hx => h x (List.mem_cons_of_mem _ hx)]
    rfl
theorem gs_all (m : M2) (E : Str → Bool) (r pre : List Str) (h : ∀ t ∈ r, E t = true) : gs E (grow m pre r) = bel m (pre ++ r) - bel m pre := by
  rw [← grow_total m r pre]
  exact gs_congr fun t ht => by rw [grow_keys] at ht; exact h t ht
theorem gs_app (m : M2) (E : Str → Bool) : ∀ (a b pre : List Str), gs E (grow m pre (a ++ b)) = gs E (grow m pre a) + gs E (grow m (pre ++ a) b)
  | [], b, pre => by simp [grow, gs_nil]
  | t :: a, b, pre => by
    rw [List.cons_append, grow, grow, gs_cons, gs_cons, gs_app m E a b, List.append_assoc]
    show _ + (_ + gs E (grow m (pre ++ ([t] ++ a)) b)) = _
    show _ = _ + _ + gs E (grow m (pre ++ t :: a) b)
    rw [List.singleton_append]
    omega
structure Ord (f o : List Str) : Prop where
  nd : o.Nodup
  mem : ∀ x, x ∈ o ↔ x ∈ f
abbrev inE (k : List Str) : Str → Bool := fun t => decide (t ∈ k)
theorem mem_both {k x : List Str} {t : Str} : t ∈ both k x ↔ t ∈ k ∧ t ∈ x := by simp [both]
theorem mem_apart {k x : List Str} {t : Str} : t ∈ apart k x ↔ t ∈ k ∧ t ∉ x := by simp [apart]
section
variable {f : List Str} {s : Int} {m : M2} (hf : Frame f) (q : Mass f s m)
include q
theorem ord_low {o : List Str} (ho : Ord f o) {k : List Str} (hk : ∀ t ∈ k, t ∈ f) : bel m k ≤ gs (inE k) (grow m [] o) := by
  have h := grow_low m q.pos (inE k) o [] (by simpa using ho.nd)
  have e : bel m ([] ++ o |>.filter (inE k)) = bel m k := bel_congr m fun x => by
    simp only [List.nil_append, List.mem_filter, decide_eq_true_eq]
    exact ⟨fun z => z.2, fun z => ⟨(ho.mem x).mpr (hk x z), z⟩⟩
  rw [e] at h
  have z : bel m ([].filter (inE k)) = 0 := b_nil q
  rw [z] at h
  omega
theorem ord_sum {o : List Str} (ho : Ord f o) : gs (fun _ => true) (grow m [] o) = s := by
  rw [grow_total]
  have e : bel m ([] ++ o) = bel m f := bel_congr m fun x => by simpa using ho.mem x
  rw [e, show bel m f = s from b_all q, show bel m [] = 0 from b_nil q]
  omega
theorem ord_high {o : List Str} (ho : Ord f o) {k : List Str} (hk : ∀ t ∈ k, t ∈ f) : gs (inE k) (grow m [] o) ≤ may m k := by
  have h := grow_low m q.pos (fun t => !inE k t) o [] (by simpa using ho.nd)
  have e : bel m ([] ++ o |>.filter fun t => !inE k t) = bel m (f.filter fun t => !decide (t ∈ k)) := bel_congr m fun x => by
    simp only [List.nil_append, List.mem_filter]
    rw [ho.mem x]
  rw [e] at h
  have z : bel m ([].filter fun t => !inE k t) = 0 := b_nil q
  rw [z] at h
  have t := ord_sum q ho
  rw [gs_split (F := inE k) (G := fun t => !inE k t) fun t _ => by cases inE k t <;> simp] at t
  have mo : may m k = s - bel m (f.filter fun t => !decide (t ∈ k)) := m_other q k
  omega
theorem ord_parts {o : List Str} (k x : List Str) : gs (inE k) (grow m [] o) = gs (inE (both k x)) (grow m [] o) + gs (inE (apart k x)) (grow m [] o) :=
  gs_split fun t _ => by
    have a : inE (both k x) t = (decide (t ∈ k) && decide (t ∈ x)) := by simp [inE, mem_both]
    have b : inE (apart k x) t = (decide (t ∈ k) && !decide (t ∈ x)) := by
      rw [Bool.eq_iff_iff]
      simp [inE, mem_apart]
    rw [a, b]
    show (decide (t ∈ k) = _) ∧ _
    cases decide (t ∈ k) <;> cases decide (t ∈ x) <;> simp
theorem bel_nn (k : List Str) : 0 ≤ bel m k := by
  have h := b_mono q (x := []) (w := k) fun t ht => by cases ht
  rw [b_nil q] at h
  exact h
theorem bel_may (k : List Str) : bel m k ≤ may m k := b_le_m q k
theorem may_s (k : List Str) : may m k ≤ s := by
  have mo : may m k = s - bel m (f.filter fun t => !decide (t ∈ k)) := m_other q k
  have := bel_nn q (f.filter fun t => !decide (t ∈ k))
  omega
theorem ord_nn {o : List Str} (ho : Ord f o) {k : List Str} (hk : ∀ t ∈ k, t ∈ f) : 0 ≤ gs (inE k) (grow m [] o) := Int.le_trans (bel_nn q k) (ord_low q ho hk)
/-- an order whose beginning and end are told -/
theorem ord_made {a b c : List Str} (ha : a.Nodup) (hb : b.Nodup) (hc : c.Nodup) (hab : ∀ t ∈ a, t ∉ b) (hac : ∀ t ∈ a, t ∉ c) (hbc : ∀ t ∈ b, t ∉ c) (hm : ∀ x, x ∈ f ↔ x ∈ a ∨ x ∈ b ∨ x ∈ c) :
    Ord f (a ++ (b ++ c)) ∧ gs (inE a) (grow m [] (a ++ (b ++ c))) = bel m a ∧ gs (inE c) (grow m [] (a ++ (b ++ c))) = may m c := by
  have ho : Ord f (a ++ (b ++ c)) := ⟨List.nodup_append.mpr ⟨ha, List.nodup_append.mpr ⟨hb, hc, fun x hx y hy e => hbc x hx (e ▸ hy)⟩, fun x hx y hy e => by
    rcases List.mem_append.mp hy with z | z
    · exact hab x hx (e ▸ z)
    · exact hac x hx (e ▸ z)⟩, fun x => by rw [hm x]; simp⟩
  refine ⟨ho, ?_, ?_⟩
  · rw [gs_app, gs_all m (inE a) a [] (fun t ht => by simpa using ht), gs_none m (inE a) (b ++ c) _ fun t ht => ?_]
    · rw [show bel m [] = 0 from b_nil q, List.nil_append]; omega
    · rcases List.mem_append.mp ht with z | z
      · exact decide_eq_false fun w => hab t w z
      · exact decide_eq_false fun w => hac t w z
  · have mo : may m c = s - bel m (f.filter fun t => !decide (t ∈ c)) := m_other q c
    have e1 : bel m (f.filter fun t => !decide (t ∈ c)) = bel m (a ++ b) := bel_congr m fun x => by
      simp only [List.mem_filter, List.mem_append, hm x, Bool.not_eq_true', decide_eq_false_iff_not]
      exact ⟨fun ⟨z, w⟩ => z.elim .inl fun z => z.elim .inr fun z => absurd z w, fun z => z.elim (fun z => ⟨.inl z, hac x z⟩) fun z => ⟨.inr (.inl z), hbc x z⟩⟩
    have e2 : a ++ (b ++ c) = (a ++ b) ++ c := by simp
    rw [e2, gs_app, gs_none m (inE c) (a ++ b) [] (fun t ht => ?_), gs_all m (inE c) c _ (fun t ht => by simpa using ht), mo, e1]
    · have e3 : bel m ([] ++ (a ++ b) ++ c) = s := by
        rw [← b_all q]
        exact bel_congr m fun x => by rw [hm x]; simp [or_assoc]
      rw [e3, List.nil_append]
      omega
    · rcases List.mem_append.mp ht with z | z
      · exact decide_eq_false fun w => hac t z w
      · exact decide_eq_false fun w => hbc t z w
theorem room2 {x k : List Str} (hk : k.length < 65536) : Room2 s m x k := by
  have mo : ∀ k, may m k = s - bel m (f.filter fun t => !decide (t ∈ k)) := fun k => m_other q k
  have dis : ∀ a b : List Str, (∀ t ∈ a, t ∉ b) → bel m a + may m b ≤ s := fun a b h => by
    have h1 : bel m a ≤ bel m (f.filter fun t => !decide (t ∈ b)) := by
      refine sumOf_mono m q.pos fun z hz hz2 => sub_iff.mpr fun t ht => List.mem_filter.mpr ⟨q.sub z hz t ht, ?_⟩
      have := h t (sub_iff.mp hz2 t ht)
      simpa using this
    rw [mo b]
    omega
  refine ⟨hk, bel_nn q _, Int.le_trans (bel_nn q _) (bel_may q _), dis _ _ fun t h1 h2 => ?_, Int.le_trans (bel_nn q _) (bel_may q _), bel_nn q _, ?_⟩
  · exact (mem_apart.mp h2).2 (mem_both.mp h1).2
  · have := dis (apart k x) (both k x) fun t h1 h2 => (mem_apart.mp h1).2 (mem_both.mp h2).2
    omega
end
section
variable {f : List Str} {s : Int} {m : M2} (q : Mass f s m) {x k : List Str} (hk : ∀ t ∈ k, t ∈ f)
include q hk
theorem both_f {t : Str} (h : t ∈ both k x) : t ∈ f := hk t (mem_both.mp h).1
theorem apart_f {t : Str} (h : t ∈ apart k x) : t ∈ f := hk t (mem_apart.mp h).1
theorem part_low {o : List Str} (ho : Ord f o) : (lowP m x k).2 * gs (inE k) (grow m [] o) ≤ gs (inE (both k x)) (grow m [] o) * (lowP m x k).1 := by
  have h1 := ord_low q ho (k := both k x) fun t h => both_f q hk h
  have h2 := ord_high q ho (k := apart k x) fun t h => apart_f q hk h
  have h3 := bel_nn q (both k x)
  have h4 := ord_nn q ho (k := apart k x) fun t h => apart_f q hk h
  rw [ord_parts q k x]
  unfold lowP part
  generalize bel m (both k x) = b at *
  generalize may m (apart k x) = p at *
  generalize gs (inE (both k x)) (grow m [] o) = w at *
  generalize gs (inE (apart k x)) (grow m [] o) = v at *
  split
  · dsimp only
    omega
  · dsimp only
    rw [Int.mul_add, Int.mul_add, Int.mul_comm b w]
    have : b * v ≤ w * p := Int.mul_le_mul h1 h2 h4 (by omega)
    omega
theorem part_high {o : List Str} (ho : Ord f o) : gs (inE (both k x)) (grow m [] o) * (highP m x k).1 ≤ (highP m x k).2 * gs (inE k) (grow m [] o) := by
  have h1 := ord_high q ho (k := both k x) fun t h => both_f q hk h
  have h2 := ord_low q ho (k := apart k x) fun t h => apart_f q hk h
  have h3 := bel_nn q (apart k x)
  have h4 := ord_nn q ho (k := both k x) fun t h => both_f q hk h
  rw [ord_parts q k x]
  unfold highP part
  generalize may m (both k x) = p at *
  generalize bel m (apart k x) = b at *
  generalize gs (inE (both k x)) (grow m [] o) = w at *
  generalize gs (inE (apart k x)) (grow m [] o) = v at *
  split
  · dsimp only
    omega
  · dsimp only
    rw [Int.mul_add, Int.mul_add, Int.mul_comm w p]
    have : w * b ≤ p * v := Int.mul_le_mul h1 h2 h3 (by omega)
    omega
theorem part_none (h0 : may m k = 0) {o : List Str} (ho : Ord f o) : gs (inE k) (grow m [] o) = 0 := by
  have h1 := ord_high q ho hk
  have h2 := ord_nn q ho hk
  omega
theorem part_den {o : List Str} (ho : Ord f o) : 0 ≤ gs (inE k) (grow m [] o) ∧ gs (inE k) (grow m [] o) ≤ s := ⟨ord_nn q ho hk, Int.le_trans (ord_high q ho hk) (may_s q k)⟩
theorem low_at (hf : f.Nodup) (hkn : k.Nodup) (h0 : may m k ≠ 0) : ∃ o, Ord f o ∧ 0 < gs (inE k) (grow m [] o) ∧ gs (inE (both k x)) (grow m [] o) * (lowP m x k).1 = (lowP m x k).2 * gs (inE k) (grow m [] o) := by
  by_cases z : bel m (both k x) + may m (apart k x) = 0
  · obtain ⟨ho, h1, h2⟩ := ord_made q (f := f) (a := []) (b := apart f k) (c := k) List.nodup_nil (hf.filter _) hkn (fun t h => by cases h) (fun t h => by cases h) (fun t h => (mem_apart.mp h).2) fun x => by
      rw [mem_apart]
      by_cases y : x ∈ k
      · simp [y, hk x y]
      · simp [y]
    refine ⟨_, ho, ?_, ?_⟩
    · rw [h2]
      have := bel_may q k
      have := bel_nn q k
      omega
    · have p := part_low q hk (x := x) ho
      have e := ord_parts (o := [] ++ (apart f k ++ k)) q k x
      have n := ord_nn q ho (k := apart k x) fun t h => apart_f q hk h
      have e2 : lowP m x k = (1, 1) := by unfold lowP part; rw [if_pos z]
      rw [e2] at p ⊢
      dsimp only at p ⊢
      omega
  · obtain ⟨ho, h1, h2⟩ := ord_made q (f := f) (a := both k x) (b := apart f k) (c := apart k x) (hkn.filter _) (hf.filter _) (hkn.filter _) (fun t h h' => (mem_apart.mp h').2 (mem_both.mp h).1) (fun t h h' => (mem_apart.mp h').2 (mem_both.mp h).2) (fun t h h' => (mem_apart.mp h).2 (mem_apart.mp h').1) fun y => by
      rw [mem_apart, mem_apart, mem_both]
      by_cases y1 : y ∈ k
      · by_cases y2 : y ∈ x <;> simp [y1, y2, hk y y1]
      · simp [y1]
    have e := ord_parts (o := both k x ++ (apart f k ++ apart k x)) q k x
    rw [h1, h2] at e
    have e2 : lowP m x k = (bel m (both k x) + may m (apart k x), bel m (both k x)) := by unfold lowP part; rw [if_neg z]
    have b1 := bel_nn q (both k x)
    have b2 := Int.le_trans (bel_nn q (apart k x)) (bel_may q (apart k x))
    refine ⟨_, ho, by omega, ?_⟩
    rw [e2, h1, e]
theorem high_at (hf : f.Nodup) (hkn : k.Nodup) (h0 : may m k ≠ 0) : ∃ o, Ord f o ∧ 0 < gs (inE k) (grow m [] o) ∧ gs (inE (both k x)) (grow m [] o) * (highP m x k).1 = (highP m x k).2 * gs (inE k) (grow m [] o) := by
  by_cases z : may m (both k x) + bel m (apart k x) = 0
  · obtain ⟨ho, h1, h2⟩ := ord_made q (f := f) (a := []) (b := apart f k) (c := k) List.nodup_nil (hf.filter _) hkn (fun t h => by cases h) (fun t h => by cases h) (fun t h => (mem_apart.mp h).2) fun x => by
      rw [mem_apart]
      by_cases y : x ∈ k
      · simp [y, hk x y]
      · simp [y]
    refine ⟨_, ho, ?_, ?_⟩
    · rw [h2]
      have := bel_may q k
      have := bel_nn q k
      omega
    · have p := part_high q hk (x := x) ho
      have n := ord_nn q ho (k := both k x) fun t h => both_f q hk h
      have e2 : highP m x k = (1, 0) := by unfold highP part; rw [if_pos z]
      rw [e2] at p ⊢
      dsimp only at p ⊢
      omega
  · obtain ⟨ho, h1, h2⟩ := ord_made q (f := f) (a := apart k x) (b := apart f k) (c := both k x) (hkn.filter _) (hf.filter _) (hkn.filter _) (fun t h h' => (mem_apart.mp h').2 (mem_apart.mp h).1) (fun t h h' => (mem_apart.mp h).2 (mem_both.mp h').2) (fun t h h' => (mem_apart.mp h).2 (mem_both.mp h').1) fun y => by
      rw [mem_apart, mem_apart, mem_both]
      by_cases y1 : y ∈ k
      · by_cases y2 : y ∈ x <;> simp [y1, y2, hk y y1]
      · simp [y1]
    have e := ord_parts (o := apart k x ++ (apart f k ++ both k x)) q k x
    rw [h1, h2] at e
    have e2 : highP m x k = (may m (both k x) + bel m (apart k x), may m (both k x)) := by unfold highP part; rw [if_neg z]
    have b1 := bel_nn q (apart k x)
    have b2 := Int.le_trans (bel_nn q (both k x)) (bel_may q (both k x))
    refine ⟨_, ho, by omega, ?_⟩
    rw [e2, h2, e]
end
section
variable {f : List Str} {s : Int} {m : M2} (q : Mass f s m) {x k : List Str} (hk : ∀ t ∈ k, t ∈ f) (hkl : k.length < 65536)
include q hkl
theorem lowP_ok : 0 < (lowP m x k).1 ∧ (lowP m x k).1 < 65536 := by
  have r := room2 q (x := x) hkl
  have l := q.ok.low
  have h1 := r.l0; have h2 := r.l1; have h3 := r.l2
  unfold lowP part
  split
  · exact ⟨by decide, by decide⟩
  · dsimp only; omega
theorem highP_ok : 0 < (highP m x k).1 ∧ (highP m x k).1 < 65536 := by
  have r := room2 q (x := x) hkl
  have l := q.ok.low
  have h1 := r.h0; have h2 := r.h1; have h3 := r.h2
  unfold highP part
  split
  · exact ⟨by decide, by decide⟩
  · dsimp only; omega
theorem low_mono {w : List Str} (h : ∀ t ∈ x, t ∈ w) : (lowP m x k).2 * (lowP m w k).1 ≤ (lowP m w k).2 * (lowP m x k).1 := by
  have b1 : bel m (both k x) ≤ bel m (both k w) := b_mono q fun t ht => mem_both.mpr ⟨(mem_both.mp ht).1, h t (mem_both.mp ht).2⟩
  have p1 : may m (apart k w) ≤ may m (apart k x) := m_mono q fun t ht => mem_apart.mpr ⟨(mem_apart.mp ht).1, fun z => (mem_apart.mp ht).2 (h t z)⟩
  have r := room2 q (x := x) hkl
  have r2 := room2 q (x := w) hkl
  have h1 := r.l0; have h2 := r.l1; have h3 := r2.l0; have h4 := r2.l1
  unfold lowP part
  generalize bel m (both k x) = b at *
  generalize bel m (both k w) = b' at *
  generalize may m (apart k x) = p at *
  generalize may m (apart k w) = p' at *
  split <;> split <;> dsimp only
  · omega
  · have : p' = 0 := by omega
    subst this
    omega
  · omega
  · rw [Int.mul_add, Int.mul_add, Int.mul_comm b b']
    have : b * p' ≤ b' * p := Int.mul_le_mul b1 p1 h4 (by omega)
    omega
theorem high_mono {w : List Str} (h : ∀ t ∈ x, t ∈ w) : (highP m x k).2 * (highP m w k).1 ≤ (highP m w k).2 * (highP m x k).1 := by
  have p1 : may m (both k x) ≤ may m (both k w) := m_mono q fun t ht => mem_both.mpr ⟨(mem_both.mp ht).1, h t (mem_both.mp ht).2⟩
  have b1 : bel m (apart k w) ≤ bel m (apart k x) := b_mono q fun t ht => mem_apart.mpr ⟨(mem_apart.mp ht).1, fun z => (mem_apart.mp ht).2 (h t z)⟩
  have r := room2 q (x := x) hkl
  have r2 := room2 q (x := w) hkl
  have h1 := r.h0; have h2 := r.h1; have h3 := r2.h0; have h4 := r2.h1
  unfold highP part
  generalize may m (both k x) = p at *
  generalize may m (both k w) = p' at *
  generalize bel m (apart k x) = b at *
  generalize bel m (apart k w) = b' at *
  split <;> split <;> dsimp only
  · omega
  · omega
  · have : p = 0 := by omega
    subst this
    omega
  · rw [Int.mul_add, Int.mul_add, Int.mul_comm p p']
    have : p * b' ≤ p' * b := Int.mul_le_mul p1 b1 h4 (by omega)
    omega
end
abbrev le2 (a b : Int × Int) : Prop := a.2 * b.1 ≤ b.2 * a.1
structure Den (a : Int × Int) : Prop where
  pos : 0 < a.1
  low : a.1 < 65536
theorem le2_refl (a : Int × Int) : le2 a a := Int.le_refl _
theorem le2_trans {a b c : Int × Int} (ha : Den a) (hb : Den b) (hc : Den c) (h1 : le2 a b) (h2 : le2 b c) : le2 a c := by
  have e1 := Int.mul_le_mul_of_nonneg_right h1 (Int.le_of_lt hc.pos)
  have e2 := Int.mul_le_mul_of_nonneg_right h2 (Int.le_of_lt ha.pos)
  have : (a.2 * c.1) * b.1 ≤ (c.2 * a.1) * b.1 := by
    calc a.2 * c.1 * b.1 = a.2 * b.1 * c.1 := by ac_rfl
      _ ≤ b.2 * a.1 * c.1 := e1
      _ = b.2 * c.1 * a.1 := by ac_rfl
      _ ≤ c.2 * b.1 * a.1 := e2
      _ = c.2 * a.1 * b.1 := by ac_rfl
  exact Int.le_of_mul_le_mul_right this hb.pos
theorem upP_spec {a b : Int × Int} (ha : Den a) (hb : Den b) : F_law_up_to [.val (fracP a), .val (fracP b)] [] = some (.bool (decide (le2 a b)), []) := up_spec ha.pos ha.low hb.pos hb.low
theorem ends_loop (S : Slot) (hS : isV S = true) (n0 : Nat) : ∀ (ps : List (Int × Int)) (lo hi : Int × Int) (e : Slot), isV e = true → (∀ p ∈ ps, Den p) → Den lo → Den hi →
    ∃ lo' hi' e', isV e' = true ∧ Den lo' ∧ Den hi' ∧ (lo' = lo ∨ lo' ∈ ps) ∧ (hi' = hi ∨ hi' ∈ ps) ∧ le2 lo' lo ∧ le2 hi hi' ∧ (∀ p ∈ ps, le2 lo' p ∧ le2 p hi') ∧
      forD (gN 1) (sPar B0 2 3 (aC (eIf (tV (eCall 2 F_law_up_to (rV (eVar 1) (rV (eVar 2) (rN))))) (eVar 1) (eVar 2)) (aC (eIf (tV (eCall 2 F_law_up_to (rV (eVar 3) (rV (eVar 1) (rN))))) (eVar 1) (eVar 3)) (aN)))) n0 0 (ps.map fracP) [S, e, .val (fracP lo), .val (fracP hi)] [] = some (.next [S, e', .val (fracP lo'), .val (fracP hi')] [])
  | [], lo, hi, e, he, _, hl, hh => ⟨lo, hi, e, he, hl, hh, .inl rfl, .inl rfl, le2_refl _, le2_refl _, fun p hp => by (cases hp), rfl⟩
  | p :: ps, lo, hi, e, he, hp, hl, hh => by
    have p0 := hp p (List.mem_cons_self ..)
    obtain ⟨a, b, h1, h2, h3, h4⟩ : ∃ a b : Int × Int, (a = p ∨ a = lo) ∧ (b = p ∨ b = hi) ∧ (le2 a p ∧ le2 a lo) ∧ (le2 p b ∧ le2 hi b) ∧
        sPar B0 2 3 (aC (eIf (tV (eCall 2 F_law_up_to (rV (eVar 1) (rV (eVar 2) (rN))))) (eVar 1) (eVar 2)) (aC (eIf (tV (eCall 2 F_law_up_to (rV (eVar 3) (rV (eVar 1) (rN))))) (eVar 1) (eVar 3)) (aN))) n0 [S, .val (fracP p), .val (fracP lo), .val (fracP hi)] [] = some (.next [S, .val (fracP p), .val (fracP a), .val (fracP b)] []) := by
      have c1 := tV_of (call2_of (F := F_law_up_to) (a := eVar 1) (b := eVar 2) (ρ := [S, .val (fracP p), .val (fracP lo), .val (fracP hi)]) rfl rfl (upP_spec p0 hl))
      have c2 := tV_of (call2_of (F := F_law_up_to) (a := eVar 3) (b := eVar 1) (ρ := [S, .val (fracP p), .val (fracP lo), .val (fracP hi)]) rfl rfl (upP_spec hh p0))
      refine ⟨if le2 p lo then p else lo, if le2 hi p then p else hi, ?_, ?_, ?_, ?_, ?_⟩
      · split
        · exact .inl rfl
        · exact .inr rfl
      · split
        · exact .inl rfl
        · exact .inr rfl
      · split
        · rename_i z; exact ⟨le2_refl _, z⟩
        · rename_i z; exact ⟨(Int.le_total _ _).resolve_right z, le2_refl _⟩
      · split
        · rename_i z; exact ⟨le2_refl _, z⟩
        · rename_i z; exact ⟨(Int.le_total _ _).resolve_left z, le2_refl _⟩
      · have d1 : eIf (tV (eCall 2 F_law_up_to (rV (eVar 1) (rV (eVar 2) (rN))))) (eVar 1) (eVar 2) [S, .val (fracP p), .val (fracP lo), .val (fracP hi)] [] = some (fracP (if le2 p lo then p else lo), []) := by
          unfold eIf
          rw [c1]
          by_cases z : le2 p lo <;> simp [z, eVar]
        have d2 : eIf (tV (eCall 2 F_law_up_to (rV (eVar 3) (rV (eVar 1) (rN))))) (eVar 1) (eVar 3) [S, .val (fracP p), .val (fracP lo), .val (fracP hi)] [] = some (fracP (if le2 hi p then p else hi), []) := by
          unfold eIf
          rw [c2]
          by_cases z : le2 hi p <;> simp [z, eVar]
        simp [sPar, aC, aN, d1, d2, B0]
    have ha : Den a := by rcases h1 with e | e <;> rw [e] <;> assumption
    have hb : Den b := by rcases h2 with e | e <;> rw [e] <;> assumption
    obtain ⟨h4, h5⟩ := h4
    obtain ⟨lo', hi', e', g1, g2, g3, g4, g5, g6, g7, g8, g9⟩ := ends_loop S hS n0 ps a b (.val (fracP p)) rfl (fun x hx => hp x (List.mem_cons_of_mem _ hx)) ha hb
    refine ⟨lo', hi', e', g1, g2, g3, ?_, ?_, le2_trans g2 ha hl g6 h3.2, le2_trans hh hb g3 h4.2 g7, fun x hx => ?_, ?_⟩
    · rcases g4 with e | e
      · rcases h1 with z | z
        · exact .inr (by rw [e, z]; exact List.mem_cons_self ..)
        · exact .inl (e.trans z)
      · exact .inr (List.mem_cons_of_mem _ e)
    · rcases g5 with e | e
      · rcases h2 with z | z
        · exact .inr (by rw [e, z]; exact List.mem_cons_self ..)
        · exact .inl (e.trans z)
      · exact .inr (List.mem_cons_of_mem _ e)
    · rcases List.mem_cons.mp hx with e | e
      · rw [e]
        exact ⟨le2_trans g2 ha p0 g6 h3.1, le2_trans p0 hb g3 h4.1 g7⟩
      · exact g8 x e
    · rw [← g9]
      have gn : ∀ (d : D), gN 1 d [S, e, .val (fracP lo), .val (fracP hi)] [] = some ([S, .val d, .val (fracP lo), .val (fracP hi)], []) := fun d => rfl
      simp [forD, gn, h5, truncS_v hS, truncS_val]
theorem ret_of {a : ME} {n : Nat} {ρ : List Slot} {μ μ' : List Cell} {d : D} (h : a ρ μ = some (d, μ')) : sRet B0 a n ρ μ = some (.ret d μ') := by
  unfold sRet
  rw [h, Option.bind_some, okB0]
  rfl
/-- an end that is as another one is this one -/
theorem end_eq {a b : Int × Int} (ha : Den a) (hb : Den b) (h1 : le2 a b) (h2 : le2 b a) : fracP a = fracP b := frac_eq ha.pos hb.pos (Int.le_antisymm h1 h2)
def ext (f row : List Str) : List (List Str) := (f.filter fun t => !decide (t ∈ row)).map fun t => row ++ [t]
theorem mem_ext {f row o : List Str} : o ∈ ext f row ↔ ∃ t, t ∈ f ∧ t ∉ row ∧ row ++ [t] = o := by
  unfold ext
  simp only [List.mem_map, List.mem_filter, Bool.not_eq_true', decide_eq_false_iff_not]
  exact ⟨fun ⟨t, ⟨a, b⟩, c⟩ => ⟨t, a, b, c⟩, fun ⟨t, a, b, c⟩ => ⟨t, ⟨a, b⟩, c⟩⟩
structure Rows (f : List Str) (i : Nat) (rows : List (List Str)) : Prop where
  mem : ∀ o, o ∈ rows ↔ o.length = i ∧ o.Nodup ∧ ∀ x ∈ o, x ∈ f
  few : rows.length ≤ 4 ^ i
theorem Rows.next {f : List Str} {i : Nat} {rows : List (List Str)} (r : Rows f i rows) (hl : (rows.flatMap (ext f)).length ≤ 4 * rows.length) : Rows f (i + 1) (rows.flatMap (ext f)) := by
  refine ⟨fun o => ?_, ?_⟩
  · rw [List.mem_flatMap]
    constructor
    · rintro ⟨row, hr, ho⟩
      obtain ⟨t, h1, h2, rfl⟩ := mem_ext.mp ho
      obtain ⟨q1, q2, q3⟩ := (r.mem row).mp hr
      refine ⟨by simp [q1], List.nodup_append.mpr ⟨q2, by simp, fun a ha b hb e => h2 (by rw [← List.mem_singleton.mp hb, ← e]; exact ha)⟩, fun x hx => ?_⟩
      rcases List.mem_append.mp hx with z | z
      · exact q3 x z
      · rw [List.mem_singleton.mp z]; exact h1
    · rintro ⟨h1, h2, h3⟩
      rcases List.eq_nil_or_concat o with z | ⟨row, t, z⟩
      · rw [z] at h1; simp at h1
      · rw [List.concat_eq_append] at z
        subst z
        obtain ⟨n1, n2, n3⟩ := List.nodup_append.mp h2
        refine ⟨row, (r.mem row).mpr ⟨by simpa using h1, n1, fun x hx => h3 x (List.mem_append_left _ hx)⟩, mem_ext.mpr ⟨t, h3 t (by simp), fun h => n3 t h t (by simp) rfl, rfl⟩⟩
  · have := r.few
    rw [Nat.pow_succ]
    omega
theorem Rows.ord {f : List Str} {rows : List (List Str)} (hf : f.Nodup) (r : Rows f f.length rows) (o : List Str) : o ∈ rows ↔ Ord f o := by
  rw [r.mem]
  constructor
  · rintro ⟨h1, h2, h3⟩
    exact ⟨h2, fun x => ⟨h3 x, fun hx => by
      by_cases z : x ∈ o
      · exact z
      · have := sub_len (x :: o) f (List.nodup_cons.mpr ⟨z, h2⟩) fun y hy => by
          rcases List.mem_cons.mp hy with e | e
          · rw [e]; exact hx
          · exact h3 y e
        simp at this
        omega⟩⟩
  · intro ho
    exact ⟨(perm_of ho.nd hf ho.mem).length_eq, ho.nd, fun x hx => (ho.mem x).mp hx⟩
theorem orders_spec {f : List Str} (hf : f.Nodup) (hl : f.length ≤ 4) : ∃ rows : List (List Str), F_law_orders [.val (setD f)] [] = some (.list (rows.map setD), []) ∧ (∀ o, o ∈ rows ↔ Ord f o) ∧ rows.length ≤ 256 := by
  suffices h : wp (F_law_orders [.val (setD f)] []) fun d μ => μ = [] ∧ ∃ rows : List (List Str), d = .list (rows.map setD) ∧ Rows f f.length rows by
    obtain ⟨d, m, e, rfl, rows, rfl, o⟩ := h
    exact ⟨rows, e, o.ord hf, Nat.le_trans o.few (Nat.pow_le_pow_right (by omega) hl)⟩
  refine wp_body ?_
  unfold m_law_orders
  refine ws_seq (ws_as (wp_eL.mpr (wp_aC.mpr (wp_eL.mpr (wp_aN.mpr (wp1_of (a := .tuple []) (by simp [gTup]) (wp_aN.mpr (wp1_of (a := .list [.tuple []]) (by simp [gLst, szl (n := 1)]) (wp_some.mpr ?_)))))))))
  obtain ⟨ds', hd1, hd2⟩ := rng_ints f.length
  refine ws_seq (ws_for (wp_rng1.mpr (wp_aC.mpr (wp_of (a := .int f.length) (b := []) (eL1_of (x := setD f) rfl (by simp [gLen, setD])) (wp_aN.mpr ⟨f.length, rfl, by simp [okR]; omega, ?_⟩)))))
  rw [show (f.length : Int).toNat = f.length by simp, hd2]
  refine ⟨fun ds ρ μ => ∃ (i : Nat) (rows : List (List Str)) (L T E : Slot), isV L = true ∧ isV T = true ∧ isV E = true ∧ i + ds.length = f.length ∧ Rows f i rows ∧ ρ = [.val (setD f), .val (.list (rows.map setD)), L, T, E, .non] ∧ μ = [], ⟨0, [[]], .non, .non, .non, rfl, rfl, rfl, by simp [hd1], ⟨fun o => ?_, by simp⟩, rfl, rfl⟩, ?_, ?_⟩
  · simp only [List.mem_singleton, List.length_eq_zero_iff]
    exact ⟨fun e => by rw [e]; simp, fun h => h.1⟩
  · rintro d ds _ _ ⟨i, rows, L, T, E, hL, hT, hE, hi, r, rfl, rfl⟩
    simp only [List.length_cons] at hi
    have hrl : rows.length ≤ 64 := Nat.le_trans r.few (Nat.pow_le_pow_right (by omega) (show i ≤ 3 by omega))
    refine wp_some.mpr (ws_seq (ws_as (wp_eL.mpr (wp_aN.mpr (wp1_of gLst_nil (wp_some.mpr ?_))))))
    refine ws_seq (ws_for (wp_any (wp_of (a := .list (rows.map setD)) (b := []) rfl (wp1_of (a := rows.map setD) rfl ?_))))
    refine ⟨fun ds2 ρ μ => ∃ (done rest : List (List Str)) (X : Slot), isV X = true ∧ done ++ rest = rows ∧ ds2 = rest.map setD ∧ (done.flatMap (ext f)).length ≤ 4 * done.length ∧ ρ = [.val (setD f), .val (.list (rows.map setD)), .val d, .val (.list ((done.flatMap (ext f)).map setD)), X, .non] ∧ μ = [], ⟨[], rows, E, hE, rfl, rfl, by simp, rfl, rfl⟩, ?_, ?_⟩
    · rintro d2 ds2 _ _ ⟨done, rest, X, hX, hdr, he, hlen, rfl, rfl⟩
      cases rest with
      | nil => simp at he
      | cons row rest =>
        simp only [List.map_cons, List.cons.injEq] at he
        obtain ⟨rfl, rfl⟩ := he
        have hrow : row ∈ rows := by rw [← hdr]; simp
        obtain ⟨q1, q2, q3⟩ := (r.mem row).mp hrow
        have hdl : done.length + 1 ≤ 64 := by rw [← hdr] at hrl; simp at hrl; omega
        have lc : mLc true (anyItems (eVar 0)) [5] (gcN 5) (tV (e2 gNotIn (eVar 5) (eVar 4))) (e2 gAdd (eVar 4) (eL gTup (aC (eVar 5) (aN)))) [.val (setD f), .val (.list (rows.map setD)), .val d, .val (.list ((done.flatMap (ext f)).map setD)), .val (setD row), .non] [] = some ((f.filter fun t => !decide (t ∈ row)).map fun t => setD (row ++ [t]), []) :=
          lc_of PyData.str (fun t => !decide (t ∈ row)) (fun t => setD (row ++ [t])) f (items_tup rfl) rfl (by omega) fun t ht => ⟨[.val (setD f), .val (.list (rows.map setD)), .val d, .val (.list ((done.flatMap (ext f)).map setD)), .val (setD row), .val (.str t)], rfl, tV_of (e2_of rfl rfl (notin_set t row)), fun _ => e2_of (x := setD row) (y := .tuple [.str t]) rfl (by simp [eL, aC, aN, eVar, gTup, szl (n := 1)]) (gAdd_set (by omega))⟩
        have el : (ext f row).length ≤ 4 := by
          unfold ext
          rw [List.length_map]
          exact Nat.le_trans (List.length_filter_le ..) hl
        have e2 : ((f.filter fun t => !decide (t ∈ row)).map fun t => setD (row ++ [t])) = (ext f row).map setD := by unfold ext; rw [List.map_map]; rfl
        rw [e2] at lc
        refine wp_some.mpr (ws_as (wp_e2.mpr (wp_of (a := .list ((done.flatMap (ext f)).map setD)) (b := []) rfl (wp_eF.mpr (wp_of lc (wp1_of (gAdd_list (by rw [List.length_map, List.length_map]; omega)) (wp_some.mpr ?_)))))))
        refine ⟨done ++ [row], rest, .val (setD row), rfl, by simpa using hdr, rfl, ?_, ?_, rfl⟩
        · rw [List.flatMap_append, List.length_append, List.length_append]
          simp only [List.flatMap_cons, List.flatMap_nil, List.append_nil, List.length_cons, List.length_nil]
          omega
        · rw [List.flatMap_append, List.map_append]
          simp [truncS]
    · rintro _ _ ⟨done, rest, X, hX, hdr, he, hlen, rfl, rfl⟩
      have hr : rest = [] := by
        cases rest with
        | nil => rfl
        | cons => simp at he
      subst hr
      rw [List.append_nil] at hdr
      subst hdr
      refine ws_as (wp_of (a := .list ((done.flatMap (ext f)).map setD)) (b := []) rfl (wp_some.mpr ?_))
      exact ⟨i + 1, done.flatMap (ext f), .val d, .val (.list ((done.flatMap (ext f)).map setD)), X, rfl, rfl, hX, by omega, r.next hlen, by cases X <;> simp_all [truncS, isV], rfl⟩
  · rintro _ _ ⟨i, rows, L, T, E, hL, hT, hE, hi, r, rfl, rfl⟩
    simp only [List.length_nil] at hi
    have : i = f.length := by omega
    subst this
    exact ws_ret0 (wp_of (a := .list (rows.map setD)) (b := []) rfl ⟨rfl, rows, rfl, r⟩)
theorem grow_snoc (m : M2) : ∀ (a pre : List Str) (t : Str), grow m pre (a ++ [t]) = grow m pre a ++ [(t, bel m (pre ++ a ++ [t]) - bel m (pre ++ a))]
  | [], pre, t => by simp [grow]
  | x :: a, pre, t => by
    rw [List.cons_append, grow, grow_snoc m a, grow, List.cons_append]
    simp
theorem dPut_snoc {kvs : List (Str × D)} {k : Str} {d : D} (h : k ∉ kvs.map (·.1)) : dPut kvs k d = kvs ++ [(k, d)] := by
  unfold dPut
  rw [if_neg]
  intro z
  obtain ⟨p, hp, e⟩ := List.any_eq_true.mp z
  exact h (List.mem_map.mpr ⟨p, hp, of_decide_eq_true e⟩)
theorem dGet_val (s : Int) : ∀ (l : LI) (t : Str), t ∈ l.map (·.1) → dGet (l.map fun p => (p.1, frac s p.2)) t = some (frac s (val l t))
  | [], _, h => by cases h
  | p :: l, t, h => by
    rw [List.map_cons]
    unfold dGet val
    by_cases e : p.1 = t
    · simp [e]
    · simp only [e, if_false]
      refine dGet_val s l t ?_
      rcases List.mem_cons.mp (by simpa using h : t ∈ p.1 :: l.map (·.1)) with z | z
      · exact absurd z.symm e
      · exact z
theorem dGet_zip {H : Str → D} : ∀ (f : List Str) (t : Str), t ∈ f → dGet (f.zip (f.map H)) t = some (H t)
  | [], _, h => by cases h
  | x :: f, t, h => by
    rw [List.map_cons, List.zip_cons_cons]
    unfold dGet
    by_cases e : x = t
    · simp [e]
    · simp only [e, if_false]
      exact dGet_zip f t ((List.mem_cons.mp h).resolve_left fun z => e z.symm)
theorem ws_parCV {n : Nat} {i j : Nat} {mn : MN} {mb : ME} {ρ : List Slot} {μ : List Cell} {Q : Fl → Prop} (h : wp (mn ρ μ) fun c μ1 => wp (mb ρ μ1) fun d μ2 => flat d = true ∧ Q (.next ((ρ.set i (.own μ2.length)).set j (.val d)) (μ2 ++ [c]))) : wp1 (sParCV i j mn mb n ρ μ) Q := by
  obtain ⟨c, m1, e1, d, m2, e2, hf, q⟩ := h
  refine ⟨_, ?_, q⟩
  unfold sParCV
  rw [e1, Option.bind_some]
  dsimp only
  rw [e2, Option.bind_some]
  dsimp only
  rw [if_pos hf]
theorem ws_parVC {n : Nat} {i j : Nat} {mn : MN} {ma : ME} {ρ : List Slot} {μ : List Cell} {Q : Fl → Prop} (h : wp (ma ρ μ) fun d μ1 => wp (mn ρ μ1) fun c μ2 => Q (.next ((ρ.set i (.val d)).set j (.own μ2.length)) (μ2 ++ [c]))) : wp1 (sParVC i j ma mn n ρ μ) Q := by
  obtain ⟨d, m1, e1, c, m2, e2, q⟩ := h
  refine ⟨_, ?_, q⟩
  unfold sParVC
  rw [e1, Option.bind_some]
  dsimp only
  rw [e2, Option.bind_some]
theorem ws_newC {n : Nat} {i : Nat} {mn : MN} {ρ : List Slot} {μ : List Cell} {Q : Fl → Prop} (h : wp (mn ρ μ) fun c μ2 => Q (.next (ρ.set i (.own μ2.length)) (μ2 ++ [c]))) : wp1 (sNewC i mn n ρ μ) Q := by
  obtain ⟨c, m2, e2, q⟩ := h
  refine ⟨_, ?_, q⟩
  unfold sNewC
  rw [e2, Option.bind_some]
def fracF (s : Int) (l : LI) : List (Str × D) := l.map fun p => (p.1, frac s p.2)
theorem flat_fracF (s : Int) : ∀ l : LI, flatA ((fracF s l).map (·.2)) = true
  | [] => rfl
  | p :: l => by
    have ih := flat_fracF s l
    simp [fracF, flatA, flat_frac] at ih ⊢
    exact ih
theorem sortT_strs {xs : List Str} (nd : xs.Nodup) (hl : xs.length < 65536) : ∃ ys : List Str, ys.Perm xs ∧ gSortT (setD xs) = some (.list (ys.map .str)) := by
  obtain ⟨ys, h1, h2, _⟩ := sort_strs xs nd
  refine ⟨ys, h1, ?_⟩
  unfold gSortT setD
  dsimp only
  rw [strs_of, Option.bind_some, if_pos (szl (n := xs.length) (by omega)), h2]
theorem grown_spec {f : List Str} {s : Int} {m : M2} (q : Mass f s m) (hfl : f.length ≤ 5) {o : List Str} (hf : f.Nodup) (ho : Ord f o) :
    F_law_grown [.val (setD f), .val (massD s m), .val (setD o)] [] = some (.tuple (f.map fun t => frac s (val (grow m [] o) t)), []) := by
  suffices h : wp (F_law_grown [.val (setD f), .val (massD s m), .val (setD o)] []) fun d μ => μ = [] ∧ d = .tuple (f.map fun t => frac s (val (grow m [] o) t)) by
    obtain ⟨d, m, e, rfl, rfl⟩ := h
    exact e
  have hol : o.length ≤ 5 := by rw [(perm_of ho.nd hf ho.mem).length_eq]; exact hfl
  refine wp_body ?_
  unfold m_law_grown
  refine ws_seq (ws_parCV (wp_of (a := .dct []) (b := []) rfl (wp_of (a := setD []) (b := []) tup0_of ⟨rfl, ?_⟩)))
  refine ws_seq (ws_for (wp_any (wp_of (a := setD o) (b := [.dct []]) rfl (wp1_of (a := o.map .str) rfl ?_))))
  refine ⟨fun ds ρ μ => ∃ (pre rest ys : List Str) (L M : Slot), isV L = true ∧ isV M = true ∧ pre ++ rest = o ∧ ds = rest.map .str ∧ ys.Nodup ∧ (∀ x, x ∈ ys ↔ x ∈ pre) ∧ ρ = [.val (setD f), .val (massD s m), .val (setD o), L, .own 0, .val (setD ys), M] ∧ μ = [.dct (fracF s (grow m [] pre))], ⟨[], o, [], .non, .non, rfl, rfl, rfl, rfl, List.nodup_nil, fun x => Iff.rfl, rfl, rfl⟩, ?_, ?_⟩
  · rintro d ds _ _ ⟨pre, rest, ys, L, M, hL, hM, hpr, hd, nd, hys, rfl, rfl⟩
    cases rest with
    | nil => simp at hd
    | cons t rest =>
      simp only [List.map_cons, List.cons.injEq] at hd
      obtain ⟨rfl, rfl⟩ := hd
      have no := ho.nd
      rw [← hpr] at no
      have ht : t ∉ pre := fun h => (List.nodup_append.mp no).2.2 t h t (List.mem_cons_self ..) rfl
      have hyl : ys.length ≤ 5 := by
        have := sub_len ys pre nd fun x hx => (hys x).mp hx
        rw [← hpr] at hol
        simp at hol
        omega
      have nd1 : (ys ++ [t]).Nodup := List.nodup_append.mpr ⟨nd, by simp, fun a ha b hb e => ht (by rw [← List.mem_singleton.mp hb, ← e]; exact (hys a).mp ha)⟩
      obtain ⟨zs, hz1, hz2⟩ := sortT_strs nd1 (by simp; omega)
      have hzs : ∀ x, x ∈ zs ↔ x ∈ pre ++ [t] := fun x => by rw [hz1.mem_iff, List.mem_append, List.mem_append, hys x]
      refine wp_some.mpr ?_
      show wp1 (sSeq _ _ 0 [.val (setD f), .val (massD s m), .val (setD o), .val (.str t), .own 0, .val (setD ys), M] [.dct (fracF s (grow m [] pre))]) _
      have a1 : e2 gAdd (eVar 5) (eL gTup (aC (eVar 3) (aN))) [.val (setD f), .val (massD s m), .val (setD o), .val (.str t), .own 0, .val (setD ys), M] [.dct (fracF s (grow m [] pre))] = some (setD (ys ++ [t]), [.dct (fracF s (grow m [] pre))]) :=
        e2_of (x := setD ys) (y := .tuple [.str t]) rfl (by simp [eL, aC, aN, eVar, gTup, szl (n := 1)]) (gAdd_set (by omega))
      refine ws_seq (ws_as (wp_of (eL1_of (g := gTuple) (y := setD zs) (eL1_of (g := gSortT) a1 hz2) rfl) (wp_some.mpr ?_)))
      have b1 : F_law_belief [.val (massD s m), .val (setD zs)] [] = some (frac s (bel m (pre ++ [t])), []) := by
        rw [lbelief_spec q.ok zs]
        rw [show (sumOf m fun y => sub y zs) = bel m (pre ++ [t]) from bel_congr m hzs]
      have b2 : F_law_belief [.val (massD s m), .val (setD ys)] [] = some (frac s (bel m pre), []) := by
        rw [lbelief_spec q.ok ys]
        rw [show (sumOf m fun y => sub y ys) = bel m pre from bel_congr m hys]
      have b3 := callm2 (F := F_law_less) (a := eCall 2 F_law_belief (rV (eVar 1) (rV (eVar 6) (rN)))) (b := eCall 2 F_law_belief (rV (eVar 1) (rV (eVar 5) (rN)))) (ρ := [.val (setD f), .val (massD s m), .val (setD o), .val (.str t), .own 0, .val (setD ys), .val (setD zs)]) (μ := [.dct (fracF s (grow m [] pre))]) (callm2 rfl rfl b1) (callm2 rfl rfl b2) (lless_spec q.ok.pos q.ok.low)
      have kn : t ∉ (fracF s (grow m [] pre)).map (·.1) := by
        unfold fracF
        rw [List.map_map, show ((fun p : Str × D => p.1) ∘ fun p : Str × Int => (p.1, frac s p.2)) = fun p => p.1 from rfl, grow_keys]
        exact ht
      have hkl : (fracF s (grow m [] pre)).length < sizeLine := by
        unfold fracF
        rw [List.length_map, ← List.length_map (f := fun p : Str × Int => p.1), grow_keys]
        have : pre.length < 65535 := by rw [← hpr] at hol; simp at hol; omega
        exact Nat.lt_of_lt_of_le this (szl (n := 65535) (by omega))
      refine ws_seq (ws_putD (wp_of b3 (wp_of (a := .str t) (b := [.dct (fracF s (grow m [] pre))]) rfl ⟨t, 0, fracF s (grow m [] pre), rfl, rfl, hkl, ?_⟩)))
      have hp : (dPut (fracF s (grow m [] pre)) t (frac s (bel m (pre ++ [t]) - bel m pre))) = fracF s (grow m [] (pre ++ [t])) := by
        rw [dPut_snoc kn, grow_snoc]
        simp [fracF]
      rw [hp]
      refine ws_as (wp_of (a := setD zs) (b := [.dct (fracF s (grow m [] (pre ++ [t])))]) rfl (wp_some.mpr ?_))
      exact ⟨pre ++ [t], rest, zs, .val (.str t), .val (setD zs), rfl, rfl, by simpa using hpr, rfl, hz1.nodup_iff.mpr nd1, hzs, by simp [truncS], by simp⟩
  · rintro _ _ ⟨pre, rest, ys, L, M, hL, hM, hpr, hd, nd, hys, rfl, rfl⟩
    have hr : rest = [] := by
      cases rest with
      | nil => rfl
      | cons => simp at hd
    subst hr
    rw [List.append_nil] at hpr
    subst hpr
    have lc : mLc true (anyItems (eVar 0)) [3] (gcN 3) (tTrue) (eGetD 4 (eVar 3)) [.val (setD f), .val (massD s m), .val (setD pre), L, .own 0, .val (setD ys), M] [.dct (fracF s (grow m [] pre))] = some (f.map fun t => frac s (val (grow m [] pre) t), [.dct (fracF s (grow m [] pre))]) :=
      lc_all PyData.str (fun t => frac s (val (grow m [] pre) t)) f (items_tup rfl) (by simp [noOwn, isOwn]; cases L <;> simp_all [isV]) (by omega) fun t ht => ⟨[.val (setD f), .val (massD s m), .val (setD pre), .val (.str t), .own 0, .val (setD ys), M], rfl, getD_of (s := t) rfl rfl (dGet_val s (grow m [] pre) t (by rw [grow_keys]; exact (ho.mem t).mpr ht))⟩
    exact ws_ret0 (wp_of (eL1_of (g := gTuple) (eF_of lc) rfl) ⟨rfl, rfl⟩)
def w1 : List Str := words.take 24
def w2 : List Str := words.drop 24
theorem split1 : gSplit (.str "all act acts believe book case doubt frame hear if is join least may none not of open or quit set sets share strike") (.str " ") = some (.list (w1.map .str)) := by
  unfold gSplit
  dsimp only
  rw [if_pos ⟨by rfl, szl (n := ("all act acts believe book case doubt frame hear if is join least may none not of open or quit set sets share strike" : Str).length + 2) (by decide)⟩]
  rw [show Txt.split ("all act acts believe book case doubt frame hear if is join least may none not of open or quit set sets share strike" : Str) (" " : Str) = w1 from by decide +kernel]
theorem split2 : gSplit (.str "tell then undo weight witness worth yes") (.str " ") = some (.list (w2.map .str)) := by
  unfold gSplit
  dsimp only
  rw [if_pos ⟨by rfl, szl (n := ("tell then undo weight witness worth yes" : Str).length + 2) (by decide)⟩]
  rw [show Txt.split ("tell then undo weight witness worth yes" : Str) (" " : Str) = w2 from by decide +kernel]
theorem w12 : w1 ++ w2 = words := List.take_append_drop ..
/-- a text and a letter -/
def wl (x : Str) (c : Nat) : Str := x ++ (⟨#[c]⟩ : Str)
theorem wl_cps (x : Str) (c : Nat) : (wl x c).cps.toList = x.cps.toList ++ [c] := by
  show (x.cps ++ #[c]).toList = _
  simp
theorem wl_len (x : Str) (c : Nat) : (wl x c).length = x.length + 1 := by
  have h := congrArg List.length (wl_cps x c)
  simpa [Str.length] using h
theorem wl_lets {x : Str} (h : Lets x) {c : Nat} (hc : c ∈ letters.cps.toList) : Lets (wl x c) := fun y hy => by
  rw [wl_cps] at hy
  rcases List.mem_append.mp hy with z | z
  · exact h y z
  · rw [List.mem_singleton.mp z]; exact hc
theorem words_last : ∀ w ∈ words, ∀ i : Nat, i < 4 → w.cps.toList.getLast? ≠ some (97 + i) := by decide
theorem wl_word (x : Str) {i : Nat} (hi : i < 4) : wl x (97 + i) ∉ words := fun h => words_last _ h i hi (by rw [wl_cps]; simp)
theorem wl_inj {x : Str} {c d : Nat} (h : wl x c = wl x d) : c = d := by
  have := congrArg (fun s : Str => s.cps.toList) h
  simp only [wl_cps] at this
  simpa using this
theorem wl_free (x : Str) {found : List Str} (hl : found.length < 4) : ∃ i, i < 4 ∧ wl x (97 + i) ∉ found := by
  apply Classical.byContradiction
  intro no
  have all : ∀ i, i < 4 → wl x (97 + i) ∈ found := fun i hi => Classical.byContradiction fun z => no ⟨i, hi, z⟩
  have h := nodup_le ((List.range 4).map fun i => wl x (97 + i)) found (by
    rw [List.Nodup, List.pairwise_map]
    exact List.Pairwise.imp (fun {a b} hne e => hne (by have := wl_inj e; omega)) List.nodup_range) fun y hy => by
      obtain ⟨i, hi, rfl⟩ := List.mem_map.mp hy
      exact all i (List.mem_range.mp hi)
  simp at h
  omega
/-- the names that may be taken -/
def cands (x : Str) : List Str := x :: letters.cps.toList.map fun c => wl (L2.cutS x none (some 7)) c
theorem cands_ok {x : Str} (hx : Lets x) (h1 : 1 ≤ x.length) (h8 : x.length ≤ 8) : ∀ y ∈ cands x, Lets y ∧ 1 ≤ y.length ∧ y.length ≤ 8 := fun y hy => by
  rcases List.mem_cons.mp hy with e | e
  · rw [e]; exact ⟨hx, h1, h8⟩
  · obtain ⟨c, hc, rfl⟩ := List.mem_map.mp e
    have l : (L2.cutS x none (some 7)).length = min 7 x.length := cut_len x 7
    refine ⟨wl_lets (cut_lets hx 7) hc, ?_, ?_⟩ <;> rw [wl_len] <;> omega
theorem cands_len (x : Str) : (cands x).length = 27 := by
  unfold cands
  rw [List.length_cons, List.length_map]
  rfl
theorem lets4 : ∀ i : Nat, i < 4 → 97 + i ∈ letters.cps.toList := by decide
theorem lc_ofF {α : Type} {mi : MA} {vs : List Nat} {g : MG} {t : MT} {e : ME} {ρ : List Slot} {μ : List Cell} (enc : α → D) (b : α → Bool) (f : α → D) (xs : List α) (hi : mi ρ μ = some (xs.map enc, μ)) (hn : noOwn ρ vs = true) (hfl : flatA (xs.map enc) = true) (hl : xs.length < 65536)
    (h : ∀ x ∈ xs, ∃ ρ', g (enc x) (wipeD ρ vs) μ = some (ρ', μ) ∧ t ρ' μ = some (b x, μ) ∧ (b x = true → e ρ' μ = some (f x, μ))) : mLc false mi vs g t e ρ μ = some ((xs.filter b).map f, μ) := by
  unfold mLc
  rw [hi, Option.bind_some]
  show (if (noOwn ρ vs && (false || flatA (xs.map enc)) && decide ((xs.map enc).length ≤ sizeLine)) = true then lcD g t e (wipeD ρ vs) (xs.map enc) μ else none) = _
  rw [hn, hfl, len_map_sz hl, lcD_map enc b f xs h]
  rfl
theorem lc_allF {α : Type} {mi : MA} {vs : List Nat} {g : MG} {e : ME} {ρ : List Slot} {μ : List Cell} (enc : α → D) (f : α → D) (xs : List α) (hi : mi ρ μ = some (xs.map enc, μ)) (hn : noOwn ρ vs = true) (hfl : flatA (xs.map enc) = true) (hl : xs.length < 65536)
    (h : ∀ x ∈ xs, ∃ ρ', g (enc x) (wipeD ρ vs) μ = some (ρ', μ) ∧ e ρ' μ = some (f x, μ)) : mLc false mi vs g tTrue e ρ μ = some (xs.map f, μ) := by
  have := lc_ofF (t := tTrue) enc (fun _ => true) f xs hi hn hfl hl fun x hx => by
    obtain ⟨ρ', h1, h2⟩ := h x hx
    exact ⟨ρ', h1, rfl, fun _ => h2⟩
  rwa [filter_tt] at this
theorem flat_chars : ∀ cs : List Nat, flatA (cs.map fun c => PyData.str ⟨#[c]⟩) = true
  | [] => rfl
  | c :: cs => by simp [flatA, flat, flat_chars cs]
/-- the names that are free -/
theorem free_spec {x : Str} {found : List Str} {A B C E : Slot} {p : Cell} (h8 : x.length ≤ 8) (hfl : found.length < 4) :
    mLc false (anyItems (e2 gAdd (eL gLst (aC (eVar 6) (aN))) (eF (mLc false (anyItems (eC (.str "abcdefghijklmnopqrstuvwxyz"))) [9] (gcN 9) (tTrue) (e2 gAdd (eSl (eVar 6) (pN) (pS (eC (.int 7)))) (eVar 9)))))) [8] (gcN 8) (tV (e2 gNotIn (eVar 8) (e2 gAdd (eVar 4) (eOwn 5)))) (eVar 8)
      [.own 0, A, B, C, .val (.list (words.map .str)), .own 1, .val (.str x), E, .non, .non] [p, .lst (found.map .str)] = some (((cands x).filter fun y => !decide (y ∈ words ++ found)).map .str, [p, .lst (found.map .str)]) := by
  have zx : x.length ≤ sizeLine := szl (n := x.length) (by omega)
  have cut : gSl (.str x) none (some 7) = some (.str (L2.cutS x none (some 7))) := by rw [gSl, if_pos zx]
  have i1 : mLc false (anyItems (eC (.str "abcdefghijklmnopqrstuvwxyz"))) [9] (gcN 9) (tTrue) (e2 gAdd (eSl (eVar 6) (pN) (pS (eC (.int 7)))) (eVar 9)) [.own 0, A, B, C, .val (.list (words.map .str)), .own 1, .val (.str x), E, .non, .non] [p, .lst (found.map .str)] = some (letters.cps.toList.map fun c => .str (wl (L2.cutS x none (some 7)) c), [p, .lst (found.map .str)]) :=
    lc_allF (fun c : Nat => .str ⟨#[c]⟩) (fun c => .str (wl (L2.cutS x none (some 7)) c)) letters.cps.toList (items_str (x := letters) rfl) rfl (flat_chars _) (by decide) fun c hc => ⟨[.own 0, A, B, C, .val (.list (words.map .str)), .own 1, .val (.str x), E, .non, .val (.str ⟨#[c]⟩)], rfl, by
      have l : (L2.cutS x none (some 7)).length = min 7 x.length := cut_len x 7
      have z : (L2.cutS x none (some 7)).length + 1 ≤ sizeLine := szl (n := (L2.cutS x none (some 7)).length + 1) (by omega)
      have s1 : eSl (eVar 6) (pN) (pS (eC (.int 7))) [.own 0, A, B, C, .val (.list (words.map .str)), .own 1, .val (.str x), E, .non, .val (.str ⟨#[c]⟩)] [p, .lst (found.map .str)] = some (.str (L2.cutS x none (some 7)), [p, .lst (found.map .str)]) := by
        simp [eSl, eVar, pN, pS, eC, cut]
      exact e2_of s1 (y := .str ⟨#[c]⟩) rfl (by rw [gAdd, if_pos (by exact z)]; rfl)⟩
  have i2 : e2 gAdd (eL gLst (aC (eVar 6) (aN))) (eF (mLc false (anyItems (eC (.str "abcdefghijklmnopqrstuvwxyz"))) [9] (gcN 9) (tTrue) (e2 gAdd (eSl (eVar 6) (pN) (pS (eC (.int 7)))) (eVar 9)))) [.own 0, A, B, C, .val (.list (words.map .str)), .own 1, .val (.str x), E, .non, .non] [p, .lst (found.map .str)] = some (.list ((cands x).map .str), [p, .lst (found.map .str)]) := by
    refine e2_of (list1_of (x := .str x) rfl) (eF_of i1) ?_
    rw [gAdd_list (by simp; decide)]
    unfold cands
    rw [List.map_cons, List.map_map]
    rfl
  have bf : ∀ Y : Slot, e2 gAdd (eVar 4) (eOwn 5) [.own 0, A, B, C, .val (.list (words.map .str)), .own 1, .val (.str x), E, Y, .non] [p, .lst (found.map .str)] = some (.list ((words ++ found).map .str), [p, .lst (found.map .str)]) := fun Y => by
    refine e2_of (x := .list (words.map .str)) (y := .list (found.map .str)) rfl rfl ?_
    rw [gAdd_list (by
      have : words.length = 31 := by decide
      rw [List.length_map, List.length_map]; omega), List.map_append]
  exact lc_ofF PyData.str (fun y => !decide (y ∈ words ++ found)) PyData.str (cands x) (items_list i2) rfl (flat_strs _) (by rw [cands_len]; decide) fun y hy => ⟨[.own 0, A, B, C, .val (.list (words.map .str)), .own 1, .val (.str x), E, .val (.str y), .non], rfl, tV_of (e2_of (x := .str y) rfl (bf _) (anyF_strs_list y (words ++ found))), fun _ => rfl⟩
theorem free_one {x : Str} {found : List Str} (hx : Lets x) (h1 : 1 ≤ x.length) (h8 : x.length ≤ 8) (hfl : found.length < 4) : ∃ z, Nm z ∧ z ∉ found ∧ gIx (.list (((cands x).filter fun y => !decide (y ∈ words ++ found)).map .str)) (.int 0) = some (.str z) := by
  obtain ⟨i, hi, hf⟩ := wl_free (L2.cutS x none (some 7)) hfl
  have hm : wl (L2.cutS x none (some 7)) (97 + i) ∈ (cands x).filter fun y => !decide (y ∈ words ++ found) := by
    refine List.mem_filter.mpr ⟨List.mem_cons_of_mem _ (List.mem_map.mpr ⟨97 + i, lets4 i hi, rfl⟩), ?_⟩
    have := wl_word (L2.cutS x none (some 7)) hi
    simp [this, hf]
  cases hj : (cands x).filter fun y => !decide (y ∈ words ++ found) with
  | nil => rw [hj] at hm; cases hm
  | cons z zs =>
    have mz : z ∈ (cands x).filter fun y => !decide (y ∈ words ++ found) := by rw [hj]; exact List.mem_cons_self ..
    obtain ⟨m1, m2⟩ := List.mem_filter.mp mz
    obtain ⟨c1, c2, c3⟩ := cands_ok hx h1 h8 z m1
    have m2 : z ∉ words ++ found := by simpa using m2
    exact ⟨z, ⟨c2, c3, c1, fun h => m2 (List.mem_append_left _ h)⟩, fun h => m2 (List.mem_append_right _ h), by simp [gIx, L2.atI, L2.ixN]⟩
theorem seven_lets {x : Str} (hx : Lets x) (h1 : 1 ≤ x.length) (h8 : x.length ≤ 8) : ∀ y ∈ (["a", "b", "frames", x, x, x, x] : List Str), Lets y ∧ 1 ≤ y.length ∧ y.length ≤ 8 := fun y hy => by
  have a : Lets "a" ∧ 1 ≤ ("a" : Str).length ∧ ("a" : Str).length ≤ 8 := by decide
  have b : Lets "b" ∧ 1 ≤ ("b" : Str).length ∧ ("b" : Str).length ≤ 8 := by decide
  have c : Lets "frames" ∧ 1 ≤ ("frames" : Str).length ∧ ("frames" : Str).length ≤ 8 := by decide
  simp only [List.mem_cons, List.not_mem_nil, or_false] at hy
  rcases hy with e | e | e | e | e | e | e <;> rw [e] <;> first | exact a | exact b | exact c | exact ⟨hx, h1, h8⟩
theorem wp_lframe {p : Cell} (hp : Pool p) {Q : D → List Cell → Prop} (k : ∀ f p', Pool p' → Frame f → f.length ≤ 4 → Q (setD f) [p']) : wp (F_law_frame [.own 0, .val (.int 4)] [p]) Q := by
  refine wp_body ?_
  unfold m_law_frame
  refine ws_seq (ws_as (wp_e2.mpr (wp_eC.mpr (wp_eC.mpr (wp1_of split1 (wp_some.mpr ?_))))))
  have wl31 : words.length = 31 := by decide
  have g0 : gAdd (.list (w1.map .str)) (.list (w2.map .str)) = some (.list (words.map .str)) := by
    rw [gAdd_list (by rw [List.length_map, List.length_map]; decide), ← List.map_append, w12]
  refine ws_seq (ws_parVC (wp_e2.mpr (wp_of (a := .list (w1.map .str)) (b := [p]) rfl (wp_e2.mpr (wp_eC.mpr (wp_eC.mpr (wp1_of split2 (wp1_of g0 (wp_of (a := .lst []) (b := [p]) (by simp [nL, mLst, aN]) ?_)))))))))
  refine ws_seq (ws_for (wp_rng1.mpr (wp_aC.mpr (wp_e2.mpr (wp_eC.mpr ?_)))))
  refine wp_callP rfl (noBo0 _ _) (wp_of (a := .int 4) (b := [p, .lst []]) rfl ⟨p, rfl, ?_⟩)
  refine wp_say hp (by omega) (by omega) fun r p1 hp1 r0 r1 => ⟨p1, rfl, hp1, ?_⟩
  refine wp1_of (a := .int (1 + r)) rfl (wp_aN.mpr ⟨1 + r, rfl, ?_, ?_⟩)
  · simp [okR]; omega
  obtain ⟨ds', hd1, hd2⟩ := rng_ints (1 + r).toNat
  rw [hd2]
  refine ⟨fun ds ρ μ => ∃ (found : List Str) (L W S : Slot) (p : Cell), isV L = true ∧ isV W = true ∧ isV S = true ∧ Pool p ∧ (∀ x ∈ found, Nm x) ∧ found.Nodup ∧ found.length + ds.length = (1 + r).toNat ∧ ρ = [.own 0, .val (.int 4), .val (.list (w1.map .str)), L, .val (.list (words.map .str)), .own 1, W, S, .non, .non] ∧ μ = [p, .lst (found.map .str)], ⟨[], .non, .non, .non, p1, rfl, rfl, rfl, hp1, fun x h => (by cases h), List.nodup_nil, (by simp [hd1]), rfl, rfl⟩, ?_, ?_⟩
  · rintro d ds _ _ ⟨found, L, W, S, p, hL, hW, hS, hp, hn, nd, hl, rfl, rfl⟩
    simp only [List.length_cons] at hl
    refine wp_some.mpr (ws_seq (ws_as (wp_eC.mpr (wp_some.mpr ?_))))
    refine ws_seq (wp1.mono (Q := fun fl => ∃ (x : Str) (S' : Slot) (p' : Cell), isV S' = true ∧ Pool p' ∧ Lets x ∧ 1 ≤ x.length ∧ x.length ≤ 8 ∧ fl = .next [.own 0, .val (.int 4), .val (.list (w1.map .str)), .val d, .val (.list (words.map .str)), .own 1, .val (.str x), S', .non, .non] [p', .lst (found.map .str)]) ?_ ?_)
    · refine ws_for (wp_rng1.mpr (wp_aC.mpr (wp_e2.mpr (wp_eC.mpr (wp_callP rfl (noBo0 _ _) (wp_of (a := .list (([0, 0, 1, 2, 7] : List Int).map .int)) (b := [p, .lst (found.map .str)]) (by simp [eL, aC, aN, eC, gLst, szl (n := 5)]) ⟨p, rfl, wp_of_list hp PyData.int [0, 0, 1, 2, 7] (by decide) (by decide) fun v hv p2 hp2 => ⟨p2, rfl, hp2, wp1_of (a := .int (1 + v)) rfl (wp_aN.mpr ⟨1 + v, rfl, ?_, ?_⟩)⟩⟩))))))
      · have : 0 ≤ v ∧ v ≤ 7 := by simp at hv; omega
        simp [okR]; omega
      · have hv' : 0 ≤ v ∧ v ≤ 7 := by simp at hv; omega
        obtain ⟨es, he1, he2⟩ := rng_ints (1 + v).toNat
        rw [he2]
        refine ⟨fun es ρ μ => ∃ (x : Str) (S' : Slot) (p : Cell), isV S' = true ∧ Pool p ∧ Lets x ∧ x.length + es.length = (1 + v).toNat ∧ ρ = [.own 0, .val (.int 4), .val (.list (w1.map .str)), .val d, .val (.list (words.map .str)), .own 1, .val (.str x), S', .non, .non] ∧ μ = [p, .lst (found.map .str)], ⟨"", S, p2, hS, hp2, (fun c hc => by cases hc), by rw [List.length_map, he1]; exact Nat.zero_add _, rfl, rfl⟩, ?_, ?_⟩
        · rintro c es _ _ ⟨x, S', p, hS', hp, hx, hxl, rfl, rfl⟩
          simp only [List.length_cons] at hxl
          refine wp_some.mpr (ws_as (wp_e2.mpr (wp_of (a := .str x) (b := [p, .lst (found.map .str)]) rfl (wp_callP rfl (noBo0 _ _) (wp_eC.mpr ⟨p, rfl, wp_of_let hp fun c hc p' hp' => ⟨p', rfl, hp', ?_⟩⟩)))))
          have z : x.length + 1 ≤ sizeLine := szl (n := x.length + 1) (by omega)
          refine wp1_of (a := .str (wl x c)) (by rw [gAdd, if_pos (by exact z)]; rfl) (wp_some.mpr ?_)
          exact ⟨wl x c, .val _, p', rfl, hp', wl_lets hx hc, by rw [wl_len]; omega, rfl, rfl⟩
        · rintro _ _ ⟨x, S', p, hS', hp, hx, hxl, rfl, rfl⟩
          simp only [List.length_nil] at hxl
          exact ⟨x, S', p, hS', hp, hx, by omega, by omega, rfl⟩
    · rintro _ ⟨x, S', p3, hS', hp3, hx, hx1, hx8, rfl⟩
      refine ws_seq (ws_as (wp_callP rfl (noBo0 _ _) (wp_of (a := .list ((["a", "b", "frames", x, x, x, x] : List Str).map .str)) (b := [p3, .lst (found.map .str)]) (by simp [eL, aC, aN, eC, eVar, gLst, szl (n := 7)]) ⟨p3, rfl, wp_of_list hp3 PyData.str ["a", "b", "frames", x, x, x, x] (by simp) (by simp) fun y hy p4 hp4 => ⟨p4, rfl, hp4, wp_some.mpr ?_⟩⟩)))
      obtain ⟨hy0, hy1, hy8⟩ := seven_lets hx hx1 hx8 y hy
      obtain ⟨z, hz1, hz2, hz3⟩ := free_one (found := found) hy0 hy1 hy8 (by omega)
      refine ws_appW (k0 := 1) (xs0 := found.map .str) rfl (wp_e2.mpr (wp_eF.mpr (wp_of (free_spec (x := y) (found := found) hy8 (by omega)) (wp_eC.mpr (wp1_of hz3 ⟨1, found.map .str, rfl, rfl, ?_, rfl, ?_⟩)))))
      · rw [List.length_map]
        exact Nat.lt_of_lt_of_le (show found.length < 65535 by omega) (szl (n := 65535) (by omega))
      · refine ⟨found ++ [z], .val d, .val (.str y), S', p4, rfl, rfl, hS', hp4, fun w hw => ?_, ?_, ?_, ?_, ?_⟩
        · rcases List.mem_append.mp hw with hw | hw
          · exact hn w hw
          · rw [List.mem_singleton.mp hw]; exact hz1
        · refine List.nodup_append.mpr ⟨nd, by simp, fun a ha b hb => ?_⟩
          rw [List.mem_singleton.mp hb]
          exact fun e => hz2 (e ▸ ha)
        · simp; omega
        · cases S' <;> simp_all [truncS, isV]
        · simp
  · rintro _ _ ⟨found, L, W, S, p, hL, hW, hS, hp, hn, nd, hl, rfl, rfl⟩
    simp only [List.length_nil] at hl
    obtain ⟨ys, h1, h2, h3⟩ := sort_strs found nd
    have hlen := h1.length_eq
    refine ws_ret (wp_eL.mpr (wp_aC.mpr (wp_eL.mpr (wp_aC.mpr (wp_of (a := .list (found.map .str)) rfl (wp_aN.mpr (wp1_of (a := .list (ys.map .str)) ?_ (wp_aN.mpr (wp1_of (a := setD ys) rfl ⟨?_, ?_⟩)))))))))
    · show gSort (.list (found.map .str)) = _
      rw [gSort, if_pos (sortOk_strs found (by omega)), h2]
    · simp [flat, setD, flat_strs]
    · exact k ys p hp ⟨h3, fun x hx => hn x (h1.mem_iff.mp hx), by omega, by omega⟩ (by omega)
theorem wp_shared {p : Cell} (hp : Pool p) {n : Nat} (h1 : 1 ≤ n) (h2 : n ≤ 32) {Q : D → List Cell → Prop} (k : ∀ (rows : List Int) p', Pool p' → rows.length = n → (∀ r ∈ rows, 0 < r) → 0 < rows.sum → rows.sum < 1000 → Q (.list (rows.map (frac rows.sum))) [p']) : wp (F_law_shared [.own 0, .val (.int n)] [p]) Q := by
  refine wp_body ?_
  unfold m_law_shared
  obtain ⟨ds, hd1, hd2⟩ := rng_ints n
  refine ws_seq (ws_as (wp_eF.mpr (wp_mLc (wp_rng1.mpr (wp_aC.mpr (wp_of (a := .int n) rfl (wp_aN.mpr ⟨(n : Int), rfl, by simp [okR]; omega, ?_⟩)))))))
  rw [Int.toNat_natCast, hd2]
  refine ⟨rfl, rfl, szl (n := (ds.map PyData.int).length) (by simp; omega), ?_⟩
  refine (wp_lcN (fun μ => ∃ p, Pool p ∧ μ = [p]) PyData.int PyData.int (fun r : Int => 1 ≤ r ∧ r ≤ 30) ds [p] ⟨p, hp, rfl⟩ ?_).mono ?_
  · rintro x hx _ ⟨p, hp, rfl⟩
    refine wp_of (a := [.own 0, .val (.int n), .non, .val (.int x), .non]) (b := [p]) rfl ?_
    refine wp_e2.mpr (wp_eC.mpr (wp_callP rfl (noBo0 _ _) (wp_callP rfl (noBo0 _ _) (wp_of (a := .list (([1, 2, 4, 9] : List Int).map .int)) (b := [p]) (by simp [eL, aC, aN, eC, gLst, szl (n := 4)]) ⟨p, rfl, wp_of_list hp PyData.int [1, 2, 4, 9] (by decide) (by decide) fun v hv p1 hp1 => ⟨p1, rfl, hp1, p1, rfl, ?_⟩⟩))))
    have hv' : 1 ≤ v ∧ v ≤ 9 := by simp at hv; omega
    exact wp_say hp1 (by omega) (by omega) fun r p2 hp2 r0 r1 => ⟨p2, rfl, hp2, wp1_of (a := .int (1 + r)) rfl ⟨⟨p2, hp2, rfl⟩, 1 + r, rfl, by omega⟩⟩
  · rintro _ _ ⟨⟨p1, hp1, rfl⟩, rows, hr1, rfl, hr2⟩
    have lo := le_sum rows 1 fun r hr => (hr2 r hr).1
    have hi := sum_le rows 30 fun r hr => (hr2 r hr).2
    have hlen : rows.length = n := by omega
    have hs : gSum (.list (rows.map .int)) = some (.int rows.sum) := by simp [gSum, ints_of]
    refine wp_some.mpr ?_
    have lc : mLc true (anyItems (eVar 2)) [4] (gcN 4) (tTrue) (eCall 2 F_law_low (rV (eVar 4) (rV (eL (gl1 gSum) (aC (eVar 2) (aN))) (rN)))) [.own 0, .val (.int n), .val (.list (rows.map .int)), .non, .non] [p1] = some (rows.map (frac rows.sum), [p1]) :=
      lc_all PyData.int (frac rows.sum) rows (items_list rfl) rfl (by omega) fun r hr => ⟨[.own 0, .val (.int n), .val (.list (rows.map .int)), .non, .val (.int r)], rfl,
        callm2 (x := .int r) (x' := .int rows.sum) rfl (eL1_of (x := .list (rows.map .int)) rfl hs) (low_spec (n := r) (m := rows.sum) (by omega) (by omega))⟩
    refine ws_ret0 (wp_eF.mpr (wp_of lc ?_))
    exact k rows p1 hp1 hlen (fun r hr => by have := (hr2 r hr).1; omega) (by omega) (by omega)
abbrev KV2 := List (List Str × D)
theorem sGet_map {k : List Str} {d : D} : ∀ (kvs : KV2) (y : List Str), (sGet (kvs.map fun p => if p.1 = k then (p.1, d) else p) y).isSome = (sGet kvs y).isSome
  | [], _ => rfl
  | p :: kvs, y => by
    have ih := sGet_map (k := k) (d := d) kvs y
    rw [List.map_cons]
    unfold sGet
    by_cases h : p.1 = k
    · rw [if_pos h]
      by_cases e : p.1 = y
      · simp [e]
      · simp only [e, if_false]; exact ih
    · rw [if_neg h]
      by_cases e : p.1 = y
      · simp [e]
      · simp only [e, if_false]; exact ih
theorem sGet_app {k : List Str} {d : D} : ∀ (kvs : KV2) (y : List Str), (sGet (kvs ++ [(k, d)]) y).isSome = ((sGet kvs y).isSome || decide (k = y))
  | [], y => by
    by_cases h : k = y <;> simp [sGet, h]
  | p :: kvs, y => by
    have ih := sGet_app (k := k) (d := d) kvs y
    rw [List.cons_append]
    unfold sGet
    by_cases e : p.1 = y
    · simp [e]
    · simp only [e, if_false]; exact ih
theorem sGet_any {k : List Str} : ∀ (kvs : KV2), (kvs.any fun p => decide (p.1 = k)) = (sGet kvs k).isSome
  | [] => rfl
  | p :: kvs => by
    have ih := sGet_any (k := k) kvs
    rw [List.any_cons]
    unfold sGet
    by_cases e : p.1 = k
    · simp [e]
    · simp only [e, if_false, decide_false, Bool.false_or]; exact ih
theorem sPut_self (kvs : KV2) (k : List Str) (d : D) : (sGet (sPut kvs k d) k).isSome = true := by
  unfold sPut
  rw [sGet_any]
  split
  · rename_i h; rw [sGet_map]; exact h
  · rw [sGet_app]; simp
theorem sPut_keep (kvs : KV2) (k : List Str) (d : D) {y : List Str} (h : (sGet kvs y).isSome = true) : (sGet (sPut kvs k d) y).isSome = true := by
  unfold sPut
  split
  · rw [sGet_map]; exact h
  · rw [sGet_app, h]; rfl
theorem sPut_len (kvs : KV2) (k : List Str) (d : D) : (sPut kvs k d).length ≤ kvs.length + 1 := by
  unfold sPut
  split
  · simp
  · simp
theorem keyS_set (x : List Str) : keyS (setD x) = some x := strs_of x
theorem ws_putS {n i : Nat} {mk mv : ME} {ρ : List Slot} {μ : List Cell} {Q : Fl → Prop} (h : wp (mv ρ μ) fun d μ1 => wp (mk ρ μ1) fun k μ2 => ∃ s c kvs, keyS k = some s ∧ cellS ρ μ2 i = some (c, kvs) ∧ kvs.length < sizeLine ∧ Q (.next ρ (μ2.set c (.dcs (sPut kvs s d))))) : wp1 (sPutS i mk mv n ρ μ) Q := by
  obtain ⟨d, m1, e1, k, m2, e2, s, c, kvs, h1, h2, h3, q⟩ := h
  refine ⟨_, ?_, q⟩
  unfold sPutS
  rw [e1, Option.bind_some]
  dsimp only
  rw [e2, Option.bind_some]
  dsimp only
  rw [h1, Option.bind_some, h2, Option.bind_some]
  dsimp only
  rw [if_pos h3]
theorem inS_eq {m : ME} {i c : Nat} {ρ : List Slot} {μ : List Cell} {x : List Str} {kvs : KV2} (h : m ρ μ = some (setD x, μ)) (hc : cellS ρ μ i = some (c, kvs)) : eInS false m i ρ μ = some (.bool (sGet kvs x).isSome, μ) := by
  unfold eInS
  rw [h, Option.bind_some]
  dsimp only
  rw [keyS_set, Option.bind_some, hc]
  rfl
theorem small_lt {n : Nat} (h : n < 65535) : n < sizeLine := Nat.lt_of_lt_of_le h (szl (n := 65535) (by omega))
theorem wp_lmasses {p : Cell} (hp : Pool p) {f : List Str} (hf : Frame f) {Q : D → List Cell → Prop} (k : ∀ (s : Int) (m : List (List Str × Int)) p', Pool p' → Mass f s m → s < 1000 → Q (massD s m) [p']) : wp (F_law_masses [.own 0, .val (setD f)] [p]) Q := by
  obtain ⟨ys, hys, o⟩ := sets_spec hf.inc hf.few
  have hfew := hf.few
  have hone := hf.one
  refine wp_body ?_
  unfold m_law_masses
  have d1 : gSl (.list (ys.map setD)) (some 1) none = some (.list ((ys.drop 1).map setD)) := by rw [gSl, drop1, List.map_drop]
  have dl : (ys.drop 1).length ≤ 32 := by
    have := o.few
    simp
    omega
  have dn : 0 < (ys.drop 1).length := by
    have h2 : 2 ^ 1 ≤ 2 ^ f.length := Nat.pow_le_pow_right (by omega) hone
    have := o.len
    rw [List.length_drop]
    omega
  have kof : ∀ ks, ks.Sublist (ys.drop 1) → Kept f ks := fun ks h => Kept.of o h
  refine ws_seq (ws_parVC (wp_eSl (wp_call1 (wp_of (a := setD f) (b := [p]) rfl ⟨_, hys, wp_pS (wp_eC.mpr ⟨1, rfl, wp_pN.mpr (wp1_of d1 (wp_of (a := .dcs []) (b := [p]) rfl ?_))⟩)⟩))))
  generalize ys.drop 1 = zs at *
  refine ws_seq (wp1.mono (Q := fun fl => ∃ (L : Slot) (kvs : KV2) (p' : Cell), isV L = true ∧ Pool p' ∧ kvs.length ≤ 5 ∧ (∃ y ∈ zs, (sGet kvs y).isSome = true) ∧ fl = .next [.own 0, .val (setD f), L, .non, .val (.list (zs.map setD)), .own 1, .non] [p', .dcs kvs]) ?_ ?_)
  · refine ws_for (wp_rng1.mpr (wp_aC.mpr (wp_callP rfl (noBo0 _ _) (wp_of (a := .list (([1, 2, 3, 4, 5] : List Int).map .int)) (b := [p, .dcs []]) (by simp [eL, aC, aN, eC, gLst, szl (n := 5)]) ⟨p, rfl, wp_of_list hp PyData.int [1, 2, 3, 4, 5] (by decide) (by decide) fun v hv p1 hp1 => ⟨p1, rfl, hp1, wp_aN.mpr ⟨v, rfl, ?_, ?_⟩⟩⟩))))
    · have : 1 ≤ v ∧ v ≤ 5 := by simp at hv; omega
      simp [okR]; omega
    · have hv' : 1 ≤ v ∧ v ≤ 5 := by simp at hv; omega
      obtain ⟨es, he1, he2⟩ := rng_ints v.toNat
      rw [he2]
      refine ⟨fun es ρ μ => ∃ (L : Slot) (kvs : KV2) (p' : Cell), isV L = true ∧ Pool p' ∧ kvs.length + es.length ≤ 5 ∧ (es = [] ∨ 0 < es.length) ∧ ((0 < es.length ∧ es.length = v.toNat) ∨ ∃ y ∈ zs, (sGet kvs y).isSome = true) ∧ ρ = [.own 0, .val (setD f), L, .non, .val (.list (zs.map setD)), .own 1, .non] ∧ μ = [p', .dcs kvs], ⟨.non, [], p1, rfl, hp1, by simp; omega, .inr (by simp; omega), .inl ⟨by simp; omega, by simp [he1]⟩, rfl, rfl⟩, ?_, ?_⟩
      · rintro c es _ _ ⟨L, kvs, p', hL, hp', hkl, _, hy, rfl, rfl⟩
        simp only [List.length_cons] at hkl
        refine wp_some.mpr (ws_putS (wp_eC.mpr (wp_callP rfl (noBo0 _ _) (wp_of (a := .list (zs.map setD)) (b := [p', .dcs kvs]) rfl ⟨p', rfl, wp_of_list hp' setD zs dn (by omega) fun y hyz p2 hp2 => ⟨p2, rfl, hp2, y, 1, kvs, keyS_set y, rfl, small_lt (by omega), ?_⟩⟩))))
        have sl := sPut_len kvs y (.bool true)
        exact ⟨.val c, sPut kvs y (.bool true), p2, rfl, hp2, by omega, by cases es <;> simp, .inr ⟨y, hyz, sPut_self _ _ _⟩, rfl, rfl⟩
      · rintro _ _ ⟨L, kvs, p', hL, hp', hkl, _, hy, rfl, rfl⟩
        simp only [List.length_nil] at hkl hy
        exact ⟨L, kvs, p', hL, hp', by omega, hy.resolve_left (by simp), rfl⟩
  · rintro _ ⟨L, kvs, p2, hL, hp2, hkl, hy, rfl⟩
    refine ws_seq (wp1.mono (Q := fun fl => ∃ (kvs : KV2) (p' : Cell), Pool p' ∧ (∃ y ∈ zs, (sGet kvs y).isSome = true) ∧ fl = .next [.own 0, .val (setD f), L, .non, .val (.list (zs.map setD)), .own 1, .non] [p', .dcs kvs]) ?_ ?_)
    · have nb : noBo B0 [.own 0, .val (setD f), L, .non, .val (.list (zs.map setD)), .own 1, .non] 0 = true := noBo0 _ _
      refine ws_if (wp_tV.mpr (wp_e2.mpr (wp_drawS hp2 rfl nb (by omega) (by omega) fun r p3 hp3 r0 r1 => wp_eC.mpr (wp1_test (gEq_int r 0) ⟨fun _ => ?_, fun _ => ws_nil ⟨kvs, p3, hp3, hy, rfl⟩⟩))))
      refine ws_putS (wp_eC.mpr (wp_of (a := setD f) (b := [p3, .dcs kvs]) rfl ⟨f, 1, kvs, keyS_set f, rfl, small_lt (by omega), ?_⟩))
      obtain ⟨y, hyz, hys⟩ := hy
      exact ⟨sPut kvs f (.bool true), p3, hp3, ⟨y, hyz, sPut_keep _ _ _ hys⟩, rfl⟩
    · clear hy hkl hp2 p2 kvs
      rintro _ ⟨kvs, p3, hp3, ⟨y, hyz, hys⟩, rfl⟩
      have lc : mLc true (anyItems (eVar 4)) [6] (gcN 6) (tV (eInS false (eVar 6) 5)) (eVar 6) [.own 0, .val (setD f), L, .non, .val (.list (zs.map setD)), .own 1, .non] [p3, .dcs kvs] = some ((zs.filter fun y => (sGet kvs y).isSome).map setD, [p3, .dcs kvs]) :=
        lc_of setD (fun y => (sGet kvs y).isSome) setD zs (items_list rfl) rfl (by omega) fun x hx => ⟨[.own 0, .val (setD f), L, .non, .val (.list (zs.map setD)), .own 1, .val (setD x)], rfl, tV_of (inS_eq (x := x) rfl rfl), fun _ => rfl⟩
      have kn : 1 ≤ (zs.filter fun y => (sGet kvs y).isSome).length := List.length_pos_of_mem (List.mem_filter.mpr ⟨hyz, hys⟩)
      have ko := kof _ (List.filter_sublist (l := zs) (p := fun y => (sGet kvs y).isSome))
      have kf := ko.few
      generalize (zs.filter fun y => (sGet kvs y).isSome) = ks at *
      refine ws_seq (ws_as (wp_eF.mpr (wp_of lc (wp_some.mpr ?_))))
      have ln : eL (gl1 gLen) (aC (eVar 3) (aN)) [.own 0, .val (setD f), L, .val (.list (ks.map setD)), .val (.list (zs.map setD)), .own 1, .non] [p3, .dcs kvs] = some (.int ks.length, [p3, .dcs kvs]) := eL1_of (x := .list (ks.map setD)) rfl (by simp [gLen])
      refine ws_ret0 (wp_eL.mpr (wp_aC.mpr (wp_of (a := .list (ks.map setD)) (b := [p3, .dcs kvs]) rfl (wp_aC.mpr (wp_callP rfl (noBo0 _ _) (wp_of ln ⟨p3, rfl, wp_shared hp3 kn kf fun rows p4 hp4 hr hpos hs0 hs1 => ⟨p4, rfl, hp4, wp_aN.mpr (wp1_of (a := massD rows.sum (ks.zip rows)) ?_ ?_)⟩⟩))))))
      · unfold gZip2
        dsimp only
        rw [if_pos ⟨by simp [hr], szl (n := (ks.map setD).length) (by simp; omega)⟩, zip_pairs]
        rfl
      · exact k rows.sum (ks.zip rows) p4 hp4 (kept_mass hf ko hr hpos hs0 (by omega)) hs1
/-- sorted(set(...)) of two sets' things -/
theorem wide2_spec {f x y : List Str} (hf : Frame f) (p : Sub f x) (py : Sub f y) : ∃ w, gSSet (.tuple ((x ++ y).map .str)) = some (.list (w.map .str)) ∧ Sub f w ∧ ∀ t ∈ x, t ∈ w := by
  obtain ⟨w, h1, h2, h3⟩ := sort_strs (x ++ y).eraseDups (nodup_dups _ _ (Nat.le_refl _))
  have hl : (x ++ y).length < 60 := by
    have := p.few
    have := py.few
    have := hf.few
    simp
    omega
  have hm : ∀ t, t ∈ w ↔ t ∈ x ∨ t ∈ y := fun t => by rw [h1.mem_iff, List.mem_eraseDups, List.mem_append]
  refine ⟨w, ?_, ⟨h3, fun t ht => ((hm t).mp ht).elim (p.sub t) (py.sub t), ?_⟩, fun t ht => (hm t).mpr (.inl ht)⟩
  · unfold gSSet
    dsimp only
    rw [strs_of, Option.bind_some, if_pos hl, h2]
  · exact sub_len w f (inc_nodup h3) fun t ht => ((hm t).mp ht).elim (p.sub t) (py.sub t)
theorem zipD_self : ∀ ds : List D, zipD ds ds = ds.map fun d => .tuple [d, d]
  | [] => rfl
  | d :: ds => by
    have ih := zipD_self ds
    simp [zipD, ih]
theorem same_zip {k : Nat} {ds : List D} {x : D} (hz : zipItems (aC (eVar 0) (aC (eVar 1) (aN))) [.val x, .val x, .non, .non] [] = some (zipD ds ds, [])) (hgl : gLen x = some (.int ds.length)) (hl : ds.length < 65536) (h : ∀ d ∈ ds, Fr_law_same k [.val d, .val d] [] = some (.bool true, [])) :
    eAnd (e2 gEq (eL (gl1 gLen) (aC (eVar 0) (aN))) (eL (gl1 gLen) (aC (eVar 1) (aN)))) (eL (gl1 gAll) (aC (eF (mLc true (zipItems (aC (eVar 0) (aC (eVar 1) (aN)))) [2, 3] (gT 2 (gsC (gcN 2) (gsC (gcN 3) (gsN)))) (tTrue) (eCall 2 (Fr_law_same k) (rV (eVar 2) (rV (eVar 3) (rN)))))) (aN))) [.val x, .val x, .non, .non] [] = some (.bool true, []) := by
  rw [zipD_self] at hz
  have lc : mLc true (zipItems (aC (eVar 0) (aC (eVar 1) (aN)))) [2, 3] (gT 2 (gsC (gcN 2) (gsC (gcN 3) (gsN)))) (tTrue) (eCall 2 (Fr_law_same k) (rV (eVar 2) (rV (eVar 3) (rN)))) [.val x, .val x, .non, .non] [] = some (ds.map fun _ => .bool true, []) :=
    lc_all (fun d => .tuple [d, d]) (fun _ => .bool true) ds hz rfl hl fun d hd => ⟨[.val x, .val x, .val d, .val d], by simp [gT, gsC, gsN, gcN, isOwn, wipeD], call2_of rfl rfl (h d hd)⟩
  have al : gAll (.list (ds.map fun _ => .bool true)) = some (.bool true) := by
    rw [gAll, bools_map]
    simp
  have a2 := eL1_of (g := gAll) (eF_of lc) al
  have a1 : e2 gEq (eL (gl1 gLen) (aC (eVar 0) (aN))) (eL (gl1 gLen) (aC (eVar 1) (aN))) [.val x, .val x, .non, .non] [] = some (.bool true, []) :=
    e2_of (eL1_of (x := x) rfl hgl) (eL1_of (x := x) rfl hgl) (by rw [gEq_int]; simp)
  unfold eAnd
  rw [a1, Option.bind_some]
  simp [gBool, a2]
theorem is_of {g : D → Bool} {i : Nat} {ρ : List Slot} {μ : List Cell} {x : D} (h : eVar i ρ μ = some (x, μ)) (hx : isX x = false) : eIs g (eVar i) ρ μ = some (.bool (g x), μ) := by
  unfold eIs
  rw [h, Option.bind_some, if_neg (by rw [hx]; decide)]
theorem ne_bool (b : Bool) : gNe (.bool b) (.bool b) = some (.bool false) := by cases b <;> rfl
theorem seq_refl {k : Nat} {x : D} (hx : isX x = false) (ht : (isTup x || isLst x) = true) (q : eAnd (e2 gEq (eL (gl1 gLen) (aC (eVar 0) (aN))) (eL (gl1 gLen) (aC (eVar 1) (aN)))) (eL (gl1 gAll) (aC (eF (mLc true (zipItems (aC (eVar 0) (aC (eVar 1) (aN)))) [2, 3] (gT 2 (gsC (gcN 2) (gsC (gcN 3) (gsN)))) (tTrue) (eCall 2 (Fr_law_same k) (rV (eVar 2) (rV (eVar 3) (rN)))))) (aN))) [.val x, .val x, .non, .non] [] = some (.bool true, [])) :
    bodyF 2 (m_law_same (Fr_law_same k)) [.val x, .val x] [] = some (.bool true, []) := by
  have i1 : ∀ g, eIs g (eVar 1) [.val x, .val x, .non, .non] [] = some (.bool (g x), []) := fun g => is_of rfl hx
  have i0 : ∀ g, eIs g (eVar 0) [.val x, .val x, .non, .non] [] = some (.bool (g x), []) := fun g => is_of rfl hx
  have t1 : tOr (tV (eIs isTup (eVar 1))) (tV (eIs isLst (eVar 1))) [.val x, .val x, .non, .non] [] = some (true, []) := by
    unfold tOr
    rw [tV_of (i1 isTup), Option.bind_some]
    cases h : isTup x
    · rw [h] at ht
      have hl : isLst x = true := by simpa using ht
      have := tV_of (i1 isLst)
      rw [hl] at this
      simp [this]
    · simp
  have t2 : tOr (tV (e2 gNe (eIs isTup (eVar 0)) (eIs isTup (eVar 1)))) (tV (e2 gNe (eIs isLst (eVar 0)) (eIs isLst (eVar 1)))) [.val x, .val x, .non, .non] [] = some (false, []) :=
    tOr_f (tV_of (e2_of (i0 isTup) (i1 isTup) (ne_bool _))) (tV_of (e2_of (i0 isLst) (i1 isLst) (ne_bool _)))
  unfold bodyF m_law_same
  simp only [sSeq, sIf, List.append_eq, List.replicate, List.cons_append, List.nil_append, List.length_nil, t1, Option.bind_some, if_true, t2, Bool.false_eq_true, if_false, sNil, ret_of q]
  rfl
theorem same_refl : ∀ (k : Nat) (d : D), sameOk k d = true → Fr_law_same k [.val d, .val d] [] = some (.bool true, [])
  | 0, d, h => by simp [sameOk] at h
  | k + 1, d, h => by
    show bodyF 2 (m_law_same (Fr_law_same k)) [.val d, .val d] [] = _
    cases d with
    | int i => simp [bodyF, m_law_same, sSeq, sIf, tOr, tV, eIs, isX, isTup, isLst, isBool, isInt, eVar, gBool, sNil, e1, gIsN, isNoneD, sRet, eAnd, eNot, e2, gEq_int, gEq_bool, okB, B0]
    | str x => simp [bodyF, m_law_same, sSeq, sIf, tOr, tV, eIs, isX, isTup, isLst, isBool, isInt, isStr, eVar, gBool, sNil, e1, gIsN, isNoneD, sRet, eAnd, eNot, e2, gEq_str, gEq_bool, okB, B0]
    | bool b => simp [bodyF, m_law_same, sSeq, sIf, tOr, tV, eIs, isX, isTup, isLst, isBool, isInt, isStr, eVar, gBool, sNil, e1, gIsN, isNoneD, sRet, eAnd, eNot, e2, gEq_bool, okB, B0]
    | none => simp [bodyF, m_law_same, sSeq, sIf, tOr, tV, eIs, isX, isTup, isLst, isBool, isInt, isStr, eVar, gBool, sNil, e1, gIsN, isNoneD, sRet, eAnd, eNot, e2, gEq_bool, okB, B0]
    | list ds =>
      simp only [sameOk, Bool.and_eq_true, decide_eq_true_eq, List.all_eq_true] at h
      have q := same_zip (k := k) (ds := ds) (x := .list ds) (by simp [zipItems, aC, aN, eVar]) (by simp [gLen]) h.1 (fun d hd => same_refl k d (h.2 d hd))
      exact seq_refl rfl rfl q
    | tuple ds =>
      simp only [sameOk, Bool.and_eq_true, decide_eq_true_eq, List.all_eq_true] at h
      have q := same_zip (k := k) (ds := ds) (x := .tuple ds) (by simp [zipItems, aC, aN, eVar]) (by simp [gLen]) h.1 (fun d hd => same_refl k d (h.2 d hd))
      exact seq_refl rfl rfl q
    | dict ds => simp [sameOk] at h
def cornerD (f : List Str) (s : Int) (m : M2) (o : List Str) : D := .tuple (f.map fun t => frac s (val (grow m [] o) t))
def usum (m : M2) (k o : List Str) : Int := gs (inE k) (grow m [] o)
def psOf (m : M2) (x k : List Str) (rows : List (List Str)) : List (Int × Int) := (rows.filter fun o => !decide (usum m k o = 0)).map fun o => (usum m k o, usum m (both x k) o)
theorem usum_eq {f : List Str} {s : Int} {m : M2} {o k : List Str} (ho : Ord f o) (hk : k.Nodup) (hs : ∀ t ∈ k, t ∈ f) : (k.map (val (grow m [] o))).sum = usum m k o :=
  sum_val (by rw [grow_keys]; exact ho.nd) hk fun x hx => by rw [grow_keys]; exact (ho.mem x).mpr (hs x hx)
section
variable {f : List Str} {s : Int} {m : M2} (hf : Frame f) (q : Mass f s m) {x k : List Str} (px : Sub f x) (pk : Sub f k)
include q px pk hf
theorem ps_den {rows : List (List Str)} (hr : ∀ o ∈ rows, Ord f o) : ∀ p ∈ psOf m x k rows, Den p := fun p hp => by
  obtain ⟨o, ho, rfl⟩ := List.mem_map.mp hp
  obtain ⟨h1, h2⟩ := List.mem_filter.mp ho
  have d := part_den q pk.sub (hr o h1)
  have h2 : ¬ usum m k o = 0 := by simpa using h2
  have l := q.ok.low
  have e : usum m k o = gs (inE k) (grow m [] o) := rfl
  exact ⟨by show 0 < usum m k o; omega, by show usum m k o < 65536; omega⟩
theorem usum_both (o : List Str) : usum m (both x k) o = gs (inE (both k x)) (grow m [] o) := gs_congr fun t _ => by
  rw [Bool.eq_iff_iff]
  simp [inE, mem_both, and_comm]
theorem due_none {rows : List (List Str)} (hr : ∀ o ∈ rows, Ord f o) (h0 : may m k = 0) : psOf m x k rows = [] := by
  unfold psOf
  rw [List.map_eq_nil_iff, List.filter_eq_nil_iff]
  intro o ho
  have := part_none q pk.sub h0 (hr o ho)
  have e : usum m k o = gs (inE k) (grow m [] o) := rfl
  simp [e, this]
theorem due_some {rows : List (List Str)} (hr : ∀ o, o ∈ rows ↔ Ord f o) (h0 : may m k ≠ 0) : psOf m x k rows ≠ [] ∧ ∀ lo hi, lo ∈ psOf m x k rows → hi ∈ psOf m x k rows → (∀ p ∈ psOf m x k rows, le2 lo p ∧ le2 p hi) → PyData.tuple [fracP lo, fracP hi] = endsD m x k := by
  have hkl : k.length < 65536 := by have := pk.few; have := hf.few; omega
  have nk := inc_nodup pk.inc
  have nf := inc_nodup hf.inc
  have hden := ps_den hf q px pk fun o ho => (hr o).mp ho
  have inps : ∀ o, Ord f o → 0 < gs (inE k) (grow m [] o) → (usum m k o, usum m (both x k) o) ∈ psOf m x k rows := fun o ho hp => by
    refine List.mem_map.mpr ⟨o, List.mem_filter.mpr ⟨(hr o).mpr ho, ?_⟩, rfl⟩
    have e : usum m k o = gs (inE k) (grow m [] o) := rfl
    have : ¬ usum m k o = 0 := by omega
    simpa using this
  have lowOk := lowP_ok q (x := x) hkl
  have highOk := highP_ok q (x := x) hkl
  have dl : Den (lowP m x k) := ⟨lowOk.1, lowOk.2⟩
  have dh : Den (highP m x k) := ⟨highOk.1, highOk.2⟩
  obtain ⟨o1, ho1, p1, e1⟩ := low_at q (x := x) pk.sub nf nk h0
  obtain ⟨o2, ho2, p2, e2⟩ := high_at q (x := x) pk.sub nf nk h0
  have m1 := inps o1 ho1 p1
  have m2 := inps o2 ho2 p2
  refine ⟨fun e => (by rw [e] at m1; cases m1), fun lo hi hlo hhi hall => ?_⟩
  have below : ∀ p ∈ psOf m x k rows, le2 (lowP m x k) p ∧ le2 p (highP m x k) := fun p hp => by
    obtain ⟨o, ho, rfl⟩ := List.mem_map.mp hp
    have ho := (hr o).mp (List.mem_filter.mp ho).1
    have a := part_low q (x := x) pk.sub ho
    have b := part_high q (x := x) pk.sub ho
    rw [← usum_both hf q px pk] at a b
    exact ⟨a, b⟩
  have at1 : le2 (usum m k o1, usum m (both x k) o1) (lowP m x k) := by
    rw [← usum_both hf q px pk] at e1
    exact Int.le_of_eq e1
  have at2 : le2 (highP m x k) (usum m k o2, usum m (both x k) o2) := by
    rw [← usum_both hf q px pk] at e2
    exact Int.le_of_eq e2.symm
  have l1 : fracP lo = fracP (lowP m x k) := end_eq (hden lo hlo) dl (le2_trans (hden lo hlo) (hden _ m1) dl (hall _ m1).1 at1) (below lo hlo).1
  have l2 : fracP hi = fracP (highP m x k) := end_eq (hden hi hhi) dh (below hi hhi).2 (le2_trans dh (hden _ m2) (hden hi hhi) at2 (hall _ m2).2)
  rw [l1, l2]
  rfl
end
theorem same6 {x : D} (h : sameOk 6 x = true) : F_law_same [.val x, .val x] [] = some (.bool true, []) := same_refl 6 x h
theorem frac_ok (n : Nat) (a b : Int) : sameOk (n + 2) (frac a b) = true := by simp [sameOk, frac]
theorem ends_ok (n : Nat) (m : M2) (x k : List Str) : sameOk (n + 3) (endsD m x k) = true := by
  have := frac_ok n
  simp [sameOk, endsD, fracP, this]
theorem bounds_ok (n : Nat) (m : M2) (x k : List Str) : sameOk (n + 3) (boundsD m x k) = true := by
  unfold boundsD
  split
  · rfl
  · exact ends_ok n m x k
theorem pair_ok (m : M2) (x k : List Str) : sameOk 6 (.list [boundsD m x k, boundsD m x k]) = true := by
  have := bounds_ok 2 m x k
  simp [sameOk, this]
theorem apart_rest {f x k : List Str} (hk : ∀ t ∈ k, t ∈ f) : both k (apart f x) = apart k x ∧ apart k (apart f x) = both k x := by
  constructor
  · refine List.filter_congr fun t ht => ?_
    rw [Bool.eq_iff_iff]
    simp [mem_apart, hk t ht]
  · refine List.filter_congr fun t ht => ?_
    rw [Bool.eq_iff_iff]
    simp [mem_apart, hk t ht]
theorem one_less {q r : Int} (hq : 0 < q) (hb : q < 65536) : F_law_less [.val (.tuple [.int 1, .int 1]), .val (frac q r)] [] = some (frac q (q - r), []) := nf_one hq hb
theorem part_turn (a b : Int) : fracP (part a b 1) = fracP ((part b a 0).1, (part b a 0).1 - (part b a 0).2) ∧ fracP (part a b 0) = fracP ((part b a 1).1, (part b a 1).1 - (part b a 1).2) := by
  unfold part fracP
  rw [Int.add_comm b a]
  split
  · exact ⟨rfl, rfl⟩
  · dsimp only
    rw [show a + b - b = a by omega]
    exact ⟨rfl, rfl⟩
theorem rest_ends {f x k : List Str} (m : M2) (hk : ∀ t ∈ k, t ∈ f) : endsD m (apart f x) k = .tuple [fracP ((highP m x k).1, (highP m x k).1 - (highP m x k).2), fracP ((lowP m x k).1, (lowP m x k).1 - (lowP m x k).2)] := by
  obtain ⟨e1, e2⟩ := apart_rest (x := x) hk
  unfold endsD lowP highP
  rw [e1, e2]
  rw [(part_turn (bel m (apart k x)) (may m (both k x))).1, (part_turn (may m (apart k x)) (bel m (both k x))).2]
theorem all_ends {f x : List Str} {s : Int} {m : M2} (q : Mass f s m) (px : Sub f x) : boundsD m x f = .tuple [frac s (bel m x), frac s (may m x)] := by
  have c1 : bel m (both f x) = bel m x := bel_congr m fun t => by rw [mem_both]; exact ⟨fun h => h.2, fun h => ⟨px.sub t h, h⟩⟩
  have c2 : may m (both f x) = may m x := may_congr m fun t => by rw [mem_both]; exact ⟨fun h => h.2, fun h => ⟨px.sub t h, h⟩⟩
  have mo : ∀ k, may m k = s - bel m (f.filter fun t => !decide (t ∈ k)) := fun k => m_other q k
  have c3 : bel m (f.filter fun t => !decide (t ∈ apart f x)) = bel m x := bel_congr m fun t => by
    simp only [List.mem_filter, Bool.not_eq_true', decide_eq_false_iff_not, mem_apart]
    exact ⟨fun ⟨a, b⟩ => Classical.byContradiction fun z => b ⟨a, z⟩, fun h => ⟨px.sub t h, fun z => z.2 h⟩⟩
  have s1 : bel m x + may m (apart f x) = s := by rw [mo (apart f x), c3]; omega
  have s2 : may m x + bel m (apart f x) = s := by rw [mo x]; unfold apart; omega
  have sp := q.ok.pos
  have mf : may m f = s := by
    rw [mo f]
    have : bel m (f.filter fun t => !decide (t ∈ f)) = bel m [] := bel_congr m fun t => by simp
    rw [this, show bel m [] = 0 from b_nil q]
    omega
  unfold boundsD
  rw [if_neg (by omega)]
  unfold endsD lowP highP part fracP
  rw [c1, c2, s1, s2, if_neg (by omega), if_neg (by omega)]
theorem callm4 {F : FD} {a b c d : ME} {ρ : List Slot} {μ : List Cell} {x1 x2 x3 x4 y : D} (ha : a ρ μ = some (x1, μ)) (hb : b ρ μ = some (x2, μ)) (hc : c ρ μ = some (x3, μ)) (hd : d ρ μ = some (x4, μ)) (h : F [.val x1, .val x2, .val x3, .val x4] [] = some (y, [])) : eCall 4 F (rV a (rV b (rV c (rV d rN)))) ρ μ = some (y, μ) := by
  simp [eCall, rV, rN, ha, hb, hc, hd, lentOf, slotsOf, cellsOf, nodupB, h, flatCs, setCells]
theorem callmK4 {F : FD} {a b c d : ME} {ρ : List Slot} {μ : List Cell} {x1 x2 x3 x4 y : D} (ha : a ρ μ = some (x1, μ)) (hb : b ρ μ = some (x2, μ)) (hc : c ρ μ = some (x3, μ)) (hd : d ρ μ = some (x4, μ)) (h : F [.val x4, .val x3, .val x2, .val x1] [] = some (y, [])) : eCallK 4 F [3, 2, 1, 0] (aC a (aC b (aC c (aC d aN)))) ρ μ = some (y, μ) := by
  simp [eCallK, aC, aN, ha, hb, hc, hd, permL, h]
abbrev RS (F L C T M Y a7 a8 a10 a11 a12 a13 a14 a15 a16 a17 a18 : Slot) : List Slot := [.own 0, L, F, C, T, M, Y, a7, a8, .non, a10, a11, a12, a13, a14, a15, a16, a17, a18, .non]
theorem tr_all {ρ : List Slot} {m : Nat} {μ : List Cell} (hm : 0 < m) (h : ∀ x ∈ ρ, isV x = true ∨ x = .own 0) : ρ.map (truncS m μ) = ρ := by
  have : ∀ x ∈ ρ, truncS m μ x = x := fun x hx => by
    rcases h x hx with z | z
    · exact tr_v z
    · rw [z]; simp [truncS, hm]
  rw [List.map_congr_left this]
  simp
theorem RS_tr {F L C T M Y a7 a8 a10 a11 a12 a13 a14 a15 a16 a17 a18 : Slot} {m : Nat} {μ : List Cell} (hm : 0 < m) (h : ([F, L, C, T, M, Y, a7, a8, a10, a11, a12, a13, a14, a15, a16, a17, a18].all isV) = true) : (RS F L C T M Y a7 a8 a10 a11 a12 a13 a14 a15 a16 a17 a18).map (truncS m μ) = RS F L C T M Y a7 a8 a10 a11 a12 a13 a14 a15 a16 a17 a18 := by
  refine tr_all hm fun x hx => ?_
  simp only [List.all_eq_true] at h
  simp only [List.mem_cons, List.not_mem_nil, or_false] at hx
  by_cases z : x = .own 0
  · exact .inr z
  · left
    by_cases z2 : x = .non
    · rw [z2]; rfl
    · refine h x ?_
      simp only [List.mem_cons, List.not_mem_nil, or_false]
      simp only [z, z2, false_or, or_false] at hx
      rcases hx with e | e | e | e | e | e | e | e | e | e | e | e | e | e | e | e | e <;> simp [e]
section
variable {f : List Str} {s : Int} {m : M2} (hf : Frame f) (q : Mass f s m) {x k : List Str} (px : Sub f x) (pk : Sub f k) {rows : List (List Str)} (hr : ∀ o, o ∈ rows ↔ Ord f o) (hrl : rows.length ≤ 256)
include q px pk hf hr hrl
end
theorem Sub.apart {f : List Str} (hi : Inc f) (x : List Str) : Sub f (apart f x) := Sub.of hi List.filter_sublist
theorem if_t {t : MT} {ms mr : MS} {n : Nat} {ρ : List Slot} {μ : List Cell} {Q : Fl → Prop} (h : t ρ μ = some (true, μ)) (q : wp1 (ms n ρ μ) Q) : wp1 (sIf t ms mr n ρ μ) Q := by
  obtain ⟨a, e, z⟩ := q
  refine ⟨a, ?_, z⟩
  unfold sIf
  rw [h, Option.bind_some]
  exact e
section
variable {f : List Str} {s : Int} {m : M2} (hf : Frame f) (q : Mass f s m) {x k : List Str} (px : Sub f x) (pk : Sub f k) {ys : List (List Str)} (hys : Sets f ys) (hsub : ∀ y ∈ ys, Sub f y)
include q px pk hf hys hsub
end
section
variable {f : List Str} {s : Int} {m : M2} (hf : Frame f) (q : Mass f s m) {ys : List (List Str)} (hys : Sets f ys) (hsub : ∀ y ∈ ys, Sub f y) {rows : List (List Str)} (hr : ∀ o, o ∈ rows ↔ Ord f o) (hrl : rows.length ≤ 256)
include q hf hys hsub hr hrl
end
end K26
end
section
set_option linter.all false
set_option maxRecDepth 100000
set_option maxHeartbeats 4000000
/-! V1: k26: numbers, cuts; no program. -/
namespace K26
open PySem PD
theorem ind_le {b : Bool} {w : Int} : (if b = true then w else 0) = w * (if b = true then 1 else 0) := by
  cases b <;> simp
/-- the cuts of a number -/
def cuts (lo v : Int) (n : Nat) : Int := ((List.range n).map fun i : Nat => if decide (lo + 1 + (i : Int) ≤ v) = true then (1 : Int) else 0).sum
theorem cuts_succ (lo v : Int) (n : Nat) : cuts lo v (n + 1) = cuts lo v n + (if decide (lo + 1 + (n : Int) ≤ v) = true then (1 : Int) else 0) := by
  unfold cuts
  rw [List.range_succ, List.map_append, List.sum_append]
  simp
theorem cuts_eq (lo v : Int) : ∀ n : Nat, lo ≤ v → cuts lo v n = if v ≤ lo + n then v - lo else n
  | 0, h => by
    unfold cuts
    simp
    intro h2
    omega
  | n + 1, h => by
    rw [cuts_succ, cuts_eq lo v n h]
    simp only [decide_eq_true_eq]
    split <;> split <;> split <;> omega
theorem cake {lo v : Int} {n : Nat} (h1 : lo ≤ v) (h2 : v ≤ lo + n) : v = lo + cuts lo v n := by
  rw [cuts_eq lo v n h1, if_pos h2]; omega
/-- sums over pairs -/
def gp {α : Type} (E : α → Bool) (l : List (α × Int)) : Int := ((l.filter fun p => E p.1).map (·.2)).sum
theorem gp_cons {α : Type} (E : α → Bool) (p : α × Int) (l : List (α × Int)) : gp E (p :: l) = (if E p.1 = true then p.2 else 0) + gp E l := by
  unfold gp
  by_cases h : E p.1 = true
  · simp [h]
  · simp [h]
def dot {α : Type} (v : α → Int) (l : List (α × Int)) : Int := (l.map fun p => p.2 * v p.1).sum
theorem dot_cons {α : Type} (v : α → Int) (p : α × Int) (l : List (α × Int)) : dot v (p :: l) = p.2 * v p.1 + dot v l := by simp [dot]
theorem sum_add (f g : Nat → Int) : ∀ n : Nat, ((List.range n).map fun i => f i + g i).sum = ((List.range n).map f).sum + ((List.range n).map g).sum
  | 0 => rfl
  | n + 1 => by
    have ih := sum_add f g n
    rw [List.range_succ, List.map_append, List.map_append, List.map_append, List.sum_append, List.sum_append, List.sum_append, ih]
    simp
    omega
theorem sum_mul (w : Int) (f : Nat → Int) : ∀ n : Nat, ((List.range n).map fun i => w * f i).sum = w * ((List.range n).map f).sum
  | 0 => by simp
  | n + 1 => by
    have ih := sum_mul w f n
    rw [List.range_succ, List.map_append, List.map_append, List.sum_append, List.sum_append, ih, Int.mul_add]
    simp
theorem sum_zero : ∀ n : Nat, ((List.range n).map fun _ : Nat => (0 : Int)).sum = 0
  | 0 => rfl
  | n + 1 => by
    rw [List.range_succ, List.map_append, List.sum_append, sum_zero n]
    rfl
theorem rsum_le (f g : Nat → Int) : ∀ n : Nat, (∀ i, f i ≤ g i) → ((List.range n).map f).sum ≤ ((List.range n).map g).sum
  | 0, _ => Int.le_refl _
  | n + 1, h => by
    have ih := rsum_le f g n h
    rw [List.range_succ, List.map_append, List.map_append, List.sum_append, List.sum_append]
    have := h n
    simp
    omega
theorem dot_cake {α : Type} (v : α → Int) (lo : Int) (n : Nat) : ∀ (l : List (α × Int)), (∀ p ∈ l, lo ≤ v p.1 ∧ v p.1 ≤ lo + n) → dot v l = lo * gp (fun _ => true) l + ((List.range n).map fun i : Nat => gp (fun a => decide (lo + 1 + (i : Int) ≤ v a)) l).sum
  | [], _ => by
    have : (fun i : Nat => gp (fun a : α => decide (lo + 1 + (i : Int) ≤ v a)) []) = fun _ => 0 := rfl
    rw [this, sum_zero]
    simp [dot, gp]
  | p :: l, h => by
    have ih := dot_cake v lo n l fun x hx => h x (List.mem_cons_of_mem _ hx)
    obtain ⟨h1, h2⟩ := h p (List.mem_cons_self ..)
    have e : (fun i : Nat => gp (fun a : α => decide (lo + 1 + (i : Int) ≤ v a)) (p :: l)) = fun i : Nat => p.2 * (if decide (lo + 1 + (i : Int) ≤ v p.1) = true then (1 : Int) else 0) + gp (fun a : α => decide (lo + 1 + (i : Int) ≤ v a)) l := by
      funext i
      rw [gp_cons, ind_le]
    rw [e, sum_add, sum_mul, dot_cons, gp_cons, ih, if_pos rfl]
    have c := cake h1 h2
    have : p.2 * v p.1 = p.2 * lo + p.2 * cuts lo (v p.1) n := by rw [← Int.mul_add, ← c]
    rw [this]
    unfold cuts
    rw [Int.mul_add, Int.mul_comm lo p.2]
    omega
theorem dot_mono {α : Type} {v v' : α → Int} : ∀ {l : List (α × Int)}, (∀ p ∈ l, 0 ≤ p.2) → (∀ p ∈ l, v p.1 ≤ v' p.1) → dot v l ≤ dot v' l
  | [], _, _ => Int.le_refl _
  | p :: l, h0, h => by
    have ih := dot_mono (v := v) (v' := v') (l := l) (fun x hx => h0 x (List.mem_cons_of_mem _ hx)) fun x hx => h x (List.mem_cons_of_mem _ hx)
    rw [dot_cons, dot_cons]
    have := Int.mul_le_mul_of_nonneg_left (h p (List.mem_cons_self ..)) (h0 p (List.mem_cons_self ..))
    omega
theorem dot_add {α : Type} (v v' : α → Int) : ∀ (l : List (α × Int)), dot (fun a => v a + v' a) l = dot v l + dot v' l
  | [] => rfl
  | p :: l => by
    rw [dot_cons, dot_cons, dot_cons, dot_add v v' l, Int.mul_add]
    omega
theorem dot_neg {α : Type} (v : α → Int) : ∀ (l : List (α × Int)), dot (fun a => -v a) l = -dot v l
  | [] => rfl
  | p :: l => by
    rw [dot_cons, dot_cons, dot_neg v l, Int.mul_neg]
    omega
theorem dot_congr {α : Type} {v v' : α → Int} : ∀ {l : List (α × Int)}, (∀ p ∈ l, v p.1 = v' p.1) → dot v l = dot v' l
  | [], _ => rfl
  | p :: l, h => by
    rw [dot_cons, dot_cons, dot_congr fun x hx => h x (List.mem_cons_of_mem _ hx), h p (List.mem_cons_self ..)]
theorem dot_one {α : Type} (l : List (α × Int)) : dot (fun _ => 1) l = (l.map (·.2)).sum := by simp [dot]
/-! least over all orders -/
/-- the thing c of each set with the least worth -/
structure Least (W : Str → Int) (m : M2) (c : List Str → Str) : Prop where
  mem : ∀ q ∈ m, c q.1 ∈ q.1
  low : ∀ q ∈ m, ∀ t ∈ q.1, W (c q.1) ≤ W t
section
variable {f : List Str} {s : Int} {m : M2} (q : Mass f s m) {W : Str → Int} {c : List Str → Str} (hc : Least W m c) {lo : Int} {n : Nat} (hw : ∀ t ∈ f, lo ≤ W t ∧ W t ≤ lo + n)
include q hc hw
theorem lw_cake : dot (fun y => W (c y)) m = lo * s + ((List.range n).map fun i : Nat => bel m (f.filter fun t => decide (lo + 1 + (i : Int) ≤ W t))).sum := by
  rw [dot_cake (fun y => W (c y)) lo n m fun p hp => hw _ (q.sub p hp _ (hc.mem p hp))]
  have e1 : gp (fun _ => true) m = s := by
    have : gp (fun _ : List Str => true) m = (m.map (·.2)).sum := by unfold gp; rw [filter_tt]
    rw [this, q.sum]
  rw [e1]
  congr 2
  refine List.map_congr_left fun i _ => ?_
  show sumOf m (fun y => decide (lo + 1 + (i : Int) ≤ W (c y))) = _
  refine sumOf_congr m fun p hp => ?_
  rw [Bool.eq_iff_iff, decide_eq_true_eq, sub_iff]
  constructor
  · intro h t ht
    exact List.mem_filter.mpr ⟨q.sub p hp t ht, decide_eq_true (Int.le_trans h (hc.low p hp t ht))⟩
  · intro h
    exact of_decide_eq_true (List.mem_filter.mp (h _ (hc.mem p hp))).2
theorem mean_cake {o : List Str} (ho : Ord f o) : dot W (grow m [] o) = lo * s + ((List.range n).map fun i : Nat => gs (fun t => decide (lo + 1 + (i : Int) ≤ W t)) (grow m [] o)).sum := by
  rw [dot_cake W lo n (grow m [] o) fun p hp => hw _ ((ho.mem _).mp (by rw [← grow_keys m o []]; exact List.mem_map.mpr ⟨p, hp, rfl⟩))]
  rw [show gp (fun _ => true) (grow m [] o) = s from ord_sum q ho]
  rfl
theorem gs_filter {o : List Str} (ho : Ord f o) (E : Str → Bool) : gs E (grow m [] o) = gs (inE (f.filter E)) (grow m [] o) := gs_congr fun t ht => by
  rw [grow_keys] at ht
  rw [Bool.eq_iff_iff]
  simp [inE, (ho.mem t).mp ht]
/-- no order's mean is less -/
theorem mean_low {o : List Str} (ho : Ord f o) : dot (fun y => W (c y)) m ≤ dot W (grow m [] o) := by
  rw [lw_cake q hc hw, mean_cake q hc hw ho]
  have := rsum_le (fun i : Nat => bel m (f.filter fun t => decide (lo + 1 + (i : Int) ≤ W t))) (fun i : Nat => gs (fun t => decide (lo + 1 + (i : Int) ≤ W t)) (grow m [] o)) n fun i => by
    rw [gs_filter q hc hw ho]
    exact ord_low q ho fun t ht => (List.mem_filter.mp ht).1
  omega
theorem cut_split {o : List Str} (h : o.Pairwise fun a b => W b ≤ W a) (x : Int) : o = o.filter (fun t => decide (x ≤ W t)) ++ o.filter (fun t => !decide (x ≤ W t)) := by
  clear q hc hw
  induction o with
  | nil => rfl
  | cons t o ih =>
    obtain ⟨h1, h2⟩ := List.pairwise_cons.mp h
    by_cases z : x ≤ W t
    · simp [z]
      simpa using ih h2
    · have none : o.filter (fun t => decide (x ≤ W t)) = [] := List.filter_eq_nil_iff.mpr fun y hy => by
        have := h1 y hy
        simp; omega
      have all : o.filter (fun t => !decide (x ≤ W t)) = o := List.filter_eq_self.mpr fun y hy => by
        have := h1 y hy
        simp; omega
      rw [List.filter_cons, List.filter_cons, none, all]
      simp [z]
/-- an order has just this mean -/
theorem mean_at (hf : f.Nodup) : ∃ o, Ord f o ∧ dot W (grow m [] o) = dot (fun y => W (c y)) m := by
  have tr : ∀ a b c : Str, decide (W b ≤ W a) = true → decide (W c ≤ W b) = true → decide (W c ≤ W a) = true := fun a b c h h' => decide_eq_true (Int.le_trans (of_decide_eq_true h') (of_decide_eq_true h))
  have to : ∀ a b : Str, (decide (W b ≤ W a) || decide (W a ≤ W b)) = true := fun a b => by
    rcases Int.le_total (W b) (W a) with h | h <;> simp [h]
  have pw : (f.mergeSort fun a b => decide (W b ≤ W a)).Pairwise fun a b => W b ≤ W a := (List.pairwise_mergeSort tr to f).imp fun h => of_decide_eq_true h
  have pm : (f.mergeSort fun a b => decide (W b ≤ W a)).Perm f := List.mergeSort_perm f _
  generalize (f.mergeSort fun a b => decide (W b ≤ W a)) = o at pw pm
  have ho : Ord f o := ⟨pm.nodup_iff.mpr hf, fun x => pm.mem_iff⟩
  refine ⟨o, ho, ?_⟩
  rw [lw_cake q hc hw, mean_cake q hc hw ho]
  congr 2
  refine List.map_congr_left fun i _ => ?_
  have sp := cut_split q hc hw pw (lo + 1 + (i : Int))
  generalize ha : o.filter (fun t => decide (lo + 1 + (i : Int) ≤ W t)) = a at sp
  generalize hb : o.filter (fun t => !decide (lo + 1 + (i : Int) ≤ W t)) = b at sp
  rw [sp, gs_app, gs_all m _ a [] fun t ht => (by rw [← ha] at ht; exact (List.mem_filter.mp ht).2), gs_none m _ b _ fun t ht => (by rw [← hb] at ht; have := (List.mem_filter.mp ht).2; simpa using this)]
  rw [show bel m [] = 0 from b_nil q, List.nil_append]
  have : bel m a = bel m (f.filter fun t => decide (lo + 1 + (i : Int) ≤ W t)) := bel_congr m fun x => by
    rw [← ha, List.mem_filter, List.mem_filter, ho.mem]
  omega
end
end K26
end
section
set_option linter.all false
set_option maxRecDepth 100000
set_option maxHeartbeats 4000000
/-! V2: k26: the worths' functions of the program. -/
namespace K26
open PySem PD
theorem frac_int (w : Int) : PyData.tuple [.int w, .int 1] = frac 1 w := by
  have g : ((Nat.gcd w.natAbs (1 : Int).natAbs : Nat) : Int) = 1 := by simp
  unfold frac nfN nfD
  rw [g]
  simp
theorem times_cross {a b q r : Int} (hq : 0 < q) (hr : 0 < r) : (nfN a q * nfN b r) * (q * r) = (a * b) * (nfD a q * nfD b r) := by
  rw [mul4, nf_cross a hq, nf_cross b hr, mul4]
theorem times_spec {a b q r : Int} (hq : 0 < q) (hqb : q < 65536) (hr : 0 < r) (hrb : r < 65536) (hw : (nfN b r).natAbs < 2 ^ 64) : F_law_times [.val (frac q a), .val (frac r b)] [] = some (frac (q * r) (a * b), []) := by
  have m1 : ∀ x, mulOk x (nfN b r) = true := fun x => mulOk_r hw
  have m2 : ∀ x, mulOk x (nfD b r) = true := fun x => mulOk_r (nfD_small b hr hrb)
  have p1 := nfD_pos a hq
  have p2 := nfD_pos b hr
  have q1 := nfD_le a hq
  have q2 := nfD_le b hr
  have lt : nfD a q * nfD b r < 2 ^ 64 := by
    have : nfD a q * nfD b r ≤ 65536 * 65536 := Int.mul_le_mul (by omega) (by omega) (by omega) (by omega)
    omega
  have l := low_spec (n := nfN a q * nfN b r) (Int.mul_pos p1 p2) lt
  have e : PyData.tuple [.int (nfN (nfN a q * nfN b r) (nfD a q * nfD b r)), .int (nfD (nfN a q * nfN b r) (nfD a q * nfD b r))] = frac (q * r) (a * b) := by
    obtain ⟨h1, h2⟩ := nf_same (Int.mul_pos p1 p2) (Int.mul_pos hq hr) (times_cross (a := a) (b := b) hq hr)
    rw [h1, h2]
    rfl
  rw [e] at l
  simp [F_law_times, bodyF, m_law_times, sRet, e2, eVar, eC, eCall, rV, rN, lentOf, slotsOf, cellsOf, nodupB, frac, gIx, L2.atI, L2.ixN, gMul, m1, m2, flatCs, setCells, okB, B0] at l ⊢
  rw [l]
  rfl
theorem nfN_one (w : Int) : nfN w 1 = w := by
  have g : ((Nat.gcd w.natAbs (1 : Int).natAbs : Nat) : Int) = 1 := by simp
  unfold nfN
  rw [g]
  simp
theorem times_worth {a q w : Int} (hq : 0 < q) (hqb : q < 65536) (h1 : -100 ≤ w) (h2 : w ≤ 100) : F_law_times [.val (frac q a), .val (.tuple [.int w, .int 1])] [] = some (frac q (a * w), []) := by
  rw [frac_int]
  have t := times_spec (a := a) (b := w) hq hqb (r := 1) (by decide) (by decide) (by rw [nfN_one]; omega)
  rw [Int.mul_one] at t
  exact t
theorem low_worth {a q w : Int} (hq : 0 < q) (hqb : q < 65536) (h1 : -100 ≤ w) (h2 : w ≤ 100) : F_lowest [.val (.int (nfN a q * w)), .val (.int (nfD a q))] [] = some (frac q (a * w), []) := by
  have l := lowest_spec (n := nfN a q * w) (nfD_pos a hq) (by have := nfD_le a hq; omega)
  have c : (nfN a q * w) * q = (a * w) * nfD a q := by
    have := nf_cross a hq
    calc nfN a q * w * q = nfN a q * q * w := by ac_rfl
      _ = a * nfD a q * w := by rw [this]
      _ = a * w * nfD a q := by ac_rfl
  obtain ⟨e1, e2⟩ := nf_same (nfD_pos a hq) hq c
  rw [e1, e2] at l
  exact l
/-! worths -/
structure Wor (f : List Str) (W : Str → Int) : Prop where
  lo : ∀ t ∈ f, -99 ≤ W t
  hi : ∀ t ∈ f, W t ≤ 99
def worD (f : List Str) (W : Str → Int) : D := .tuple (f.map fun t => .int (W t))
def chD (s : Int) (f : List Str) (h : Str → Int) : D := .tuple (f.map fun t => frac s (h t))
def dotF (f : List Str) (h W : Str → Int) : Int := (f.map fun t => h t * W t).sum
theorem zipD_map {α : Type} (A B : α → D) : ∀ f : List α, zipD (f.map A) (f.map B) = f.map fun t => .tuple [A t, B t]
  | [] => rfl
  | t :: f => by
    have ih := zipD_map A B f
    simp [zipD, ih]
theorem zip_of {a b : ME} {ρ : List Slot} {μ : List Cell} {A B : Str → D} {f : List Str} (ha : a ρ μ = some (.tuple (f.map A), μ)) (hb : b ρ μ = some (.tuple (f.map B), μ)) : zipItems (aC a (aC b aN)) ρ μ = some (f.map fun t => .tuple [A t, B t], μ) := by
  simp [zipItems, aC, aN, ha, hb, zipD_map]
theorem mean_by_spec {f : List Str} {s : Int} {h W : Str → Int} (hs : 0 < s) (hb : s < 65536) (hf : f.length < 65536) (hw : Wor f W) : F_mean_by [.val (chD s f h), .val (worD f W)] [] = some (frac s (dotF f h W), []) := by
  have lc : mLc true (zipItems (aC (eVar 0) (aC (eVar 1) (aN)))) [2, 3] (gT 2 (gsC (gcN 2) (gsC (gcN 3) (gsN)))) (tTrue) (eCall 2 F_lowest (rV (e2 gMul (e2 gIx (eVar 2) (eC (.int 0))) (eVar 3)) (rV (e2 gIx (eVar 2) (eC (.int 1))) (rN)))) [.val (chD s f h), .val (worD f W), .non, .non] [] = some (f.map fun t => frac s (h t * W t), []) :=
    lc_all (fun t => .tuple [frac s (h t), .int (W t)]) (fun t => frac s (h t * W t)) f (zip_of (f := f) (A := fun t => frac s (h t)) (B := fun t => .int (W t)) rfl rfl) rfl hf fun t ht => ⟨[.val (chD s f h), .val (worD f W), .val (frac s (h t)), .val (.int (W t))], by simp [gT, gsC, gsN, gcN, isOwn, wipeD], by
      have l1 := hw.lo t ht
      have l2 := hw.hi t ht
      have g : gMul (.int (nfN (h t) s)) (.int (W t)) = some (.int (nfN (h t) s * W t)) := by
        have z : mulOk (nfN (h t) s) (W t) = true := mulOk_r (by omega)
        simp [gMul, z]
      exact call2_of (e2_of (x := .int (nfN (h t) s)) (y := .int (W t)) rfl rfl g) rfl (low_worth hs hb (by omega) (by omega))⟩
  have t := total_spec hs hb (f.map fun t => h t * W t)
  rw [List.map_map] at t
  have r := ret_of (n := 0) (call1_of (F := F_total) (eF_of lc) t)
  unfold F_mean_by bodyF m_mean_by
  simp only [List.append_eq, List.replicate, List.cons_append, List.nil_append, List.length_nil]
  rw [r]
  rfl
theorem lmean_spec {f : List Str} {s : Int} {h W : Str → Int} (hs : 0 < s) (hb : s < 65536) (hf : f.length < 65536) (hw : Wor f W) : F_law_mean [.val (chD s f h), .val (worD f W)] [] = some (frac s (dotF f h W), []) := by
  have lc : mLc true (zipItems (aC (eVar 0) (aC (eVar 1) (aN)))) [2, 3] (gT 2 (gsC (gcN 2) (gsC (gcN 3) (gsN)))) (tTrue) (eCall 2 F_law_times (rV (eVar 2) (rV (eL gTup (aC (eVar 3) (aC (eC (.int 1)) (aN)))) (rN)))) [.val (chD s f h), .val (worD f W), .non, .non] [] = some (f.map fun t => frac s (h t * W t), []) :=
    lc_all (fun t => .tuple [frac s (h t), .int (W t)]) (fun t => frac s (h t * W t)) f (zip_of (f := f) (A := fun t => frac s (h t)) (B := fun t => .int (W t)) rfl rfl) rfl hf fun t ht => ⟨[.val (chD s f h), .val (worD f W), .val (frac s (h t)), .val (.int (W t))], by simp [gT, gsC, gsN, gcN, isOwn, wipeD], by
      have l1 := hw.lo t ht
      have l2 := hw.hi t ht
      exact call2_of rfl (tup2_of rfl rfl) (times_worth hs hb (by omega) (by omega))⟩
  have t := lsum_spec hs hb (f.map fun t => h t * W t)
  rw [List.map_map] at t
  have r := ret_of (n := 0) (call1_of (F := F_law_sum) (eF_of lc) t)
  unfold F_law_mean bodyF m_law_mean
  simp only [List.append_eq, List.replicate, List.cons_append, List.nil_append, List.length_nil]
  rw [r]
  rfl
/-! the thing with the least worth -/
def pr (W : Str → Int) (t : Str) : D := .tuple [.int (W t), .str t]
theorem dlt {W : Str → Int} (x y : Str) : (PySem.W.dataLt (pr W y) (pr W x) = true → W y ≤ W x) ∧ (PySem.W.dataLt (pr W y) (pr W x) = false → W x ≤ W y) := by
  unfold pr
  rw [PySem.W.dataLt_tuple, PySem.W.dataLt_cons (by simp [PySem.W.alike])]
  by_cases h : W y = W x
  · exact ⟨fun _ => by omega, fun _ => by omega⟩
  · rw [if_neg (by simp [PyData.eqv]; omega), PySem.W.dataLt_int]
    simp only [decide_eq_true_eq, decide_eq_false_iff_not]
    exact ⟨fun _ => by omega, fun _ => by omega⟩
theorem minD_pr (W : Str → Int) : ∀ (ys : List Str) (x : Str), ∃ c, c ∈ x :: ys ∧ PySem.W.minD (pr W x) (ys.map (pr W)) = pr W c ∧ ∀ t ∈ x :: ys, W c ≤ W t
  | [], x => ⟨x, by simp, rfl, fun t ht => by rw [show t = x by simpa using ht]; exact Int.le_refl _⟩
  | y :: ys, x => by
    have st : PySem.W.minD (pr W x) ((y :: ys).map (pr W)) = PySem.W.minD (if PySem.W.dataLt (pr W y) (pr W x) then pr W y else pr W x) (ys.map (pr W)) := rfl
    obtain ⟨d1, d2⟩ := dlt (W := W) x y
    cases e : PySem.W.dataLt (pr W y) (pr W x) with
    | true =>
      obtain ⟨c, h1, h2, h3⟩ := minD_pr W ys y
      refine ⟨c, List.mem_cons_of_mem _ h1, by rw [st, e]; exact h2, fun t ht => ?_⟩
      rcases List.mem_cons.mp ht with z | z
      · rw [z]; exact Int.le_trans (h3 y (List.mem_cons_self ..)) (d1 e)
      · exact h3 t z
    | false =>
      obtain ⟨c, h1, h2, h3⟩ := minD_pr W ys x
      refine ⟨c, ?_, by rw [st, e]; exact h2, fun t ht => ?_⟩
      · rcases List.mem_cons.mp h1 with z | z
        · rw [z]; exact List.mem_cons_self ..
        · exact List.mem_cons_of_mem _ (List.mem_cons_of_mem _ z)
      · rcases List.mem_cons.mp ht with z | z
        · rw [z]; exact h3 x (List.mem_cons_self ..)
        · rcases List.mem_cons.mp z with z | z
          · rw [z]; exact Int.le_trans (h3 x (List.mem_cons_self ..)) (d2 e)
          · exact h3 t (List.mem_cons_of_mem _ z)
theorem seq_pr (W : Str → Int) : ∀ ys : List Str, seqA (ys.map (pr W)) = true
  | [] => rfl
  | y :: ys => by
    have ih := seq_pr W ys
    simp [seqA, seqD, pr] at ih ⊢
    exact ih
theorem depth_pr (W : Str → Int) : ∀ ys : List Str, PyData.depthAll (ys.map (pr W)) ≤ 2
  | [] => by simp [PyData.depthAll]
  | y :: ys => by
    have ih := depth_pr W ys
    simp [PyData.depthAll, PyData.depth, pr] at ih ⊢
    omega
theorem best_pr (W : Str → Int) (ys : List Str) : bestOk (ys.map (pr W)) = true := by
  unfold bestOk
  simp only [Bool.and_eq_true, decide_eq_true_eq, List.all_eq_true]
  refine ⟨seq_pr W ys, fun x hx y hy => ?_, fun x hx => ?_, by have := depth_pr W ys; omega⟩
  · obtain ⟨a, _, rfl⟩ := List.mem_map.mp hx
    obtain ⟨b, _, rfl⟩ := List.mem_map.mp hy
    simp [pr, PySem.W.alike, PySem.W.alikeAll]
  · obtain ⟨a, _, rfl⟩ := List.mem_map.mp hx
    simp [pr, isNoneD]
noncomputable def pick (W : Str → Int) : List Str → Str
  | [] => ""
  | x :: ys => Classical.choose (minD_pr W ys x)
theorem pick_spec (W : Str → Int) {y : List Str} (h : y ≠ []) : pick W y ∈ y ∧ (∀ t ∈ y, W (pick W y) ≤ W t) ∧ (gBest PySem.W.minD (.list (y.map (pr W)))) = some (pr W (pick W y)) := by
  cases y with
  | nil => exact absurd rfl h
  | cons x ys =>
    obtain ⟨h1, h2, h3⟩ := Classical.choose_spec (minD_pr W ys x)
    refine ⟨h1, h3, ?_⟩
    have b := best_pr W (x :: ys)
    rw [List.map_cons] at b ⊢
    show (if bestOk (pr W x :: ys.map (pr W)) = true then _ else _) = _
    rw [if_pos b]
    exact congrArg some h2
theorem pick_least {f : List Str} {s : Int} {m : M2} (q : Mass f s m) (W : Str → Int) : Least W m (pick W) := ⟨fun p hp => (pick_spec W (q.full p hp)).1, fun p hp => (pick_spec W (q.full p hp)).2.1⟩
/-! least_of -/
def toldW (f : List Str) (W : Str → Int) : D := .dict (f.map fun t => (.str t, .int (W t)))
theorem dG_map {H : Str → D} : ∀ (f : List Str) (t : Str), t ∈ f → dG (f.map fun t => (PyData.str t, H t)) t = some (H t)
  | [], _, h => by cases h
  | x :: f, t, h => by
    rw [List.map_cons]
    unfold dG
    by_cases e : x = t
    · simp [e]
    · simp only [e, if_false]
      exact dG_map f t ((List.mem_cons.mp h).resolve_left fun z => e z.symm)
noncomputable def chooseG (f : List Str) (W : Str → Int) : List D → Option D := lamG 1 1 (e2 gIx (eL (gl1 (gBest PySem.W.minD)) (aC (eF (mLc true (anyItems (eVar 0)) [2] (gcN 2) (tTrue) (eL gTup (aC (e2 gDGet (eVar 1) (eVar 2)) (aC (eVar 2) (aN)))))) (aN))) (eC (.int 1))) [.val (toldW f W)]
theorem choose_spec {f y : List Str} (W : Str → Int) (hy : y ≠ []) (hs : ∀ t ∈ y, t ∈ f) (hl : y.length < 65536) : chooseG f W [setD y] = some (.str (pick W y)) := by
  have lc : mLc true (anyItems (eVar 0)) [2] (gcN 2) (tTrue) (eL gTup (aC (e2 gDGet (eVar 1) (eVar 2)) (aC (eVar 2) (aN)))) [.val (setD y), .val (toldW f W), .non] [] = some (y.map (pr W), []) :=
    lc_all PyData.str (pr W) y (items_tup rfl) rfl hl fun t ht => ⟨[.val (setD y), .val (toldW f W), .val (.str t)], rfl, tup2_of (e2_of (x := toldW f W) (y := .str t) rfl rfl (dG_map (H := fun t => .int (W t)) f t (hs t ht))) rfl⟩
  have b := (pick_spec W hy).2.2
  have e := e2_of (g := gIx) (eL1_of (g := gBest PySem.W.minD) (eF_of lc) b) (show eC (.int 1) _ [] = some (.int 1, []) from rfl) (show gIx (pr W (pick W y)) (.int 1) = some (.str (pick W y)) from rfl)
  unfold chooseG lamG
  simp only [List.length_cons, List.length_nil, if_true, List.map_cons, List.map_nil, List.cons_append, List.nil_append, List.replicate, List.append_eq]
  rw [e]
  rfl
def acc (c : List Str → Str) (m : M2) (t : Str) : Int := gp (fun y => decide (c y = t)) m
theorem acc_dot {f : List Str} (hf : f.Nodup) (c : List Str → Str) (W : Str → Int) : ∀ m : M2, (∀ p ∈ m, c p.1 ∈ f) → dotF f (acc c m) W = dot (fun y => W (c y)) m
  | [], _ => by
    have : ∀ f : List Str, dotF f (acc c []) W = 0 := fun f => by
      induction f with
      | nil => rfl
      | cons t f ih =>
        unfold dotF at ih ⊢
        rw [List.map_cons, List.sum_cons, ih]
        simp [acc, gp]
    rw [this]
    rfl
  | p :: m, h => by
    have ih := acc_dot hf c W m fun x hx => h x (List.mem_cons_of_mem _ hx)
    rw [dot_cons, ← ih]
    have hp := h p (List.mem_cons_self ..)
    have split : ∀ g : List Str, dotF g (acc c (p :: m)) W = dotF g (fun t => if c p.1 = t then p.2 else 0) W + dotF g (acc c m) W := fun g => by
      induction g with
      | nil => rfl
      | cons t g ihg =>
        unfold dotF at ihg ⊢
        rw [List.map_cons, List.sum_cons, List.map_cons, List.sum_cons, List.map_cons, List.sum_cons, ihg]
        have : acc c (p :: m) t = (if c p.1 = t then p.2 else 0) + acc c m t := by
          unfold acc
          rw [gp_cons]
          simp only [decide_eq_true_eq]
        rw [this, Int.add_mul]
        dsimp only
        omega
    have one : ∀ g : List Str, g.Nodup → dotF g (fun t => if c p.1 = t then p.2 else 0) W = if c p.1 ∈ g then p.2 * W (c p.1) else 0 := fun g => by
      induction g with
      | nil => intro _; rfl
      | cons t g ihg =>
        intro hn
        obtain ⟨n1, n2⟩ := List.nodup_cons.mp hn
        have ihg := ihg n2
        unfold dotF at ihg ⊢
        rw [List.map_cons, List.sum_cons, ihg]
        dsimp only
        by_cases z : c p.1 = t
        · have : c p.1 ∉ g := by rw [z]; exact n1
          rw [if_pos z, if_neg this, if_pos (by rw [z]; exact List.mem_cons_self ..), z]
          omega
        · rw [if_neg z]
          by_cases z2 : c p.1 ∈ g
          · rw [if_pos z2, if_pos (List.mem_cons_of_mem _ z2)]; omega
          · rw [if_neg z2, if_neg (fun w => (List.mem_cons.mp w).elim z z2)]; omega
    rw [split, one f hf, if_pos hp]
end K26
end
section
set_option linter.all false
set_option maxRecDepth 100000
set_option maxHeartbeats 4000000
/-! V3: k26: least_of, checks, the program's three. -/
namespace K26
open PySem PD
theorem dPut_map {H : Str → D} {k : Str} {d : D} {f : List Str} (h : k ∈ f) : dPut (f.map fun t => (t, H t)) k d = f.map fun t => (t, if t = k then d else H t) := by
  unfold dPut
  rw [if_pos, List.map_map]
  · refine List.map_congr_left fun t _ => ?_
    dsimp only [Function.comp]
    by_cases e : t = k <;> simp [e]
  · exact List.any_eq_true.mpr ⟨(k, H k), List.mem_map.mpr ⟨k, h, rfl⟩, by simp⟩
theorem dGet_map {H : Str → D} : ∀ (f : List Str) (t : Str), t ∈ f → dGet (f.map fun t => (t, H t)) t = some (H t)
  | [], _, h => by cases h
  | x :: f, t, h => by
    rw [List.map_cons]
    unfold dGet
    by_cases e : x = t
    · simp [e]
    · simp only [e, if_false]
      exact dGet_map f t ((List.mem_cons.mp h).resolve_left fun z => e z.symm)
theorem acc_snoc (c : List Str → Str) (t : Str) (p : List Str × Int) : ∀ m : M2, acc c (m ++ [p]) t = acc c m t + (if c p.1 = t then p.2 else 0)
  | [] => by
    show acc c [p] t = _
    unfold acc
    rw [gp_cons]
    simp [gp]
  | x :: m => by
    have ih := acc_snoc c t p m
    unfold acc at ih ⊢
    rw [List.cons_append, gp_cons, gp_cons, ih]
    omega
def accC (s : Int) (f : List Str) (c : List Str → Str) (m : M2) : Cell := .dct (f.map fun t => (t, frac s (acc c m t)))
theorem given_spec {f : List Str} {s : Int} {m : M2} (q : Mass f s m) (hf : Frame f) {G : List D → Option D} {c : List Str → Str} (hG : ∀ p ∈ m, G [setD p.1] = some (.str (c p.1))) (hcf : ∀ p ∈ m, c p.1 ∈ f) : F_given_to [.val (setD f), .val (massD s m), .fn G] [] = some (chD s f (acc c m), []) := by
  suffices h : wp (F_given_to [.val (setD f), .val (massD s m), .fn G] []) fun d μ => μ = [] ∧ d = chD s f (acc c m) by
    obtain ⟨d, m, e, rfl, rfl⟩ := h
    exact e
  have fl := hf.few
  have nf := inc_nodup hf.inc
  refine wp_body ?_
  unfold m_given_to
  have z1 : nDcK 6 (eVar 0) c_NOTHING [.val (setD f), .val (massD s m), .fn G, .non, .non, .non, .non] [] = some (accC s f c [], []) := by
    unfold nDcK
    simp only [eVar, List.getElem?_cons_zero, Option.bind_some]
    dsimp only [setD]
    rw [strs_of, Option.bind_some, if_pos ⟨nf, by omega, by simp⟩]
    have : ∀ t, frac s (acc c [] t) = c_NOTHING := fun t => by
      rw [show acc c [] t = 0 from rfl, ← frac_zero q.ok.pos]
      rfl
    simp [accC, this]
  refine ws_seq (ws_newC (wp_of z1 ?_))
  refine ws_seq (ws_for (wp_any (wp_of (a := massD s m) (b := [accC s f c []]) rfl (wp1_of (a := m.map (pairD s)) rfl ?_))))
  refine ⟨fun ds ρ μ => ∃ (done rest : M2) (a4 a5 a6 : Slot), isV a4 = true ∧ isV a5 = true ∧ isV a6 = true ∧ done ++ rest = m ∧ ds = rest.map (pairD s) ∧ ρ = [.val (setD f), .val (massD s m), .fn G, .own 0, a4, a5, a6] ∧ μ = [accC s f c done], ⟨[], m, .non, .non, .non, rfl, rfl, rfl, rfl, rfl, rfl, rfl⟩, ?_, ?_⟩
  · rintro d ds _ _ ⟨done, rest, a4, a5, a6, h4, h5, h6, hdr, hd, rfl, rfl⟩
    cases rest with
    | nil => simp at hd
    | cons p rest =>
      simp only [List.map_cons, List.cons.injEq] at hd
      obtain ⟨rfl, rfl⟩ := hd
      have hp : p ∈ m := by rw [← hdr]; simp
      have hg := hG p hp
      have hc := hcf p hp
      refine wp_of (a := [.val (setD f), .val (massD s m), .fn G, .own 0, .val (setD p.1), .val (frac s p.2), a6]) (b := [accC s f c done]) rfl ?_
      have e1 : eFn 2 (aC (eVar 4) (aN)) [.val (setD f), .val (massD s m), .fn G, .own 0, .val (setD p.1), .val (frac s p.2), a6] [accC s f c done] = some (.str (c p.1), [accC s f c done]) := by
        simp [eFn, aC, aN, eVar, hg]
      refine ws_seq (ws_as (wp_of e1 (wp_some.mpr ?_)))
      have e2 : eGetD 3 (eVar 6) [.val (setD f), .val (massD s m), .fn G, .own 0, .val (setD p.1), .val (frac s p.2), .val (.str (c p.1))] [accC s f c done] = some (frac s (acc c done (c p.1)), [accC s f c done]) :=
        getD_of (s := c p.1) (c := 0) (kvs := f.map fun t => (t, frac s (acc c done t))) rfl rfl (dGet_map f (c p.1) hc)
      have e3 := callm2 (F := F_plus) (a := eGetD 3 (eVar 6)) (b := eVar 5) e2 (x' := frac s p.2) rfl (plus_spec q.ok.pos q.ok.low)
      refine ws_putD (wp_of e3 (wp_of (a := .str (c p.1)) (b := [accC s f c done]) rfl ⟨c p.1, 0, f.map fun t => (t, frac s (acc c done t)), rfl, rfl, by rw [List.length_map]; exact small_lt (by omega), ?_⟩))
      have hput : (dPut (f.map fun t => (t, frac s (acc c done t))) (c p.1) (frac s (acc c done (c p.1) + p.2))) = f.map fun t => (t, frac s (acc c (done ++ [p]) t)) := by
        rw [dPut_map hc]
        refine List.map_congr_left fun t _ => ?_
        rw [acc_snoc]
        by_cases e : t = c p.1
        · rw [if_pos e, if_pos e.symm, e]
        · rw [if_neg e, if_neg (fun z => e z.symm), Int.add_zero]
      rw [hput]
      exact ⟨done ++ [p], rest, .val (setD p.1), .val (frac s p.2), .val (.str (c p.1)), rfl, rfl, rfl, by simpa using hdr, rfl, by simp [truncS], by simp [accC]⟩
  · rintro _ _ ⟨done, rest, a4, a5, a6, h4, h5, h6, hdr, hd, rfl, rfl⟩
    have hr : rest = [] := by
      cases rest with
      | nil => rfl
      | cons => simp at hd
    subst hr
    rw [List.append_nil] at hdr
    subst hdr
    have lc : mLc true (anyItems (eVar 0)) [6] (gcN 6) (tTrue) (eGetD 3 (eVar 6)) [.val (setD f), .val (massD s done), .fn G, .own 0, a4, a5, a6] [accC s f c done] = some (f.map fun t => frac s (acc c done t), [accC s f c done]) :=
      lc_all PyData.str (fun t => frac s (acc c done t)) f (items_tup rfl) (by simp [noOwn, isOwn]; cases a6 <;> simp_all [isV]) (by omega) fun t ht => ⟨[.val (setD f), .val (massD s done), .fn G, .own 0, a4, a5, .val (.str t)], rfl, getD_of (s := t) (c := 0) (kvs := f.map fun t => (t, frac s (acc c done t))) rfl rfl (dGet_map f t ht)⟩
    exact ws_ret0 (wp_of (eL1_of (g := gTuple) (eF_of lc) rfl) ⟨rfl, rfl⟩)
/-- the worths as a tuple or a list -/
def isWor (f : List Str) (W : Str → Int) (d : D) : Prop := d = worD f W ∨ d = .list (f.map fun t => .int (W t))
theorem told_of {f : List Str} {W : Str → Int} {d : D} (hf : Frame f) (h : isWor f W d) {a b : ME} {ρ : List Slot} {μ : List Cell} (ha : a ρ μ = some (setD f, μ)) (hb : b ρ μ = some (d, μ)) : eN (nDzip2 (aC a (aC b aN))) ρ μ = some (toldW f W, μ) := by
  have nf := inc_nodup hf.inc
  have one := hf.one
  have e0 : aC a (aC b aN) ρ μ = some ([setD f, d], μ) := by simp [aC, aN, ha, hb]
  have z : nDzip2 (aC a (aC b aN)) ρ μ = some (.dct (f.map fun t => (t, .int (W t))), μ) := by
    unfold nDzip2
    rw [e0, Option.bind_some]
    have zz : ∀ g : List Str, g.zip (g.map fun t => PyData.int (W t)) = g.map fun t => (t, PyData.int (W t)) := fun g => by
      induction g with
      | nil => rfl
      | cons t g ih => rw [List.map_cons, List.zip_cons_cons, ih]; rfl
    rcases h with rfl | rfl
    · dsimp only [setD, worD]
      rw [strs_of, Option.bind_some, if_pos ⟨nf, by simp⟩, zz]
    · dsimp only [setD]
      rw [strs_of, Option.bind_some, if_pos ⟨nf, by simp⟩, zz]
  unfold eN
  rw [z, Option.bind_some]
  cases f with
  | nil => simp at one
  | cons t f =>
    simp [toldW]
theorem least_of_spec {f : List Str} {s : Int} {m : M2} (q : Mass f s m) (hf : Frame f) {W : Str → Int} {d : D} (h : isWor f W d) : F_least_of [.val (setD f), .val (massD s m), .val d] [] = some (chD s f (acc (pick W) m), []) := by
  have g := given_spec q hf (G := chooseG f W) (c := pick W) (fun p hp => choose_spec W (q.full p hp) (q.sub p hp) (q.ok.lens p hp)) fun p hp => q.sub p hp _ (pick_spec W (q.full p hp)).1
  have t := told_of hf h (a := eVar 0) (b := eVar 2) (ρ := [.val (setD f), .val (massD s m), .val d, .non, .non]) (μ := []) rfl rfl
  have s1 : sAs (eN (nDzip2 (aC (eVar 0) (aC (eVar 2) (aN))))) (gN 3) 0 [.val (setD f), .val (massD s m), .val d, .non, .non] [] = some (.next [.val (setD f), .val (massD s m), .val d, .val (toldW f W), .non] []) := by
    unfold sAs
    rw [t]
    rfl
  have s2 : eHo 3 F_given_to (lC (eVar 0) (lC (eVar 1) (lLam 1 1 [3] (e2 gIx (eL (gl1 (gBest PySem.W.minD)) (aC (eF (mLc true (anyItems (eVar 0)) [2] (gcN 2) (tTrue) (eL gTup (aC (e2 gDGet (eVar 1) (eVar 2)) (aC (eVar 2) (aN)))))) (aN))) (eC (.int 1)))))) [.val (setD f), .val (massD s m), .val d, .val (toldW f W), .non] [] = some (chD s f (acc (pick W) m), []) := by
    have gg : F_given_to [.val (setD f), .val (massD s m), .fn (chooseG f W)] [] = some (chD s f (acc (pick W) m), []) := g
    unfold eHo
    simp only [lC, lLam, eVar, List.getElem?_cons_zero, List.getElem?_cons_succ, Option.bind_some, capS, List.map_cons, List.map_nil, capO, List.cons_append, List.nil_append, Option.map_some]
    show Option.bind (F_given_to [.val (setD f), .val (massD s m), .fn (chooseG f W)] []) _ = _
    rw [gg]
    rfl
  unfold F_least_of bodyF m_least_of
  simp only [sSeq, List.append_eq, List.replicate, List.cons_append, List.nil_append, List.length_nil, s1, Option.bind_some]
  rw [ret_of s2]
  rfl
/-! checks -/
theorem all_spec {ds : List D} {G : List D → Option D} (hG : ∀ d ∈ ds, G [d] = some (.bool true)) (hl : ds.length < 65536) : F_wrong_in_all [.val (.tuple ds), .val (.int ds.length), .fn G] [] = some (.list [], []) := by
  have w := wrong_in_spec (ds := ds) (l := ds.length) (o := some ds.length) (G := lamG 2 0 (eFn 2 (aC (eVar 1) (aN))) [.fn G]) (Int.le_refl _) (by simp [topOk]) fun i hi => by
    simp [lamG, eFn, aC, aN, eVar, hG _ (List.getElem_mem hi)]
  have t : F_is_tuple_of [.val (.tuple ds), .val (.int ds.length)] [] = some (.bool true, []) := by
    simp [F_is_tuple_of, bodyF, m_is_tuple_of, sRet, eAnd, eIs, isX, isTup, eVar, gBool, e2, eL, gl1, gLen, aC, aN, gEq_int, okB, B0]
  have c1 := tV_of (call2_of (F := F_is_tuple_of) (a := eVar 0) (b := eVar 1) (ρ := [.val (.tuple ds), .val (.int ds.length), .fn G]) rfl rfl t)
  have c2 : eHo 4 F_wrong_in (lC (eVar 0) (lC (eVar 1) (lC (eVar 1) (lLam 2 0 [2] (eFn 2 (aC (eVar 1) (aN))))))) [.val (.tuple ds), .val (.int ds.length), .fn G] [] = some (.list [], []) := by
    unfold eHo
    simp only [lC, lLam, eVar, List.getElem?_cons_zero, List.getElem?_cons_succ, Option.bind_some, capS, List.map_cons, List.map_nil, capO, List.cons_append, List.nil_append, Option.map_some]
    have w' : F_wrong_in [.val (.tuple ds), .val (.int ds.length), .val (.int ds.length), .fn (lamG 2 0 (eFn 2 (aC (eVar 1) (aN))) [.fn G])] [] = some (.list [], []) := w
    show Option.bind (F_wrong_in [.val (.tuple ds), .val (.int ds.length), .val (.int ds.length), .fn (lamG 2 0 (eFn 2 (aC (eVar 1) (aN))) [.fn G])] []) _ = _
    rw [w']
    rfl
  have c3 : eIf (tV (eCall 2 F_is_tuple_of (rV (eVar 0) (rV (eVar 1) (rN))))) (eHo 4 F_wrong_in (lC (eVar 0) (lC (eVar 1) (lC (eVar 1) (lLam 2 0 [2] (eFn 2 (aC (eVar 1) (aN)))))))) (eL gLst (aC (eC .none) (aN))) [.val (.tuple ds), .val (.int ds.length), .fn G] [] = some (.list [], []) := by
    unfold eIf
    rw [c1, Option.bind_some]
    dsimp only
    rw [if_pos rfl]
    exact c2
  unfold F_wrong_in_all bodyF m_wrong_in_all
  simp only [List.append_eq, List.replicate, List.cons_append, List.nil_append, List.length_nil, List.append_nil]
  rw [ret_of c3]
  rfl
theorem worth_spec {w : Int} (h1 : -99 ≤ w) (h2 : w ≤ 99) : F_is_worth [.val (.int w)] [] = some (.bool true, []) := by
  have b : F_is_between [.val (.int w), .val (.int (-99)), .val (.int 99)] [] = some (.bool true, []) := by
    have c := call1_of (F := F_is_whole) (a := eVar 0) (ρ := [.val (.int w), .val (.int (-99)), .val (.int 99)]) rfl (whole_spec w)
    simp [F_is_between, bodyF, m_is_between, sRet, eAnd, c, gBool, e3, eVar, gLe, h1, h2, okB, B0]
  have c := call3_of (F := F_is_between) (a := eVar 0) (b := e1 gNeg (eC c_MOST_WORTH)) (c := eC c_MOST_WORTH) (ρ := [.val (.int w)]) (x := .int w) (x' := .int (-99)) (x2 := .int 99) rfl rfl rfl b
  unfold F_is_worth bodyF m_is_worth
  simp only [List.append_eq, List.replicate, List.cons_append, List.nil_append, List.length_nil, List.append_nil]
  rw [ret_of c]
  rfl
theorem wrong_worths {f : List Str} {W : Str → Int} (hf : Frame f) (hw : Wor f W) : F_wrong_in_worths [.val (setD f), .val (worD f W)] [] = some (.list [], []) := by
  have fl := hf.few
  have a := all_spec (ds := f.map fun t => .int (W t)) (G := fnG 1 F_is_worth) (fun d hd => by
    obtain ⟨t, ht, rfl⟩ := List.mem_map.mp hd
    simp [fnG, worth_spec (hw.lo t ht) (hw.hi t ht)]) (by simp; omega)
  have ln : gLen (setD f) = some (.int f.length) := by simp [gLen, setD]
  have c : eHo 3 F_wrong_in_all (lC (eVar 1) (lC (eL (gl1 gLen) (aC (eVar 0) (aN))) (lFn (fnG 1 F_is_worth)))) [.val (setD f), .val (worD f W)] [] = some (.list [], []) := by
    have l := eL1_of (g := gLen) (a := eVar 0) (ρ := [.val (setD f), .val (worD f W)]) (μ := []) (μ' := []) (x := setD f) rfl ln
    unfold eHo
    simp only [lC, lFn, l, eVar, List.getElem?_cons_zero, List.getElem?_cons_succ, Option.bind_some, Option.map_some]
    have a' : F_wrong_in_all [.val (worD f W), .val (.int f.length), .fn (fnG 1 F_is_worth)] [] = some (.list [], []) := by
      rw [List.length_map] at a
      exact a
    show Option.bind (F_wrong_in_all [.val (worD f W), .val (.int f.length), .fn (fnG 1 F_is_worth)] []) _ = _
    rw [a']
    rfl
  unfold F_wrong_in_worths bodyF m_wrong_in_worths
  simp only [List.append_eq, List.replicate, List.cons_append, List.nil_append, List.length_nil, List.append_nil]
  rw [ret_of c]
  rfl
theorem check_worths_spec {f : List Str} {W : Str → Int} (hf : Frame f) (hw : Wor f W) : F_check_worths [.val (setD f), .val (worD f W)] [] = some (.none, []) := by
  have i := items_list (call2_of (F := F_wrong_in_worths) (a := eVar 0) (b := eVar 1) (ρ := [.val (setD f), .val (worD f W), .non]) rfl rfl (wrong_worths hf hw))
  simp [F_check_worths, bodyF, m_check_worths, sFor, i, forD]
theorem check_worth_spec {f : List Str} {s : Int} {m : M2} {W : Str → Int} (hf : Frame f) (q : Mass f s m) (hw : Wor f W) : F_check_worth [.val (setD f), .val (massD s m), .val (worD f W)] [] = some (.none, []) := by
  have c1 := call2_of (F := F_check_masses) (a := eVar 0) (b := eVar 1) (ρ := [.val (setD f), .val (massD s m), .val (worD f W)]) rfl rfl (check_masses_spec hf q)
  have c2 := call2_of (F := F_check_worths) (a := eVar 0) (b := eVar 2) (ρ := [.val (setD f), .val (massD s m), .val (worD f W)]) rfl rfl (check_worths_spec hf hw)
  simp [F_check_worth, bodyF, m_check_worth, sSeq, sEx, c1, c2]
noncomputable def LW (W : Str → Int) (m : M2) : Int := dot (fun y => W (pick W y)) m
section
variable {f : List Str} {s : Int} {m : M2} (q : Mass f s m) (hf : Frame f) {W : Str → Int} (hw : Wor f W)
include q hf hw
theorem least_worth_spec : F_least_worth [.val (setD f), .val (massD s m), .val (worD f W)] [] = some (frac s (LW W m), []) := by
  have c0 := call3_of (F := F_check_worth) (a := eVar 0) (b := eVar 1) (c := eVar 2) (ρ := [.val (setD f), .val (massD s m), .val (worD f W)]) rfl rfl rfl (check_worth_spec hf q hw)
  have l := call3_of (F := F_least_of) (a := eVar 0) (b := eVar 1) (c := eVar 2) (ρ := [.val (setD f), .val (massD s m), .val (worD f W)]) rfl rfl rfl (least_of_spec q hf (.inl rfl : isWor f W (worD f W)))
  have mb := mean_by_spec (f := f) (h := acc (pick W) m) q.ok.pos q.ok.low (by have := hf.few; omega) hw
  rw [acc_dot (inc_nodup hf.inc) (pick W) W m fun p hp => q.sub p hp _ (pick_spec W (q.full p hp)).1] at mb
  have lm : F_least_mean [.val (setD f), .val (massD s m), .val (worD f W)] [] = some (frac s (LW W m), []) := by
    have c := call2_of (F := F_mean_by) l (x' := worD f W) (b := eVar 2) rfl mb
    unfold F_least_mean bodyF m_least_mean
    simp only [List.append_eq, List.replicate, List.cons_append, List.nil_append, List.length_nil, List.append_nil]
    rw [ret_of c]
    rfl
  have c := call3_of (F := F_least_mean) (a := eVar 0) (b := eVar 1) (c := eVar 2) (ρ := [.val (setD f), .val (massD s m), .val (worD f W)]) rfl rfl rfl lm
  simp [F_least_worth, bodyF, m_least_worth, sSeq, sEx, c0, c, sRet, okB, B0]
theorem greatest_worth_spec : F_greatest_worth [.val (setD f), .val (massD s m), .val (worD f W)] [] = some (frac s (-(LW (fun t => -W t) m)), []) := by
  have fl := hf.few
  have c0 := call3_of (F := F_check_worth) (a := eVar 0) (b := eVar 1) (c := eVar 2) (ρ := [.val (setD f), .val (massD s m), .val (worD f W)]) rfl rfl rfl (check_worth_spec hf q hw)
  have lc : mLc true (anyItems (eVar 2)) [3] (gcN 3) (tTrue) (e1 gNeg (eVar 3)) [.val (setD f), .val (massD s m), .val (worD f W), .non] [] = some (f.map fun t => .int (-W t), []) :=
    lc_all (fun t => .int (W t)) (fun t => .int (-W t)) f (items_tup rfl) rfl (by omega) fun t ht => ⟨[.val (setD f), .val (massD s m), .val (worD f W), .val (.int (W t))], rfl, rfl⟩
  have go : F_greatest_of [.val (setD f), .val (massD s m), .val (worD f W)] [] = some (chD s f (acc (pick fun t => -W t) m), []) := by
    have c := call3_of (F := F_least_of) (a := eVar 0) (b := eVar 1) (ρ := [.val (setD f), .val (massD s m), .val (worD f W), .non]) (x := setD f) (x' := massD s m) rfl rfl (eF_of lc) (least_of_spec q hf (.inr rfl : isWor f (fun t => -W t) (.list (f.map fun t => .int (-W t)))))
    unfold F_greatest_of bodyF m_greatest_of
    simp only [List.append_eq, List.replicate, List.cons_append, List.nil_append, List.length_nil, List.append_nil]
    rw [ret_of c]
    rfl
  have l := call3_of (F := F_greatest_of) (a := eVar 0) (b := eVar 1) (c := eVar 2) (ρ := [.val (setD f), .val (massD s m), .val (worD f W)]) rfl rfl rfl go
  have mb := mean_by_spec (f := f) (h := acc (pick fun t => -W t) m) q.ok.pos q.ok.low (by omega) hw
  rw [acc_dot (inc_nodup hf.inc) (pick fun t => -W t) W m fun p hp => q.sub p hp _ (pick_spec (fun t => -W t) (q.full p hp)).1] at mb
  have e : dot (fun y => W (pick (fun t => -W t) y)) m = -(LW (fun t => -W t) m) := by
    unfold LW
    rw [← dot_neg]
    refine dot_congr fun p _ => ?_
    dsimp only
    omega
  rw [e] at mb
  have lm : F_greatest_mean [.val (setD f), .val (massD s m), .val (worD f W)] [] = some (frac s (-(LW (fun t => -W t) m)), []) := by
    have c := call2_of (F := F_mean_by) l (x' := worD f W) (b := eVar 2) rfl mb
    unfold F_greatest_mean bodyF m_greatest_mean
    simp only [List.append_eq, List.replicate, List.cons_append, List.nil_append, List.length_nil, List.append_nil]
    rw [ret_of c]
    rfl
  have c := call3_of (F := F_greatest_mean) (a := eVar 0) (b := eVar 1) (c := eVar 2) (ρ := [.val (setD f), .val (massD s m), .val (worD f W)]) rfl rfl rfl lm
  simp [F_greatest_worth, bodyF, m_greatest_worth, sSeq, sEx, c0, c, sRet, okB, B0]
end
/-! mean_of -/
theorem share_spec {r s : Int} (hs : 0 < s) (hr : 0 ≤ r) : F_is_share [.val (frac s r)] [] = some (.bool true, []) := by
  have c := call1_of (F := F_is_fraction) (a := eVar 0) (ρ := [.val (frac s r)]) rfl (fraction_spec r hs)
  have n : 0 ≤ nfN r s := Int.ediv_nonneg hr (by omega)
  have g : e2 gGe (e2 gIx (eVar 0) (eC (.int 0))) (eC (.int 0)) [.val (frac s r)] [] = some (.bool true, []) :=
    e2_of (x := .int (nfN r s)) (y := .int 0) rfl rfl (by simp [gGe, n])
  simp [F_is_share, bodyF, m_is_share, sRet, eAnd, c, gBool, g, okB, B0]
structure Cha (f : List Str) (s : Int) (h : Str → Int) : Prop where
  nn : ∀ t ∈ f, 0 ≤ h t
  sum : (f.map h).sum = s
theorem total_tup {s : Int} (hs : 0 < s) (hb : s < 65536) (rs : List Int) : F_total [.val (.tuple (rs.map (frac s)))] [] = some (frac s rs.sum, []) := by
  obtain ⟨e', h1, h2⟩ := total_loop hs hb (.val (.tuple (rs.map (frac s)))) rfl 0 rs 0 .non rfl
  rw [Int.zero_add] at h2
  have z : c_NOTHING = frac s 0 := by rw [← frac_zero hs]; rfl
  simp [F_total, bodyF, m_total, sSeq, sAs, eC, gN, z, sFor, anyItems, tupItems, eVar, sRet, okB, B0, h2, flat_frac]
theorem wrong_chances {f : List Str} {s : Int} {h : Str → Int} (hf : Frame f) (hs : 0 < s) (hb : s < 65536) (hh : Cha f s h) : F_wrong_in_chances [.val (setD f), .val (chD s f h)] [] = some (.list [], []) := by
  have fl := hf.few
  have a := all_spec (ds := f.map fun t => frac s (h t)) (G := fnG 1 F_is_share) (fun d hd => by
    obtain ⟨t, ht, rfl⟩ := List.mem_map.mp hd
    simp [fnG, share_spec hs (hh.nn t ht)]) (by simp; omega)
  have ln : gLen (setD f) = some (.int f.length) := by simp [gLen, setD]
  have c : eHo 3 F_wrong_in_all (lC (eVar 1) (lC (eL (gl1 gLen) (aC (eVar 0) (aN))) (lFn (fnG 1 F_is_share)))) [.val (setD f), .val (chD s f h), .non] [] = some (.list [], []) := by
    have l := eL1_of (g := gLen) (a := eVar 0) (ρ := [.val (setD f), .val (chD s f h), .non]) (μ := []) (μ' := []) (x := setD f) rfl ln
    unfold eHo
    simp only [lC, lFn, l, eVar, List.getElem?_cons_zero, List.getElem?_cons_succ, Option.bind_some, Option.map_some]
    have a' : F_wrong_in_all [.val (chD s f h), .val (.int f.length), .fn (fnG 1 F_is_share)] [] = some (.list [], []) := by
      rw [List.length_map] at a
      exact a
    show Option.bind (F_wrong_in_all [.val (chD s f h), .val (.int f.length), .fn (fnG 1 F_is_share)] []) _ = _
    rw [a']
    rfl
  have t : F_total [.val (chD s f h)] [] = some (frac s s, []) := by
    have tt := total_tup hs hb (f.map h)
    rw [List.map_map, hh.sum] at tt
    exact tt
  have c4 : tV (e2 gEq (eCall 1 F_total (rV (eVar 1) (rN))) (eC c_WHOLE)) [.val (setD f), .val (chD s f h), .val (.list [])] [] = some (true, []) := by
    refine tV_of (e2_of (x := frac s s) (y := frac s s) (call1_of rfl t) (by rw [← frac_one hs]; rfl) ?_)
    rw [frac_gEq hs]; simp
  unfold F_wrong_in_chances bodyF m_wrong_in_chances
  have s1 : sAs (eHo 3 F_wrong_in_all (lC (eVar 1) (lC (eL (gl1 gLen) (aC (eVar 0) (aN))) (lFn (fnG 1 F_is_share))))) (gN 2) 0 [.val (setD f), .val (chD s f h), .non] [] = some (.next [.val (setD f), .val (chD s f h), .val (.list [])] []) := by
    unfold sAs
    rw [c]
    rfl
  have c5 : eIf (tV (e2 gEq (eCall 1 F_total (rV (eVar 1) (rN))) (eC c_WHOLE))) (eL gLst (aN)) (eL gLst (aC (eC .none) (aN))) [.val (setD f), .val (chD s f h), .val (.list [])] [] = some (.list [], []) := by
    unfold eIf
    rw [c4, Option.bind_some]
    simp [eL, aN, gLst]
  simp only [sSeq, List.append_eq, List.replicate, List.cons_append, List.nil_append, List.length_nil, s1, Option.bind_some]
  rw [sIf_f (tV_of (e2_of (x := .list []) (y := .list []) (z := .bool false) rfl (by simp [eL, aN, gLst]) (by rfl))), Option.bind_some]
  dsimp only
  rw [ret_of c5]
  rfl
end K26
end
section
set_option linter.all false
set_option maxRecDepth 100000
set_option maxHeartbeats 4000000
/-! V4: k26: means, the least of them, the corners. -/
namespace K26
open PySem PD
theorem check_chances_spec {f : List Str} {s : Int} {h : Str → Int} (hf : Frame f) (hs : 0 < s) (hb : s < 65536) (hh : Cha f s h) : F_check_chances [.val (setD f), .val (chD s f h)] [] = some (.none, []) := by
  have i := items_list (call2_of (F := F_wrong_in_chances) (a := eVar 0) (b := eVar 1) (ρ := [.val (setD f), .val (chD s f h), .non]) rfl rfl (wrong_chances hf hs hb hh))
  simp [F_check_chances, bodyF, m_check_chances, sFor, i, forD]
theorem mean_of_spec {f : List Str} {s : Int} {h W : Str → Int} (hf : Frame f) (hs : 0 < s) (hb : s < 65536) (hh : Cha f s h) (hw : Wor f W) : F_mean_of [.val (setD f), .val (chD s f h), .val (worD f W)] [] = some (frac s (dotF f h W), []) := by
  have fl := hf.few
  have c0 := call1_of (F := F_check_frame) (a := eVar 0) (ρ := [.val (setD f), .val (chD s f h), .val (worD f W)]) rfl (check_frame_spec hf)
  have c1 := call2_of (F := F_check_chances) (a := eVar 0) (b := eVar 1) (ρ := [.val (setD f), .val (chD s f h), .val (worD f W)]) rfl rfl (check_chances_spec hf hs hb hh)
  have c2 := call2_of (F := F_check_worths) (a := eVar 0) (b := eVar 2) (ρ := [.val (setD f), .val (chD s f h), .val (worD f W)]) rfl rfl (check_worths_spec hf hw)
  have c3 := call2_of (F := F_mean_by) (a := eVar 1) (b := eVar 2) (ρ := [.val (setD f), .val (chD s f h), .val (worD f W)]) rfl rfl (mean_by_spec hs hb (by omega) hw)
  simp [F_mean_of, bodyF, m_mean_of, sSeq, sEx, c0, c1, c2, c3, sRet, okB, B0]
theorem up_same {a b s : Int} (hs : 0 < s) (hb : s < 65536) : F_law_up_to [.val (frac s a), .val (frac s b)] [] = some (.bool (decide (a ≤ b)), []) := by
  have u := up_spec (q := s) (r := a) (q' := s) (r' := b) hs hb hs hb
  have : (a * s ≤ b * s) ↔ a ≤ b := ⟨fun h => Int.le_of_mul_le_mul_right h hs, fun h => Int.mul_le_mul_of_nonneg_right h (Int.le_of_lt hs)⟩
  rw [decide_eq_decide.mpr this] at u
  exact u
theorem least_loop {s : Int} (hs : 0 < s) (hb : s < 65536) (S : Slot) (hS : isV S = true) (n0 : Nat) : ∀ (as : List Int) (lo : Int) (e : Slot), isV e = true →
    ∃ lo' e', isV e' = true ∧ (lo' = lo ∨ lo' ∈ as) ∧ lo' ≤ lo ∧ (∀ a ∈ as, lo' ≤ a) ∧
      forD (gN 2) (sAs (eIf (tV (eCall 2 F_law_up_to (rV (eVar 2) (rV (eVar 1) (rN))))) (eVar 2) (eVar 1)) (gN 1)) n0 0 (as.map (frac s)) [S, .val (frac s lo), e] [] = some (.next [S, .val (frac s lo'), e'] [])
  | [], lo, e, he => ⟨lo, e, he, .inl rfl, Int.le_refl _, fun a h => by (cases h), rfl⟩
  | a :: as, lo, e, he => by
    have c1 := tV_of (call2_of (F := F_law_up_to) (a := eVar 2) (b := eVar 1) (ρ := [S, .val (frac s lo), .val (frac s a)]) rfl rfl (up_same hs hb (a := a) (b := lo)))
    obtain ⟨lo', e', he', h1, h2, h3, h4⟩ := least_loop hs hb S hS n0 as (if a ≤ lo then a else lo) (.val (frac s a)) rfl
    have st : sAs (eIf (tV (eCall 2 F_law_up_to (rV (eVar 2) (rV (eVar 1) (rN))))) (eVar 2) (eVar 1)) (gN 1) n0 [S, .val (frac s lo), .val (frac s a)] [] = some (.next [S, .val (frac s (if a ≤ lo then a else lo)), .val (frac s a)] []) := by
      unfold sAs eIf
      rw [c1, Option.bind_some]
      by_cases z : a ≤ lo
      · simp [z, eVar, gN]
      · simp [z, eVar, gN]
    refine ⟨lo', e', he', ?_, ?_, ?_, ?_⟩
    · rcases h1 with h | h
      · rw [h]
        by_cases z : a ≤ lo
        · rw [if_pos z]; exact .inr (List.mem_cons_self ..)
        · rw [if_neg z]; exact .inl rfl
      · exact .inr (List.mem_cons_of_mem _ h)
    · split at h2 <;> omega
    · intro b hb
      rcases List.mem_cons.mp hb with z | z
      · rw [z]; split at h2 <;> omega
      · exact h3 b z
    · rw [List.map_cons]
      unfold forD
      simp only [gN, List.set, Option.bind_some]
      rw [st, Option.bind_some]
      dsimp only
      have tr : List.map (truncS 0 []) [S, .val (frac s (if a ≤ lo then a else lo)), .val (frac s a)] = [S, .val (frac s (if a ≤ lo then a else lo)), .val (frac s a)] := by
        simp [truncS]
        cases S <;> simp_all [isV, truncS]
      simp only [List.take_nil, List.length_nil] at *
      first
        | exact h4
        | (rw [tr]; exact h4)
theorem lleast_spec {s : Int} (hs : 0 < s) (hb : s < 65536) {as : List Int} (hne : as ≠ []) : ∃ lo, lo ∈ as ∧ (∀ a ∈ as, lo ≤ a) ∧ F_law_least [.val (.list (as.map (frac s)))] [] = some (frac s lo, []) := by
  cases as with
  | nil => exact absurd rfl hne
  | cons a as =>
    obtain ⟨lo', e', he', h1, h2, h3, h4⟩ := least_loop hs hb (.val (.list ((a :: as).map (frac s)))) rfl 0 (a :: as) a .non rfl
    refine ⟨lo', ?_, h3, ?_⟩
    · rcases h1 with h | h
      · rw [h]; exact List.mem_cons_self ..
      · exact h
    · have g : gIx (.list ((a :: as).map (frac s))) (.int 0) = some (frac s a) := by
        simp [gIx, L2.atI, L2.ixN]
      have s1 : sAs (e2 gIx (eVar 0) (eC (.int 0))) (gN 1) 0 [.val (.list ((a :: as).map (frac s))), .non, .non] [] = some (.next [.val (.list ((a :: as).map (frac s))), .val (frac s a), .non] []) := by
        unfold sAs
        rw [e2_of (x := .list ((a :: as).map (frac s))) (y := .int 0) rfl rfl g]
        rfl
      have s2 : sFor (anyItems (eVar 0)) (gN 2) (sAs (eIf (tV (eCall 2 F_law_up_to (rV (eVar 2) (rV (eVar 1) (rN))))) (eVar 2) (eVar 1)) (gN 1)) 0 [.val (.list ((a :: as).map (frac s))), .val (frac s a), .non] [] = some (.next [.val (.list ((a :: as).map (frac s))), .val (frac s lo'), e'] []) := by
        unfold sFor
        rw [items_list (ds := (a :: as).map (frac s)) rfl, Option.bind_some]
        exact h4
      unfold F_law_least bodyF m_law_least
      simp only [sSeq, List.append_eq, List.replicate, List.cons_append, List.nil_append, List.length_nil, s1, s2, Option.bind_some]
      rw [ret_of (n := 0) (show eVar 1 [.val (.list ((a :: as).map (frac s))), .val (frac s lo'), e'] [] = some (frac s lo', []) from rfl)]
      rfl
/-! corners -/
theorem dot_val (W : Str → Int) : ∀ (l : LI), (l.map (·.1)).Nodup → dot W l = ((l.map (·.1)).map fun t => val l t * W t).sum
  | [], _ => rfl
  | p :: l, hn => by
    obtain ⟨h1, h2⟩ := List.nodup_cons.mp (by simpa using hn : (p.1 :: l.map (·.1)).Nodup)
    have ih := dot_val W l h2
    have e : ((l.map (·.1)).map fun t => val (p :: l) t * W t) = (l.map (·.1)).map fun t => val l t * W t := List.map_congr_left fun t ht => by rw [val_notin ht h1]
    rw [dot_cons, ih, List.map_cons, List.map_cons, List.sum_cons, e]
    simp [val]
section
variable {f : List Str} {s : Int} {m : M2} (q : Mass f s m) (hf : f.Nodup) {o : List Str} (ho : Ord f o)
include q hf ho
theorem corner_dot (W : Str → Int) : dotF f (val (grow m [] o)) W = dot W (grow m [] o) := by
  rw [dot_val W _ (by rw [grow_keys]; exact ho.nd), grow_keys]
  exact sum_perm (List.Perm.map _ (perm_of hf ho.nd fun x => (ho.mem x).symm))
theorem corner_sum : (f.map (val (grow m [] o))).sum = s := by
  rw [usum_eq (s := s) ho hf fun t ht => ht]
  have : usum m f o = gs (fun _ => true) (grow m [] o) := gs_congr fun t ht => by
    rw [grow_keys] at ht
    simp [inE, (ho.mem t).mp ht]
  rw [this, ord_sum q ho]
theorem corner_nn : ∀ t ∈ f, 0 ≤ val (grow m [] o) t := fun t ht => by
  have e := usum_eq (s := s) (m := m) ho (k := [t]) (by simp) fun x hx => by rw [List.mem_singleton.mp hx]; exact ht
  have n := ord_nn q ho (k := [t]) fun x hx => by rw [List.mem_singleton.mp hx]; exact ht
  simp only [List.map_cons, List.map_nil, List.sum_cons, List.sum_nil, Int.add_zero] at e
  rw [e]
  exact n
theorem corner_cha : Cha f s (val (grow m [] o)) := ⟨corner_nn q hf ho, corner_sum q hf ho⟩
theorem corner_le : ∀ t ∈ f, val (grow m [] o) t ≤ s := fun t ht => by
  have nn := corner_nn q hf ho
  have su := corner_sum q hf ho
  have : ∀ (g : List Str) (h : Str → Int), (∀ x ∈ g, 0 ≤ h x) → 0 ≤ (g.map h).sum ∧ (t ∈ g → h t ≤ (g.map h).sum) := fun g h hn => by
    induction g with
    | nil => exact ⟨Int.le_refl _, fun z => by cases z⟩
    | cons x g ih =>
      obtain ⟨i1, i2⟩ := ih fun y hy => hn y (List.mem_cons_of_mem _ hy)
      have h0 := hn x (List.mem_cons_self ..)
      rw [List.map_cons, List.sum_cons]
      refine ⟨by omega, fun z => ?_⟩
      rcases List.mem_cons.mp z with w | w
      · rw [w]; omega
      · have := i2 w; omega
  rw [← su]
  exact (this f _ nn).2 ht
end
/-! worths -/
theorem Wor.neg {f : List Str} {W : Str → Int} (h : Wor f W) : Wor f fun t => -W t := ⟨fun t ht => by have := h.hi t ht; omega, fun t ht => by have := h.lo t ht; omega⟩
theorem low_eq {f : List Str} {s : Int} {m : M2} (q : Mass f s m) (hf : f.Nodup) {W : Str → Int} (hw : Wor f W) {rows : List (List Str)} (hr : ∀ o, o ∈ rows ↔ Ord f o) {lo : Int} (h1 : lo ∈ rows.map fun o => dot W (grow m [] o)) (h2 : ∀ a ∈ rows.map fun o => dot W (grow m [] o), lo ≤ a) : lo = LW W m := by
  have hw' : ∀ t ∈ f, -99 ≤ W t ∧ W t ≤ -99 + (198 : Nat) := fun t ht => ⟨hw.lo t ht, by have := hw.hi t ht; omega⟩
  obtain ⟨o, ho, e⟩ := mean_at q (pick_least q W) hw' hf
  have a := h2 _ (List.mem_map.mpr ⟨o, (hr o).mpr ho, rfl⟩)
  obtain ⟨o', ho', rfl⟩ := List.mem_map.mp h1
  have b := mean_low q (pick_least q W) hw' ((hr o').mp ho')
  unfold LW
  omega
theorem dot_negs {α : Type} (v : α → Int) (l : List (α × Int)) : dot (fun a => -v a) l = -dot v l := dot_neg v l
theorem dotF_mix (f : List Str) (u v : Int) (a b W : Str → Int) : dotF f (fun t => u * a t + v * b t) W = u * dotF f a W + v * dotF f b W := by
  induction f with
  | nil => simp [dotF]
  | cons t f ih =>
    unfold dotF at ih ⊢
    rw [List.map_cons, List.sum_cons, List.map_cons, List.sum_cons, List.map_cons, List.sum_cons, ih]
    dsimp only
    rw [Int.mul_add, Int.mul_add, Int.add_mul, Int.mul_assoc, Int.mul_assoc]
    omega
theorem sum_mix (f : List Str) (u v : Int) (a b : Str → Int) : (f.map fun t => u * a t + v * b t).sum = u * (f.map a).sum + v * (f.map b).sum := by
  induction f with
  | nil => simp
  | cons t f ih =>
    rw [List.map_cons, List.sum_cons, List.map_cons, List.sum_cons, List.map_cons, List.sum_cons, ih]
    rw [Int.mul_add, Int.mul_add]
    omega
theorem fun_of : ∀ {f : List Str}, f.Nodup → ∀ {ws : List Int}, ws.length = f.length → ∃ W : Str → Int, ws = f.map W
  | [], _, [], _ => ⟨fun _ => 0, rfl⟩
  | t :: f, hn, w :: ws, hl => by
    obtain ⟨h1, h2⟩ := List.nodup_cons.mp hn
    obtain ⟨W, e⟩ := fun_of h2 (ws := ws) (by simpa using hl)
    refine ⟨fun x => if x = t then w else W x, ?_⟩
    rw [List.map_cons, if_pos rfl, e]
    congr 1
    refine List.map_congr_left fun x hx => ?_
    rw [if_neg]
    rintro rfl
    exact h1 hx
theorem wor_of {f : List Str} (hn : f.Nodup) {ws : List Int} (hl : ws.length = f.length) (h : ∀ w ∈ ws, -99 ≤ w ∧ w ≤ 99) : ∃ W : Str → Int, ws = f.map W ∧ Wor f W := by
  obtain ⟨W, e⟩ := fun_of hn hl
  refine ⟨W, e, ⟨fun t ht => (h _ ?_).1, fun t ht => (h _ ?_).2⟩⟩ <;> (rw [e]; exact List.mem_map.mpr ⟨t, ht, rfl⟩)
theorem LW_add {f : List Str} {s : Int} {m : M2} (q : Mass f s m) (W X : Str → Int) : LW W m + LW X m ≤ LW (fun t => W t + X t) m := by
  have e : LW W m + LW X m = dot (fun y => W (pick W y) + X (pick X y)) m := (dot_add (fun y => W (pick W y)) (fun y => X (pick X y)) m).symm
  rw [e]
  refine dot_mono (fun p hp => Int.le_of_lt (q.pos p hp)) fun p hp => ?_
  have c := (pick_spec (fun t => W t + X t) (q.full p hp)).1
  have a := (pick_spec W (q.full p hp)).2.1 _ c
  have b := (pick_spec X (q.full p hp)).2.1 _ c
  dsimp only
  omega
theorem LW_up {f : List Str} {s : Int} {m : M2} (q : Mass f s m) (W : Str → Int) : LW (fun t => W t + 1) m = LW W m + s := by
  have e : LW W m + s = dot (fun y => W (pick W y) + 1) m := by
    have d := dot_add (fun y => W (pick W y)) (fun _ => 1) m
    rw [dot_one, q.sum] at d
    exact d.symm
  rw [e]
  refine dot_congr fun p hp => ?_
  obtain ⟨c1, c2, _⟩ := pick_spec (fun t => W t + 1) (q.full p hp)
  obtain ⟨d1, d2, _⟩ := pick_spec W (q.full p hp)
  have a := c2 _ d1
  have b := d2 _ c1
  dsimp only at a b ⊢
  omega
/-! fit -/
theorem dict_of {f : List Str} {H : Str → D} (hf : Frame f) {a b : ME} {ρ : List Slot} {μ : List Cell} (ha : a ρ μ = some (setD f, μ)) (hb : b ρ μ = some (.tuple (f.map H), μ)) : eN (nDzip2 (aC a (aC b aN))) ρ μ = some (.dict (f.map fun t => (.str t, H t)), μ) := by
  have nf := inc_nodup hf.inc
  have one := hf.one
  have e0 : aC a (aC b aN) ρ μ = some ([setD f, .tuple (f.map H)], μ) := by simp [aC, aN, ha, hb]
  have z : nDzip2 (aC a (aC b aN)) ρ μ = some (.dct (f.map fun t => (t, H t)), μ) := by
    unfold nDzip2
    rw [e0, Option.bind_some]
    have zz : ∀ g : List Str, g.zip (g.map H) = g.map fun t => (t, H t) := fun g => by
      induction g with
      | nil => rfl
      | cons t g ih => rw [List.map_cons, List.zip_cons_cons, ih]; rfl
    dsimp only [setD]
    rw [strs_of, Option.bind_some, if_pos ⟨nf, by simp⟩, zz]
  unfold eN
  rw [z, Option.bind_some]
  cases f with
  | nil => simp at one
  | cons t f => simp
theorem all_trues {α : Type} {xs : List α} {b : α → Bool} (h : ∀ x ∈ xs, b x = true) : gAll (.list (xs.map fun x => .bool (b x))) = some (.bool true) := by
  rw [gAll, bools_map]
  simp
  exact h
section
variable {f : List Str} {s : Int} {m : M2} (q : Mass f s m) (hf : Frame f) {o : List Str} (ho : Ord f o)
include q hf ho
theorem do_fit_spec : F_law_do_fit [.val (setD f), .val (massD s m), .val (cornerD f s m o)] [] = some (.bool true, []) := by
  have fl := hf.few
  have nf := inc_nodup hf.inc
  obtain ⟨ys, hys, os⟩ := sets_spec hf.inc hf.few
  have yf := os.few
  generalize hH : (fun t => frac s (val (grow m [] o) t)) = H
  have eco : cornerD f s m o = .tuple (f.map H) := by rw [← hH]; rfl
  rw [eco]
  have t := dict_of hf (H := H) (a := eVar 0) (b := eVar 2) (ρ := [.val (setD f), .val (massD s m), .val (.tuple (f.map H)), .non, .non, .non]) (μ := []) rfl rfl
  generalize hd : PyData.dict (f.map fun t => (PyData.str t, H t)) = dd at t
  have s1 : sAs (eN (nDzip2 (aC (eVar 0) (aC (eVar 2) (aN))))) (gN 3) 0 [.val (setD f), .val (massD s m), .val (.tuple (f.map H)), .non, .non, .non] [] = some (.next [.val (setD f), .val (massD s m), .val (.tuple (f.map H)), .val dd, .non, .non] []) := by
    unfold sAs
    rw [t]
    rfl
  have it := items_list (call1_of (F := F_law_sets) (a := eVar 0) (ρ := [.val (setD f), .val (massD s m), .val (.tuple (f.map H)), .val dd, .non, .non]) rfl hys)
  have lc : mLc true (anyItems (eCall 1 F_law_sets (rV (eVar 0) (rN)))) [4] (gcN 4) (tTrue) (eCall 2 F_law_up_to (rV (eCall 2 F_law_belief (rV (eVar 1) (rV (eVar 4) (rN)))) (rV (eCall 1 F_law_sum (rV (eF (mLc true (anyItems (eVar 4)) [5] (gcN 5) (tTrue) (e2 gDGet (eVar 3) (eVar 5)))) (rN))) (rN)))) [.val (setD f), .val (massD s m), .val (.tuple (f.map H)), .val dd, .non, .non] [] = some (ys.map fun y => .bool (decide (bel m y ≤ usum m y o)), []) :=
    lc_all setD (fun y => .bool (decide (bel m y ≤ usum m y o))) ys it rfl (by omega) fun y hy => ⟨[.val (setD f), .val (massD s m), .val (.tuple (f.map H)), .val dd, .val (setD y), .non], rfl, by
      have py : Sub f y := Sub.of hf.inc (os.sub y hy)
      have yl := py.few
      have lc2 : mLc true (anyItems (eVar 4)) [5] (gcN 5) (tTrue) (e2 gDGet (eVar 3) (eVar 5)) [.val (setD f), .val (massD s m), .val (.tuple (f.map H)), .val dd, .val (setD y), .non] [] = some (y.map H, []) :=
        lc_all PyData.str H y (items_tup rfl) rfl (by omega) fun t ht => ⟨[.val (setD f), .val (massD s m), .val (.tuple (f.map H)), .val dd, .val (setD y), .val (.str t)], rfl, e2_of (x := dd) (y := .str t) rfl rfl (by rw [← hd]; exact dG_map f t (py.sub t ht))⟩
      have sm := lsum_spec q.ok.pos q.ok.low (y.map (val (grow m [] o)))
      rw [List.map_map, usum_eq (s := s) ho (inc_nodup py.inc) py.sub] at sm
      have sm' : F_law_sum [.val (.list (y.map H))] [] = some (frac s (usum m y o), []) := by rw [← hH]; exact sm
      have b0 := lbelief_spec q.ok y
      exact call2_of (call2_of (F := F_law_belief) (a := eVar 1) (b := eVar 4) rfl rfl b0) (call1_of (eF_of lc2) sm') (up_same q.ok.pos q.ok.low)⟩
  have r := eL1_of (g := gAll) (eF_of lc) (all_trues fun y hy => decide_eq_true (ord_low q ho (Sub.of hf.inc (os.sub y hy)).sub))
  unfold F_law_do_fit bodyF m_law_do_fit
  simp only [sSeq, List.append_eq, List.replicate, List.cons_append, List.nil_append, List.length_nil, s1, Option.bind_some]
  rw [ret_of r]
  rfl
end
end K26
end
section
set_option linter.all false
set_option maxRecDepth 100000
set_option maxHeartbeats 4000000
/-! V5: k26: the turn, step by step. -/
namespace K26
open PySem PD
abbrev RT (L F M W C E X N R B U lo hi o1 o2 pt : Slot) : List Slot := [.own 0, L, F, M, W, C, E, X, N, R, B, U, lo, hi, o1, o2, pt, .non, .non, .non, .non, .non, .non]
theorem RT_tr {L F M W C E X N R B U lo hi o1 o2 pt : Slot} {m : Nat} {μ : List Cell} (hm : 0 < m) (h : ([L, F, M, W, C, E, X, N, R, B, U, lo, hi, o1, o2, pt].all isV) = true) : (RT L F M W C E X N R B U lo hi o1 o2 pt).map (truncS m μ) = RT L F M W C E X N R B U lo hi o1 o2 pt := by
  refine tr_all hm fun x hx => ?_
  simp only [List.all_eq_true] at h
  simp only [List.mem_cons, List.not_mem_nil, or_false] at hx
  by_cases z : x = .own 0
  · exact .inr z
  · left
    by_cases z2 : x = .non
    · rw [z2]; rfl
    · refine h x ?_
      simp only [List.mem_cons, List.not_mem_nil, or_false]
      simp only [z, z2, false_or, or_false] at hx
      rcases hx with e | e | e | e | e | e | e | e | e | e | e | e | e | e | e | e <;> simp [e]
theorem tAnd_t {t u : MT} {ρ : List Slot} {μ : List Cell} {b : Bool} (h : t ρ μ = some (true, μ)) (h2 : u ρ μ = some (b, μ)) : tAnd t u ρ μ = some (b, μ) := by
  simp [tAnd, h, h2]
theorem tAnd_f {t u : MT} {ρ : List Slot} {μ : List Cell} (h : t ρ μ = some (false, μ)) : tAnd t u ρ μ = some (false, μ) := by
  simp [tAnd, h]
theorem sIf_t {t : MT} {ms mr : MS} {n : Nat} {ρ : List Slot} {μ : List Cell} (h : t ρ μ = some (true, μ)) : sIf t ms mr n ρ μ = ms n ρ μ := by
  simp [sIf, h]
noncomputable def worthM : MS := (sAs (eL (gl1 gTuple) (aC (eF (mLc true (anyItems (eVar 2)) [19] (gcN 19) (tTrue) (eIf (tV (e2 gEq (eCall 2 F_law_say (rL B0 0 (rV (eC (.int 2)) (rN)))) (eC (.int 0)))) (e2 gSub (eCall 2 F_law_say (rL B0 0 (rV (eC (.int 199)) (rN)))) (eC (.int 99))) (eCall 2 F_law_say (rL B0 0 (rV (eC (.int 3)) (rN))))))) (aN))) (gN 4))
noncomputable def moreM : MS := (sAs (eL (gl1 gTuple) (aC (eF (mLc true (anyItems (eVar 4)) [20] (gcN 20) (tTrue) (eL (gl2 gMax2) (aC (e1 gNeg (eC (.int 99))) (aC (eL (gl2 gMin2) (aC (eC (.int 99)) (aC (e2 gSub (eCall 2 F_law_say (rL B0 0 (rV (eC (.int 11)) (rN)))) (eC (.int 5))) (aN)))) (aN)))))) (aN))) (gN 9))
section
variable {f : List Str} (hf : Frame f) {L M W C E X N R B U lo hi o1 o2 pt : Slot} {p : Cell} (hp : Pool p) {n : Nat}
include hf hp
theorem worth_step : wp1 (worthM n (RT L (.val (setD f)) M W C E X N R B U lo hi o1 o2 pt) [p]) fun fl => ∃ w p', Wor f w ∧ Pool p' ∧ fl = .next (RT L (.val (setD f)) M (.val (worD f w)) C E X N R B U lo hi o1 o2 pt) [p'] := by
  have fl := hf.few
  unfold worthM
  refine ws_as (wp_eL.mpr (wp_aC.mpr (wp_eF.mpr (wp_mLc (wp_any (wp_of (a := setD f) (b := [p]) rfl (wp1_of (a := f.map .str) rfl ⟨rfl, rfl, szl (n := (f.map PyData.str).length) (by simp; omega), ?_⟩)))))))
  refine (wp_lcN (fun μ => ∃ p, Pool p ∧ μ = [p]) PyData.str PyData.int (fun r : Int => -99 ≤ r ∧ r ≤ 99) f [p] ⟨p, hp, rfl⟩ ?_).mono ?_
  · rintro t ht _ ⟨p, hp, rfl⟩
    refine wp_of (a := [.own 0, L, .val (setD f), M, W, C, E, X, N, R, B, U, lo, hi, o1, o2, pt, .non, .non, .val (.str t), .non, .non, .non]) (b := [p]) rfl ?_
    refine wp_eIf.mpr (wp_tV.mpr (wp_e2.mpr (wp_drawS hp rfl (noBo0 _ _) (by decide) (by decide) fun r p1 hp1 r0 r1 => wp_eC.mpr (wp1_of (gEq_int r 0) (wp1_of (a := decide (r = 0)) rfl ⟨fun _ => ?_, fun _ => ?_⟩)))))
    · exact wp_e2.mpr (wp_drawS hp1 rfl (noBo0 _ _) (by decide) (by decide) fun r2 p2 hp2 r0 r1 => wp_eC.mpr (wp1_of (a := .int (r2 - 99)) rfl ⟨⟨p2, hp2, rfl⟩, r2 - 99, rfl, by omega⟩))
    · exact wp_drawS hp1 rfl (noBo0 _ _) (by decide) (by decide) fun r2 p2 hp2 r0 r1 => ⟨⟨p2, hp2, rfl⟩, r2, rfl, by omega⟩
  · rintro _ _ ⟨⟨p1, hp1, rfl⟩, ws, hl, rfl, hws⟩
    obtain ⟨w, rfl, hw⟩ := wor_of (inc_nodup hf.inc) hl hws
    refine wp_aN.mpr (wp1_of (a := .tuple ((f.map w).map .int)) rfl (wp_some.mpr ⟨w, p1, hw, hp1, ?_⟩))
    rw [List.map_map]
    rfl
theorem more_step {w : Str → Int} : wp1 (moreM n (RT L (.val (setD f)) M (.val (worD f w)) C E X N R B U lo hi o1 o2 pt) [p]) fun fl => ∃ x p', Wor f x ∧ Pool p' ∧ fl = .next (RT L (.val (setD f)) M (.val (worD f w)) C E X N (.val (worD f x)) B U lo hi o1 o2 pt) [p'] := by
  have fl := hf.few
  unfold moreM
  refine ws_as (wp_eL.mpr (wp_aC.mpr (wp_eF.mpr (wp_mLc (wp_any (wp_of (a := worD f w) (b := [p]) rfl (wp1_of (a := f.map fun t => .int (w t)) rfl ⟨rfl, rfl, szl (n := (f.map fun t => PyData.int (w t)).length) (by simp; omega), ?_⟩)))))))
  refine (wp_lcN (fun μ => ∃ p, Pool p ∧ μ = [p]) (fun t => PyData.int (w t)) PyData.int (fun r : Int => -99 ≤ r ∧ r ≤ 99) f [p] ⟨p, hp, rfl⟩ ?_).mono ?_
  · rintro t ht _ ⟨p, hp, rfl⟩
    refine wp_of (a := [.own 0, L, .val (setD f), M, .val (worD f w), C, E, X, N, R, B, U, lo, hi, o1, o2, pt, .non, .non, .non, .val (.int (w t)), .non, .non]) (b := [p]) rfl ?_
    refine wp_eL.mpr (wp_aC.mpr (wp_of (a := .int (-99)) (b := [p]) rfl ?_))
    refine wp_aC.mpr (wp_eL.mpr (wp_aC.mpr (wp_eC.mpr (wp_aC.mpr (wp_e2.mpr ?_)))))
    refine wp_drawS hp rfl (noBo0 _ _) (by decide) (by decide) fun r p1 hp1 r0 r1 => wp_eC.mpr (wp1_of (a := .int (r - 5)) rfl ?_)
    refine wp_aN.mpr (wp1_of (a := .int (if r - 5 < 99 then r - 5 else 99)) rfl (wp_aN.mpr ?_))
    refine wp1_of (a := .int (if (if r - 5 < 99 then r - 5 else 99) > -99 then (if r - 5 < 99 then r - 5 else 99) else -99)) rfl ⟨⟨p1, hp1, rfl⟩, _, rfl, ?_⟩
    split <;> split <;> omega
  · rintro _ _ ⟨⟨p1, hp1, rfl⟩, ws, hl, rfl, hws⟩
    obtain ⟨x, rfl, hx⟩ := wor_of (inc_nodup hf.inc) hl hws
    refine wp_aN.mpr (wp1_of (a := .tuple ((f.map x).map .int)) rfl (wp_some.mpr ⟨x, p1, hx, hp1, ?_⟩))
    rw [List.map_map]
    rfl
end
/-! what is the same for all draws -/
noncomputable def cornM : MS := (sAs (eF (mLc true (anyItems (eCall 1 F_law_orders (rV (eVar 2) (rN)))) [17] (gcN 17) (tTrue) (eCall 3 F_law_grown (rV (eVar 2) (rV (eVar 3) (rV (eVar 17) (rN))))))) (gN 5))
noncomputable def fitT : MT := (tNot (tV (eL (gl1 gAll) (aC (eF (mLc true (anyItems (eVar 5)) [18] (gcN 18) (tTrue) (eCall 3 F_law_do_fit (rV (eVar 2) (rV (eVar 3) (rV (eVar 18) (rN))))))) (aN)))))
noncomputable def meanM : MS := (sAs (eF (mLc true (anyItems (eVar 5)) [18] (gcN 18) (tTrue) (eCall 2 F_law_mean (rV (eVar 18) (rV (eVar 4) (rN)))))) (gN 6))
noncomputable def lohiM : MS := (sPar B0 12 13 (aC (eCall 1 F_law_least (rV (eVar 6) (rN))) (aC (eCall 2 F_law_less (rV (eL gTup (aC (eC (.int 0)) (aC (eC (.int 1)) (aN)))) (rV (eCall 1 F_law_least (rV (eF (mLc true (anyItems (eVar 6)) [8] (gcN 8) (tTrue) (eCall 2 F_law_less (rV (eL gTup (aC (eC (.int 0)) (aC (eC (.int 1)) (aN)))) (rV (eVar 8) (rN)))))) (rN))) (rN)))) (aN))))
noncomputable def sameT : MT := (tNot (tV (eCall 2 F_law_same (rV (eL gLst (aC (eCall 3 F_least_worth (rV (eVar 2) (rV (eVar 3) (rV (eVar 4) (rN))))) (aC (eCall 3 F_greatest_worth (rV (eVar 2) (rV (eVar 3) (rV (eVar 4) (rN))))) (aN)))) (rV (eL gLst (aC (eVar 12) (aC (eVar 13) (aN)))) (rN))))))
section
variable {f : List Str} {s : Int} {m : M2} (hf : Frame f) (q : Mass f s m) {w : Str → Int} (hw : Wor f w) {rows : List (List Str)} (hr : ∀ o, o ∈ rows ↔ Ord f o) (hrl : rows.length ≤ 256) {L C E X N R B U lo hi o1 o2 pt : Slot} {p : Cell} {n : Nat}
include hf q hr hrl
theorem corn_step {W : Slot} (hrows : F_law_orders [.val (setD f)] [] = some (.list (rows.map setD), [])) : cornM n (RT L (.val (setD f)) (.val (massD s m)) W C E X N R B U lo hi o1 o2 pt) [p] = some (.next (RT L (.val (setD f)) (.val (massD s m)) W (.val (.list (rows.map (cornerD f s m)))) E X N R B U lo hi o1 o2 pt) [p]) := by
  have nf := inc_nodup hf.inc
  have it := items_list (callm1 (F := F_law_orders) (a := eVar 2) (ρ := RT L (.val (setD f)) (.val (massD s m)) W C E X N R B U lo hi o1 o2 pt) (μ := [p]) (x := setD f) rfl hrows)
  have lc : mLc true (anyItems (eCall 1 F_law_orders (rV (eVar 2) (rN)))) [17] (gcN 17) (tTrue) (eCall 3 F_law_grown (rV (eVar 2) (rV (eVar 3) (rV (eVar 17) (rN))))) (RT L (.val (setD f)) (.val (massD s m)) W C E X N R B U lo hi o1 o2 pt) [p] = some (rows.map (cornerD f s m), [p]) :=
    lc_all setD (cornerD f s m) rows it rfl (by omega) fun r hrr => ⟨[.own 0, L, .val (setD f), .val (massD s m), W, C, E, X, N, R, B, U, lo, hi, o1, o2, pt, .val (setD r), .non, .non, .non, .non, .non], rfl, callm3 (x := setD f) (x' := massD s m) (x2 := setD r) rfl rfl rfl (grown_spec q hf.few nf ((hr r).mp hrr))⟩
  unfold cornM sAs
  rw [eF_of lc]
  rfl
theorem fit_step {W : Slot} {ms : MS} : sIf fitT ms sNil n (RT L (.val (setD f)) (.val (massD s m)) W (.val (.list (rows.map (cornerD f s m)))) E X N R B U lo hi o1 o2 pt) [p] = some (.next (RT L (.val (setD f)) (.val (massD s m)) W (.val (.list (rows.map (cornerD f s m)))) E X N R B U lo hi o1 o2 pt) [p]) := by
  have it : anyItems (eVar 5) (RT L (.val (setD f)) (.val (massD s m)) W (.val (.list (rows.map (cornerD f s m)))) E X N R B U lo hi o1 o2 pt) [p] = some (rows.map (cornerD f s m), [p]) := items_list rfl
  generalize hC : PyData.list (rows.map (cornerD f s m)) = Cd at it ⊢
  have lc : mLc true (anyItems (eVar 5)) [18] (gcN 18) (tTrue) (eCall 3 F_law_do_fit (rV (eVar 2) (rV (eVar 3) (rV (eVar 18) (rN))))) (RT L (.val (setD f)) (.val (massD s m)) W (.val Cd) E X N R B U lo hi o1 o2 pt) [p] = some (rows.map fun _ => .bool true, [p]) :=
    lc_all (cornerD f s m) (fun _ => .bool true) rows it rfl (by omega) fun r hrr => by
      have d := do_fit_spec q hf ((hr r).mp hrr)
      generalize cornerD f s m r = c at d ⊢
      exact ⟨[.own 0, L, .val (setD f), .val (massD s m), W, .val Cd, E, X, N, R, B, U, lo, hi, o1, o2, pt, .non, .val c, .non, .non, .non, .non], rfl, callm3 (x := setD f) (x' := massD s m) (x2 := c) rfl rfl rfl d⟩
  exact sIf_f (tNot_f (tV_of (eL1_of (g := gAll) (eF_of lc) (all_trues (b := fun _ => true) fun _ _ => rfl))))
include hw
theorem mean_step : meanM n (RT L (.val (setD f)) (.val (massD s m)) (.val (worD f w)) (.val (.list (rows.map (cornerD f s m)))) E X N R B U lo hi o1 o2 pt) [p] = some (.next (RT L (.val (setD f)) (.val (massD s m)) (.val (worD f w)) (.val (.list (rows.map (cornerD f s m)))) (.val (.list ((rows.map fun o => dot w (grow m [] o)).map (frac s)))) X N R B U lo hi o1 o2 pt) [p]) := by
  have fl := hf.few
  have it : anyItems (eVar 5) (RT L (.val (setD f)) (.val (massD s m)) (.val (worD f w)) (.val (.list (rows.map (cornerD f s m)))) E X N R B U lo hi o1 o2 pt) [p] = some (rows.map (cornerD f s m), [p]) := items_list rfl
  generalize hC : PyData.list (rows.map (cornerD f s m)) = Cd at it ⊢
  have lc : mLc true (anyItems (eVar 5)) [18] (gcN 18) (tTrue) (eCall 2 F_law_mean (rV (eVar 18) (rV (eVar 4) (rN)))) (RT L (.val (setD f)) (.val (massD s m)) (.val (worD f w)) (.val Cd) E X N R B U lo hi o1 o2 pt) [p] = some (rows.map fun o => frac s (dot w (grow m [] o)), [p]) :=
    lc_all (cornerD f s m) (fun o => frac s (dot w (grow m [] o))) rows it rfl (by omega) fun r hrr => by
      have d := lmean_spec (f := f) (h := val (grow m [] r)) q.ok.pos q.ok.low (by omega) hw
      rw [corner_dot q (inc_nodup hf.inc) ((hr r).mp hrr) w] at d
      have d' : F_law_mean [.val (cornerD f s m r), .val (worD f w)] [] = some (frac s (dot w (grow m [] r)), []) := d
      generalize cornerD f s m r = c at d' ⊢
      exact ⟨[.own 0, L, .val (setD f), .val (massD s m), .val (worD f w), .val Cd, E, X, N, R, B, U, lo, hi, o1, o2, pt, .non, .val c, .non, .non, .non, .non], rfl, callm2 (x := c) (x' := worD f w) rfl rfl d'⟩
  unfold meanM sAs
  rw [eF_of lc, List.map_map]
  rfl
theorem lohi_step {W Cs : Slot} (hN : isV N = true) : lohiM n (RT L (.val (setD f)) (.val (massD s m)) W Cs (.val (.list ((rows.map fun o => dot w (grow m [] o)).map (frac s)))) X N R B U lo hi o1 o2 pt) [p] = some (.next (RT L (.val (setD f)) (.val (massD s m)) W Cs (.val (.list ((rows.map fun o => dot w (grow m [] o)).map (frac s)))) X N R B U (.val (frac s (LW w m))) (.val (frac s (-(LW (fun t => -w t) m)))) o1 o2 pt) [p]) := by
  have nf := inc_nodup hf.inc
  have pos := q.ok.pos
  have low := q.ok.low
  have ne : rows ≠ [] := fun e => by
    have := (hr f).mpr ⟨nf, fun x => Iff.rfl⟩
    rw [e] at this
    cases this
  obtain ⟨l1, h1, h2, h3⟩ := lleast_spec pos low (as := rows.map fun o => dot w (grow m [] o)) (by simpa using ne)
  have e1 := low_eq q nf hw hr h1 h2
  rw [e1] at h3
  obtain ⟨l2, g1, g2, g3⟩ := lleast_spec pos low (as := rows.map fun o => 0 - dot w (grow m [] o)) (by simpa using ne)
  have en : (fun o => 0 - dot w (grow m [] o)) = fun o => dot (fun t => -w t) (grow m [] o) := by
    funext o
    rw [dot_neg, Int.zero_sub]
  have e2 := low_eq q nf hw.neg hr (by rw [← en]; exact g1) (by rw [← en]; exact g2)
  rw [e2] at g3
  have it : anyItems (eVar 6) (RT L (.val (setD f)) (.val (massD s m)) W Cs (.val (.list ((rows.map fun o => dot w (grow m [] o)).map (frac s)))) X N R B U lo hi o1 o2 pt) [p] = some (rows.map fun o => frac s (dot w (grow m [] o)), [p]) := items_list (by rw [List.map_map]; rfl)
  generalize hC : PyData.list ((rows.map fun o => dot w (grow m [] o)).map (frac s)) = Cd at it h3 ⊢
  have zero : ∀ ρ : List Slot, eL gTup (aC (eC (.int 0)) (aC (eC (.int 1)) (aN))) ρ [p] = some (frac s 0, [p]) := fun ρ => by
    rw [← frac_zero pos]
    exact tup2_of rfl rfl
  have lc : mLc true (anyItems (eVar 6)) [8] (gcN 8) (tTrue) (eCall 2 F_law_less (rV (eL gTup (aC (eC (.int 0)) (aC (eC (.int 1)) (aN)))) (rV (eVar 8) (rN)))) (RT L (.val (setD f)) (.val (massD s m)) W Cs (.val Cd) X N R B U lo hi o1 o2 pt) [p] = some (rows.map fun o => frac s (0 - dot w (grow m [] o)), [p]) :=
    lc_all (fun o => frac s (dot w (grow m [] o))) (fun o => frac s (0 - dot w (grow m [] o))) rows it (by simp [noOwn, isOwn]; cases N <;> simp_all [isV]) (by omega) fun r hrr => by
      have d := lless_spec (a := 0) (b := dot w (grow m [] r)) pos low
      generalize frac s (dot w (grow m [] r)) = c at d ⊢
      exact ⟨[.own 0, L, .val (setD f), .val (massD s m), W, Cs, .val Cd, X, .val c, R, B, U, lo, hi, o1, o2, pt, .non, .non, .non, .non, .non, .non], rfl, callm2 (x := frac s 0) (x' := c) (zero _) rfl d⟩
  rw [List.map_map] at g3
  have a1 := callm1 (F := F_law_least) (a := eVar 6) (ρ := RT L (.val (setD f)) (.val (massD s m)) W Cs (.val Cd) X N R B U lo hi o1 o2 pt) (μ := [p]) (x := Cd) rfl h3
  have a2 := callm1 (F := F_law_least) (eF_of lc) g3
  have d := lless_spec (a := 0) (b := LW (fun t => -w t) m) pos low
  rw [Int.zero_sub] at d
  have a3 := callm2 (F := F_law_less) (zero _) a2 d
  have ws := ws_par0 (i := 12) (j := 13) (n := n) (Q := fun fl => fl = .next (RT L (.val (setD f)) (.val (massD s m)) W Cs (.val Cd) X N R B U (.val (frac s (LW w m))) (.val (frac s (-(LW (fun t => -w t) m)))) o1 o2 pt) [p]) (wp_aC.mpr (wp_of a1 (wp_aC.mpr (wp_of a3 (wp_aN.mpr ⟨_, _, rfl, rfl⟩)))))
  obtain ⟨_, h, rfl⟩ := ws
  exact h
theorem same_step {Cs : Slot} {ms : MS} : sIf sameT ms sNil n (RT L (.val (setD f)) (.val (massD s m)) (.val (worD f w)) Cs E X N R B U (.val (frac s (LW w m))) (.val (frac s (-(LW (fun t => -w t) m)))) o1 o2 pt) [p] = some (.next (RT L (.val (setD f)) (.val (massD s m)) (.val (worD f w)) Cs E X N R B U (.val (frac s (LW w m))) (.val (frac s (-(LW (fun t => -w t) m)))) o1 o2 pt) [p]) :=
  sIf_f (tNot_f (tV_of (callm2 (list2_of (callm3 (x := setD f) (x' := massD s m) (x2 := worD f w) rfl rfl rfl (least_worth_spec q hf hw)) (callm3 (x := setD f) (x' := massD s m) (x2 := worD f w) rfl rfl rfl (greatest_worth_spec q hf hw))) (list2_of rfl rfl) (same6 (by simp [sameOk, frac])))))
end
end K26
end
section
set_option linter.all false
set_option maxRecDepth 100000
set_option maxHeartbeats 4000000
/-! V6: k26: mixed chances, more worths. -/
namespace K26
open PySem PD
noncomputable def drawM : MS := (sAs (eL gTup (aC (eCall 2 F_law_of (rL B0 0 (rV (eVar 5) (rN)))) (aC (eCall 2 F_law_of (rL B0 0 (rV (eVar 5) (rN)))) (aC (eCall 2 F_law_low (rV (eC (.int 1)) (rV (e2 gAdd (eC (.int 2)) (eCall 2 F_law_say (rL B0 0 (rV (eC (.int 4)) (rN))))) (rN)))) (aN))))) (gT 3 (gsC (gN 14) (gsC (gN 15) (gsC (gN 16) (gsN))))))
noncomputable def mixM : MS := (sAs (eL (gl1 gTuple) (aC (eF (mLc true (zipItems (aC (eVar 14) (aC (eVar 15) (aN)))) [21, 22] (gT 2 (gsC (gcN 21) (gsC (gcN 22) (gsN)))) (tTrue) (eCall 2 F_law_plus (rV (eCall 2 F_law_times (rV (eVar 16) (rV (eVar 21) (rN)))) (rV (eCall 2 F_law_times (rV (eCall 2 F_law_less (rV (eL gTup (aC (eC (.int 1)) (aC (eC (.int 1)) (aN)))) (rV (eVar 16) (rN)))) (rV (eVar 22) (rN)))) (rN)))))) (aN))) (gN 7))
noncomputable def meanofM : MS := (sAs (eCall 3 F_mean_of (rV (eVar 2) (rV (eVar 7) (rV (eVar 4) (rN))))) (gN 8))
noncomputable def withinT : MT := (tOr (tNot (tV (eCall 2 F_law_same (rV (eVar 8) (rV (eCall 2 F_law_mean (rV (eVar 7) (rV (eVar 4) (rN)))) (rN)))))) (tNot (tAnd (tV (eCall 2 F_law_up_to (rV (eVar 12) (rV (eVar 8) (rN))))) (tV (eCall 2 F_law_up_to (rV (eVar 8) (rV (eVar 13) (rN))))))))
noncomputable def bothM : MS := (sAs (eL (gl1 gTuple) (aC (eF (mLc true (zipItems (aC (eVar 4) (aC (eVar 9) (aN)))) [21, 22] (gT 2 (gsC (gcN 21) (gsC (gcN 22) (gsN)))) (tTrue) (e2 gAdd (eVar 21) (eVar 22)))) (aN))) (gN 10))
noncomputable def sumsT : MT := (tV (eL (gl1 gAll) (aC (eF (mLc true (anyItems (eVar 10)) [20] (gcN 20) (tTrue) (e3 gLt gLt (e1 gNeg (eC (.int 100))) (eVar 20) (eC (.int 100))))) (aN))))
noncomputable def addsT : MT := (tNot (tV (eCall 2 F_law_up_to (rV (eCall 2 F_law_plus (rV (eVar 12) (rV (eCall 3 F_least_worth (rV (eVar 2) (rV (eVar 3) (rV (eVar 9) (rN))))) (rN)))) (rV (eCall 3 F_least_worth (rV (eVar 2) (rV (eVar 3) (rV (eVar 10) (rN))))) (rN))))))
noncomputable def upM : MS := (sAs (eL (gl1 gTuple) (aC (eF (mLc true (anyItems (eVar 4)) [20] (gcN 20) (tTrue) (e2 gAdd (eVar 20) (eC (.int 1))))) (aN))) (gN 11))
noncomputable def upT : MT := (tAnd (tV (e2 gLt (eL (gl1 (gBest PySem.W.maxD)) (aC (eVar 11) (aN))) (eC (.int 100)))) (tNot (tV (eCall 2 F_law_same (rV (eCall 3 F_least_worth (rV (eVar 2) (rV (eVar 3) (rV (eVar 11) (rN))))) (rV (eCall 2 F_law_plus (rV (eVar 12) (rV (eL gTup (aC (eC (.int 1)) (aC (eC (.int 1)) (aN)))) (rN)))) (rN)))))))
def mixF (m : M2) (d : Int) (a b : List Str) (t : Str) : Int := 1 * val (grow m [] a) t + (d - 1) * val (grow m [] b) t
theorem mix_lo {l A B d s : Int} (h1 : l ≤ A) (h2 : l ≤ B) (hd : 1 ≤ d) (hs : 0 ≤ s) : l * (d * s) ≤ (1 * A + (d - 1) * B) * s := by
  have h := Int.mul_le_mul_of_nonneg_left h2 (show 0 ≤ d - 1 by omega)
  have e : l * d = 1 * l + (d - 1) * l := by rw [Int.sub_mul, Int.mul_comm l d]; omega
  rw [← Int.mul_assoc, e]
  exact Int.mul_le_mul_of_nonneg_right (by omega) hs
theorem mix_hi {l A B d s : Int} (h1 : A ≤ l) (h2 : B ≤ l) (hd : 1 ≤ d) (hs : 0 ≤ s) : (1 * A + (d - 1) * B) * s ≤ l * (d * s) := by
  have h := Int.mul_le_mul_of_nonneg_left h2 (show 0 ≤ d - 1 by omega)
  have e : l * d = 1 * l + (d - 1) * l := by rw [Int.sub_mul, Int.mul_comm l d]; omega
  rw [← Int.mul_assoc, e]
  exact Int.mul_le_mul_of_nonneg_right (by omega) hs
theorem small_ds {d s : Int} (h1 : 2 ≤ d) (h2 : d ≤ 5) (h3 : 0 < s) (h4 : s < 1000) : 0 < d * s ∧ d * s < 65536 := by
  refine ⟨Int.mul_pos (by omega) h3, ?_⟩
  have := Int.mul_le_mul (show d ≤ 5 from h2) (show s ≤ 1000 by omega) (by omega) (by omega)
  omega
theorem abs_small {r s : Int} (hr : 0 ≤ r) (hs : 0 < s) (h : r ≤ s) (hb : s < 65536) : (nfN r s).natAbs < 2 ^ 64 := by
  have a := nfN_le hr hs
  have b : 0 ≤ nfN r s := Int.ediv_nonneg hr (by omega)
  omega
section
variable {f : List Str} {s : Int} {m : M2} (hf : Frame f) (q : Mass f s m) (hs : s < 1000) {rows : List (List Str)} (hr : ∀ o, o ∈ rows ↔ Ord f o) (hrl : rows.length ≤ 256) {L E X N R B U lo hi o1 o2 pt : Slot} {p : Cell} {n : Nat}
include hf hr hrl
theorem draw_step {W M : Slot} (hp : Pool p) : wp1 (drawM n (RT L (.val (setD f)) M W (.val (.list (rows.map (cornerD f s m)))) E X N R B U lo hi o1 o2 pt) [p]) fun fl => ∃ a b d p', Ord f a ∧ Ord f b ∧ 2 ≤ d ∧ d ≤ 5 ∧ Pool p' ∧ fl = .next (RT L (.val (setD f)) M W (.val (.list (rows.map (cornerD f s m)))) E X N R B U lo hi (.val (cornerD f s m a)) (.val (cornerD f s m b)) (.val (frac d 1))) [p'] := by
  have nf := inc_nodup hf.inc
  have r1 : 0 < rows.length := by
    have := (hr f).mpr ⟨nf, fun x => Iff.rfl⟩
    exact List.length_pos_of_mem this
  generalize hC : PyData.list (rows.map (cornerD f s m)) = Cd
  unfold drawM
  refine ws_as (wp_eL.mpr (wp_aC.mpr (wp_callP rfl (noBo0 _ _) (wp_of (a := Cd) (b := [p]) rfl ⟨p, rfl, ?_⟩))))
  rw [← hC]
  refine wp_of_list hp (cornerD f s m) rows r1 (by omega) fun a ha p1 hp1 => ⟨p1, rfl, hp1, ?_⟩
  refine wp_aC.mpr (wp_callP rfl (noBo0 _ _) (wp_of (a := .list (rows.map (cornerD f s m))) (b := [p1]) rfl ⟨p1, rfl, ?_⟩))
  refine wp_of_list hp1 (cornerD f s m) rows r1 (by omega) fun b hb p2 hp2 => ⟨p2, rfl, hp2, ?_⟩
  generalize hca : cornerD f s m a = ca
  generalize hcb : cornerD f s m b = cb
  refine wp_aC.mpr (wp_call2 (wp_eC.mpr (wp_e2.mpr (wp_eC.mpr (wp_drawS hp2 rfl (noBo0 _ _) (by decide) (by decide) fun r p3 hp3 r0 r1 => wp1_of (a := .int (2 + r)) rfl ⟨frac (2 + r) 1, low_spec (by omega) (by omega), wp_aN.mpr (wp1_of (a := .tuple [ca, cb, frac (2 + r) 1]) (by simp [gTup, szl (n := 3)]) ?_)⟩)))))
  generalize hF : frac (2 + r) 1 = fr
  generalize hC2 : PyData.list (rows.map (cornerD f s m)) = Cd2
  refine wp_of (a := RT L (.val (setD f)) M W (.val Cd2) E X N R B U lo hi (.val ca) (.val cb) (.val fr)) (b := [p3]) rfl ?_
  exact ⟨a, b, 2 + r, p3, (hr a).mp ha, (hr b).mp hb, by omega, by omega, hp3, by rw [hca, hcb, hF]⟩
end
section
variable {f : List Str} {s : Int} {m : M2} (hf : Frame f) (q : Mass f s m) (hs : s < 1000) {a b : List Str} (ha : Ord f a) (hb : Ord f b) {d : Int} (h1 : 2 ≤ d) (h2 : d ≤ 5) {L M W C E X N R B U lo hi : Slot} {p : Cell} {n : Nat}
include hf q hs ha hb h1 h2
theorem mix_cha : Cha f (d * s) (mixF m d a b) := by
  have nf := inc_nodup hf.inc
  refine ⟨fun t ht => ?_, ?_⟩
  · have z1 := corner_nn q nf ha t ht
    have z2 := corner_nn q nf hb t ht
    have := Int.mul_nonneg (show 0 ≤ d - 1 by omega) z2
    unfold mixF
    omega
  · show (f.map fun t => 1 * val (grow m [] a) t + (d - 1) * val (grow m [] b) t).sum = _
    rw [sum_mix, corner_sum q nf ha, corner_sum q nf hb, Int.sub_mul]
    omega
theorem mix_step : mixM n (RT L (.val (setD f)) M W C E X N R B U lo hi (.val (cornerD f s m a)) (.val (cornerD f s m b)) (.val (frac d 1))) [p] = some (.next (RT L (.val (setD f)) M W C E (.val (chD (d * s) f (mixF m d a b))) N R B U lo hi (.val (cornerD f s m a)) (.val (cornerD f s m b)) (.val (frac d 1))) [p]) := by
  have nf := inc_nodup hf.inc
  have fl := hf.few
  have pos := q.ok.pos
  have low := q.ok.low
  obtain ⟨w1, w2⟩ := small_ds h1 h2 pos hs
  have zi : zipItems (aC (eVar 14) (aC (eVar 15) (aN))) (RT L (.val (setD f)) M W C E X N R B U lo hi (.val (cornerD f s m a)) (.val (cornerD f s m b)) (.val (frac d 1))) [p] = some (f.map fun t => .tuple [frac s (val (grow m [] a) t), frac s (val (grow m [] b) t)], [p]) := zip_of (f := f) (A := fun t => frac s (val (grow m [] a) t)) (B := fun t => frac s (val (grow m [] b) t)) rfl rfl
  generalize hca : cornerD f s m a = ca at zi ⊢
  generalize hcb : cornerD f s m b = cb at zi ⊢
  have lc : mLc true (zipItems (aC (eVar 14) (aC (eVar 15) (aN)))) [21, 22] (gT 2 (gsC (gcN 21) (gsC (gcN 22) (gsN)))) (tTrue) (eCall 2 F_law_plus (rV (eCall 2 F_law_times (rV (eVar 16) (rV (eVar 21) (rN)))) (rV (eCall 2 F_law_times (rV (eCall 2 F_law_less (rV (eL gTup (aC (eC (.int 1)) (aC (eC (.int 1)) (aN)))) (rV (eVar 16) (rN)))) (rV (eVar 22) (rN)))) (rN)))) (RT L (.val (setD f)) M W C E X N R B U lo hi (.val ca) (.val cb) (.val (frac d 1))) [p] = some (f.map fun t => frac (d * s) (mixF m d a b t), [p]) :=
    lc_all (fun t => .tuple [frac s (val (grow m [] a) t), frac s (val (grow m [] b) t)]) (fun t => frac (d * s) (mixF m d a b t)) f zi rfl (by omega) fun t ht => by
      have t1 := times_spec (a := 1) (b := val (grow m [] a) t) (q := d) (r := s) (by omega) (by omega) pos low (abs_small (corner_nn q nf ha t ht) pos (corner_le q nf ha t ht) low)
      have t2 := times_spec (a := d - 1) (b := val (grow m [] b) t) (q := d) (r := s) (by omega) (by omega) pos low (abs_small (corner_nn q nf hb t ht) pos (corner_le q nf hb t ht) low)
      have t3 := one_less (q := d) (r := 1) (by omega) (by omega)
      have t4 := lplus_spec (a := 1 * val (grow m [] a) t) (b := (d - 1) * val (grow m [] b) t) w1 w2
      generalize hd : mixF m d a b t = mx
      have hmx : 1 * val (grow m [] a) t + (d - 1) * val (grow m [] b) t = mx := hd
      rw [hmx] at t4
      generalize frac s (val (grow m [] a) t) = x1 at t1 ⊢
      generalize frac s (val (grow m [] b) t) = x2 at t2 ⊢
      generalize frac d 1 = fr at t1 t3 ⊢
      exact ⟨[.own 0, L, .val (setD f), M, W, C, E, X, N, R, B, U, lo, hi, .val ca, .val cb, .val fr, .non, .non, .non, .non, .val x1, .val x2], rfl,
        callm2 (callm2 (x := fr) (x' := x1) rfl rfl t1) (callm2 (callm2 (x' := fr) (tup2_of rfl rfl) rfl t3) (x' := x2) rfl t2) t4⟩
  have e := eL1_of (g := gTuple) (y := chD (d * s) f (mixF m d a b)) (eF_of lc) rfl
  generalize chD (d * s) f (mixF m d a b) = y at e ⊢
  unfold mixM sAs
  rw [e]
  rfl
end
section
variable {f : List Str} {s : Int} {m : M2} (hf : Frame f) (q : Mass f s m) (hs : s < 1000) {a b : List Str} (ha : Ord f a) (hb : Ord f b) {d : Int} (h1 : 2 ≤ d) (h2 : d ≤ 5) {w : Str → Int} (hw : Wor f w) {L M C E X N R B U lo hi o1 o2 pt : Slot} {p : Cell} {n : Nat}
include hf q hs ha hb h1 h2 hw
theorem meanof_step : meanofM n (RT L (.val (setD f)) M (.val (worD f w)) C E (.val (chD (d * s) f (mixF m d a b))) N R B U lo hi o1 o2 pt) [p] = some (.next (RT L (.val (setD f)) M (.val (worD f w)) C E (.val (chD (d * s) f (mixF m d a b))) (.val (frac (d * s) (dotF f (mixF m d a b) w))) R B U lo hi o1 o2 pt) [p]) := by
  obtain ⟨w1, w2⟩ := small_ds h1 h2 q.ok.pos hs
  have mo := mean_of_spec hf w1 w2 (mix_cha hf q hs ha hb h1 h2) hw
  generalize chD (d * s) f (mixF m d a b) = c at mo ⊢
  generalize frac (d * s) (dotF f (mixF m d a b) w) = y at mo ⊢
  unfold meanofM sAs
  rw [callm3 (x := setD f) (x' := c) (x2 := worD f w) rfl rfl rfl mo]
  rfl
theorem within_step {ms : MS} : sIf withinT ms sNil n (RT L (.val (setD f)) M (.val (worD f w)) C E (.val (chD (d * s) f (mixF m d a b))) (.val (frac (d * s) (dotF f (mixF m d a b) w))) R B U (.val (frac s (LW w m))) (.val (frac s (-(LW (fun t => -w t) m)))) o1 o2 pt) [p] = some (.next (RT L (.val (setD f)) M (.val (worD f w)) C E (.val (chD (d * s) f (mixF m d a b))) (.val (frac (d * s) (dotF f (mixF m d a b) w))) R B U (.val (frac s (LW w m))) (.val (frac s (-(LW (fun t => -w t) m)))) o1 o2 pt) [p]) := by
  have fl := hf.few
  have nf := inc_nodup hf.inc
  have pos := q.ok.pos
  have low := q.ok.low
  obtain ⟨w1, w2⟩ := small_ds h1 h2 pos hs
  have lm := lmean_spec (f := f) (h := mixF m d a b) w1 w2 (by omega) hw
  have hv : dotF f (mixF m d a b) w = 1 * dot w (grow m [] a) + (d - 1) * dot w (grow m [] b) := by
    rw [← corner_dot q nf ha w, ← corner_dot q nf hb w]
    exact dotF_mix f 1 (d - 1) _ _ w
  have hw' : ∀ t ∈ f, -99 ≤ w t ∧ w t ≤ -99 + (198 : Nat) := fun t ht => ⟨hw.lo t ht, by have := hw.hi t ht; omega⟩
  have hn' : ∀ t ∈ f, -99 ≤ (fun t => -w t) t ∧ (fun t => -w t) t ≤ -99 + (198 : Nat) := fun t ht => ⟨hw.neg.lo t ht, by have : -w t ≤ 99 := hw.neg.hi t ht; show -w t ≤ _; omega⟩
  have la : LW w m ≤ dot w (grow m [] a) := mean_low q (pick_least q w) hw' ha
  have lb : LW w m ≤ dot w (grow m [] b) := mean_low q (pick_least q w) hw' hb
  have ka : LW (fun t => -w t) m ≤ dot (fun t => -w t) (grow m [] a) := mean_low q (pick_least q fun t => -w t) hn' ha
  have kb : LW (fun t => -w t) m ≤ dot (fun t => -w t) (grow m [] b) := mean_low q (pick_least q fun t => -w t) hn' hb
  rw [dot_neg] at ka kb
  have u1 := up_spec (q := s) (r := LW w m) (q' := d * s) (r' := dotF f (mixF m d a b) w) pos low w1 w2
  have u2 := up_spec (q := d * s) (r := dotF f (mixF m d a b) w) (q' := s) (r' := -(LW (fun t => -w t) m)) w1 w2 pos low
  rw [decide_eq_true (by rw [hv]; exact mix_lo la lb (by omega) (by omega))] at u1
  rw [decide_eq_true (by rw [hv]; exact mix_hi (by omega) (by omega) (by omega) (by omega))] at u2
  have sm : F_law_same [.val (frac (d * s) (dotF f (mixF m d a b) w)), .val (frac (d * s) (dotF f (mixF m d a b) w))] [] = some (.bool true, []) := same6 (by simp [sameOk, frac])
  generalize chD (d * s) f (mixF m d a b) = c at lm ⊢
  generalize frac (d * s) (dotF f (mixF m d a b) w) = y at lm u1 u2 sm ⊢
  generalize frac s (LW w m) = yl at u1 ⊢
  generalize frac s (-(LW (fun t => -w t) m)) = yh at u2 ⊢
  exact sIf_f (tOr_f (tNot_f (tV_of (callm2 (x := y) rfl (callm2 (x := c) (x' := worD f w) rfl rfl lm) sm))) (tNot_f (tAnd_t (tV_of (callm2 (x := yl) (x' := y) rfl rfl u1)) (tV_of (callm2 (x := y) (x' := yh) rfl rfl u2)))))
end
theorem best_ints (ns : List Int) : bestOk (ns.map .int) = true := by
  have sq : ∀ ns : List Int, seqA (ns.map .int) = true := fun ns => by
    induction ns with
    | nil => rfl
    | cons n ns ih =>
      simp [seqA, seqD] at ih ⊢
      exact ih
  have dp : ∀ ns : List Int, PyData.depthAll (ns.map .int) ≤ 1 := fun ns => by
    induction ns with
    | nil => simp [PyData.depthAll]
    | cons n ns ih =>
      simp [PyData.depthAll, PyData.depth] at ih ⊢
      omega
  unfold bestOk
  simp only [Bool.and_eq_true, decide_eq_true_eq, List.all_eq_true]
  refine ⟨sq ns, fun x hx y hy => ?_, fun x hx => ?_, by have := dp ns; omega⟩
  · obtain ⟨a, _, rfl⟩ := List.mem_map.mp hx
    obtain ⟨b, _, rfl⟩ := List.mem_map.mp hy
    simp [PySem.W.alike]
  · obtain ⟨a, _, rfl⟩ := List.mem_map.mp hx
    simp [isNoneD]
theorem foldl_max (ns : List Int) : ∀ n : Int, n ≤ ns.foldl max n ∧ ∀ x ∈ ns, x ≤ ns.foldl max n := by
  induction ns with
  | nil => exact fun n => ⟨Int.le_refl _, fun x h => by cases h⟩
  | cons a ns ih =>
    intro n
    obtain ⟨h1, h2⟩ := ih (max n a)
    rw [List.foldl_cons]
    refine ⟨by omega, fun x hx => ?_⟩
    rcases List.mem_cons.mp hx with z | z
    · rw [z]; omega
    · exact h2 x z
theorem max_spec {ns : List Int} (hne : ns ≠ []) : ∃ v, gBest PySem.W.maxD (.tuple (ns.map .int)) = some (.int v) ∧ ∀ x ∈ ns, x ≤ v := by
  cases ns with
  | nil => exact absurd rfl hne
  | cons n ns =>
    refine ⟨ns.foldl max n, ?_, fun x hx => ?_⟩
    · have b := best_ints (n :: ns)
      rw [List.map_cons] at b ⊢
      show (if bestOk (PyData.int n :: ns.map PyData.int) = true then _ else _) = _
      rw [if_pos b, PySem.W.maxD_ints]
    · rcases List.mem_cons.mp hx with z | z
      · rw [z]; exact (foldl_max ns n).1
      · exact (foldl_max ns n).2 x z
section
variable {f : List Str} {s : Int} {m : M2} (hf : Frame f) (q : Mass f s m) {w x : Str → Int} (hw : Wor f w) (hx : Wor f x) {L C E X N R B U hi o1 o2 pt : Slot} {p : Cell} {n : Nat}
include hf q hw hx
theorem both_step {lo M : Slot} : bothM n (RT L (.val (setD f)) M (.val (worD f w)) C E X N (.val (worD f x)) B U lo hi o1 o2 pt) [p] = some (.next (RT L (.val (setD f)) M (.val (worD f w)) C E X N (.val (worD f x)) (.val (worD f fun t => w t + x t)) U lo hi o1 o2 pt) [p]) := by
  have fl := hf.few
  have zi : zipItems (aC (eVar 4) (aC (eVar 9) (aN))) (RT L (.val (setD f)) M (.val (worD f w)) C E X N (.val (worD f x)) B U lo hi o1 o2 pt) [p] = some (f.map fun t => .tuple [.int (w t), .int (x t)], [p]) := zip_of (f := f) (A := fun t => .int (w t)) (B := fun t => .int (x t)) rfl rfl
  generalize worD f w = dw at zi ⊢
  generalize worD f x = dx at zi ⊢
  have lc : mLc true (zipItems (aC (eVar 4) (aC (eVar 9) (aN)))) [21, 22] (gT 2 (gsC (gcN 21) (gsC (gcN 22) (gsN)))) (tTrue) (e2 gAdd (eVar 21) (eVar 22)) (RT L (.val (setD f)) M (.val dw) C E X N (.val dx) B U lo hi o1 o2 pt) [p] = some (f.map fun t => .int (w t + x t), [p]) :=
    lc_all (fun t => .tuple [.int (w t), .int (x t)]) (fun t => .int (w t + x t)) f zi rfl (by omega) fun t ht => ⟨[.own 0, L, .val (setD f), M, .val dw, C, E, X, N, .val dx, B, U, lo, hi, o1, o2, pt, .non, .non, .non, .non, .val (.int (w t)), .val (.int (x t))], rfl, rfl⟩
  unfold bothM sAs
  rw [eL1_of (g := gTuple) (y := worD f fun t => w t + x t) (eF_of lc) rfl]
  rfl
theorem sums_step : sIf sumsT (sIf addsT (sRet B0 (eC (.bool false))) sNil) sNil n (RT L (.val (setD f)) (.val (massD s m)) (.val (worD f w)) C E X N (.val (worD f x)) (.val (worD f fun t => w t + x t)) U (.val (frac s (LW w m))) hi o1 o2 pt) [p] = some (.next (RT L (.val (setD f)) (.val (massD s m)) (.val (worD f w)) C E X N (.val (worD f x)) (.val (worD f fun t => w t + x t)) U (.val (frac s (LW w m))) hi o1 o2 pt) [p]) := by
  have fl := hf.few
  have it : anyItems (eVar 10) (RT L (.val (setD f)) (.val (massD s m)) (.val (worD f w)) C E X N (.val (worD f x)) (.val (worD f fun t => w t + x t)) U (.val (frac s (LW w m))) hi o1 o2 pt) [p] = some (f.map fun t => .int (w t + x t), [p]) := items_tup rfl
  have lw := least_worth_spec (q := q) (hf := hf) (W := x) hx
  generalize hdb : worD f (fun t => w t + x t) = db at it ⊢
  generalize hdx : worD f x = dx at it lw ⊢
  generalize hdw : worD f w = dw at it ⊢
  generalize hdl : frac s (LW w m) = dl at it ⊢
  have lc : mLc true (anyItems (eVar 10)) [20] (gcN 20) (tTrue) (e3 gLt gLt (e1 gNeg (eC (.int 100))) (eVar 20) (eC (.int 100))) (RT L (.val (setD f)) (.val (massD s m)) (.val dw) C E X N (.val dx) (.val db) U (.val dl) hi o1 o2 pt) [p] = some (f.map fun t => .bool (decide (-100 < w t + x t) && decide (w t + x t < 100)), [p]) :=
    lc_all (fun t => .int (w t + x t)) (fun t => .bool (decide (-100 < w t + x t) && decide (w t + x t < 100))) f it rfl (by omega) fun t ht => ⟨[.own 0, L, .val (setD f), .val (massD s m), .val dw, C, E, X, N, .val dx, .val db, U, .val dl, hi, o1, o2, pt, .non, .non, .non, .val (.int (w t + x t)), .non, .non], rfl, by
      by_cases z : -100 < w t + x t
      · simp [e3, e1, eC, eVar, gNeg, gLt, gBool, z]
      · simp [e3, e1, eC, eVar, gNeg, gLt, gBool, z]⟩
  have g : gAll (.list (f.map fun t => .bool (decide (-100 < w t + x t) && decide (w t + x t < 100)))) = some (.bool (f.all fun t => decide (-100 < w t + x t) && decide (w t + x t < 100))) := by
    rw [gAll, bools_map]
    simp
  have t := tV_of (eL1_of (g := gAll) (eF_of lc) g)
  cases e : f.all fun t => decide (-100 < w t + x t) && decide (w t + x t < 100) with
  | false =>
    rw [e] at t
    exact sIf_f t
  | true =>
    rw [e] at t
    have hs' : Wor f fun t => w t + x t := by
      rw [List.all_eq_true] at e
      refine ⟨fun t ht => ?_, fun t ht => ?_⟩ <;> (have := e t ht; simp only [Bool.and_eq_true, decide_eq_true_eq] at this; omega)
    have ls := least_worth_spec (q := q) (hf := hf) hs'
    rw [hdb] at ls
    have pl := lplus_spec (a := LW w m) (b := LW x m) q.ok.pos q.ok.low
    rw [hdl] at pl
    have u := up_same (a := LW w m + LW x m) (b := LW (fun t => w t + x t) m) q.ok.pos q.ok.low
    rw [decide_eq_true (LW_add q w x)] at u
    rw [show sIf sumsT (sIf addsT (sRet B0 (eC (.bool false))) sNil) sNil n (RT L (.val (setD f)) (.val (massD s m)) (.val dw) C E X N (.val dx) (.val db) U (.val dl) hi o1 o2 pt) [p] = sIf addsT (sRet B0 (eC (.bool false))) sNil n (RT L (.val (setD f)) (.val (massD s m)) (.val dw) C E X N (.val dx) (.val db) U (.val dl) hi o1 o2 pt) [p] from sIf_t t]
    exact sIf_f (tNot_f (tV_of (callm2 (callm2 (x := dl) rfl (callm3 (x := setD f) (x' := massD s m) (x2 := dx) rfl rfl rfl lw) pl) (callm3 (x := setD f) (x' := massD s m) (x2 := db) rfl rfl rfl ls) u)))
omit hx
theorem up_step {M R lo : Slot} : upM n (RT L (.val (setD f)) M (.val (worD f w)) C E X N R B U lo hi o1 o2 pt) [p] = some (.next (RT L (.val (setD f)) M (.val (worD f w)) C E X N R B (.val (worD f fun t => w t + 1)) lo hi o1 o2 pt) [p]) := by
  have fl := hf.few
  have it : anyItems (eVar 4) (RT L (.val (setD f)) M (.val (worD f w)) C E X N R B U lo hi o1 o2 pt) [p] = some (f.map fun t => .int (w t), [p]) := items_tup rfl
  generalize worD f w = dw at it ⊢
  have lc : mLc true (anyItems (eVar 4)) [20] (gcN 20) (tTrue) (e2 gAdd (eVar 20) (eC (.int 1))) (RT L (.val (setD f)) M (.val dw) C E X N R B U lo hi o1 o2 pt) [p] = some (f.map fun t => .int (w t + 1), [p]) :=
    lc_all (fun t => .int (w t)) (fun t => .int (w t + 1)) f it rfl (by omega) fun t ht => ⟨[.own 0, L, .val (setD f), M, .val dw, C, E, X, N, R, B, U, lo, hi, o1, o2, pt, .non, .non, .non, .val (.int (w t)), .non, .non], rfl, rfl⟩
  unfold upM sAs
  rw [eL1_of (g := gTuple) (y := worD f fun t => w t + 1) (eF_of lc) rfl]
  rfl
theorem last_step {R : Slot} {ms : MS} : sIf upT ms sNil n (RT L (.val (setD f)) (.val (massD s m)) (.val (worD f w)) C E X N R B (.val (worD f fun t => w t + 1)) (.val (frac s (LW w m))) hi o1 o2 pt) [p] = some (.next (RT L (.val (setD f)) (.val (massD s m)) (.val (worD f w)) C E X N R B (.val (worD f fun t => w t + 1)) (.val (frac s (LW w m))) hi o1 o2 pt) [p]) := by
  have one := hf.one
  have pos := q.ok.pos
  obtain ⟨v, g, hv⟩ := max_spec (ns := f.map fun t => w t + 1) (by intro e; rw [List.map_eq_nil_iff] at e; rw [e] at one; simp at one)
  rw [List.map_map] at g
  have g' : gBest PySem.W.maxD (worD f fun t => w t + 1) = some (.int v) := g
  have pl := lplus_spec (a := LW w m) (b := s) pos q.ok.low
  have lws : v < 100 → F_least_worth [.val (setD f), .val (massD s m), .val (worD f fun t => w t + 1)] [] = some (frac s (LW w m + s), []) := fun h => by
    have hw' : Wor f fun t => w t + 1 := ⟨fun t ht => by have := hw.lo t ht; omega, fun t ht => by
      have := hv (w t + 1) (List.mem_map.mpr ⟨t, ht, rfl⟩)
      omega⟩
    rw [least_worth_spec q hf hw', LW_up q w]
  generalize worD f (fun t => w t + 1) = du at g' lws ⊢
  generalize hdl : frac s (LW w m) = dl at pl ⊢
  have c1 : tV (e2 gLt (eL (gl1 (gBest PySem.W.maxD)) (aC (eVar 11) (aN))) (eC (.int 100))) (RT L (.val (setD f)) (.val (massD s m)) (.val (worD f w)) C E X N R B (.val du) (.val dl) hi o1 o2 pt) [p] = some (decide (v < 100), [p]) :=
    tV_of (e2_of (x := .int v) (y := .int 100) (eL1_of (x := du) rfl g') rfl (by simp [gLt]))
  by_cases z : v < 100
  · rw [decide_eq_true z] at c1
    refine sIf_f (tAnd_t c1 (tNot_f (tV_of (callm2 (callm3 (x := setD f) (x' := massD s m) (x2 := du) rfl rfl rfl (lws z)) (callm2 (x := dl) (x' := frac s s) rfl ?_ pl) (same6 (by simp [sameOk, frac]))))))
    rw [← frac_one pos]
    exact tup2_of rfl rfl
  · rw [decide_eq_false z] at c1
    exact sIf_f (tAnd_f c1)
end
end K26
end
section
set_option linter.all false
set_option maxRecDepth 100000
set_option maxHeartbeats 4000000
/-! V7: k26: the turn, the law. -/
namespace K26
open PySem PD
noncomputable def bodyM : MS := (sSeq (sAs (eCall 2 F_law_frame (rL B0 0 (rV (eC (.int 4)) (rN)))) (gN 2)) (sSeq (sAs (eCall 2 F_law_masses (rL B0 0 (rV (eVar 2) (rN)))) (gN 3)) (sSeq worthM (sSeq cornM (sSeq (sIf fitT (sRet B0 (eC (.bool false))) (sNil)) (sSeq meanM (sSeq lohiM (sSeq (sIf sameT (sRet B0 (eC (.bool false))) (sNil)) (sSeq drawM (sSeq mixM (sSeq meanofM (sSeq (sIf withinT (sRet B0 (eC (.bool false))) (sNil)) (sSeq moreM (sSeq bothM (sSeq (sIf sumsT (sIf addsT (sRet B0 (eC (.bool false))) (sNil)) (sNil)) (sSeq upM (sIf upT (sRet B0 (eC (.bool false))) (sNil))))))))))))))))))
theorem right_eq : m_law_right = sSeq (sFor (rng1 (aC (eC (.int 4)) (aN))) (gN 1) bodyM) (sRet B0 (eC (.bool true))) := rfl
theorem wp_lright {p : Cell} (hp : Pool p) : wp (F_law_right [.own 0] [p]) fun d μ => d = .bool true ∧ μ.length = 1 := by
  refine wp_body ?_
  rw [right_eq]
  obtain ⟨e4, h41, h42⟩ := rng_ints 4
  refine ws_seq (ws_for (wp_rng1.mpr (wp_aC.mpr (wp_eC.mpr (wp_aN.mpr ⟨4, rfl, by decide, ?_⟩)))))
  rw [show (4 : Int).toNat = 4 by rfl, h42]
  refine ⟨fun ds ρ μ => ∃ (L F M W C E X N R B U lo hi o1 o2 pt : Slot) (p : Cell), [L, F, M, W, C, E, X, N, R, B, U, lo, hi, o1, o2, pt].all isV = true ∧ Pool p ∧ ρ = RT L F M W C E X N R B U lo hi o1 o2 pt ∧ μ = [p], ⟨.non, .non, .non, .non, .non, .non, .non, .non, .non, .non, .non, .non, .non, .non, .non, .non, p, rfl, hp, rfl, rfl⟩, ?_, ?_⟩
  · rintro d ds _ _ ⟨L, F, M, W, C, E, X, N, R, B, U, lo, hi, o1, o2, pt, p, hs, hp, rfl, rfl⟩
    refine wp_of (a := RT (.val d) F M W C E X N R B U lo hi o1 o2 pt) (b := [p]) rfl ?_
    unfold bodyM
    have hN : isV N = true := by
      simp only [List.all_cons, Bool.and_eq_true] at hs
      exact hs.2.2.2.2.2.2.2.1
    refine ws_seq (ws_as (wp_callP rfl (noBo0 _ _) (wp_eC.mpr ⟨p, rfl, wp_lframe hp fun f p1 hp1 hf hf4 => ⟨p1, rfl, hp1, ?_⟩⟩)))
    refine wp_of (a := RT (.val d) (.val (setD f)) M W C E X N R B U lo hi o1 o2 pt) (b := [p1]) rfl ?_
    refine ws_seq (ws_as (wp_callP rfl (noBo0 _ _) (wp_of (a := setD f) (b := [p1]) rfl ⟨p1, rfl, wp_lmasses hp1 hf fun s m p2 hp2 q hlow => ⟨p2, rfl, hp2, ?_⟩⟩)))
    refine wp_of (a := RT (.val d) (.val (setD f)) (.val (massD s m)) W C E X N R B U lo hi o1 o2 pt) (b := [p2]) rfl ?_
    have nf := inc_nodup hf.inc
    obtain ⟨rows, hrows, hr, hrl⟩ := orders_spec nf hf4
    refine ws_seq ((worth_step hf hp2).mono ?_)
    rintro _ ⟨w, p3, hw, hp3, rfl⟩
    refine ws_seq (wp1_of (corn_step hf q hr hrl hrows) ?_)
    refine ws_seq (wp1_of (fit_step hf q hr hrl) ?_)
    refine ws_seq (wp1_of (mean_step hf q hw hr hrl) ?_)
    refine ws_seq (wp1_of (lohi_step hf q hw hr hrl hN) ?_)
    refine ws_seq (wp1_of (same_step hf q hw hr hrl) ?_)
    refine ws_seq ((draw_step hf hr hrl hp3).mono ?_)
    rintro _ ⟨a, b, dd, p4, ha, hb, d1, d2, hp4, rfl⟩
    refine ws_seq (wp1_of (mix_step hf q hlow ha hb d1 d2) ?_)
    refine ws_seq (wp1_of (meanof_step hf q hlow ha hb d1 d2 hw) ?_)
    refine ws_seq (wp1_of (within_step hf q hlow ha hb d1 d2 hw) ?_)
    refine ws_seq ((more_step hf hp4).mono ?_)
    rintro _ ⟨x, p5, hx, hp5, rfl⟩
    refine ws_seq (wp1_of (both_step hf q hw hx) ?_)
    refine ws_seq (wp1_of (sums_step hf q hw hx) ?_)
    refine ws_seq (wp1_of (up_step hf q hw) ?_)
    refine wp1_of (last_step hf q hw) ?_
    exact ⟨_, _, _, _, _, _, _, _, _, _, _, _, _, _, _, _, p5, rfl, hp5, RT_tr (by simp) rfl, rfl⟩
  · rintro _ _ ⟨L, F, M, W, C, E, X, N, R, B, U, lo, hi, o1, o2, pt, p, hs, hp, rfl, rfl⟩
    exact ws_ret0 (wp_eC.mpr ⟨rfl, rfl⟩)
theorem callF_of {ns : List Int} (hn : ns.length ≤ 63) (lap : Int) (h0 : 0 ≤ lap) {ρ : List Slot} {μ : List Cell} (g0 : eVar 0 ρ μ = some (.list (ns.map .int), μ)) (g1 : eVar 1 ρ μ = some (.int lap, μ)) : eCallF F_law_right (mCallF 2 F_law_voice (aC (eVar 0) (aC (eVar 1) (aN)))) ρ μ = some (.bool true, μ) := by
  obtain ⟨pl, e1, hp⟩ := voice_spec ns hn lap h0
  obtain ⟨d, c, e2, rfl, hl⟩ := wp_lright hp
  have e3 : mCallF 2 F_law_voice (aC (eVar 0) (aC (eVar 1) (aN))) ρ μ = some (pl, μ) := by
    simp [mCallF, aC, aN, g0, g1, e1]
  unfold eCallF
  rw [e3, Option.bind_some]
  dsimp only
  rw [e2, Option.bind_some]
  dsimp only
  rw [if_pos hl]
theorem law_spec (ns : List Int) (hl : ns.length ≤ 63) : F_law [.val (.list (ns.map .int))] [] = some (.bool true, []) := by
  have e0 : gLen (.list (ns.map .int)) = some (.int ns.length) := by simp [gLen]
  obtain ⟨n, hn, hm⟩ : ∃ n : Nat, n ≤ 63 ∧ eL (gl2 gMax2) (aC (eC (.int 1)) (aC (eL (gl2 gMin2) (aC (eL (gl1 gLen) (aC (eVar 0) (aN))) (aC (eC (.int 3)) (aN)))) (aN))) [.val (.list (ns.map .int)), .non] [] = some (.int n, []) := by
    have a1 : eL (gl1 gLen) (aC (eVar 0) (aN)) [.val (.list (ns.map .int)), .non] [] = some (.int ns.length, []) := eL1_of rfl e0
    refine ⟨max 1 (min ns.length 3), by omega, ?_⟩
    simp [eL, aC, aN, gl1, gl2, eVar, eC, e0, gMin2, gMax2]
    split <;> split <;> omega
  have it := rng1_n hm (by omega)
  have lc : mLc true (rng1 (aC (eL (gl2 gMax2) (aC (eC (.int 1)) (aC (eL (gl2 gMin2) (aC (eL (gl1 gLen) (aC (eVar 0) (aN))) (aC (eC (.int 3)) (aN)))) (aN)))) (aN))) [1] (gcN 1) (tTrue) (eCallF F_law_right (mCallF 2 F_law_voice (aC (eVar 0) (aC (eVar 1) (aN))))) [.val (.list (ns.map .int)), .non] [] = some ((List.range n).map fun _ => .bool true, []) :=
    lc_all (fun i : Nat => .int (0 + (i : Int))) (fun _ => .bool true) (List.range n) it rfl (by simp; omega) fun i hi => ⟨[.val (.list (ns.map .int)), .val (.int (0 + (i : Int)))], rfl, callF_of hl (0 + (i : Int)) (by omega) rfl rfl⟩
  have r := eL1_of (g := gAll) (eF_of lc) all_true
  show bodyF 1 m_law _ _ = _
  unfold bodyF m_law
  simp only [List.append_eq, List.replicate, List.cons_append, List.nil_append, List.length_nil]
  rw [ret_of r]
  rfl
end K26
end
section
open PySem PySem.Spec PyProof.Rows L2 PD LamX
namespace K26
theorem gs_of {w : World} {h base : Heap} {K : PySem.W.Frag} {mg : Str → Option Value} (c : He.SaysX faL fnL [] tfL exB w h K) (X : K.In base) (G : base.Ns mainGlobals mg) (tb : ∀ p ∈ tfL.map (He.cT K), TabB base mg p.1 p.2) : Gs K mg base where
  f_abs := He.free_ok X G (c.t.d.fact 0 (f := .free "abs") rfl)
  f_all := He.free_ok X G (c.t.d.fact 1 (f := .free "all") rfl)
  f_bool := He.free_ok X G (c.t.d.fact 2 (f := .free "bool") rfl)
  f_dict := He.free_ok X G (c.t.d.fact 3 (f := .free "dict") rfl)
  f_divmod := He.free_ok X G (c.t.d.fact 4 (f := .free "divmod") rfl)
  f_enumerate := He.free_ok X G (c.t.d.fact 5 (f := .free "enumerate") rfl)
  f_int := He.free_ok X G (c.t.d.fact 6 (f := .free "int") rfl)
  f_isinstance := He.free_ok X G (c.t.d.fact 7 (f := .free "isinstance") rfl)
  f_len := He.free_ok X G (c.t.d.fact 8 (f := .free "len") rfl)
  f_list := He.free_ok X G (c.t.d.fact 9 (f := .free "list") rfl)
  f_max := He.free_ok X G (c.t.d.fact 10 (f := .free "max") rfl)
  f_min := He.free_ok X G (c.t.d.fact 11 (f := .free "min") rfl)
  f_range := He.free_ok X G (c.t.d.fact 12 (f := .free "range") rfl)
  f_sorted := He.free_ok X G (c.t.d.fact 13 (f := .free "sorted") rfl)
  f_str := He.free_ok X G (c.t.d.fact 14 (f := .free "str") rfl)
  f_sum := He.free_ok X G (c.t.d.fact 15 (f := .free "sum") rfl)
  f_tuple := He.free_ok X G (c.t.d.fact 16 (f := .free "tuple") rfl)
  f_zip := He.free_ok X G (c.t.d.fact 17 (f := .free "zip") rfl)
  g_is_whole := He.glo_ok X G (c.t.d.fact 18 (f := .glo "is_whole") rfl)
  g_is_between := He.glo_ok X G (c.t.d.fact 19 (f := .glo "is_between") rfl)
  g_is_one_of := He.glo_ok X G (c.t.d.fact 20 (f := .glo "is_one_of") rfl)
  g_is_word := He.glo_ok X G (c.t.d.fact 21 (f := .glo "is_word") rfl)
  g_is_name := He.glo_ok X G (c.t.d.fact 22 (f := .glo "is_name") rfl)
  g_is_tuple_of := He.glo_ok X G (c.t.d.fact 23 (f := .glo "is_tuple_of") rfl)
  g_is_pair := He.glo_ok X G (c.t.d.fact 24 (f := .glo "is_pair") rfl)
  g_wrong_in := He.glo_ok X G (c.t.d.fact 25 (f := .glo "wrong_in") rfl)
  g_wrong_in_all := He.glo_ok X G (c.t.d.fact 26 (f := .glo "wrong_in_all") rfl)
  g_are_below := He.glo_ok X G (c.t.d.fact 27 (f := .glo "are_below") rfl)
  g_is_set_of_names := He.glo_ok X G (c.t.d.fact 28 (f := .glo "is_set_of_names") rfl)
  g_lowest := He.glo_ok X G (c.t.d.fact 29 (f := .glo "lowest") rfl)
  g_is_fraction := He.glo_ok X G (c.t.d.fact 30 (f := .glo "is_fraction") rfl)
  g_plus := He.glo_ok X G (c.t.d.fact 31 (f := .glo "plus") rfl)
  g_total := He.glo_ok X G (c.t.d.fact 32 (f := .glo "total") rfl)
  g_set_order := He.glo_ok X G (c.t.d.fact 33 (f := .glo "set_order") rfl)
  g_wrong_in_frame := He.glo_ok X G (c.t.d.fact 34 (f := .glo "wrong_in_frame") rfl)
  g_is_mass := He.glo_ok X G (c.t.d.fact 35 (f := .glo "is_mass") rfl)
  g_wrong_in_masses := He.glo_ok X G (c.t.d.fact 36 (f := .glo "wrong_in_masses") rfl)
  g_is_share := He.glo_ok X G (c.t.d.fact 37 (f := .glo "is_share") rfl)
  g_wrong_in_chances := He.glo_ok X G (c.t.d.fact 38 (f := .glo "wrong_in_chances") rfl)
  g_given_to := He.glo_ok X G (c.t.d.fact 39 (f := .glo "given_to") rfl)
  g_check_frame := He.glo_ok X G (c.t.d.fact 40 (f := .glo "check_frame") rfl)
  g_check_masses := He.glo_ok X G (c.t.d.fact 41 (f := .glo "check_masses") rfl)
  g_check_chances := He.glo_ok X G (c.t.d.fact 42 (f := .glo "check_chances") rfl)
  g_is_worth := He.glo_ok X G (c.t.d.fact 43 (f := .glo "is_worth") rfl)
  g_wrong_in_worths := He.glo_ok X G (c.t.d.fact 44 (f := .glo "wrong_in_worths") rfl)
  g_mean_by := He.glo_ok X G (c.t.d.fact 45 (f := .glo "mean_by") rfl)
  g_least_of := He.glo_ok X G (c.t.d.fact 46 (f := .glo "least_of") rfl)
  g_greatest_of := He.glo_ok X G (c.t.d.fact 47 (f := .glo "greatest_of") rfl)
  g_least_mean := He.glo_ok X G (c.t.d.fact 48 (f := .glo "least_mean") rfl)
  g_greatest_mean := He.glo_ok X G (c.t.d.fact 49 (f := .glo "greatest_mean") rfl)
  g_check_worths := He.glo_ok X G (c.t.d.fact 50 (f := .glo "check_worths") rfl)
  g_check_worth := He.glo_ok X G (c.t.d.fact 51 (f := .glo "check_worth") rfl)
  g_least_worth := He.glo_ok X G (c.t.d.fact 52 (f := .glo "least_worth") rfl)
  g_greatest_worth := He.glo_ok X G (c.t.d.fact 53 (f := .glo "greatest_worth") rfl)
  g_mean_of := He.glo_ok X G (c.t.d.fact 54 (f := .glo "mean_of") rfl)
  g_law_voice := He.glo_ok X G (c.t.d.fact 55 (f := .glo "_law_voice") rfl)
  g_law_say := He.glo_ok X G (c.t.d.fact 56 (f := .glo "_law_say") rfl)
  g_law_of := He.glo_ok X G (c.t.d.fact 57 (f := .glo "_law_of") rfl)
  g_law_same := He.glo_ok X G (c.t.d.fact 58 (f := .glo "_law_same") rfl)
  g_law_low := He.glo_ok X G (c.t.d.fact 59 (f := .glo "_law_low") rfl)
  g_law_plus := He.glo_ok X G (c.t.d.fact 60 (f := .glo "_law_plus") rfl)
  g_law_less := He.glo_ok X G (c.t.d.fact 61 (f := .glo "_law_less") rfl)
  g_law_times := He.glo_ok X G (c.t.d.fact 62 (f := .glo "_law_times") rfl)
  g_law_up_to := He.glo_ok X G (c.t.d.fact 63 (f := .glo "_law_up_to") rfl)
  g_law_sum := He.glo_ok X G (c.t.d.fact 64 (f := .glo "_law_sum") rfl)
  g_law_frame := He.glo_ok X G (c.t.d.fact 65 (f := .glo "_law_frame") rfl)
  g_law_sets := He.glo_ok X G (c.t.d.fact 66 (f := .glo "_law_sets") rfl)
  g_law_shared := He.glo_ok X G (c.t.d.fact 67 (f := .glo "_law_shared") rfl)
  g_law_masses := He.glo_ok X G (c.t.d.fact 68 (f := .glo "_law_masses") rfl)
  g_law_within := He.glo_ok X G (c.t.d.fact 69 (f := .glo "_law_within") rfl)
  g_law_belief := He.glo_ok X G (c.t.d.fact 70 (f := .glo "_law_belief") rfl)
  g_law_do_fit := He.glo_ok X G (c.t.d.fact 71 (f := .glo "_law_do_fit") rfl)
  g_law_mean := He.glo_ok X G (c.t.d.fact 72 (f := .glo "_law_mean") rfl)
  g_law_orders := He.glo_ok X G (c.t.d.fact 73 (f := .glo "_law_orders") rfl)
  g_law_grown := He.glo_ok X G (c.t.d.fact 74 (f := .glo "_law_grown") rfl)
  g_law_least := He.glo_ok X G (c.t.d.fact 75 (f := .glo "_law_least") rfl)
  g_law_right := He.glo_ok X G (c.t.d.fact 76 (f := .glo "_law_right") rfl)
  g_law := He.glo_ok X G (c.t.d.fact 77 (f := .glo "law") rfl)
  d_is_whole := c.t.d.def_ 0 (d := ⟨("is_whole", none), "is_whole", "is_whole", defArgs s_is_whole, defBody s_is_whole, defScope s_is_whole, [], []⟩) rfl
  d_is_between := c.t.d.def_ 1 (d := ⟨("is_between", none), "is_between", "is_between", defArgs s_is_between, defBody s_is_between, defScope s_is_between, [], []⟩) rfl
  d_is_one_of := c.t.d.def_ 2 (d := ⟨("is_one_of", none), "is_one_of", "is_one_of", defArgs s_is_one_of, defBody s_is_one_of, defScope s_is_one_of, [], []⟩) rfl
  d_is_word := c.t.d.def_ 3 (d := ⟨("is_word", none), "is_word", "is_word", defArgs s_is_word, defBody s_is_word, defScope s_is_word, [], []⟩) rfl
  d_is_name := c.t.d.def_ 4 (d := ⟨("is_name", none), "is_name", "is_name", defArgs s_is_name, defBody s_is_name, defScope s_is_name, [], []⟩) rfl
  d_is_tuple_of := c.t.d.def_ 5 (d := ⟨("is_tuple_of", none), "is_tuple_of", "is_tuple_of", defArgs s_is_tuple_of, defBody s_is_tuple_of, defScope s_is_tuple_of, [], []⟩) rfl
  d_is_pair := c.t.d.def_ 6 (d := ⟨("is_pair", none), "is_pair", "is_pair", defArgs s_is_pair, defBody s_is_pair, defScope s_is_pair, [], []⟩) rfl
  d_wrong_in := c.t.d.def_ 7 (d := ⟨("wrong_in", none), "wrong_in", "wrong_in", defArgs s_wrong_in, defBody s_wrong_in, defScope s_wrong_in, [], []⟩) rfl
  d_wrong_in_all := c.t.d.def_ 8 (d := ⟨("wrong_in_all", none), "wrong_in_all", "wrong_in_all", defArgs s_wrong_in_all, defBody s_wrong_in_all, defScope s_wrong_in_all, [], []⟩) rfl
  d_are_below := c.t.d.def_ 9 (d := ⟨("are_below", none), "are_below", "are_below", defArgs s_are_below, defBody s_are_below, defScope s_are_below, [], []⟩) rfl
  d_is_set_of_names := c.t.d.def_ 10 (d := ⟨("is_set_of_names", none), "is_set_of_names", "is_set_of_names", defArgs s_is_set_of_names, defBody s_is_set_of_names, defScope s_is_set_of_names, [], []⟩) rfl
  d_lowest := c.t.d.def_ 11 (d := ⟨("lowest", none), "lowest", "lowest", defArgs s_lowest, defBody s_lowest, defScope s_lowest, [], []⟩) rfl
  d_is_fraction := c.t.d.def_ 12 (d := ⟨("is_fraction", none), "is_fraction", "is_fraction", defArgs s_is_fraction, defBody s_is_fraction, defScope s_is_fraction, [], []⟩) rfl
  d_plus := c.t.d.def_ 13 (d := ⟨("plus", none), "plus", "plus", defArgs s_plus, defBody s_plus, defScope s_plus, [], []⟩) rfl
  d_total := c.t.d.def_ 14 (d := ⟨("total", none), "total", "total", defArgs s_total, defBody s_total, defScope s_total, [], []⟩) rfl
  d_set_order := c.t.d.def_ 15 (d := ⟨("set_order", none), "set_order", "set_order", defArgs s_set_order, defBody s_set_order, defScope s_set_order, [], []⟩) rfl
  d_wrong_in_frame := c.t.d.def_ 16 (d := ⟨("wrong_in_frame", none), "wrong_in_frame", "wrong_in_frame", defArgs s_wrong_in_frame, defBody s_wrong_in_frame, defScope s_wrong_in_frame, [], []⟩) rfl
  d_is_mass := c.t.d.def_ 17 (d := ⟨("is_mass", none), "is_mass", "is_mass", defArgs s_is_mass, defBody s_is_mass, defScope s_is_mass, [], []⟩) rfl
  d_wrong_in_masses := c.t.d.def_ 18 (d := ⟨("wrong_in_masses", none), "wrong_in_masses", "wrong_in_masses", defArgs s_wrong_in_masses, defBody s_wrong_in_masses, defScope s_wrong_in_masses, [], []⟩) rfl
  d_is_share := c.t.d.def_ 19 (d := ⟨("is_share", none), "is_share", "is_share", defArgs s_is_share, defBody s_is_share, defScope s_is_share, [], []⟩) rfl
  d_wrong_in_chances := c.t.d.def_ 20 (d := ⟨("wrong_in_chances", none), "wrong_in_chances", "wrong_in_chances", defArgs s_wrong_in_chances, defBody s_wrong_in_chances, defScope s_wrong_in_chances, [], []⟩) rfl
  d_given_to := c.t.d.def_ 21 (d := ⟨("given_to", none), "given_to", "given_to", defArgs s_given_to, defBody s_given_to, defScope s_given_to, [], []⟩) rfl
  d_check_frame := c.t.d.def_ 22 (d := ⟨("check_frame", none), "check_frame", "check_frame", defArgs s_check_frame, defBody s_check_frame, defScope s_check_frame, [], []⟩) rfl
  d_check_masses := c.t.d.def_ 23 (d := ⟨("check_masses", none), "check_masses", "check_masses", defArgs s_check_masses, defBody s_check_masses, defScope s_check_masses, [], []⟩) rfl
  d_check_chances := c.t.d.def_ 24 (d := ⟨("check_chances", none), "check_chances", "check_chances", defArgs s_check_chances, defBody s_check_chances, defScope s_check_chances, [], []⟩) rfl
  d_is_worth := c.t.d.def_ 25 (d := ⟨("is_worth", none), "is_worth", "is_worth", defArgs s_is_worth, defBody s_is_worth, defScope s_is_worth, [], []⟩) rfl
  d_wrong_in_worths := c.t.d.def_ 26 (d := ⟨("wrong_in_worths", none), "wrong_in_worths", "wrong_in_worths", defArgs s_wrong_in_worths, defBody s_wrong_in_worths, defScope s_wrong_in_worths, [], []⟩) rfl
  d_mean_by := c.t.d.def_ 27 (d := ⟨("mean_by", none), "mean_by", "mean_by", defArgs s_mean_by, defBody s_mean_by, defScope s_mean_by, [], []⟩) rfl
  d_least_of := c.t.d.def_ 28 (d := ⟨("least_of", none), "least_of", "least_of", defArgs s_least_of, defBody s_least_of, defScope s_least_of, [], []⟩) rfl
  d_greatest_of := c.t.d.def_ 29 (d := ⟨("greatest_of", none), "greatest_of", "greatest_of", defArgs s_greatest_of, defBody s_greatest_of, defScope s_greatest_of, [], []⟩) rfl
  d_least_mean := c.t.d.def_ 30 (d := ⟨("least_mean", none), "least_mean", "least_mean", defArgs s_least_mean, defBody s_least_mean, defScope s_least_mean, [], []⟩) rfl
  d_greatest_mean := c.t.d.def_ 31 (d := ⟨("greatest_mean", none), "greatest_mean", "greatest_mean", defArgs s_greatest_mean, defBody s_greatest_mean, defScope s_greatest_mean, [], []⟩) rfl
  d_check_worths := c.t.d.def_ 32 (d := ⟨("check_worths", none), "check_worths", "check_worths", defArgs s_check_worths, defBody s_check_worths, defScope s_check_worths, [], []⟩) rfl
  d_check_worth := c.t.d.def_ 33 (d := ⟨("check_worth", none), "check_worth", "check_worth", defArgs s_check_worth, defBody s_check_worth, defScope s_check_worth, [], []⟩) rfl
  d_least_worth := c.t.d.def_ 34 (d := ⟨("least_worth", none), "least_worth", "least_worth", defArgs s_least_worth, defBody s_least_worth, defScope s_least_worth, [], []⟩) rfl
  d_greatest_worth := c.t.d.def_ 35 (d := ⟨("greatest_worth", none), "greatest_worth", "greatest_worth", defArgs s_greatest_worth, defBody s_greatest_worth, defScope s_greatest_worth, [], []⟩) rfl
  d_mean_of := c.t.d.def_ 36 (d := ⟨("mean_of", none), "mean_of", "mean_of", defArgs s_mean_of, defBody s_mean_of, defScope s_mean_of, [], []⟩) rfl
  d_law_voice := c.t.d.def_ 37 (d := ⟨("_law_voice", none), "_law_voice", "_law_voice", defArgs s_law_voice, defBody s_law_voice, defScope s_law_voice, [], []⟩) rfl
  d_law_say := c.t.d.def_ 38 (d := ⟨("_law_say", none), "_law_say", "_law_say", defArgs s_law_say, defBody s_law_say, defScope s_law_say, [], []⟩) rfl
  d_law_of := c.t.d.def_ 39 (d := ⟨("_law_of", none), "_law_of", "_law_of", defArgs s_law_of, defBody s_law_of, defScope s_law_of, [], []⟩) rfl
  d_law_same := c.t.d.def_ 40 (d := ⟨("_law_same", none), "_law_same", "_law_same", defArgs s_law_same, defBody s_law_same, defScope s_law_same, [], []⟩) rfl
  d_law_low := c.t.d.def_ 41 (d := ⟨("_law_low", none), "_law_low", "_law_low", defArgs s_law_low, defBody s_law_low, defScope s_law_low, [], []⟩) rfl
  d_law_plus := c.t.d.def_ 42 (d := ⟨("_law_plus", none), "_law_plus", "_law_plus", defArgs s_law_plus, defBody s_law_plus, defScope s_law_plus, [], []⟩) rfl
  d_law_less := c.t.d.def_ 43 (d := ⟨("_law_less", none), "_law_less", "_law_less", defArgs s_law_less, defBody s_law_less, defScope s_law_less, [], []⟩) rfl
  d_law_times := c.t.d.def_ 44 (d := ⟨("_law_times", none), "_law_times", "_law_times", defArgs s_law_times, defBody s_law_times, defScope s_law_times, [], []⟩) rfl
  d_law_up_to := c.t.d.def_ 45 (d := ⟨("_law_up_to", none), "_law_up_to", "_law_up_to", defArgs s_law_up_to, defBody s_law_up_to, defScope s_law_up_to, [], []⟩) rfl
  d_law_sum := c.t.d.def_ 46 (d := ⟨("_law_sum", none), "_law_sum", "_law_sum", defArgs s_law_sum, defBody s_law_sum, defScope s_law_sum, [], []⟩) rfl
  d_law_frame := c.t.d.def_ 47 (d := ⟨("_law_frame", none), "_law_frame", "_law_frame", defArgs s_law_frame, defBody s_law_frame, defScope s_law_frame, [], []⟩) rfl
  d_law_sets := c.t.d.def_ 48 (d := ⟨("_law_sets", none), "_law_sets", "_law_sets", defArgs s_law_sets, defBody s_law_sets, defScope s_law_sets, [], []⟩) rfl
  d_law_shared := c.t.d.def_ 49 (d := ⟨("_law_shared", none), "_law_shared", "_law_shared", defArgs s_law_shared, defBody s_law_shared, defScope s_law_shared, [], []⟩) rfl
  d_law_masses := c.t.d.def_ 50 (d := ⟨("_law_masses", none), "_law_masses", "_law_masses", defArgs s_law_masses, defBody s_law_masses, defScope s_law_masses, [], []⟩) rfl
  d_law_within := c.t.d.def_ 51 (d := ⟨("_law_within", none), "_law_within", "_law_within", defArgs s_law_within, defBody s_law_within, defScope s_law_within, [], []⟩) rfl
  d_law_belief := c.t.d.def_ 52 (d := ⟨("_law_belief", none), "_law_belief", "_law_belief", defArgs s_law_belief, defBody s_law_belief, defScope s_law_belief, [], []⟩) rfl
  d_law_do_fit := c.t.d.def_ 53 (d := ⟨("_law_do_fit", none), "_law_do_fit", "_law_do_fit", defArgs s_law_do_fit, defBody s_law_do_fit, defScope s_law_do_fit, [], []⟩) rfl
  d_law_mean := c.t.d.def_ 54 (d := ⟨("_law_mean", none), "_law_mean", "_law_mean", defArgs s_law_mean, defBody s_law_mean, defScope s_law_mean, [], []⟩) rfl
  d_law_orders := c.t.d.def_ 55 (d := ⟨("_law_orders", none), "_law_orders", "_law_orders", defArgs s_law_orders, defBody s_law_orders, defScope s_law_orders, [], []⟩) rfl
  d_law_grown := c.t.d.def_ 56 (d := ⟨("_law_grown", none), "_law_grown", "_law_grown", defArgs s_law_grown, defBody s_law_grown, defScope s_law_grown, [], []⟩) rfl
  d_law_least := c.t.d.def_ 57 (d := ⟨("_law_least", none), "_law_least", "_law_least", defArgs s_law_least, defBody s_law_least, defScope s_law_least, [], []⟩) rfl
  d_law_right := c.t.d.def_ 58 (d := ⟨("_law_right", none), "_law_right", "_law_right", defArgs s_law_right, defBody s_law_right, defScope s_law_right, [], []⟩) rfl
  d_law := c.t.d.def_ 59 (d := ⟨("law", none), "law", "law", defArgs s_law, defBody s_law, defScope s_law, [], []⟩) rfl
  k_LETTERS := cst_ok X G (ex_get (l := exL K) c.more 0)
  k_MOST_LETTERS := cst_ok X G (ex_get (l := exL K) c.more 1)
  k_MOST_THINGS := cst_ok X G (ex_get (l := exL K) c.more 2)
  k_MOST_WORTH := cst_ok X G (ex_get (l := exL K) c.more 3)
  k_NOTHING := cst_ok X G (ex_get (l := exL K) c.more 4)
  k_WHOLE := cst_ok X G (ex_get (l := exL K) c.more 5)
  k_WORDS := cstT_ok X G (ex_get (l := exL K) c.more 6)
  c_wrong_in_all := cd_ok (ex_get (l := exL K) c.more 7)
  t_wrong_in_all := tb _ (List.mem_map.mpr ⟨("wrong_in_all", none), (.head _), rfl⟩)
  m_wrong_in_all := (.head _)
  c_is_set_of_names := cd_ok (ex_get (l := exL K) c.more 8)
  t_is_set_of_names := tb _ (List.mem_map.mpr ⟨("is_set_of_names", none), (.tail _ (.head _)), rfl⟩)
  m_is_set_of_names := (.tail _ (.head _))
  c_wrong_in_frame := cd_ok (ex_get (l := exL K) c.more 9)
  t_wrong_in_frame := tb _ (List.mem_map.mpr ⟨("wrong_in_frame", none), (.tail _ (.tail _ (.head _))), rfl⟩)
  m_wrong_in_frame := (.tail _ (.tail _ (.head _)))
  c_wrong_in_masses := cd_ok (ex_get (l := exL K) c.more 10)
  t_wrong_in_masses := tb _ (List.mem_map.mpr ⟨("wrong_in_masses", none), (.tail _ (.tail _ (.tail _ (.head _)))), rfl⟩)
  m_wrong_in_masses := (.tail _ (.tail _ (.tail _ (.head _))))
  c_least_of := cd_ok (ex_get (l := exL K) c.more 11)
  t_least_of := tb _ (List.mem_map.mpr ⟨("least_of", none), (.tail _ (.tail _ (.tail _ (.tail _ (.head _))))), rfl⟩)
  m_least_of := (.tail _ (.tail _ (.tail _ (.tail _ (.head _)))))
  u := tu_ok (ex_get (l := exL K) c.more 12)
  h_gcd := blt_ok X G (ex_get (l := exL K) c.more 14)
end K26
open PySem PySem.W PySem.Calls PyProof.Rows
set_option maxHeartbeats 0 in
theorem PySem.Challenge.cw_heardweights_k26_whole_means_over_all_ch_holds : PySem.Challenge.rw_heardweights_k26_whole_means_over_all_ch.Holds := by
  w_on; o_law
  refine HandSHeadRun.head_imp (r := OpenLaw.row PySem.Challenge.rw_heardweights_k26_whole_means_over_all_ch) (q := view (OpenLaw.row PySem.Challenge.rw_heardweights_k26_whole_means_over_all_ch).prog [0, 83]) (H := K26.hk) (ob := K26.ob) (M := 6000) (loose := K26.loose) (d := HandSHeadRun.topDef (OpenLaw.row PySem.Challenge.rw_heardweights_k26_whole_means_over_all_ch).prog 83) (kwd := []) K26.ob_eq
    K26.run (by kernel_rfl) (by kernel_rfl) (by kernel_rfl) (by rfl) (by first | assumption | decide +kernel) (by decide +kernel) ⟨rfl, rfl, rfl, rfl, rfl, by decide +kernel⟩ ?hw ?hc
  case hw => w_witness2
  case hc =>
    refine LamX.walk_ofTsE (l := PySem.Challenge.rw_heardweights_k26_whole_means_over_all_ch) (n := 63) (k := 13) (x := "script") (CX := fun _ => L2.CX0) rfl (by decide) (by kernel_rfl) ⟨rfl, by decide, by decide⟩ ?F (fun _ _ _ _ _ z => z)
    intro w mg fa h Y G hmg0
    obtain ⟨K, KX, c⟩ := Y
    have hmg : mg ("law" : PySem.Str) = some (.ref fa) := by
      have e : (HandSHeadRun.topDef (OpenLaw.row PySem.Challenge.rw_heardweights_k26_whole_means_over_all_ch).prog 83).name = ("law" : PySem.Str) := by kernel_rfl
      rw [← e]
      exact hmg0
    have hga : He.ga K "law" = fa := by
      have e := He.glo_ok KX G (c.t.d.fact 77 (f := .glo "law") rfl)
      rw [hmg] at e
      cases e
      rfl
    refine ⟨K, KX, PD.lawAt_of (T := K26.TT K) (st := K26.s_law) (F := K26.F_law) c KX hmg (PD.ex_get (l := K26.exL K) c.more 13) (fun p hp => ?_) (fun base KB GB tb => K26.ok_law (K26.gs_of c KB GB tb)) ?_ (fun _ _ _ _ _ _ us hl => match us, hl with | [_], _ => rfl) fun ns hl _ => K26.law_spec ns hl⟩
    · unfold K26.TT at hp
      simp only [List.mem_cons, List.not_mem_nil, or_false] at hp
      simp only [K26.tfL, List.map_cons, List.map_nil, List.mem_cons, List.not_mem_nil, or_false]
      rcases hp with rfl | rfl | rfl | rfl | rfl <;> simp [He.cT]
    · rw [← hga]
      exact c.t.d.def_ 59 (d := ⟨("law", none), "law", "law", L2.defArgs K26.s_law, L2.defBody K26.s_law, L2.defScope K26.s_law, [], []⟩) rfl
end
