import PyProof.Rows.All
import Wide.All
import OpenK.AllK
import Wide.FinOn
import HandS.ForMost
import HandS.Exc
import HandS.TryOnly
import HandS.ExcOwn
import HandS.WordsExc
import HandS.IsInst
import HandS.Deep
import HandS.Flow
import HandS.Defaults
import HandS.HeadEnd
import HandS.HeadHook1
import HandS.HeadHook2
import HandS.Head2
import HandS.Walk
import HandS.TupLe
import HandS.TupAny
import HandS.SortInts
import HandS.SortRule
import HandS.Style
import HandS.Conv
import HandS.ExcIs
import HandS.More
import HandS.SetFor
import HandS.Property
import HandS.HeadNt
import PyProof.AutoSeq1
import HandS.Zip
import HandS.Strs
import HandS.Set
import HandS.TupSets
import HandS.NamedTupSort
import HandS.OwnEq
import PyProof.ReprRoads
import PyProof.ReprBulk
import PyProof.CallStr
import HandS.Text
import HandS.Codes
import HandS.FStr
import KE.KStateDown
import Lean
import HandS.Head0
import HandS.Head1
import PySem.Challenge.RW_cherrystone_k09_graphs_are_written
set_option Elab.async false
set_option linter.all false
set_option maxRecDepth 100000
set_option maxHeartbeats 4000000
/-! V1: data without addresses, and how they lie in the heap -/
namespace VL
open PySem L2

abbrev Frag := PySem.W.Frag
abbrev DK := Sum Key (List Key)
/-- a dict's keys: ints and texts, or tuples of them -/
inductive DKs where
  | k (kk : List Key) | t (kk : List (List Key))
def DKs.l : DKs → List DK
  | .k kk => kk.map Sum.inl
  | .t kk => kk.map Sum.inr

inductive D where
  | non | bl (b : Bool) | int (i : Int) | str (x : Str) | ty (n : String)
  | tup (ds : List D) | lst (ds : List D) | rd (ds : List D)
  | dic (ks : DKs) (ds : List D) | obj (C : Str) (ns : List Str) (ds : List D)
  | hid

inductive O where
  | val (d : D) | ol (ds : List D) | od (ks : DKs) (ds : List D)
  | nl (os : List O) | nd (ks : DKs) (os : List O) | ob (C : Str) (ns : List Str) (os : List O)
  | nt (os : List O)

inductive PK where
  | ix (n : Nat) | ky (k : DK) | fd (f : Str)
abbrev Path := List PK
abbrev Rho := Addr → Option Path

def Ex (H H' : Hp) : Prop := ∀ a o, H a = some o → H' a = some o
theorem Ex.refl (H : Hp) : Ex H H := fun _ _ h => h
theorem Ex.trans {H H1 H2 : Hp} (a : Ex H H1) (b : Ex H1 H2) : Ex H H2 := fun x o h => b x o (a x o h)
theorem Ex.sqL {K : Frag} {H H' : Hp} {a : Addr} {xs : List V} (e : Ex H H') (h : SqL K H a xs) : SqL K H' a xs := Same.seq e h
theorem Ex.sqT {K : Frag} {H H' : Hp} {a : Addr} {xs : List V} (e : Ex H H') (h : SqT K H a xs) : SqT K H' a xs := by
  rcases h with (h | ⟨o, h⟩) | h
  · exact .inl (.inl (e _ _ h))
  · exact .inl (.inr ⟨o, e _ _ h⟩)
  · exact .inr h
theorem Ex.new {H : Hp} {p : Addr} {o : HO} (h : H p = none) : Ex H (upd H p o) := fun a u e => by
  rw [upd_ne (ne_of_none e h)]
  exact e
theorem Ex.back {H H' : Hp} {p : Addr} (e : Ex H H') (h : H' p = none) : H p = none := by
  cases q : H p with
  | none => rfl
  | some o => rw [e p o q] at h; cases h

/-- a dict's content -/
def DiO : DKs → List V → HO → Prop
  | .k kk, vs, o => kk.length = vs.length ∧ o = .dK (kk.zip vs)
  | .t kk, vs, o => kk.length = vs.length ∧ o = .dT (kk.zip vs)

/-- where a frozen dict lies: one of plain keys may be locked -/
def DiA (S : Hp) (a : Addr) : DKs → HO → Prop
  | .k _, u => Rd S a u
  | .t _, u => S a = some u
section
variable (K : Frag)
mutual
def Fz (S : Hp) : D → V → Prop
  | .non, v => v = .non
  | .bl b, v => v = .bl b
  | .int i, v => v = .int i
  | .str x, v => v = .str x
  | .ty n, v => v = .ty n
  | .tup ds, v => ∃ a vs, v = .ref a ∧ S a = some (.tup vs) ∧ FzL S ds vs
  | .lst ds, v => ∃ a vs, v = .ref a ∧ S a = some (.lst vs) ∧ FzL S ds vs
  | .rd ds, v => ∃ a vs, v = .ref a ∧ SqL K S a vs ∧ FzL S ds vs
  | .dic ks ds, v => ∃ a vs o, v = .ref a ∧ DiA S a ks o ∧ DiO ks vs o ∧ FzL S ds vs
  | .obj C ns ds, v => ∃ a dx vs, v = .ref a ∧ S a = some (.ins (He.ga K C) dx (ns.zip vs)) ∧ S dx = some (.own a) ∧ ns.length = vs.length ∧ FzL S ds vs
  | .hid, v => ∃ a, v = .ref a
def FzL (S : Hp) : List D → List V → Prop
  | [], vs => vs = []
  | d :: ds, vs => ∃ v vs', vs = v :: vs' ∧ Fz S d v ∧ FzL S ds vs'
end
mutual
def Ow (ρ : Rho) (S H : Hp) : O → V → Path → Prop
  | .val d, v, _ => Fz K S d v
  | .ol ds, v, p => ∃ a vs, v = .ref a ∧ ρ a = some p ∧ H a = some (.lst vs) ∧ FzL K S ds vs
  | .od ks ds, v, p => ∃ a vs o, v = .ref a ∧ ρ a = some p ∧ H a = some o ∧ DiO ks vs o ∧ FzL K S ds vs
  | .nl os, v, p => ∃ a vs, v = .ref a ∧ ρ a = some p ∧ H a = some (.lst vs) ∧ OwZ ρ S H os ((List.range os.length).map PK.ix) vs p
  | .nd ks os, v, p => ∃ a vs o, v = .ref a ∧ ρ a = some p ∧ H a = some o ∧ (DiO ks vs o ∧ ks.l.Nodup) ∧ OwZ ρ S H os (ks.l.map PK.ky) vs p
  | .ob C ns os, v, p => ∃ a dx vs, v = .ref a ∧ ρ a = some p ∧ ρ dx = some p ∧ H a = some (.ins (He.ga K C) dx (ns.zip vs)) ∧ H dx = some (.own a) ∧ (ns.length = vs.length ∧ ns.Nodup) ∧ OwZ ρ S H os (ns.map PK.fd) vs p
  | .nt os, v, p => ∃ a vs, v = .ref a ∧ ρ a = some p ∧ H a = some (.tup vs) ∧ OwZ ρ S H os ((List.range os.length).map PK.ix) vs p
def OwZ (ρ : Rho) (S H : Hp) : List O → List PK → List V → Path → Prop
  | [], ks, vs, _ => ks = [] ∧ vs = []
  | o :: os, ks, vs, p => ∃ k ks' v vs', ks = k :: ks' ∧ vs = v :: vs' ∧ Ow ρ S H o v (p ++ [k]) ∧ OwZ ρ S H os ks' vs' p
end
end

mutual
def frz : O → D
  | .val d => d
  | .ol ds => .lst ds
  | .od ks ds => .dic ks ds
  | .nl os => .lst (frzL os)
  | .nd ks os => .dic ks (frzL os)
  | .ob C ns os => .obj C ns (frzL os)
  | .nt os => .tup (frzL os)
def frzL : List O → List D
  | [] => []
  | o :: os => frz o :: frzL os
end

section
variable {K : Frag} {S S' H H' : Hp} {ρ ρ' : Rho}
theorem DiO.len {ks : DKs} {vs : List V} {o : HO} (h : DiO ks vs o) : ks.l.length = vs.length := by
  cases ks with
  | k kk => show (kk.map Sum.inl).length = _; rw [List.length_map]; exact h.1
  | t kk => show (kk.map Sum.inr).length = _; rw [List.length_map]; exact h.1
theorem DiA.mono {a : Addr} {u : HO} (e : Ex S S') : ∀ {ks : DKs}, DiA S a ks u → DiA S' a ks u
  | .k _, .inl h => .inl (e _ _ h)
  | .k _, .inr ⟨o, h⟩ => .inr ⟨o, e _ _ h⟩
  | .t _, h => e _ _ h
theorem DiA.of {a : Addr} {u : HO} : ∀ {ks : DKs}, S a = some u → DiA S a ks u
  | .k _, h => .inl h
  | .t _, h => h
mutual
theorem Fz.mono (e : Ex S S') : ∀ {d : D} {v : V}, Fz K S d v → Fz K S' d v
  | .non, _, h => by unfold Fz at *; exact h
  | .bl _, _, h => by unfold Fz at *; exact h
  | .int _, _, h => by unfold Fz at *; exact h
  | .str _, _, h => by unfold Fz at *; exact h
  | .ty _, _, h => by unfold Fz at *; exact h
  | .tup _, _, h => by
    unfold Fz at *
    obtain ⟨a, vs, h1, h2, h3⟩ := h
    exact ⟨a, vs, h1, e _ _ h2, FzL.mono e h3⟩
  | .lst _, _, h => by
    unfold Fz at *
    obtain ⟨a, vs, h1, h2, h3⟩ := h
    exact ⟨a, vs, h1, e _ _ h2, FzL.mono e h3⟩
  | .rd _, _, h => by
    unfold Fz at *
    obtain ⟨a, vs, h1, h2, h3⟩ := h
    exact ⟨a, vs, h1, e.sqL h2, FzL.mono e h3⟩
  | .dic _ _, _, h => by
    unfold Fz at *
    obtain ⟨a, vs, o, h1, h2, h4, h3⟩ := h
    exact ⟨a, vs, o, h1, h2.mono e, h4, FzL.mono e h3⟩
  | .obj _ _ _, _, h => by
    unfold Fz at *
    obtain ⟨a, dx, vs, h1, h2, h4, h5, h3⟩ := h
    exact ⟨a, dx, vs, h1, e _ _ h2, e _ _ h4, h5, FzL.mono e h3⟩
  | .hid, _, h => by unfold Fz at *; exact h
theorem FzL.mono (e : Ex S S') : ∀ {ds : List D} {vs : List V}, FzL K S ds vs → FzL K S' ds vs
  | [], _, h => by unfold FzL at *; exact h
  | _ :: _, _, h => by
    unfold FzL at *
    obtain ⟨v, vs', h1, h2, h3⟩ := h
    exact ⟨v, vs', h1, Fz.mono e h2, FzL.mono e h3⟩
end
theorem FzL.len : ∀ {ds : List D} {vs : List V}, FzL K S ds vs → ds.length = vs.length
  | [], _, h => by unfold FzL at h; subst h; rfl
  | _ :: _, _, h => by
    unfold FzL at h
    obtain ⟨v, vs', rfl, _, h3⟩ := h
    simp [FzL.len h3]
theorem FzL.get : ∀ {ds : List D} {vs : List V} {i : Nat} {d : D}, FzL K S ds vs → ds[i]? = some d → ∃ v, vs[i]? = some v ∧ Fz K S d v
  | [], _, i, d, h, e => by simp at e
  | _ :: _, _, i, d, h, e => by
    unfold FzL at h
    obtain ⟨v, vs', rfl, h2, h3⟩ := h
    cases i with
    | zero => simp at e; subst e; exact ⟨v, rfl, h2⟩
    | succ i => simpa using FzL.get h3 (by simpa using e)
theorem FzL.getV : ∀ {ds : List D} {vs : List V} {i : Nat} {v : V}, FzL K S ds vs → vs[i]? = some v → ∃ d, ds[i]? = some d ∧ Fz K S d v
  | [], _, i, v, h, e => by unfold FzL at h; subst h; simp at e
  | d :: _, _, i, v, h, e => by
    unfold FzL at h
    obtain ⟨w, vs', rfl, h2, h3⟩ := h
    cases i with
    | zero => simp at e; subst e; exact ⟨d, rfl, h2⟩
    | succ i => simpa using FzL.getV h3 (by simpa using e)
theorem FzL.app : ∀ {ds es : List D} {vs ws : List V}, FzL K S ds vs → FzL K S es ws → FzL K S (ds ++ es) (vs ++ ws)
  | [], _, _, _, h, g => by unfold FzL at h; subst h; exact g
  | _ :: _, _, _, _, h, g => by
    unfold FzL at h
    obtain ⟨v, vs', rfl, h2, h3⟩ := h
    show FzL K S (_ :: (_ ++ _)) _
    unfold FzL
    exact ⟨v, vs' ++ _, rfl, h2, FzL.app h3 g⟩
theorem FzL.nil : FzL K S [] [] := by unfold FzL; rfl
theorem FzL.cons {d : D} {ds : List D} {v : V} {vs : List V} (h : Fz K S d v) (t : FzL K S ds vs) : FzL K S (d :: ds) (v :: vs) := by
  unfold FzL; exact ⟨v, vs, rfl, h, t⟩
theorem FzL.one {d : D} {v : V} (h : Fz K S d v) : FzL K S [d] [v] := .cons h .nil
theorem FzL.uncons {d : D} {ds : List D} {vs : List V} (h : FzL K S (d :: ds) vs) : ∃ v vs', vs = v :: vs' ∧ Fz K S d v ∧ FzL K S ds vs' := by
  unfold FzL at h; exact h
theorem FzL.unnil {vs : List V} (h : FzL K S [] vs) : vs = [] := by unfold FzL at h; exact h
theorem FzL.of : ∀ {ds : List D} {vs : List V}, ds.length = vs.length → (∀ (i : Nat) (d : D) (v : V), ds[i]? = some d → vs[i]? = some v → Fz K S d v) → FzL K S ds vs
  | [], [], _, _ => .nil
  | d :: ds, v :: vs, hl, h => .cons (h 0 d v rfl rfl) (FzL.of (by simpa using hl) fun i d' v' h1 h2 => h (i + 1) d' v' (by simpa using h1) (by simpa using h2))
theorem FzL.set {ds : List D} {vs : List V} {d : D} {v : V} (i : Nat) (h : FzL K S ds vs) (q : Fz K S d v) : FzL K S (ds.set i d) (vs.set i v) := by
  refine FzL.of (by simp [h.len]) fun j d' v' h1 h2 => ?_
  by_cases e : i = j
  · subst e
    by_cases hl : i < ds.length
    · rw [List.getElem?_set_self hl] at h1
      rw [List.getElem?_set_self (h.len ▸ hl)] at h2
      cases h1; cases h2; exact q
    · rw [List.getElem?_eq_none (by simpa using hl)] at h1; cases h1
  · rw [List.getElem?_set_ne e] at h1 h2
    obtain ⟨w, hw, r⟩ := h.get h1
    rw [h2] at hw; cases hw; exact r
theorem FzL.take {ds : List D} {vs : List V} (n : Nat) (h : FzL K S ds vs) : FzL K S (ds.take n) (vs.take n) := by
  refine FzL.of (by simp [h.len]) fun j d' v' h1 h2 => ?_
  rw [List.getElem?_take] at h1 h2
  split at h1
  · rename_i hj
    rw [if_pos hj] at h2
    obtain ⟨w, hw, r⟩ := h.get h1
    rw [h2] at hw; cases hw; exact r
  · cases h1
theorem FzL.drop {ds : List D} {vs : List V} (n : Nat) (h : FzL K S ds vs) : FzL K S (ds.drop n) (vs.drop n) := by
  refine FzL.of (by simp [h.len]) fun j d' v' h1 h2 => ?_
  rw [List.getElem?_drop] at h1 h2
  obtain ⟨w, hw, r⟩ := h.get h1
  rw [h2] at hw; cases hw; exact r
theorem FzL.ints : ∀ {ns : List Int} {vs : List V}, FzL K S (ns.map D.int) vs ↔ vs = ns.map V.int
  | [], vs => by
    constructor
    · intro h; exact h.unnil
    · intro h; subst h; exact .nil
  | n :: ns, vs => by
    constructor
    · intro h
      obtain ⟨v, vs', rfl, h2, h3⟩ := h.uncons
      have e := FzL.ints.mp h3
      unfold Fz at h2
      subst h2; subst e; rfl
    · intro h
      subst h
      exact .cons (by unfold Fz; rfl) (FzL.ints.mpr rfl)

/-- a change of the maps that keeps what lies below a path -/
def Keeps (ρ ρ' : Rho) (H H' : Hp) (p p' : Path) : Prop := ∀ (a : Addr) (r : Path), ρ a = some (p ++ r) → ρ' a = some (p' ++ r) ∧ H' a = H a
theorem Keeps.sub {p p' : Path} (k : Keeps ρ ρ' H H' p p') (x : PK) : Keeps ρ ρ' H H' (p ++ [x]) (p' ++ [x]) := fun a r h => by
  have := k a ([x] ++ r) (by rw [← List.append_assoc]; exact h)
  rw [← List.append_assoc] at this
  exact this
theorem Keeps.here {p p' : Path} (k : Keeps ρ ρ' H H' p p') {a : Addr} (h : ρ a = some p) : ρ' a = some p' ∧ H' a = H a := by
  have := k a [] (by rw [List.append_nil]; exact h)
  rw [List.append_nil] at this
  exact this
mutual
theorem Ow.mono (e : Ex S S') : ∀ {o : O} {v : V} {p p' : Path}, Keeps ρ ρ' H H' p p' → Ow K ρ S H o v p → Ow K ρ' S' H' o v p'
  | .val _, _, _, _, k, h => by
    unfold Ow at *
    exact h.mono e
  | .ol _, _, _, _, k, h => by
    unfold Ow at *
    obtain ⟨a, vs, h1, h2, h3, h4⟩ := h
    obtain ⟨k1, k2⟩ := k.here h2
    exact ⟨a, vs, h1, k1, k2.trans h3, h4.mono e⟩
  | .od _ _, _, _, _, k, h => by
    unfold Ow at *
    obtain ⟨a, vs, o, h1, h2, h3, h5, h4⟩ := h
    obtain ⟨k1, k2⟩ := k.here h2
    exact ⟨a, vs, o, h1, k1, k2.trans h3, h5, h4.mono e⟩
  | .nl _, _, _, _, k, h => by
    unfold Ow at *
    obtain ⟨a, vs, h1, h2, h3, h4⟩ := h
    obtain ⟨k1, k2⟩ := k.here h2
    exact ⟨a, vs, h1, k1, k2.trans h3, OwZ.mono e k h4⟩
  | .nd _ _, _, _, _, k, h => by
    unfold Ow at *
    obtain ⟨a, vs, o, h1, h2, h3, h5, h4⟩ := h
    obtain ⟨k1, k2⟩ := k.here h2
    exact ⟨a, vs, o, h1, k1, k2.trans h3, h5, OwZ.mono e k h4⟩
  | .ob _ _ _, _, _, _, k, h => by
    unfold Ow at *
    obtain ⟨a, dx, vs, h1, h2, h6, h3, h5, h7, h4⟩ := h
    obtain ⟨k1, k2⟩ := k.here h2
    obtain ⟨k3, k4⟩ := k.here h6
    exact ⟨a, dx, vs, h1, k1, k3, k2.trans h3, k4.trans h5, h7, OwZ.mono e k h4⟩
  | .nt _, _, _, _, k, h => by
    unfold Ow at *
    obtain ⟨a, vs, h1, h2, h3, h4⟩ := h
    obtain ⟨k1, k2⟩ := k.here h2
    exact ⟨a, vs, h1, k1, k2.trans h3, OwZ.mono e k h4⟩
theorem OwZ.mono (e : Ex S S') : ∀ {os : List O} {ks : List PK} {vs : List V} {p p' : Path}, Keeps ρ ρ' H H' p p' → OwZ K ρ S H os ks vs p → OwZ K ρ' S' H' os ks vs p'
  | [], _, _, _, _, k, h => by unfold OwZ at *; exact h
  | _ :: _, _, _, _, _, k, h => by
    unfold OwZ at *
    obtain ⟨x, ks', v, vs', h1, h2, h3, h4⟩ := h
    exact ⟨x, ks', v, vs', h1, h2, Ow.mono e (k.sub x) h3, OwZ.mono e k h4⟩
end
theorem OwZ.lenK : ∀ {os : List O} {ks : List PK} {vs : List V} {p : Path}, OwZ K ρ S H os ks vs p → ks.length = os.length ∧ vs.length = os.length
  | [], _, _, _, h => by unfold OwZ at h; obtain ⟨rfl, rfl⟩ := h; exact ⟨rfl, rfl⟩
  | _ :: _, _, _, _, h => by
    unfold OwZ at h
    obtain ⟨x, ks', v, vs', rfl, rfl, h3, h4⟩ := h
    obtain ⟨e1, e2⟩ := OwZ.lenK h4
    simp [e1, e2]
/-- what lies below a path becomes frozen -/
def Froze (ρ : Rho) (S' H : Hp) (p : Path) : Prop := ∀ (a : Addr) (r : Path), ρ a = some (p ++ r) → S' a = H a
theorem Froze.sub {p : Path} (k : Froze ρ S' H p) (x : PK) : Froze ρ S' H (p ++ [x]) := fun a r h => k a ([x] ++ r) (by rw [← List.append_assoc]; exact h)
theorem Froze.here {p : Path} (k : Froze ρ S' H p) {a : Addr} (h : ρ a = some p) : S' a = H a := k a [] (by rw [List.append_nil]; exact h)
mutual
theorem Ow.frz (e : Ex S S') : ∀ {o : O} {v : V} {p : Path}, Froze ρ S' H p → Ow K ρ S H o v p → Fz K S' (frz o) v
  | .val _, _, _, k, h => by
    unfold Ow at h
    unfold VL.frz
    exact h.mono e
  | .ol _, _, _, k, h => by
    unfold Ow at h
    obtain ⟨a, vs, h1, h2, h3, h4⟩ := h
    unfold VL.frz Fz
    exact ⟨a, vs, h1, (k.here h2).trans h3, h4.mono e⟩
  | .od _ _, _, _, k, h => by
    unfold Ow at h
    obtain ⟨a, vs, o, h1, h2, h3, h5, h4⟩ := h
    unfold VL.frz Fz
    exact ⟨a, vs, o, h1, .of ((k.here h2).trans h3), h5, h4.mono e⟩
  | .nl _, _, _, k, h => by
    unfold Ow at h
    obtain ⟨a, vs, h1, h2, h3, h4⟩ := h
    unfold VL.frz Fz
    exact ⟨a, vs, h1, (k.here h2).trans h3, OwZ.frz e k h4⟩
  | .nd _ _, _, _, k, h => by
    unfold Ow at h
    obtain ⟨a, vs, o, h1, h2, h3, h5, h4⟩ := h
    unfold VL.frz Fz
    exact ⟨a, vs, o, h1, .of ((k.here h2).trans h3), h5.1, OwZ.frz e k h4⟩
  | .ob _ _ _, _, _, k, h => by
    unfold Ow at h
    obtain ⟨a, dx, vs, h1, h2, h6, h3, h5, h7, h4⟩ := h
    unfold VL.frz Fz
    exact ⟨a, dx, vs, h1, (k.here h2).trans h3, (k.here h6).trans h5, h7.1, OwZ.frz e k h4⟩
  | .nt _, _, _, k, h => by
    unfold Ow at h
    obtain ⟨a, vs, h1, h2, h3, h4⟩ := h
    unfold VL.frz Fz
    exact ⟨a, vs, h1, (k.here h2).trans h3, OwZ.frz e k h4⟩
theorem OwZ.frz (e : Ex S S') : ∀ {os : List O} {ks : List PK} {vs : List V} {p : Path}, Froze ρ S' H p → OwZ K ρ S H os ks vs p → FzL K S' (frzL os) vs
  | [], _, _, _, k, h => by
    unfold OwZ at h
    unfold frzL FzL
    exact h.2
  | _ :: _, _, _, _, k, h => by
    unfold OwZ at h
    obtain ⟨x, ks', v, vs', h1, h2, h3, h4⟩ := h
    unfold frzL FzL
    exact ⟨v, vs', h2, Ow.frz e (k.sub x) h3, OwZ.frz e k h4⟩
end
end

/-! ### places within an owned tree -/
instance : DecidableEq DK := inferInstance
def keyAt (ks : List DK) (k : DK) : Option Nat := ks.findIdx? (· = k)
def namAt (ns : List Str) (f : Str) : Option Nat := ns.findIdx? (· = f)
def getP : List PK → O → Option O
  | [], o => some o
  | .ix n :: q, .nl os => os[n]?.bind (getP q)
  | .ix n :: q, .nt os => os[n]?.bind (getP q)
  | .ky k :: q, .nd ks os => (keyAt ks.l k).bind fun n => os[n]?.bind (getP q)
  | .fd f :: q, .ob _ ns os => (namAt ns f).bind fun n => os[n]?.bind (getP q)
  | _ :: _, _ => none
def setP : List PK → O → O → O
  | [], _, z => z
  | .ix n :: q, .nl os, z => match os[n]? with
    | some o => .nl (os.set n (setP q o z))
    | none => .nl os
  | .ix n :: q, .nt os, z => match os[n]? with
    | some o => .nt (os.set n (setP q o z))
    | none => .nt os
  | .ky k :: q, .nd ks os, z => match keyAt ks.l k with
    | some n => (match os[n]? with
      | some o => .nd ks (os.set n (setP q o z))
      | none => .nd ks os)
    | none => .nd ks os
  | .fd f :: q, .ob C ns os, z => match namAt ns f with
    | some n => (match os[n]? with
      | some o => .ob C ns (os.set n (setP q o z))
      | none => .ob C ns os)
    | none => .ob C ns os
  | _ :: _, o, _ => o
theorem findIdx_some {α : Type} [DecidableEq α] {l : List α} {x : α} {n : Nat} (h : l.findIdx? (· = x) = some n) : l[n]? = some x := by
  induction l generalizing n with
  | nil => simp at h
  | cons a l ih =>
    rw [List.findIdx?_cons] at h
    by_cases e : a = x
    · simp [e] at h; subst h; simp [e]
    · simp [e] at h
      obtain ⟨m, hm, rfl⟩ := h
      simpa using ih hm
/-- a change within the path r alone -/
def Kout (ρ ρ' : Rho) (H H' : Hp) (r : Path) : Prop := ∀ (a : Addr) (x : Path), ρ a = some x → ¬ r <+: x → ρ' a = some x ∧ H' a = H a
theorem Kout.sub {ρ ρ' : Rho} {H H' : Hp} {r q : Path} (k : Kout ρ ρ' H H' (r ++ q)) : Kout ρ ρ' H H' r := fun a x h1 h2 => k a x h1 fun z => h2 (List.IsPrefix.trans (List.prefix_append _ _) z)
section
variable {K : Frag} {S S' H H' : Hp} {ρ ρ' : Rho}
theorem OwZ.keep : ∀ {os : List O} {ks : List PK} {vs : List V} {p : Path} {k : PK}, OwZ K ρ S H os ks vs p → k ∉ ks → Ex S S' → Kout ρ ρ' H H' (p ++ [k]) → OwZ K ρ' S' H' os ks vs p
  | [], _, _, _, _, h, _, _, _ => by unfold OwZ at *; exact h
  | o :: os, _, _, p, k, h, hk, e, ko => by
    unfold OwZ at *
    obtain ⟨x, ks', v, vs', rfl, rfl, h3, h4⟩ := h
    have nx : k ≠ x := fun z => hk (by rw [z]; exact List.mem_cons_self)
    have nk : k ∉ ks' := fun z => hk (List.mem_cons_of_mem _ z)
    refine ⟨x, ks', v, vs', rfl, rfl, Ow.mono e (fun a r ha => ko a _ ha fun z => ?_) h3, OwZ.keep h4 nk e ko⟩
    obtain ⟨t, ht⟩ := z
    rw [List.append_assoc, List.append_assoc] at ht
    have := List.append_cancel_left ht
    exact nx (List.cons.inj this).1
theorem OwZ.upd : ∀ {os : List O} {ks : List PK} {vs : List V} {p : Path} {n : Nat} {o : O}, OwZ K ρ S H os ks vs p → ks.Nodup → os[n]? = some o →
    ∃ k v, ks[n]? = some k ∧ vs[n]? = some v ∧ Ow K ρ S H o v (p ++ [k]) ∧ ∀ ρ' S' H' o', Ex S S' → Kout ρ ρ' H H' (p ++ [k]) → Ow K ρ' S' H' o' v (p ++ [k]) → OwZ K ρ' S' H' (os.set n o') ks vs p
  | [], _, _, _, n, o, h, _, e => by simp at e
  | o :: os, _, _, p, n, o1, h, nd, e => by
    unfold OwZ at h
    obtain ⟨x, ks', v, vs', rfl, rfl, h3, h4⟩ := h
    obtain ⟨nx, nd'⟩ := List.nodup_cons.mp nd
    cases n with
    | zero =>
      have eo : o = o1 := by simpa using e
      subst eo
      refine ⟨x, v, rfl, rfl, h3, fun ρ' S' H' o' ex ko w => ?_⟩
      show OwZ K ρ' S' H' (o' :: os) _ _ p
      unfold OwZ
      exact ⟨x, ks', v, vs', rfl, rfl, w, OwZ.keep h4 nx ex ko⟩
    | succ n =>
      obtain ⟨k, w, e1, e2, e3, e4⟩ := OwZ.upd h4 nd' (n := n) (o := o1) (by simpa using e)
      refine ⟨k, w, by simpa using e1, by simpa using e2, e3, fun ρ' S' H' o' ex ko z => ?_⟩
      have nk : k ≠ x := fun z => nx (by rw [← z]; exact List.mem_of_getElem? e1)
      show OwZ K ρ' S' H' (o :: os.set n o') _ _ p
      unfold OwZ
      refine ⟨x, ks', v, vs', rfl, rfl, Ow.mono ex (fun a r ha => ko a _ ha fun z => ?_) h3, e4 ρ' S' H' o' ex ko z⟩
      obtain ⟨t, ht⟩ := z
      rw [List.append_assoc, List.append_assoc] at ht
      exact nk (List.cons.inj (List.append_cancel_left ht)).1
theorem nodup_ix (n : Nat) : ((List.range n).map PK.ix).Nodup := List.Pairwise.map _ (fun a b h => fun z => h (PK.ix.inj z)) List.nodup_range
theorem nodup_ky {ks : List DK} (h : ks.Nodup) : (ks.map PK.ky).Nodup := List.Pairwise.map _ (fun a b h => fun z => h (PK.ky.inj z)) h
theorem nodup_fd {ks : List Str} (h : ks.Nodup) : (ks.map PK.fd).Nodup := List.Pairwise.map _ (fun a b h => fun z => h (PK.fd.inj z)) h
theorem np {p : Path} {k : PK} {q : Path} : ¬ (p ++ k :: q) <+: p := fun z => by
  have := z.length_le
  simp at this
  omega
theorem Ow.path : ∀ (q : List PK) {o : O} {v : V} {p : Path} {o1 : O}, Ow K ρ S H o v p → getP q o = some o1 →
    ∃ v1, Ow K ρ S H o1 v1 (p ++ q) ∧ (q = [] → v1 = v) ∧ ∀ ρ' S' H' o1', Ex S S' → Kout ρ ρ' H H' (p ++ q) → Ow K ρ' S' H' o1' v1 (p ++ q) → Ow K ρ' S' H' (setP q o o1') v p
  | [], o, v, p, o1, w, e => by
    cases (show o = o1 from Option.some.inj e)
    exact ⟨v, by rw [List.append_nil]; exact w, fun _ => rfl, fun ρ' S' H' o1' _ _ z => by rw [List.append_nil] at z; exact z⟩
  | .ix n :: q, .nl os, v, p, o1, w, e => by
    obtain ⟨o2, e1, e2⟩ := Option.bind_eq_some_iff.mp (show os[n]?.bind (getP q) = some o1 from e)
    unfold Ow at w
    obtain ⟨a, vs, rfl, r1, r2, z⟩ := w
    obtain ⟨k, v2, hk, hv, w2, up⟩ := z.upd (nodup_ix _) e1
    have hn : n < os.length := (List.getElem?_eq_some_iff.mp e1).1
    have ek : k = .ix n := by
      rw [List.getElem?_map, List.getElem?_range hn] at hk
      exact (Option.some.inj hk).symm
    subst ek
    obtain ⟨v1, w1, _, up1⟩ := Ow.path q w2 e2
    rw [List.append_assoc] at w1
    refine ⟨v1, w1, (fun z => by cases z), fun ρ' S' H' o1' ex ko z => ?_⟩
    have es : setP (.ix n :: q) (.nl os) o1' = .nl (os.set n (setP q o2 o1')) := by
      show (match os[n]? with | some o => O.nl (os.set n (setP q o o1')) | none => .nl os) = _
      rw [e1]
    rw [es]
    obtain ⟨k1, k2⟩ := ko a p r1 np
    unfold Ow
    refine ⟨a, vs, rfl, k1, k2.trans r2, ?_⟩
    rw [List.length_set]
    have ko' : Kout ρ ρ' H H' (p ++ [PK.ix n] ++ q) := by rw [List.append_assoc]; exact ko
    refine up ρ' S' H' _ ex ko'.sub (up1 ρ' S' H' o1' ex ko' ?_)
    rw [List.append_assoc]; exact z
  | .ix n :: q, .nt os, v, p, o1, w, e => by
    obtain ⟨o2, e1, e2⟩ := Option.bind_eq_some_iff.mp (show os[n]?.bind (getP q) = some o1 from e)
    unfold Ow at w
    obtain ⟨a, vs, rfl, r1, r2, z⟩ := w
    obtain ⟨k, v2, hk, hv, w2, up⟩ := z.upd (nodup_ix _) e1
    have hn : n < os.length := (List.getElem?_eq_some_iff.mp e1).1
    have ek : k = .ix n := by
      rw [List.getElem?_map, List.getElem?_range hn] at hk
      exact (Option.some.inj hk).symm
    subst ek
    obtain ⟨v1, w1, _, up1⟩ := Ow.path q w2 e2
    rw [List.append_assoc] at w1
    refine ⟨v1, w1, (fun z => by cases z), fun ρ' S' H' o1' ex ko z => ?_⟩
    have es : setP (.ix n :: q) (.nt os) o1' = .nt (os.set n (setP q o2 o1')) := by
      show (match os[n]? with | some o => O.nt (os.set n (setP q o o1')) | none => .nt os) = _
      rw [e1]
    rw [es]
    obtain ⟨k1, k2⟩ := ko a p r1 np
    unfold Ow
    refine ⟨a, vs, rfl, k1, k2.trans r2, ?_⟩
    rw [List.length_set]
    have ko' : Kout ρ ρ' H H' (p ++ [PK.ix n] ++ q) := by rw [List.append_assoc]; exact ko
    refine up ρ' S' H' _ ex ko'.sub (up1 ρ' S' H' o1' ex ko' ?_)
    rw [List.append_assoc]; exact z
  | .ky k :: q, .nd ks os, v, p, o1, w, e => by
    obtain ⟨n, en, e⟩ := Option.bind_eq_some_iff.mp (show (keyAt ks.l k).bind (fun n => os[n]?.bind (getP q)) = some o1 from e)
    obtain ⟨o2, e1, e2⟩ := Option.bind_eq_some_iff.mp e
    unfold Ow at w
    obtain ⟨a, vs, ob, rfl, r1, r2, ⟨r3, nd⟩, z⟩ := w
    obtain ⟨k', v2, hk, hv, w2, up⟩ := z.upd (nodup_ky nd) e1
    have ek : k' = .ky k := by
      rw [List.getElem?_map, findIdx_some en] at hk
      exact (Option.some.inj hk).symm
    subst ek
    obtain ⟨v1, w1, _, up1⟩ := Ow.path q w2 e2
    rw [List.append_assoc] at w1
    refine ⟨v1, w1, (fun z => by cases z), fun ρ' S' H' o1' ex ko z => ?_⟩
    have es : setP (.ky k :: q) (.nd ks os) o1' = .nd ks (os.set n (setP q o2 o1')) := by
      show (match keyAt ks.l k with | some n => (match os[n]? with | some o => O.nd ks (os.set n (setP q o o1')) | none => .nd ks os) | none => .nd ks os) = _
      rw [en]
      show (match os[n]? with | some o => O.nd ks (os.set n (setP q o o1')) | none => .nd ks os) = _
      rw [e1]
    rw [es]
    obtain ⟨k1, k2⟩ := ko a p r1 np
    unfold Ow
    refine ⟨a, vs, ob, rfl, k1, k2.trans r2, ⟨r3, nd⟩, ?_⟩
    have ko' : Kout ρ ρ' H H' (p ++ [PK.ky k] ++ q) := by rw [List.append_assoc]; exact ko
    refine up ρ' S' H' _ ex ko'.sub (up1 ρ' S' H' o1' ex ko' ?_)
    rw [List.append_assoc]; exact z
  | .fd k :: q, .ob C ks os, v, p, o1, w, e => by
    obtain ⟨n, en, e⟩ := Option.bind_eq_some_iff.mp (show (namAt ks k).bind (fun n => os[n]?.bind (getP q)) = some o1 from e)
    obtain ⟨o2, e1, e2⟩ := Option.bind_eq_some_iff.mp e
    unfold Ow at w
    obtain ⟨a, dx, vs, rfl, r1, r4, r2, r5, ⟨r3, nd⟩, z⟩ := w
    obtain ⟨k', v2, hk, hv, w2, up⟩ := z.upd (nodup_fd nd) e1
    have ek : k' = .fd k := by
      rw [List.getElem?_map, findIdx_some en] at hk
      exact (Option.some.inj hk).symm
    subst ek
    obtain ⟨v1, w1, _, up1⟩ := Ow.path q w2 e2
    rw [List.append_assoc] at w1
    refine ⟨v1, w1, (fun z => by cases z), fun ρ' S' H' o1' ex ko z => ?_⟩
    have es : setP (.fd k :: q) (.ob C ks os) o1' = .ob C ks (os.set n (setP q o2 o1')) := by
      show (match namAt ks k with | some n => (match os[n]? with | some o => O.ob C ks (os.set n (setP q o o1')) | none => .ob C ks os) | none => .ob C ks os) = _
      rw [en]
      show (match os[n]? with | some o => O.ob C ks (os.set n (setP q o o1')) | none => .ob C ks os) = _
      rw [e1]
    rw [es]
    obtain ⟨k1, k2⟩ := ko a p r1 np
    obtain ⟨k3, k4⟩ := ko dx p r4 np
    unfold Ow
    refine ⟨a, dx, vs, rfl, k1, k3, k2.trans r2, k4.trans r5, ⟨r3, nd⟩, ?_⟩
    have ko' : Kout ρ ρ' H H' (p ++ [PK.fd k] ++ q) := by rw [List.append_assoc]; exact ko
    refine up ρ' S' H' _ ex ko'.sub (up1 ρ' S' H' o1' ex ko' ?_)
    rw [List.append_assoc]; exact z
  | .ix _ :: _, .val _, _, _, _, _, e => nomatch e
  | .ix _ :: _, .ol _, _, _, _, _, e => nomatch e
  | .ix _ :: _, .od _ _, _, _, _, _, e => nomatch e
  | .ix _ :: _, .nd _ _, _, _, _, _, e => nomatch e
  | .ix _ :: _, .ob _ _ _, _, _, _, _, e => nomatch e
  | .ky _ :: _, .val _, _, _, _, _, e => nomatch e
  | .ky _ :: _, .nt _, _, _, _, _, e => nomatch e
  | .fd _ :: _, .nt _, _, _, _, _, e => nomatch e
  | .ky _ :: _, .ol _, _, _, _, _, e => nomatch e
  | .ky _ :: _, .od _ _, _, _, _, _, e => nomatch e
  | .ky _ :: _, .nl _, _, _, _, _, e => nomatch e
  | .ky _ :: _, .ob _ _ _, _, _, _, _, e => nomatch e
  | .fd _ :: _, .val _, _, _, _, _, e => nomatch e
  | .fd _ :: _, .ol _, _, _, _, _, e => nomatch e
  | .fd _ :: _, .od _ _, _, _, _, _, e => nomatch e
  | .fd _ :: _, .nl _, _, _, _, _, e => nomatch e
  | .fd _ :: _, .nd _ _, _, _, _, _, e => nomatch e
end
end VL
set_option maxRecDepth 100000
set_option maxHeartbeats 4000000
/-! V2: states, what a piece of syntax means over them, and that its reading follows -/
namespace VL
open PySem L2

inductive SV where
  | un | va (o : O) | rf (o : O)
abbrev VS := List SV
def SV.get : SV → Option O
  | .un => none
  | .va o => some o
  | .rf o => some o
def SV.isRf : SV → Bool
  | .rf _ => true
  | _ => false
def O.isVal : O → Bool
  | .val _ => true
  | _ => false

structure Grw (ρ : Rho) (S H : Hp) (ρ' : Rho) (S' H' : Hp) : Prop where
  s : Ex S S'
  h : ∀ a o, H a = some o → ρ a = none → H' a = some o
  n : ∀ a o, H a = some o → S a = none → ρ a = none → S' a = none
  f : ∀ a o, H a = some o → ρ a = none → ρ' a = none
/-- tuples of keys are frozen -/
def Ft (S H : Hp) : Prop := ∀ (a : Addr) (ks : List Key), H a = some (.tup (ks.map kV)) → S a = some (.tup (ks.map kV))
theorem Ft.upd {S H : Hp} {p : Addr} {o : HO} (f : Ft S H) (h : ∀ vs, o ≠ .tup vs) : Ft S (upd H p o) := fun a ks e => by
  by_cases z : a = p
  · subst z; rw [upd_same] at e; cases e; exact (h _ rfl).elim
  · rw [upd_ne z] at e; exact f a ks e
theorem Ft.new {S H : Hp} {p : Addr} {o : HO} (f : Ft S H) : Ft (L2.upd S p o) (L2.upd H p o) := fun a ks e => by
  by_cases z : a = p
  · subst z; rw [upd_same] at e ⊢; exact e
  · rw [upd_ne z] at e ⊢; exact f a ks e
theorem Ft.more {S S' H : Hp} (f : Ft S H) (e : Ex S S') : Ft S' H := fun a ks h => e _ _ (f a ks h)
structure Quiet (S H S' H' : Hp) : Prop where
  s : Ex S S'
  h : Ex H H'
  n : ∀ a o, H a = some o → S a = none → S' a = none
  t : Ft S H → Ft S' H'
section
variable {ρ ρ1 ρ2 : Rho} {S S1 S2 H H1 H2 : Hp}
theorem Grw.refl : Grw ρ S H ρ S H := ⟨.refl _, fun _ _ h _ => h, fun _ _ _ h _ => h, fun _ _ _ h => h⟩
theorem Grw.trans (a : Grw ρ S H ρ1 S1 H1) (b : Grw ρ1 S1 H1 ρ2 S2 H2) : Grw ρ S H ρ2 S2 H2 :=
  ⟨a.s.trans b.s, fun x o h r => b.h x o (a.h x o h r) (a.f x o h r), fun x o h s r => b.n x o (a.h x o h r) (a.n x o h s r) (a.f x o h r), fun x o h r => b.f x o (a.h x o h r) (a.f x o h r)⟩
theorem Quiet.refl : Quiet S H S H := ⟨.refl _, .refl _, fun _ _ _ h => h, fun h => h⟩
theorem Quiet.trans (a : Quiet S H S1 H1) (b : Quiet S1 H1 S2 H2) : Quiet S H S2 H2 :=
  ⟨a.s.trans b.s, a.h.trans b.h, fun x o h s => b.n x o (a.h x o h) (a.n x o h s), fun h => b.t (a.t h)⟩
theorem Quiet.grw (a : Quiet S H S1 H1) : Grw ρ S H ρ S1 H1 := ⟨a.s, fun x o h _ => a.h x o h, fun x o h s _ => a.n x o h s, fun _ _ _ r => r⟩
end

structure Wf (ρ : Rho) (S H : Hp) : Prop where
  ex : Ex S H
  wf : ∀ a q, ρ a = some q → S a = none ∧ ∃ o, H a = some o
  ft : Ft S H
theorem Wf.keeps {ρ : Rho} {S H H' : Hp} (w : Wf ρ S H) (e : Ex H H') (p : Path) : Keeps ρ ρ H H' p p := fun a r h => by
  obtain ⟨_, o, ho⟩ := w.wf a _ h
  exact ⟨h, (e a o ho).trans ho.symm⟩
theorem Wf.quiet {ρ : Rho} {S H S' H' : Hp} (w : Wf ρ S H) (q : Quiet S H S' H') (e : Ex S' H') : Wf ρ S' H' :=
  ⟨e, fun a r h => by obtain ⟨h1, o, h2⟩ := w.wf a r h; exact ⟨q.n a o h2 h1, o, q.h a o h2⟩, q.t w.ft⟩
theorem Ow.quiet {K : Frag} {ρ : Rho} {S H S' H' : Hp} {o : O} {v : V} {p : Path} (w : Wf ρ S H) (q : Quiet S H S' H') (h : Ow K ρ S H o v p) : Ow K ρ S' H' o v p :=
  Ow.mono q.s (w.keeps q.h p) h

structure StR (K : Frag) (ρ : Rho) (pv : Nat → Option V) (S H : Hp) (σV : VS) (σ : St) : Prop where
  w : Wf ρ S H
  len : σ.length = σV.length
  slot : ∀ i sv o, σV[i]? = some sv → sv.get = some o → ∃ v, σ[i]? = some (some v) ∧ Ow K ρ S H o v [.ix i]
  pin : ∀ i o, σV[i]? = some (.rf o) → ∃ v, pv i = some v ∧ σ[i]? = some (some v)
theorem StR.quiet {K : Frag} {ρ : Rho} {pv : Nat → Option V} {S H S' H' : Hp} {σV : VS} {σ : St} (s : StR K ρ pv S H σV σ) (q : Quiet S H S' H') (e : Ex S' H') : StR K ρ pv S' H' σV σ :=
  ⟨s.w.quiet q e, s.len, fun i sv o h1 h2 => by obtain ⟨v, h3, h4⟩ := s.slot i sv o h1 h2; exact ⟨v, h3, h4.quiet s.w q⟩, s.pin⟩

inductive XR (α : Type) where
  | ok (a : α) (σ : VS) | err (c : Str) (σ : VS) | bad
inductive QR (α : Type) where
  | ok (a : α) | bad
structure VX where
  q : Bool
  f : VS → XR O
structure AX where
  q : Bool
  f : VS → XR (List O)
structure TX where
  q : Bool
  f : VS → XR Bool

def OwA (K : Frag) (ρ : Rho) (S H : Hp) : List O → List V → Prop
  | [], vs => vs = []
  | o :: os, vs => ∃ v vs', vs = v :: vs' ∧ (∃ p, Ow K ρ S H o v p) ∧ OwA K ρ S H os vs'
theorem OwA.quiet {K : Frag} {ρ : Rho} {S H S' H' : Hp} (w : Wf ρ S H) (q : Quiet S H S' H') : ∀ {os : List O} {vs : List V}, OwA K ρ S H os vs → OwA K ρ S' H' os vs
  | [], _, h => h
  | _ :: _, _, ⟨v, vs', e, ⟨p, h1⟩, h2⟩ => ⟨v, vs', e, ⟨p, h1.quiet w q⟩, OwA.quiet w q h2⟩

abbrev EC (K : Frag) (W : WX) (c : Str) : St → Hp → Prop := fun σ H => W (.ref (He.ga K c)) none σ H

def XPost (K : Frag) (W : WX) (ρ : Rho) (pv : Nat → Option V) (S H : Hp) (σ : St) (q : Bool) (σ0 : VS) (Q : V → Hp → Prop) : XR O → Prop
  | .ok o σ1 => ∀ ρ' S' H' v p, Grw ρ S H ρ' S' H' → StR K ρ' pv S' H' σ1 σ → Ow K ρ' S' H' o v p → (q = true → ρ' = ρ ∧ σ1 = σ0 ∧ Quiet S H S' H') → Q v H'
  | .err c σ1 => ∀ ρ' S' H', Grw ρ S H ρ' S' H' → StR K ρ' pv S' H' σ1 σ → EC K W c σ H'
  | .bad => False
def APost (K : Frag) (W : WX) (ρ : Rho) (pv : Nat → Option V) (S H : Hp) (σ : St) (q : Bool) (σ0 : VS) (Q : List V → Hp → Prop) : XR (List O) → Prop
  | .ok os σ1 => ∀ ρ' S' H' vs, Grw ρ S H ρ' S' H' → StR K ρ' pv S' H' σ1 σ → OwA K ρ' S' H' os vs → (q = true → ρ' = ρ ∧ σ1 = σ0 ∧ Quiet S H S' H') → Q vs H'
  | .err c σ1 => ∀ ρ' S' H', Grw ρ S H ρ' S' H' → StR K ρ' pv S' H' σ1 σ → EC K W c σ H'
  | .bad => False
def TPost (K : Frag) (W : WX) (ρ : Rho) (pv : Nat → Option V) (S H : Hp) (σ : St) (q : Bool) (σ0 : VS) (Q : Bool → Hp → Prop) : XR Bool → Prop
  | .ok b σ1 => ∀ ρ' S' H', Grw ρ S H ρ' S' H' → StR K ρ' pv S' H' σ1 σ → (q = true → ρ' = ρ ∧ σ1 = σ0 ∧ Quiet S H S' H') → Q b H'
  | .err c σ1 => ∀ ρ' S' H', Grw ρ S H ρ' S' H' → StR K ρ' pv S' H' σ1 σ → EC K W c σ H'
  | .bad => False
def SimX (K : Frag) (W : WX) (te : TE) (x : VX) : Prop := ∀ ρ pv S H σV σ Q, StR K ρ pv S H σV σ → XPost K W ρ pv S H σ x.q σV Q (x.f σV) → te σ H Q
def SimA (K : Frag) (W : WX) (te : TA) (x : AX) : Prop := ∀ ρ pv S H σV σ Q, StR K ρ pv S H σV σ → APost K W ρ pv S H σ x.q σV Q (x.f σV) → te σ H Q
def SimT (K : Frag) (W : WX) (te : TT) (x : TX) : Prop := ∀ ρ pv S H σV σ Q, StR K ρ pv S H σV σ → TPost K W ρ pv S H σ x.q σV Q (x.f σV) → te σ H Q

/-- operations on values: what they ask and give -/
def RPost (K : Frag) (ρ : Rho) (S H : Hp) (Q : V → Hp → Prop) : QR O → Prop
  | .ok o => ∀ S' H' v p, Quiet S H S' H' → Ex S' H' → Ow K ρ S' H' o v p → Q v H'
  | .bad => False
def SimR (K : Frag) (r : List V → Hp → VK → Prop) (f : List O → QR O) : Prop := ∀ ρ S H os vs Q, Wf ρ S H → OwA K ρ S H os vs → RPost K ρ S H Q (f os) → r vs H Q
def r2l (r : R2) : List V → Hp → VK → Prop := fun vs H Q => match vs with
  | [x, y] => r x y H Q
  | _ => False
def r1l (r : V → Hp → VK → Prop) : List V → Hp → VK → Prop := fun vs H Q => match vs with
  | [x] => r x H Q
  | _ => False

section
variable {K : Frag} {W : WX} {te tb : TE} {ta : TA} {t u : TT} {x y : VX} {a : AX}

/-! ### expressions -/
def vVar (i : Nat) : VX := ⟨true, fun σ => match (σ[i]?.bind SV.get) with
  | some o => .ok o σ
  | none => .bad⟩
def vC (d : D) : VX := ⟨true, fun σ => .ok (.val d) σ⟩
theorem sim_var {i : Nat} : SimX K W (tVar i) (vVar i) := fun ρ pv S H σV σ Q s h => by
  have h' : XPost K W ρ pv S H σ true σV Q (match (σV[i]?.bind SV.get) with | some o => .ok o σV | none => .bad) := h
  cases e : σV[i]?.bind SV.get with
  | none => rw [e] at h'; exact h'.elim
  | some o =>
    rw [e] at h'
    obtain ⟨sv, e1, e2⟩ := Option.bind_eq_some_iff.mp e
    obtain ⟨v, h1, h2⟩ := s.slot i sv o e1 e2
    exact ⟨v, h1, h' ρ S H v _ .refl s h2 fun _ => ⟨rfl, rfl, .refl⟩⟩
theorem sim_c {v : V} {d : D} (h : ∀ S, Fz K S d v) : SimX K W (tC v) (vC d) := fun ρ pv S H σV σ Q s hp =>
  hp ρ S H v [] .refl s (by unfold Ow; exact h S) fun _ => ⟨rfl, rfl, .refl⟩
theorem fz_int {i : Int} : ∀ S, Fz K S (.int i) (.int i) := fun _ => by unfold Fz; rfl
theorem fz_bl {b : Bool} : ∀ S, Fz K S (.bl b) (.bl b) := fun _ => by unfold Fz; rfl
theorem fz_str {b : Str} : ∀ S, Fz K S (.str b) (.str b) := fun _ => by unfold Fz; rfl
theorem fz_ty {b : String} : ∀ S, Fz K S (.ty b) (.ty b) := fun _ => by unfold Fz; rfl
theorem fz_non : ∀ S, Fz K S .non .non := fun _ => by unfold Fz; rfl

def aNil : AX := ⟨true, fun σ => .ok [] σ⟩
def aCons (x : VX) (a : AX) : AX := ⟨x.q && a.q, fun σ => match x.f σ with
  | .ok o σ1 => (match a.f σ1 with
    | .ok os σ2 => if (o.isVal || a.q) = true then .ok (o :: os) σ2 else .bad
    | .err c σ2 => .err c σ2
    | .bad => .bad)
  | .err c σ1 => .err c σ1
  | .bad => .bad⟩
theorem sim_nil : SimA K W tNil aNil := fun ρ pv S H σV σ Q s h => h ρ S H [] .refl s rfl fun _ => ⟨rfl, rfl, .refl⟩
theorem sim_cons (hx : SimX K W te x) (ha : SimA K W ta a) : SimA K W (tCons te ta) (aCons x a) := fun ρ pv S H σV σ Q s h => by
  refine hx ρ pv S H σV σ _ s ?_
  have h' : APost K W ρ pv S H σ (x.q && a.q) σV Q (match x.f σV with
    | .ok o σ1 => (match a.f σ1 with
      | .ok os σ2 => if (o.isVal || a.q) = true then .ok (o :: os) σ2 else .bad
      | .err c σ2 => .err c σ2
      | .bad => .bad)
    | .err c σ1 => .err c σ1
    | .bad => .bad) := h
  cases e : x.f σV with
  | bad => rw [e] at h'; exact h'
  | err c σ1 => rw [e] at h'; exact h'
  | ok o σ1 =>
    rw [e] at h'
    intro ρ1 S1 H1 v p g1 s1 w1 q1
    refine ha ρ1 pv S1 H1 σ1 σ _ s1 ?_
    have h2 : APost K W ρ pv S H σ (x.q && a.q) σV Q (match a.f σ1 with
      | .ok os σ2 => if (o.isVal || a.q) = true then .ok (o :: os) σ2 else .bad
      | .err c σ2 => .err c σ2
      | .bad => .bad) := h'
    cases e2 : a.f σ1 with
    | bad => rw [e2] at h2; exact h2
    | err c σ2 => rw [e2] at h2; exact fun ρ2 S2 H2 g2 s2 => h2 ρ2 S2 H2 (g1.trans g2) s2
    | ok os σ2 =>
      rw [e2] at h2
      intro ρ2 S2 H2 vs g2 s2 w2 q2
      have h3 : APost K W ρ pv S H σ (x.q && a.q) σV Q (if (o.isVal || a.q) = true then .ok (o :: os) σ2 else .bad) := h2
      cases hv : (o.isVal || a.q) with
      | false => rw [hv] at h3; exact h3.elim
      | true =>
        rw [hv] at h3
        refine h3 ρ2 S2 H2 (v :: vs) (g1.trans g2) s2 ⟨v, vs, rfl, ⟨p, ?_⟩, w2⟩ fun hq => ?_
        · cases hq : a.q with
          | true =>
            obtain ⟨e3, _, q⟩ := q2 hq
            subst e3
            exact w1.quiet s1.w q
          | false =>
            rw [hq, Bool.or_false] at hv
            cases o with
            | val d => unfold Ow at *; exact w1.mono g2.s
            | _ => cases hv
        · obtain ⟨qa, qb⟩ := Bool.and_eq_true_iff.mp hq
          obtain ⟨e3, e4, q3⟩ := q1 qa
          obtain ⟨e5, e6, q4⟩ := q2 qb
          exact ⟨e5.trans e3, e6.trans e4, q3.trans q4⟩

def vApp (f : List O → QR O) (a : AX) : VX := ⟨a.q, fun σ => match a.f σ with
  | .ok os σ1 => (match f os with
    | .ok o => .ok o σ1
    | .bad => .bad)
  | .err c σ1 => .err c σ1
  | .bad => .bad⟩
theorem sim_app {r : List V → Hp → VK → Prop} {f : List O → QR O} (ha : SimA K W ta a) (hr : SimR K r f) : SimX K W (fun σ H Q => ta σ H fun vs H1 => r vs H1 Q) (vApp f a) := fun ρ pv S H σV σ Q s h => by
  refine ha ρ pv S H σV σ _ s ?_
  have h' : XPost K W ρ pv S H σ a.q σV Q (match a.f σV with
    | .ok os σ1 => (match f os with
      | .ok o => .ok o σ1
      | .bad => .bad)
    | .err c σ1 => .err c σ1
    | .bad => .bad) := h
  cases e : a.f σV with
  | bad => rw [e] at h'; exact h'
  | err c σ1 => rw [e] at h'; exact h'
  | ok os σ1 =>
    rw [e] at h'
    intro ρ1 S1 H1 vs g1 s1 w1 q1
    refine hr ρ1 S1 H1 os vs Q s1.w w1 ?_
    have h2 : XPost K W ρ pv S H σ a.q σV Q (match f os with | .ok o => .ok o σ1 | .bad => .bad) := h'
    cases e2 : f os with
    | bad => rw [e2] at h2; exact h2.elim
    | ok o =>
      rw [e2] at h2
      intro S2 H2 v p q ex w
      refine h2 ρ1 S2 H2 v p (g1.trans q.grw) (s1.quiet q ex) w fun hq => ?_
      obtain ⟨e3, e4, q3⟩ := q1 hq
      exact ⟨e3, e4, q3.trans q⟩
/-- two operands, one operand -/
def v2 (f : List O → QR O) (x y : VX) : VX := vApp f (aCons x (aCons y aNil))
def v1 (f : List O → QR O) (x : VX) : VX := vApp f (aCons x aNil)
theorem sim_op {r : R2} {f : List O → QR O} (hr : SimR K (r2l r) f) (hx : SimX K W te x) (hy : SimX K W tb y) : SimX K W (tOp r te tb) (v2 f x y) :=
  sim_app (r := r2l r) (sim_cons hx (sim_cons hy sim_nil)) hr
theorem sim_un {r : V → Hp → VK → Prop} {f : List O → QR O} (hr : SimR K (r1l r) f) (hx : SimX K W te x) : SimX K W (tUn r te) (v1 f x) :=
  sim_app (r := r1l r) (sim_cons hx sim_nil) hr
theorem sim_cb {r : List V → Hp → VK → Prop} {f : List O → QR O} (hr : SimR K r f) (ha : SimA K W ta a) : SimX K W (tCB r ta) (vApp f a) := sim_app ha hr

/-! ### tests -/
def isBl : O → QR Bool
  | .val (.bl b) => .ok b
  | _ => .bad
def xT (g : O → QR Bool) (x : VX) : TX := ⟨x.q, fun σ => match x.f σ with
  | .ok o σ1 => (match g o with
    | .ok b => .ok b σ1
    | .bad => .bad)
  | .err c σ1 => .err c σ1
  | .bad => .bad⟩
theorem sim_xT {g : O → QR Bool} {r : V → Hp → (Bool → Hp → Prop) → Prop} (hx : SimX K W te x)
    (hg : ∀ ρ S H o v p b Q, Wf ρ S H → Ow K ρ S H o v p → g o = .ok b → Q b H → r v H Q) : SimT K W (fun σ H Q => te σ H fun v H' => r v H' Q) (xT g x) := fun ρ pv S H σV σ Q s h => by
  refine hx ρ pv S H σV σ _ s ?_
  have h' : TPost K W ρ pv S H σ x.q σV Q (match x.f σV with
    | .ok o σ1 => (match g o with
      | .ok b => .ok b σ1
      | .bad => .bad)
    | .err c σ1 => .err c σ1
    | .bad => .bad) := h
  cases e : x.f σV with
  | bad => rw [e] at h'; exact h'
  | err c σ1 => rw [e] at h'; exact h'
  | ok o σ1 =>
    rw [e] at h'
    intro ρ1 S1 H1 v p g1 s1 w1 q1
    have h2 : TPost K W ρ pv S H σ x.q σV Q (match g o with | .ok b => .ok b σ1 | .bad => .bad) := h'
    cases e2 : g o with
    | bad => rw [e2] at h2; exact h2.elim
    | ok b =>
      rw [e2] at h2
      exact hg ρ1 S1 H1 o v p b Q s1.w w1 e2 (h2 ρ1 S1 H1 g1 s1 q1)
def tvTest (x : VX) : TX := xT isBl x
theorem isBl_ok {ρ : Rho} {S H : Hp} {o : O} {v : V} {p : Path} {b : Bool} (w : Ow K ρ S H o v p) (e : isBl o = .ok b) : v = .bl b := by
  cases o with
  | val d => cases d with
    | bl c =>
      cases e
      unfold Ow Fz at w
      exact w
    | _ => cases e
  | _ => cases e
theorem sim_tTest (hx : SimX K W te x) : SimT K W (tTest te) (tvTest x) := sim_xT (r := fun v H Q => ∃ k, v = .bl k ∧ Q k H) hx fun ρ S H o v p b Q _ w e q => ⟨b, isBl_ok w e, q⟩
theorem sim_tB (hx : SimX K W te x) : SimT K W (tB te) (tvTest x) := sim_xT (r := fun v H Q => ∃ k, v = .bl k ∧ Q k H) hx fun ρ S H o v p b Q _ w e q => ⟨b, isBl_ok w e, q⟩
/-- truth -/
def tru : O → QR Bool
  | .val .non => .ok false
  | .val (.bl b) => .ok b
  | .val (.int i) => .ok (i != 0)
  | .val (.str y) => if y.length ≤ sizeLine then .ok ((y.length : Int) != 0) else .bad
  | .val (.tup ds) => .ok (!ds.isEmpty)
  | .val (.lst ds) => .ok (!ds.isEmpty)
  | .val (.rd ds) => .ok (!ds.isEmpty)
  | .ol ds => .ok (!ds.isEmpty)
  | .nl os => .ok (!os.isEmpty)
  | _ => .bad
theorem emp_len {α β : Type} {l : List α} {m : List β} (h : l.length = m.length) : (!l.isEmpty) = !m.isEmpty := by
  cases l <;> cases m <;> simp_all
theorem sim_tru (hx : SimX K W te x) : SimT K W (fun σ H Q => te σ H fun v H' => ∃ k, TruV K v H' k ∧ Q k H') (xT tru x) := sim_xT (r := fun v H Q => ∃ k, TruV K v H k ∧ Q k H) hx fun ρ S H o v p b Q wf w e q => by
  refine ⟨b, ?_, q⟩
  cases o with
  | val d =>
    unfold Ow at w
    cases d with
    | non => unfold Fz at w; subst w; cases e; rfl
    | bl c => unfold Fz at w; subst w; cases e; rfl
    | int i => unfold Fz at w; subst w; cases e; rfl
    | str y =>
      unfold Fz at w; subst w
      have e' : (if y.length ≤ sizeLine then QR.ok ((y.length : Int) != 0) else .bad) = .ok b := e
      by_cases hy : y.length ≤ sizeLine
      · rw [if_pos hy] at e'; cases e'; exact ⟨hy, rfl⟩
      · rw [if_neg hy] at e'; cases e'
    | tup ds =>
      unfold Fz at w
      obtain ⟨a, vs, rfl, h1, h2⟩ := w
      cases e
      exact .inr (.inl ⟨vs, SqT.of (wf.ex _ _ h1), emp_len h2.len⟩)
    | lst ds =>
      unfold Fz at w
      obtain ⟨a, vs, rfl, h1, h2⟩ := w
      cases e
      exact .inl ⟨vs, SqL.of (wf.ex _ _ h1), emp_len h2.len⟩
    | rd ds =>
      unfold Fz at w
      obtain ⟨a, vs, rfl, h1, h2⟩ := w
      cases e
      exact .inl ⟨vs, wf.ex.sqL h1, emp_len h2.len⟩
    | _ => cases e
  | ol ds =>
    unfold Ow at w
    obtain ⟨a, vs, rfl, h1, h2, h3⟩ := w
    cases e
    exact .inl ⟨vs, SqL.of h2, emp_len h3.len⟩
  | nl os =>
    unfold Ow at w
    obtain ⟨a, vs, rfl, h1, h2, h3⟩ := w
    cases e
    exact .inl ⟨vs, SqL.of h2, emp_len h3.lenK.2.symm⟩
  | _ => cases e
def tvAnd (a b : TX) : TX := ⟨a.q && b.q, fun σ => match a.f σ with
  | .ok c σ1 => if c = true then b.f σ1 else .ok false σ1
  | .err c σ1 => .err c σ1
  | .bad => .bad⟩
def tvOr (a b : TX) : TX := ⟨a.q && b.q, fun σ => match a.f σ with
  | .ok c σ1 => if c = true then .ok true σ1 else b.f σ1
  | .err c σ1 => .err c σ1
  | .bad => .bad⟩
def tvNot (a : TX) : TX := ⟨a.q, fun σ => match a.f σ with
  | .ok c σ1 => .ok (!c) σ1
  | .err c σ1 => .err c σ1
  | .bad => .bad⟩
theorem TPost.seq {ρ ρ1 : Rho} {pv : Nat → Option V} {S H S1 H1 : Hp} {σ : St} {q q1 q2 : Bool} {σ0 σ1 : VS} {Q : Bool → Hp → Prop} {r : XR Bool} (g1 : Grw ρ S H ρ1 S1 H1) (hq : q = (q1 && q2)) (qt : q1 = true → ρ1 = ρ ∧ σ1 = σ0 ∧ Quiet S H S1 H1)
    (h : TPost K W ρ pv S H σ q σ0 Q r) : TPost K W ρ1 pv S1 H1 σ q2 σ1 Q r := by
  cases r with
  | bad => exact h
  | err c s2 => exact fun ρ2 S2 H2 g2 s => h ρ2 S2 H2 (g1.trans g2) s
  | ok b s2 =>
    intro ρ2 S2 H2 g2 s q3
    refine h ρ2 S2 H2 (g1.trans g2) s fun z => ?_
    rw [hq] at z
    obtain ⟨za, zb⟩ := Bool.and_eq_true_iff.mp z
    obtain ⟨a1, a2, a3⟩ := qt za
    obtain ⟨b1, b2, b3⟩ := q3 zb
    exact ⟨b1.trans a1, b2.trans a2, a3.trans b3⟩
theorem sim_and {a b : TX} (ha : SimT K W t a) (hb : SimT K W u b) : SimT K W (tAnd t u) (tvAnd a b) := fun ρ pv S H σV σ Q s h => by
  refine ha ρ pv S H σV σ _ s ?_
  have h' : TPost K W ρ pv S H σ (a.q && b.q) σV Q (match a.f σV with
    | .ok c σ1 => if c = true then b.f σ1 else .ok false σ1
    | .err c σ1 => .err c σ1
    | .bad => .bad) := h
  cases e : a.f σV with
  | bad => rw [e] at h'; exact h'
  | err c σ1 => rw [e] at h'; exact h'
  | ok c σ1 =>
    rw [e] at h'
    intro ρ1 S1 H1 g1 s1 q1
    cases c with
    | true =>
      show u σ H1 Q
      exact hb ρ1 pv S1 H1 σ1 σ Q s1 (TPost.seq (r := b.f σ1) g1 rfl q1 h')
    | false =>
      show Q false H1
      refine h' ρ1 S1 H1 g1 s1 fun z => q1 (Bool.and_eq_true_iff.mp z).1
theorem sim_or {a b : TX} (ha : SimT K W t a) (hb : SimT K W u b) : SimT K W (tOr t u) (tvOr a b) := fun ρ pv S H σV σ Q s h => by
  refine ha ρ pv S H σV σ _ s ?_
  have h' : TPost K W ρ pv S H σ (a.q && b.q) σV Q (match a.f σV with
    | .ok c σ1 => if c = true then .ok true σ1 else b.f σ1
    | .err c σ1 => .err c σ1
    | .bad => .bad) := h
  cases e : a.f σV with
  | bad => rw [e] at h'; exact h'
  | err c σ1 => rw [e] at h'; exact h'
  | ok c σ1 =>
    rw [e] at h'
    intro ρ1 S1 H1 g1 s1 q1
    cases c with
    | false =>
      show u σ H1 Q
      exact hb ρ1 pv S1 H1 σ1 σ Q s1 (TPost.seq (r := b.f σ1) g1 rfl q1 h')
    | true =>
      show Q true H1
      refine h' ρ1 S1 H1 g1 s1 fun z => q1 (Bool.and_eq_true_iff.mp z).1
theorem sim_not {a : TX} (ha : SimT K W t a) : SimT K W (tNot t) (tvNot a) := fun ρ pv S H σV σ Q s h => by
  refine ha ρ pv S H σV σ _ s ?_
  have h' : TPost K W ρ pv S H σ a.q σV Q (match a.f σV with
    | .ok c σ1 => .ok (!c) σ1
    | .err c σ1 => .err c σ1
    | .bad => .bad) := h
  cases e : a.f σV with
  | bad => rw [e] at h'; exact h'
  | err c σ1 => rw [e] at h'; exact h'
  | ok c σ1 => rw [e] at h'; exact fun ρ1 S1 H1 g1 s1 q1 => h' ρ1 S1 H1 g1 s1 q1
theorem XPost.seq {ρ ρ1 : Rho} {pv : Nat → Option V} {S H S1 H1 : Hp} {σ : St} {q q1 q2 : Bool} {σ0 σ1 : VS} {Q : V → Hp → Prop} {r : XR O} (g1 : Grw ρ S H ρ1 S1 H1) (hq : q = true → q1 = true ∧ q2 = true) (qt : q1 = true → ρ1 = ρ ∧ σ1 = σ0 ∧ Quiet S H S1 H1)
    (h : XPost K W ρ pv S H σ q σ0 Q r) : XPost K W ρ1 pv S1 H1 σ q2 σ1 Q r := by
  cases r with
  | bad => exact h
  | err c s2 => exact fun ρ2 S2 H2 g2 s => h ρ2 S2 H2 (g1.trans g2) s
  | ok b s2 =>
    intro ρ2 S2 H2 v p g2 s w q3
    refine h ρ2 S2 H2 v p (g1.trans g2) s w fun z => ?_
    obtain ⟨za, zb⟩ := hq z
    obtain ⟨a1, a2, a3⟩ := qt za
    obtain ⟨b1, b2, b3⟩ := q3 zb
    exact ⟨b1.trans a1, b2.trans a2, a3.trans b3⟩
/-- and, or as values: all but the last True or False -/
def vAnd (x y : VX) : VX := ⟨x.q && y.q, fun σ => match x.f σ with
  | .ok o σ1 => (match isBl o with
    | .ok c => if c = true then y.f σ1 else .ok (.val (.bl false)) σ1
    | .bad => .bad)
  | .err c σ1 => .err c σ1
  | .bad => .bad⟩
def vOr (x y : VX) : VX := ⟨x.q && y.q, fun σ => match x.f σ with
  | .ok o σ1 => (match isBl o with
    | .ok c => if c = true then .ok (.val (.bl true)) σ1 else y.f σ1
    | .bad => .bad)
  | .err c σ1 => .err c σ1
  | .bad => .bad⟩
theorem sim_andV (hx : SimX K W te x) (hy : SimX K W tb y) : SimX K W (tAndV te tb) (vAnd x y) := fun ρ pv S H σV σ Q s h => by
  refine hx ρ pv S H σV σ _ s ?_
  have h' : XPost K W ρ pv S H σ (x.q && y.q) σV Q (match x.f σV with
    | .ok o σ1 => (match isBl o with
      | .ok c => if c = true then y.f σ1 else .ok (.val (.bl false)) σ1
      | .bad => .bad)
    | .err c σ1 => .err c σ1
    | .bad => .bad) := h
  cases e : x.f σV with
  | bad => rw [e] at h'; exact h'
  | err c σ1 => rw [e] at h'; exact h'
  | ok o σ1 =>
    rw [e] at h'
    intro ρ1 S1 H1 v p g1 s1 w1 q1
    have h2 : XPost K W ρ pv S H σ (x.q && y.q) σV Q (match isBl o with
      | .ok c => if c = true then y.f σ1 else .ok (.val (.bl false)) σ1
      | .bad => .bad) := h'
    cases e2 : isBl o with
    | bad => rw [e2] at h2; exact h2.elim
    | ok c =>
      rw [e2] at h2
      refine ⟨c, isBl_ok w1 e2, ?_⟩
      cases c with
      | true =>
        show tb σ H1 Q
        exact hy ρ1 pv S1 H1 σ1 σ Q s1 (XPost.seq (r := y.f σ1) g1 (fun z => Bool.and_eq_true_iff.mp z) q1 h2)
      | false =>
        show Q (.bl false) H1
        exact h2 ρ1 S1 H1 _ [] g1 s1 (by unfold Ow; exact fz_bl _) fun z => q1 (Bool.and_eq_true_iff.mp z).1
theorem sim_orV (hx : SimX K W te x) (hy : SimX K W tb y) : SimX K W (tOrV te tb) (vOr x y) := fun ρ pv S H σV σ Q s h => by
  refine hx ρ pv S H σV σ _ s ?_
  have h' : XPost K W ρ pv S H σ (x.q && y.q) σV Q (match x.f σV with
    | .ok o σ1 => (match isBl o with
      | .ok c => if c = true then .ok (.val (.bl true)) σ1 else y.f σ1
      | .bad => .bad)
    | .err c σ1 => .err c σ1
    | .bad => .bad) := h
  cases e : x.f σV with
  | bad => rw [e] at h'; exact h'
  | err c σ1 => rw [e] at h'; exact h'
  | ok o σ1 =>
    rw [e] at h'
    intro ρ1 S1 H1 v p g1 s1 w1 q1
    have h2 : XPost K W ρ pv S H σ (x.q && y.q) σV Q (match isBl o with
      | .ok c => if c = true then .ok (.val (.bl true)) σ1 else y.f σ1
      | .bad => .bad) := h'
    cases e2 : isBl o with
    | bad => rw [e2] at h2; exact h2.elim
    | ok c =>
      rw [e2] at h2
      refine ⟨c, isBl_ok w1 e2, ?_⟩
      cases c with
      | false =>
        show tb σ H1 Q
        exact hy ρ1 pv S1 H1 σ1 σ Q s1 (XPost.seq (r := y.f σ1) g1 (fun z => Bool.and_eq_true_iff.mp z) q1 h2)
      | true =>
        show Q (.bl true) H1
        exact h2 ρ1 S1 H1 _ [] g1 s1 (by unfold Ow; exact fz_bl _) fun z => q1 (Bool.and_eq_true_iff.mp z).1
def fNot : List O → QR O := fun os => match os with
  | [.val (.bl b)] => .ok (.val (.bl (!b)))
  | _ => .bad
def vIf (c : TX) (x y : VX) : VX := ⟨c.q && (x.q && y.q), fun σ => match c.f σ with
  | .ok b σ1 => if b = true then x.f σ1 else y.f σ1
  | .err c σ1 => .err c σ1
  | .bad => .bad⟩
theorem sim_if {c : TX} (hc : SimT K W t c) (hx : SimX K W te x) (hy : SimX K W tb y) : SimX K W (tIf t te tb) (vIf c x y) := fun ρ pv S H σV σ Q s h => by
  refine hc ρ pv S H σV σ _ s ?_
  have h' : XPost K W ρ pv S H σ (c.q && (x.q && y.q)) σV Q (match c.f σV with
    | .ok b σ1 => if b = true then x.f σ1 else y.f σ1
    | .err c σ1 => .err c σ1
    | .bad => .bad) := h
  cases e : c.f σV with
  | bad => rw [e] at h'; exact h'
  | err c σ1 => rw [e] at h'; exact h'
  | ok b σ1 =>
    rw [e] at h'
    intro ρ1 S1 H1 g1 s1 q1
    cases b with
    | true =>
      show te σ H1 Q
      exact hx ρ1 pv S1 H1 σ1 σ Q s1 (XPost.seq (r := x.f σ1) g1 (fun z => ⟨(Bool.and_eq_true_iff.mp z).1, (Bool.and_eq_true_iff.mp (Bool.and_eq_true_iff.mp z).2).1⟩) q1 h')
    | false =>
      show tb σ H1 Q
      exact hy ρ1 pv S1 H1 σ1 σ Q s1 (XPost.seq (r := y.f σ1) g1 (fun z => ⟨(Bool.and_eq_true_iff.mp z).1, (Bool.and_eq_true_iff.mp (Bool.and_eq_true_iff.mp z).2).2⟩) q1 h')
end
end VL
set_option maxRecDepth 100000
set_option maxHeartbeats 4000000
/-! V3: new things, statements, loops -/
namespace VL
open PySem L2

/-- a thing in hand that nobody else holds: ρ₂ maps its places -/
structure Tmp (ρ : Rho) (S H : Hp) (ρ' : Rho) (S' H' : Hp) (ρ2 : Rho) : Prop where
  wf : ∀ a q, ρ2 a = some q → S' a = none ∧ ∃ o, H' a = some o
  d : ∀ a q, ρ2 a = some q → ρ' a = none
  n : ∀ a o, H a = some o → ρ a = none → ρ2 a = none
def FPost (K : Frag) (W : WX) (ρ : Rho) (pv : Nat → Option V) (S H : Hp) (σ : St) (q : Bool) (σ0 : VS) (Q : V → Hp → Prop) : XR O → Prop
  | .ok o σ1 => ∀ ρ' S' H' v ρ2, Grw ρ S H ρ' S' H' → StR K ρ' pv S' H' σ1 σ → Tmp ρ S H ρ' S' H' ρ2 → Ow K ρ2 S' H' o v [] →
      (q = true → (ρ' = ρ ∧ σ1 = σ0 ∧ Quiet S H S' H') ∧ ∀ a o, H a = some o → ρ2 a = none) → Q v H'
  | .err c σ1 => ∀ ρ' S' H', Grw ρ S H ρ' S' H' → StR K ρ' pv S' H' σ1 σ → EC K W c σ H'
  | .bad => False
def SimF (K : Frag) (W : WX) (te : TE) (x : VX) : Prop := ∀ ρ pv S H σV σ Q, StR K ρ pv S H σV σ → FPost K W ρ pv S H σ x.q σV Q (x.f σV) → te σ H Q
/-- operations on values that give a new thing -/
def RFPost (K : Frag) (ρ : Rho) (S H : Hp) (Q : V → Hp → Prop) : QR O → Prop
  | .ok o => ∀ S' H' v ρ2, Quiet S H S' H' → Ex S' H' → (∀ a o, H a = some o → ρ2 a = none) → (∀ a q, ρ2 a = some q → S' a = none ∧ ∃ o, H' a = some o) → Ow K ρ2 S' H' o v [] → Q v H'
  | .bad => False
def SimRF (K : Frag) (r : List V → Hp → VK → Prop) (f : List O → QR O) : Prop := ∀ ρ S H os vs Q, Wf ρ S H → OwA K ρ S H os vs → RFPost K ρ S H Q (f os) → r vs H Q
def frzR : QR O → QR O
  | .ok o => .ok (.val (frz o))
  | .bad => .bad
def vFrz (x : VX) : VX := ⟨x.q, fun σ => match x.f σ with
  | .ok o σ1 => .ok (.val (frz o)) σ1
  | .err c σ1 => .err c σ1
  | .bad => .bad⟩
section
variable {K : Frag} {W : WX} {te tb : TE} {ta : TA} {t u : TT} {x y : VX} {a : AX}
/-- freezing what is in hand -/
def frS (S H : Hp) (ρ2 : Rho) : Hp := fun a => match ρ2 a with
  | some _ => H a
  | none => S a
theorem frS_ex {S H : Hp} {ρ2 : Rho} (w : ∀ a q, ρ2 a = some q → S a = none ∧ ∃ o, H a = some o) : Ex S (frS S H ρ2) := fun a o h => by
  unfold frS
  cases e : ρ2 a with
  | none => exact h
  | some q => rw [(w a q e).1] at h; cases h
theorem frS_in {S H : Hp} {ρ2 : Rho} (e : Ex S H) : Ex (frS S H ρ2) H := fun a o h => by
  unfold frS at h
  cases q : ρ2 a with
  | none => rw [q] at h; exact e a o h
  | some q' => rw [q] at h; exact h
theorem frS_out {S H : Hp} {ρ2 : Rho} {a : Addr} (e : ρ2 a = none) : frS S H ρ2 a = S a := by unfold frS; rw [e]
theorem frS_at {S H : Hp} {ρ2 : Rho} {a : Addr} {q : Path} (e : ρ2 a = some q) : frS S H ρ2 a = H a := by unfold frS; rw [e]
theorem Ow.frzT {S H : Hp} {ρ2 : Rho} {o : O} {v : V} {p : Path} (w : ∀ a q, ρ2 a = some q → S a = none ∧ ∃ o, H a = some o) (h : Ow K ρ2 S H o v p) : Fz K (VL.frS S H ρ2) (VL.frz o) v :=
  Ow.frz (frS_ex w) (fun _ _ h => frS_at h) h
theorem StR.frS {ρ : Rho} {pv : Nat → Option V} {S H : Hp} {σV : VS} {σ : St} {ρ2 : Rho} (s : StR K ρ pv S H σV σ) (w : ∀ a q, ρ2 a = some q → S a = none ∧ ∃ o, H a = some o) (d : ∀ a q, ρ2 a = some q → ρ a = none) :
    StR K ρ pv (frS S H ρ2) H σV σ := by
  refine ⟨⟨frS_in s.w.ex, fun a q h => ?_, s.w.ft.more (frS_ex w)⟩, s.len, fun i sv o h1 h2 => ?_, s.pin⟩
  · obtain ⟨h1, h2⟩ := s.w.wf a q h
    refine ⟨?_, h2⟩
    cases e : ρ2 a with
    | none => rw [frS_out e]; exact h1
    | some q' => rw [d a q' e] at h; cases h
  · obtain ⟨v, h3, h4⟩ := s.slot i sv o h1 h2
    exact ⟨v, h3, Ow.mono (frS_ex w) (fun a r h => ⟨h, rfl⟩) h4⟩
theorem Grw.frS {ρ ρ' : Rho} {S H S' H' : Hp} {ρ2 : Rho} (g : Grw ρ S H ρ' S' H') (t : Tmp ρ S H ρ' S' H' ρ2) : Grw ρ S H ρ' (frS S' H' ρ2) H' :=
  ⟨g.s.trans (frS_ex t.wf), g.h, fun a o h s r => by rw [frS_out (t.n a o h r)]; exact g.n a o h s r, g.f⟩
theorem Quiet.frS {S H S' H' : Hp} {ρ2 : Rho} (g : Quiet S H S' H') (w : ∀ a q, ρ2 a = some q → S' a = none ∧ ∃ o, H' a = some o) (n : ∀ a o, H a = some o → ρ2 a = none) : Quiet S H (frS S' H' ρ2) H' :=
  ⟨g.s.trans (frS_ex w), g.h, fun a o h s => by rw [frS_out (n a o h)]; exact g.n a o h s, fun h => (g.t h).more (frS_ex w)⟩
theorem sim_frz (hx : SimF K W te x) : SimX K W te (vFrz x) := fun ρ pv S H σV σ Q s h => by
  refine hx ρ pv S H σV σ Q s ?_
  have h' : XPost K W ρ pv S H σ x.q σV Q (match x.f σV with
    | .ok o σ1 => .ok (.val (frz o)) σ1
    | .err c σ1 => .err c σ1
    | .bad => .bad) := h
  cases e : x.f σV with
  | bad => rw [e] at h'; exact h'
  | err c σ1 => rw [e] at h'; exact h'
  | ok o σ1 =>
    rw [e] at h'
    intro ρ1 S1 H1 v ρ2 g1 s1 t w q
    refine h' ρ1 (VL.frS S1 H1 ρ2) H1 v [] (g1.frS t) (s1.frS t.wf t.d) (by unfold Ow; exact w.frzT t.wf) fun hq => ?_
    obtain ⟨⟨q1, q2, q3⟩, q4⟩ := q hq
    exact ⟨q1, q2, q3.frS t.wf q4⟩
theorem simR_frz {r : List V → Hp → VK → Prop} {f : List O → QR O} (h : SimRF K r f) : SimR K r (fun os => frzR (f os)) := fun ρ S H os vs Q w wa hp => by
  refine h ρ S H os vs Q w wa ?_
  have hp' : RPost K ρ S H Q (frzR (f os)) := hp
  cases e : f os with
  | bad => rw [e] at hp'; exact hp'
  | ok o =>
    rw [e] at hp'
    intro S' H' v ρ2 q ex n wf w2
    exact hp' (VL.frS S' H' ρ2) H' v [] (q.frS wf n) (frS_in ex) (by unfold Ow; exact w2.frzT wf)
theorem sim_appF {r : List V → Hp → VK → Prop} {f : List O → QR O} (ha : SimA K W ta a) (hr : SimRF K r f) : SimF K W (fun σ H Q => ta σ H fun vs H1 => r vs H1 Q) (vApp f a) := fun ρ pv S H σV σ Q s h => by
  refine ha ρ pv S H σV σ _ s ?_
  have h' : FPost K W ρ pv S H σ a.q σV Q (match a.f σV with
    | .ok os σ1 => (match f os with
      | .ok o => .ok o σ1
      | .bad => .bad)
    | .err c σ1 => .err c σ1
    | .bad => .bad) := h
  cases e : a.f σV with
  | bad => rw [e] at h'; exact h'
  | err c σ1 => rw [e] at h'; exact h'
  | ok os σ1 =>
    rw [e] at h'
    intro ρ1 S1 H1 vs g1 s1 w1 q1
    refine hr ρ1 S1 H1 os vs Q s1.w w1 ?_
    have h2 : FPost K W ρ pv S H σ a.q σV Q (match f os with | .ok o => .ok o σ1 | .bad => .bad) := h'
    cases e2 : f os with
    | bad => rw [e2] at h2; exact h2.elim
    | ok o =>
      rw [e2] at h2
      intro S2 H2 v ρ2 q ex n wf w
      refine h2 ρ1 S2 H2 v ρ2 (g1.trans q.grw) (s1.quiet q ex) ⟨wf, fun a r h => ?_, fun a o h r => ?_⟩ w fun hq => ?_
      · cases e3 : ρ1 a with
        | none => rfl
        | some r' =>
          obtain ⟨_, o, ho⟩ := s1.w.wf a r' e3
          rw [n a o ho] at h; cases h
      · exact n a o (g1.h a o h r)
      · obtain ⟨e3, e4, q3⟩ := q1 hq
        exact ⟨⟨e3, e4, q3.trans q⟩, fun a o h => n a o (q3.h a o h)⟩
def v1F (f : List O → QR O) (x : VX) : VX := vApp f (aCons x aNil)
theorem sim_op1F {r : List V → Hp → VK → Prop} {f : List O → QR O} (hr : SimRF K r f) (hx : SimX K W te x) : SimF K W (tCB r (tCons te tNil)) (vApp f (aCons x aNil)) := sim_appF (sim_cons hx sim_nil) hr

/-! ### statements -/
inductive BR where
  | nx (σ : VS) | rt (o : O) (σ : VS) | bk (σ : VS) | ct (σ : VS) | err (c : Str) (σ : VS) | bad
abbrev VB := VS → BR
def BPost (K : Frag) (W : WX) (ρ : Rho) (pv : Nat → Option V) (S H : Hp) (D : Ends) : BR → Prop
  | .nx σ1 => ∀ ρ' S' H' σ', Grw ρ S H ρ' S' H' → StR K ρ' pv S' H' σ1 σ' → D.nx σ' H'
  | .bk σ1 => ∀ ρ' S' H' σ', Grw ρ S H ρ' S' H' → StR K ρ' pv S' H' σ1 σ' → D.bk σ' H'
  | .ct σ1 => ∀ ρ' S' H' σ', Grw ρ S H ρ' S' H' → StR K ρ' pv S' H' σ1 σ' → D.ct σ' H'
  | .rt o σ1 => ∀ ρ' S' H' σ' v ρ2, Grw ρ S H ρ' S' H' → StR K ρ' pv S' H' σ1 σ' → Tmp ρ S H ρ' S' H' ρ2 → Ow K ρ2 S' H' o v [] → D.rt v H'
  | .err c σ1 => ∀ ρ' S' H' σ', Grw ρ S H ρ' S' H' → StR K ρ' pv S' H' σ1 σ' → EC K W c σ' H'
  | .bad => False
def SimS (K : Frag) (W : WX) (ts : TS) (b : VB) : Prop := ∀ ρ pv S H σV σ D, StR K ρ pv S H σV σ → BPost K W ρ pv S H D (b σV) → ts D σ H
theorem Tmp.at {ρ ρ1 ρ' ρ2 : Rho} {S H S1 H1 S' H' : Hp} (g : Grw ρ S H ρ1 S1 H1) (t : Tmp ρ1 S1 H1 ρ' S' H' ρ2) : Tmp ρ S H ρ' S' H' ρ2 :=
  ⟨t.wf, t.d, fun a o h r => t.n a o (g.h a o h r) (g.f a o h r)⟩
theorem BPost.at {ρ ρ1 : Rho} {pv : Nat → Option V} {S H S1 H1 : Hp} {D : Ends} {r : BR} (g : Grw ρ S H ρ1 S1 H1) (h : BPost K W ρ pv S H D r) : BPost K W ρ1 pv S1 H1 D r := by
  cases r with
  | nx σ1 => exact fun ρ' S' H' σ' g2 s => h ρ' S' H' σ' (g.trans g2) s
  | bk σ1 => exact fun ρ' S' H' σ' g2 s => h ρ' S' H' σ' (g.trans g2) s
  | ct σ1 => exact fun ρ' S' H' σ' g2 s => h ρ' S' H' σ' (g.trans g2) s
  | err c σ1 => exact fun ρ' S' H' σ' g2 s => h ρ' S' H' σ' (g.trans g2) s
  | rt o σ1 => exact fun ρ' S' H' σ' v ρ2 g2 s t w => h ρ' S' H' σ' v ρ2 (g.trans g2) s (t.at g) w
  | bad => exact h
variable {ts ts2 : TS} {b c : VB}
def sSeq (b c : VB) : VB := fun σ => match b σ with
  | .nx σ1 => c σ1
  | r => r
theorem sim_seq (h1 : SimS K W ts b) (h2 : SimS K W ts2 c) : SimS K W (tSeq ts ts2) (sSeq b c) := fun ρ pv S H σV σ D s h => by
  refine h1 ρ pv S H σV σ { D with nx := ts2 D } s ?_
  have h' : BPost K W ρ pv S H D (match b σV with | .nx σ1 => c σ1 | r => r) := h
  cases e : b σV with
  | nx σ1 =>
    rw [e] at h'
    exact fun ρ1 S1 H1 σ1' g s1 => h2 ρ1 pv S1 H1 σ1 σ1' D s1 (BPost.at (r := c σ1) g h')
  | rt o σ1 => rw [e] at h'; exact h'
  | bk σ1 => rw [e] at h'; exact h'
  | ct σ1 => rw [e] at h'; exact h'
  | err c' σ1 => rw [e] at h'; exact h'
  | bad => rw [e] at h'; exact h'
def sNext : VB := fun σ => .nx σ
def sBreak : VB := fun σ => .bk σ
def sCont : VB := fun σ => .ct σ
theorem sim_next : SimS K W tNext sNext := fun ρ pv S H σV σ D s h => h ρ S H σ .refl s
theorem sim_break : SimS K W tBreak sBreak := fun ρ pv S H σV σ D s h => h ρ S H σ .refl s
theorem sim_cont : SimS K W tCont sCont := fun ρ pv S H σV σ D s h => h ρ S H σ .refl s
def sIf (c : TX) (a b : VB) : VB := fun σ => match c.f σ with
  | .ok k σ1 => if k = true then a σ1 else b σ1
  | .err c σ1 => .err c σ1
  | .bad => .bad
theorem sim_ifS {tx : TX} (hc : SimT K W t tx) (h1 : SimS K W ts b) (h2 : SimS K W ts2 c) : SimS K W (tIfS t ts ts2) (sIf tx b c) := fun ρ pv S H σV σ D s h => by
  refine hc ρ pv S H σV σ _ s ?_
  have h' : BPost K W ρ pv S H D (match tx.f σV with
    | .ok k σ1 => if k = true then b σ1 else c σ1
    | .err c σ1 => .err c σ1
    | .bad => .bad) := h
  cases e : tx.f σV with
  | bad => rw [e] at h'; exact h'
  | err c' σ1 => rw [e] at h'; exact fun ρ1 S1 H1 g s1 => h' ρ1 S1 H1 σ g s1
  | ok k σ1 =>
    rw [e] at h'
    intro ρ1 S1 H1 g s1 _
    cases k with
    | true => exact h1 ρ1 pv S1 H1 σ1 σ D s1 (BPost.at (r := b σ1) g h')
    | false => exact h2 ρ1 pv S1 H1 σ1 σ D s1 (BPost.at (r := c σ1) g h')
/-- an expression and then something -/
def xB (x : VX) (k : O → VS → BR) : VB := fun σ => match x.f σ with
  | .ok o σ1 => k o σ1
  | .err c σ1 => .err c σ1
  | .bad => .bad
theorem sim_xB {k : O → VS → BR} {tk : V → TS} (hx : SimX K W te x)
    (hk : ∀ ρ pv S H σV σ D o v p, StR K ρ pv S H σV σ → Ow K ρ S H o v p → BPost K W ρ pv S H D (k o σV) → tk v D σ H) : SimS K W (fun D σ H => te σ H fun v H1 => tk v D σ H1) (xB x k) := fun ρ pv S H σV σ D s h => by
  refine hx ρ pv S H σV σ _ s ?_
  have h' : BPost K W ρ pv S H D (match x.f σV with
    | .ok o σ1 => k o σ1
    | .err c σ1 => .err c σ1
    | .bad => .bad) := h
  cases e : x.f σV with
  | bad => rw [e] at h'; exact h'
  | err c' σ1 => rw [e] at h'; exact fun ρ1 S1 H1 g s1 => h' ρ1 S1 H1 σ g s1
  | ok o σ1 =>
    rw [e] at h'
    exact fun ρ1 S1 H1 v p g s1 w _ => hk ρ1 pv S1 H1 σ1 σ D o v p s1 w (BPost.at (r := k o σ1) g h')
theorem sim_xF {k : O → VS → BR} {tk : V → TS} (hx : SimF K W te x)
    (hk : ∀ ρ pv S H ρ' S' H' σV σ D o v ρ2, StR K ρ' pv S' H' σV σ → Grw ρ S H ρ' S' H' → Tmp ρ S H ρ' S' H' ρ2 → Ow K ρ2 S' H' o v [] → BPost K W ρ pv S H D (k o σV) → tk v D σ H') : SimS K W (fun D σ H => te σ H fun v H1 => tk v D σ H1) (xB x k) := fun ρ pv S H σV σ D s h => by
  refine hx ρ pv S H σV σ _ s ?_
  have h' : BPost K W ρ pv S H D (match x.f σV with
    | .ok o σ1 => k o σ1
    | .err c σ1 => .err c σ1
    | .bad => .bad) := h
  cases e : x.f σV with
  | bad => rw [e] at h'; exact h'
  | err c' σ1 => rw [e] at h'; exact fun ρ1 S1 H1 g s1 => h' ρ1 S1 H1 σ g s1
  | ok o σ1 =>
    rw [e] at h'
    exact fun ρ1 S1 H1 v ρ2 g s1 t w _ => hk ρ pv S H ρ1 S1 H1 σ1 σ D o v ρ2 s1 g t w h'
def sDrop (x : VX) : VB := xB x fun _ σ => .nx σ
theorem sim_drop (hx : SimX K W te x) : SimS K W (tDrop te) (sDrop x) := sim_xB (tk := fun _ D σ H => D.nx σ H) hx fun ρ pv S H σV σ D o v p s w h => h ρ S H σ .refl s
def sRet (x : VX) : VB := xB x fun o σ => match o with
  | .val d => .rt (.val d) σ
  | _ => .bad
theorem Tmp.none {ρ : Rho} {S H : Hp} : Tmp ρ S H ρ S H (fun _ => Option.none) := ⟨fun _ _ h => (by cases h), fun _ _ h => (by cases h), fun _ _ _ _ => rfl⟩
theorem sim_ret (hx : SimX K W te x) : SimS K W (tRet te) (sRet x) := sim_xB (tk := fun v D _ H => D.rt v H) hx fun ρ pv S H σV σ D o v p s w h => by
  cases o with
  | val d => exact h ρ S H σ v (fun _ => none) .refl s .none (by unfold Ow at *; exact w)
  | _ => exact h.elim
def sRetN : VB := fun σ => .rt (.val .non) σ
theorem sim_retN : SimS K W tRetN sRetN := fun ρ pv S H σV σ D s h => h ρ S H σ .non (fun _ => none) .refl s .none (by unfold Ow; exact fz_non _)
def sRetF (x : VX) : VB := xB x fun o σ => .rt o σ
theorem sim_retF (hx : SimF K W te x) : SimS K W (tRet te) (sRetF x) := sim_xF (tk := fun v D _ H => D.rt v H) hx fun ρ pv S H ρ' S' H' σV σ D o v ρ2 s g t w h => h ρ' S' H' σ v ρ2 g s t w

/-! ### storing at a name -/
def setv (i : Nat) (o : O) (σ : VS) : QR VS := match σ[i]? with
  | some sv => if sv.isRf = true then .bad else .ok (σ.set i (.va o))
  | none => .bad
theorem setv_ok {i : Nat} {o : O} {σ σ1 : VS} (h : setv i o σ = .ok σ1) : i < σ.length ∧ (∀ o', σ[i]? ≠ some (.rf o')) ∧ σ1 = σ.set i (.va o) := by
  unfold setv at h
  split at h
  · rename_i sv e
    split at h
    · cases h
    · rename_i hr
      cases h
      refine ⟨(List.getElem?_eq_some_iff.mp e).1, fun o' z => ?_, rfl⟩
      rw [z] at e; cases e; exact hr rfl
  · cases h
theorem StR.put {ρ ρ' : Rho} {pv : Nat → Option V} {S H : Hp} {σV : VS} {σ : St} {i : Nat} {o : O} {v : V} (s : StR K ρ pv S H σV σ) (hi : i < σV.length) (hr : ∀ o', σV[i]? ≠ some (.rf o')) (wf : Wf ρ' S H)
    (k : ∀ a q, ρ a = some q → ρ' a = some q) (w : Ow K ρ' S H o v [.ix i]) : StR K ρ' pv S H (σV.set i (.va o)) (σ.set i (some v)) := by
  refine ⟨wf, by simp [s.len], fun j sv o' h1 h2 => ?_, fun j o' h1 => ?_⟩
  · by_cases e : i = j
    · subst e
      rw [List.getElem?_set_self hi] at h1
      cases h1; cases h2
      exact ⟨v, List.getElem?_set_self (s.len ▸ hi), w⟩
    · rw [List.getElem?_set_ne e] at h1
      obtain ⟨v', h3, h4⟩ := s.slot j sv o' h1 h2
      exact ⟨v', by rw [List.getElem?_set_ne e]; exact h3, Ow.mono (.refl _) (fun a r h => ⟨k a _ h, rfl⟩) h4⟩
  · by_cases e : i = j
    · subst e
      rw [List.getElem?_set_self hi] at h1
      cases h1
    · rw [List.getElem?_set_ne e] at h1
      obtain ⟨v', h3, h4⟩ := s.pin j o' h1
      exact ⟨v', h3, by rw [List.getElem?_set_ne e]; exact h4⟩
def nxQ : QR VS → BR
  | .ok σ => .nx σ
  | .bad => .bad
/-- targets -/
def OnlyAt (ts : List Nat) (σ σ' : St) : Prop := σ'.length = σ.length ∧ ∀ i, i ∉ ts → σ'[i]? = σ[i]?
theorem OnlyAt.refl {ts : List Nat} {σ : St} : OnlyAt ts σ σ := ⟨rfl, fun _ _ => rfl⟩
theorem OnlyAt.trans {ts ts2 : List Nat} {σ σ1 σ2 : St} (a : OnlyAt ts σ σ1) (b : OnlyAt ts2 σ1 σ2) : OnlyAt (ts ++ ts2) σ σ2 :=
  ⟨b.1.trans a.1, fun i h => by rw [List.mem_append, not_or] at h; exact (b.2 i h.2).trans (a.2 i h.1)⟩
def SimG (K : Frag) (tg : TG) (ts : List Nat) (g : D → VS → QR VS) : Prop := ∀ ρ pv S H σV σ d v Q, StR K ρ pv S H σV σ → Fz K S d v →
  (match g d σV with
    | .ok σ1 => ∀ σ', StR K ρ pv S H σ1 σ' → OnlyAt ts σ σ' → Q σ' H
    | .bad => False) → tg v σ H Q
def gN (i : Nat) : D → VS → QR VS := fun d σ => setv i (.val d) σ
theorem simG_name {i : Nat} : SimG K (gName i) [i] (gN i) := fun ρ pv S H σV σ d v Q s w h => by
  have h' : (match setv i (.val d) σV with | .ok σ1 => ∀ σ', StR K ρ pv S H σ1 σ' → OnlyAt [i] σ σ' → Q σ' H | .bad => False) := h
  cases e : setv i (.val d) σV with
  | bad => rw [e] at h'; exact h'.elim
  | ok σ1 =>
    rw [e] at h'
    obtain ⟨e1, e2, rfl⟩ := setv_ok e
    exact h' _ (s.put e1 e2 s.w (fun _ _ h => h) (by unfold Ow; exact w)) ⟨by simp, fun j hj => List.getElem?_set_ne fun e => hj (by rw [e]; exact List.mem_singleton.mpr rfl)⟩
/-- (a, b, ..) -/
def gAll : List (D → VS → QR VS) → List D → VS → QR VS
  | [], [], σ => .ok σ
  | g :: gs, d :: ds, σ => (match g d σ with
    | .ok σ1 => gAll gs ds σ1
    | .bad => .bad)
  | _, _, _ => .bad
def gT (gs : List (D → VS → QR VS)) : D → VS → QR VS := fun d σ => match d with
  | .tup ds => gAll gs ds σ
  | _ => .bad
def SimGs (K : Frag) (tg : TGs) (ts : List Nat) (gs : List (D → VS → QR VS)) : Prop := ∀ ρ pv S H σV σ ds vs Q, StR K ρ pv S H σV σ → FzL K S ds vs →
  (match gAll gs ds σV with
    | .ok σ1 => ∀ σ', StR K ρ pv S H σ1 σ' → OnlyAt ts σ σ' → Q σ' H
    | .bad => False) → tg vs σ H Q
theorem simGs_nil : SimGs K gNil [] [] := fun ρ pv S H σV σ ds vs Q s w h => by
  cases ds with
  | nil => exact ⟨w.unnil, h σ s .refl⟩
  | cons d ds => exact h.elim
theorem simGs_cons {g : D → VS → QR VS} {gs : List (D → VS → QR VS)} {tg : TG} {tgs : TGs} {ts ts2 : List Nat} (h1 : SimG K tg ts g) (h2 : SimGs K tgs ts2 gs) : SimGs K (gCons tg tgs) (ts ++ ts2) (g :: gs) := fun ρ pv S H σV σ ds vs Q s w h => by
  cases ds with
  | nil => exact h.elim
  | cons d ds =>
    obtain ⟨v, vs', rfl, w1, w2⟩ := w.uncons
    refine ⟨v, vs', rfl, h1 ρ pv S H σV σ d v _ s w1 ?_⟩
    have h' : (match (match g d σV with | .ok σ1 => gAll gs ds σ1 | .bad => .bad) with | .ok σ1 => ∀ σ', StR K ρ pv S H σ1 σ' → OnlyAt (ts ++ ts2) σ σ' → Q σ' H | .bad => False) := h
    cases e : g d σV with
    | bad => rw [e] at h'; exact h'
    | ok σ1 =>
      rw [e] at h'
      dsimp only at h'
      intro σ' s' o1
      refine h2 ρ pv S H σ1 σ' ds vs' Q s' w2 ?_
      cases e2 : gAll gs ds σ1 with
      | bad => rw [e2] at h'; exact h'
      | ok σ2 => rw [e2] at h'; exact fun σ'' s'' o2 => h' σ'' s'' (o1.trans o2)
theorem gAll_len : ∀ {gs : List (D → VS → QR VS)} {ds : List D} {σ σ1 : VS}, gAll gs ds σ = .ok σ1 → ds.length = gs.length
  | [], [], _, _, _ => rfl
  | [], _ :: _, _, _, h => by cases h
  | _ :: _, [], _, _, h => by cases h
  | g :: gs, d :: ds, σ, σ1, h => by
    have h' : (match g d σ with | .ok σ1 => gAll gs ds σ1 | .bad => .bad) = QR.ok σ1 := h
    cases e : g d σ with
    | bad => rw [e] at h'; cases h'
    | ok σ2 => rw [e] at h'; simp [gAll_len h']
theorem simG_tup {gs : List (D → VS → QR VS)} {tgs : TGs} {n : Nat} {ts : List Nat} (hn : gs.length = n) (h : SimGs K tgs ts gs) : SimG K (gTup K n tgs) ts (gT gs) := fun ρ pv S H σV σ d v Q s w hh => by
  cases d with
  | tup ds =>
    unfold Fz at w
    obtain ⟨a, vs, rfl, h1, h2⟩ := w
    have hh' : (match gAll gs ds σV with | .ok σ1 => ∀ σ', StR K ρ pv S H σ1 σ' → OnlyAt ts σ σ' → Q σ' H | .bad => False) := hh
    refine ⟨a, vs, rfl, SqT.of (s.w.ex _ _ h1), ?_, h ρ pv S H σV σ ds vs Q s h2 hh⟩
    cases e : gAll gs ds σV with
    | bad => rw [e] at hh'; exact hh'.elim
    | ok σ1 => rw [← h2.len, gAll_len e, hn]
  | _ => exact hh.elim
def sAsg (g : D → VS → QR VS) (x : VX) : VB := xB x fun o σ => match o with
  | .val d => nxQ (g d σ)
  | _ => .bad
theorem sim_asg {g : D → VS → QR VS} {tg : TG} {tl : List Nat} (hx : SimX K W te x) (hg : SimG K tg tl g) : SimS K W (tAsg te tg) (sAsg g x) := sim_xB (tk := fun v D σ H => tg v σ H D.nx) hx fun ρ pv S H σV σ D o v p s w h => by
  cases o with
  | val d =>
    unfold Ow at w
    refine hg ρ pv S H σV σ d v _ s w ?_
    have h' : BPost K W ρ pv S H D (nxQ (g d σV)) := h
    cases e : g d σV with
    | bad => rw [e] at h'; exact h'
    | ok σ1 => rw [e] at h'; exact fun σ' s' _ => h' ρ S H σ' .refl s'
  | _ => exact h.elim
/-- a new thing to a name, owned -/
def sAsgF (i : Nat) (x : VX) : VB := xB x fun o σ => nxQ (setv i o σ)
def rhoT (ρ ρ2 : Rho) (i : Nat) : Rho := fun a => match ρ2 a with
  | some q => some (.ix i :: q)
  | none => ρ a
theorem sim_asgF {i : Nat} (hx : SimF K W te x) : SimS K W (tAsg te (gName i)) (sAsgF i x) := sim_xF (tk := fun v D σ H => D.nx (σ.set i (some v)) H) hx fun ρ pv S H ρ' S' H' σV σ D o v ρ2 s g t w h => by
  have h' : BPost K W ρ pv S H D (nxQ (setv i o σV)) := h
  cases e : setv i o σV with
  | bad => rw [e] at h'; exact h'.elim
  | ok σ1 =>
    rw [e] at h'
    obtain ⟨e1, e2, rfl⟩ := setv_ok e
    have at2 : ∀ {a q}, ρ2 a = some q → rhoT ρ' ρ2 i a = some (.ix i :: q) := fun h => by unfold rhoT; rw [h]
    have out : ∀ {a}, ρ2 a = none → rhoT ρ' ρ2 i a = ρ' a := fun h => by unfold rhoT; rw [h]
    refine h' (rhoT ρ' ρ2 i) S' H' _ ⟨g.s, g.h, g.n, fun a o h r => ?_⟩ (s.put e1 e2 ⟨s.w.ex, fun a q h => ?_, s.w.ft⟩ (fun a q h => ?_) ?_)
    · rw [out (t.n a o h r)]; exact g.f a o h r
    · cases e3 : ρ2 a with
      | none => rw [out e3] at h; exact s.w.wf a q h
      | some q' => exact t.wf a q' e3
    · cases e3 : ρ2 a with
      | none => rw [out e3]; exact h
      | some q' => rw [t.d a q' e3] at h; cases h
    · exact Ow.mono (.refl _) (fun a r h => ⟨at2 h, rfl⟩) w

/-! ### ghost steps -/
def sGh (g : VS → QR VS) (b : VB) : VB := fun σ => match g σ with
  | .ok σ1 => b σ1
  | .bad => .bad
def SimH (K : Frag) (g : VS → QR VS) : Prop := ∀ ρ pv S H σV σ σ1, StR K ρ pv S H σV σ → g σV = .ok σ1 → ∃ ρ' S', Grw ρ S H ρ' S' H ∧ StR K ρ' pv S' H σ1 σ
theorem sim_gh {g : VS → QR VS} (hg : SimH K g) (h1 : SimS K W ts b) : SimS K W ts (sGh g b) := fun ρ pv S H σV σ D s h => by
  have h' : BPost K W ρ pv S H D (match g σV with | .ok σ1 => b σ1 | .bad => .bad) := h
  cases e : g σV with
  | bad => rw [e] at h'; exact h'.elim
  | ok σ1 =>
    rw [e] at h'
    obtain ⟨ρ', S', g', s'⟩ := hg ρ pv S H σV σ σ1 s e
    exact h1 ρ' pv S' H σ1 σ D s' (BPost.at (r := b σ1) g' h')
/-- forget names -/
def gFg : List Nat → VS → QR VS
  | [], σ => .ok σ
  | i :: is, σ => match σ[i]? with
    | some (.rf _) => .bad
    | _ => gFg is (σ.set i .un)
theorem simH_fg : ∀ {is : List Nat}, SimH K (gFg is)
  | [], ρ, pv, S, H, σV, σ, σ1, s, e => by cases e; exact ⟨ρ, S, .refl, s⟩
  | i :: is, ρ, pv, S, H, σV, σ, σ1, s, e => by
    have e' : (match σV[i]? with | some (.rf _) => .bad | _ => gFg is (σV.set i .un)) = QR.ok σ1 := e
    have go : gFg is (σV.set i .un) = .ok σ1 := by
      split at e'
      · cases e'
      · exact e'
    refine simH_fg (is := is) ρ pv S H (σV.set i .un) σ σ1 ⟨s.w, by simp [s.len], fun j sv o h1 h2 => ?_, fun j o h1 => ?_⟩ go
    · by_cases z : i = j
      · subst z
        by_cases hl : i < σV.length
        · rw [List.getElem?_set_self hl] at h1; cases h1; cases h2
        · rw [List.getElem?_eq_none (by simpa using hl)] at h1; cases h1
      · rw [List.getElem?_set_ne z] at h1
        exact s.slot j sv o h1 h2
    · by_cases z : i = j
      · subst z
        by_cases hl : i < σV.length
        · rw [List.getElem?_set_self hl] at h1; cases h1
        · rw [List.getElem?_eq_none (by simpa using hl)] at h1; cases h1
      · rw [List.getElem?_set_ne z] at h1
        exact s.pin j o h1
/-- freeze a name -/
def gFr (i : Nat) : VS → QR VS := fun σ => match σ[i]? with
  | some (.va o) => .ok (σ.set i (.va (.val (frz o))))
  | some (.rf o) => .ok (σ.set i (.rf (.val (frz o))))
  | _ => .bad
def rhoIn (ρ : Rho) (i : Nat) : Rho := fun a => match ρ a with
  | some (.ix j :: q) => if j = i then some (.ix j :: q) else none
  | _ => none
def rhoOut (ρ : Rho) (i : Nat) : Rho := fun a => match ρ a with
  | some (.ix j :: q) => if j = i then none else some (.ix j :: q)
  | r => r
theorem rhoIn_some {ρ : Rho} {i : Nat} {a : Addr} {q : Path} (h : rhoIn ρ i a = some q) : ∃ r, q = .ix i :: r ∧ ρ a = some q := by
  unfold rhoIn at h
  split at h
  · rename_i j r e
    by_cases z : j = i
    · rw [if_pos z] at h; cases h; subst z; exact ⟨r, rfl, e⟩
    · rw [if_neg z] at h; cases h
  · cases h
theorem rhoIn_at {ρ : Rho} {i : Nat} {a : Addr} {q : Path} (h : ρ a = some (.ix i :: q)) : rhoIn ρ i a = some (.ix i :: q) := by
  unfold rhoIn; rw [h]; exact if_pos rfl
theorem rhoOut_at {ρ : Rho} {i j : Nat} {a : Addr} {q : Path} (h : ρ a = some (.ix j :: q)) (n : j ≠ i) : rhoOut ρ i a = some (.ix j :: q) := by
  unfold rhoOut; rw [h]; exact if_neg n
theorem rhoOut_some {ρ : Rho} {i : Nat} {a : Addr} {q : Path} (h : rhoOut ρ i a = some q) : ρ a = some q ∧ ∀ r, q ≠ .ix i :: r := by
  unfold rhoOut at h
  split at h
  · rename_i j r e
    by_cases z : j = i
    · rw [if_pos z] at h; cases h
    · rw [if_neg z] at h; cases h; exact ⟨e, fun r' w => z (PK.ix.inj (List.cons.inj w).1)⟩
  · rename_i r hn
    exact ⟨h, fun r' w => hn i r' (by rw [h, w])⟩
theorem rhoOut_none {ρ : Rho} {i : Nat} {a : Addr} (h : ρ a = none) : rhoOut ρ i a = none := by unfold rhoOut; rw [h]
theorem rhoIn_none {ρ : Rho} {i : Nat} {a : Addr} (h : ρ a = none) : rhoIn ρ i a = none := by unfold rhoIn; rw [h]
theorem Kp.slot {ρ ρ' : Rho} {H : Hp} {j : Nat} (k : ∀ a q, ρ a = some (.ix j :: q) → ρ' a = some (.ix j :: q)) : Keeps ρ ρ' H H [.ix j] [.ix j] := fun a r h => ⟨k a r h, rfl⟩
theorem simH_fr {i : Nat} : SimH K (gFr i) := fun ρ pv S H σV σ σ1 s e => by
  have wI : ∀ a q, rhoIn ρ i a = some q → S a = none ∧ ∃ o, H a = some o := fun a q h => by
    obtain ⟨r, _, h⟩ := rhoIn_some h
    exact s.w.wf a q h
  have main : ∀ (o : O) (sv sv' : SV), σV[i]? = some sv → sv.get = some o → sv'.get = some (.val (frz o)) → (∀ o', sv' = .rf o' → ∃ o'', sv = .rf o'') → σ1 = σV.set i sv' → ∃ ρ' S', Grw ρ S H ρ' S' H ∧ StR K ρ' pv S' H σ1 σ := fun o sv sv' h1 h2 h3 h4 h5 => by
    subst h5
    have hi := (List.getElem?_eq_some_iff.mp h1).1
    refine ⟨rhoOut ρ i, VL.frS S H (rhoIn ρ i), ⟨frS_ex wI, fun _ _ h _ => h, fun a o' h z r => ?_, fun a o' h r => rhoOut_none r⟩, ⟨frS_in s.w.ex, fun a q h => ?_, s.w.ft.more (frS_ex wI)⟩, by simp [s.len], fun j sv2 o2 g1 g2 => ?_, fun j o2 g1 => ?_⟩
    · rw [frS_out (rhoIn_none r)]; exact z
    · obtain ⟨h, hne⟩ := rhoOut_some h
      obtain ⟨z1, z2⟩ := s.w.wf a q h
      refine ⟨?_, z2⟩
      cases e3 : rhoIn ρ i a with
      | none => rw [frS_out e3]; exact z1
      | some r =>
        obtain ⟨r', e4, e5⟩ := rhoIn_some e3
        rw [h] at e5; cases e5
        exact (hne r' e4).elim
    · by_cases z : i = j
      · subst z
        rw [List.getElem?_set_self hi] at g1
        cases g1
        rw [h3] at g2; cases g2
        obtain ⟨v, v1, v2⟩ := s.slot i sv o h1 h2
        refine ⟨v, v1, ?_⟩
        unfold Ow
        exact Ow.frz (frS_ex wI) (fun a r h => frS_at (rhoIn_at h)) v2
      · rw [List.getElem?_set_ne z] at g1
        obtain ⟨v, v1, v2⟩ := s.slot j sv2 o2 g1 g2
        exact ⟨v, v1, Ow.mono (frS_ex wI) (Kp.slot fun a q h => rhoOut_at h (fun w => z w.symm)) v2⟩
    · by_cases z : i = j
      · subst z
        rw [List.getElem?_set_self hi] at g1
        cases g1
        obtain ⟨o3, e3⟩ := h4 o2 rfl
        exact s.pin i o3 (by rw [h1, e3])
      · rw [List.getElem?_set_ne z] at g1
        exact s.pin j o2 g1
  have e' : (match σV[i]? with
    | some (.va o) => .ok (σV.set i (.va (.val (frz o))))
    | some (.rf o) => .ok (σV.set i (.rf (.val (frz o))))
    | _ => .bad) = QR.ok σ1 := e
  cases q : σV[i]? with
  | none => rw [q] at e'; cases e'
  | some sv =>
    rw [q] at e'
    cases sv with
    | un => cases e'
    | va o => cases e'; exact main o (.va o) _ q rfl rfl (fun o' z => by cases z) rfl
    | rf o => cases e'; exact main o (.rf o) _ q rfl rfl (fun o' z => ⟨o, rfl⟩) rfl
/-- return what a name holds, the name given up -/
def sRetMv (i : Nat) : VB := fun σ => match σ[i]? with
  | some (.va o) => .rt o (σ.set i .un)
  | _ => .bad
def rhoTmp (ρ : Rho) (i : Nat) : Rho := fun a => match ρ a with
  | some (.ix j :: q) => if j = i then some q else none
  | _ => none
theorem rhoTmp_some {ρ : Rho} {i : Nat} {a : Addr} {q : Path} (h : rhoTmp ρ i a = some q) : ρ a = some (.ix i :: q) := by
  unfold rhoTmp at h
  split at h
  · rename_i j r e
    by_cases z : j = i
    · rw [if_pos z] at h; cases h; subst z; exact e
    · rw [if_neg z] at h; cases h
  · cases h
theorem rhoTmp_at {ρ : Rho} {i : Nat} {a : Addr} {q : Path} (h : ρ a = some (.ix i :: q)) : rhoTmp ρ i a = some q := by
  unfold rhoTmp; rw [h]; exact if_pos rfl
theorem sim_retMv {i : Nat} : SimS K W (tRet (tVar i)) (sRetMv i) := fun ρ pv S H σV σ D s h => by
  have h' : BPost K W ρ pv S H D (match σV[i]? with | some (.va o) => .rt o (σV.set i .un) | _ => .bad) := h
  cases q : σV[i]? with
  | none => rw [q] at h'; exact h'.elim
  | some sv =>
    rw [q] at h'
    cases sv with
    | un => exact h'.elim
    | rf o => exact h'.elim
    | va o =>
      have hi := (List.getElem?_eq_some_iff.mp q).1
      obtain ⟨v, h1, h2⟩ := s.slot i _ o q rfl
      refine ⟨v, h1, ?_⟩
      refine h' (rhoOut ρ i) S H σ v (rhoTmp ρ i) ⟨.refl _, fun _ _ h _ => h, fun _ _ _ h _ => h, fun _ _ _ r => rhoOut_none r⟩ ⟨⟨s.w.ex, fun a r h => s.w.wf a r (rhoOut_some h).1, s.w.ft⟩, by simp [s.len], fun j sv o2 g1 g2 => ?_, fun j o2 g1 => ?_⟩ ⟨fun a r h => s.w.wf a _ (rhoTmp_some h), fun a r h => ?_, fun a o h r => ?_⟩ ?_
      · by_cases z : i = j
        · subst z
          rw [List.getElem?_set_self hi] at g1; cases g1; cases g2
        · rw [List.getElem?_set_ne z] at g1
          obtain ⟨w, w1, w2⟩ := s.slot j sv o2 g1 g2
          exact ⟨w, w1, Ow.mono (.refl _) (Kp.slot fun a q h => rhoOut_at h (fun w => z w.symm)) w2⟩
      · by_cases z : i = j
        · subst z
          rw [List.getElem?_set_self hi] at g1; cases g1
        · rw [List.getElem?_set_ne z] at g1
          exact s.pin j o2 g1
      · have := rhoTmp_some h
        unfold rhoOut; rw [this]; exact if_pos rfl
      · unfold rhoTmp; rw [r]
      · exact Ow.mono (.refl _) (fun a r h => ⟨rhoTmp_at h, rfl⟩) h2

/-! ### while -/
def whN (c : TX) (b : VB) : Nat → VS → Option BR
  | 0, _ => none
  | n + 1, σ => match c.f σ with
    | .ok k σ1 => if k = true then (match b σ1 with
        | .nx σ2 => whN c b n σ2
        | .ct σ2 => whN c b n σ2
        | .bk σ2 => some (.nx σ2)
        | r => some r) else some (.nx σ1)
    | .err e σ1 => some (.err e σ1)
    | .bad => some .bad
theorem whN_up {c : TX} {b : VB} : ∀ {n : Nat} {σ : VS} {r : BR}, whN c b n σ = some r → whN c b (n + 1) σ = some r
  | 0, _, _, h => by cases h
  | n + 1, σ, r, h => by
    unfold whN at h ⊢
    cases e : c.f σ with
    | bad => rw [e] at h; exact h
    | err e' σ1 => rw [e] at h; exact h
    | ok k σ1 =>
      rw [e] at h
      cases k with
      | false => exact h
      | true =>
        simp only [if_true] at h ⊢
        cases e2 : b σ1 with
        | nx σ2 => rw [e2] at h; exact whN_up h
        | ct σ2 => rw [e2] at h; exact whN_up h
        | bk σ2 => rw [e2] at h; exact h
        | rt o σ2 => rw [e2] at h; exact h
        | err c' σ2 => rw [e2] at h; exact h
        | bad => rw [e2] at h; exact h
theorem whN_le {c : TX} {b : VB} {n m : Nat} {σ : VS} {r : BR} (h : whN c b n σ = some r) (hm : n ≤ m) : whN c b m σ = some r := by
  induction hm with
  | refl => exact h
  | step _ ih => exact whN_up ih
open Classical in
noncomputable def sWhile (c : TX) (b : VB) : VB := fun σ => if h : ∃ n r, whN c b n σ = some r then h.choose_spec.choose else .bad
theorem sWhile_of {c : TX} {b : VB} {n : Nat} {σ : VS} {r : BR} (h : whN c b n σ = some r) : sWhile c b σ = r := by
  have hx : ∃ n r, whN c b n σ = some r := ⟨n, r, h⟩
  unfold sWhile
  rw [dif_pos hx]
  have h2 := hx.choose_spec.choose_spec
  have a1 := whN_le h (Nat.le_max_left n hx.choose)
  have a2 := whN_le h2 (Nat.le_max_right n hx.choose)
  rw [a1] at a2
  exact (Option.some.inj a2).symm
theorem sWhile_not {c : TX} {b : VB} {σ : VS} (h : ¬ ∃ n r, whN c b n σ = some r) : sWhile c b σ = .bad := by
  unfold sWhile; rw [dif_neg h]
/-- one turn -/
theorem sWhile_eq (c : TX) (b : VB) (σ : VS) : sWhile c b σ = (match c.f σ with
    | .ok k σ1 => if k = true then (match b σ1 with
        | .nx σ2 => sWhile c b σ2
        | .ct σ2 => sWhile c b σ2
        | .bk σ2 => .nx σ2
        | r => r) else .nx σ1
    | .err e σ1 => .err e σ1
    | .bad => .bad) := by
  cases e : c.f σ with
  | bad => exact sWhile_of (n := 1) (by unfold whN; rw [e])
  | err e' σ1 => exact sWhile_of (n := 1) (by unfold whN; rw [e])
  | ok k σ1 =>
    cases k with
    | false => exact sWhile_of (n := 1) (by unfold whN; rw [e]; rfl)
    | true =>
      have loop : ∀ σ2, (b σ1 = .nx σ2 ∨ b σ1 = .ct σ2) → sWhile c b σ = sWhile c b σ2 := fun σ2 hb => by
        have eq : ∀ n, whN c b (n + 1) σ = whN c b n σ2 := fun n => by
          conv => lhs; unfold whN
          rw [e]
          rcases hb with hb | hb <;> (simp only [if_true]; rw [hb])
        by_cases h : ∃ n r, whN c b n σ2 = some r
        · obtain ⟨n, r, h⟩ := h
          rw [sWhile_of h, sWhile_of ((eq n).trans h)]
        · rw [sWhile_not h]
          refine sWhile_not fun ⟨n, r, z⟩ => h ?_
          cases n with
          | zero => cases z
          | succ n => exact ⟨n, r, (eq n).symm.trans z⟩
      have stop : ∀ r, (∀ n, whN c b (n + 1) σ = some r) → sWhile c b σ = r := fun r h => sWhile_of (h 0)
      simp only [if_true]
      cases e2 : b σ1 with
      | nx σ2 => exact loop σ2 (.inl e2)
      | ct σ2 => exact loop σ2 (.inr e2)
      | bk σ2 => exact stop _ fun n => by unfold whN; rw [e]; simp only [if_true]; rw [e2]
      | rt o σ2 => exact stop _ fun n => by unfold whN; rw [e]; simp only [if_true]; rw [e2]
      | err c' σ2 => exact stop _ fun n => by unfold whN; rw [e]; simp only [if_true]; rw [e2]
      | bad => exact stop _ fun n => by unfold whN; rw [e]; simp only [if_true]; rw [e2]
theorem sim_while {tx : TX} (hc : SimT K W t tx) (hb : SimS K W ts b) : SimS K W (tWhile t ts) (sWhile tx b) := fun ρ pv S H σV σ D s h => by
  by_cases hx : ∃ n r, whN tx b n σV = some r
  · obtain ⟨n, r, hr⟩ := hx
    rw [sWhile_of hr] at h
    refine ⟨fun m σ1 H1 => ∃ ρ1 S1 σV1, Grw ρ S H ρ1 S1 H1 ∧ StR K ρ1 pv S1 H1 σV1 σ1 ∧ whN tx b m σV1 = some r, ⟨n, ρ, S, σV, .refl, s, hr⟩, ?_⟩
    rintro m σ1 H1 ⟨ρ1, S1, σV1, g1, s1, e1⟩
    refine hc ρ1 pv S1 H1 σV1 σ1 _ s1 ?_
    cases m with
    | zero => cases e1
    | succ m =>
      unfold whN at e1
      cases e : tx.f σV1 with
      | bad => rw [e] at e1; cases e1; exact h.elim
      | err c' σ2 => rw [e] at e1; cases e1; exact fun ρ2 S2 H2 g2 s2 => h ρ2 S2 H2 σ1 (g1.trans g2) s2
      | ok k σ2 =>
        rw [e] at e1
        intro ρ2 S2 H2 g2 s2 _
        cases k with
        | false =>
          cases e1
          exact h ρ2 S2 H2 σ1 (g1.trans g2) s2
        | true =>
          simp only [if_true] at e1 ⊢
          refine ⟨fun σ3 H3 => ∃ m', m' < m + 1 ∧ ∃ ρ3 S3 σV3, Grw ρ S H ρ3 S3 H3 ∧ StR K ρ3 pv S3 H3 σV3 σ3 ∧ whN tx b m' σV3 = some r, fun σ3 H3 z => z, hb ρ2 pv S2 H2 σ2 σ1 _ s2 ?_⟩
          have h2 := BPost.at (g1.trans g2) h
          cases e2 : b σ2 with
          | nx σ3 => rw [e2] at e1; exact fun ρ3 S3 H3 σ3' g3 s3 => ⟨m, Nat.lt_succ_self _, ρ3, S3, σ3, (g1.trans g2).trans g3, s3, e1⟩
          | ct σ3 => rw [e2] at e1; exact fun ρ3 S3 H3 σ3' g3 s3 => ⟨m, Nat.lt_succ_self _, ρ3, S3, σ3, (g1.trans g2).trans g3, s3, e1⟩
          | bk σ3 => rw [e2] at e1; cases e1; exact h2
          | rt o σ3 => rw [e2] at e1; cases e1; exact h2
          | err c' σ3 => rw [e2] at e1; cases e1; exact h2
          | bad => rw [e2] at e1; cases e1; exact h2
  · rw [sWhile_not hx] at h
    exact h.elim

/-! ### for -/
abbrev IX := VS → XR (List D)
def IPost (K : Frag) (W : WX) (ρ : Rho) (pv : Nat → Option V) (S H : Hp) (σ : St) (R : It → Hp → Prop) : XR (List D) → Prop
  | .ok ds σ1 => ∀ ρ' S' H' J G Y, Grw ρ S H ρ' S' H' → StR K ρ' pv S' H' σ1 σ → Walk J ds.length G Y → (∀ S2 H2, Ex S' S2 → Ex S2 H2 → G H2) →
      (∀ S2 H2 i x H3, i < ds.length → Ex S' S2 → Ex S2 H2 → Y i H2 x H3 → ∃ S3 d, Quiet S2 H2 S3 H3 ∧ Ex S3 H3 ∧ ds[i]? = some d ∧ Fz K S3 d x) → R J H'
  | .err c σ1 => ∀ ρ' S' H', Grw ρ S H ρ' S' H' → StR K ρ' pv S' H' σ1 σ → EC K W c σ H'
  | .bad => False
def SimI (K : Frag) (W : WX) (wi : TI) (ix : IX) : Prop := ∀ ρ pv S H σV σ R, StR K ρ pv S H σV σ → IPost K W ρ pv S H σ R (ix σV) → wi σ H R
def forL (g : D → VS → QR VS) (b : VB) : List D → VS → BR
  | [], σ => .nx σ
  | d :: ds, σ => match g d σ with
    | .ok σ1 => (match b σ1 with
      | .nx σ2 => forL g b ds σ2
      | .ct σ2 => forL g b ds σ2
      | .bk σ2 => .nx σ2
      | r => r)
    | .bad => .bad
def sFor (ix : IX) (g : D → VS → QR VS) (b : VB) : VB := fun σ => match ix σ with
  | .ok ds σ1 => forL g b ds σ1
  | .err c σ1 => .err c σ1
  | .bad => .bad
theorem drop_at {α : Type} {l : List α} {i : Nat} {x : α} (h : l[i]? = some x) : l.drop i = x :: l.drop (i + 1) := by
  obtain ⟨hi, e⟩ := List.getElem?_eq_some_iff.mp h
  rw [List.drop_eq_getElem_cons hi, e]
theorem sim_for {wi : TI} {ix : IX} {tg : TG} {g : D → VS → QR VS} {tl : List Nat} (hi : SimI K W wi ix) (hg : SimG K tg tl g) (hb : SimS K W ts b) : SimS K W (tFor wi tg ts) (sFor ix g b) := fun ρ pv S H σV σ D s h => by
  refine hi ρ pv S H σV σ _ s ?_
  have h' : BPost K W ρ pv S H D (match ix σV with
    | .ok ds σ1 => forL g b ds σ1
    | .err c σ1 => .err c σ1
    | .bad => .bad) := h
  cases e : ix σV with
  | bad => rw [e] at h'; exact h'
  | err c' σ1 => rw [e] at h'; exact fun ρ1 S1 H1 g1 s1 => h' ρ1 S1 H1 σ g1 s1
  | ok ds σ1 =>
    rw [e] at h'
    intro ρ1 S1 H1 J G Y g1 s1 wk hG hY
    refine for_it wk (fun i σ2 H2 => ∃ ρ2 S2 σV2, Grw ρ S H ρ2 S2 H2 ∧ Ex S1 S2 ∧ StR K ρ2 pv S2 H2 σV2 σ2 ∧ BPost K W ρ pv S H D (forL g b (ds.drop i) σV2)) ⟨ρ1, S1, σ1, g1, .refl _, s1, h'⟩ ?_ ?_ ?_
    · rintro i σ2 H2 _ ⟨ρ2, S2, σV2, g2, x2, s2, _⟩
      exact hG S2 H2 x2 s2.w.ex
    · rintro i x σ2 H2 H3 hlt ⟨ρ2, S2, σV2, g2, x2, s2, p2⟩ y
      obtain ⟨S3, d, q3, ex3, hd, w3⟩ := hY S2 H2 i x H3 hlt x2 s2.w.ex y
      have s3 := s2.quiet q3 ex3
      rw [drop_at hd] at p2
      refine hg ρ2 pv S3 H3 σV2 σ2 d x _ s3 w3 ?_
      have p3 : BPost K W ρ pv S H D (match g d σV2 with
        | .ok σ1 => (match b σ1 with
          | .nx σ2 => forL g b (ds.drop (i + 1)) σ2
          | .ct σ2 => forL g b (ds.drop (i + 1)) σ2
          | .bk σ2 => .nx σ2
          | r => r)
        | .bad => .bad) := p2
      cases eg : g d σV2 with
      | bad => rw [eg] at p3; exact p3
      | ok σ4 =>
        rw [eg] at p3
        intro σ4' s4 _
        have g3 : Grw ρ S H ρ2 S3 H3 := g2.trans q3.grw
        refine hb ρ2 pv S3 H3 σ4 σ4' _ s4 ?_
        have p4 : BPost K W ρ2 pv S3 H3 D (match b σ4 with
          | .nx σ2 => forL g b (ds.drop (i + 1)) σ2
          | .ct σ2 => forL g b (ds.drop (i + 1)) σ2
          | .bk σ2 => .nx σ2
          | r => r) := BPost.at g3 p3
        have p5 : BPost K W ρ pv S H D (match b σ4 with
          | .nx σ2 => forL g b (ds.drop (i + 1)) σ2
          | .ct σ2 => forL g b (ds.drop (i + 1)) σ2
          | .bk σ2 => .nx σ2
          | r => r) := p3
        cases eb : b σ4 with
        | nx σ5 => rw [eb] at p5; exact fun ρ5 S5 H5 σ5' g5 s5 => ⟨ρ5, S5, σ5, g3.trans g5, (x2.trans q3.s).trans g5.s, s5, p5⟩
        | ct σ5 => rw [eb] at p5; exact fun ρ5 S5 H5 σ5' g5 s5 => ⟨ρ5, S5, σ5, g3.trans g5, (x2.trans q3.s).trans g5.s, s5, p5⟩
        | bk σ5 => rw [eb] at p4; exact p4
        | rt o σ5 => rw [eb] at p4; exact p4
        | err c' σ5 => rw [eb] at p4; exact p4
        | bad => rw [eb] at p4; exact p4
    · rintro σ2 H2 ⟨ρ2, S2, σV2, g2, x2, s2, p2⟩
      rw [List.drop_length] at p2
      exact p2 ρ2 S2 H2 σ2 g2 s2
end
end VL
set_option maxRecDepth 100000
set_option maxHeartbeats 4000000
/-! V4: operations on values -/
namespace VL
open PySem L2

section
variable {K : Frag} {ρ : Rho} {S H : Hp}
def lstO : O → Option (List D)
  | .val (.lst ds) => some ds
  | .ol ds => some ds
  | _ => none
theorem lstO_ok {o : O} {v : V} {p : Path} {ds : List D} (w : Wf ρ S H) (h : Ow K ρ S H o v p) (e : lstO o = some ds) : ∃ a vs, v = .ref a ∧ H a = some (.lst vs) ∧ FzL K S ds vs := by
  cases o with
  | val d => cases d with
    | lst es =>
      cases e
      unfold Ow Fz at h
      obtain ⟨a, vs, h1, h2, h3⟩ := h
      exact ⟨a, vs, h1, w.ex _ _ h2, h3⟩
    | _ => cases e
  | ol es =>
    cases e
    unfold Ow at h
    obtain ⟨a, vs, h1, _, h2, h3⟩ := h
    exact ⟨a, vs, h1, h2, h3⟩
  | _ => cases e
/-- what is read as a list -/
def sqO : O → Option (List D)
  | .val (.lst ds) => some ds
  | .val (.rd ds) => some ds
  | .ol ds => some ds
  | _ => none
theorem sqO_ok {o : O} {v : V} {p : Path} {ds : List D} (w : Wf ρ S H) (h : Ow K ρ S H o v p) (e : sqO o = some ds) : ∃ a vs, v = .ref a ∧ SqL K H a vs ∧ FzL K S ds vs := by
  cases o with
  | val d => cases d with
    | lst es =>
      cases e
      unfold Ow Fz at h
      obtain ⟨a, vs, h1, h2, h3⟩ := h
      exact ⟨a, vs, h1, SqL.of (w.ex _ _ h2), h3⟩
    | rd es =>
      cases e
      unfold Ow Fz at h
      obtain ⟨a, vs, h1, h2, h3⟩ := h
      exact ⟨a, vs, h1, w.ex.sqL h2, h3⟩
    | _ => cases e
  | ol es =>
    cases e
    unfold Ow at h
    obtain ⟨a, vs, h1, _, h2, h3⟩ := h
    exact ⟨a, vs, h1, SqL.of h2, h3⟩
  | _ => cases e
def tupO : O → Option (List D)
  | .val (.tup ds) => some ds
  | _ => none
theorem tupO_ok {o : O} {v : V} {p : Path} {ds : List D} (w : Wf ρ S H) (h : Ow K ρ S H o v p) (e : tupO o = some ds) : ∃ a vs, v = .ref a ∧ H a = some (.tup vs) ∧ FzL K S ds vs := by
  cases o with
  | val d => cases d with
    | tup es =>
      cases e
      unfold Ow Fz at h
      obtain ⟨a, vs, h1, h2, h3⟩ := h
      exact ⟨a, vs, h1, w.ex _ _ h2, h3⟩
    | _ => cases e
  | _ => cases e
theorem intO {i : Int} {v : V} {p : Path} (h : Ow K ρ S H (.val (.int i)) v p) : v = .int i := by unfold Ow Fz at h; exact h
theorem blO {i : Bool} {v : V} {p : Path} (h : Ow K ρ S H (.val (.bl i)) v p) : v = .bl i := by unfold Ow Fz at h; exact h
theorem strO {i : Str} {v : V} {p : Path} (h : Ow K ρ S H (.val (.str i)) v p) : v = .str i := by unfold Ow Fz at h; exact h
theorem nonO {v : V} {p : Path} (h : Ow K ρ S H (.val .non) v p) : v = .non := by unfold Ow Fz at h; exact h
theorem OwA.one {o : O} {vs : List V} (h : OwA K ρ S H [o] vs) : ∃ v p, vs = [v] ∧ Ow K ρ S H o v p := by
  obtain ⟨v, vs', rfl, ⟨p, h1⟩, h2⟩ := h
  cases (show vs' = [] from h2)
  exact ⟨v, p, rfl, h1⟩
theorem OwA.two {o o2 : O} {vs : List V} (h : OwA K ρ S H [o, o2] vs) : ∃ v p v2 p2, vs = [v, v2] ∧ Ow K ρ S H o v p ∧ Ow K ρ S H o2 v2 p2 := by
  obtain ⟨v, vs', rfl, ⟨p, h1⟩, h2⟩ := h
  obtain ⟨v2, p2, rfl, h3⟩ := OwA.one h2
  exact ⟨v, p, v2, p2, rfl, h1, h3⟩
theorem OwA.three {o o2 o3 : O} {vs : List V} (h : OwA K ρ S H [o, o2, o3] vs) : ∃ v p v2 p2 v3 p3, vs = [v, v2, v3] ∧ Ow K ρ S H o v p ∧ Ow K ρ S H o2 v2 p2 ∧ Ow K ρ S H o3 v3 p3 := by
  obtain ⟨v, vs', rfl, ⟨p, h1⟩, h2⟩ := h
  obtain ⟨v2, p2, v3, p3, rfl, h3, h4⟩ := OwA.two h2
  exact ⟨v, p, v2, p2, v3, p3, rfl, h1, h3, h4⟩
theorem Ow.v {d : D} {v : V} {p : Path} (h : Fz K S d v) : Ow K ρ S H (.val d) v p := by unfold Ow; exact h
theorem Ow.int {i : Int} {p : Path} : Ow K ρ S H (.val (.int i)) (.int i) p := .v (fz_int S)
theorem Ow.bl {i : Bool} {p : Path} : Ow K ρ S H (.val (.bl i)) (.bl i) p := .v (fz_bl S)
theorem Ow.str {i : Str} {p : Path} : Ow K ρ S H (.val (.str i)) (.str i) p := .v (fz_str S)
/-- the answer is flat, nothing new -/
theorem RPost.now {Q : V → Hp → Prop} {o : O} {v : V} {p : Path} (w : Wf ρ S H) (h : RPost K ρ S H Q (.ok o)) (z : Ow K ρ S H o v p) : Q v H := h S H v p .refl w.ex z
/-- a new object -/
def rhoNew (a : Addr) : Rho := fun b => if b = a then some [] else none
theorem RFPost.new {Q : V → Hp → Prop} {o : O} {a : Addr} {ob : HO} (w : Wf ρ S H) (ha : H a = none) (h : RFPost K ρ S H Q (.ok o)) (z : ∀ H', H' a = some ob → Ow K (rhoNew a) S H' o (.ref a) []) (hn : ∀ vs, ob ≠ .tup vs := by (intro vs z; cases z)) : Q (.ref a) (upd H a ob) := by
  have hS : S a = none := w.ex.back ha
  refine h S (upd H a ob) (.ref a) (rhoNew a) ⟨.refl _, .new ha, fun _ _ _ h => h, fun f => f.upd hn⟩ (w.ex.trans (.new ha)) (fun b o hb => ?_) (fun b q hb => ?_) (z _ upd_same)
  · unfold rhoNew
    rw [if_neg (ne_of_none hb ha)]
  · unfold rhoNew at hb
    by_cases e : b = a
    · subst e; exact ⟨hS, _, upd_same⟩
    · rw [if_neg e] at hb; cases hb
theorem rhoNew_at {a : Addr} : rhoNew a a = some [] := by unfold rhoNew; rw [if_pos rfl]
theorem RFPost.lst {Q : V → Hp → Prop} {ds : List D} {a : Addr} {vs : List V} (w : Wf ρ S H) (ha : H a = none) (h : RFPost K ρ S H Q (.ok (.ol ds))) (z : FzL K S ds vs) : Q (.ref a) (upd H a (.lst vs)) :=
  RFPost.new w ha h fun H' e => by unfold Ow; exact ⟨a, vs, rfl, rhoNew_at, e, z⟩
/-- a new tuple, frozen at once -/
theorem RPost.tup {Q : V → Hp → Prop} {ds : List D} {a : Addr} {vs : List V} (w : Wf ρ S H) (ha : H a = none) (h : RPost K ρ S H Q (.ok (.val (.tup ds)))) (z : FzL K S ds vs) : Q (.ref a) (upd H a (.tup vs)) := by
  have hS : S a = none := w.ex.back ha
  refine h (upd S a (.tup vs)) (upd H a (.tup vs)) (.ref a) [] ⟨.new hS, .new ha, fun b o hb hs => ?_, fun f => f.new⟩ (fun b o hb => ?_) (.v ?_)
  · rw [upd_ne (ne_of_none hb ha)]; exact hs
  · by_cases e : b = a
    · subst e; rw [upd_same] at hb ⊢; exact hb
    · rw [upd_ne e] at hb ⊢; exact w.ex _ _ hb
  · unfold Fz
    exact ⟨a, vs, rfl, upd_same, z.mono (.new hS)⟩
end

/-! ### arithmetic -/
section
variable {K : Frag}
def fI2 (C : Int → Int → Prop) [∀ i j, Decidable (C i j)] (g : Int → Int → D) : List O → QR O
  | [.val (.int i), .val (.int j)] => if C i j then .ok (.val (g i j)) else .bad
  | _ => .bad
def fI0 (g : Int → Int → D) : List O → QR O
  | [.val (.int i), .val (.int j)] => .ok (.val (g i j))
  | _ => .bad
theorem two_int {ρ : Rho} {S H : Hp} {os : List O} {vs : List V} (w : OwA K ρ S H os vs) : (∃ i j, os = [.val (.int i), .val (.int j)] ∧ vs = [.int i, .int j]) ∨ ∀ i j, os ≠ [.val (.int i), .val (.int j)] := by
  by_cases h : ∃ i j, os = [.val (.int i), .val (.int j)]
  · obtain ⟨i, j, rfl⟩ := h
    obtain ⟨v, p, v2, p2, rfl, h1, h2⟩ := w.two
    exact .inl ⟨i, j, rfl, by rw [intO h1, intO h2]⟩
  · exact .inr fun i j e => h ⟨i, j, e⟩
theorem sim_I {C : Int → Int → Prop} [∀ i j, Decidable (C i j)] {g : Int → Int → V} {gd : Int → Int → D} (hg : ∀ i j S, Fz K S (gd i j) (g i j)) : SimR K (r2l (rI C g)) (fI2 C gd) := fun ρ S H os vs Q w wa h => by
  rcases two_int wa with ⟨i, j, rfl, rfl⟩ | hn
  · have h' : RPost K ρ S H Q (if C i j then .ok (.val (gd i j)) else .bad) := h
    by_cases c : C i j
    · rw [if_pos c] at h'
      exact ⟨i, j, rfl, rfl, c, RPost.now (p := []) w h' (.v (hg i j S))⟩
    · rw [if_neg c] at h'; exact h'.elim
  · unfold fI2 at h
    split at h
    · rename_i i j; exact (hn i j rfl).elim
    · exact h.elim
theorem sim_I0 {g : Int → Int → V} {gd : Int → Int → D} (hg : ∀ i j S, Fz K S (gd i j) (g i j)) : SimR K (r2l (rI0 g)) (fI0 gd) := fun ρ S H os vs Q w wa h => by
  rcases two_int wa with ⟨i, j, rfl, rfl⟩ | hn
  · exact ⟨i, j, rfl, rfl, RPost.now (p := []) w h (.v (hg i j S))⟩
  · unfold fI0 at h
    split at h
    · rename_i i j; exact (hn i j rfl).elim
    · exact h.elim
/-- a bound that the kernel does not run over -/
def bnd (b : Nat) (i : Int) : Bool := Nat.ble i.natAbs b
theorem bnd_iff {b : Nat} {i : Int} : bnd b i = true ↔ -(b : Int) ≤ i ∧ i ≤ b := by
  unfold bnd
  rw [Nat.ble_eq]
  omega
instance : ∀ i j, Decidable (CMul i j) := fun i j => decidable_of_iff ((bnd 18446744073709551615 i || bnd 18446744073709551615 j) = true) (by
  unfold CMul
  rw [Bool.or_eq_true, bnd_iff, bnd_iff]
  omega)
instance : ∀ i j, Decidable (CDiv i j) := fun i j => decidable_of_iff ((decide (0 < j) && bnd 1073741823 j) = true) (by
  unfold CDiv
  rw [Bool.and_eq_true, bnd_iff, decide_eq_true_eq]
  omega)
instance : ∀ i j, Decidable (CPow i j) := fun i j => decidable_of_iff ((decide (0 ≤ j) && (bnd 1000000 j && bnd 18446744073709551615 i)) = true) (by
  unfold CPow
  rw [Bool.and_eq_true, Bool.and_eq_true, bnd_iff, bnd_iff, decide_eq_true_eq]
  omega)
def fSub := fI0 fun i j => .int (i - j)
def fMul := fI2 CMul fun i j => .int (i * j)
def fFdiv := fI2 CDiv fun i j => .int (i / j)
def fMod := fI2 (fun _ j => 0 < j) fun i j => .int (i % j)
def fPow := fI2 CPow fun i j => .int (i ^ j.toNat)
def fShl := fI2 CPow fun i j => .int (i * 2 ^ j.toNat)
def fShr := fI2 (fun _ j => 0 ≤ j) fun i j => .int (i / 2 ^ j.toNat)
def fBand := fI0 fun i j => .int (Builtin.bitAnd i j)
def fBor := fI0 fun i j => .int (Builtin.bitOr i j)
def fBxor := fI0 fun i j => .int (Builtin.bitXor i j)
theorem s_sub : SimR K (r2l (rI0 fun i j => .int (i - j))) fSub := sim_I0 fun _ _ => fz_int
theorem s_mul : SimR K (r2l (rI CMul fun i j => .int (i * j))) fMul := sim_I fun _ _ => fz_int
theorem s_fdiv : SimR K (r2l (rI CDiv fun i j => .int (i / j))) fFdiv := sim_I fun _ _ => fz_int
theorem s_mod : SimR K (r2l (rI (fun _ j => 0 < j) fun i j => .int (i % j))) fMod := sim_I fun _ _ => fz_int
theorem s_pow : SimR K (r2l (rI CPow fun i j => .int (i ^ j.toNat))) fPow := sim_I fun _ _ => fz_int
theorem s_shl : SimR K (r2l (rI CPow fun i j => .int (i * 2 ^ j.toNat))) fShl := sim_I fun _ _ => fz_int
theorem s_shr : SimR K (r2l (rI (fun _ j => 0 ≤ j) fun i j => .int (i / 2 ^ j.toNat))) fShr := sim_I fun _ _ => fz_int
theorem s_band : SimR K (r2l (rI0 fun i j => .int (Builtin.bitAnd i j))) fBand := sim_I0 fun _ _ => fz_int
theorem s_bor : SimR K (r2l (rI0 fun i j => .int (Builtin.bitOr i j))) fBor := sim_I0 fun _ _ => fz_int
theorem s_bxor : SimR K (r2l (rI0 fun i j => .int (Builtin.bitXor i j))) fBxor := sim_I0 fun _ _ => fz_int
/-- an int, negated -/
def fNeg : List O → QR O
  | [.val (.int i)] => .ok (.val (.int (-i)))
  | _ => .bad
def fInv : List O → QR O
  | [.val (.int i)] => .ok (.val (.int (Builtin.bitNot i)))
  | _ => .bad
theorem s_neg : SimR K (r1l (rU fun i => .int (-i))) fNeg := fun ρ S H os vs Q w wa h => by
  unfold fNeg at h
  split at h
  · rename_i i
    obtain ⟨v, p, rfl, h1⟩ := wa.one
    cases intO h1
    exact ⟨i, rfl, RPost.now (p := []) w h .int⟩
  · exact h.elim
theorem s_inv : SimR K (r1l (rU fun i => .int (Builtin.bitNot i))) fInv := fun ρ S H os vs Q w wa h => by
  unfold fInv at h
  split at h
  · rename_i i
    obtain ⟨v, p, rfl, h1⟩ := wa.one
    cases intO h1
    exact ⟨i, rfl, RPost.now (p := []) w h .int⟩
  · exact h.elim
/-- + of ints, texts, lists, tuples -/
def rAddU (K : Frag) : R2 := fun x y H Q => rI0 (fun i j => .int (i + j)) x y H Q ∨ (∃ i j, x = .str i ∧ y = .str j ∧ i.length + j.length ≤ sizeLine ∧ Q (.str (i ++ j)) H) ∨ rCat x y H Q ∨ rCatA K x y H Q
theorem op_addU {X : Cx} : OpR X (binaryOp .Add) (rAddU X.K) := fun pins s σ H x y v u Q I rx ry h => by
  rcases h with h | h | h | h
  · exact op_add pins s σ H x y v u Q I rx ry h
  · exact op_add_str pins s σ H x y v u Q I rx ry h
  · exact op_cat pins s σ H x y v u Q I rx ry h
  · exact op_catA pins s σ H x y v u Q I rx ry h
def fCatF (a b : O) : QR O := match lstO a, lstO b with
  | some ds, some es => if ds.length + es.length ≤ sizeLine then .ok (.ol (ds ++ es)) else .bad
  | _, _ => .bad
def fAdd : List O → QR O
  | [.val (.int i), .val (.int j)] => .ok (.val (.int (i + j)))
  | [.val (.str i), .val (.str j)] => if i.length + j.length ≤ sizeLine then .ok (.val (.str (i ++ j))) else .bad
  | [.val (.tup ds), .val (.tup es)] => if ds.length + es.length ≤ sizeLine then .ok (.val (.tup (ds ++ es))) else .bad
  | [a, b] => frzR (fCatF a b)
  | _ => .bad
theorem s_catF {ρ : Rho} {S H : Hp} {a b : O} {v v2 : V} {p p2 : Path} {Q : V → Hp → Prop} (w : Wf ρ S H) (h1 : Ow K ρ S H a v p) (h2 : Ow K ρ S H b v2 p2) (h : RFPost K ρ S H Q (fCatF a b)) : rCat v v2 H Q := by
  unfold fCatF at h
  cases ea : lstO a with
  | none => rw [ea] at h; exact h.elim
  | some ds =>
    cases eb : lstO b with
    | none => rw [ea, eb] at h; exact h.elim
    | some es =>
      rw [ea, eb] at h
      have h' : RFPost K ρ S H Q (if ds.length + es.length ≤ sizeLine then .ok (.ol (ds ++ es)) else .bad) := h
      obtain ⟨l, xs, rfl, q1, q2⟩ := lstO_ok w h1 ea
      obtain ⟨m, zs, rfl, q3, q4⟩ := lstO_ok w h2 eb
      by_cases c : ds.length + es.length ≤ sizeLine
      · rw [if_pos c] at h'
        exact ⟨l, m, xs, zs, rfl, rfl, q1, q3, by rw [← q2.len, ← q4.len]; exact c, fun a ha => RFPost.lst w ha h' (q2.app q4)⟩
      · rw [if_neg c] at h'; exact h'.elim
def fCat2 : List O → QR O
  | [a, b] => fCatF a b
  | _ => .bad
theorem s_addF : SimRF K (r2l (rAddU K)) fCat2 := fun ρ S H os vs Q w wa h => by
  unfold fCat2 at h
  split at h
  · rename_i a b
    obtain ⟨v, p, v2, p2, rfl, h1, h2⟩ := wa.two
    exact .inr (.inr (.inl (s_catF w h1 h2 h)))
  · exact h.elim
theorem RPost.unfrz {ρ : Rho} {S H : Hp} {Q : V → Hp → Prop} {r : QR O} (h : RPost K ρ S H Q (frzR r)) : RFPost K ρ S H Q r := by
  cases r with
  | bad => exact h
  | ok o =>
    intro S' H' v ρ2 q ex n wf w2
    exact h (VL.frS S' H' ρ2) H' v [] (q.frS wf n) (frS_in ex) (by unfold Ow; exact w2.frzT wf)
theorem s_add : SimR K (r2l (rAddU K)) fAdd := fun ρ S H os vs Q w wa h => by
  unfold fAdd at h
  split at h
  · rename_i i j
    obtain ⟨v, p, v2, p2, rfl, h1, h2⟩ := wa.two
    cases intO h1; cases intO h2
    exact .inl ⟨i, j, rfl, rfl, RPost.now (p := []) w h .int⟩
  · rename_i i j
    obtain ⟨v, p, v2, p2, rfl, h1, h2⟩ := wa.two
    cases strO h1; cases strO h2
    split at h
    · exact .inr (.inl ⟨i, j, rfl, rfl, by assumption, RPost.now (p := []) w h .str⟩)
    · exact h.elim
  · rename_i ds es
    obtain ⟨v, p, v2, p2, rfl, h1, h2⟩ := wa.two
    obtain ⟨a, xs, rfl, q1, q2⟩ := tupO_ok w h1 rfl
    obtain ⟨b, ys, rfl, q3, q4⟩ := tupO_ok w h2 rfl
    split at h
    · rename_i c
      refine .inr (.inr (.inr ⟨a, b, xs, ys, rfl, rfl, SqT.of q1, SqT.of q3, by rw [← q2.len, ← q4.len]; exact c, fun e => ?_, fun _ e => ?_, fun _ _ a' ha => RPost.tup w ha h (q2.app q4)⟩))
      · have e' : ds = [] := List.eq_nil_of_length_eq_zero (by rw [q2.len, e]; rfl)
        subst e'
        exact RPost.now w h h2
      · have e' : es = [] := List.eq_nil_of_length_eq_zero (by rw [q4.len, e]; rfl)
        subst e'
        rw [List.append_nil] at h
        exact RPost.now w h h1
    · exact h.elim
  · rename_i a b _ _ _
    obtain ⟨v, p, v2, p2, rfl, h1, h2⟩ := wa.two
    exact .inr (.inr (.inl (s_catF w h1 h2 (RPost.unfrz h))))
  · exact h.elim

/-! ### data, compared -/
mutual
def pyD : D → Option PyData
  | .non => some .none
  | .bl b => some (.bool b)
  | .int i => some (.int i)
  | .str x => some (.str x)
  | .tup ds => (pyL ds).map PyData.tuple
  | .lst ds => (pyL ds).map PyData.list
  | .rd ds => (pyL ds).map PyData.list
  | .dic _ _ => none
  | .obj _ _ _ => none
  | .ty _ => none
  | .hid => none
def pyL : List D → Option (List PyData)
  | [] => some []
  | d :: ds => (pyD d).bind fun x => (pyL ds).map fun xs => x :: xs
end
mutual
theorem pyD_ok {ρ : Rho} {S H : Hp} (w : Ex S H) : ∀ {d : D} {v : V} {x : PyData}, Fz K S d v → pyD d = some x → Dp K H v x
  | .non, _, _, h, e => by unfold Fz at h; unfold pyD at e; cases e; subst h; exact .non
  | .bl _, _, _, h, e => by unfold Fz at h; unfold pyD at e; cases e; subst h; exact .bl _
  | .int _, _, _, h, e => by unfold Fz at h; unfold pyD at e; cases e; subst h; exact .int _
  | .str _, _, _, h, e => by unfold Fz at h; unfold pyD at e; cases e; subst h; exact .str _
  | .tup _, _, _, h, e => by
    unfold Fz at h; unfold pyD at e
    obtain ⟨a, vs, rfl, h1, h2⟩ := h
    obtain ⟨xs, e1, rfl⟩ := Option.map_eq_some_iff.mp e
    exact .tup (SqT.of (w _ _ h1)) (pyL_ok (ρ := ρ) w h2 e1)
  | .lst _, _, _, h, e => by
    unfold Fz at h; unfold pyD at e
    obtain ⟨a, vs, rfl, h1, h2⟩ := h
    obtain ⟨xs, e1, rfl⟩ := Option.map_eq_some_iff.mp e
    exact .lst (SqL.of (w _ _ h1)) (pyL_ok (ρ := ρ) w h2 e1)
  | .rd _, _, _, h, e => by
    unfold Fz at h; unfold pyD at e
    obtain ⟨a, vs, rfl, h1, h2⟩ := h
    obtain ⟨xs, e1, rfl⟩ := Option.map_eq_some_iff.mp e
    exact .lst (w.sqL h1) (pyL_ok (ρ := ρ) w h2 e1)
  | .dic _ _, _, _, h, e => by unfold pyD at e; cases e
  | .obj _ _ _, _, _, h, e => by unfold pyD at e; cases e
  | .ty _, _, _, h, e => by unfold pyD at e; cases e
  | .hid, _, _, h, e => by unfold pyD at e; cases e
theorem pyL_ok {ρ : Rho} {S H : Hp} (w : Ex S H) : ∀ {ds : List D} {vs : List V} {xs : List PyData}, FzL K S ds vs → pyL ds = some xs → DpAll K H vs xs
  | [], _, _, h, e => by unfold FzL at h; unfold pyL at e; cases e; subst h; exact .nil
  | _ :: _, _, _, h, e => by
    unfold FzL at h; unfold pyL at e
    obtain ⟨v, vs', rfl, h1, h2⟩ := h
    obtain ⟨x, e1, e2⟩ := Option.bind_eq_some_iff.mp e
    obtain ⟨xs, e3, rfl⟩ := Option.map_eq_some_iff.mp e2
    exact .cons (pyD_ok (ρ := ρ) w h1 e1) (pyL_ok (ρ := ρ) w h2 e3)
end
/-! an operand as data; what the frame owns, too -/
mutual
def pyO : O → Option PyData
  | .val d => pyD d
  | .ol ds => (pyL ds).map PyData.list
  | .nl os => (pyOs os).map PyData.list
  | .nt os => (pyOs os).map PyData.tuple
  | .od _ _ => none
  | .nd _ _ => none
  | .ob _ _ _ => none
def pyOs : List O → Option (List PyData)
  | [] => some []
  | o :: os => (pyO o).bind fun x => (pyOs os).map fun xs => x :: xs
end
mutual
theorem pyO_ok {ρ : Rho} {S H : Hp} (w : Wf ρ S H) : ∀ {o : O} {v : V} {p : Path} {x : PyData}, Ow K ρ S H o v p → pyO o = some x → Dp K H v x
  | .val d, _, _, _, h, e => by unfold Ow at h; unfold pyO at e; exact pyD_ok (ρ := ρ) w.ex h e
  | .ol ds, _, _, _, h, e => by
    unfold Ow at h; unfold pyO at e
    obtain ⟨a, vs, rfl, _, h1, h2⟩ := h
    obtain ⟨xs, e1, rfl⟩ := Option.map_eq_some_iff.mp e
    exact .lst (SqL.of h1) (pyL_ok (ρ := ρ) w.ex h2 e1)
  | .nl os, _, _, _, h, e => by
    unfold Ow at h; unfold pyO at e
    obtain ⟨a, vs, rfl, _, h1, h2⟩ := h
    obtain ⟨xs, e1, rfl⟩ := Option.map_eq_some_iff.mp e
    exact .lst (SqL.of h1) (pyOs_ok w h2 e1)
  | .nt os, _, _, _, h, e => by
    unfold Ow at h; unfold pyO at e
    obtain ⟨a, vs, rfl, _, h1, h2⟩ := h
    obtain ⟨xs, e1, rfl⟩ := Option.map_eq_some_iff.mp e
    exact .tup (SqT.of h1) (pyOs_ok w h2 e1)
  | .od _ _, _, _, _, h, e => by unfold pyO at e; cases e
  | .nd _ _, _, _, _, h, e => by unfold pyO at e; cases e
  | .ob _ _ _, _, _, _, h, e => by unfold pyO at e; cases e
theorem pyOs_ok {ρ : Rho} {S H : Hp} (w : Wf ρ S H) : ∀ {os : List O} {ks : List PK} {vs : List V} {p : Path} {xs : List PyData}, OwZ K ρ S H os ks vs p → pyOs os = some xs → DpAll K H vs xs
  | [], _, _, _, _, h, e => by unfold OwZ at h; unfold pyOs at e; cases e; obtain ⟨_, rfl⟩ := h; exact .nil
  | _ :: _, _, _, _, _, h, e => by
    unfold OwZ at h; unfold pyOs at e
    obtain ⟨_, _, v, vs', _, rfl, h1, h2⟩ := h
    obtain ⟨x, e1, e2⟩ := Option.bind_eq_some_iff.mp e
    obtain ⟨xs, e3, rfl⟩ := Option.map_eq_some_iff.mp e2
    exact .cons (pyO_ok w h1 e1) (pyOs_ok w h2 e3)
end
def shp (o : O) : Option PyData := (pyO o).bind fun x => if SeqAt.shaped x = true then some x else none
theorem shp_ok {ρ : Rho} {S H : Hp} {o : O} {v : V} {p : Path} {x : PyData} (w : Wf ρ S H) (h : Ow K ρ S H o v p) (e : shp o = some x) : Dp K H v x ∧ SeqAt.shaped x = true := by
  obtain ⟨y, e1, e2⟩ := Option.bind_eq_some_iff.mp e
  by_cases c : SeqAt.shaped y = true
  · rw [if_pos c] at e2; cases e2
    exact ⟨pyO_ok w h e1, c⟩
  · rw [if_neg c] at e2; cases e2
def fEq (g : Bool → Bool) : List O → QR O
  | [a, b] => match shp a, shp b with
    | some x, some y => .ok (.val (.bl (g (PyData.eqv x y))))
    | _, _ => .bad
  | _ => .bad
theorem s_eqG {g : Bool → Bool} {r : R2} (hr : ∀ {x y H Q d e}, Dp K H x d → Dp K H y e → SeqAt.shaped d = true → SeqAt.shaped e = true → Q (.bl (g (PyData.eqv d e))) H → r x y H Q) : SimR K (r2l r) (fEq g) := fun ρ S H os vs Q w wa h => by
  unfold fEq at h
  split at h
  · rename_i a b
    obtain ⟨v, p, v2, p2, rfl, h1, h2⟩ := wa.two
    cases ea : shp a with
    | none => rw [ea] at h; exact h.elim
    | some x =>
      cases eb : shp b with
      | none => rw [ea, eb] at h; exact h.elim
      | some y =>
        rw [ea, eb] at h
        obtain ⟨q1, q2⟩ := shp_ok w h1 ea
        obtain ⟨q3, q4⟩ := shp_ok w h2 eb
        exact hr q1 q3 q2 q4 (RPost.now (p := []) w h .bl)
  · exact h.elim
theorem s_eq : SimR K (r2l (rEqD K)) (fEq id) := s_eqG fun a b c d q => ⟨_, _, a, b, c, d, q⟩
theorem s_ne : SimR K (r2l (rNeD K)) (fEq not) := s_eqG fun a b c d q => ⟨_, _, a, b, c, d, q⟩
/-- in: a list, a tuple of flat things, a text -/
def rInU (K : Frag) (neg : Bool) : R2 := fun x y H Q => (if neg then rNotInD K x y H Q else rInD K x y H Q) ∨ rIn K neg x y H Q ∨ (∃ (c : Nat) (z : Str), x = .str ⟨#[c]⟩ ∧ y = .str z ∧ Q (.bl (if neg then !decide (c ∈ z.cps.toList) else decide (c ∈ z.cps.toList))) H)
theorem op_inU {X : Cx} (hu : X.A.units + 65 < cLine) : OpR X (compareOp .In) (rInU X.K false) := fun pins s σ H x y v u Q I rx ry h => by
  rcases h with h | h | h
  · exact op_inD hu pins s σ H x y v u Q I rx ry h
  · exact op_in_seq pins s σ H x y v u Q I rx ry h
  · exact op_in_sign pins s σ H x y v u Q I rx ry h
theorem op_niU {X : Cx} (hu : X.A.units + 65 < cLine) : OpR X (compareOp .NotIn) (rInU X.K true) := fun pins s σ H x y v u Q I rx ry h => by
  rcases h with h | h | h
  · exact op_notInD hu pins s σ H x y v u Q I rx ry h
  · exact op_notIn_seq pins s σ H x y v u Q I rx ry h
  · exact op_notIn_sign pins s σ H x y v u Q I rx ry h
def ngB (neg b : Bool) : Bool := if neg then !b else b
def flD : D → Bool
  | .non | .bl _ | .int _ | .str _ => true
  | _ => false
def toV : D → V
  | .bl b => .bl b
  | .int i => .int i
  | .str x => .str x
  | _ => .non
theorem flat_fz {S : Hp} {d : D} {v : V} (h : Fz K S d v) (f : flD d = true) : v = toV d ∧ flatV v = true := by
  cases d with
  | non => unfold Fz at h; subst h; exact ⟨rfl, rfl⟩
  | bl b => unfold Fz at h; subst h; exact ⟨rfl, rfl⟩
  | int b => unfold Fz at h; subst h; exact ⟨rfl, rfl⟩
  | str b => unfold Fz at h; subst h; exact ⟨rfl, rfl⟩
  | _ => cases f
theorem flat_fzL {S : Hp} : ∀ {ds : List D} {vs : List V}, FzL K S ds vs → ds.all flD = true → vs = ds.map toV ∧ vs.all flatV = true
  | [], _, h, _ => by rw [h.unnil]; exact ⟨rfl, rfl⟩
  | d :: ds, _, h, f => by
    obtain ⟨v, vs', rfl, h1, h2⟩ := h.uncons
    rw [List.all_cons, Bool.and_eq_true_iff] at f
    obtain ⟨e1, e2⟩ := flat_fz h1 f.1
    obtain ⟨e3, e4⟩ := flat_fzL h2 f.2
    exact ⟨by rw [e1, e3]; rfl, by rw [List.all_cons, e2, e4]; rfl⟩
def fIn (neg : Bool) : List O → QR O
  | [.val d, .val (.tup ds)] => if (flD d && ds.all flD) = true then .ok (.val (.bl (ngB neg (inV (toV d) (ds.map toV))))) else .bad
  | [.val (.str x), .val (.str z)] => match x.cps.toList with
    | [c] => .ok (.val (.bl (ngB neg (decide (c ∈ z.cps.toList)))))
    | _ => .bad
  | [a, b] => match shp a, shp b with
    | some x, some (.list ys) => .ok (.val (.bl (ngB neg (ys.any fun z => PyData.eqv z x))))
    | _, _ => .bad
  | _ => .bad
theorem s_in {neg : Bool} : SimR K (r2l (rInU K neg)) (fIn neg) := fun ρ S H os vs Q w wa h => by
  unfold fIn at h
  split at h
  · rename_i d ds
    obtain ⟨v, p, v2, p2, rfl, h1, h2⟩ := wa.two
    split at h
    · rename_i f
      rw [Bool.and_eq_true_iff] at f
      unfold Ow at h1
      obtain ⟨e1, e2⟩ := flat_fz h1 f.1
      obtain ⟨b, ys, rfl, q3, q4⟩ := tupO_ok w h2 rfl
      obtain ⟨e3, e4⟩ := flat_fzL q4 f.2
      refine .inr (.inl ⟨b, ys, rfl, .inr (SqT.of q3), e2, e4, ?_⟩)
      rw [e1, e3]
      exact RPost.now (p := []) w h .bl
    · exact h.elim
  · rename_i x z
    obtain ⟨v, p, v2, p2, rfl, h1, h2⟩ := wa.two
    cases strO h1; cases strO h2
    split at h
    · rename_i c e
      have e' : x = ⟨#[c]⟩ := by
        obtain ⟨⟨l⟩⟩ := x
        have : l = [c] := e
        subst this; rfl
      subst e'
      exact .inr (.inr ⟨c, z, rfl, rfl, RPost.now (p := []) w h .bl⟩)
    · exact h.elim
  · rename_i a b _ _
    obtain ⟨v, p, v2, p2, rfl, h1, h2⟩ := wa.two
    cases ea : shp a with
    | none => rw [ea] at h; exact h.elim
    | some x =>
      cases eb : shp b with
      | none => rw [ea, eb] at h; exact h.elim
      | some y =>
        rw [ea, eb] at h
        cases y with
        | list ys =>
          obtain ⟨q1, q2⟩ := shp_ok w h1 ea
          obtain ⟨q3, q4⟩ := shp_ok w h2 eb
          have q := RPost.now (p := []) w h .bl
          refine .inl ?_
          cases neg with
          | true => exact ⟨x, ys, q1, q3, q2, q4, q⟩
          | false => exact ⟨x, ys, q1, q3, q2, q4, q⟩
        | _ => exact h.elim
  · exact h.elim
/-- is None, is not None: the right side is None -/
def fIsN (g : Bool → Bool) : List O → QR O
  | [.val d, .val .non] => .ok (.val (.bl (g (match d with | .non => true | _ => false))))
  | [_, .val .non] => .ok (.val (.bl (g false)))
  | _ => .bad
theorem isN_of {ρ : Rho} {S H : Hp} {o : O} {v : V} {p : Path} (h : Ow K ρ S H o v p) : decide (v = V.non) = (match o with | .val .non => true | _ => false) := by
  cases o with
  | val d =>
    unfold Ow at h
    cases d with
    | non => unfold Fz at h; subst h; rfl
    | bl _ => unfold Fz at h; subst h; rfl
    | int _ => unfold Fz at h; subst h; rfl
    | str _ => unfold Fz at h; subst h; rfl
    | ty _ => unfold Fz at h; subst h; rfl
    | tup _ => unfold Fz at h; obtain ⟨_, _, rfl, _⟩ := h; rfl
    | lst _ => unfold Fz at h; obtain ⟨_, _, rfl, _⟩ := h; rfl
    | rd _ => unfold Fz at h; obtain ⟨_, _, rfl, _⟩ := h; rfl
    | dic _ _ => unfold Fz at h; obtain ⟨_, _, _, rfl, _⟩ := h; rfl
    | obj _ _ _ => unfold Fz at h; obtain ⟨_, _, _, rfl, _⟩ := h; rfl
    | hid => unfold Fz at h; obtain ⟨_, rfl⟩ := h; rfl
  | ol _ => unfold Ow at h; obtain ⟨_, _, rfl, _⟩ := h; rfl
  | od _ _ => unfold Ow at h; obtain ⟨_, _, _, rfl, _⟩ := h; rfl
  | nl _ => unfold Ow at h; obtain ⟨_, _, rfl, _⟩ := h; rfl
  | nd _ _ => unfold Ow at h; obtain ⟨_, _, _, rfl, _⟩ := h; rfl
  | ob _ _ _ => unfold Ow at h; obtain ⟨_, _, _, rfl, _⟩ := h; rfl
  | nt _ => unfold Ow at h; obtain ⟨_, _, rfl, _⟩ := h; rfl
theorem s_isNG {g : Bool → Bool} : SimR K (r2l (fun x y H Q => y = .non ∧ Q (.bl (g (decide (x = .non)))) H)) (fIsN g) := fun ρ S H os vs Q w wa h => by
  unfold fIsN at h
  split at h
  · rename_i d
    obtain ⟨v, p, v2, p2, rfl, h1, h2⟩ := wa.two
    cases nonO h2
    refine ⟨rfl, ?_⟩
    rw [isN_of h1]
    cases d <;> exact RPost.now (p := []) w h .bl
  · rename_i o hn
    obtain ⟨v, p, v2, p2, rfl, h1, h2⟩ := wa.two
    cases nonO h2
    refine ⟨rfl, ?_⟩
    rw [isN_of h1]
    cases o with
    | val d => exact (hn d rfl).elim
    | _ => exact RPost.now (p := []) w h .bl
  · exact h.elim
theorem s_isN : SimR K (r2l (fun x y H Q => y = .non ∧ Q (.bl (decide (x = .non))) H)) (fIsN id) := s_isNG (g := id)
theorem s_notN : SimR K (r2l (fun x y H Q => y = .non ∧ Q (.bl (!decide (x = .non))) H)) (fIsN not) := s_isNG (g := not)
/-- order: ints; tuples of ints -/
def intsD : List D → Option (List Int)
  | [] => some []
  | .int i :: ds => (intsD ds).map (i :: ·)
  | _ => none
theorem intsD_eq : ∀ {ds : List D} {ns : List Int}, intsD ds = some ns → ds = ns.map D.int
  | [], _, h => by cases h; rfl
  | .int i :: ds, ns, h => by
    obtain ⟨ms, e, rfl⟩ := Option.map_eq_some_iff.mp (show (intsD ds).map (i :: ·) = some ns from h)
    rw [intsD_eq e]; rfl
  | .non :: _, _, h => nomatch (show none = some _ from h)
  | .bl _ :: _, _, h => nomatch (show none = some _ from h)
  | .str _ :: _, _, h => nomatch (show none = some _ from h)
  | .ty _ :: _, _, h => nomatch (show none = some _ from h)
  | .tup _ :: _, _, h => nomatch (show none = some _ from h)
  | .lst _ :: _, _, h => nomatch (show none = some _ from h)
  | .rd _ :: _, _, h => nomatch (show none = some _ from h)
  | .dic _ _ :: _, _, h => nomatch (show none = some _ from h)
  | .obj _ _ _ :: _, _, h => nomatch (show none = some _ from h)
theorem intsD_map (ns : List Int) : intsD (ns.map D.int) = some ns := by
  induction ns with
  | nil => rfl
  | cons n ns ih => show (intsD (ns.map D.int)).map (n :: ·) = _; rw [ih]; rfl
end
end VL
set_option maxRecDepth 100000
set_option maxHeartbeats 4000000
/-! V5: order, sequences, built-ins, what is walked -/
namespace VL
open PySem L2
section
variable {K : Frag}
def leL (ns ms : List Int) : Bool := !HT.lexLt ms ns
theorem lexAt_shift {e r : Nat → Bool} {z : Bool} : ∀ (k i : Nat), Ob.lexAt e r z (i + 1) k = Ob.lexAt (fun j => e (j + 1)) (fun j => r (j + 1)) z i k
  | 0, _ => rfl
  | k + 1, i => by
    rw [Ob.lexAt_succ, Ob.lexAt_succ, lexAt_shift k (i + 1)]
theorem lexAt_le : ∀ (ns ms : List Int), Ob.lexAt (fun j => decide (ns.getD j 0 = ms.getD j 0)) (fun j => decide (ns.getD j 0 ≤ ms.getD j 0)) (decide (ns.length ≤ ms.length)) 0 (min ns.length ms.length) = leL ns ms
  | [], [] => rfl
  | [], _ :: _ => by simp [Ob.lexAt_zero, leL, HT.lexLt]
  | _ :: _, [] => by simp [Ob.lexAt_zero, leL, HT.lexLt]
  | x :: xs, y :: ys => by
    have e : min (x :: xs).length (y :: ys).length = min xs.length ys.length + 1 := by simp
    rw [e, Ob.lexAt_succ, lexAt_shift]
    have ih := lexAt_le xs ys
    have e2 : decide ((x :: xs).length ≤ (y :: ys).length) = decide (xs.length ≤ ys.length) := by simp
    rw [e2]
    unfold leL at ih ⊢
    rw [HT.lexLt_cons]
    show (if decide (x = y) = true then Ob.lexAt (fun j => decide (xs.getD j 0 = ys.getD j 0)) (fun j => decide (xs.getD j 0 ≤ ys.getD j 0)) (decide (xs.length ≤ ys.length)) 0 (min xs.length ys.length) else decide (x ≤ y)) = _
    rw [ih]
    by_cases h : x = y
    · subst h; simp
    · rw [if_neg (by simpa using h), if_neg (fun z => h z.symm)]
      by_cases h2 : x ≤ y
      · rw [decide_eq_true h2, decide_eq_false (by omega)]; rfl
      · rw [decide_eq_false h2, decide_eq_true (by omega)]; rfl
def rLtU (K : Frag) : R2 := fun x y H Q => rI0 (fun i j => .bl (decide (i < j))) x y H Q ∨ rLtT K x y H Q
def rLeU (K : Frag) : R2 := fun x y H Q => rI0 (fun i j => .bl (decide (i ≤ j))) x y H Q ∨ rLeT K x y H Q
theorem op_ltU {X : Cx} (hu : X.A.units < cLine) : OpR X (compareOp .Lt) (rLtU X.K) := fun pins s σ H x y v u Q I rx ry h => by
  rcases h with h | h
  · exact op_lt pins s σ H x y v u Q I rx ry h
  · exact op_ltT hu pins s σ H x y v u Q I rx ry h
theorem op_leU {X : Cx} (hu : X.A.units < cLine) : OpR X (compareOp .LtE) (rLeU X.K) := fun pins s σ H x y v u Q I rx ry h => by
  rcases h with h | h
  · exact op_le pins s σ H x y v u Q I rx ry h
  · exact op_leT hu pins s σ H x y v u Q I rx ry h
def fOrd (g : Int → Int → Bool) (gt : List Int → List Int → Bool) : List O → QR O
  | [.val (.int i), .val (.int j)] => .ok (.val (.bl (g i j)))
  | [.val (.tup ds), .val (.tup es)] => match intsD ds, intsD es with
    | some ns, some ms => .ok (.val (.bl (gt ns ms)))
    | _, _ => .bad
  | _ => .bad
theorem s_ord {g : Int → Int → Bool} {gt : List Int → List Int → Bool} {r : R2} (h1 : ∀ {i j H Q}, Q (.bl (g i j)) H → r (.int i) (.int j) H Q)
    (h2 : ∀ {a b ns ms H Q}, SqT K H a (ns.map V.int) → SqT K H b (ms.map V.int) → Q (.bl (gt ns ms)) H → r (.ref a) (.ref b) H Q) : SimR K (r2l r) (fOrd g gt) := fun ρ S H os vs Q w wa h => by
  unfold fOrd at h
  split at h
  · rename_i i j
    obtain ⟨v, p, v2, p2, rfl, w1, w2⟩ := wa.two
    cases intO w1; cases intO w2
    exact h1 (RPost.now (p := []) w h .bl)
  · rename_i ds es
    obtain ⟨v, p, v2, p2, rfl, w1, w2⟩ := wa.two
    obtain ⟨a, xs, rfl, q1, q2⟩ := tupO_ok w w1 rfl
    obtain ⟨b, ys, rfl, q3, q4⟩ := tupO_ok w w2 rfl
    cases ea : intsD ds with
    | none => rw [ea] at h; exact h.elim
    | some ns =>
      cases eb : intsD es with
      | none => rw [ea, eb] at h; exact h.elim
      | some ms =>
        rw [ea, eb] at h
        rw [intsD_eq ea] at q2
        rw [intsD_eq eb] at q4
        rw [FzL.ints] at q2 q4
        subst q2 q4
        exact h2 (SqT.of q1) (SqT.of q3) (RPost.now (p := []) w h .bl)
  · exact h.elim
def fLt := fOrd (fun i j => decide (i < j)) HT.lexLt
def fLe := fOrd (fun i j => decide (i ≤ j)) leL
def fGt := fI0 fun i j => .bl (decide (j < i))
def fGe := fI0 fun i j => .bl (decide (j ≤ i))
theorem s_lt : SimR K (r2l (rLtU K)) fLt := s_ord (fun q => .inl ⟨_, _, rfl, rfl, q⟩) fun a b q => .inr ⟨_, _, _, _, rfl, rfl, a, b, q⟩
theorem s_le : SimR K (r2l (rLeU K)) fLe := s_ord (fun q => .inl ⟨_, _, rfl, rfl, q⟩) fun a b q => .inr ⟨_, _, _, _, rfl, rfl, a, b, by rw [lexAt_le]; exact q⟩
theorem s_gt : SimR K (r2l (rI0 fun i j => .bl (decide (j < i)))) fGt := sim_I0 fun _ _ => fz_bl
theorem s_ge : SimR K (r2l (rI0 fun i j => .bl (decide (j ≤ i)))) fGe := sim_I0 fun _ _ => fz_bl

/-! ### chains -/
variable {W : WX} {te tb tc : TE} {x y z : VX}
/-- a op b op' c -/
def chn (f f' : List O → QR O) (z : VX) (a b : O) (σ2 : VS) : XR O := if (a.isVal && b.isVal) = true then (match f [a, b] with
      | .ok (.val (.bl k)) => if k = true then (match z.f σ2 with
          | .ok c σ3 => (match f' [b, c] with
            | .ok o => .ok o σ3
            | .bad => .bad)
          | .err e σ3 => .err e σ3
          | .bad => .bad) else .ok (.val (.bl false)) σ2
      | _ => .bad) else .bad
def vChain (f f' : List O → QR O) (x y z : VX) : VX := ⟨x.q && (y.q && z.q), fun σ => match x.f σ with
  | .ok a σ1 => (match y.f σ1 with
    | .ok b σ2 => chn f f' z a b σ2
    | .err e σ2 => .err e σ2
    | .bad => .bad)
  | .err e σ1 => .err e σ1
  | .bad => .bad⟩
theorem OwA.mk1 {ρ : Rho} {S H : Hp} {o : O} {v : V} {p : Path} (h : Ow K ρ S H o v p) : OwA K ρ S H [o] [v] := ⟨v, [], rfl, ⟨p, h⟩, rfl⟩
theorem OwA.mk2 {ρ : Rho} {S H : Hp} {o o2 : O} {v v2 : V} {p p2 : Path} (h : Ow K ρ S H o v p) (h2 : Ow K ρ S H o2 v2 p2) : OwA K ρ S H [o, o2] [v, v2] := ⟨v, [v2], rfl, ⟨p, h⟩, .mk1 h2⟩
theorem Ow.grwVal {ρ ρ' : Rho} {S H S' H' : Hp} {o : O} {v : V} {p : Path} (g : Grw ρ S H ρ' S' H') (h : Ow K ρ S H o v p) (e : o.isVal = true) : Ow K ρ' S' H' o v p := by
  cases o with
  | val d => unfold Ow at *; exact h.mono g.s
  | _ => cases e
theorem sim_chain {r r' : R2} {f f' : List O → QR O} (hr : SimR K (r2l r) f) (hr' : SimR K (r2l r') f') (hx : SimX K W te x) (hy : SimX K W tb y) (hz : SimX K W tc z) : SimX K W (tChain r r' te tb tc) (vChain f f' x y z) := fun ρ pv S H σV σ Q s h => by
  refine hx ρ pv S H σV σ _ s ?_
  have h' : XPost K W ρ pv S H σ (x.q && (y.q && z.q)) σV Q ((vChain f f' x y z).f σV) := h
  unfold vChain at h'
  dsimp only at h'
  cases e : x.f σV with
  | bad => rw [e] at h'; exact h'
  | err c σ1 => rw [e] at h'; exact h'
  | ok a σ1 =>
    rw [e] at h'; dsimp only at h'
    intro ρ1 S1 H1 v1 p1 g1 s1 w1 q1
    refine hy ρ1 pv S1 H1 σ1 σ _ s1 ?_
    cases e2 : y.f σ1 with
    | bad => rw [e2] at h'; exact h'
    | err c σ2 => rw [e2] at h'; exact fun ρ2 S2 H2 g2 s2 => h' ρ2 S2 H2 (g1.trans g2) s2
    | ok b σ2 =>
      rw [e2] at h'; dsimp only at h'
      intro ρ2 S2 H2 v2 p2 g2 s2 w2 q2
      unfold chn at h'
      cases hv : (a.isVal && b.isVal) with
      | false => rw [hv] at h'; exact h'.elim
      | true =>
        rw [hv] at h'; simp only [if_true] at h'
        obtain ⟨va, vb⟩ := Bool.and_eq_true_iff.mp hv
        have w1' := w1.grwVal g2 va
        refine hr ρ2 S2 H2 [a, b] [v1, v2] _ s2.w (.mk2 w1' w2) ?_
        have qq : (x.q && (y.q && z.q)) = true → (x.q = true ∧ y.q = true) ∧ z.q = true := fun z => by
          simp only [Bool.and_eq_true] at z; exact ⟨⟨z.1, z.2.1⟩, z.2.2⟩
        have q12 : (x.q = true ∧ y.q = true) → ρ2 = ρ ∧ σ2 = σV ∧ Quiet S H S2 H2 := fun z => by
          obtain ⟨a1, a2, a3⟩ := q1 z.1
          obtain ⟨b1, b2, b3⟩ := q2 z.2
          exact ⟨b1.trans a1, b2.trans a2, a3.trans b3⟩
        cases e3 : f [a, b] with
        | bad => rw [e3] at h'; exact h'.elim
        | ok o =>
          rw [e3] at h'
          split at h'
          · rename_i k ek
            cases ek
            intro S3 H3 v3 p3 q3 ex3 w3
            cases blO w3
            refine ⟨k, rfl, ?_⟩
            have s3 := s2.quiet q3 ex3
            cases k with
            | false =>
              exact h' ρ2 S3 H3 _ [] ((g1.trans g2).trans q3.grw) s3 .bl fun z => by
                obtain ⟨a1, a2, a3⟩ := q12 (qq z).1
                exact ⟨a1, a2, a3.trans q3⟩
            | true =>
              simp only [if_true] at h' ⊢
              refine hz ρ2 pv S3 H3 σ2 σ _ s3 ?_
              cases e4 : z.f σ2 with
              | bad => rw [e4] at h'; exact h'
              | err c σ3 => rw [e4] at h'; exact fun ρ4 S4 H4 g4 s4 => h' ρ4 S4 H4 (((g1.trans g2).trans q3.grw).trans g4) s4
              | ok c σ3 =>
                rw [e4] at h'; dsimp only at h'
                intro ρ4 S4 H4 v4 p4 g4 s4 w4 q4
                have w2' := (w2.quiet s2.w q3).grwVal g4 vb
                refine hr' ρ4 S4 H4 [b, c] [v2, v4] Q s4.w (.mk2 w2' w4) ?_
                cases e5 : f' [b, c] with
                | bad => rw [e5] at h'; exact h'.elim
                | ok o' =>
                  rw [e5] at h'; dsimp only at h'
                  intro S5 H5 v5 p5 q5 ex5 w5
                  refine h' ρ4 S5 H5 v5 p5 ((((g1.trans g2).trans q3.grw).trans g4).trans q5.grw) (s4.quiet q5 ex5) w5 fun z => ?_
                  obtain ⟨a1, a2, a3⟩ := q12 (qq z).1
                  obtain ⟨b1, b2, b3⟩ := q4 (qq z).2
                  exact ⟨b1.trans a1, b2.trans a2, ((a3.trans q3).trans b3).trans q5⟩
          · exact h'.elim
/-- .. as a test -/
theorem tTest_chain {r r' : R2} : (fun σ H (Q : Bool → Hp → Prop) => tChain r r' te tb tc σ H fun v H' => ∃ k, v = .bl k ∧ Q k H') = tTest (tChain r r' te tb tc) := rfl

/-! ### sequences -/
def fIx : List O → QR O
  | [s, .val (.int i)] => match sqO s with
    | some ds => (match atI ds i with
      | some d => .ok (.val d)
      | none => .bad)
    | none => match tupO s with
      | some ds => (match atI ds i with
        | some d => .ok (.val d)
        | none => .bad)
      | none => match s with
        | .nl os => (match atI os i with
          | some o => .ok o
          | none => .bad)
        | .nt os => (match atI os i with
          | some o => .ok o
          | none => .bad)
        | .val (.str z) => if z.length ≤ sizeLine then (match atI z.cps.toList i with
          | some c => .ok (.val (.str ⟨#[c]⟩))
          | none => .bad) else .bad
        | _ => .bad
  | _ => .bad
theorem FzL.atI {S : Hp} {ds : List D} {vs : List V} {i : Int} {d : D} (h : FzL K S ds vs) (e : L2.atI ds i = some d) : ∃ v, L2.atI vs i = some v ∧ Fz K S d v := by
  unfold L2.atI at e ⊢
  rw [h.len] at e
  cases q : ixN vs.length i with
  | none => rw [q] at e; cases e
  | some j =>
    rw [q] at e
    obtain ⟨v, h1, h2⟩ := h.get (i := j) (d := d) e
    exact ⟨v, h1, h2⟩
theorem OwZ.get {ρ : Rho} {S H : Hp} : ∀ {os : List O} {ks : List PK} {vs : List V} {p : Path} {i : Nat} {o : O}, OwZ K ρ S H os ks vs p → os[i]? = some o → ∃ v k, vs[i]? = some v ∧ ks[i]? = some k ∧ Ow K ρ S H o v (p ++ [k])
  | [], _, _, _, i, o, _, e => by simp at e
  | o1 :: os, _, _, p, i, o, h, e => by
    unfold OwZ at h
    obtain ⟨x, ks', v, vs', rfl, rfl, h3, h4⟩ := h
    cases i with
    | zero =>
      have : o1 = o := by simpa using e
      subst this
      exact ⟨v, x, rfl, rfl, h3⟩
    | succ i => simpa using OwZ.get h4 (i := i) (o := o) (by simpa using e)
theorem s_ix : SimR K (r2l (rIx K)) fIx := fun ρ S H os vs Q w wa h => by
  unfold fIx at h
  split at h
  · rename_i s i
    obtain ⟨v, p, v2, p2, rfl, h1, h2⟩ := wa.two
    cases intO h2
    cases e1 : sqO s with
    | some ds =>
      rw [e1] at h; dsimp only at h
      obtain ⟨a, xs, rfl, q1, q2⟩ := sqO_ok w h1 e1
      cases e2 : atI ds i with
      | none => rw [e2] at h; exact h.elim
      | some d =>
        rw [e2] at h
        obtain ⟨v, e3, f3⟩ := q2.atI e2
        exact .inl ⟨a, xs, i, v, rfl, rfl, q1, e3, RPost.now (p := []) w h (.v f3)⟩
    | none =>
      rw [e1] at h; dsimp only at h
      cases e2 : tupO s with
      | some ds =>
        rw [e2] at h; dsimp only at h
        obtain ⟨a, xs, rfl, q1, q2⟩ := tupO_ok w h1 e2
        cases e2 : atI ds i with
        | none => rw [e2] at h; exact h.elim
        | some d =>
          rw [e2] at h
          obtain ⟨v, e3, f3⟩ := q2.atI e2
          exact .inr (.inl ⟨a, xs, i, v, rfl, rfl, SqT.of q1, e3, RPost.now (p := []) w h (.v f3)⟩)
      | none =>
        rw [e2] at h; dsimp only at h
        split at h
        · rename_i os
          unfold Ow at h1
          obtain ⟨a, xs, rfl, r1, q1, q2⟩ := h1
          cases e3 : atI os i with
          | none => rw [e3] at h; exact h.elim
          | some o =>
            rw [e3] at h
            unfold atI at e3
            cases e4 : ixN os.length i with
            | none => rw [e4] at e3; cases e3
            | some j =>
              rw [e4] at e3
              obtain ⟨u, k, f1, f2, f3⟩ := q2.get (i := j) (o := o) e3
              refine .inl ⟨a, xs, i, u, rfl, rfl, SqL.of q1, ?_, RPost.now w h f3⟩
              unfold atI
              rw [q2.lenK.2, e4]
              exact f1
        · rename_i os
          unfold Ow at h1
          obtain ⟨a, xs, rfl, r1, q1, q2⟩ := h1
          cases e3 : atI os i with
          | none => rw [e3] at h; exact h.elim
          | some o =>
            rw [e3] at h
            unfold atI at e3
            cases e4 : ixN os.length i with
            | none => rw [e4] at e3; cases e3
            | some j =>
              rw [e4] at e3
              obtain ⟨u, k, f1, f2, f3⟩ := q2.get (i := j) (o := o) e3
              refine .inr (.inl ⟨a, xs, i, u, rfl, rfl, SqT.of q1, ?_, RPost.now w h f3⟩)
              unfold atI
              rw [q2.lenK.2, e4]
              exact f1
        · rename_i z
          cases strO h1
          split at h
          · rename_i hz
            cases e3 : atI z.cps.toList i with
            | none => rw [e3] at h; exact h.elim
            | some c => rw [e3] at h; exact .inr (.inr ⟨z, i, c, rfl, rfl, hz, e3, RPost.now (p := []) w h .str⟩)
          · exact h.elim
        · exact h.elim
  · exact h.elim
/-- len -/
def fLen : List O → QR O
  | [.val (.str z)] => if z.length ≤ sizeLine then .ok (.val (.int z.length)) else .bad
  | [.val (.tup ds)] => .ok (.val (.int ds.length))
  | [.val (.lst ds)] => .ok (.val (.int ds.length))
  | [.val (.rd ds)] => .ok (.val (.int ds.length))
  | [.ol ds] => .ok (.val (.int ds.length))
  | [.nl os] => .ok (.val (.int os.length))
  | [.nt os] => .ok (.val (.int os.length))
  | _ => .bad
theorem s_len : SimR K (fun xs H Q => ∃ x n, xs = [x] ∧ LenV K x H n ∧ Q (.int n) H) fLen := fun ρ S H os vs Q w wa h => by
  unfold fLen at h
  split at h
  · rename_i z
    obtain ⟨v, p, rfl, h1⟩ := wa.one
    cases strO h1
    split at h
    · exact ⟨_, z.length, rfl, ⟨by assumption, rfl⟩, RPost.now (p := []) w h .int⟩
    · exact h.elim
  · rename_i ds
    obtain ⟨v, p, rfl, h1⟩ := wa.one
    obtain ⟨a, xs, rfl, q1, q2⟩ := tupO_ok w h1 rfl
    exact ⟨_, ds.length, rfl, .inr ⟨xs, SqT.of q1, q2.len⟩, RPost.now (p := []) w h .int⟩
  · rename_i ds
    obtain ⟨v, p, rfl, h1⟩ := wa.one
    obtain ⟨a, xs, rfl, q1, q2⟩ := sqO_ok w h1 rfl
    exact ⟨_, ds.length, rfl, .inl ⟨xs, q1, q2.len⟩, RPost.now (p := []) w h .int⟩
  · rename_i ds
    obtain ⟨v, p, rfl, h1⟩ := wa.one
    obtain ⟨a, xs, rfl, q1, q2⟩ := sqO_ok w h1 rfl
    exact ⟨_, ds.length, rfl, .inl ⟨xs, q1, q2.len⟩, RPost.now (p := []) w h .int⟩
  · rename_i ds
    obtain ⟨v, p, rfl, h1⟩ := wa.one
    obtain ⟨a, xs, rfl, q1, q2⟩ := sqO_ok w h1 rfl
    exact ⟨_, ds.length, rfl, .inl ⟨xs, q1, q2.len⟩, RPost.now (p := []) w h .int⟩
  · rename_i os
    obtain ⟨v, p, rfl, h1⟩ := wa.one
    unfold Ow at h1
    obtain ⟨a, xs, rfl, r1, q1, q2⟩ := h1
    exact ⟨_, os.length, rfl, .inl ⟨xs, SqL.of q1, q2.lenK.2.symm⟩, RPost.now (p := []) w h .int⟩
  · rename_i os
    obtain ⟨v, p, rfl, h1⟩ := wa.one
    unfold Ow at h1
    obtain ⟨a, xs, rfl, r1, q1, q2⟩ := h1
    exact ⟨_, os.length, rfl, .inr ⟨xs, SqT.of q1, q2.lenK.2.symm⟩, RPost.now (p := []) w h .int⟩
  · exact h.elim
/-- list(x) -/
def anyO (o : O) : Option (List D) := match sqO o with
  | some ds => some ds
  | none => tupO o
theorem anyO_ok {ρ : Rho} {S H : Hp} {o : O} {v : V} {p : Path} {ds : List D} (w : Wf ρ S H) (h : Ow K ρ S H o v p) (e : anyO o = some ds) : ∃ a vs, v = .ref a ∧ (SqL K H a vs ∨ SqT K H a vs) ∧ FzL K S ds vs := by
  unfold anyO at e
  cases e1 : sqO o with
  | some es =>
    rw [e1] at e; cases e
    obtain ⟨a, vs, h1, h2, h3⟩ := sqO_ok w h e1
    exact ⟨a, vs, h1, .inl h2, h3⟩
  | none =>
    rw [e1] at e
    obtain ⟨a, vs, h1, h2, h3⟩ := tupO_ok w h e
    exact ⟨a, vs, h1, .inr (SqT.of h2), h3⟩
def fListF : List O → QR O
  | [o] => match anyO o with
    | some ds => .ok (.ol ds)
    | none => .bad
  | _ => .bad
theorem s_listF : SimRF K (fun xs H Q => ∃ p ys, xs = [.ref p] ∧ (SqL K H p ys ∨ SqT K H p ys) ∧ ∀ l, H l = none → Q (.ref l) (upd H l (.lst ys))) fListF := fun ρ S H os vs Q w wa h => by
  unfold fListF at h
  split at h
  · rename_i o
    obtain ⟨v, p, rfl, h1⟩ := wa.one
    cases e : anyO o with
    | none => rw [e] at h; exact h.elim
    | some ds =>
      rw [e] at h
      obtain ⟨a, xs, rfl, q1, q2⟩ := anyO_ok w h1 e
      exact ⟨a, xs, rfl, q1, fun l hl => RFPost.lst w hl h q2⟩
  · exact h.elim
def fTuple : List O → QR O
  | [o] => match anyO o with
    | some ds => .ok (.val (.tup ds))
    | none => .bad
  | _ => .bad
theorem s_tuple : SimR K (fun xs H Q => ∃ p ys, xs = [.ref p] ∧ ((SqL K H p ys ∧ ∀ l, H l = none → Q (.ref l) (upd H l (.tup ys))) ∨ (SqT K H p ys ∧ Q (.ref p) H))) fTuple := fun ρ S H os vs Q w wa h => by
  unfold fTuple at h
  split at h
  · rename_i o
    obtain ⟨v, p, rfl, h1⟩ := wa.one
    unfold anyO at h
    cases e : sqO o with
    | some ds =>
      rw [e] at h
      obtain ⟨a, xs, rfl, q1, q2⟩ := sqO_ok w h1 e
      exact ⟨a, xs, rfl, .inl ⟨q1, fun l hl => RPost.tup w hl h q2⟩⟩
    | none =>
      rw [e] at h
      cases e2 : tupO o with
      | none => rw [e2] at h; exact h.elim
      | some ds =>
        rw [e2] at h
        obtain ⟨a, xs, rfl, q1, q2⟩ := tupO_ok w h1 e2
        refine ⟨a, xs, rfl, .inr ⟨SqT.of q1, ?_⟩⟩
        have eo : o = .val (.tup ds) := by
          cases o with
          | val d => cases d with
            | tup es => cases e2; rfl
            | _ => cases e2
          | _ => cases e2
        subst eo
        exact RPost.now w h h1
  · exact h.elim
/-- displays -/
def fTup : List O → QR O := fun os => match valsO os with
  | some ds => if ds.length ≤ sizeLine then .ok (.val (.tup ds)) else .bad
  | none => .bad
where valsO : List O → Option (List D)
  | [] => some []
  | .val d :: os => (valsO os).map (d :: ·)
  | _ :: _ => none
theorem valsO_ok {ρ : Rho} {S H : Hp} : ∀ {os : List O} {vs : List V} {ds : List D}, OwA K ρ S H os vs → fTup.valsO os = some ds → FzL K S ds vs
  | [], _, _, h, e => by cases e; cases (show _ = [] from h); exact .nil
  | .val d :: os, _, _, ⟨v, vs', e1, ⟨p, h1⟩, h2⟩, e => by
    obtain ⟨es, e2, rfl⟩ := Option.map_eq_some_iff.mp (show (fTup.valsO os).map (d :: ·) = some _ from e)
    subst e1
    unfold Ow at h1
    exact .cons h1 (valsO_ok h2 e2)
  | .ol _ :: _, _, _, _, e => nomatch (show none = some _ from e)
  | .od _ _ :: _, _, _, _, e => nomatch (show none = some _ from e)
  | .nl _ :: _, _, _, _, e => nomatch (show none = some _ from e)
  | .nd _ _ :: _, _, _, _, e => nomatch (show none = some _ from e)
  | .ob _ _ _ :: _, _, _, _, e => nomatch (show none = some _ from e)
  | .nt _ :: _, _, _, _, e => nomatch (show none = some _ from e)
def fLstF : List O → QR O := fun os => match fTup.valsO os with
  | some ds => if ds.length ≤ sizeLine then .ok (.ol ds) else .bad
  | none => .bad
theorem s_tup : SimR K (fun xs H Q => xs.length ≤ sizeLine ∧ ∀ p, H p = none → Q (.ref p) (upd H p (.tup xs))) fTup := fun ρ S H os vs Q w wa h => by
  unfold fTup at h
  cases e : fTup.valsO os with
  | none => rw [e] at h; exact h.elim
  | some ds =>
    rw [e] at h
    have q := valsO_ok wa e
    have h' : RPost K ρ S H Q (if ds.length ≤ sizeLine then .ok (.val (.tup ds)) else .bad) := h
    by_cases c : ds.length ≤ sizeLine
    · rw [if_pos c] at h'
      exact ⟨q.len ▸ c, fun p hp => RPost.tup w hp h' q⟩
    · rw [if_neg c] at h'; exact h'.elim
theorem s_lstF : SimRF K (fun xs H Q => xs.length ≤ sizeLine ∧ ∀ p, H p = none → Q (.ref p) (upd H p (.lst xs))) fLstF := fun ρ S H os vs Q w wa h => by
  unfold fLstF at h
  cases e : fTup.valsO os with
  | none => rw [e] at h; exact h.elim
  | some ds =>
    rw [e] at h
    have q := valsO_ok wa e
    have h' : RFPost K ρ S H Q (if ds.length ≤ sizeLine then .ok (.ol ds) else .bad) := h
    by_cases c : ds.length ≤ sizeLine
    · rw [if_pos c] at h'
      exact ⟨q.len ▸ c, fun p hp => RFPost.lst w hp h' q⟩
    · rw [if_neg c] at h'; exact h'.elim
theorem sim_tup {ta : TA} {a : AX} (h : SimA K W ta a) : SimX K W (tTup ta) (vApp fTup a) := sim_app h s_tup
theorem sim_lstF {ta : TA} {a : AX} (h : SimA K W ta a) : SimF K W (tLst ta) (vApp fLstF a) := sim_appF h s_lstF
/-- built-ins on ints and lists of ints -/
def f2I (g : Int → Int → Int) : List O → QR O
  | [.val (.int i), .val (.int j)] => .ok (.val (.int (g i j)))
  | _ => .bad
theorem s_2I {g : Int → Int → Int} : SimR K (fun xs H Q => ∃ i j, xs = [V.int i, V.int j] ∧ Q (.int (g i j)) H) (f2I g) := fun ρ S H os vs Q w wa h => by
  rcases two_int wa with ⟨i, j, rfl, rfl⟩ | hn
  · exact ⟨i, j, rfl, RPost.now (p := []) w h .int⟩
  · unfold f2I at h
    split at h
    · rename_i i j; exact (hn i j rfl).elim
    · exact h.elim
def fMax2 := f2I fun i j => if j > i then j else i
def fMin2 := f2I fun i j => if j < i then j else i
def intsO (o : O) : Option (List Int) := (sqO o).bind intsD
theorem intsO_ok {ρ : Rho} {S H : Hp} {o : O} {v : V} {p : Path} {ns : List Int} (w : Wf ρ S H) (h : Ow K ρ S H o v p) (e : intsO o = some ns) : ∃ a, v = .ref a ∧ SqL K H a (ns.map V.int) := by
  obtain ⟨ds, e1, e2⟩ := Option.bind_eq_some_iff.mp e
  obtain ⟨a, vs, h1, h2, h3⟩ := sqO_ok w h e1
  rw [intsD_eq e2, FzL.ints] at h3
  subst h3
  exact ⟨a, h1, h2⟩
def fInts (g : List Int → QR O) : List O → QR O
  | [o] => match intsO o with
    | some ns => g ns
    | none => .bad
  | _ => .bad
def fSum := fInts fun ns => .ok (.val (.int ns.sum))
def mxL : List Int → Int
  | [] => 0
  | n :: ns => ns.foldl max n
def mnL : List Int → Int
  | [] => 0
  | n :: ns => ns.foldl min n
def fMax1 := fInts fun ns => match ns with | [] => .bad | _ => .ok (.val (.int (mxL ns)))
def fMin1 := fInts fun ns => match ns with | [] => .bad | _ => .ok (.val (.int (mnL ns)))
theorem foldl_max (ns : List Int) (n : Int) : (∀ y ∈ n :: ns, y ≤ ns.foldl max n) ∧ ns.foldl max n ∈ n :: ns := by
  induction ns generalizing n with
  | nil => simp
  | cons m ns ih =>
    obtain ⟨h1, h2⟩ := ih (max n m)
    rw [List.foldl_cons]
    refine ⟨fun y hy => ?_, ?_⟩
    · have a := h1 (max n m) List.mem_cons_self
      simp only [List.mem_cons] at hy
      rcases hy with rfl | rfl | hy
      · exact Int.le_trans (Int.le_max_left _ _) a
      · exact Int.le_trans (Int.le_max_right _ _) a
      · exact h1 y (List.mem_cons_of_mem _ hy)
    · simp only [List.mem_cons] at h2 ⊢
      rcases h2 with h2 | h2
      · rw [h2]
        rcases (show max n m = n ∨ max n m = m by omega) with e | e <;> rw [e] <;> simp
      · exact .inr (.inr h2)
theorem foldl_min (ns : List Int) (n : Int) : (∀ y ∈ n :: ns, ns.foldl min n ≤ y) ∧ ns.foldl min n ∈ n :: ns := by
  induction ns generalizing n with
  | nil => simp
  | cons m ns ih =>
    obtain ⟨h1, h2⟩ := ih (min n m)
    rw [List.foldl_cons]
    refine ⟨fun y hy => ?_, ?_⟩
    · have a := h1 (min n m) List.mem_cons_self
      simp only [List.mem_cons] at hy
      rcases hy with rfl | rfl | hy
      · exact Int.le_trans a (Int.min_le_left _ _)
      · exact Int.le_trans a (Int.min_le_right _ _)
      · exact h1 y (List.mem_cons_of_mem _ hy)
    · simp only [List.mem_cons] at h2 ⊢
      rcases h2 with h2 | h2
      · rw [h2]
        rcases (show min n m = n ∨ min n m = m by omega) with e | e <;> rw [e] <;> simp
      · exact .inr (.inr h2)
theorem s_ints {g : List Int → QR O} {r : List V → Hp → VK → Prop} (hr : ∀ {ρ S H a ns Q}, Wf ρ S H → SqL K H a (ns.map V.int) → RPost K ρ S H Q (g ns) → r [.ref a] H Q) : SimR K r (fInts g) := fun ρ S H os vs Q w wa h => by
  unfold fInts at h
  split at h
  · rename_i o
    obtain ⟨v, p, rfl, h1⟩ := wa.one
    cases e : intsO o with
    | none => rw [e] at h; exact h.elim
    | some ns =>
      rw [e] at h
      obtain ⟨a, rfl, q⟩ := intsO_ok w h1 e
      exact hr w q h
  · exact h.elim
theorem s_sum : SimR K (rSum K) fSum := s_ints fun w q h => ⟨_, _, rfl, q, RPost.now (p := []) w h .int⟩
theorem s_max1 : SimR K (rMax K) fMax1 := s_ints fun {ρ S H a ns Q} w q h => by
  cases ns with
  | nil => exact h.elim
  | cons n ns =>
    refine ⟨a, n :: ns, rfl, q, by simp, fun m hm hy => ?_⟩
    obtain ⟨h1, h2⟩ := foldl_max ns n
    have e : m = mxL (n :: ns) := by
      have := hy _ h2; have := h1 m hm
      show m = ns.foldl max n
      omega
    rw [e]
    exact RPost.now (p := []) w h .int
theorem s_min1 : SimR K (rMin K) fMin1 := s_ints fun {ρ S H a ns Q} w q h => by
  cases ns with
  | nil => exact h.elim
  | cons n ns =>
    refine ⟨a, n :: ns, rfl, q, by simp, fun m hm hy => ?_⟩
    obtain ⟨h1, h2⟩ := foldl_min ns n
    have e : m = mnL (n :: ns) := by
      have := hy _ h2; have := h1 m hm
      show m = ns.foldl min n
      omega
    rw [e]
    exact RPost.now (p := []) w h .int
/-- sorted: ints, pairs of ints -/
def srtI (ns : List Int) : List Int := ns.mergeSort fun a b => decide (a ≤ b)
def leP (p q : Int × Int) : Bool := !SrtO.lexB q p
def srtP (ps : List (Int × Int)) : List (Int × Int) := ps.mergeSort leP
theorem leP_iff {p q : Int × Int} : leP p q = true ↔ p.1 < q.1 ∨ (p.1 = q.1 ∧ p.2 ≤ q.2) := by
  unfold leP
  rw [Bool.not_eq_true', SrtO.lexB_no]
  omega
theorem srtI_perm (ns : List Int) : (srtI ns).Perm ns := List.mergeSort_perm _ _
theorem srtI_pw (ns : List Int) : (srtI ns).Pairwise (· ≤ ·) := by
  have h := List.pairwise_mergeSort (le := fun a b : Int => decide (a ≤ b)) (fun a b c h1 h2 => by simp at *; omega) (fun a b => by simp; omega) ns
  exact h.imp fun h => by simpa using h
theorem srtI_uniq {ns ms : List Int} (h : ms.Perm ns) (p : ms.Pairwise (· ≤ ·)) : ms = srtI ns :=
  List.Perm.eq_of_pairwise (fun a b _ _ h1 h2 => Int.le_antisymm h1 h2) p (srtI_pw ns) (h.trans (srtI_perm ns).symm)
theorem srtP_perm (ns : List (Int × Int)) : (srtP ns).Perm ns := List.mergeSort_perm _ _
theorem srtP_pw (ns : List (Int × Int)) : (srtP ns).Pairwise fun p q => leP p q = true :=
  List.pairwise_mergeSort (le := leP) (fun a b c h1 h2 => by rw [leP_iff] at *; omega) (fun a b => by rw [Bool.or_eq_true, leP_iff, leP_iff]; omega) ns
theorem srtP_uniq {ns ms : List (Int × Int)} (h : ms.Perm ns) (p : ms.Pairwise fun p q => leP p q = true) : ms = srtP ns :=
  List.Perm.eq_of_pairwise (fun a b _ _ h1 h2 => by rw [leP_iff] at h1 h2; exact Prod.ext (by omega) (by omega)) p (srtP_pw ns) (h.trans (srtP_perm ns).symm)
def pairD (p : Int × Int) : D := .tup [.int p.1, .int p.2]
def pairsD : List D → Option (List (Int × Int))
  | [] => some []
  | .tup [.int i, .int j] :: ds => (pairsD ds).map ((i, j) :: ·)
  | _ => none
theorem pairsD_eq : ∀ {ds : List D} {ps : List (Int × Int)}, pairsD ds = some ps → ds = ps.map pairD
  | [], _, h => by cases h; rfl
  | d :: ds, ps, h => by
    unfold pairsD at h
    split at h
    · rename_i heq; cases heq
    · rename_i i j es heq
      cases heq
      obtain ⟨qs, e, rfl⟩ := Option.map_eq_some_iff.mp h
      rw [pairsD_eq e]; rfl
    · cases h
theorem pairsD_map (ps : List (Int × Int)) : pairsD (ps.map pairD) = some ps := by
  induction ps with
  | nil => rfl
  | cons n ns ih => show (pairsD (ns.map pairD)).map (n :: ·) = _; rw [ih]; rfl
/-- sorted: ints or pairs -/
def rSortU (K : Frag) : List V → Hp → VK → Prop := fun vs H Q => rSortedI K vs H Q ∨ rSortedPO K vs H Q
theorem cr_sortU {X : Cx} : CallR X (.builtin "sorted") (rSortU X.K) := fun pins s σ H vs us Q I r h => by
  rcases h with h | h
  · exact cr_sortedI pins s σ H vs us Q I r h
  · exact cr_sortedPO pins s σ H vs us Q I r h
def fSortF : List O → QR O
  | [o] => match sqO o with
    | some ds => (match intsD ds with
      | some ns => .ok (.ol ((srtI ns).map D.int))
      | none => match pairsD ds with
        | some ps => .ok (.ol ((srtP ps).map pairD))
        | none => .bad)
    | none => .bad
  | _ => .bad
def kOf (H : Hp) (v : V) : Int × Int := match v with
  | .ref t => (match H t with
    | some (.tup [.int i, .int j]) => (i, j)
    | _ => (0, 0))
  | _ => (0, 0)
theorem fz_pair {S H : Hp} (e : Ex S H) {p : Int × Int} {v : V} (h : Fz K S (pairD p) v) : kOf H v = p ∧ ∃ t, v = .ref t ∧ S t = some (.tup [.int p.1, .int p.2]) := by
  unfold pairD Fz at h
  obtain ⟨a, vs, rfl, h1, h2⟩ := h
  obtain ⟨v1, vs', rfl, f1, h2⟩ := h2.uncons
  obtain ⟨v2, vs'', rfl, f2, h2⟩ := h2.uncons
  cases h2.unnil
  unfold Fz at f1 f2
  subst f1 f2
  refine ⟨?_, a, rfl, h1⟩
  unfold kOf
  dsimp only
  rw [e _ _ h1]
theorem pairs_ok {S H : Hp} (e : Ex S H) : ∀ {ps : List (Int × Int)} {vs : List V}, FzL K S (ps.map pairD) vs → vs.map (kOf H) = ps ∧ ∀ v ∈ vs, ∃ t, v = .ref t ∧ S t = some (.tup [.int (kOf H v).1, .int (kOf H v).2])
  | [], vs, h => by rw [h.unnil]; exact ⟨rfl, fun v hv => by cases hv⟩
  | p :: ps, vs, h => by
    obtain ⟨v, vs', rfl, f1, f2⟩ := h.uncons
    obtain ⟨e1, t, e2, e3⟩ := fz_pair e f1
    obtain ⟨e4, e5⟩ := pairs_ok e f2
    refine ⟨by rw [List.map_cons, e1, e4], fun w hw => ?_⟩
    rcases List.mem_cons.mp hw with rfl | hw
    · exact ⟨t, e2, by rw [e1]; exact e3⟩
    · exact e5 w hw
theorem pairs_mk {S H : Hp} : ∀ {vs : List V}, (∀ v ∈ vs, ∃ t, v = .ref t ∧ S t = some (.tup [.int (kOf H v).1, .int (kOf H v).2])) → FzL K S ((vs.map (kOf H)).map pairD) vs
  | [], _ => .nil
  | v :: vs, h => by
    obtain ⟨t, e1, e2⟩ := h v List.mem_cons_self
    refine .cons ?_ (pairs_mk fun w hw => h w (List.mem_cons_of_mem _ hw))
    unfold pairD Fz
    exact ⟨t, _, e1, e2, .cons (by unfold Fz; rfl) (.one (by unfold Fz; rfl))⟩
theorem s_sortF : SimRF K (rSortU K) fSortF := fun ρ S H os vs Q w wa h => by
  unfold fSortF at h
  split at h
  · rename_i o
    obtain ⟨v, p, rfl, h1⟩ := wa.one
    cases e : sqO o with
    | none => rw [e] at h; exact h.elim
    | some ds =>
      rw [e] at h; dsimp only at h
      obtain ⟨a, xs, rfl, q1, q2⟩ := sqO_ok w h1 e
      cases e2 : intsD ds with
      | some ns =>
        rw [e2] at h
        rw [intsD_eq e2, FzL.ints] at q2
        subst q2
        refine .inl ⟨a, ns, rfl, q1, fun ns' l hp hw hl => ?_⟩
        rw [srtI_uniq hp hw]
        exact RFPost.lst w hl h (FzL.ints.mpr rfl)
      | none =>
        rw [e2] at h; dsimp only at h
        cases e3 : pairsD ds with
        | none => rw [e3] at h; exact h.elim
        | some ps =>
          rw [e3] at h
          rw [pairsD_eq e3] at q2
          obtain ⟨k1, k2⟩ := pairs_ok w.ex q2
          refine .inr ⟨a, xs, kOf H, rfl, q1, fun x hx => ?_, fun ys l hs hst hl => ?_⟩
          · obtain ⟨t, e4, e5⟩ := k2 x hx
            exact ⟨t, e4, w.ex _ _ e5⟩
          · have e6 : ys.map (kOf H) = srtP ps := by
              refine srtP_uniq ?_ ?_
              · rw [← k1]; exact hst.perm.map _
              · rw [List.pairwise_map]
                refine List.Pairwise.imp (fun {x y} h => ?_) (show SrtO.Srtd (ltP (kOf H)) ys from hs)
                unfold leP
                rw [show SrtO.lexB (kOf H y) (kOf H x) = false from h]; rfl
            have f := pairs_mk (K := K) (S := S) (H := H) (vs := ys) fun x hx => k2 x (hst.perm.mem_iff.mp hx)
            rw [e6] at f
            exact RFPost.lst w hl h f
  · exact h.elim
/-- isinstance(x, T) of a built-in class T -/
def tyO : O → Option String
  | .val .non => some "NoneType"
  | .val (.bl _) => some "bool"
  | .val (.int _) => some "int"
  | .val (.str _) => some "str"
  | .val (.tup _) => some "tuple"
  | .val (.lst _) => some "list"
  | .val (.dic _ _) => some "dict"
  | .ol _ => some "list"
  | .nl _ => some "list"
  | .od _ _ => some "dict"
  | .nd _ _ => some "dict"
  | .nt _ => some "tuple"
  | _ => none
theorem DiO.ty {ks : DKs} {vs : List V} {o : HO} {H : Hp} {a : Addr} (h : DiO ks vs o) (e : H a = some o) : TyX K H (.ref a) (.type "dict") := by
  cases ks with
  | k kk => obtain ⟨_, rfl⟩ := h; exact .base (.dK e)
  | t kk => obtain ⟨_, rfl⟩ := h; exact .base (.dT e)
theorem DiA.ty {ks : DKs} {vs : List V} {o : HO} {H : Hp} {a : Addr} (h1 : DiA H a ks o) (h : DiO ks vs o) : TyX K H (.ref a) (.type "dict") := by
  cases ks with
  | k kk =>
    obtain ⟨_, rfl⟩ := h
    rcases h1 with e | ⟨ob, e⟩
    · exact .base (.dK e)
    · exact .fDict e
  | t kk => obtain ⟨_, rfl⟩ := h; exact .base (.dT h1)
theorem tyO_ok {ρ : Rho} {S H : Hp} {o : O} {v : V} {p : Path} {t : String} (w : Wf ρ S H) (h : Ow K ρ S H o v p) (e : tyO o = some t) : TyX K H v (.type t) := by
  cases o with
  | val d =>
    unfold Ow at h
    cases d with
    | non => unfold Fz at h; subst h; cases e; exact .base .non
    | bl _ => unfold Fz at h; subst h; cases e; exact .base (.bl _)
    | int _ => unfold Fz at h; subst h; cases e; exact .base (.int _)
    | str _ => unfold Fz at h; subst h; cases e; exact .base (.str _)
    | tup _ => unfold Fz at h; obtain ⟨_, _, rfl, h1, _⟩ := h; cases e; exact .base (.tup (w.ex _ _ h1))
    | lst _ => unfold Fz at h; obtain ⟨_, _, rfl, h1, _⟩ := h; cases e; exact .base (.lst (w.ex _ _ h1))
    | dic _ _ => unfold Fz at h; obtain ⟨_, _, o, rfl, h1, h2, _⟩ := h; cases e; exact (h1.mono w.ex).ty h2
    | _ => cases e
  | ol _ => unfold Ow at h; obtain ⟨_, _, rfl, _, h1, _⟩ := h; cases e; exact .base (.lst h1)
  | nl _ => unfold Ow at h; obtain ⟨_, _, rfl, _, h1, _⟩ := h; cases e; exact .base (.lst h1)
  | nt _ => unfold Ow at h; obtain ⟨_, _, rfl, _, h1, _⟩ := h; cases e; exact .base (.tup h1)
  | od _ _ => unfold Ow at h; obtain ⟨_, _, _, rfl, _, h1, h2, _⟩ := h; cases e; exact h2.ty h1
  | nd _ _ => unfold Ow at h; obtain ⟨_, _, _, rfl, _, h1, h2, _⟩ := h; cases e; exact h2.1.ty h1
  | _ => cases e
def fIsi : List O → QR O
  | [o, .val (.ty n)] => match (tyO o).bind fun t => kitB t n with
    | some b => .ok (.val (.bl b))
    | none => .bad
  | _ => .bad
theorem s_isi : SimR K (rIsi K) fIsi := fun ρ S H os vs Q w wa h => by
  unfold fIsi at h
  split at h
  · rename_i o n
    obtain ⟨v, p, v2, p2, rfl, h1, h2⟩ := wa.two
    have e2 : v2 = .ty n := by unfold Ow Fz at h2; exact h2
    subst e2
    cases e : tyO o with
    | none => rw [e] at h; exact h.elim
    | some t =>
      rw [e] at h
      have h' : RPost K ρ S H Q (match kitB t n with | some b => .ok (.val (.bl b)) | none => .bad) := h
      cases e3 : kitB t n with
      | none => rw [e3] at h'; exact h'.elim
      | some b =>
        rw [e3] at h'
        exact ⟨v, .ty n, .type t, .type n, b, rfl, .ty n, tyO_ok w h1 e, kit_ty e3, RPost.now (p := []) w h' .bl⟩
  · exact h.elim
def fInt1 : List O → QR O
  | [.val (.int i)] => .ok (.val (.int i))
  | [.val (.bl b)] => .ok (.val (.int (if b then 1 else 0)))
  | _ => .bad
theorem s_int1 : SimR K (fun xs H Q => (∃ i, xs = [V.int i] ∧ Q (.int i) H) ∨ ∃ k, xs = [V.bl k] ∧ Q (.int (if k then 1 else 0)) H) fInt1 := fun ρ S H os vs Q w wa h => by
  unfold fInt1 at h
  split at h
  · rename_i i
    obtain ⟨v, p, rfl, h1⟩ := wa.one
    cases intO h1
    exact .inl ⟨i, rfl, RPost.now (p := []) w h .int⟩
  · rename_i b
    obtain ⟨v, p, rfl, h1⟩ := wa.one
    cases blO h1
    exact .inr ⟨b, rfl, RPost.now (p := []) w h .int⟩
  · exact h.elim
end
end VL
set_option maxRecDepth 100000
set_option maxHeartbeats 4000000
/-! V6: defs and their calls -/
namespace VL
open PySem L2
open PyProof.Rows (envOfC)

inductive FR where
  | ok (o : O) (outs : List O) | err (c : Str) (outs : List O) | bad
abbrev FS := List O → FR

section
variable (K : Frag)
/-- the arguments: by reference (true) or frozen -/
def PreA (ρ : Rho) (S H : Hp) (md : List Bool) (os : List O) (vs : List V) : Prop :=
  os.length = md.length ∧ vs.length = md.length ∧ ∀ (i : Nat) (o : O) (v : V), os[i]? = some o → vs[i]? = some v → (md[i]? = some true → Ow K ρ S H o v [.ix i]) ∧ (md[i]? = some false → ∃ d, o = .val d ∧ Fz K S d v)
def OutA (ρ : Rho) (S H : Hp) (md : List Bool) (outs : List O) (vs : List V) : Prop :=
  ∀ (i : Nat) (v : V), md[i]? = some true → vs[i]? = some v → ∃ o, outs[i]? = some o ∧ Ow K ρ S H o v [.ix i]
def FPst (md : List Bool) (vs : List V) (ρ : Rho) (S H : Hp) (Q : VK) (E : XK) : FR → Prop
  | .ok o outs => ∀ ρ' S' H' v ρ2, Grw ρ S H ρ' S' H' → Wf ρ' S' H' → OutA K ρ' S' H' md outs vs → Tmp ρ S H ρ' S' H' ρ2 → Ow K ρ2 S' H' o v [] → Q v H'
  | .err c outs => ∀ ρ' S' H', Grw ρ S H ρ' S' H' → Wf ρ' S' H' → OutA K ρ' S' H' md outs vs → E (.ref (He.ga K c)) none H'
  | .bad => False
def SpOf (md : List Bool) (m : FS) : Sp := fun vs H Q E => ∃ ρ S os, Wf ρ S H ∧ PreA K ρ S H md os vs ∧ FPst K md vs ρ S H Q E (m os)
end
/-- a def's state at its start, what it leaves -/
def startV (md : List Bool) (os : List O) (k : Nat) : VS := List.zipWith (fun b o => if b = true then SV.rf o else SV.va o) md os ++ List.replicate k SV.un
def outsV (n : Nat) (σ : VS) : List O := (σ.take n).map fun sv => match sv.get with
  | some o => o
  | none => .val .non
section
variable {K : Frag}
theorem start_get {md : List Bool} {os : List O} {k i : Nat} {sv : SV} {o : O} (hl : os.length = md.length) (h : (startV md os k)[i]? = some sv) (g : sv.get = some o) : i < md.length ∧ os[i]? = some o ∧ (∀ o', sv = .rf o' → md[i]? = some true) ∧ (∀ o', sv = .va o' → md[i]? = some false) := by
  unfold startV at h
  have hz : (List.zipWith (fun b o => if b = true then SV.rf o else SV.va o) md os).length = md.length := by simp [hl]
  by_cases hi : i < md.length
  · rw [List.getElem?_append_left (by rw [hz]; exact hi), List.getElem?_zipWith] at h
    have e1 : md[i]? = some md[i] := List.getElem?_eq_getElem hi
    have e2 : os[i]? = some (os[i]'(hl ▸ hi)) := List.getElem?_eq_getElem (hl ▸ hi)
    rw [e1, e2] at h
    have h' : (if md[i] = true then SV.rf (os[i]'(hl ▸ hi)) else SV.va (os[i]'(hl ▸ hi))) = sv := Option.some.inj h
    refine ⟨hi, ?_, fun o' e => ?_, fun o' e => ?_⟩
    · rw [e2]
      by_cases c : md[i] = true
      · rw [if_pos c] at h'; subst h'; exact g
      · rw [if_neg c] at h'; subst h'; exact g
    · rw [e1]
      by_cases c : md[i] = true
      · rw [c]
      · rw [if_neg c] at h'; subst h'; cases e
    · rw [e1]
      by_cases c : md[i] = true
      · rw [if_pos c] at h'; subst h'; cases e
      · rw [Bool.not_eq_true] at c; rw [c]
  · rw [List.getElem?_append_right (by rw [hz]; omega), List.getElem?_replicate] at h
    split at h
    · cases h; cases g
    · cases h
theorem StR.start {ρ : Rho} {S H : Hp} {md : List Bool} {os : List O} {vs : List V} {N : List Str} (w : Wf ρ S H) (p : PreA K ρ S H md os vs) (hN : md.length ≤ N.length) :
    StR K ρ (fun i => vs[i]?) S H (startV md os (N.length - md.length)) (L2.start N vs) := by
  obtain ⟨l1, l2, p⟩ := p
  refine ⟨w, ?_, fun i sv o h1 h2 => ?_, fun i o h1 => ?_⟩
  · unfold L2.start startV
    simp [l1, l2]
  · obtain ⟨hi, e, r1, r2⟩ := start_get l1 h1 h2
    have ev : vs[i]? = some (vs[i]'(l2 ▸ hi)) := List.getElem?_eq_getElem (l2 ▸ hi)
    obtain ⟨q1, q2⟩ := p i o _ e ev
    refine ⟨vs[i]'(l2 ▸ hi), ?_, ?_⟩
    · unfold L2.start
      rw [List.getElem?_append_left (by simpa using l2 ▸ hi), List.getElem?_map, ev]; rfl
    · cases sv with
      | un => cases h2
      | va o' =>
        obtain ⟨d, e2, f⟩ := q2 (r2 o' rfl)
        subst e2
        unfold Ow; exact f
      | rf o' => exact q1 (r1 o' rfl)
  · obtain ⟨hi, e, r1, r2⟩ := start_get l1 h1 rfl
    have ev : vs[i]? = some (vs[i]'(l2 ▸ hi)) := List.getElem?_eq_getElem (l2 ▸ hi)
    refine ⟨_, ev, ?_⟩
    unfold L2.start
    rw [List.getElem?_append_left (by simpa using l2 ▸ hi), List.getElem?_map, ev]; rfl
/-- the outs are still by reference: looked at, not believed -/
def rfOk (md : List Bool) (σ : VS) : Bool := (List.range md.length).all fun i => match md[i]?, σ[i]? with
  | some true, some (.rf _) => true
  | some true, _ => false
  | _, _ => true
theorem out_of {ρ : Rho} {S H : Hp} {md : List Bool} {vs : List V} {σV : VS} {σ : St} (s : StR K ρ (fun i => vs[i]?) S H σV σ) (hr : rfOk md σV = true) : OutA K ρ S H md (outsV md.length σV) vs := by
  intro i v h1 h2
  have hi : i < md.length := (List.getElem?_eq_some_iff.mp h1).1
  have := List.all_eq_true.mp hr i (List.mem_range.mpr hi)
  rw [h1] at this
  cases e : σV[i]? with
  | none => rw [e] at this; cases this
  | some sv =>
    rw [e] at this
    cases sv with
    | un => cases this
    | va _ => cases this
    | rf o =>
      obtain ⟨v', e1, e2⟩ := s.pin i o e
      rw [h2] at e1; cases e1
      obtain ⟨v2, e3, w⟩ := s.slot i _ o e rfl
      rw [e2] at e3; cases e3
      refine ⟨o, ?_, w⟩
      unfold outsV
      rw [List.getElem?_map, List.getElem?_take, if_pos hi, e]; rfl
/-- .. the meaning of a def with that look -/
def runG (md : List Bool) (k : Nat) (b : VB) : FS := fun os => match b (startV md os k) with
  | .nx σ => if rfOk md σ = true then .ok (.val .non) (outsV md.length σ) else .bad
  | .rt o σ => if rfOk md σ = true then .ok o (outsV md.length σ) else .bad
  | .err c σ => if rfOk md σ = true then .err c (outsV md.length σ) else .bad
  | _ => .bad
variable {P : Program} {w : World} {mg : Str → Option Value} {base : Heap} {k : Nat} {f : Addr} {name qual : Str} {params : Arguments} {body : List Stmt} {scope : Scope} {fd : FuncData} {N ps : List Str} {md : List Bool} {b : VB}
/-- THE RULE: a def keeps the promise of its meaning -/
theorem fnV (F : FunD K name qual params body scope [] [] f fd) (Sc : FnScope N ps scope) (hm : md.length = ps.length)
    (hb : ∀ (cdv : Value) (A : Around) (outer : List Env) (s : Shared) (H : Hp) (E : XK), Room k (A.deeper (envOfC qual scope s.heap.objs.size f cdv)) →
      ∃ t, PSs (cxOf (L2.CX P w) P w K mg base N qual scope f cdv A outer s H E) body t ∧ SimS K (fun cls d _ H' => E cls d H') t b) :
    FnOk P w K mg base (L2.CX P w) (k + 1) f fd ps (SpOf K md (runG md (N.length - md.length) b)) := by
  refine F.ok Sc (fun vs H Q E h => ?_) (fun cdv A outer s H vs Q E hr h => ?_)
  · obtain ⟨ρ, S, os, _, p, _⟩ := h
    rw [p.2.1, hm]
  · obtain ⟨t, ht, hs⟩ := hb cdv A outer s H E hr
    refine ⟨t, ht, ?_⟩
    obtain ⟨ρ, S, os, wf, p, post⟩ := h
    have hN : md.length ≤ N.length := by
      have := congrArg List.length Sc.pre
      rw [List.length_take] at this
      omega
    have s0 := StR.start (N := N) wf p hN
    refine hs ρ _ S H _ _ _ s0 ?_
    have post' : FPst K md vs ρ S H Q E (match b (startV md os (N.length - md.length)) with
      | .nx σ => if rfOk md σ = true then .ok (.val .non) (outsV md.length σ) else .bad
      | .rt o σ => if rfOk md σ = true then .ok o (outsV md.length σ) else .bad
      | .err c σ => if rfOk md σ = true then .err c (outsV md.length σ) else .bad
      | _ => .bad) := post
    cases e : b (startV md os (N.length - md.length)) with
    | bad => rw [e] at post'; exact post'
    | bk _ => rw [e] at post'; exact post'.elim
    | ct _ => rw [e] at post'; exact post'.elim
    | nx σ1 =>
      rw [e] at post'; dsimp only at post'
      intro ρ' S' H' σ' g s1
      cases hr : rfOk md σ1 with
      | false => rw [hr] at post'; exact post'.elim
      | true =>
        rw [hr] at post'
        exact post' ρ' S' H' .non (fun _ => none) g s1.w (out_of s1 hr) ⟨fun _ _ h => (by cases h), fun _ _ h => (by cases h), fun _ _ _ _ => rfl⟩ (.v (fz_non _))
    | rt o σ1 =>
      rw [e] at post'; dsimp only at post'
      intro ρ' S' H' σ' v ρ2 g s1 t2 w2
      cases hr : rfOk md σ1 with
      | false => rw [hr] at post'; exact post'.elim
      | true =>
        rw [hr] at post'
        exact post' ρ' S' H' v ρ2 g s1.w (out_of s1 hr) t2 w2
    | err c σ1 =>
      rw [e] at post'; dsimp only at post'
      intro ρ' S' H' σ' g s1
      cases hr : rfOk md σ1 with
      | false => rw [hr] at post'; exact post'.elim
      | true =>
        rw [hr] at post'
        exact post' ρ' S' H' g s1.w (out_of s1 hr)

/-! ### calls with frozen arguments alone -/
variable {W : WX} {te : TE} {ta : TA} {a : AX}
def vCallP (m : FS) (a : AX) : VX := ⟨a.q, fun σ => match a.f σ with
  | .ok os σ1 => (match fTup.valsO os with
    | some ds => (match m (ds.map O.val) with
      | .ok o _ => .ok o σ1
      | .err c _ => .err c σ1
      | .bad => .bad)
    | none => .bad)
  | .err c σ1 => .err c σ1
  | .bad => .bad⟩
theorem pre_vals {ρ : Rho} {S H : Hp} {ds : List D} {vs : List V} {md : List Bool} (f : FzL K S ds vs) (hl : md.length = ds.length) (hf : ∀ (i : Nat), md[i]? ≠ some true) : PreA K (fun _ => none) S H md (ds.map O.val) vs := by
  refine ⟨by simp [hl], by rw [hl, f.len], fun i o v h1 h2 => ⟨fun h => (hf i h).elim, fun _ => ?_⟩⟩
  rw [List.getElem?_map] at h1
  obtain ⟨d, e, rfl⟩ := Option.map_eq_some_iff.mp h1
  obtain ⟨v', e2, q⟩ := f.get e
  rw [h2] at e2; cases e2
  exact ⟨d, rfl, q⟩
theorem Quiet.of0 {S H S' H' : Hp} {ρ' : Rho} (g : Grw (fun _ => none) S H ρ' S' H') (w : Wf ρ' S' H') : Quiet S H S' H' := ⟨g.s, fun a o h => g.h a o h rfl, fun a o h s => g.n a o h s rfl, fun _ => w.ft⟩
theorem sim_callP {m : FS} {md : List Bool} (hf : ∀ (i : Nat), md[i]? ≠ some true) (ha : SimA K W ta a) (hl : ∀ σ os σ1, a.f σ = .ok os σ1 → os.length = md.length) : SimF K W (tCallS (SpOf K md m) (WE W) ta) (vCallP m a) := fun ρ pv S H σV σ Q s h => by
  refine ha ρ pv S H σV σ _ s ?_
  have h' : FPost K W ρ pv S H σ a.q σV Q ((vCallP m a).f σV) := h
  unfold vCallP at h'
  dsimp only at h'
  cases e : a.f σV with
  | bad => rw [e] at h'; exact h'
  | err c σ1 => rw [e] at h'; exact h'
  | ok os σ1 =>
    rw [e] at h'; dsimp only at h'
    intro ρ1 S1 H1 vs g1 s1 w1 q1
    cases e2 : fTup.valsO os with
    | none => rw [e2] at h'; exact h'.elim
    | some ds =>
      rw [e2] at h'; dsimp only at h'
      have fz := valsO_ok w1 e2
      have l : md.length = ds.length := by
        rw [← hl σV os σ1 e]
        have : ∀ {os : List O} {ds : List D}, fTup.valsO os = some ds → os.length = ds.length := by
          intro os
          induction os with
          | nil => intro ds h; cases h; rfl
          | cons o os ih =>
            intro ds h
            cases o with
            | val d =>
              obtain ⟨es, h1, rfl⟩ := Option.map_eq_some_iff.mp (show (fTup.valsO os).map (d :: ·) = some ds from h)
              simp [ih h1]
            | _ => cases (show none = some ds from h)
        exact this e2
      refine ⟨fun _ => none, S1, ds.map O.val, ⟨s1.w.ex, fun a q h => (by cases h), s1.w.ft⟩, pre_vals (ρ := ρ) fz l hf, ?_⟩
      cases e3 : m (ds.map O.val) with
      | bad => rw [e3] at h'; exact h'.elim
      | err c outs =>
        rw [e3] at h'; dsimp only at h'
        intro ρ' S' H' g w _
        exact h' ρ1 S' H' (g1.trans (Quiet.of0 g w).grw) (s1.quiet (Quiet.of0 g w) w.ex)
      | ok o outs =>
        rw [e3] at h'; dsimp only at h'
        intro ρ' S' H' v ρ2 g w _ t w2
        have q := Quiet.of0 g w
        have nn : ∀ a o, H1 a = some o → ρ2 a = none := fun a o h => t.n a o h rfl
        refine h' ρ1 S' H' v ρ2 (g1.trans q.grw) (s1.quiet q w.ex) ⟨t.wf, fun a r h => ?_, fun a o h r => nn a o (g1.h a o h r)⟩ w2 fun hq => ?_
        · cases e4 : ρ1 a with
          | none => rfl
          | some r' =>
            obtain ⟨_, o', ho⟩ := s1.w.wf a r' e4
            rw [nn a o' ho] at h; cases h
        · obtain ⟨b1, b2, b3⟩ := q1 hq
          exact ⟨⟨b1, b2, b3.trans q⟩, fun a o h => nn a o (b3.h a o h)⟩

/-! ### calls with arguments by reference -/
structure BX where
  rs : List (Option Nat)
  f : VS → XR (List (Option D))
def ArgR (K : Frag) (S : Hp) (σ : St) : List (Option Nat) → List (Option D) → List V → Prop
  | [], ds, vs => ds = [] ∧ vs = []
  | some j :: rs, ds, vs => ∃ ds' v vs', ds = none :: ds' ∧ vs = v :: vs' ∧ σ[j]? = some (some v) ∧ ArgR K S σ rs ds' vs'
  | none :: rs, ds, vs => ∃ d ds' v vs', ds = some d :: ds' ∧ vs = v :: vs' ∧ Fz K S d v ∧ ArgR K S σ rs ds' vs'
def SimB (K : Frag) (W : WX) (ta : TA) (b : BX) : Prop := ∀ ρ pv S H σV σ Q, StR K ρ pv S H σV σ →
  (match b.f σV with
    | .ok ds σ1 => ∀ ρ' S' H' vs, Grw ρ S H ρ' S' H' → StR K ρ' pv S' H' σ1 σ → ArgR K S' σ b.rs ds vs → Q vs H'
    | .err c σ1 => ∀ ρ' S' H', Grw ρ S H ρ' S' H' → StR K ρ' pv S' H' σ1 σ → EC K W c σ H'
    | .bad => False) → ta σ H Q
def bNil : BX := ⟨[], fun σ => .ok [] σ⟩
def bRef (j : Nat) (b : BX) : BX := ⟨some j :: b.rs, fun σ => match σ[j]?.bind SV.get with
  | some _ => (match b.f σ with
    | .ok ds σ1 => .ok (none :: ds) σ1
    | .err c σ1 => .err c σ1
    | .bad => .bad)
  | none => .bad⟩
def bCons (x : VX) (b : BX) : BX := ⟨none :: b.rs, fun σ => match x.f σ with
  | .ok (.val d) σ1 => (match b.f σ1 with
    | .ok ds σ2 => .ok (some d :: ds) σ2
    | .err c σ2 => .err c σ2
    | .bad => .bad)
  | .ok _ _ => .bad
  | .err c σ1 => .err c σ1
  | .bad => .bad⟩
theorem sim_bNil : SimB K W tNil bNil := fun ρ pv S H σV σ Q s h => h ρ S H [] .refl s ⟨rfl, rfl⟩
theorem sim_bRef {j : Nat} {b : BX} (hb : SimB K W ta b) : SimB K W (tCons (tVar j) ta) (bRef j b) := fun ρ pv S H σV σ Q s h => by
  unfold bRef at h; dsimp only at h
  cases e : σV[j]?.bind SV.get with
  | none => rw [e] at h; exact h.elim
  | some o =>
    rw [e] at h; dsimp only at h
    obtain ⟨sv, e1, e2⟩ := Option.bind_eq_some_iff.mp e
    obtain ⟨v, h1, _⟩ := s.slot j sv o e1 e2
    refine ⟨v, h1, hb ρ pv S H σV σ _ s ?_⟩
    cases e3 : b.f σV with
    | bad => rw [e3] at h; exact h
    | err c σ1 => rw [e3] at h; exact h
    | ok ds σ1 =>
      rw [e3] at h
      exact fun ρ' S' H' vs g s1 ar => h ρ' S' H' (v :: vs) g s1 ⟨ds, v, vs, rfl, rfl, h1, ar⟩
theorem sim_bCons {x : VX} {b : BX} (hx : SimX K W te x) (hb : SimB K W ta b) : SimB K W (tCons te ta) (bCons x b) := fun ρ pv S H σV σ Q s h => by
  refine hx ρ pv S H σV σ _ s ?_
  unfold bCons at h; dsimp only at h
  cases e : x.f σV with
  | bad => rw [e] at h; exact h
  | err c σ1 => rw [e] at h; exact h
  | ok o σ1 =>
    rw [e] at h
    cases o with
    | val d =>
      dsimp only at h
      intro ρ1 S1 H1 v p g1 s1 w1 _
      refine hb ρ1 pv S1 H1 σ1 σ _ s1 ?_
      cases e3 : b.f σ1 with
      | bad => rw [e3] at h; exact h
      | err c σ2 => rw [e3] at h; exact fun ρ2 S2 H2 g2 s2 => h ρ2 S2 H2 (g1.trans g2) s2
      | ok ds σ2 =>
        rw [e3] at h
        unfold Ow at w1
        exact fun ρ2 S2 H2 vs g2 s2 ar => h ρ2 S2 H2 (v :: vs) (g1.trans g2) s2 ⟨d, ds, v, vs, rfl, rfl, w1.mono g2.s, ar⟩
    | _ => exact h.elim
def fillR : List (Option Nat) → List (Option D) → VS → Option (List O)
  | [], [], _ => some []
  | some j :: rs, none :: ds, σ => (σ[j]?.bind SV.get).bind fun o => (fillR rs ds σ).map (o :: ·)
  | none :: rs, some d :: ds, σ => (fillR rs ds σ).map (.val d :: ·)
  | _, _, _ => none
def putO (o : O) : SV → SV
  | .un => .un
  | .va _ => .va o
  | .rf _ => .rf o
def putR : List (Option Nat) → List O → VS → VS
  | some j :: rs, o :: outs, σ => putR rs outs (σ.modify j (putO o))
  | none :: rs, _ :: outs, σ => putR rs outs σ
  | _, _, σ => σ
def ndR (rs : List (Option Nat)) : Bool := decide (rs.filterMap id).Nodup
def vCallR (m : FS) (b : BX) : VX := ⟨false, fun σ => match b.f σ with
  | .ok ds σ1 => (match fillR b.rs ds σ1 with
    | some os => (match m os with
      | .ok o outs => .ok o (putR b.rs outs σ1)
      | .err c outs => .err c (putR b.rs outs σ1)
      | .bad => .bad)
    | none => .bad)
  | .err c σ1 => .err c σ1
  | .bad => .bad⟩
/-- which argument stands at slot j -/
def posR (rs : List (Option Nat)) (j : Nat) : Option Nat := rs.findIdx? (· = some j)
theorem posR_some {rs : List (Option Nat)} {j i : Nat} (h : posR rs j = some i) : rs[i]? = some (some j) := findIdx_some h
theorem posR_of : ∀ {rs : List (Option Nat)} {j i : Nat}, (rs.filterMap id).Nodup → rs[i]? = some (some j) → posR rs j = some i
  | [], j, i, _, h => by simp at h
  | r :: rs, j, i, nd, h => by
    unfold posR
    rw [List.findIdx?_cons]
    cases i with
    | zero =>
      have : r = some j := by simpa using h
      simp [this]
    | succ i =>
      have h' : rs[i]? = some (some j) := by simpa using h
      have ne : r ≠ some j := fun e => by
        subst e
        have : j ∈ rs.filterMap id := List.mem_filterMap.mpr ⟨some j, List.mem_of_getElem? h', rfl⟩
        rw [List.filterMap_cons] at nd
        exact (List.nodup_cons.mp nd).1 this
      have nd' : (rs.filterMap id).Nodup := by
        rw [List.filterMap_cons] at nd
        cases r with
        | none => exact nd
        | some x => exact (List.nodup_cons.mp nd).2
      have ih : rs.findIdx? (· = some j) = some i := posR_of nd' h'
      simp [ne, ih]
def rhoC (ρ : Rho) (rs : List (Option Nat)) : Rho := fun a => match ρ a with
  | some (.ix j :: q) => (posR rs j).map fun i => .ix i :: q
  | _ => none
def rhoB (ρ ρ' : Rho) (rs : List (Option Nat)) : Rho := fun a => match ρ' a with
  | some (.ix i :: q) => (match rs[i]? with
    | some (some j) => some (.ix j :: q)
    | _ => none)
  | some _ => none
  | none => if (rhoC ρ rs a).isSome = true then none else ρ a
theorem rhoC_some {ρ : Rho} {rs : List (Option Nat)} {a : Addr} {r : Path} (h : rhoC ρ rs a = some r) : ∃ j q i, ρ a = some (.ix j :: q) ∧ posR rs j = some i ∧ r = .ix i :: q := by
  unfold rhoC at h
  split at h
  · rename_i j q e
    obtain ⟨i, e2, e3⟩ := Option.map_eq_some_iff.mp h
    exact ⟨j, q, i, e, e2, e3.symm⟩
  · cases h
theorem rhoC_at {ρ : Rho} {rs : List (Option Nat)} {a : Addr} {j i : Nat} {q : Path} (h : ρ a = some (.ix j :: q)) (e : posR rs j = some i) : rhoC ρ rs a = some (.ix i :: q) := by
  unfold rhoC; rw [h]; simp [e]
theorem rhoC_none {ρ : Rho} {rs : List (Option Nat)} {a : Addr} (h : ρ a = none) : rhoC ρ rs a = none := by unfold rhoC; rw [h]
theorem rhoC_out {ρ : Rho} {rs : List (Option Nat)} {a : Addr} {j : Nat} {q : Path} (h : ρ a = some (.ix j :: q)) (e : posR rs j = none) : rhoC ρ rs a = none := by
  unfold rhoC; rw [h]; simp [e]
theorem rhoB_at {ρ ρ' : Rho} {rs : List (Option Nat)} {a : Addr} {i j : Nat} {q : Path} (h : ρ' a = some (.ix i :: q)) (e : rs[i]? = some (some j)) : rhoB ρ ρ' rs a = some (.ix j :: q) := by
  unfold rhoB; rw [h]; dsimp only; rw [e]
theorem rhoB_keep {ρ ρ' : Rho} {rs : List (Option Nat)} {a : Addr} (h : ρ' a = none) (e : rhoC ρ rs a = none) : rhoB ρ ρ' rs a = ρ a := by
  unfold rhoB; rw [h, e]; rfl
theorem rhoB_some {ρ ρ' : Rho} {rs : List (Option Nat)} {a : Addr} {r : Path} (h : rhoB ρ ρ' rs a = some r) : (∃ q, ρ' a = some q) ∨ (ρ' a = none ∧ rhoC ρ rs a = none ∧ ρ a = some r) := by
  unfold rhoB at h
  split at h
  · rename_i e; exact .inl ⟨_, e⟩
  · rename_i q _ e; exact .inl ⟨q, e⟩
  · rename_i e
    by_cases c : (rhoC ρ rs a).isSome = true
    · rw [if_pos c] at h; cases h
    · rw [if_neg c] at h
      refine .inr ⟨e, ?_, h⟩
      cases q : rhoC ρ rs a with
      | none => rfl
      | some _ => rw [q] at c; exact (c rfl).elim
theorem fill_at : ∀ {rs : List (Option Nat)} {ds : List (Option D)} {vs : List V} {σV : VS} {σ : St} {S : Hp} {os : List O}, ArgR K S σ rs ds vs → fillR rs ds σV = some os →
    os.length = rs.length ∧ vs.length = rs.length ∧ ∀ (i : Nat) (o : O) (v : V), os[i]? = some o → vs[i]? = some v → (∀ j, rs[i]? = some (some j) → (σV[j]?.bind SV.get) = some o ∧ σ[j]? = some (some v)) ∧ (rs[i]? = some none → ∃ d, o = .val d ∧ Fz K S d v)
  | [], _, _, _, _, _, _, h, e => by
    obtain ⟨rfl, rfl⟩ := h
    cases e
    exact ⟨rfl, rfl, fun i o v h => by simp at h⟩
  | some j :: rs, _, _, σV, σ, S, _, h, e => by
    obtain ⟨ds', v, vs', rfl, rfl, h1, h2⟩ := h
    obtain ⟨o, e1, e2⟩ := Option.bind_eq_some_iff.mp (show (σV[j]?.bind SV.get).bind (fun o => (fillR rs ds' σV).map (o :: ·)) = some _ from e)
    obtain ⟨os', e3, rfl⟩ := Option.map_eq_some_iff.mp e2
    obtain ⟨l1, l2, k⟩ := fill_at h2 e3
    refine ⟨by simp [l1], by simp [l2], fun i o' v' q1 q2 => ?_⟩
    cases i with
    | zero =>
      simp at q1 q2
      subst q1 q2
      refine ⟨fun j' e => ?_, fun e => by simp at e⟩
      have : j = j' := by simpa using e
      subst this
      exact ⟨e1, h1⟩
    | succ i => simpa using k i o' v' (by simpa using q1) (by simpa using q2)
  | none :: rs, _, _, σV, σ, S, _, h, e => by
    obtain ⟨d, ds', v, vs', rfl, rfl, h1, h2⟩ := h
    obtain ⟨os', e3, rfl⟩ := Option.map_eq_some_iff.mp (show (fillR rs ds' σV).map (O.val d :: ·) = some _ from e)
    obtain ⟨l1, l2, k⟩ := fill_at h2 e3
    refine ⟨by simp [l1], by simp [l2], fun i o' v' q1 q2 => ?_⟩
    cases i with
    | zero =>
      simp at q1 q2
      subst q1 q2
      exact ⟨fun j' e => by simp at e, fun _ => ⟨d, rfl, h1⟩⟩
    | succ i => simpa using k i o' v' (by simpa using q1) (by simpa using q2)
theorem putR_len : ∀ {rs : List (Option Nat)} {outs : List O} {σ : VS}, (putR rs outs σ).length = σ.length
  | [], _, _ => by unfold putR; rfl
  | some j :: rs, [], _ => by unfold putR; rfl
  | none :: rs, [], _ => by unfold putR; rfl
  | some j :: rs, o :: outs, σ => by unfold putR; rw [putR_len, List.length_modify]
  | none :: rs, o :: outs, σ => by unfold putR; rw [putR_len]
/-- where no argument stands, nothing changes; where one stands, its outcome -/
theorem putR_get : ∀ {rs : List (Option Nat)} {outs : List O} {σ : VS} {j : Nat}, (rs.filterMap id).Nodup →
    ((∀ (i : Nat), rs[i]? ≠ some (some j)) → (putR rs outs σ)[j]? = σ[j]?) ∧ ∀ (i : Nat) (o : O), rs[i]? = some (some j) → outs[i]? = some o → (putR rs outs σ)[j]? = σ[j]?.map (putO o)
  | [], outs, σ, j, _ => ⟨fun _ => by unfold putR; rfl, fun i o h => by simp at h⟩
  | r :: rs, [], σ, j, _ => ⟨fun _ => by cases r <;> (unfold putR; rfl), fun i o _ h => by simp at h⟩
  | none :: rs, o :: outs, σ, j, nd => by
    rw [List.filterMap_cons] at nd
    obtain ⟨h1, h2⟩ := putR_get (outs := outs) (σ := σ) (j := j) nd
    refine ⟨fun hn => ?_, fun i o' e1 e2 => ?_⟩
    · unfold putR
      exact h1 fun i e => hn (i + 1) (by simpa using e)
    · unfold putR
      cases i with
      | zero => simp at e1
      | succ i => exact h2 i o' (by simpa using e1) (by simpa using e2)
  | some k :: rs, o :: outs, σ, j, nd => by
    rw [List.filterMap_cons] at nd
    obtain ⟨nk, nd'⟩ := List.nodup_cons.mp (show (k :: rs.filterMap id).Nodup from nd)
    obtain ⟨h1, h2⟩ := putR_get (outs := outs) (σ := σ.modify k (putO o)) (j := j) nd'
    refine ⟨fun hn => ?_, fun i o' e1 e2 => ?_⟩
    · unfold putR
      rw [h1 fun i e => hn (i + 1) (by simpa using e)]
      have : k ≠ j := fun e => hn 0 (by simp [e])
      rw [List.getElem?_modify]
      cases σ[j]? <;> simp [this]
    · unfold putR
      cases i with
      | zero =>
        have e : k = j := by simpa using e1
        have e' : o = o' := by simpa using e2
        subst e e'
        rw [h1 fun i e => nk (List.mem_filterMap.mpr ⟨some k, List.mem_of_getElem? e, rfl⟩), List.getElem?_modify]
        cases σ[k]? <;> simp
      | succ i =>
        have e1' : rs[i]? = some (some j) := by simpa using e1
        rw [h2 i o' e1' (by simpa using e2)]
        have : k ≠ j := fun e => nk (by rw [e]; exact List.mem_filterMap.mpr ⟨some j, List.mem_of_getElem? e1', rfl⟩)
        rw [List.getElem?_modify]
        cases σ[j]? <;> simp [this]
theorem putO_get {o : O} {sv : SV} {o' : O} (h : (putO o sv).get = some o') : o' = o ∧ ∃ o2, sv.get = some o2 := by
  cases sv with
  | un => cases h
  | va _ => cases h; exact ⟨rfl, _, rfl⟩
  | rf _ => cases h; exact ⟨rfl, _, rfl⟩
theorem putO_rf {o : O} {sv : SV} {o' : O} (h : putO o sv = .rf o') : ∃ o2, sv = .rf o2 := by
  cases sv with
  | un => cases h
  | va _ => cases h
  | rf o2 => exact ⟨o2, rfl⟩
/-- behind a call: the caller's state -/
theorem StR.behind {ρ ρ' : Rho} {pv : Nat → Option V} {S H S' H' : Hp} {σV : VS} {σ : St} {rs : List (Option Nat)} {outs : List O} {vs : List V} {md : List Bool} (s : StR K ρ pv S H σV σ) (nd : (rs.filterMap id).Nodup) (hmd : md = rs.map Option.isSome)
    (hv : ∀ (i j : Nat) (v : V), rs[i]? = some (some j) → vs[i]? = some v → σ[j]? = some (some v)) (hl : vs.length = rs.length) (hlv : ∀ j i, posR rs j = some i → ∃ o, σV[j]?.bind SV.get = some o)
    (g : Grw (rhoC ρ rs) S H ρ' S' H') (wf : Wf ρ' S' H') (oa : OutA K ρ' S' H' md outs vs) : StR K (rhoB ρ ρ' rs) pv S' H' (putR rs outs σV) σ ∧ Grw ρ S H (rhoB ρ ρ' rs) S' H' := by
  have fresh : ∀ a r, ρ a = some r → rhoC ρ rs a = none → ρ' a = none ∧ S' a = none ∧ H' a = H a := fun a r h e => by
    obtain ⟨h1, o, h2⟩ := s.w.wf a r h
    exact ⟨g.f a o h2 e, g.n a o h2 h1 e, (g.h a o h2 e).trans h2.symm⟩
  have mdAt : ∀ (i j : Nat), rs[i]? = some (some j) → md[i]? = some true := fun i j h => by rw [hmd, List.getElem?_map, h]; rfl
  refine ⟨⟨⟨wf.ex, fun a r h => ?_, wf.ft⟩, by rw [putR_len, s.len], fun j sv o h1 h2 => ?_, fun j o h1 => ?_⟩, ⟨g.s, fun a o h r => g.h a o h (rhoC_none r), fun a o h z r => g.n a o h z (rhoC_none r), fun a o h r => ?_⟩⟩
  · rcases rhoB_some h with ⟨q, e⟩ | ⟨e1, e2, e3⟩
    · exact wf.wf a q e
    · obtain ⟨_, f2, f3⟩ := fresh a r e3 e2
      obtain ⟨_, o, h2⟩ := s.w.wf a r e3
      exact ⟨f2, o, f3.trans h2⟩
  · obtain ⟨p1, p2⟩ := putR_get (outs := outs) (σ := σV) (j := j) nd
    cases e : posR rs j with
    | none =>
      have hn : ∀ (i : Nat), rs[i]? ≠ some (some j) := fun i z => by rw [posR_of nd z] at e; cases e
      rw [p1 hn] at h1
      obtain ⟨v, h3, h4⟩ := s.slot j sv o h1 h2
      refine ⟨v, h3, Ow.mono g.s (fun a r h => ?_) h4⟩
      have q := rhoC_out (rs := rs) (show ρ a = some (.ix j :: r) from h) e
      obtain ⟨f1, _, f3⟩ := fresh a _ h q
      exact ⟨by rw [rhoB_keep f1 q]; exact h, f3⟩
    | some i =>
      have ei := posR_some e
      have hi : i < vs.length := by rw [hl]; exact (List.getElem?_eq_some_iff.mp ei).1
      have ev : vs[i]? = some vs[i] := List.getElem?_eq_getElem hi
      obtain ⟨o1, e1, w1⟩ := oa i _ (mdAt i j ei) ev
      rw [p2 i o1 ei e1] at h1
      obtain ⟨sv0, e2, e3⟩ := Option.map_eq_some_iff.mp h1
      subst e3
      obtain ⟨e4, _⟩ := putO_get h2
      subst e4
      exact ⟨vs[i], hv i j _ ei ev, Ow.mono (.refl _) (fun a r h => ⟨rhoB_at h ei, rfl⟩) w1⟩
  · obtain ⟨p1, p2⟩ := putR_get (outs := outs) (σ := σV) (j := j) nd
    cases e : posR rs j with
    | none =>
      have hn : ∀ (i : Nat), rs[i]? ≠ some (some j) := fun i z => by rw [posR_of nd z] at e; cases e
      rw [p1 hn] at h1
      exact s.pin j o h1
    | some i =>
      have ei := posR_some e
      have hi : i < vs.length := by rw [hl]; exact (List.getElem?_eq_some_iff.mp ei).1
      have ev : vs[i]? = some vs[i] := List.getElem?_eq_getElem hi
      obtain ⟨o1, e1, w1⟩ := oa i _ (mdAt i j ei) ev
      rw [p2 i o1 ei e1] at h1
      obtain ⟨sv0, e2, e3⟩ := Option.map_eq_some_iff.mp h1
      obtain ⟨o2, e4⟩ := putO_rf e3
      exact s.pin j o2 (by rw [e2, e4])
  · rw [rhoB_keep (g.f a o h (rhoC_none r)) (rhoC_none r)]; exact r
theorem sim_callR {m : FS} {md : List Bool} {b : BX} (hb : SimB K W ta b) (hmd : md = b.rs.map Option.isSome) (hnd : ndR b.rs = true) : SimF K W (tCallS (SpOf K md m) (WE W) ta) (vCallR m b) := fun ρ pv S H σV σ Q s h => by
  refine hb ρ pv S H σV σ _ s ?_
  have nd : (b.rs.filterMap id).Nodup := of_decide_eq_true hnd
  unfold vCallR at h; dsimp only at h
  cases e : b.f σV with
  | bad => rw [e] at h; exact h
  | err c σ1 => rw [e] at h; exact h
  | ok ds σ1 =>
    rw [e] at h; dsimp only at h
    intro ρ1 S1 H1 vs g1 s1 ar
    cases e2 : fillR b.rs ds σ1 with
    | none => rw [e2] at h; exact h.elim
    | some os =>
      rw [e2] at h; dsimp only at h
      obtain ⟨l1, l2, k⟩ := fill_at ar e2
      have osAt : ∀ (i : Nat), i < b.rs.length → ∃ o, os[i]? = some o := fun i hi => ⟨_, List.getElem?_eq_getElem (l1 ▸ hi)⟩
      have hv : ∀ (i j : Nat) (v : V), b.rs[i]? = some (some j) → vs[i]? = some v → σ[j]? = some (some v) := fun i j v h1 h2 => by
        obtain ⟨o, ho⟩ := osAt i (List.getElem?_eq_some_iff.mp h1).1
        exact ((k i o v ho h2).1 j h1).2
      have hlv : ∀ j i, posR b.rs j = some i → ∃ o, σ1[j]?.bind SV.get = some o := fun j i e => by
        have ei := posR_some e
        have hi := (List.getElem?_eq_some_iff.mp ei).1
        obtain ⟨o, ho⟩ := osAt i hi
        exact ⟨o, ((k i o _ ho (List.getElem?_eq_getElem (l2 ▸ hi))).1 j ei).1⟩
      have wc : Wf (rhoC ρ1 b.rs) S1 H1 := ⟨s1.w.ex, fun a r h => by
        obtain ⟨j, q, i, e1, _, _⟩ := rhoC_some h
        exact s1.w.wf a _ e1, s1.w.ft⟩
      have pre : PreA K (rhoC ρ1 b.rs) S1 H1 md os vs := by
        subst hmd
        refine ⟨by simp [l1], by simp [l2], fun i o v h1 h2 => ⟨fun h3 => ?_, fun h3 => ?_⟩⟩
        · rw [List.getElem?_map] at h3
          obtain ⟨r, e3, e4⟩ := Option.map_eq_some_iff.mp h3
          cases r with
          | none => cases e4
          | some j =>
            obtain ⟨q1, q2⟩ := (k i o v h1 h2).1 j e3
            obtain ⟨sv, e5, e6⟩ := Option.bind_eq_some_iff.mp q1
            obtain ⟨v', h4, h5⟩ := s1.slot j sv o e5 e6
            rw [q2] at h4; cases h4
            exact Ow.mono (.refl _) (fun a r h => ⟨rhoC_at h (posR_of nd e3), rfl⟩) h5
        · rw [List.getElem?_map] at h3
          obtain ⟨r, e3, e4⟩ := Option.map_eq_some_iff.mp h3
          cases r with
          | none => exact (k i o v h1 h2).2 e3
          | some j => cases e4
      refine ⟨rhoC ρ1 b.rs, S1, os, wc, pre, ?_⟩
      cases e3 : m os with
      | bad => rw [e3] at h; exact h.elim
      | err c outs =>
        rw [e3] at h; dsimp only at h
        intro ρ' S' H' g w oa
        obtain ⟨s2, g2⟩ := StR.behind s1 nd hmd hv l2 hlv g w oa
        exact h _ S' H' (g1.trans g2) s2
      | ok o outs =>
        rw [e3] at h; dsimp only at h
        intro ρ' S' H' v ρ2 g w oa t w2
        obtain ⟨s2, g2⟩ := StR.behind s1 nd hmd hv l2 hlv g w oa
        refine h _ S' H' v ρ2 (g1.trans g2) s2 ⟨t.wf, fun a r hr => ?_, fun a o h r => t.n a o (g1.h a o h r) (rhoC_none (g1.f a o h r))⟩ w2 fun z => by cases z
        have d := t.d a r hr
        cases e4 : rhoB ρ1 ρ' b.rs a with
        | none => rfl
        | some r' =>
          rcases rhoB_some e4 with ⟨q, e5⟩ | ⟨_, e6, e7⟩
          · rw [d] at e5; cases e5
          · obtain ⟨_, o', ho⟩ := s1.w.wf a r' e7
            rw [t.n a o' ho e6] at hr; cases hr
end
end VL
set_option maxRecDepth 100000
set_option maxHeartbeats 4000000
/-! V7: list comprehensions -/
namespace VL
open PySem L2
/-- own names are put away: they hold nothing, or a frozen value -/
def putAway (vs : List Nat) (σ : VS) : QR VS := match vs with
  | [] => .ok σ
  | i :: is => match σ[i]? with
    | some .un => putAway is σ
    | some (.va (.val _)) => putAway is (σ.set i .un)
    | _ => .bad
def putBack (vs : List Nat) (σ0 σ : VS) : VS := match vs with
  | [] => σ
  | i :: is => putBack is σ0 (match σ0[i]? with
    | some sv => σ.set i sv
    | none => σ)
def lcL (vs : List Nat) (g : D → VS → QR VS) (tt : TX) (x : VX) : List D → VS → List D → XR (List D)
  | [], σ, acc => .ok acc σ
  | d :: ds, σ, acc => match putAway vs σ with
    | .bad => .bad
    | .ok σ1 => (match g d σ1 with
      | .bad => .bad
      | .ok σ2 => (match tt.f σ2 with
        | .bad => .bad
        | .err _ _ => .bad
        | .ok k σ3 => if k = true then (match x.f σ3 with
            | .bad => .bad
            | .err _ _ => .bad
            | .ok (.val e) σ4 => if acc.length < sizeLine then lcL vs g tt x ds (putBack vs σ σ4) (acc ++ [e]) else .bad
            | .ok _ _ => .bad) else lcL vs g tt x ds (putBack vs σ σ3) acc))
def vLcF (ix : IX) (vs : List Nat) (g : D → VS → QR VS) (tt : TX) (x : VX) : VX := ⟨false, fun σ => match ix σ with
  | .ok ds σ1 => (match lcL vs g tt x ds σ1 [] with
    | .ok acc σ2 => .ok (.ol acc) σ2
    | .err c σ2 => .err c σ2
    | .bad => .bad)
  | .err c σ1 => .err c σ1
  | .bad => .bad⟩
abbrev WN : WX := fun _ _ _ _ => False
section
variable {K : Frag} {W : WX}
theorem putAway_ok : ∀ {vs : List Nat} {σ σ1 : VS}, putAway vs σ = .ok σ1 → σ1.length = σ.length ∧ (∀ i, i ∉ vs → σ1[i]? = σ[i]?) ∧ (∀ i, i ∈ vs → σ1[i]? = some .un ∧ (σ[i]? = some .un ∨ ∃ d, σ[i]? = some (.va (.val d))))
  | [], σ, σ1, h => by cases h; exact ⟨rfl, fun _ _ => rfl, fun i hi => by cases hi⟩
  | i :: is, σ, σ1, h => by
    unfold putAway at h
    split at h
    · rename_i e
      obtain ⟨l, h1, h2⟩ := putAway_ok h
      refine ⟨l, fun j hj => h1 j fun z => hj (List.mem_cons_of_mem _ z), fun j hj => ?_⟩
      by_cases z : j ∈ is
      · exact h2 j z
      · have : j = i := by
          rcases List.mem_cons.mp hj with q | q
          · exact q
          · exact (z q).elim
        subst this
        exact ⟨(h1 j z).trans e, .inl e⟩
    · rename_i d e
      obtain ⟨l, h1, h2⟩ := putAway_ok h
      have hi : i < σ.length := (List.getElem?_eq_some_iff.mp e).1
      refine ⟨by simpa using l, fun j hj => ?_, fun j hj => ?_⟩
      · have nj : i ≠ j := fun z => hj (by rw [z]; exact List.mem_cons_self)
        rw [h1 j fun z => hj (List.mem_cons_of_mem _ z), List.getElem?_set_ne nj]
      · by_cases q : i = j
        · subst q
          refine ⟨?_, .inr ⟨d, e⟩⟩
          by_cases z : i ∈ is
          · exact (h2 i z).1
          · rw [h1 i z, List.getElem?_set_self hi]
        · have z : j ∈ is := by
            rcases List.mem_cons.mp hj with w | w
            · exact (q w.symm).elim
            · exact w
          obtain ⟨a, b⟩ := h2 j z
          rw [List.getElem?_set_ne q] at b
          exact ⟨a, b⟩
    · cases h
theorem putBack_get : ∀ {vs : List Nat} {σ0 σ : VS}, σ.length = σ0.length → (putBack vs σ0 σ).length = σ.length ∧ (∀ i, i ∉ vs → (putBack vs σ0 σ)[i]? = σ[i]?) ∧ ∀ i, i ∈ vs → (putBack vs σ0 σ)[i]? = σ0[i]?
  | [], σ0, σ, _ => ⟨rfl, fun _ _ => rfl, fun i hi => by cases hi⟩
  | i :: is, σ0, σ, hl => by
    unfold putBack
    cases e : σ0[i]? with
    | none =>
      obtain ⟨l, h1, h2⟩ := putBack_get (vs := is) hl
      refine ⟨l, fun j hj => h1 j fun z => hj (List.mem_cons_of_mem _ z), fun j hj => ?_⟩
      by_cases z : j ∈ is
      · exact h2 j z
      · have : j = i := by
          rcases List.mem_cons.mp hj with q | q
          · exact q
          · exact (z q).elim
        subst this
        have : σ0.length ≤ j := List.getElem?_eq_none_iff.mp e
        show (putBack is σ0 σ)[j]? = _
        rw [h1 j z, e]
        exact List.getElem?_eq_none (by omega)
    | some sv =>
      dsimp only
      have hi : i < σ.length := by rw [hl]; exact (List.getElem?_eq_some_iff.mp e).1
      obtain ⟨l, h1, h2⟩ := putBack_get (vs := is) (σ0 := σ0) (σ := σ.set i sv) (by simpa using hl)
      refine ⟨by simpa using l, fun j hj => ?_, fun j hj => ?_⟩
      · have nj : i ≠ j := fun z => hj (by rw [z]; exact List.mem_cons_self)
        rw [h1 j fun z => hj (List.mem_cons_of_mem _ z), List.getElem?_set_ne nj]
      · by_cases z : j ∈ is
        · exact h2 j z
        · have : j = i := by
            rcases List.mem_cons.mp hj with q | q
            · exact q
            · exact (z q).elim
          subst this
          rw [h1 j z, List.getElem?_set_self hi, e]
theorem wipe_in {σ : St} {i : Nat} : ∀ {vs : List Nat}, i ∈ vs → i < σ.length → (wipe σ vs)[i]? = some none
  | [], h, _ => by cases h
  | v :: vs, h, hl => by
    unfold wipe
    by_cases e : v = i
    · subst e
      rw [List.getElem?_set_self (by rw [wipe_length]; exact hl)]
    · rw [List.getElem?_set_ne e]
      refine wipe_in ?_ hl
      rcases List.mem_cons.mp h with q | q
      · exact (e q.symm).elim
      · exact q
theorem wipe_eq {σ σ' : St} {vs ts : List Nat} (o : OnlyAt ts (wipe σ vs) σ') (h : ∀ i ∈ ts, i ∈ vs) : wipe σ' vs = wipe σ vs := by
  have l : σ'.length = σ.length := by rw [o.1, wipe_length]
  apply List.ext_getElem?
  intro i
  by_cases hi : i ∈ vs
  · by_cases hl : i < σ.length
    · rw [wipe_in hi (l ▸ hl), wipe_in hi hl]
    · rw [List.getElem?_eq_none (by rw [wipe_length]; omega), List.getElem?_eq_none (by rw [wipe_length]; omega)]
  · rw [wipe_out hi, o.2 i fun z => hi (h i z)]
theorem StR.away {ρ : Rho} {pv : Nat → Option V} {S H : Hp} {σV σ1 : VS} {σ : St} {vs : List Nat} (s : StR K ρ pv S H σV σ) (h : putAway vs σV = .ok σ1) : StR K ρ pv S H σ1 (wipe σ vs) := by
  obtain ⟨l, h1, h2⟩ := putAway_ok h
  refine ⟨s.w, by rw [wipe_length, l, s.len], fun i sv o e1 e2 => ?_, fun i o e1 => ?_⟩
  · by_cases hi : i ∈ vs
    · rw [(h2 i hi).1] at e1; cases e1; cases e2
    · rw [h1 i hi] at e1
      obtain ⟨v, h3, h4⟩ := s.slot i sv o e1 e2
      exact ⟨v, by rw [wipe_out hi]; exact h3, h4⟩
  · by_cases hi : i ∈ vs
    · rw [(h2 i hi).1] at e1; cases e1
    · rw [h1 i hi] at e1
      obtain ⟨v, h3, h4⟩ := s.pin i o e1
      exact ⟨v, h3, by rw [wipe_out hi]; exact h4⟩
theorem StR.back {ρ ρ' : Rho} {pv : Nat → Option V} {S H S' H' : Hp} {σV σ1 σ4 : VS} {σ σ2 : St} {vs ts : List Nat} (s : StR K ρ pv S H σV σ) (h : putAway vs σV = .ok σ1) (e : Ex S S') (s4 : StR K ρ' pv S' H' σ4 σ2) (o : OnlyAt ts (wipe σ vs) σ2) (ht : ∀ i ∈ ts, i ∈ vs) :
    StR K ρ' pv S' H' (putBack vs σV σ4) σ := by
  have l4 : σ4.length = σV.length := by rw [← s4.len, o.1, wipe_length, s.len]
  obtain ⟨_, a1, a2⟩ := putAway_ok h
  obtain ⟨b0, b1, b2⟩ := putBack_get (vs := vs) (σ0 := σV) (σ := σ4) l4
  have same : ∀ i, i ∉ vs → σ2[i]? = σ[i]? := fun i hi => by rw [o.2 i fun z => hi (ht i z), wipe_out hi]
  refine ⟨s4.w, by rw [b0, l4, s.len], fun i sv ob e1 e2 => ?_, fun i ob e1 => ?_⟩
  · by_cases hi : i ∈ vs
    · rw [b2 i hi] at e1
      rcases (a2 i hi).2 with q | ⟨d, q⟩
      · rw [q] at e1; cases e1; cases e2
      · rw [q] at e1; cases e1; cases e2
        obtain ⟨v, h3, h4⟩ := s.slot i _ _ q rfl
        refine ⟨v, h3, ?_⟩
        unfold Ow at *
        exact h4.mono e
    · rw [b1 i hi] at e1
      obtain ⟨v, h3, h4⟩ := s4.slot i sv ob e1 e2
      exact ⟨v, by rw [← same i hi]; exact h3, h4⟩
  · by_cases hi : i ∈ vs
    · rw [b2 i hi] at e1
      rcases (a2 i hi).2 with q | ⟨d, q⟩
      · rw [q] at e1; cases e1
      · rw [q] at e1; cases e1
    · rw [b1 i hi] at e1
      obtain ⟨v, h3, h4⟩ := s4.pin i ob e1
      exact ⟨v, h3, by rw [← same i hi]; exact h4⟩
/-- an object that nobody holds is changed -/
theorem StR.updOut {ρ : Rho} {pv : Nat → Option V} {S H : Hp} {σV : VS} {σ : St} {a : Addr} {o : HO} (s : StR K ρ pv S H σV σ) (hr : ρ a = none) (hs : S a = none) (hn : ∀ vs, o ≠ .tup vs := by (intro vs z; cases z)) : StR K ρ pv S (upd H a o) σV σ := by
  refine ⟨⟨fun b u h => ?_, fun b q h => ?_, s.w.ft.upd hn⟩, s.len, fun i sv ob e1 e2 => ?_, s.pin⟩
  · rw [upd_ne fun z => by rw [z, hs] at h; cases h]; exact s.w.ex b u h
  · obtain ⟨h1, h2⟩ := s.w.wf b q h
    exact ⟨h1, by rw [upd_ne fun z => by rw [z, hr] at h; cases h]; exact h2⟩
  · obtain ⟨v, h3, h4⟩ := s.slot i sv ob e1 e2
    exact ⟨v, h3, Ow.mono (.refl _) (fun b r h => ⟨h, upd_ne fun z => by rw [z, hr] at h; cases h⟩) h4⟩
theorem Grw.updOut {ρ ρ' : Rho} {S H S' H' : Hp} {a : Addr} {o : HO} (g : Grw ρ S H ρ' S' H') (ha : ∀ u, H a = some u → ρ a ≠ none) : Grw ρ S H ρ' S' (upd H' a o) :=
  ⟨g.s, fun b u h r => by
    rw [upd_ne (fun z => by subst z; exact ha u h r)]
    exact g.h b u h r, g.n, g.f⟩
theorem sim_lcF {wi : TI} {ix : IX} {tg : TG} {g : D → VS → QR VS} {ttx : TX} {tt : TT} {te : TE} {x : VX} {vs ts : List Nat} (hi : SimI K W wi ix) (hg : SimG K tg ts g) (hts : ∀ i ∈ ts, i ∈ vs) (ht : SimT K WN tt ttx) (hx : SimX K WN te x) :
    SimF K W (tLc wi tg tt te vs) (vLcF ix vs g ttx x) := fun ρ pv S H σV σ Q s h => by
  refine hi ρ pv S H σV σ _ s ?_
  have h' : FPost K W ρ pv S H σ false σV Q ((vLcF ix vs g ttx x).f σV) := h
  unfold vLcF at h'; dsimp only at h'
  cases e : ix σV with
  | bad => rw [e] at h'; exact h'
  | err c σ1 => rw [e] at h'; exact h'
  | ok ds σ1 =>
    rw [e] at h'; dsimp only at h'
    intro ρ1 S1 H1 J G Y g1 s1 wk hG hY D hD
    have hS1 : S1 D = none := s1.w.ex.back hD
    have hr1 : ρ1 D = none := by
      cases q : ρ1 D with
      | none => rfl
      | some r => obtain ⟨_, o, ho⟩ := s1.w.wf D r q; rw [hD] at ho; cases ho
    have hH : ∀ u, H D = some u → ρ D ≠ none := fun u hu hr => by rw [g1.h D u hu hr] at hD; cases hD
    -- what the rest is to give
    let Rest : List VL.D → VS → List VL.D → Prop := fun l σ2 acc => FPost K W ρ pv S H σ false σV Q (match lcL vs g ttx x l σ2 acc with
      | .ok acc σ2 => .ok (.ol acc) σ2
      | .err c σ2 => .err c σ2
      | .bad => .bad)
    refine lc_it wk (fun i Hc => ∃ ρ2 S2 σV2 acc vacc, Grw ρ S H ρ2 S2 Hc ∧ Ex S1 S2 ∧ StR K ρ2 pv S2 Hc σV2 σ ∧ Hc D = some (.lst vacc) ∧ S2 D = none ∧ ρ2 D = none ∧ FzL K S2 acc vacc ∧ Rest (ds.drop i) σV2 acc)
      ⟨ρ1, S1, σ1, [], [], g1.updOut hH, .refl _, s1.updOut hr1 hS1, upd_same, hS1, hr1, .nil, h'⟩ ?_ ?_ ?_
    · rintro i Hc _ ⟨ρ2, S2, σV2, acc, vacc, _, x2, s2, _⟩
      exact hG S2 Hc x2 s2.w.ex
    · rintro i v Hc H3 hlt ⟨ρ2, S2, σV2, acc, vacc, g2, x2, s2, d2, n2, r2, f2, p2⟩ y
      obtain ⟨S3, d, q3, ex3, hd, w3⟩ := hY S2 Hc i v H3 hlt x2 s2.w.ex y
      have s3 := s2.quiet q3 ex3
      have p2' : FPost K W ρ pv S H σ false σV Q (match lcL vs g ttx x (ds.drop i) σV2 acc with
        | .ok acc σ2 => .ok (.ol acc) σ2
        | .err c σ2 => .err c σ2
        | .bad => .bad) := p2
      rw [drop_at hd] at p2'
      unfold lcL at p2'
      cases ea : putAway vs σV2 with
      | bad => rw [ea] at p2'; exact p2'.elim
      | ok σ3 =>
        rw [ea] at p2'; dsimp only at p2'
        refine hg ρ2 pv S3 H3 σ3 (wipe σ vs) d v _ (s3.away ea) w3 ?_
        cases eg : g d σ3 with
        | bad => rw [eg] at p2'; exact p2'.elim
        | ok σ4 =>
          rw [eg] at p2'; dsimp only at p2'
          intro σ4' s4 on4
          refine ⟨wipe_eq on4 hts, ht ρ2 pv S3 H3 σ4 σ4' _ s4 ?_⟩
          have g3 : Grw ρ S H ρ2 S3 H3 := g2.trans q3.grw
          cases et : ttx.f σ4 with
          | bad => rw [et] at p2'; exact p2'.elim
          | err c σ5 =>
            rw [et] at p2'; exact p2'.elim
          | ok k σ5 =>
            rw [et] at p2'; dsimp only at p2'
            intro ρ5 S5 H5 g5 s5 _
            have d3 := q3.h D _ d2
            have n3 := q3.n D _ d2 n2
            have d5 := g5.h D _ d3 r2
            have n5 := g5.n D _ d3 n3 r2
            have r5 := g5.f D _ d3 r2
            have x5 : Ex S1 S5 := (x2.trans q3.s).trans g5.s
            cases k with
            | false =>
              simp only [Bool.false_eq_true, if_false] at p2' ⊢
              exact ⟨ρ5, S5, _, acc, vacc, g3.trans g5, x5, s2.back ea (q3.s.trans g5.s) s5 on4 hts, d5, n5, r5, f2.mono (q3.s.trans g5.s), p2'⟩
            | true =>
              simp only [if_true] at p2' ⊢
              refine hx ρ5 pv S5 H5 σ5 σ4' _ s5 ?_
              cases ex : x.f σ5 with
              | bad => rw [ex] at p2'; exact p2'.elim
              | err c σ6 =>
                rw [ex] at p2'; exact p2'.elim
              | ok o σ6 =>
                rw [ex] at p2'
                cases o with
                | val ev =>
                  dsimp only at p2'
                  intro ρ6 S6 H6 yv p6 g6 s6 w6 _
                  have d6 := g6.h D _ d5 r5
                  have n6 := g6.n D _ d5 n5 r5
                  have r6 := g6.f D _ d5 r5
                  unfold Ow at w6
                  have e36 : Ex S2 S6 := (q3.s.trans g5.s).trans g6.s
                  by_cases hc : acc.length < sizeLine
                  · rw [if_pos hc] at p2'
                    refine ⟨vacc, d6, by rw [← f2.len]; exact hc, ρ6, S6, _, acc ++ [ev], vacc ++ [yv], ((g3.trans g5).trans g6).updOut hH, x5.trans g6.s, (s2.back ea e36 s6 on4 hts).updOut r6 n6, upd_same, n6, r6, (f2.mono e36).app (.one w6), p2'⟩
                  · rw [if_neg hc] at p2'; exact p2'.elim
                | _ => exact p2'.elim
    · rintro Hc ⟨ρ2, S2, σV2, acc, vacc, g2, x2, s2, d2, n2, r2, f2, p2⟩
      have p2' : FPost K W ρ pv S H σ false σV Q (match lcL vs g ttx x (ds.drop ds.length) σV2 acc with
        | .ok acc σ2 => .ok (.ol acc) σ2
        | .err c σ2 => .err c σ2
        | .bad => .bad) := p2
      rw [List.drop_length] at p2'
      have n0 : ∀ a o, H a = some o → ρ a = none → a ≠ D := fun a o h r z => hH o (z ▸ h) (z ▸ r)
      refine p2' ρ2 S2 Hc (.ref D) (rhoNew D) g2 s2 ⟨fun a q h => ?_, fun a q h => ?_, fun a o h r => ?_⟩ ?_ fun z => by cases z
      · unfold rhoNew at h
        by_cases z : a = D
        · subst z; exact ⟨n2, _, d2⟩
        · rw [if_neg z] at h; cases h
      · unfold rhoNew at h
        by_cases z : a = D
        · subst z; exact r2
        · rw [if_neg z] at h; cases h
      · unfold rhoNew; rw [if_neg (n0 a o h r)]
      · unfold Ow
        exact ⟨D, vacc, rfl, rhoNew_at, d2, f2⟩
end
end VL
set_option maxRecDepth 100000
set_option maxHeartbeats 4000000
/-! V8: what loops walk over; slices; list(range(..)) -/
namespace L2
open PySem PySem.Spec PyProof.Rows
section
variable {X : Cx} {tg : Expr}
/-- a list or a tuple walked -/
def iSeq (K : PySem.W.Frag) (tl : TE) : TI := fun σ H R => tl σ H fun x H1 => ∃ a, x = .ref a ∧ (((∃ xs, SqL K H1 a xs) ∧ R (Itl K a) H1) ∨ ((∃ xs, SqT K H1 a xs) ∧ R (Itt K a) H1))
theorem pi_seq {l : Expr} {tl : TE} (hl : PE X l tl) : PI X tg l (iSeq X.K tl) := by
  refine ⟨fun pins s σ H R I h => ?_⟩
  refine thn (hl.run pins s σ H _ I h) fun v s1 ⟨x, H1, I1, r1, q1⟩ => ?_
  obtain ⟨a, e, q⟩ := q1
  subst e
  cases r1
  rcases q with ⟨⟨xs, hq⟩, q⟩ | ⟨⟨xs, hq⟩, q⟩
  · obtain ⟨its, rv, p, hz⟩ := I1.list hq
    refine wpAny_pyIter_list p.isList ?_
    refine ⟨s1.heap.objs.size, [s1.heap.objs.size], _, _, H1, rfl, I1.kept (t' := s1.toks) fun b o e => Heap.get?_push_of_some _ e, turn_list a _, ⟨_, Heap.get?_push_size _ rfl, rfl, rfl⟩, fun b hb => ?_, q⟩
    have e : b = s1.heap.objs.size := by simpa using hb
    subst e
    exact I1.fpOk (Nat.le_refl _) (I1.hok.fresh (Nat.le_refl _))
  · obtain ⟨its, rv, p, hz⟩ := I1.tuple hq
    refine wpAny_pyIter_tuple (show s1.heap.IsTuple a its.toArray from p) ?_
    refine ⟨s1.heap.objs.size, [s1.heap.objs.size], _, _, H1, rfl, I1.kept (t' := s1.toks) fun b o e => Heap.get?_push_of_some _ e, turn_tuple a _, ⟨_, Heap.get?_push_size _ rfl, rfl, rfl⟩, fun b hb => ?_, q⟩
    have e : b = s1.heap.objs.size := by simpa using hb
    subst e
    exact I1.fpOk (Nat.le_refl _) (I1.hok.fresh (Nat.le_refl _))
end
end L2
namespace VL
open PySem L2
section
variable {K : Frag} {W : WX}
def ixSeq (x : VX) : IX := fun σ => match x.f σ with
  | .ok (.val (.lst ds)) σ1 => .ok ds σ1
  | .ok (.val (.rd ds)) σ1 => .ok ds σ1
  | .ok (.val (.tup ds)) σ1 => .ok ds σ1
  | .ok _ _ => .bad
  | .err c σ1 => .err c σ1
  | .bad => .bad
theorem yAt_post {S' : Hp} {ds : List D} {vs : List V} (f : FzL K S' ds vs) : ∀ S2 H2 i x H3, i < ds.length → Ex S' S2 → Ex S2 H2 → YAt vs i H2 x H3 → ∃ S3 d, Quiet S2 H2 S3 H3 ∧ Ex S3 H3 ∧ ds[i]? = some d ∧ Fz K S3 d x := fun S2 H2 i x H3 _ e1 e2 y => by
  obtain ⟨rfl, hx⟩ := y
  obtain ⟨d, hd, q⟩ := f.getV hx
  exact ⟨S2, d, .refl, e2, hd, q.mono e1⟩
theorem sim_iSeq {te : TE} {x : VX} (hx : SimX K W te x) : SimI K W (iSeq K te) (ixSeq x) := fun ρ pv S H σV σ R s h => by
  refine hx ρ pv S H σV σ _ s ?_
  unfold ixSeq at h
  cases e : x.f σV with
  | bad => rw [e] at h; exact h
  | err c σ1 => rw [e] at h; exact h
  | ok o σ1 =>
    rw [e] at h
    intro ρ1 S1 H1 v p g1 s1 w1 _
    have ex := s1.w.ex
    cases o with
    | val d =>
      unfold Ow at w1
      cases d with
      | lst ds =>
        unfold Fz at w1
        obtain ⟨a, vs, rfl, h1, f⟩ := w1
        refine ⟨a, rfl, .inl ⟨⟨vs, SqL.of (ex _ _ h1)⟩, h ρ1 S1 H1 _ _ _ g1 s1 (f.len ▸ walk_list) (fun S2 H2 e1 e2 => SqL.of (e2 _ _ (e1 _ _ h1))) (yAt_post f)⟩⟩
      | rd ds =>
        unfold Fz at w1
        obtain ⟨a, vs, rfl, h1, f⟩ := w1
        refine ⟨a, rfl, .inl ⟨⟨vs, ex.sqL h1⟩, h ρ1 S1 H1 _ _ _ g1 s1 (f.len ▸ walk_list) (fun S2 H2 e1 e2 => e2.sqL (e1.sqL h1)) (yAt_post f)⟩⟩
      | tup ds =>
        unfold Fz at w1
        obtain ⟨a, vs, rfl, h1, f⟩ := w1
        refine ⟨a, rfl, .inr ⟨⟨vs, SqT.of (ex _ _ h1)⟩, h ρ1 S1 H1 _ _ _ g1 s1 (f.len ▸ walk_tup) (fun S2 H2 e1 e2 => SqT.of (e2 _ _ (e1 _ _ h1))) (yAt_post f)⟩⟩
      | _ => exact h.elim
    | _ => exact h.elim
def rngD (lo : Int) (n : Nat) : List D := (List.range n).map fun i => D.int (lo + (i : Nat))
theorem rngD_len {lo : Int} {n : Nat} : (rngD lo n).length = n := by simp [rngD]
def sm62 (i : Int) : Bool := bnd 4611686018427387903 i
theorem sm62_ok {i : Int} (h : sm62 i = true) : -(2 ^ 62) ≤ i ∧ i < 2 ^ 62 := by
  have := bnd_iff.mp h
  omega
theorem sm62_in {i : Int} (h : -(2 ^ 62) < i) (h2 : i < 2 ^ 62) : sm62 i = true := bnd_iff.mpr (by omega)
/-- range(..) walked -/
def ixRng (a : AX) : IX := fun σ => match a.f σ with
  | .ok [.val (.int j)] σ1 => if sm62 j = true then .ok (rngD 0 j.toNat) σ1 else .bad
  | .ok [.val (.int i), .val (.int j)] σ1 => if sm62 i = true ∧ sm62 j = true then .ok (rngD i (j - i).toNat) σ1 else .bad
  | .ok _ _ => .bad
  | .err c σ1 => .err c σ1
  | .bad => .bad
theorem rng_post {S' : Hp} {lo : Int} {n : Nat} : ∀ S2 H2 i x H3, i < (rngD lo n).length → Ex S' S2 → Ex S2 H2 → YFn (fun i => .int (lo + i)) i H2 x H3 → ∃ S3 d, Quiet S2 H2 S3 H3 ∧ Ex S3 H3 ∧ (rngD lo n)[i]? = some d ∧ Fz K S3 d x := fun S2 H2 i x H3 hi _ e2 y => by
  obtain ⟨rfl, rfl⟩ := y
  rw [rngD_len] at hi
  refine ⟨S2, .int (lo + i), .refl, e2, ?_, by unfold Fz; rfl⟩
  unfold rngD
  rw [List.getElem?_map, List.getElem?_range hi]; rfl
theorem owI {ρ : Rho} {S H : Hp} {i : Int} {v : V} {p : Path} (h : Ow K ρ S H (.val (.int i)) v p) : v = .int i := by unfold Ow Fz at h; exact h
theorem sim_iRng1 {ta : TA} {a : AX} (ha : SimA K W ta a) (hn : ∀ σ os σ1, a.f σ = .ok os σ1 → os.length = 1) : SimI K W (iRng1 ta) (ixRng a) := fun ρ pv S H σV σ R s h => by
  refine ha ρ pv S H σV σ _ s ?_
  unfold ixRng at h
  cases e : a.f σV with
  | bad => rw [e] at h; exact h
  | err c σ1 => rw [e] at h; exact h
  | ok os σ1 =>
    have hl := hn _ _ _ e
    rw [e] at h
    intro ρ1 S1 H1 vs g1 s1 w1 _
    split at h
    · rename_i j σ2 e2
      cases e2
      obtain ⟨v, vs', rfl, ⟨p, w⟩, w2⟩ := w1
      cases owI w
      cases w2
      cases hj : sm62 j with
      | false => rw [hj] at h; exact h.elim
      | true =>
        rw [hj] at h; simp only [if_true] at h
        obtain ⟨h1, h2⟩ := sm62_ok hj
        exact ⟨j, rfl, h1, h2, h ρ1 S1 H1 _ _ _ g1 s1 (rngD_len.symm ▸ walk_range) (fun _ _ _ _ => trivial) rng_post⟩
    · rename_i i j σ2 e2
      cases e2
      simp at hl
    · exact h.elim
    · rename_i e2; cases e2
    · rename_i e2; cases e2
theorem sim_iRng2 {ta : TA} {a : AX} (ha : SimA K W ta a) (hn : ∀ σ os σ1, a.f σ = .ok os σ1 → os.length = 2) : SimI K W (iRng2 ta) (ixRng a) := fun ρ pv S H σV σ R s h => by
  refine ha ρ pv S H σV σ _ s ?_
  unfold ixRng at h
  cases e : a.f σV with
  | bad => rw [e] at h; exact h
  | err c σ1 => rw [e] at h; exact h
  | ok os σ1 =>
    have hl := hn _ _ _ e
    rw [e] at h
    intro ρ1 S1 H1 vs g1 s1 w1 _
    split at h
    · rename_i j σ2 e2
      cases e2
      simp at hl
    · rename_i i j σ2 e2
      cases e2
      obtain ⟨v, vs', rfl, ⟨p, w⟩, v2, vs2, rfl, ⟨p2, w2⟩, w3⟩ := w1
      cases owI w
      cases owI w2
      cases w3
      by_cases hj : sm62 i = true ∧ sm62 j = true
      · rw [if_pos hj] at h
        obtain ⟨h1, h2⟩ := sm62_ok hj.1
        obtain ⟨h3, h4⟩ := sm62_ok hj.2
        exact ⟨i, j, rfl, ⟨h1, h2, h3, h4⟩, h ρ1 S1 H1 _ _ _ g1 s1 (rngD_len.symm ▸ walk_range) (fun _ _ _ _ => trivial) rng_post⟩
      · rw [if_neg hj] at h; exact h.elim
    · exact h.elim
    · rename_i e2; cases e2
    · rename_i e2; cases e2
/-- how many arguments -/
structure NA (a : AX) (n : Nat) : Prop where
  l : ∀ σ os σ1, a.f σ = .ok os σ1 → os.length = n
theorem na_nil : NA aNil 0 := ⟨fun σ os σ1 h => by cases h; rfl⟩
theorem na_cons {x : VX} {a : AX} {n : Nat} (h : NA a n) : NA (aCons x a) (n + 1) := ⟨fun σ os σ1 e => by
  unfold aCons at e
  dsimp only at e
  split at e
  · rename_i o σ2 e1
    split at e
    · rename_i os2 σ3 e2
      split at e
      · cases e
        simp [h.l _ _ _ e2]
      · cases e
    · cases e
    · cases e
  · cases e
  · cases e⟩
end
end VL
set_option maxRecDepth 100000
set_option maxHeartbeats 4000000
/-! V9: list(range(..)), reversed copies, slices, attributes -/
namespace L2
open PySem PySem.Spec PyProof.Rows
theorem PE.imp {X : Cx} {e : Expr} {t t' : TE} (h : PE X e t) (hi : ∀ σ H Q, t' σ H Q → t σ H Q) : PE X e t' := ⟨fun pins s σ H Q I q => h.run pins s σ H Q I (hi σ H Q q)⟩
def rRg1 : V → Hp → VK → Prop := fun x H Q => ∃ n, x = .int n ∧ RgOk 0 n ∧ ∀ q, H q = none → Q (.ref q) (upd H q (.lst (rgV 0 n)))
def rRg2 : R2 := fun x y H Q => ∃ i j, x = .int i ∧ y = .int j ∧ RgOk i j ∧ ∀ q, H q = none → Q (.ref q) (upd H q (.lst (rgV i j)))
theorem tRg1_eq {ta : TE} : tLstRg (tRg1 ta) = tUn rRg1 ta := rfl
theorem tRg2_eq {ta tb : TE} : tLstRg (tRg2 ta tb) = tOp rRg2 ta tb := rfl
def rRevA (K : PySem.W.Frag) : V → Hp → VK → Prop := fun x H Q => ∃ a xs, x = .ref a ∧ SqL K H a xs ∧ ∀ p, H p = none → Q (.ref p) (upd H p (.lst xs.reverse))
theorem tRevL_eq {K : PySem.W.Frag} {te : TE} : tRevL K te = tUn (rRevA K) te := rfl
def rFld (K : PySem.W.Frag) (f : Str) : V → Hp → VK → Prop := fun x H Q => ∃ a C dx fs v, x = .ref a ∧ H a = some (.ins C dx fs) ∧ Cls K C ∧ NoAttr K C f ∧ fs.lookup f = some v ∧ Q v H
theorem tFld_eq {K : PySem.W.Frag} {te : TE} {f : Str} : tFld K te f = tUn (rFld K f) te := rfl
/-- a slice of a list or a tuple -/
def rSlU (K : PySem.W.Frag) : V → Option Int → Option Int → Hp → VK → Prop := fun x lo hi H Q => rSlL K x lo hi H Q ∨ rSlA K x lo hi H Q
theorem sl_U {X : Cx} : SlR X (rSlU X.K) := SlR.or sl_list sl_tupA
end L2
namespace VL
open PySem L2
section
variable {K : Frag} {W : WX} {te tb : TE} {x y : VX}
theorem sim_unF {r : V → Hp → VK → Prop} {f : List O → QR O} (hr : SimRF K (r1l r) f) (hx : SimX K W te x) : SimF K W (tUn r te) (v1 f x) :=
  sim_appF (r := r1l r) (sim_cons hx sim_nil) hr
theorem sim_opF {r : R2} {f : List O → QR O} (hr : SimRF K (r2l r) f) (hx : SimX K W te x) (hy : SimX K W tb y) : SimF K W (tOp r te tb) (v2 f x y) :=
  sim_appF (r := r2l r) (sim_cons hx (sim_cons hy sim_nil)) hr
/-- a value, as something new -/
def vVal (x : VX) : VX := ⟨x.q, fun σ => match x.f σ with
  | .ok (.val d) σ1 => .ok (.val d) σ1
  | .ok _ _ => .bad
  | .err c σ1 => .err c σ1
  | .bad => .bad⟩
theorem sim_val (hx : SimX K W te x) : SimF K W te (vVal x) := fun ρ pv S H σV σ Q s h => by
  refine hx ρ pv S H σV σ Q s ?_
  unfold vVal at h; dsimp only at h
  cases e : x.f σV with
  | bad => rw [e] at h; exact h
  | err c σ1 => rw [e] at h; exact h
  | ok o σ1 =>
    rw [e] at h
    cases o with
    | val d => exact fun ρ1 S1 H1 v p g1 s1 w1 q1 => h ρ1 S1 H1 v (fun _ => none) g1 s1 ⟨fun _ _ h => (by cases h), fun _ _ h => (by cases h), fun _ _ _ _ => rfl⟩ (by unfold Ow at *; exact w1) fun hq => ⟨q1 hq, fun _ _ _ => rfl⟩
    | _ => exact h.elim
theorem RFPost.val {ρ : Rho} {S H : Hp} {Q : V → Hp → Prop} {d : D} {v : V} (w : Wf ρ S H) (h : RFPost K ρ S H Q (.ok (.val d))) (z : Fz K S d v) : Q v H :=
  h S H v (fun _ => none) .refl w.ex (fun _ _ _ => rfl) (fun _ _ h => by cases h) (by unfold Ow; exact z)
theorem RFPost.tup {ρ : Rho} {S H : Hp} {Q : V → Hp → Prop} {ds : List D} {a : Addr} {vs : List V} (w : Wf ρ S H) (ha : H a = none) (h : RFPost K ρ S H Q (.ok (.val (.tup ds)))) (z : FzL K S ds vs) : Q (.ref a) (upd H a (.tup vs)) := by
  have hS : S a = none := w.ex.back ha
  refine h (upd S a (.tup vs)) (upd H a (.tup vs)) (.ref a) (fun _ => none) ⟨.new hS, .new ha, fun b o hb hs => ?_, fun f => f.new⟩ (fun b o hb => ?_) (fun _ _ _ => rfl) (fun _ _ h => by cases h) (.v ?_)
  · rw [upd_ne (ne_of_none hb ha)]; exact hs
  · by_cases e : b = a
    · subst e; rw [upd_same] at hb ⊢; exact hb
    · rw [upd_ne e] at hb ⊢; exact w.ex _ _ hb
  · unfold Fz
    exact ⟨a, vs, rfl, upd_same, z.mono (.new hS)⟩
/-! ### list(range(..)) -/
def rgOk (a b : Int) : Bool := bnd 4611686018427387903 a && (bnd 4611686018427387903 b && Nat.ble (b - a).toNat 16777216)
def fRg1 : List O → QR O
  | [.val (.int n)] => if rgOk 0 n = true then .ok (.ol (rngD 0 n.toNat)) else .bad
  | _ => .bad
def fRg2 : List O → QR O
  | [.val (.int i), .val (.int j)] => if rgOk i j = true then .ok (.ol (rngD i (j - i).toNat)) else .bad
  | _ => .bad
theorem rgOk_ok {a b : Int} (h : rgOk a b = true) : RgOk a b := by
  unfold rgOk at h
  rw [Bool.and_eq_true, Bool.and_eq_true, bnd_iff, bnd_iff, Nat.ble_eq] at h
  unfold RgOk
  omega
theorem rgOk_in {a b : Int} (h1 : -1000000 ≤ a) (h2 : a ≤ 1000000) (h3 : -1000000 ≤ b) (h4 : b ≤ 1000000) : rgOk a b = true := by
  unfold rgOk
  rw [Bool.and_eq_true, Bool.and_eq_true, bnd_iff, bnd_iff, Nat.ble_eq]
  omega
theorem rgV_fz {S : Hp} {a b : Int} : FzL K S (rngD a (b - a).toNat) (rgV a b) := by
  refine FzL.of (by rw [rngD_len, rgV_length]) fun i d v h1 h2 => ?_
  unfold rngD at h1
  unfold rgV at h2
  rw [List.getElem?_map] at h1 h2
  obtain ⟨k, e1, rfl⟩ := Option.map_eq_some_iff.mp h1
  rw [e1] at h2
  cases h2
  unfold Fz; rfl
theorem s_rg1 : SimRF K (r1l rRg1) fRg1 := fun ρ S H os vs Q w wa h => by
  unfold fRg1 at h
  split at h
  · rename_i n
    obtain ⟨v, p, rfl, h1⟩ := wa.one
    cases owI h1
    by_cases c : rgOk 0 n = true
    · rw [if_pos c] at h
      refine ⟨n, rfl, rgOk_ok c, fun q hq => RFPost.lst w hq h ?_⟩
      have := rgV_fz (K := K) (S := S) (a := 0) (b := n)
      rwa [Int.sub_zero] at this
    · rw [if_neg c] at h; exact h.elim
  · exact h.elim
theorem s_rg2 : SimRF K (r2l rRg2) fRg2 := fun ρ S H os vs Q w wa h => by
  unfold fRg2 at h
  split at h
  · rename_i i j
    obtain ⟨v, p, v2, p2, rfl, h1, h2⟩ := wa.two
    cases owI h1
    cases owI h2
    by_cases c : rgOk i j = true
    · rw [if_pos c] at h
      exact ⟨i, j, rfl, rfl, rgOk_ok c, fun q hq => RFPost.lst w hq h rgV_fz⟩
    · rw [if_neg c] at h; exact h.elim
  · exact h.elim
/-! ### [::-1] of a list -/
theorem FzL.rev {S : Hp} : ∀ {ds : List D} {vs : List V}, FzL K S ds vs → FzL K S ds.reverse vs.reverse
  | [], _, h => by cases h.unnil; exact .nil
  | d :: ds, _, h => by
    obtain ⟨v, vs', rfl, h1, h2⟩ := h.uncons
    rw [List.reverse_cons, List.reverse_cons]
    exact (FzL.rev h2).app (.one h1)
def fRev : List O → QR O
  | [o] => match sqO o with
    | some ds => .ok (.ol ds.reverse)
    | none => .bad
  | _ => .bad
theorem s_rev : SimRF K (r1l (rRevA K)) fRev := fun ρ S H os vs Q w wa h => by
  unfold fRev at h
  split at h
  · rename_i o
    obtain ⟨v, p, rfl, h1⟩ := wa.one
    cases e : sqO o with
    | none => rw [e] at h; exact h.elim
    | some ds =>
      rw [e] at h
      obtain ⟨a, xs, rfl, q1, q2⟩ := sqO_ok w h1 e
      exact ⟨a, xs, rfl, q1, fun l hl => RFPost.lst w hl h q2.rev⟩
  · exact h.elim
/-! ### slices -/
structure OX where
  q : Bool
  f : VS → XR (Option Int)
def OPost (K : Frag) (W : WX) (ρ : Rho) (pv : Nat → Option V) (S H : Hp) (σ : St) (q : Bool) (σ0 : VS) (Q : Option Int → Hp → Prop) : XR (Option Int) → Prop
  | .ok o σ1 => ∀ ρ' S' H', Grw ρ S H ρ' S' H' → StR K ρ' pv S' H' σ1 σ → (q = true → ρ' = ρ ∧ σ1 = σ0 ∧ Quiet S H S' H') → Q o H'
  | .err c σ1 => ∀ ρ' S' H', Grw ρ S H ρ' S' H' → StR K ρ' pv S' H' σ1 σ → EC K W c σ H'
  | .bad => False
def SimO (K : Frag) (W : WX) (to : TO) (x : OX) : Prop := ∀ ρ pv S H σV σ Q, StR K ρ pv S H σV σ → OPost K W ρ pv S H σ x.q σV Q (x.f σV) → to σ H Q
def oNo : OX := ⟨true, fun σ => .ok none σ⟩
def oPart (x : VX) : OX := ⟨x.q, fun σ => match x.f σ with
  | .ok (.val (.int i)) σ1 => .ok (some i) σ1
  | .ok _ _ => .bad
  | .err c σ1 => .err c σ1
  | .bad => .bad⟩
theorem sim_oNo : SimO K W tNoPart oNo := fun ρ pv S H σV σ Q s h => h ρ S H .refl s fun _ => ⟨rfl, rfl, .refl⟩
theorem sim_oPart (hx : SimX K W te x) : SimO K W (tPart te) (oPart x) := fun ρ pv S H σV σ Q s h => by
  refine hx ρ pv S H σV σ _ s ?_
  unfold oPart at h; dsimp only at h
  cases e : x.f σV with
  | bad => rw [e] at h; exact h
  | err c σ1 => rw [e] at h; exact h
  | ok o σ1 =>
    rw [e] at h
    split at h
    · rename_i i σ2 e2
      cases e2
      exact fun ρ1 S1 H1 v p g1 s1 w1 q1 => ⟨i, owI w1, h ρ1 S1 H1 g1 s1 q1⟩
    · exact h.elim
    · rename_i e2; cases e2
    · rename_i e2; cases e2
def cutD (ds : List D) (lo hi : Option Int) : List D := (ds.drop (HT.sIx ds.length 0 lo)).take (HT.sIx ds.length ds.length hi - HT.sIx ds.length 0 lo)
theorem FzL.cut {S : Hp} {ds : List D} {vs : List V} (f : FzL K S ds vs) (lo hi : Option Int) : FzL K S (cutD ds lo hi) (cutV vs lo hi) := by
  unfold cutD cutV
  rw [f.len]
  exact (f.drop _).take _
def cutO (o : O) (lo hi : Option Int) : QR O := match o with
  | .val (.tup ds) => .ok (.val (.tup (cutD ds lo hi)))
  | o => match sqO o with
    | some ds => .ok (.ol (cutD ds lo hi))
    | none => .bad
theorem s_cut {ρ : Rho} {S H : Hp} {o : O} {v : V} {p : Path} {lo hi : Option Int} {Q : V → Hp → Prop} (w : Wf ρ S H) (h1 : Ow K ρ S H o v p) (h : RFPost K ρ S H Q (cutO o lo hi)) : rSlU K v lo hi H Q := by
  unfold cutO at h
  split at h
  · rename_i ds
    unfold Ow Fz at h1
    obtain ⟨a, vs, rfl, e1, f⟩ := h1
    refine .inr ⟨a, vs, rfl, SqT.of (w.ex _ _ e1), fun hw => ?_, fun _ q hq => RFPost.tup w hq h (f.cut lo hi)⟩
    refine RFPost.val w h ?_
    unfold Fz
    refine ⟨a, vs, rfl, e1, ?_⟩
    have : cutD ds lo hi = ds := by
      unfold cutD
      rw [f.len, hw.1, hw.2]
      simp [← f.len]
    rw [this]; exact f
  · cases e : sqO o with
    | none => rw [e] at h; exact h.elim
    | some ds =>
      rw [e] at h
      obtain ⟨a, xs, rfl, q1, q2⟩ := sqO_ok w h1 e
      exact .inl ⟨a, xs, rfl, q1, fun l hl => RFPost.lst w hl h (q2.cut lo hi)⟩
def vSl (x : VX) (l u : OX) : VX := ⟨x.q, fun σ => match x.f σ with
  | .ok o σ1 => if (l.q && u.q) = true then (match l.f σ1 with
    | .ok lo σ2 => (match u.f σ2 with
      | .ok hi σ3 => (match cutO o lo hi with
        | .ok r => .ok r σ3
        | .bad => .bad)
      | .err c σ3 => .err c σ3
      | .bad => .bad)
    | .err c σ2 => .err c σ2
    | .bad => .bad) else .bad
  | .err c σ1 => .err c σ1
  | .bad => .bad⟩
theorem sim_sl {tl th : TO} {l u : OX} (hx : SimX K W te x) (hl : SimO K W tl l) (hu : SimO K W th u) : SimF K W (tSl (rSlU K) te tl th) (vSl x l u) := fun ρ pv S H σV σ Q s h => by
  refine hx ρ pv S H σV σ _ s ?_
  unfold vSl at h; dsimp only at h
  cases e : x.f σV with
  | bad => rw [e] at h; exact h
  | err c σ1 => rw [e] at h; exact h
  | ok o σ1 =>
    rw [e] at h; dsimp only at h
    intro ρ1 S1 H1 v p g1 s1 w1 q1
    by_cases hq : (l.q && u.q) = true
    · rw [if_pos hq] at h
      obtain ⟨ql, qu⟩ := Bool.and_eq_true_iff.mp hq
      refine hl ρ1 pv S1 H1 σ1 σ _ s1 ?_
      cases e2 : l.f σ1 with
      | bad => rw [e2] at h; exact h
      | err c σ2 => rw [e2] at h; exact fun ρ2 S2 H2 g2 s2 => h ρ2 S2 H2 (g1.trans g2) s2
      | ok lo σ2 =>
        rw [e2] at h; dsimp only at h
        intro ρ2 S2 H2 g2 s2 q2
        obtain ⟨a1, a2, a3⟩ := q2 ql
        subst a1 a2
        refine hu ρ2 pv S2 H2 σ2 σ _ s2 ?_
        cases e3 : u.f σ2 with
        | bad => rw [e3] at h; exact h
        | err c σ3 => rw [e3] at h; exact fun ρ3 S3 H3 g3 s3 => h ρ3 S3 H3 ((g1.trans g2).trans g3) s3
        | ok hi σ3 =>
          rw [e3] at h; dsimp only at h
          intro ρ3 S3 H3 g3 s3 q3
          obtain ⟨b1, b2, b3⟩ := q3 qu
          subst b1 b2
          have w3 := (w1.quiet s1.w a3).quiet s2.w b3
          refine s_cut s3.w w3 ?_
          cases e4 : cutO o lo hi with
          | bad => rw [e4] at h; exact h
          | ok r =>
            rw [e4] at h; dsimp only at h
            intro S4 H4 v4 ρ4 q4 ex n wf w4
            refine h ρ3 S4 H4 v4 ρ4 (((g1.trans g2).trans g3).trans q4.grw) (s3.quiet q4 ex) ⟨wf, fun a r h => ?_, fun a o h r => ?_⟩ w4 fun hq => ?_
            · cases e5 : ρ3 a with
              | none => rfl
              | some r' =>
                obtain ⟨_, o, ho⟩ := s3.w.wf a r' e5
                rw [n a o ho] at h; cases h
            · exact n a o (((g1.trans g2).trans g3).h a o h r)
            · obtain ⟨c1, c2, c3⟩ := q1 hq
              have qq := (c3.trans a3).trans b3
              exact ⟨⟨c1, c2, qq.trans q4⟩, fun a o h => n a o (qq.h a o h)⟩
    · rw [if_neg hq] at h; exact h.elim
/-! ### attributes -/
/-- the classes whose instances may stand there, their facts -/
structure ClsA (K : Frag) (C f : Str) : Prop where
  c : Cls K (He.ga K C)
  n : NoAttr K (He.ga K C) f
theorem lookup_zip {f : Str} : ∀ {ns : List Str} {vs : List V} {n : Nat} {v : V}, namAt ns f = some n → vs[n]? = some v → (ns.zip vs).lookup f = some v
  | [], _, _, _, h, _ => by simp [namAt] at h
  | m :: ns, [], n, v, _, h => by simp at h
  | m :: ns, w :: vs, n, v, h, hv => by
    unfold namAt at h
    rw [List.findIdx?_cons] at h
    rw [List.zip_cons_cons, List.lookup_cons]
    by_cases e : m = f
    · subst e
      simp at h
      subst h
      simp at hv
      subst hv
      simp
    · simp [e] at h
      obtain ⟨k, hk, rfl⟩ := h
      have e' : (f == m) = false := by simpa using fun z => e z.symm
      rw [e']
      exact lookup_zip hk (by simpa using hv)
def fFld (C f : Str) : List O → QR O
  | [.val (.obj C' ns ds)] => if C' = C then (match (namAt ns f).bind fun n => ds[n]? with
    | some d => .ok (.val d)
    | none => .bad) else .bad
  | [.ob C' ns os] => if C' = C then (match (namAt ns f).bind fun n => os[n]? with
    | some o => .ok o
    | none => .bad) else .bad
  | _ => .bad
theorem s_fld {C f : Str} (c : ClsA K C f) : SimR K (r1l (rFld K f)) (fFld C f) := fun ρ S H os vs Q w wa h => by
  unfold fFld at h
  split at h
  · rename_i C' ns ds
    obtain ⟨v, p, rfl, h1⟩ := wa.one
    by_cases hc : C' = C
    · subst hc
      rw [if_pos rfl] at h
      cases e : (namAt ns f).bind fun n => ds[n]? with
      | none => rw [e] at h; exact h.elim
      | some d =>
        rw [e] at h
        obtain ⟨n, e1, e2⟩ := Option.bind_eq_some_iff.mp e
        unfold Ow Fz at h1
        obtain ⟨a, dx, vs, rfl, z1, z2, z3, z4⟩ := h1
        obtain ⟨v, hv, fz⟩ := z4.get e2
        exact ⟨a, _, dx, _, v, rfl, w.ex _ _ z1, c.c, c.n, lookup_zip e1 hv, RPost.now (p := []) w h (.v fz)⟩
    · rw [if_neg hc] at h; exact h.elim
  · rename_i C' ns os
    obtain ⟨v, p, rfl, h1⟩ := wa.one
    by_cases hc : C' = C
    · subst hc
      rw [if_pos rfl] at h
      cases e : (namAt ns f).bind fun n => os[n]? with
      | none => rw [e] at h; exact h.elim
      | some o =>
        rw [e] at h
        obtain ⟨n, e1, e2⟩ := Option.bind_eq_some_iff.mp e
        unfold Ow at h1
        obtain ⟨a, dx, vs, rfl, r1, r2, z1, z2, ⟨z3, nd⟩, z4⟩ := h1
        obtain ⟨k, v, hk, hv, w1, _⟩ := z4.upd (nodup_fd nd) e2
        exact ⟨a, _, dx, _, v, rfl, z1, c.c, c.n, lookup_zip e1 hv, RPost.now w h w1⟩
    · rw [if_neg hc] at h; exact h.elim
  · exact h.elim
end
end VL
set_option maxRecDepth 100000
set_option maxHeartbeats 4000000
/-! V10: calls of methods, the making of objects -/
namespace L2
open PySem PySem.Spec PyProof.Rows
section
variable {X : Cx} {CX : CXT} {k : Nat} {f C : Addr} {fd : FuncData} {ps : List Str} {sp : Sp} {E : St → XK} {x m : Str} {p pos apos : Pos} {e o : Expr} {es : List Expr} {ta : TE} {t : TA}
/-- the receiver, then the arguments -/
def tRecv (C : Addr) (m : Str) (ta : TE) (t : TA) : TA := fun σ H Q => ta σ H fun x H1 => ∃ a dx fs, x = .ref a ∧ H1 a = some (.ins C dx fs) ∧ fs.lookup m = none ∧ t σ H1 fun vs H2 => Q (x :: vs) H2
theorem pe_methV {pl : Sem Bool} (he : PE X o ta) (c : Cls X.K C) (hm : Meth X.K C m f) (F : FnOk X.prog X.w X.K X.mg X.base CX k f fd ps sp) (hr : Room k X.A) (hb : Binds X.K fd ps []) (hx : ∀ σ, PassesAt CX X σ (E σ)) (ha : PA X (e :: es) t)
    (hst : starEach (e :: es) X.env = (false, eval e X.env) :: starEach es X.env := by rfl) (hpl : (backTo pos (starEach es X.env)).any (·.1) = false := by rfl)
    (ht : eval (.Call (.Attribute o m apos) (e :: es) [] pos) X.env = (do
      let ov ← eval o X.env
      standAt apos.atName
      let (f, first) ← holding [ov] (getMethod ov m pl)
      callWith pos f first (backTo pos (starEach (e :: es) X.env)) (backToKw pos (keywordEach [] X.env))) := by rfl) :
    PE X (.Call (.Attribute o m apos) (e :: es) [] pos) (tCallS sp E (tRecv C m ta t)) := by
  refine ⟨fun pins s σ H Q I h => ?_⟩
  refine PySem.W.methodCall_KW (pl := pl) (thn (he.run pins s σ H _ I h) fun u s1 ⟨x, H1, I1, rx, a, dx, fs, ex, ea, l, q⟩ => ?_) ht
  subst ex
  obtain rfl : u = Value.ref a := rx
  refine getmeth_ok I1 ea c hm l ?_
  refine PySem.W.callWith_K (first := [.ref a]) (h₀ := X.base) I.ok.mod.kin hm.kp (thn (ha.run pos pins s1 σ H1 _ I1 q) fun us s2 ⟨vs, H2, I2, r, q2⟩ => ⟨I2.kIn, ?_⟩) hst hpl
  exact run_fnS (us := .ref a :: us) (vs := .ref a :: vs) F hr hb (hx σ) I2 (.cons rfl r) q2
theorem pe_methV0 {pl : Sem Bool} (he : PE X o ta) (c : Cls X.K C) (hm : Meth X.K C m f) (F : FnOk X.prog X.w X.K X.mg X.base CX k f fd ps sp) (hr : Room k X.A) (hb : Binds X.K fd ps []) (hx : ∀ σ, PassesAt CX X σ (E σ))
    (ht : eval (.Call (.Attribute o m apos) [] [] pos) X.env = (do
      let ov ← eval o X.env
      standAt apos.atName
      let (f, first) ← holding [ov] (getMethod ov m pl)
      callWith pos f first (backTo pos (starEach [] X.env)) (backToKw pos (keywordEach [] X.env))) := by rfl) :
    PE X (.Call (.Attribute o m apos) [] [] pos) (tCallS sp E (tRecv C m ta tNil)) := by
  refine ⟨fun pins s σ H Q I h => ?_⟩
  refine PySem.W.methodCall_KW (pl := pl) (thn (he.run pins s σ H _ I h) fun u s1 ⟨x, H1, I1, rx, a, dx, fs, ex, ea, l, q⟩ => ?_) ht
  subst ex
  obtain rfl : u = Value.ref a := rx
  refine getmeth_ok I1 ea c hm l ?_
  exact PySem.W.callWith_K0 (first := [.ref a]) I1.kIn hm.kp (run_fnS (us := [.ref a]) (vs := [.ref a]) F hr hb (hx σ) I1 (.cons rfl .nil) q)
theorem run_makeS {pins : List (Addr × Obj)} {σ : St} {H : Hp} {s : Shared} {Q : VK} {us : List Value} {vs : List V} (M : Mk X.K C f) (F : FnOk X.prog X.w X.K X.mg X.base CX k f fd ps sp) (hr : Room (k + 1) X.A) (hb : Binds X.K fd ps [])
    (hx : PassesAt CX X σ (E σ)) (I : Inv X pins σ H s) (r : Vals vs us)
    (h : ∀ x dx, H x = none → H dx = none → dx ≠ x → sp (.ref x :: vs) (upd (upd H dx (.own x)) x (.ins C dx [])) (fun v H2 => v = .non ∧ Q (.ref x) H2) (E σ)) :
    wpAny (model X.prog X.w) X.A (call (.ref C) us) (EP X pins σ Q) X.xe s := by
  have hq := h (s.heap.objs.size + 1) s.heap.objs.size (I.hok.fresh (Nat.le_succ _)) (I.hok.fresh (Nat.le_refl _)) (Nat.ne_of_lt (Nat.lt_succ_self _))
  have I2 := Inv.made (C := C) I
  have r2 : Vals (V.ref (s.heap.objs.size + 1) :: vs) (Value.ref (s.heap.objs.size + 1) :: us) := .cons rfl r
  have hl : (Value.ref (s.heap.objs.size + 1) :: us).length = ps.length := by
    have e := r2.length
    rw [F.len _ _ _ _ hq] at e
    exact e.symm
  have b := hb _ (Value.ref (s.heap.objs.size + 1) :: us) I2.kIn (by rw [List.append_nil]; exact hl)
  rw [List.append_nil] at b
  refine wpAny_call (make_map (f := f) I.kIn M.makes M.init (beq_iff_eq.mp M.fn) (codeAny_mono (F.run _ X.stack _ _ ⟨Value.ref (s.heap.objs.size + 1) :: us, []⟩ (Value.ref (s.heap.objs.size + 1) :: us) _ _ (E σ) (hr.make C us [])
    (I2.env0.make C us []) b r2 hq) fun r s' hq' => ?_))
  cases r with
  | error e => exact hx pins _ _ e s' I2 hq'
  | ok fl =>
    cases fl with
    | ret u =>
      obtain ⟨v, H', I3, rv, ev, q3⟩ := I2.after hq'
      subst ev
      exact ⟨rv, ⟨V.ref (s.heap.objs.size + 1), H', I3, rfl, q3⟩⟩
    | next => exact False.elim hq'
    | brk => exact False.elim hq'
    | cont => exact False.elim hq'
def tMakeS (C : Addr) (sp : Sp) (E : St → XK) (t : TA) : TE := fun σ H Q => t σ H fun vs H1 => ∀ x dx, H1 x = none → H1 dx = none → dx ≠ x →
  sp (.ref x :: vs) (upd (upd H1 dx (.own x)) x (.ins C dx [])) (fun v H2 => v = .non ∧ Q (.ref x) H2) (E σ)
theorem pe_makeV (M : Mk X.K C f) (F : FnOk X.prog X.w X.K X.mg X.base CX k f fd ps sp) (hr : Room (k + 1) X.A) (hg : Gl X x) (hm : X.mg x = some (.ref C)) (hb : Binds X.K fd ps []) (hx : ∀ σ, PassesAt CX X σ (E σ))
    (ha : PA X (e :: es) t) (hdb : (x == ("__debug__" : Str)) = false := by decide) (he : starEach (e :: es) X.env = (false, eval e X.env) :: starEach es X.env := by rfl) (hpl : (backTo pos (starEach es X.env)).any (·.1) = false := by rfl) :
    PE X (.Call (.Name x p) (e :: es) [] pos) (tMakeS C sp E t) := by
  refine ⟨fun pins s σ H Q I h => ?_⟩
  refine wpAny_Call_Name_kw (ld_glob I hg hm ?_ hdb)
  refine PySem.W.callWith_K (h₀ := X.base) I.ok.mod.kin M.kp (thn (ha.run pos pins s σ H _ I h) fun us s1 ⟨vs, H1, I1, r, q⟩ => ⟨I1.kIn, ?_⟩) he hpl
  exact run_makeS M F hr hb (hx σ) I1 r q
end
end L2
namespace VL
open PySem L2
section
variable {K : Frag} {W : WX} {te tb : TE} {ta : TA} {x y : VX} {a : AX}
/-- a frozen receiver -/
def aRecv (C m : Str) (x : VX) (a : AX) : AX := ⟨x.q && a.q, fun σ => match x.f σ with
  | .ok (.val (.obj C' ns ds)) σ1 => if C' = C ∧ namAt ns m = none then (match a.f σ1 with
    | .ok os σ2 => .ok (.val (.obj C' ns ds) :: os) σ2
    | .err c σ2 => .err c σ2
    | .bad => .bad) else .bad
  | .ok _ _ => .bad
  | .err c σ1 => .err c σ1
  | .bad => .bad⟩
theorem lookup_zip_none {f : Str} : ∀ {ns : List Str} {vs : List V}, namAt ns f = none → (ns.zip vs).lookup f = none
  | [], _, _ => rfl
  | m :: ns, [], _ => rfl
  | m :: ns, w :: vs, h => by
    unfold namAt at h
    rw [List.findIdx?_cons] at h
    rw [List.zip_cons_cons, List.lookup_cons]
    by_cases e : m = f
    · simp [e] at h
    · simp [e] at h
      have e' : (f == m) = false := by simpa using fun z => e z.symm
      rw [e']
      refine lookup_zip_none ?_
      unfold namAt
      rw [List.findIdx?_eq_none_iff]
      simpa using h
theorem sim_recv {C m : Str} (hx : SimX K W te x) (ha : SimA K W ta a) : SimA K W (tRecv (He.ga K C) m te ta) (aRecv C m x a) := fun ρ pv S H σV σ Q s h => by
  refine hx ρ pv S H σV σ _ s ?_
  unfold aRecv at h; dsimp only at h
  cases e : x.f σV with
  | bad => rw [e] at h; exact h
  | err c σ1 => rw [e] at h; exact h
  | ok o σ1 =>
    rw [e] at h
    split at h
    · rename_i C' ns ds σ2 e2
      cases e2
      intro ρ1 S1 H1 v p g1 s1 w1 q1
      by_cases hc : C' = C ∧ namAt ns m = none
      · rw [if_pos hc] at h
        obtain ⟨rfl, hn⟩ := hc
        unfold Ow at w1
        have w1' := w1
        unfold Fz at w1
        obtain ⟨b, dx, vs, rfl, z1, z2, z3, z4⟩ := w1
        refine ⟨b, dx, _, rfl, s1.w.ex _ _ z1, lookup_zip_none hn, ha ρ1 pv S1 H1 σ1 σ _ s1 ?_⟩
        cases e2 : a.f σ1 with
        | bad => rw [e2] at h; exact h
        | err c σ2 => rw [e2] at h; exact fun ρ2 S2 H2 g2 s2 => h ρ2 S2 H2 (g1.trans g2) s2
        | ok os σ2 =>
          rw [e2] at h
          exact fun ρ2 S2 H2 us g2 s2 w2 q2 => h ρ2 S2 H2 (_ :: us) (g1.trans g2) s2 ⟨_, us, rfl, ⟨[], .v (w1'.mono g2.s)⟩, w2⟩ fun hq => by
            obtain ⟨ha, hb⟩ := Bool.and_eq_true_iff.mp hq
            obtain ⟨a1, a2, a3⟩ := q1 ha
            obtain ⟨b1, b2, b3⟩ := q2 hb
            exact ⟨b1.trans a1, b2.trans a2, a3.trans b3⟩
      · rw [if_neg hc] at h; exact h.elim
    · exact h.elim
    · rename_i e2; cases e2
    · rename_i e2; cases e2
theorem na_recv {C m : Str} {n : Nat} (h : NA a n) : NA (aRecv C m x a) (n + 1) := ⟨fun σ os σ1 e => by
  unfold aRecv at e
  dsimp only at e
  split at e
  · split at e
    · split at e
      · rename_i e2
        cases e
        simp [h.l _ _ _ e2]
      · cases e
      · cases e
    · cases e
  · cases e
  · cases e
  · cases e⟩
/-! ### a new object -/
def vMake (C : Str) (m : FS) (a : AX) : VX := ⟨a.q, fun σ => match a.f σ with
  | .ok os σ1 => (match fTup.valsO os with
    | some ds => (match m (.ob C [] [] :: ds.map O.val) with
      | .ok (.val .non) (o :: _) => .ok o σ1
      | .ok _ _ => .bad
      | .err c _ => .err c σ1
      | .bad => .bad)
    | none => .bad)
  | .err c σ1 => .err c σ1
  | .bad => .bad⟩
def rhoObj (x dx : Addr) : Rho := fun a => if a = x ∨ a = dx then some [.ix 0] else none
def strip0 (ρ : Rho) : Rho := fun a => match ρ a with
  | some (.ix 0 :: q) => some q
  | _ => none
theorem strip0_some {ρ : Rho} {a : Addr} {q : Path} (h : strip0 ρ a = some q) : ρ a = some (.ix 0 :: q) := by
  unfold strip0 at h
  split at h
  · rename_i r e; cases h; exact e
  · cases h
theorem strip0_at {ρ : Rho} {a : Addr} {q : Path} (h : ρ a = some (.ix 0 :: q)) : strip0 ρ a = some q := by unfold strip0; simp [h]
theorem strip0_none {ρ : Rho} {a : Addr} (h : ρ a = none) : strip0 ρ a = none := by unfold strip0; simp [h]
theorem valsO_len : ∀ {os : List O} {ds : List D}, fTup.valsO os = some ds → os.length = ds.length := by
  intro os
  induction os with
  | nil => intro ds h; cases h; rfl
  | cons o os ih =>
    intro ds h
    cases o with
    | val d =>
      obtain ⟨es, h1, rfl⟩ := Option.map_eq_some_iff.mp (show (fTup.valsO os).map (d :: ·) = some ds from h)
      simp [ih h1]
    | _ => cases (show none = some ds from h)
theorem sim_make {C : Str} {m : FS} {n : Nat} {md : List Bool} (hmd : md = true :: List.replicate n false) (ha : SimA K W ta a) (hl : NA a n) : SimF K W (tMakeS (He.ga K C) (SpOf K md m) (WE W) ta) (vMake C m a) := fun ρ pv S H σV σ Q s h => by
  refine ha ρ pv S H σV σ _ s ?_
  unfold vMake at h; dsimp only at h
  cases e : a.f σV with
  | bad => rw [e] at h; exact h
  | err c σ1 => rw [e] at h; exact h
  | ok os σ1 =>
    rw [e] at h; dsimp only at h
    intro ρ1 S1 H1 vs g1 s1 w1 q1 x dx hx hdx ne
    cases e2 : fTup.valsO os with
    | none => rw [e2] at h; exact h.elim
    | some ds =>
      rw [e2] at h; dsimp only at h
      have fz := valsO_ok w1 e2
      have ln : ds.length = n := by rw [← valsO_len e2]; exact hl.l _ _ _ e
      have hH : Ex H1 (upd (upd H1 dx (.own x)) x (.ins (He.ga K C) dx [])) := fun b u hb => by
        rw [upd_ne (ne_of_none hb hx), upd_ne (ne_of_none hb hdx)]; exact hb
      have rn : ∀ b u, H1 b = some u → rhoObj x dx b = none := fun b u hb => by
        unfold rhoObj
        rw [if_neg]
        rintro (z | z)
        · exact ne_of_none hb hx z
        · exact ne_of_none hb hdx z
      have Sx : ∀ b q, rhoObj x dx b = some q → S1 b = none ∧ ∃ u, (upd (upd H1 dx (.own x)) x (.ins (He.ga K C) dx [])) b = some u := fun b q hb => by
        unfold rhoObj at hb
        by_cases c : b = x ∨ b = dx
        · rcases c with rfl | rfl
          · exact ⟨s1.w.ex.back hx, _, upd_same⟩
          · exact ⟨s1.w.ex.back hdx, _, by rw [upd_ne ne]; exact upd_same⟩
        · rw [if_neg c] at hb; cases hb
      have wf0 : Wf (rhoObj x dx) S1 (upd (upd H1 dx (.own x)) x (.ins (He.ga K C) dx [])) := ⟨s1.w.ex.trans hH, Sx, (s1.w.ft.upd (by intro vs z; cases z)).upd (by intro vs z; cases z)⟩
      have pre : PreA K (rhoObj x dx) S1 (upd (upd H1 dx (.own x)) x (.ins (He.ga K C) dx [])) md (.ob C [] [] :: ds.map O.val) (.ref x :: vs) := by
        subst hmd
        refine ⟨by simp [ln], by simp [← fz.len, ln], fun i o v h1 h2 => ?_⟩
        cases i with
        | zero =>
          simp at h1 h2
          subst h1 h2
          refine ⟨fun _ => ?_, fun z => by simp at z⟩
          unfold Ow
          refine ⟨x, dx, [], rfl, by unfold rhoObj; rw [if_pos (Or.inl rfl)], by unfold rhoObj; rw [if_pos (Or.inr rfl)], upd_same, by rw [upd_ne ne]; exact upd_same, ⟨rfl, List.nodup_nil⟩, ?_⟩
          unfold OwZ
          exact ⟨rfl, rfl⟩
        | succ i =>
          refine ⟨fun z => ?_, fun _ => ?_⟩
          · rw [List.getElem?_cons_succ, List.getElem?_replicate] at z
            split at z <;> cases z
          · rw [List.getElem?_cons_succ] at h1 h2
            rw [List.getElem?_map] at h1
            obtain ⟨d, e3, rfl⟩ := Option.map_eq_some_iff.mp h1
            obtain ⟨v', e4, f⟩ := fz.get e3
            rw [h2] at e4; cases e4
            exact ⟨d, rfl, f⟩
      refine ⟨rhoObj x dx, S1, .ob C [] [] :: ds.map O.val, wf0, pre, ?_⟩
      have quiet : ∀ {ρ' : Rho} {S' H' : Hp}, Grw (rhoObj x dx) S1 (upd (upd H1 dx (.own x)) x (.ins (He.ga K C) dx [])) ρ' S' H' → Wf ρ' S' H' → Quiet S1 H1 S' H' := fun g w =>
        ⟨g.s, fun b u hb => g.h b u (hH b u hb) (rn b u hb), fun b u hb hs => g.n b u (hH b u hb) hs (rn b u hb), fun _ => w.ft⟩
      cases e3 : m (.ob C [] [] :: ds.map O.val) with
      | bad => rw [e3] at h; exact h.elim
      | err c outs =>
        rw [e3] at h; dsimp only at h
        intro ρ' S' H' g w _
        exact h ρ1 S' H' (g1.trans (quiet g w).grw) (s1.quiet (quiet g w) w.ex)
      | ok o outs =>
        rw [e3] at h
        intro ρ' S' H' v ρ2 g w oa t w2
        split at h
        · rename_i o1 rest e4
          cases e4
          have ev : v = .non := by unfold Ow Fz at w2; exact w2
          refine ⟨ev, ?_⟩
          have q := quiet g w
          obtain ⟨o2, e5, w3⟩ := oa 0 (.ref x) (by subst hmd; rfl) rfl
          have : o1 = o2 := by simpa using e5
          subst this
          have rz : ∀ b u, H1 b = some u → strip0 ρ' b = none := fun b u hb => strip0_none (g.f b u (hH b u hb) (rn b u hb))
          refine h ρ1 S' H' (.ref x) (strip0 ρ') (g1.trans q.grw) (s1.quiet q w.ex) ⟨fun b r hb => w.wf b _ (strip0_some hb), fun b r hb => ?_, fun b u hb hr => rz b u (g1.h b u hb hr)⟩ (Ow.mono (.refl _) (fun b r hb => ⟨strip0_at hb, rfl⟩) w3) fun hq => ?_
          · cases e6 : ρ1 b with
            | none => rfl
            | some r' =>
              obtain ⟨_, u, hu⟩ := s1.w.wf b r' e6
              rw [rz b u hu] at hb; cases hb
          · obtain ⟨b1, b2, b3⟩ := q1 hq
            exact ⟨⟨b1, b2, b3.trans q⟩, fun b u hb => rz b u (b3.h b u hb)⟩
        · exact h.elim
        · rename_i e4; cases e4
        · rename_i e4; cases e4
end
end VL
set_option maxRecDepth 100000
set_option maxHeartbeats 4000000
/-! V11: places within owned things, and what is changed there -/
namespace VL
open PySem L2
section
variable {K : Frag} {W : WX} {te tb ti : TE} {ta : TA} {x y : VX} {a : AX}
theorem owZ_iff {ρ : Rho} {S H : Hp} {p : Path} : ∀ {os : List O} {ks : List PK} {vs : List V}, OwZ K ρ S H os ks vs p ↔ (ks.length = os.length ∧ vs.length = os.length ∧ ∀ (i : Nat) (o : O) (k : PK) (v : V), os[i]? = some o → ks[i]? = some k → vs[i]? = some v → Ow K ρ S H o v (p ++ [k]))
  | [], ks, vs => by
    unfold OwZ
    constructor
    · rintro ⟨rfl, rfl⟩; exact ⟨rfl, rfl, fun i o k v h => by simp at h⟩
    · rintro ⟨h1, h2, _⟩; exact ⟨List.length_eq_zero_iff.mp h1, List.length_eq_zero_iff.mp h2⟩
  | o :: os, ks, vs => by
    unfold OwZ
    constructor
    · rintro ⟨k, ks', v, vs', rfl, rfl, h1, h2⟩
      obtain ⟨l1, l2, h⟩ := owZ_iff.mp h2
      refine ⟨by simp [l1], by simp [l2], fun i o' k' v' e1 e2 e3 => ?_⟩
      cases i with
      | zero => simp at e1 e2 e3; subst e1 e2 e3; exact h1
      | succ i => exact h i o' k' v' (by simpa using e1) (by simpa using e2) (by simpa using e3)
    · rintro ⟨l1, l2, h⟩
      cases ks with
      | nil => simp at l1
      | cons k ks =>
        cases vs with
        | nil => simp at l2
        | cons v vs =>
          exact ⟨k, ks, v, vs, rfl, rfl, h 0 o k v rfl rfl rfl, owZ_iff.mpr ⟨by simpa using l1, by simpa using l2, fun i o' k' v' e1 e2 e3 => h (i + 1) o' k' v' (by simpa using e1) (by simpa using e2) (by simpa using e3)⟩⟩
/-! ### places -/
structure LV where
  o : O
  put : O → VS
abbrev LX := VS → QR LV
structure Place (K : Frag) (ρ : Rho) (pv : Nat → Option V) (S H : Hp) (σ : St) (p : Path) (l : LV) (v : V) : Prop where
  w : Ow K ρ S H l.o v p
  put : ∀ ρ2 S2 H2 z, Ex S S2 → Kout ρ ρ2 H H2 p → Wf ρ2 S2 H2 → Ow K ρ2 S2 H2 z v p → StR K ρ2 pv S2 H2 (l.put z) σ
theorem Place.quiet {ρ : Rho} {pv : Nat → Option V} {S H S' H' : Hp} {σ : St} {p : Path} {l : LV} {v : V} (w : Wf ρ S H) (q : Quiet S H S' H') (h : Place K ρ pv S H σ p l v) : Place K ρ pv S' H' σ p l v :=
  ⟨h.w.quiet w q, fun ρ2 S2 H2 z e k wf o => h.put ρ2 S2 H2 z (q.s.trans e) (fun a x h1 h2 => by
    obtain ⟨k1, k2⟩ := k a x h1 h2
    obtain ⟨_, u, hu⟩ := w.wf a x h1
    exact ⟨k1, k2.trans ((q.h a u hu).trans hu.symm)⟩) wf o⟩
def LPost (K : Frag) (ρ : Rho) (pv : Nat → Option V) (S H : Hp) (σ : St) (Q : V → Hp → Prop) : QR LV → Prop
  | .ok l => ∀ S' H' v p, Quiet S H S' H' → Ex S' H' → Place K ρ pv S' H' σ p l v → Q v H'
  | .bad => False
def SimL (K : Frag) (te : TE) (l : LX) : Prop := ∀ ρ pv S H σV σ Q, StR K ρ pv S H σV σ → LPost K ρ pv S H σ Q (l σV) → te σ H Q
def lN (i : Nat) : LX := fun σ => match σ[i]? with
  | some (.va o) => .ok ⟨o, fun z => σ.set i (.va z)⟩
  | some (.rf o) => .ok ⟨o, fun z => σ.set i (.rf z)⟩
  | _ => .bad
theorem place_slot {ρ : Rho} {pv : Nat → Option V} {S H : Hp} {σV : VS} {σ : St} {i : Nat} {sv : SV} {o : O} {f : O → SV} (s : StR K ρ pv S H σV σ) (e : σV[i]? = some sv) (g : sv.get = some o) (hf : ∀ z, (f z).get = some z) (hr : ∀ z o', f z = .rf o' → ∃ o'', sv = .rf o'') :
    ∃ v, σ[i]? = some (some v) ∧ Place K ρ pv S H σ [.ix i] ⟨o, fun z => σV.set i (f z)⟩ v := by
  obtain ⟨v, h1, h2⟩ := s.slot i sv o e g
  have hi : i < σV.length := (List.getElem?_eq_some_iff.mp e).1
  refine ⟨v, h1, h2, fun ρ2 S2 H2 z ex k wf w => ⟨wf, by simp [s.len], fun j sv' o' e1 e2 => ?_, fun j o' e1 => ?_⟩⟩
  · by_cases hij : i = j
    · subst hij
      rw [List.getElem?_set_self hi] at e1
      cases e1
      rw [hf] at e2; cases e2
      exact ⟨v, h1, w⟩
    · rw [List.getElem?_set_ne hij] at e1
      obtain ⟨v', h3, h4⟩ := s.slot j sv' o' e1 e2
      refine ⟨v', h3, Ow.mono ex (fun b r hb => k b _ hb ?_) h4⟩
      rintro ⟨t, ht⟩
      exact hij (PK.ix.inj (List.cons.inj ht).1)
  · by_cases hij : i = j
    · subst hij
      rw [List.getElem?_set_self hi] at e1
      obtain ⟨o'', e3⟩ := hr z o' (Option.some.inj e1)
      exact s.pin i o'' (e.trans (by rw [e3]))
    · rw [List.getElem?_set_ne hij] at e1
      exact s.pin j o' e1
theorem place_name {ρ : Rho} {pv : Nat → Option V} {S H : Hp} {σV : VS} {σ : St} {i : Nat} {l : LV} (s : StR K ρ pv S H σV σ) (e : lN i σV = .ok l) : ∃ v, σ[i]? = some (some v) ∧ Place K ρ pv S H σ [.ix i] l v := by
  unfold lN at e
  split at e
  · rename_i o e1
    cases e
    exact place_slot s e1 rfl (fun _ => rfl) (fun z o' h => by cases h)
  · rename_i o e1
    cases e
    exact place_slot s e1 rfl (fun _ => rfl) (fun z o' h => ⟨o, rfl⟩)
  · cases e
theorem sim_lN {i : Nat} : SimL K (tVar i) (lN i) := fun ρ pv S H σV σ Q s h => by
  cases e : lN i σV with
  | bad => rw [e] at h; exact h.elim
  | ok l =>
    rw [e] at h
    obtain ⟨v, h1, h2⟩ := place_name s e
    exact ⟨v, h1, h S H v _ .refl s.w.ex h2⟩
/-- a child of a place -/
theorem Place.child {ρ : Rho} {pv : Nat → Option V} {S H : Hp} {σ : St} {p : Path} {l : LV} {v v1 : V} {k : PK} {o : O} {up : O → O} (h : Place K ρ pv S H σ p l v) (w1 : Ow K ρ S H o v1 (p ++ [k]))
    (hu : ∀ ρ2 S2 H2 z, Ex S S2 → Kout ρ ρ2 H H2 (p ++ [k]) → Ow K ρ2 S2 H2 z v1 (p ++ [k]) → Ow K ρ2 S2 H2 (up z) v p) : Place K ρ pv S H σ (p ++ [k]) ⟨o, fun z => l.put (up z)⟩ v1 :=
  ⟨w1, fun ρ2 S2 H2 z e ko wf w => h.put ρ2 S2 H2 (up z) e ko.sub wf (hu ρ2 S2 H2 z e ko w)⟩
def lFd (C f : Str) (l : LX) : LX := fun σ => match l σ with
  | .ok lv => (match lv.o with
    | .ob C' ns os => if C' = C then (match namAt ns f with
      | some n => (match os[n]? with
        | some o => .ok ⟨o, fun z => lv.put (.ob C' ns (os.set n z))⟩
        | none => .bad)
      | none => .bad) else .bad
    | _ => .bad)
  | .bad => .bad
theorem sim_lFd {C f : Str} {l : LX} (c : ClsA K C f) (hl : SimL K te l) : SimL K (tFld K te f) (lFd C f l) := fun ρ pv S H σV σ Q s h => by
  refine hl ρ pv S H σV σ _ s ?_
  unfold lFd at h
  cases e : l σV with
  | bad => rw [e] at h; exact h.elim
  | ok lv =>
    rw [e] at h; dsimp only at h
    obtain ⟨lo, lput⟩ := lv
    intro S1 H1 v p q ex pl
    dsimp only at h
    cases lo with
    | ob C' ns os =>
      dsimp only at h
      by_cases hc : C' = C
      · subst hc
        rw [if_pos rfl] at h
        cases e1 : namAt ns f with
        | none => rw [e1] at h; exact h.elim
        | some n =>
          rw [e1] at h; dsimp only at h
          cases e2 : os[n]? with
          | none => rw [e2] at h; exact h.elim
          | some o =>
            rw [e2] at h
            have w := pl.w
            have z := w
            dsimp only at z
            unfold Ow at z
            obtain ⟨b, dx, vs, rfl, r1, r2, z1, z2, ⟨z3, nd⟩, z4⟩ := z
            obtain ⟨k, v1, hk, hv, w1, up⟩ := z4.upd (nodup_fd nd) e2
            refine ⟨b, _, dx, _, v1, rfl, z1, c.c, c.n, lookup_zip e1 hv, h S1 H1 v1 _ q ex (pl.child (up := fun z => .ob C' ns (os.set n z)) w1 fun ρ2 S2 H2 z e3 ko w3 => ?_)⟩
            obtain ⟨k1, k2⟩ := ko b p r1 np
            obtain ⟨k3, k4⟩ := ko dx p r2 np
            unfold Ow
            exact ⟨b, dx, vs, rfl, k1, k3, k2.trans z1, k4.trans z2, ⟨z3, nd⟩, up ρ2 S2 H2 z e3 ko w3⟩
      · rw [if_neg hc] at h; exact h.elim
    | _ => exact h.elim
def lIx (l : LX) (y : VX) : LX := fun σ => match l σ with
  | .ok lv => if y.q = true then (match y.f σ with
    | .ok (.val (.int i)) _ => (match lv.o with
      | .nl os => (match L2.ixN os.length i with
        | some j => (match os[j]? with
          | some o => .ok ⟨o, fun z => lv.put (.nl (os.set j z))⟩
          | none => .bad)
        | none => .bad)
      | _ => .bad)
    | _ => .bad) else .bad
  | .bad => .bad
theorem sim_lIx {l : LX} (hl : SimL K te l) (hy : SimX K WN ti y) : SimL K (tOp (rIx K) te ti) (lIx l y) := fun ρ pv S H σV σ Q s h => by
  refine hl ρ pv S H σV σ _ s ?_
  unfold lIx at h
  cases e : l σV with
  | bad => rw [e] at h; exact h.elim
  | ok lv =>
    rw [e] at h; dsimp only at h
    obtain ⟨lo, lput⟩ := lv
    intro S1 H1 v p q ex pl
    by_cases hq : y.q = true
    · rw [if_pos hq] at h
      have s1 := s.quiet q ex
      refine hy ρ pv S1 H1 σV σ _ s1 ?_
      cases e1 : y.f σV with
      | bad => rw [e1] at h; exact h.elim
      | err c σ1 => rw [e1] at h; exact h.elim
      | ok oi σ1 =>
        rw [e1] at h
        intro ρ2 S2 H2 vi pi g2 s2 wi q2
        obtain ⟨a1, a2, a3⟩ := q2 hq
        subst a1 a2
        split at h
        · rename_i i σ2 e4
          cases e4
          cases owI wi
          cases lo with
          | nl os =>
            dsimp only at h
            cases e5 : L2.ixN os.length i with
            | none => rw [e5] at h; exact h.elim
            | some j =>
              rw [e5] at h; dsimp only at h
              cases e6 : os[j]? with
              | none => rw [e6] at h; exact h.elim
              | some o =>
                rw [e6] at h
                have pl2 := pl.quiet s1.w a3
                have w := pl2.w
                have z := w
                dsimp only at z
                unfold Ow at z
                obtain ⟨b, vs, rfl, r1, z1, z4⟩ := z
                obtain ⟨k, v1, hk, hv, w1, up⟩ := z4.upd (nodup_ix _) e6
                refine .inl ⟨b, vs, i, v1, rfl, rfl, SqL.of z1, ?_, h S2 H2 v1 _ (q.trans a3) s2.w.ex (pl2.child (up := fun z => .nl (os.set j z)) w1 fun ρ3 S3 H3 z e3 ko w3 => ?_)⟩
                · unfold L2.atI
                  rw [z4.lenK.2, e5]; exact hv
                · obtain ⟨k1, k2⟩ := ko b p r1 np
                  unfold Ow
                  refine ⟨b, vs, rfl, k1, k2.trans z1, ?_⟩
                  rw [List.length_set]
                  exact up ρ3 S3 H3 z e3 ko w3
          | _ => exact h.elim
        · exact h.elim
    · rw [if_neg hq] at h; exact h.elim
/-! ### methods that change -/
def MPost (K : Frag) (ρ : Rho) (S H : Hp) (v : V) (p : Path) (Q : V → Hp → Prop) : QR (O × O) → Prop
  | .ok (z, r) => ∀ ρ' S' H' w p', Grw ρ S H ρ' S' H' → Kout ρ ρ' H H' p → Wf ρ' S' H' → Ow K ρ' S' H' z v p → Ow K ρ' S' H' r w p' → Q w H'
  | .bad => False
def SimM (K : Frag) (r : V → List V → Hp → VK → Prop) (μ : O → List O → QR (O × O)) : Prop := ∀ ρ S H o v p os vs Q, Wf ρ S H → Ow K ρ S H o v p → OwA K ρ S H os vs → MPost K ρ S H v p Q (μ o os) → r v vs H Q
def tyC (T : String) : O → Bool
  | .ol _ => T == "list"
  | .nl _ => T == "list"
  | .val (.lst _) => T == "list"
  | .val (.rd _) => T == "list"
  | .val (.str _) => T == "str"
  | .val (.dic (.t _) _) => T == "dict"
  | .od _ _ => T == "dict"
  | .nd _ _ => T == "dict"
  | _ => false
theorem DiO.tyM {ks : DKs} {vs : List V} {o : HO} (h : DiO ks vs o) : (∃ kvs, o = .dK kvs) ∨ ∃ kvs, o = .dT kvs := by
  cases ks with
  | k kk => exact .inl ⟨_, h.2⟩
  | t kk => exact .inr ⟨_, h.2⟩
theorem tyC_ok {T : String} {ρ : Rho} {S H : Hp} {o : O} {v : V} {p : Path} (w : Wf ρ S H) (h : Ow K ρ S H o v p) (e : tyC T o = true) : L2.tyV K T v H := by
  unfold tyC at e
  split at e
  · unfold Ow at h; obtain ⟨a, vs, rfl, _, h2, _⟩ := h; exact .inl ⟨beq_iff_eq.mp e, vs, SqL.of h2⟩
  · unfold Ow at h; obtain ⟨a, vs, rfl, _, h2, _⟩ := h; exact .inl ⟨beq_iff_eq.mp e, vs, SqL.of h2⟩
  · unfold Ow Fz at h; obtain ⟨a, vs, rfl, h2, _⟩ := h; exact .inl ⟨beq_iff_eq.mp e, vs, SqL.of (w.ex _ _ h2)⟩
  · unfold Ow Fz at h; obtain ⟨a, vs, rfl, h2, _⟩ := h; exact .inl ⟨beq_iff_eq.mp e, vs, w.ex.sqL h2⟩
  · unfold Ow Fz at h; subst h; exact beq_iff_eq.mp e
  · unfold Ow Fz at h
    obtain ⟨a, vs, o, rfl, h2, ⟨_, rfl⟩, _⟩ := h
    exact .inr (.inr (.inl ⟨beq_iff_eq.mp e, .inr ⟨_, w.ex _ _ h2⟩⟩))
  · unfold Ow at h
    obtain ⟨a, vs, o, rfl, _, h2, h3, _⟩ := h
    refine .inr (.inr (.inl ⟨beq_iff_eq.mp e, ?_⟩))
    rcases h3.tyM with ⟨kvs, rfl⟩ | ⟨kvs, rfl⟩
    · exact .inl ⟨kvs, h2⟩
    · exact .inr ⟨kvs, h2⟩
  · unfold Ow at h
    obtain ⟨a, vs, o, rfl, _, h2, ⟨h3, _⟩, _⟩ := h
    refine .inr (.inr (.inl ⟨beq_iff_eq.mp e, ?_⟩))
    rcases h3.tyM with ⟨kvs, rfl⟩ | ⟨kvs, rfl⟩
    · exact .inl ⟨kvs, h2⟩
    · exact .inr ⟨kvs, h2⟩
  · cases e
/-- at a place, the arguments quiet -/
def vMt (T : String) (l : LX) (a : AX) (μ : O → List O → QR (O × O)) : VX := ⟨false, fun σ => match l σ with
  | .ok lv => if (tyC T lv.o && a.q) = true then (match a.f σ with
    | .ok os _ => (match μ lv.o os with
      | .ok (z, r) => .ok r (lv.put z)
      | .bad => .bad)
    | _ => .bad) else .bad
  | .bad => .bad⟩
theorem sim_mt {T : String} {r : V → List V → Hp → VK → Prop} {l : LX} {μ : O → List O → QR (O × O)} (hl : SimL K te l) (ha : SimA K W ta a) (hm : SimM K r μ) : SimX K W (L2.tBM K T r te ta) (vMt T l a μ) := fun ρ pv S H σV σ Q s h => by
  refine hl ρ pv S H σV σ _ s ?_
  unfold vMt at h; dsimp only at h
  cases e : l σV with
  | bad => rw [e] at h; exact h.elim
  | ok lv =>
    rw [e] at h; dsimp only at h
    intro S1 H1 v p q ex pl
    by_cases hq : (tyC T lv.o && a.q) = true
    · rw [if_pos hq] at h
      obtain ⟨ht, hqa⟩ := Bool.and_eq_true_iff.mp hq
      have s1 := s.quiet q ex
      refine ⟨tyC_ok s1.w pl.w ht, ha ρ pv S1 H1 σV σ _ s1 ?_⟩
      cases e1 : a.f σV with
      | bad => rw [e1] at h; exact h.elim
      | err c σ1 => rw [e1] at h; exact h.elim
      | ok os σ1 =>
        rw [e1] at h; dsimp only at h
        intro ρ2 S2 H2 vs g2 s2 w2 q2
        obtain ⟨a1, a2, a3⟩ := q2 hqa
        subst a1 a2
        have pl2 := pl.quiet s1.w a3
        refine hm ρ2 S2 H2 lv.o v p os vs Q s2.w pl2.w w2 ?_
        cases e2 : μ lv.o os with
        | bad => rw [e2] at h; exact h.elim
        | ok zr =>
          obtain ⟨z, r⟩ := zr
          rw [e2] at h; dsimp only at h
          exact fun ρ3 S3 H3 w p' g3 ko wf wz wr => h ρ3 S3 H3 w p' ((q.trans a3).grw.trans g3) (pl2.put ρ3 S3 H3 z g3.s ko wf wz) wr fun z => by cases z
    · rw [if_neg hq] at h; exact h.elim
/-- at a name, the arguments as they are -/
def vMtN (T : String) (i : Nat) (a : AX) (μ : O → List O → QR (O × O)) : VX := ⟨false, fun σ => match lN i σ with
  | .ok lv0 => if tyC T lv0.o = true then (match a.f σ with
    | .ok os σ1 => (match lN i σ1 with
      | .ok lv => (match μ lv.o os with
        | .ok (z, r) => .ok r (lv.put z)
        | .bad => .bad)
      | .bad => .bad)
    | .err c σ1 => .err c σ1
    | .bad => .bad) else .bad
  | .bad => .bad⟩
theorem sim_mtN {T : String} {i : Nat} {r : V → List V → Hp → VK → Prop} {μ : O → List O → QR (O × O)} (ha : SimA K W ta a) (hm : SimM K r μ) : SimX K W (L2.tBM K T r (tVar i) ta) (vMtN T i a μ) := fun ρ pv S H σV σ Q s h => by
  unfold vMtN at h; dsimp only at h
  cases e : lN i σV with
  | bad => rw [e] at h; exact h.elim
  | ok lv =>
    rw [e] at h; dsimp only at h
    obtain ⟨v, h1, pl⟩ := place_name s e
    refine ⟨v, h1, ?_⟩
    by_cases ht : tyC T lv.o = true
    · rw [if_pos ht] at h
      refine ⟨tyC_ok s.w pl.w ht, ha ρ pv S H σV σ _ s ?_⟩
      cases e1 : a.f σV with
      | bad => rw [e1] at h; exact h.elim
      | err c σ1 => rw [e1] at h; exact h
      | ok os σ1 =>
        rw [e1] at h; dsimp only at h
        intro ρ2 S2 H2 vs g2 s2 w2 _
        cases e3 : lN i σ1 with
        | bad => rw [e3] at h; exact h.elim
        | ok lv2 =>
          rw [e3] at h; dsimp only at h
          obtain ⟨v', h1', pl2⟩ := place_name s2 e3
          rw [h1] at h1'; cases h1'
          refine hm ρ2 S2 H2 lv2.o v _ os vs Q s2.w pl2.w w2 ?_
          cases e2 : μ lv2.o os with
          | bad => rw [e2] at h; exact h.elim
          | ok zr =>
            obtain ⟨z, r⟩ := zr
            rw [e2] at h; dsimp only at h
            exact fun ρ3 S3 H3 w p' g3 ko wf wz wr => h ρ3 S3 H3 w p' (g2.trans g3) (pl2.put ρ3 S3 H3 z g3.s ko wf wz) wr fun z => by cases z
    · rw [if_neg ht] at h; exact h.elim
/-- an object at a place is changed, nothing else -/
theorem upd_at {ρ : Rho} {S H : Hp} {b : Addr} {u u' : HO} {p : Path} (w : Wf ρ S H) (hr : ρ b = some p) (hb : H b = some u) (hn : ∀ vs, u' ≠ .tup vs := by (intro vs z; cases z)) : Grw ρ S H ρ S (upd H b u') ∧ Kout ρ ρ H (upd H b u') p ∧ Wf ρ S (upd H b u') := by
  obtain ⟨hS, _⟩ := w.wf b p hr
  refine ⟨⟨.refl _, fun a o h r => ?_, fun _ _ _ h _ => h, fun _ _ _ r => r⟩, fun a x h hn => ⟨h, ?_⟩, ⟨fun a o h => ?_, fun a q h => ?_, w.ft.upd hn⟩⟩
  · rw [upd_ne fun z => by rw [z, hr] at r; cases r]; exact h
  · refine upd_ne fun z => ?_
    subst z
    rw [hr] at h; cases h
    exact hn (List.prefix_refl _)
  · rw [upd_ne fun z => by rw [z, hS] at h; cases h]; exact w.ex _ _ h
  · obtain ⟨h1, h2⟩ := w.wf a q h
    refine ⟨h1, ?_⟩
    by_cases e : a = b
    · subst e; exact ⟨_, upd_same⟩
    · rw [upd_ne e]; exact h2
theorem Keeps.off {ρ : Rho} {H : Hp} {b : Addr} {u : HO} {p : Path} {k : PK} (hr : ρ b = some p) : Keeps ρ ρ H (upd H b u) (p ++ [k]) (p ++ [k]) := fun a r h => ⟨h, upd_ne fun z => by
  subst z
  rw [hr] at h
  have := congrArg List.length (Option.some.inj h)
  simp at this⟩
/-- the children as they were, behind a change of their holder -/
theorem owZ_off {ρ : Rho} {S H : Hp} {b : Addr} {u : HO} {p : Path} {os : List O} {ks : List PK} {vs : List V} (hr : ρ b = some p) (z : OwZ K ρ S H os ks vs p) : OwZ K ρ S (upd H b u) os ks vs p := by
  obtain ⟨l1, l2, h⟩ := owZ_iff.mp z
  exact owZ_iff.mpr ⟨l1, l2, fun i o k v e1 e2 e3 => Ow.mono (.refl _) (Keeps.off hr) (h i o k v e1 e2 e3)⟩
theorem owZ_app {ρ : Rho} {S H : Hp} {p : Path} {os : List O} {ks : List PK} {vs : List V} {o : O} {k : PK} {v : V} (z : OwZ K ρ S H os ks vs p) (w : Ow K ρ S H o v (p ++ [k])) : OwZ K ρ S H (os ++ [o]) (ks ++ [k]) (vs ++ [v]) p := by
  obtain ⟨l1, l2, h⟩ := owZ_iff.mp z
  refine owZ_iff.mpr ⟨by simp [l1], by simp [l2], fun i o' k' v' e1 e2 e3 => ?_⟩
  by_cases hi : i < os.length
  · rw [List.getElem?_append_left hi] at e1
    rw [List.getElem?_append_left (l1 ▸ hi)] at e2
    rw [List.getElem?_append_left (l2 ▸ hi)] at e3
    exact h i o' k' v' e1 e2 e3
  · rw [List.getElem?_append_right (by omega)] at e1
    rw [List.getElem?_append_right (by omega)] at e2
    rw [List.getElem?_append_right (by omega)] at e3
    rw [l1] at e2
    rw [l2] at e3
    cases hj : i - os.length with
    | zero =>
      rw [hj] at e1 e2 e3
      simp at e1 e2 e3
      subst e1 e2 e3
      exact w
    | succ j => rw [hj] at e1; simp at e1
theorem owZ_set {ρ : Rho} {S H : Hp} {p : Path} {os : List O} {ks : List PK} {vs : List V} {o : O} {k : PK} {v : V} {n : Nat} (z : OwZ K ρ S H os ks vs p) (hk : ks[n]? = some k) (w : Ow K ρ S H o v (p ++ [k])) : OwZ K ρ S H (os.set n o) ks (vs.set n v) p := by
  obtain ⟨l1, l2, h⟩ := owZ_iff.mp z
  refine owZ_iff.mpr ⟨by simp [l1], by simp [l2], fun i o' k' v' e1 e2 e3 => ?_⟩
  by_cases e : n = i
  · subst e
    by_cases hl : n < os.length
    · rw [List.getElem?_set_self hl] at e1
      rw [List.getElem?_set_self (l2 ▸ hl)] at e3
      rw [hk] at e2
      cases e1; cases e2; cases e3
      exact w
    · rw [List.getElem?_eq_none (by simpa using hl)] at e1; cases e1
  · rw [List.getElem?_set_ne e] at e1 e3
    exact h i o' k' v' e1 e2 e3
/-! append -/
def mAppend : O → List O → QR (O × O)
  | .ol ds, [.val d] => if ds.length < sizeLine then .ok (.ol (ds ++ [d]), .val .non) else .bad
  | .nl os, [.val d] => if os.length < sizeLine then .ok (.nl (os ++ [.val d]), .val .non) else .bad
  | _, _ => .bad
theorem range_map_succ (n : Nat) : (List.range (n + 1)).map PK.ix = (List.range n).map PK.ix ++ [PK.ix n] := by rw [List.range_succ, List.map_append]; rfl
theorem s_append : SimM K L2.rAppend mAppend := fun ρ S H o v p os vs Q w wo wa h => by
  unfold mAppend at h
  split at h
  · rename_i ds d
    obtain ⟨vd, pd, rfl, hd⟩ := wa.one
    unfold Ow at hd
    unfold Ow at wo
    obtain ⟨b, xs, rfl, r1, h1, f⟩ := wo
    by_cases hc : ds.length < sizeLine
    · rw [if_pos hc] at h
      obtain ⟨g, ko, wf⟩ := upd_at (u' := .lst (xs ++ [vd])) w r1 h1
      refine ⟨b, xs, vd, rfl, rfl, h1, f.len ▸ hc, h ρ S _ _ [] g ko wf ?_ (.v (fz_non _))⟩
      unfold Ow
      exact ⟨b, _, rfl, r1, upd_same, f.app (.one hd)⟩
    · rw [if_neg hc] at h; exact h.elim
  · rename_i os d
    obtain ⟨vd, pd, rfl, hd⟩ := wa.one
    unfold Ow at hd
    unfold Ow at wo
    obtain ⟨b, xs, rfl, r1, h1, z⟩ := wo
    by_cases hc : os.length < sizeLine
    · rw [if_pos hc] at h
      obtain ⟨g, ko, wf⟩ := upd_at (u' := .lst (xs ++ [vd])) w r1 h1
      refine ⟨b, xs, vd, rfl, rfl, h1, z.lenK.2.symm ▸ hc, h ρ S _ _ [] g ko wf ?_ (.v (fz_non _))⟩
      unfold Ow
      refine ⟨b, _, rfl, r1, upd_same, ?_⟩
      rw [List.length_append, List.length_singleton, range_map_succ]
      exact owZ_app (owZ_off r1 z) (.v hd)
    · rw [if_neg hc] at h; exact h.elim
  · exact h.elim
/-! pop() -/
def mPop : O → List O → QR (O × O)
  | .ol ds, [] => match ds[ds.length - 1]? with
    | some d => .ok (.ol ds.dropLast, .val d)
    | none => .bad
  | _, _ => .bad
theorem FzL.dropLast {S : Hp} {ds : List D} {vs : List V} (f : FzL K S ds vs) : FzL K S ds.dropLast vs.dropLast := by
  rw [List.dropLast_eq_take, List.dropLast_eq_take, f.len]
  exact f.take _
theorem s_pop : SimM K L2.rPop mPop := fun ρ S H o v p os vs Q w wo wa h => by
  unfold mPop at h
  split at h
  · rename_i ds
    have wa' : vs = [] := wa
    subst wa'
    unfold Ow at wo
    obtain ⟨b, xs, rfl, r1, h1, f⟩ := wo
    cases e : ds[ds.length - 1]? with
    | none => rw [e] at h; exact h.elim
    | some d =>
      rw [e] at h
      obtain ⟨y, hy, fy⟩ := f.get e
      rw [f.len] at hy
      obtain ⟨g, ko, wf⟩ := upd_at (u' := .lst xs.dropLast) w r1 h1
      refine ⟨b, xs, y, rfl, rfl, h1, hy, h ρ S _ _ [] g ko wf ?_ (.v fy)⟩
      unfold Ow
      exact ⟨b, _, rfl, r1, upd_same, f.dropLast⟩
  · exact h.elim
/-! pop(i) -/
def mPopAt : O → List O → QR (O × O)
  | .ol ds, [.val (.int i)] => if bnd 9223372036854775807 i = true then (match (seqIndex? i ds.length).bind fun k => (ds[k]?).map fun d => (k, d) with
    | some (k, d) => .ok (.ol (ds.eraseIdx k), .val d)
    | none => .bad) else .bad
  | _, _ => .bad
theorem FzL.eraseIdx {S : Hp} : ∀ {ds : List D} {vs : List V} {k : Nat}, FzL K S ds vs → FzL K S (ds.eraseIdx k) (vs.eraseIdx k)
  | [], _, k, f => by cases f.unnil; simpa using f
  | d :: ds, _, 0, f => by
    obtain ⟨v, vs', rfl, h1, h2⟩ := f.uncons
    simpa using h2
  | d :: ds, _, k + 1, f => by
    obtain ⟨v, vs', rfl, h1, h2⟩ := f.uncons
    simpa using FzL.cons h1 (FzL.eraseIdx h2)
theorem s_popAt : SimM K L2.rPopAt mPopAt := fun ρ S H o v p os vs Q w wo wa h => by
  unfold mPopAt at h
  split at h
  · rename_i ds i
    obtain ⟨vd, pd, rfl, hd⟩ := wa.one
    cases owI hd
    unfold Ow at wo
    obtain ⟨b, xs, rfl, r1, h1, f⟩ := wo
    by_cases hc : bnd 9223372036854775807 i = true
    · rw [if_pos hc] at h
      have hc := bnd_iff.mp hc
      cases e : (seqIndex? i ds.length).bind fun k => (ds[k]?).map fun d => (k, d) with
      | none => rw [e] at h; exact h.elim
      | some kd =>
        obtain ⟨k, d⟩ := kd
        rw [e] at h
        obtain ⟨k', e1, e2⟩ := Option.bind_eq_some_iff.mp e
        obtain ⟨d', e3, e4⟩ := Option.map_eq_some_iff.mp e2
        cases e4
        obtain ⟨y, hy, fy⟩ := f.get e3
        obtain ⟨g, ko, wf⟩ := upd_at (u' := .lst (xs.eraseIdx k)) w r1 h1
        refine ⟨b, xs, i, k, y, rfl, rfl, h1, by omega, by omega, f.len ▸ e1, hy, h ρ S _ _ [] g ko wf ?_ (.v fy)⟩
        unfold Ow
        exact ⟨b, _, rfl, r1, upd_same, f.eraseIdx⟩
    · rw [if_neg hc] at h; exact h.elim
  · exact h.elim
/-! extend by a list -/
def mExtend : O → List O → QR (O × O)
  | .ol ds, [.val (.lst es)] => if ds.length + es.length ≤ sizeLine then .ok (.ol (ds ++ es), .val .non) else .bad
  | _, _ => .bad
theorem s_extend : SimM K L2.rExtend mExtend := fun ρ S H o v p os vs Q w wo wa h => by
  unfold mExtend at h
  split at h
  · rename_i ds es
    obtain ⟨vd, pd, rfl, hd⟩ := wa.one
    unfold Ow Fz at hd
    obtain ⟨c, zs, rfl, hz, fz⟩ := hd
    unfold Ow at wo
    obtain ⟨b, xs, rfl, r1, h1, f⟩ := wo
    by_cases hc : ds.length + es.length ≤ sizeLine
    · rw [if_pos hc] at h
      obtain ⟨g, ko, wf⟩ := upd_at (u' := .lst (xs ++ zs)) w r1 h1
      refine ⟨b, c, xs, zs, rfl, rfl, h1, w.ex _ _ hz, by rw [← f.len, ← fz.len]; exact hc, h ρ S _ _ [] g ko wf ?_ (.v (fz_non _))⟩
      unfold Ow
      exact ⟨b, _, rfl, r1, upd_same, f.app fz⟩
    · rw [if_neg hc] at h; exact h.elim
  · exact h.elim
end
end VL
set_option maxRecDepth 100000
set_option maxHeartbeats 4000000
/-! V12: stores, frozen places, lists of new things -/
namespace VL
open PySem L2
section
variable {K : Frag} {W : WX} {te tb ti to : TE} {ta : TA} {x y : VX} {a : AX}
/-! ### o[i] = v -/
def SPost (K : Frag) (ρ : Rho) (S H : Hp) (v : V) (p : Path) (Q : Hp → Prop) : QR O → Prop
  | .ok z => ∀ ρ' S' H', Grw ρ S H ρ' S' H' → Kout ρ ρ' H H' p → Wf ρ' S' H' → Ow K ρ' S' H' z v p → Q H'
  | .bad => False
def SimSet (K : Frag) (t : V → V → V → Hp → (Hp → Prop) → Prop) (μ : O → D → D → QR O) : Prop := ∀ ρ S H o v p di vi d vd Q, Wf ρ S H → Ow K ρ S H o v p → Fz K S di vi → Fz K S d vd → SPost K ρ S H v p Q (μ o di d) → t v vi vd H Q
def sSet (l : LX) (y x : VX) (μ : O → D → D → QR O) : VB := fun σ => match x.f σ with
  | .ok (.val d) σ1 => (match l σ1 with
    | .ok lv => if y.q = true then (match y.f σ1 with
      | .ok (.val di) _ => (match μ lv.o di d with
        | .ok z => .nx (lv.put z)
        | .bad => .bad)
      | _ => .bad) else .bad
    | .bad => .bad)
  | .ok _ _ => .bad
  | .err c σ1 => .err c σ1
  | .bad => .bad
theorem sim_set {t : V → V → V → Hp → (Hp → Prop) → Prop} {μ : O → D → D → QR O} {l : LX} (hx : SimX K W te x) (hl : SimL K to l) (hy : SimX K WN ti y) (hs : SimSet K t μ) : SimS K W (tAsg te (gSub to ti t)) (sSet l y x μ) := fun ρ pv S H σV σ D s h => by
  refine hx ρ pv S H σV σ _ s ?_
  unfold sSet at h
  cases e : x.f σV with
  | bad => rw [e] at h; exact h
  | err c σ1 => rw [e] at h; exact fun ρ1 S1 H1 g s1 => h ρ1 S1 H1 σ g s1
  | ok o σ1 =>
    rw [e] at h
    intro ρ1 S1 H1 v p g1 s1 w1 _
    cases o with
    | val d =>
      dsimp only at h
      unfold Ow at w1
      show to σ H1 fun o H2 => ti σ H2 fun i H3 => t o i v H3 fun H4 => D.nx σ H4
      refine hl ρ1 pv S1 H1 σ1 σ _ s1 ?_
      cases e1 : l σ1 with
      | bad => rw [e1] at h; exact h.elim
      | ok lv =>
        rw [e1] at h; dsimp only at h
        intro S2 H2 vo po q2 ex pl
        by_cases hq : y.q = true
        · rw [if_pos hq] at h
          have s2 := s1.quiet q2 ex
          refine hy ρ1 pv S2 H2 σ1 σ _ s2 ?_
          cases e2 : y.f σ1 with
          | bad => rw [e2] at h; exact h.elim
          | err c σ2 => rw [e2] at h; exact h.elim
          | ok oi σ2 =>
            rw [e2] at h
            intro ρ3 S3 H3 vi pi g3 s3 wi q3
            obtain ⟨a1, a2, a3⟩ := q3 hq
            subst a1 a2
            cases oi with
            | val di =>
              dsimp only at h
              unfold Ow at wi
              have pl3 := pl.quiet s2.w a3
              refine hs ρ3 S3 H3 lv.o vo po di vi d v _ s3.w pl3.w wi (w1.mono (q2.s.trans a3.s)) ?_
              cases e3 : μ lv.o di d with
              | bad => rw [e3] at h; exact h.elim
              | ok z =>
                rw [e3] at h; dsimp only at h
                exact fun ρ4 S4 H4 g4 ko wf wz => h ρ4 S4 H4 σ ((g1.trans (q2.trans a3).grw).trans g4) (pl3.put ρ4 S4 H4 z g4.s ko wf wz)
            | _ => exact h.elim
        · rw [if_neg hq] at h; exact h.elim
    | _ => exact h.elim
def mSetL : O → D → D → QR O
  | .ol ds, .int k, d => (match L2.ixN ds.length k with
    | some j => .ok (.ol (ds.set j d))
    | none => .bad)
  | .nl os, .int k, d => (match L2.ixN os.length k with
    | some j => .ok (.nl (os.set j (.val d)))
    | none => .bad)
  | _, _, _ => .bad
theorem s_setL : SimSet K L2.rSetL mSetL := fun ρ S H o v p di vi d vd Q w wo fi fd h => by
  unfold mSetL at h
  split at h
  · rename_i ds k
    unfold Fz at fi
    subst fi
    unfold Ow at wo
    obtain ⟨b, xs, rfl, r1, h1, f⟩ := wo
    cases e : L2.ixN ds.length k with
    | none => rw [e] at h; exact h.elim
    | some j =>
      rw [e] at h
      obtain ⟨g, ko, wf⟩ := upd_at (u' := .lst (xs.set j vd)) w r1 h1
      refine ⟨b, xs, k, j, rfl, rfl, h1, f.len ▸ e, h ρ S _ g ko wf ?_⟩
      unfold Ow
      exact ⟨b, _, rfl, r1, upd_same, f.set j fd⟩
  · rename_i os k
    unfold Fz at fi
    subst fi
    unfold Ow at wo
    obtain ⟨b, xs, rfl, r1, h1, z⟩ := wo
    cases e : L2.ixN os.length k with
    | none => rw [e] at h; exact h.elim
    | some j =>
      rw [e] at h
      obtain ⟨g, ko, wf⟩ := upd_at (u' := .lst (xs.set j vd)) w r1 h1
      refine ⟨b, xs, k, j, rfl, rfl, h1, z.lenK.2.symm ▸ e, h ρ S _ g ko wf ?_⟩
      have hj : j < os.length := by
        unfold L2.ixN at e
        split at e
        · split at e
          · cases e; omega
          · cases e
        · split at e
          · cases e; omega
          · cases e
      unfold Ow
      refine ⟨b, _, rfl, r1, upd_same, ?_⟩
      rw [List.length_set]
      exact owZ_set (k := .ix j) (owZ_off r1 z) (by rw [List.getElem?_map, List.getElem?_range hj]; rfl) (.v fd)
  · exact h.elim
/-! ### o.f = v -/
theorem putF_zip {f : Str} {y : V} : ∀ {ns : List Str} {vs : List V}, ns.length = vs.length → L2.putF f y (ns.zip vs) = (match namAt ns f with
    | some n => ns.zip (vs.set n y)
    | none => (ns ++ [f]).zip (vs ++ [y]))
  | [], [], _ => rfl
  | m :: ns, v :: vs, h => by
    have ih := putF_zip (f := f) (y := y) (ns := ns) (vs := vs) (by simpa using h)
    unfold namAt at ih ⊢
    rw [List.findIdx?_cons, List.zip_cons_cons]
    unfold L2.putF
    by_cases e : m = f
    · simp [e]
    · rw [if_neg e, ih]
      simp only [e, decide_false, Bool.false_eq_true, if_false]
      cases List.findIdx? (fun x => decide (x = f)) ns with
      | none => rfl
      | some n => rfl
def putN (f : Str) (z : O) (ns : List Str) (os : List O) : List Str × List O := match namAt ns f with
  | some n => (ns, os.set n z)
  | none => (ns ++ [f], os ++ [z])
def sFldF (C f : Str) (l : LX) (x : VX) : VB := fun σ => match x.f σ with
  | .ok z σ1 => (match l σ1 with
    | .ok lv => (match lv.o with
      | .ob C' ns os => if C' = C ∧ ns.length < 1000 then .nx (lv.put (.ob C' (putN f z ns os).1 (putN f z ns os).2)) else .bad
      | _ => .bad)
    | .bad => .bad)
  | .err c σ1 => .err c σ1
  | .bad => .bad
def rhoP (ρ ρ2 : Rho) (p : Path) : Rho := fun a => match ρ2 a with
  | some q => some (p ++ q)
  | none => ρ a
theorem rhoP_in {ρ ρ2 : Rho} {p q : Path} {a : Addr} (h : ρ2 a = some q) : rhoP ρ ρ2 p a = some (p ++ q) := by unfold rhoP; rw [h]
theorem rhoP_out {ρ ρ2 : Rho} {p : Path} {a : Addr} (h : ρ2 a = none) : rhoP ρ ρ2 p a = ρ a := by unfold rhoP; rw [h]
theorem namAt_none {ns : List Str} {f : Str} (h : namAt ns f = none) : f ∉ ns := fun hm => by
  unfold namAt at h
  rw [List.findIdx?_eq_none_iff] at h
  have := h f hm
  simp at this
theorem sim_fldF {C f : Str} {l : LX} (c : ClsA K C f) (hx : SimF K W te x) (hl : SimL K to l) : SimS K W (sFld K to te f) (sFldF C f l x) := fun ρ pv S H σV σ D s h => by
  refine hx ρ pv S H σV σ _ s ?_
  unfold sFldF at h
  cases e : x.f σV with
  | bad => rw [e] at h; exact h
  | err c σ1 => rw [e] at h; exact fun ρ1 S1 H1 g s1 => h ρ1 S1 H1 σ g s1
  | ok z σ1 =>
    rw [e] at h; dsimp only at h
    intro ρ1 S1 H1 yv ρ2 g1 s1 t w2 _
    refine hl ρ1 pv S1 H1 σ1 σ _ s1 ?_
    cases e1 : l σ1 with
    | bad => rw [e1] at h; exact h.elim
    | ok lv =>
      rw [e1] at h; dsimp only at h
      obtain ⟨lo, lput⟩ := lv
      dsimp only at h
      intro S2 H2 vo p q2 ex pl
      cases lo with
      | ob C' ns os =>
        dsimp only at h
        by_cases hc : C' = C ∧ ns.length < 1000
        · rw [if_pos hc] at h
          obtain ⟨rfl, hn⟩ := hc
          have w := pl.w
          dsimp only at w
          unfold Ow at w
          obtain ⟨b, dx, vs, rfl, r1, r2, z1, z2, ⟨z3, nd⟩, z4⟩ := w
          have nb : b ≠ dx := fun e => by rw [e, z2] at z1; cases z1
          have dis : ∀ {a q}, ρ1 a = some q → ρ2 a = none := fun {a q} h => by
            cases e3 : ρ2 a with
            | none => rfl
            | some q' => rw [t.d a q' e3] at h; cases h
          have s2 := s1.quiet q2 ex
          have t2 : ∀ a q, ρ2 a = some q → S2 a = none ∧ ∃ o, H2 a = some o := fun a q h => by
            obtain ⟨h1, o, h2⟩ := t.wf a q h
            exact ⟨q2.n a o h2 h1, o, q2.h a o h2⟩
          have w3 : Ow K ρ2 S2 H2 z yv [] := Ow.mono q2.s (fun a r h => by
            obtain ⟨_, o, h2⟩ := t.wf a _ h
            exact ⟨h, (q2.h a o h2).trans h2.symm⟩) w2
          refine ⟨b, _, dx, ns.zip vs, rfl, z1, c.c, c.n, by rw [List.length_zip]; omega, ?_⟩
          have hz := putF_zip (f := f) (y := yv) z3
          have hb0 : ρ2 b = none := dis r1
          have hd0 : ρ2 dx = none := dis r2
          refine h (rhoP ρ1 ρ2 (p ++ [.fd f])) S2 _ σ ⟨g1.s.trans q2.s, fun a o h r => ?_, fun a o h hs r => q2.n a o (g1.h a o h r) (g1.n a o h hs r), fun a o h r => ?_⟩ (pl.put _ S2 _ _ (.refl _) (fun a q h1 h2 => ⟨?_, ?_⟩) ⟨fun a o h => ?_, fun a q h => ?_, s2.w.ft.upd (by intro vs z; cases z)⟩ ?_)
          · rw [upd_ne fun z => by rw [z] at r h; rw [g1.f b o h r] at r1; cases r1]
            exact q2.h a o (g1.h a o h r)
          · rw [rhoP_out (t.n a o h r)]; exact g1.f a o h r
          · rw [rhoP_out (dis h1)]; exact h1
          · refine upd_ne fun z => ?_
            subst z
            rw [r1] at h1; cases h1
            exact h2 (List.prefix_refl _)
          · rw [upd_ne fun z => by rw [z, (s2.w.wf b p r1).1] at h; cases h]
            exact ex _ _ h
          · have main : S2 a = none ∧ ∃ o, H2 a = some o := by
              cases e3 : ρ2 a with
              | none => rw [rhoP_out e3] at h; exact s2.w.wf a q h
              | some q' => exact t2 a q' e3
            refine ⟨main.1, ?_⟩
            by_cases eb : a = b
            · subst eb; exact ⟨_, upd_same⟩
            · rw [upd_ne eb]; exact main.2
          · have kid : ∀ {k o v}, Ow K ρ1 S2 H2 o v (p ++ [k]) → Ow K (rhoP ρ1 ρ2 (p ++ [.fd f])) S2 (upd H2 b (.ins (He.ga K C') dx (L2.putF f yv (ns.zip vs)))) o v (p ++ [k]) := fun w => Ow.mono (.refl _) (fun a r h => ⟨by rw [rhoP_out (dis h)]; exact h, upd_ne fun z => by
              subst z
              rw [r1] at h
              have := congrArg List.length (Option.some.inj h)
              simp at this⟩) w
            have new : Ow K (rhoP ρ1 ρ2 (p ++ [.fd f])) S2 (upd H2 b (.ins (He.ga K C') dx (L2.putF f yv (ns.zip vs)))) z yv (p ++ [.fd f]) := Ow.mono (.refl _) (fun a r h => ⟨rhoP_in h, upd_ne fun z => by rw [z, hb0] at h; cases h⟩) w3
            obtain ⟨l1, l2, hk⟩ := owZ_iff.mp z4
            have z5 : OwZ K (rhoP ρ1 ρ2 (p ++ [.fd f])) S2 (upd H2 b (.ins (He.ga K C') dx (L2.putF f yv (ns.zip vs)))) os (ns.map PK.fd) vs p := owZ_iff.mpr ⟨l1, l2, fun i o k v e1 e2 e3 => kid (hk i o k v e1 e2 e3)⟩
            cases en : namAt ns f with
            | some n =>
              rw [en] at hz
              have e1 : putN f z ns os = (ns, os.set n z) := by unfold putN; rw [en]
              rw [e1]
              dsimp only at hz ⊢
              unfold Ow
              refine ⟨b, dx, vs.set n yv, rfl, by rw [rhoP_out hb0]; exact r1, by rw [rhoP_out hd0]; exact r2, by rw [upd_same, hz], by rw [upd_ne nb.symm]; exact z2, ⟨by simpa using z3, nd⟩, ?_⟩
              refine owZ_set z5 ?_ new
              rw [List.getElem?_map, findIdx_some en]; rfl
            | none =>
              rw [en] at hz
              have e1 : putN f z ns os = (ns ++ [f], os ++ [z]) := by unfold putN; rw [en]
              rw [e1]
              dsimp only at hz ⊢
              unfold Ow
              refine ⟨b, dx, vs ++ [yv], rfl, by rw [rhoP_out hb0]; exact r1, by rw [rhoP_out hd0]; exact r2, by rw [upd_same, hz], by rw [upd_ne nb.symm]; exact z2, ⟨by simpa using z3, ?_⟩, ?_⟩
              · rw [List.nodup_append]
                refine ⟨nd, by simp, fun a ha c hc => ?_⟩
                rw [List.mem_singleton] at hc
                subst hc
                exact fun e => namAt_none en (e ▸ ha)
              · rw [List.map_append]
                exact owZ_app z5 new
        · rw [if_neg hc] at h; exact h.elim
      | _ => exact h.elim
/-! ### a place is frozen -/
def gFrP (i : Nat) (q : List PK) : VS → QR VS := fun σ => match σ[i]? with
  | some (.va o) => (match getP q o with
    | some o1 => .ok (σ.set i (.va (setP q o (.val (frz o1)))))
    | none => .bad)
  | some (.rf o) => (match getP q o with
    | some o1 => .ok (σ.set i (.rf (setP q o (.val (frz o1)))))
    | none => .bad)
  | _ => .bad
open Classical in
noncomputable def rhoIn2 (ρ : Rho) (p : Path) : Rho := fun a => match ρ a with
  | some x => if p <+: x then some x else none
  | none => none
open Classical in
noncomputable def rhoOut2 (ρ : Rho) (p : Path) : Rho := fun a => match ρ a with
  | some x => if p <+: x then none else some x
  | none => none
theorem rhoIn2_some {ρ : Rho} {p x : Path} {a : Addr} (h : rhoIn2 ρ p a = some x) : ρ a = some x ∧ p <+: x := by
  unfold rhoIn2 at h
  split at h
  · rename_i y e
    by_cases c : p <+: y
    · rw [if_pos c] at h; cases h; exact ⟨e, c⟩
    · rw [if_neg c] at h; cases h
  · cases h
theorem rhoIn2_at {ρ : Rho} {p r : Path} {a : Addr} (h : ρ a = some (p ++ r)) : rhoIn2 ρ p a = some (p ++ r) := by
  unfold rhoIn2; rw [h]; exact if_pos (List.prefix_append _ _)
theorem rhoIn2_none {ρ : Rho} {p : Path} {a : Addr} (h : ρ a = none) : rhoIn2 ρ p a = none := by unfold rhoIn2; rw [h]
theorem rhoOut2_some {ρ : Rho} {p x : Path} {a : Addr} (h : rhoOut2 ρ p a = some x) : ρ a = some x ∧ ¬ p <+: x := by
  unfold rhoOut2 at h
  split at h
  · rename_i y e
    by_cases c : p <+: y
    · rw [if_pos c] at h; cases h
    · rw [if_neg c] at h; cases h; exact ⟨e, c⟩
  · cases h
theorem rhoOut2_at {ρ : Rho} {p x : Path} {a : Addr} (h : ρ a = some x) (c : ¬ p <+: x) : rhoOut2 ρ p a = some x := by
  unfold rhoOut2; rw [h]; exact if_neg c
theorem rhoOut2_none {ρ : Rho} {p : Path} {a : Addr} (h : ρ a = none) : rhoOut2 ρ p a = none := by unfold rhoOut2; rw [h]
theorem simH_frP {i : Nat} {q : List PK} : SimH K (gFrP i q) := fun ρ pv S H σV σ σ1 s e => by
  have wI : ∀ a x, rhoIn2 ρ (.ix i :: q) a = some x → S a = none ∧ ∃ o, H a = some o := fun a x h => s.w.wf a x (rhoIn2_some h).1
  have main : ∀ (o o1 : O) (sv sv' : SV), σV[i]? = some sv → sv.get = some o → getP q o = some o1 → sv'.get = some (setP q o (.val (frz o1))) → (∀ o', sv' = .rf o' → ∃ o'', sv = .rf o'') → σ1 = σV.set i sv' → ∃ ρ' S', Grw ρ S H ρ' S' H ∧ StR K ρ' pv S' H σ1 σ := fun o o1 sv sv' h1 h2 hg h3 h4 h5 => by
    subst h5
    have hi := (List.getElem?_eq_some_iff.mp h1).1
    refine ⟨rhoOut2 ρ (.ix i :: q), VL.frS S H (rhoIn2 ρ (.ix i :: q)), ⟨frS_ex wI, fun _ _ h _ => h, fun a o' h z r => ?_, fun a o' h r => rhoOut2_none r⟩, ⟨⟨frS_in s.w.ex, fun a x h => ?_, s.w.ft.more (frS_ex wI)⟩, by simp [s.len], fun j sv2 o2 g1 g2 => ?_, fun j o2 g1 => ?_⟩⟩
    · rw [frS_out (rhoIn2_none r)]; exact z
    · obtain ⟨h, hne⟩ := rhoOut2_some h
      obtain ⟨z1, z2⟩ := s.w.wf a x h
      refine ⟨?_, z2⟩
      cases e3 : rhoIn2 ρ (.ix i :: q) a with
      | none => rw [frS_out e3]; exact z1
      | some r =>
        obtain ⟨e4, e5⟩ := rhoIn2_some e3
        rw [h] at e4; cases e4
        exact (hne e5).elim
    · by_cases z : i = j
      · subst z
        rw [List.getElem?_set_self hi] at g1
        cases g1
        rw [h3] at g2; cases g2
        obtain ⟨v, v1, v2⟩ := s.slot i sv o h1 h2
        refine ⟨v, v1, ?_⟩
        obtain ⟨w1, w2, _, up⟩ := Ow.path q v2 hg
        refine up _ _ _ _ (frS_ex wI) (fun a x h1 h2 => ⟨rhoOut2_at h1 h2, rfl⟩) ?_
        unfold Ow
        exact Ow.frz (frS_ex wI) (fun a r h => frS_at (rhoIn2_at h)) w2
      · rw [List.getElem?_set_ne z] at g1
        obtain ⟨v, v1, v2⟩ := s.slot j sv2 o2 g1 g2
        exact ⟨v, v1, Ow.mono (frS_ex wI) (fun a r h => ⟨rhoOut2_at h (by rintro ⟨t, ht⟩; exact z (PK.ix.inj (List.cons.inj ht).1)), rfl⟩) v2⟩
    · by_cases z : i = j
      · subst z
        rw [List.getElem?_set_self hi] at g1
        cases g1
        obtain ⟨o3, e3⟩ := h4 o2 rfl
        exact s.pin i o3 (by rw [h1, e3])
      · rw [List.getElem?_set_ne z] at g1
        exact s.pin j o2 g1
  unfold gFrP at e
  split at e
  · rename_i o q1
    split at e
    · rename_i o1 q2
      cases e
      exact main o o1 _ _ q1 rfl q2 rfl (fun o' z => by cases z) rfl
    · cases e
  · rename_i o q1
    split at e
    · rename_i o1 q2
      cases e
      exact main o o1 _ _ q1 rfl q2 rfl (fun o' z => ⟨o, rfl⟩) rfl
    · cases e
  · cases e
end
end VL
set_option maxRecDepth 100000
set_option maxHeartbeats 4000000
/-! V13: comprehensions whose elements are new things -/
namespace VL
open PySem L2
def lcN (vs : List Nat) (g : D → VS → QR VS) (tt : TX) (x : VX) : List D → VS → List O → XR (List O)
  | [], σ, acc => .ok acc σ
  | d :: ds, σ, acc => match putAway vs σ with
    | .bad => .bad
    | .ok σ1 => (match g d σ1 with
      | .bad => .bad
      | .ok σ2 => (match tt.f σ2 with
        | .bad => .bad
        | .err _ _ => .bad
        | .ok k σ3 => if k = true then (match x.f σ3 with
            | .bad => .bad
            | .err _ _ => .bad
            | .ok e σ4 => if acc.length < sizeLine then lcN vs g tt x ds (putBack vs σ σ4) (acc ++ [e]) else .bad) else lcN vs g tt x ds (putBack vs σ σ3) acc))
def vLcN (ix : IX) (vs : List Nat) (g : D → VS → QR VS) (tt : TX) (x : VX) : VX := ⟨false, fun σ => match ix σ with
  | .ok ds σ1 => (match lcN vs g tt x ds σ1 [] with
    | .ok acc σ2 => .ok (.nl acc) σ2
    | .err c σ2 => .err c σ2
    | .bad => .bad)
  | .err c σ1 => .err c σ1
  | .bad => .bad⟩
section
variable {K : Frag} {W : WX}
def rhoA (ρt ρe : Rho) (n : Nat) : Rho := fun a => match ρe a with
  | some q => some (.ix n :: q)
  | none => ρt a
theorem rhoA_in {ρt ρe : Rho} {n : Nat} {q : Path} {a : Addr} (h : ρe a = some q) : rhoA ρt ρe n a = some (.ix n :: q) := by unfold rhoA; rw [h]
theorem rhoA_out {ρt ρe : Rho} {n : Nat} {a : Addr} (h : ρe a = none) : rhoA ρt ρe n a = ρt a := by unfold rhoA; rw [h]
def rhoH (ρt : Rho) (b : Addr) : Rho := fun a => if a = b then some [] else ρt a
theorem sim_lcN {wi : TI} {ix : IX} {tg : TG} {g : D → VS → QR VS} {ttx : TX} {tt : TT} {te : TE} {x : VX} {vs ts : List Nat} (hi : SimI K W wi ix) (hg : SimG K tg ts g) (hts : ∀ i ∈ ts, i ∈ vs) (ht : SimT K WN tt ttx) (hx : SimF K WN te x) :
    SimF K W (tLc wi tg tt te vs) (vLcN ix vs g ttx x) := fun ρ pv S H σV σ Q s h => by
  refine hi ρ pv S H σV σ _ s ?_
  have h' : FPost K W ρ pv S H σ false σV Q ((vLcN ix vs g ttx x).f σV) := h
  unfold vLcN at h'; dsimp only at h'
  cases e : ix σV with
  | bad => rw [e] at h'; exact h'
  | err c σ1 => rw [e] at h'; exact h'
  | ok ds σ1 =>
    rw [e] at h'; dsimp only at h'
    intro ρ1 S1 H1 J G Y g1 s1 wk hG hY D hD
    have hS1 : S1 D = none := s1.w.ex.back hD
    have hr1 : ρ1 D = none := by
      cases q : ρ1 D with
      | none => rfl
      | some r => obtain ⟨_, o, ho⟩ := s1.w.wf D r q; rw [hD] at ho; cases ho
    have hH : ∀ u, H D = some u → ρ D ≠ none := fun u hu hr => by rw [g1.h D u hu hr] at hD; cases hD
    let Rest : List VL.D → VS → List O → Prop := fun l σ2 acc => FPost K W ρ pv S H σ false σV Q (match lcN vs g ttx x l σ2 acc with
      | .ok acc σ2 => .ok (.nl acc) σ2
      | .err c σ2 => .err c σ2
      | .bad => .bad)
    refine lc_it wk (fun i Hc => ∃ ρ2 S2 σV2 acc vacc ρt, Grw ρ S H ρ2 S2 Hc ∧ Ex S1 S2 ∧ StR K ρ2 pv S2 Hc σV2 σ ∧ Hc D = some (.lst vacc) ∧ S2 D = none ∧ ρ2 D = none ∧ ρt D = none ∧
        (∀ a q, ρt a = some q → S2 a = none ∧ (∃ o, Hc a = some o) ∧ ρ2 a = none) ∧ (∀ a o, H a = some o → ρ a = none → ρt a = none) ∧ OwZ K ρt S2 Hc acc ((List.range acc.length).map PK.ix) vacc [] ∧ Rest (ds.drop i) σV2 acc)
      ⟨ρ1, S1, σ1, [], [], fun _ => none, g1.updOut hH, .refl _, s1.updOut hr1 hS1, upd_same, hS1, hr1, rfl, fun _ _ h => (by cases h), fun _ _ _ _ => rfl, by unfold OwZ; exact ⟨rfl, rfl⟩, h'⟩ ?_ ?_ ?_
    · rintro i Hc _ ⟨ρ2, S2, σV2, acc, vacc, ρt, _, x2, s2, _⟩
      exact hG S2 Hc x2 s2.w.ex
    · rintro i v Hc H3 hlt ⟨ρ2, S2, σV2, acc, vacc, ρt, g2, x2, s2, d2, n2, r2, rt2, wt, nt, f2, p2⟩ y
      obtain ⟨S3, d, q3, ex3, hd, w3⟩ := hY S2 Hc i v H3 hlt x2 s2.w.ex y
      have s3 := s2.quiet q3 ex3
      have p2' : FPost K W ρ pv S H σ false σV Q (match lcN vs g ttx x (ds.drop i) σV2 acc with
        | .ok acc σ2 => .ok (.nl acc) σ2
        | .err c σ2 => .err c σ2
        | .bad => .bad) := p2
      rw [drop_at hd] at p2'
      unfold lcN at p2'
      cases ea : putAway vs σV2 with
      | bad => rw [ea] at p2'; exact p2'.elim
      | ok σ3 =>
        rw [ea] at p2'; dsimp only at p2'
        refine hg ρ2 pv S3 H3 σ3 (wipe σ vs) d v _ (s3.away ea) w3 ?_
        cases eg : g d σ3 with
        | bad => rw [eg] at p2'; exact p2'.elim
        | ok σ4 =>
          rw [eg] at p2'; dsimp only at p2'
          intro σ4' s4 on4
          refine ⟨wipe_eq on4 hts, ht ρ2 pv S3 H3 σ4 σ4' _ s4 ?_⟩
          have g3 : Grw ρ S H ρ2 S3 H3 := g2.trans q3.grw
          cases et : ttx.f σ4 with
          | bad => rw [et] at p2'; exact p2'.elim
          | err c σ5 => rw [et] at p2'; exact p2'.elim
          | ok k σ5 =>
            rw [et] at p2'; dsimp only at p2'
            intro ρ5 S5 H5 g5 s5 _
            have d3 := q3.h D _ d2
            have n3 := q3.n D _ d2 n2
            have d5 := g5.h D _ d3 r2
            have n5 := g5.n D _ d3 n3 r2
            have r5 := g5.f D _ d3 r2
            have x5 : Ex S1 S5 := (x2.trans q3.s).trans g5.s
            have wt5 : ∀ a q, ρt a = some q → S5 a = none ∧ H5 a = Hc a ∧ (∃ o, H5 a = some o) ∧ ρ5 a = none := fun a q h => by
              obtain ⟨h1, ⟨o, h2⟩, h3⟩ := wt a q h
              have a3 := q3.h a o h2
              have b3 := q3.n a o h2 h1
              have a5 := g5.h a o a3 h3
              exact ⟨g5.n a o a3 b3 h3, a5.trans h2.symm, ⟨o, a5⟩, g5.f a o a3 h3⟩
            cases k with
            | false =>
              simp only [Bool.false_eq_true, if_false] at p2' ⊢
              refine ⟨ρ5, S5, _, acc, vacc, ρt, g3.trans g5, x5, s2.back ea (q3.s.trans g5.s) s5 on4 hts, d5, n5, r5, rt2, fun a q h => ?_, nt, ?_, p2'⟩
              · obtain ⟨h1, _, h2, h3⟩ := wt5 a q h
                exact ⟨h1, h2, h3⟩
              · exact OwZ.mono (q3.s.trans g5.s) (fun a r h => ⟨h, (wt5 a _ h).2.1⟩) f2
            | true =>
              simp only [if_true] at p2' ⊢
              refine hx ρ5 pv S5 H5 σ5 σ4' _ s5 ?_
              cases ex : x.f σ5 with
              | bad => rw [ex] at p2'; exact p2'.elim
              | err c σ6 => rw [ex] at p2'; exact p2'.elim
              | ok o σ6 =>
                rw [ex] at p2'; dsimp only at p2'
                intro ρ6 S6 H6 yv ρe g6 s6 t6 w6 _
                have d6 := g6.h D _ d5 r5
                have n6 := g6.n D _ d5 n5 r5
                have r6 := g6.f D _ d5 r5
                have e6 := t6.n D _ d5 r5
                have e36 : Ex S2 S6 := (q3.s.trans g5.s).trans g6.s
                have wt6 : ∀ a q, ρt a = some q → S6 a = none ∧ H6 a = Hc a ∧ (∃ o, H6 a = some o) ∧ ρ6 a = none ∧ ρe a = none := fun a q h => by
                  obtain ⟨h1, h2, ⟨o, h3⟩, h4⟩ := wt5 a q h
                  have a6 := g6.h a o h3 h4
                  exact ⟨g6.n a o h3 h1 h4, (a6.trans h3.symm).trans h2, ⟨o, a6⟩, g6.f a o h3 h4, t6.n a o h3 h4⟩
                by_cases hc : acc.length < sizeLine
                · rw [if_pos hc] at p2'
                  refine ⟨vacc, d6, by rw [f2.lenK.2]; exact hc, ρ6, S6, _, acc ++ [o], vacc ++ [yv], rhoA ρt ρe acc.length, ((g3.trans g5).trans g6).updOut hH, x5.trans g6.s, (s2.back ea e36 s6 on4 hts).updOut r6 n6, upd_same, n6, r6, by rw [rhoA_out e6]; exact rt2, fun a q h => ?_, fun a u h r => ?_, ?_, p2'⟩
                  · have ne : a ≠ D := fun z => by subst z; rw [rhoA_out e6, rt2] at h; cases h
                    rw [upd_ne ne]
                    cases e7 : ρe a with
                    | none =>
                      rw [rhoA_out e7] at h
                      obtain ⟨h1, _, h2, h3, _⟩ := wt6 a q h
                      exact ⟨h1, h2, h3⟩
                    | some q' =>
                      obtain ⟨h1, h2⟩ := t6.wf a q' e7
                      exact ⟨h1, h2, t6.d a q' e7⟩
                  · have e8 : ρe a = none := t6.n a u ((g3.trans g5).h a u h r) ((g3.trans g5).f a u h r)
                    rw [rhoA_out e8]; exact nt a u h r
                  · rw [List.length_append, List.length_singleton, range_map_succ]
                    refine owZ_app (OwZ.mono e36 (fun a r h => ?_) f2) (Ow.mono (.refl _) (fun a r h => ⟨rhoA_in h, upd_ne fun z => by rw [z, e6] at h; cases h⟩) w6)
                    obtain ⟨_, h2, _, _, h3⟩ := wt6 a _ h
                    exact ⟨by rw [rhoA_out h3]; exact h, by rw [upd_ne fun z => by rw [z, rt2] at h; cases h]; exact h2⟩
                · rw [if_neg hc] at p2'; exact p2'.elim
    · rintro Hc ⟨ρ2, S2, σV2, acc, vacc, ρt, g2, x2, s2, d2, n2, r2, rt2, wt, nt, f2, p2⟩
      have p2' : FPost K W ρ pv S H σ false σV Q (match lcN vs g ttx x (ds.drop ds.length) σV2 acc with
        | .ok acc σ2 => .ok (.nl acc) σ2
        | .err c σ2 => .err c σ2
        | .bad => .bad) := p2
      rw [List.drop_length] at p2'
      have n0 : ∀ a o, H a = some o → ρ a = none → a ≠ D := fun a o h r z => hH o (z ▸ h) (z ▸ r)
      refine p2' ρ2 S2 Hc (.ref D) (rhoH ρt D) g2 s2 ⟨fun a q h => ?_, fun a q h => ?_, fun a o h r => ?_⟩ ?_ fun z => by cases z
      · unfold rhoH at h
        by_cases z : a = D
        · subst z; exact ⟨n2, _, d2⟩
        · rw [if_neg z] at h
          obtain ⟨h1, h2, _⟩ := wt a q h
          exact ⟨h1, h2⟩
      · unfold rhoH at h
        by_cases z : a = D
        · subst z; exact r2
        · rw [if_neg z] at h; exact (wt a q h).2.2
      · unfold rhoH; rw [if_neg (n0 a o h r)]; exact nt a o h r
      · unfold Ow
        refine ⟨D, vacc, rfl, by unfold rhoH; rw [if_pos rfl], d2, OwZ.mono (.refl _) (fun a r h => ⟨?_, rfl⟩) f2⟩
        unfold rhoH
        rw [if_neg fun z => by rw [z, rt2] at h; cases h]
        exact h
end
end VL
set_option maxRecDepth 100000
set_option maxHeartbeats 4000000
/-! V14: what the printer uses -/
namespace VL
open PySem L2
section
variable {K : Frag} {W : WX} {te tb ti to : TE} {ta : TA} {x y : VX} {a : AX} {ts : TS} {b : VB}
/-! ### truth, as a value -/
theorem tru_V {ρ : Rho} {S H : Hp} {o : O} {v : V} {p : Path} {b : Bool} (wf : Wf ρ S H) (w : Ow K ρ S H o v p) (e : tru o = .ok b) : TruV K v H b := by
  cases o with
  | val d =>
    unfold Ow at w
    cases d with
    | non => unfold Fz at w; subst w; cases e; rfl
    | bl c => unfold Fz at w; subst w; cases e; rfl
    | int i => unfold Fz at w; subst w; cases e; rfl
    | str y =>
      unfold Fz at w; subst w
      have e' : (if y.length ≤ sizeLine then QR.ok ((y.length : Int) != 0) else .bad) = .ok b := e
      by_cases hy : y.length ≤ sizeLine
      · rw [if_pos hy] at e'; cases e'; exact ⟨hy, rfl⟩
      · rw [if_neg hy] at e'; cases e'
    | tup ds =>
      unfold Fz at w
      obtain ⟨a, vs, rfl, h1, h2⟩ := w
      cases e
      exact .inr (.inl ⟨vs, SqT.of (wf.ex _ _ h1), emp_len h2.len⟩)
    | lst ds =>
      unfold Fz at w
      obtain ⟨a, vs, rfl, h1, h2⟩ := w
      cases e
      exact .inl ⟨vs, SqL.of (wf.ex _ _ h1), emp_len h2.len⟩
    | rd ds =>
      unfold Fz at w
      obtain ⟨a, vs, rfl, h1, h2⟩ := w
      cases e
      exact .inl ⟨vs, wf.ex.sqL h1, emp_len h2.len⟩
    | _ => cases e
  | ol ds =>
    unfold Ow at w
    obtain ⟨a, vs, rfl, h1, h2, h3⟩ := w
    cases e
    exact .inl ⟨vs, SqL.of h2, emp_len h3.len⟩
  | nl os =>
    unfold Ow at w
    obtain ⟨a, vs, rfl, h1, h2, h3⟩ := w
    cases e
    exact .inl ⟨vs, SqL.of h2, emp_len h3.lenK.2.symm⟩
  | _ => cases e
def fNotT : List O → QR O
  | [o] => match tru o with
    | .ok b => .ok (.val (.bl (!b)))
    | .bad => .bad
  | _ => .bad
theorem s_notT : SimR K (r1l fun x H Q => ∃ k, TruV K x H k ∧ Q (.bl (!k)) H) fNotT := fun ρ S H os vs Q w wa h => by
  unfold fNotT at h
  split at h
  · rename_i o
    obtain ⟨v, p, rfl, h1⟩ := wa.one
    cases e : tru o with
    | bad => rw [e] at h; exact h.elim
    | ok b =>
      rw [e] at h
      exact ⟨b, tru_V w h1 e, RPost.now (p := []) w h .bl⟩
  · exact h.elim
theorem sim_notT (hx : SimX K W te x) : SimX K W (tNotT K te) (v1 fNotT x) := sim_un (r := fun x H Q => ∃ k, TruV K x H k ∧ Q (.bl (!k)) H) s_notT hx
/-! ### what is never reached -/
def sBad : VB := fun _ => .bad
theorem sim_never : SimS K W tNever sBad := fun ρ pv S H σV σ D s h => h.elim
def vBad : VX := ⟨true, fun _ => .bad⟩
def tNo : TE := fun _ _ _ => False
theorem sim_no : SimX K W tNo vBad := fun ρ pv S H σV σ Q s h => h.elim
theorem pe_no {X : Cx} {e : Expr} : PE X e tNo := ⟨fun _ _ _ _ _ _ h => h.elim⟩
/-! ### names that die -/
def sTidy (is : List Nat) (b : VB) : VB := fun σ => match b σ with
  | .nx σ1 => (match gFg is σ1 with
    | .ok σ2 => .nx σ2
    | .bad => .bad)
  | .ct σ1 => (match gFg is σ1 with
    | .ok σ2 => .ct σ2
    | .bad => .bad)
  | .bk σ1 => (match gFg is σ1 with
    | .ok σ2 => .bk σ2
    | .bad => .bad)
  | r => r
theorem sim_tidy {is : List Nat} (h1 : SimS K W ts b) : SimS K W ts (sTidy is b) := fun ρ pv S H σV σ D s h => by
  refine h1 ρ pv S H σV σ D s ?_
  unfold sTidy at h
  cases e : b σV with
  | bad => rw [e] at h; exact h
  | err c σ1 => rw [e] at h; exact h
  | rt o σ1 => rw [e] at h; exact h
  | nx σ1 =>
    rw [e] at h; dsimp only at h
    cases e2 : gFg is σ1 with
    | bad => rw [e2] at h; exact h.elim
    | ok σ2 =>
      rw [e2] at h
      intro ρ1 S1 H1 σ' g s1
      obtain ⟨ρ2, S2, g2, s2⟩ := simH_fg ρ1 pv S1 H1 σ1 σ' σ2 s1 e2
      exact h ρ2 S2 H1 σ' (g.trans g2) s2
  | ct σ1 =>
    rw [e] at h; dsimp only at h
    cases e2 : gFg is σ1 with
    | bad => rw [e2] at h; exact h.elim
    | ok σ2 =>
      rw [e2] at h
      intro ρ1 S1 H1 σ' g s1
      obtain ⟨ρ2, S2, g2, s2⟩ := simH_fg ρ1 pv S1 H1 σ1 σ' σ2 s1 e2
      exact h ρ2 S2 H1 σ' (g.trans g2) s2
  | bk σ1 =>
    rw [e] at h; dsimp only at h
    cases e2 : gFg is σ1 with
    | bad => rw [e2] at h; exact h.elim
    | ok σ2 =>
      rw [e2] at h
      intro ρ1 S1 H1 σ' g s1
      obtain ⟨ρ2, S2, g2, s2⟩ := simH_fg ρ1 pv S1 H1 σ1 σ' σ2 s1 e2
      exact h ρ2 S2 H1 σ' (g.trans g2) s2
/-! ### calls -/
theorem md_no {n : Nat} : ∀ (i : Nat), (List.replicate n false)[i]? ≠ some true := fun i h => by
  rw [List.getElem?_replicate] at h
  split at h <;> cases h
theorem sim_callF {m : FS} {n : Nat} (ha : SimA K W ta a) (hl : NA a n) : SimF K W (tCallS (SpOf K (List.replicate n false) m) (WE W) ta) (vCallP m a) :=
  sim_callP md_no ha fun σ os σ1 e => by rw [hl.l σ os σ1 e, List.length_replicate]
/-- a def that stands by name -/
structure OkF (P : Program) (w : World) (K : Frag) (mg : Str → Option Value) (base : Heap) (k : Nat) (f : Addr) (ps : List Str) (sp : Sp) : Prop where
  ok : ∃ fd, FnOk P w K mg base (L2.CX P w) k f fd ps sp ∧ Binds K fd ps []
  kp : PySem.W.keepIn K (.ref f) = true
theorem OkF.mono {P : Program} {w : World} {mg : Str → Option Value} {base : Heap} {j k : Nat} {f : Addr} {ps : List Str} {sp : Sp} (F : OkF P w K mg base j f ps sp) (h : j ≤ k) : OkF P w K mg base k f ps sp :=
  ⟨by obtain ⟨fd, G, b⟩ := F.ok; exact ⟨fd, G.mono h, b⟩, F.kp⟩
theorem _root_.L2.Room.units5 {k : Nat} {A : Around} (r : Room k A) : A.units + 65 < cLine := by have := r.un; omega
theorem tyR {n : String} : RelV (.ty n) (.type n) := by rfl
theorem sim_tyN {n : String} : SimX K W (tC (.ty n)) (vC (.ty n)) := sim_c fun S => by unfold Fz; rfl
theorem sim_ci {n : Int} : SimX K W (tC (.int n)) (vC (.int n)) := sim_c fun S => by unfold Fz; rfl
theorem sim_cb' {n : Bool} : SimX K W (tC (.bl n)) (vC (.bl n)) := sim_c fun S => by unfold Fz; rfl
theorem sim_cs {n : Str} : SimX K W (tC (.str n)) (vC (.str n)) := sim_c fun S => by unfold Fz; rfl
theorem sim_cn : SimX K W (tC .non) (vC .non) := sim_c fun S => by unfold Fz; rfl
def tvYes : TX := ⟨true, fun σ => .ok true σ⟩
theorem sim_yes : SimT K W tYes tvYes := fun ρ pv S H σV σ Q s h => h ρ S H .refl s fun _ => ⟨rfl, rfl, .refl⟩
theorem bi_list : bootBuiltins "list" = some (.type "list") := by decide +kernel
theorem bi_tuple : bootBuiltins "tuple" = some (.type "tuple") := by decide +kernel
theorem bi_int : bootBuiltins "int" = some (.type "int") := by decide +kernel
theorem bi_bool : bootBuiltins "bool" = some (.type "bool") := by decide +kernel
theorem bi_str : bootBuiltins "str" = some (.type "str") := by decide +kernel
theorem bi_dict : bootBuiltins "dict" = some (.type "dict") := by decide +kernel
theorem bi_len : bootBuiltins "len" = some (.builtin "len") := by decide +kernel
theorem bi_isinstance : bootBuiltins "isinstance" = some (.builtin "isinstance") := by decide +kernel
theorem bi_max : bootBuiltins "max" = some (.builtin "max") := by decide +kernel
theorem bi_min : bootBuiltins "min" = some (.builtin "min") := by decide +kernel
theorem bi_sum : bootBuiltins "sum" = some (.builtin "sum") := by decide +kernel
theorem bi_sorted : bootBuiltins "sorted" = some (.builtin "sorted") := by decide +kernel
end
end VL

/-! ### the rules, the fragment by name (blocks: what is read may not hang on the block's own state) -/
namespace L2
open PySem PySem.Spec PyProof.Rows VL
section
variable {X : Cx} {K : PySem.W.Frag}
theorem ix_seqK (hK : X.K = K) : IxR X (rIx K) := by subst hK; exact ix_seq
theorem op_addUK (hK : X.K = K) : OpR X (binaryOp .Add) (rAddU K) := by subst hK; exact op_addU
theorem op_eqDK (hK : X.K = K) (hu : X.A.units + 64 < cLine) : OpR X (compareOp .Eq) (rEqD K) := by subst hK; exact op_eqD hu
theorem op_neDK (hK : X.K = K) (hu : X.A.units + 64 < cLine) : OpR X (compareOp .NotEq) (rNeD K) := by subst hK; exact op_neD hu
theorem op_inUK (hK : X.K = K) (hu : X.A.units + 65 < cLine) : OpR X (compareOp .In) (rInU K false) := by subst hK; exact op_inU hu
theorem op_niUK (hK : X.K = K) (hu : X.A.units + 65 < cLine) : OpR X (compareOp .NotIn) (rInU K true) := by subst hK; exact op_niU hu
theorem op_ltUK (hK : X.K = K) (hu : X.A.units < cLine) : OpR X (compareOp .Lt) (rLtU K) := by subst hK; exact op_ltU hu
theorem op_leUK (hK : X.K = K) (hu : X.A.units < cLine) : OpR X (compareOp .LtE) (rLeU K) := by subst hK; exact op_leU hu
theorem call_lenK (hK : X.K = K) : CallR X (.builtin "len") (fun xs H Q => ∃ x n, xs = [x] ∧ LenV K x H n ∧ Q (.int n) H) := by subst hK; exact call_len
theorem call_isiU (hK : X.K = K) : CallR X (.builtin "isinstance") (rIsi K) := by subst hK; exact call_isi
theorem cr_sumK (hK : X.K = K) (hc : X.calm = true) : CallR X (.builtin "sum") (rSum K) := by subst hK; exact cr_sum hc
theorem cr_maxK (hK : X.K = K) (hc : X.calm = true) : CallR X (.builtin "max") (rMax K) := by subst hK; exact cr_max hc
theorem cr_minIK (hK : X.K = K) (hc : X.calm = true) : CallR X (.builtin "min") (rMin K) := by subst hK; exact cr_min hc
theorem cr_sortUK (hK : X.K = K) : CallR X (.builtin "sorted") (VL.rSortU K) := by subst hK; exact VL.cr_sortU
theorem call_list_ofK (hK : X.K = K) : CallR X (.type "list") (fun xs H Q => ∃ p ys, xs = [.ref p] ∧ (SqL K H p ys ∨ SqT K H p ys) ∧ ∀ l, H l = none → Q (.ref l) (upd H l (.lst ys))) := by subst hK; exact call_list_of
theorem call_tuple_ofK (hK : X.K = K) : CallR X (.type "tuple") (fun xs H Q => ∃ p ys, xs = [.ref p] ∧ ((SqL K H p ys ∧ ∀ l, H l = none → Q (.ref l) (upd H l (.tup ys))) ∨ (SqT K H p ys ∧ Q (.ref p) H))) := by subst hK; exact call_tuple_of
theorem sl_UK (hK : X.K = K) : SlR X (rSlU K) := by subst hK; exact sl_U
variable {e o a : Expr} {es : List Expr} {ta te to : TE} {t : TA} {f name : Str} {pos apos cpos : Pos}
theorem pe_fldK (hK : X.K = K) (he : PE X e ta) (hb : attributeBase e f X.env (eval e X.env) = eval e X.env := by rfl) : PE X (.Attribute e f pos) (tFld K ta f) := by subst hK; exact pe_fld he hb
theorem pe_notTK (hK : X.K = K) (ha : PE X a ta) : PE X (.UnaryOp .Not a pos) (tNotT K ta) := by subst hK; exact pe_notT ha
theorem pt_truthK (hK : X.K = K) (ha : PE X a ta) (he : ∀ whole, isTrue a X.env whole = (do let v ← whole; standAt a.pos; holding [v] (truthy v)) := by intro _; rfl) :
    PT X a (fun σ H Q => ta σ H fun x H' => ∃ k, TruV K x H' k ∧ Q k H') := by subst hK; exact pt_truth ha he
theorem pi_seqK {tg l : Expr} {tl : TE} (hK : X.K = K) (hl : PE X l tl) : PI X tg l (iSeq K tl) := by subst hK; exact pi_seq hl
theorem pe_revLK {e : Expr} {te : TE} {k : Nat} {p1 p2 p3 pos : Pos} (hK : X.K = K) (he : PE X e te) : PE X (.Subscript e (.Slice none none (some (.UnaryOp .USub (.Constant (.int 1) k p1) p2)) p3) pos) (tRevL K te) := by subst hK; exact pe_revL he
theorem pg_tupK {es : List Expr} {k : Nat} {t : TGs} {n : Nat} (hK : X.K = K) (hc : X.calm = true) (h : PGs X es t)
    (hn : (assignEach es X.env).length = n := by rfl) (hst : (assignEach es X.env).findIdx? (·.1) = none := by rfl) : PG X (.Tuple es k pos) (gTup K n t) := by subst hK; exact pg_tup hc h hn hst
theorem pe_bm0K' {T id : String} {r : V → List V → Hp → VK → Prop} (hK : X.K = K) (pa : PlainAttrs T) (slot : Slot T name id) (hty : typeOf (.builtin id) = pure (.type "method_descriptor")) (hm : MtR X id r) (ho : PE X o to)
    (hbase : attributeBase o name X.env (eval o X.env) = eval o X.env := by rfl) (hline : (apos.endLine == cpos.line) = true := by rfl) : PE X (.Call (.Attribute o name apos) [] [] cpos) (tBM0 K T r to) := by subst hK; exact pe_bm0 pa slot hty hm ho hbase hline
theorem pe_bmK' {T id : String} {r : V → List V → Hp → VK → Prop} (hK : X.K = K) (pa : PlainAttrs T) (slot : Slot T name id) (hty : typeOf (.builtin id) = pure (.type "method_descriptor")) (hm : MtR X id r) (ho : PE X o to) (ha : PA X (e :: es) t)
    (hbase : attributeBase o name X.env (eval o X.env) = eval o X.env := by rfl)
    (hfew : ((backTo cpos (starEach (e :: es) X.env)).all (fun x => !x.1) && (backToKw cpos (keywordEach [] X.env)).all (fun x => x.1.isSome)
      && decide ((e :: es).length + ([] : List Keyword).length + (if ([] : List Keyword).isEmpty then 0 else 1) < 30)) = true := by rfl)
    (hline : (apos.endLine == cpos.line) = true := by rfl) (hs : starEach (e :: es) X.env = (false, eval e X.env) :: starEach es X.env := by rfl) (hplain : (backTo cpos (starEach es X.env)).any (·.1) = false := by rfl) :
    PE X (.Call (.Attribute o name apos) (e :: es) [] cpos) (tBM K T r to t) := by subst hK; exact pe_bm pa slot hty hm ho ha hbase hfew hline hs hplain
end
end L2
set_option maxRecDepth 100000
set_option maxHeartbeats 4000000
/-! V15: a law's end -/
namespace L2
open PySem PySem.Spec PyProof.Rows
theorem FnOk.noE {P : Program} {w : World} {K : PySem.W.Frag} {mg : Str → Option Value} {base : Heap} {k : Nat} {f : Addr} {fd : FuncData} {ps : List Str} {sp : Sp} (F : FnOk P w K mg base (L2.CX P w) k f fd ps sp) :
    FnOk P w K mg base CX0 k f fd ps (fun vs H Q _ => sp vs H Q fun _ _ _ => False) :=
  ⟨fun vs H Q E h => F.len vs H Q _ h, fun A outer s H args us vs Q E hr he hb hv hs => codeAny_mono (F.run A outer s H args us vs Q _ hr he hb hv hs) fun r s' hq => by
    cases r with
    | ok fl => cases fl <;> exact hq
    | error e =>
      obtain ⟨_, _, _, _, _, _, _, _, _, _, _, _, z⟩ := hq
      exact z.elim⟩
end L2
namespace VL
open PySem L2
/-- what is to be shown of a law's meaning -/
def LawOk (m : FS) : Prop := ∀ ns : List Int, ns.length ≤ 63 → ∃ outs, m [.val (.rd (ns.map D.int))] = .ok (.val (.bl true)) outs
theorem sp_law {K : Frag} {m : FS} (h : LawOk m) {H : Hp} {a : Addr} {ns : List Int} (hl : ns.length ≤ 63) (hS : SqL K H a (ns.map V.int)) {E : XK} : SpOf K (List.replicate 1 false) m [.ref a] H (fun v _ => v = .bl true) E := by
  obtain ⟨outs, e⟩ := h ns hl
  refine ⟨fun _ => none, H, [.val (.rd (ns.map D.int))], ⟨.refl _, fun _ _ h => (by cases h), fun _ _ h => h⟩, ⟨rfl, rfl, fun i o v h1 h2 => ⟨fun h3 => (md_no i h3).elim, fun _ => ?_⟩⟩, ?_⟩
  · cases i with
    | zero =>
      cases h1; cases h2
      refine ⟨_, rfl, ?_⟩
      unfold Fz
      exact ⟨a, ns.map V.int, rfl, hS, FzL.ints.mpr rfl⟩
    | succ i => simp at h1
  · rw [e]
    intro ρ' S' H' v ρ2 _ _ _ _ w
    unfold Ow Fz at w
    exact w
end VL
set_option maxRecDepth 100000
set_option maxHeartbeats 4000000
/-! V16: raise, try; facts of the head of my own -/
namespace L2
open PySem PySem.Spec PyProof.Rows
/-- isinstance(e, c) in an except suite, e the error that it holds, whatever its class -/
def rIsX (K : PySem.W.Frag) (a : Addr) (cls : Value) (d : Option Addr) : List V → Hp → VK → Prop := fun xs H Q => ∃ (D : Addr), cls = .ref D ∧ d = none ∧ ExcC K D ∧ rIsE K D a xs H Q
theorem call_isX {X : Cx} {a : Addr} {cls : Value} {d : Option Addr} {oe : Obj} {pn : List (Addr × Obj)} (hz : Zc cls d oe) (hf : ∃ vs, oe.data = .fields vs) : CallR (X.suite a ((a, oe) :: pn)) (.builtin "isinstance") (rIsX X.K a cls d) := by
  intro pins s σ H xs us Q I r h
  obtain ⟨D, rfl, rfl, C, h⟩ := h
  exact call_isE C hz hf pins s σ H xs us Q I r h
theorem call_isXK {X : Cx} {K : PySem.W.Frag} (hK : X.K = K) {a : Addr} {cls : Value} {d : Option Addr} {oe : Obj} {pn : List (Addr × Obj)} (hz : Zc cls d oe) (hf : ∃ vs, oe.data = .fields vs) : CallR (X.suite a ((a, oe) :: pn)) (.builtin "isinstance") (rIsX K a cls d) := by
  subst hK; exact call_isX hz hf
end L2
namespace VL
open PySem L2
section
variable {K : Frag} {W : WX} {te tb : TE} {x y : VX} {ts : TS} {b : VB}
/-- raise C(..) -/
def sErr (c : Str) : VB := fun σ => .err c σ
theorem sim_raise {c : Str} : SimS K W (fun _ σ H => W (.ref (He.ga K c)) none σ H) (sErr c) := fun ρ pv S H σV σ D s h => h ρ S H σ .refl s
structure ExcF (K : Frag) (c : Str) : Prop where
  x : PySem.W.excIn K (He.ga K c) He.veBase "ValueError.__new__" = true
  k : PySem.W.keepIn K (.ref (He.ga K c)) = true
  b : PySem.W.subIn K (.ref (He.ga K c)) (.type "BaseException") = some true
  t : PySem.W.typeIn K (.ref (He.ga K c)) = some (.type "type")
/-! ### try .. except C: suite -/
def noErr : BR → BR
  | .err _ _ => .bad
  | r => r
def sTry (tbl : List (Str × Bool)) (b : VB) (s : Str → VB) : VB := fun σ => match b σ with
  | .err c σ1 => (match tbl.lookup c with
    | some true => noErr (s c σ1)
    | some false => .err c σ1
    | none => .bad)
  | r => r
theorem noErr_post {ρ : Rho} {pv : Nat → Option V} {S H : Hp} {D : Ends} {r : BR} (h : BPost K W ρ pv S H D (noErr r)) : BPost K WN ρ pv S H D r := by
  cases r with
  | err c σ => exact h.elim
  | _ => exact h
theorem look_mem {tbl : List (Str × Bool)} {c : Str} {k : Bool} (h : tbl.lookup c = some k) : (c, k) ∈ tbl := by
  induction tbl with
  | nil => cases h
  | cons q tbl ih =>
    obtain ⟨x, z⟩ := q
    rw [List.lookup_cons] at h
    cases e : c == x with
    | true =>
      rw [e] at h
      cases h
      rw [eq_of_beq e]
      exact List.mem_cons_self
    | false =>
      rw [e] at h
      exact List.mem_cons_of_mem _ (ih h)
theorem sim_try {tbl : List (Str × Bool)} {cv : Value} {t2 : WX → TS} {ts2 : Addr → Value → Option Addr → TS} {s : Str → VB} (hx : ∀ q ∈ tbl, PySem.W.exmOne K (.ref (He.ga K q.1)) cv = some q.2) (hb : ∀ W, SimS K W (t2 W) b)
    (hs : ∀ a c, SimS K WN (ts2 a (.ref (He.ga K c)) none) (s c)) : SimS K W (fun D σ H => t2 (wOnly K cv ts2 W D) D σ H) (sTry tbl b s) := fun ρ pv S H σV σ D st h => by
  refine hb (wOnly K cv ts2 W D) ρ pv S H σV σ D st ?_
  have h' : BPost K W ρ pv S H D (match b σV with
    | .err c σ1 => (match tbl.lookup c with
      | some true => noErr (s c σ1)
      | some false => .err c σ1
      | none => .bad)
    | r => r) := h
  cases e : b σV with
  | err c σ1 =>
    rw [e] at h'
    have h2 : BPost K W ρ pv S H D (match tbl.lookup c with
      | some true => noErr (s c σ1)
      | some false => .err c σ1
      | none => .bad) := h'
    intro ρ1 S1 H1 σ' g1 s1
    cases el : tbl.lookup c with
    | none => rw [el] at h2; exact h2.elim
    | some k =>
      rw [el] at h2
      refine ⟨k, hx _ (look_mem el), fun hk a ha => ?_, fun hk => ?_⟩
      · subst hk
        exact hs a c ρ1 pv S1 H1 σ1 σ' D s1 (BPost.at g1 (noErr_post h2))
      · subst hk
        exact h2 ρ1 S1 H1 σ' g1 s1
  | nx _ => rw [e] at h'; exact h'
  | rt _ _ => rw [e] at h'; exact h'
  | bk _ => rw [e] at h'; exact h'
  | ct _ => rw [e] at h'; exact h'
  | bad => rw [e] at h'; exact h'
/-! ### try .. except C as e: suite -/
/-- a truth value that hangs on the class alone; e stands at slot i -/
abbrev EB := Str → Option Bool
abbrev TEX := Addr → Value → Option Addr → TE
def SimC (K : Frag) (i : Nat) (te : TEX) (eb : EB) : Prop := ∀ c k, eb c = some k → ∀ a σ H Q, σ[i]? = some (some (.ref a)) → Q (.bl k) H → te a (.ref (He.ga K c)) none σ H Q
def ebIs (kt : List (Str × Bool)) : EB := fun c => kt.lookup c
def ebNot (e : EB) : EB := fun c => (e c).map fun k => !k
def ebAnd (e f : EB) : EB := fun c => match e c, f c with
  | some a, some b => some (a && b)
  | _, _ => none
theorem simC_is {i : Nat} {kt : List (Str × Bool)} {v : V} (cv : Value) (hv : ∀ u, RelV v u → u = cv) (hk : ∀ q ∈ kt, ExcC K (He.ga K q.1) ∧ PySem.W.kitOne K (.ref (He.ga K q.1)) cv = some q.2) :
    SimC K i (fun a cls d => tCB (rIsX K a cls d) (tCons (tVar i) (tCons (tC v) tNil))) (ebIs kt) := fun c k e a σ H Q hi q => by
  obtain ⟨h1, h2⟩ := hk _ (look_mem e)
  exact ⟨.ref a, hi, He.ga K c, rfl, rfl, h1, v, cv, k, rfl, hv, h2, q⟩
theorem simC_not {i : Nat} {te : TEX} {e : EB} (h : SimC K i te e) : SimC K i (fun a cls d => tNotT K (te a cls d)) (ebNot e) := fun c k hk a σ H Q hi q => by
  have hk' : (e c).map (fun k => !k) = some k := hk
  cases hc : e c with
  | none => rw [hc] at hk'; cases hk'
  | some b =>
    rw [hc] at hk'
    cases hk'
    exact h c b hc a σ H _ hi ⟨b, rfl, q⟩
theorem simC_and {i : Nat} {te tb : TEX} {e f : EB} (h : SimC K i te e) (h2 : SimC K i tb f) : SimC K i (fun a cls d => tAndV (te a cls d) (tb a cls d)) (ebAnd e f) := fun c k hk a σ H Q hi q => by
  have hk' : (match e c, f c with
    | some a, some b => some (a && b)
    | _, _ => none) = some k := hk
  cases hc : e c with
  | none => rw [hc] at hk'; cases hk'
  | some b1 =>
    rw [hc] at hk'
    cases hc2 : f c with
    | none => rw [hc2] at hk'; cases hk'
    | some b2 =>
      rw [hc2] at hk'
      cases hk'
      refine h c b1 hc a σ H _ hi ⟨b1, rfl, ?_⟩
      cases b1 with
      | true => exact h2 c b2 hc2 a σ H Q hi q
      | false => exact q
abbrev TSX := Addr → Value → Option Addr → TS
def SimU (K : Frag) (i : Nat) (ts : TSX) (s : Str → VB) : Prop := ∀ a c ρ pv S H σV σ D, StR K ρ pv S H σV σ → σ[i]? = some (some (.ref a)) → BPost K WN ρ pv S H D (s c σV) → ts a (.ref (He.ga K c)) none D σ H
def suRet (e : EB) : Str → VB := fun c σ => match e c with
  | some k => .rt (.val (.bl k)) σ
  | none => .bad
theorem simU_ret {i : Nat} {te : TEX} {e : EB} (h : SimC K i te e) : SimU K i (fun a cls d => tRet (te a cls d)) (suRet e) := fun a c ρ pv S H σV σ D st hi q => by
  have q' : BPost K WN ρ pv S H D (match e c with
    | some k => .rt (.val (.bl k)) σV
    | none => .bad) := q
  cases hc : e c with
  | none => rw [hc] at q'; exact q'.elim
  | some k =>
    rw [hc] at q'
    exact h c k hc a σ H _ hi (q' ρ S H σ (.bl k) (fun _ => none) .refl st Tmp.none (by unfold Ow; exact fz_bl S))
theorem StR.unset {ρ : Rho} {pv : Nat → Option V} {S H : Hp} {σV : VS} {σ : St} {i : Nat} {o : Option V} (s : StR K ρ pv S H σV σ) (hr : ∀ o', σV[i]? ≠ some (.rf o')) : StR K ρ pv S H (σV.set i .un) (σ.set i o) := by
  refine ⟨s.w, by simp [s.len], fun j sv o' h1 h2 => ?_, fun j o' h1 => ?_⟩
  · by_cases e : i = j
    · subst e
      by_cases hl : i < σV.length
      · rw [List.getElem?_set_self hl] at h1; cases h1; cases h2
      · rw [List.getElem?_eq_none (by simpa using hl)] at h1; cases h1
    · rw [List.getElem?_set_ne e] at h1 ⊢
      exact s.slot j sv o' h1 h2
  · by_cases e : i = j
    · subst e
      by_cases hl : i < σV.length
      · rw [List.getElem?_set_self hl] at h1; cases h1
      · rw [List.getElem?_eq_none (by simpa using hl)] at h1; cases h1
    · rw [List.getElem?_set_ne e] at h1 ⊢
      exact s.pin j o' h1
def unS (i : Nat) (k : VS → BR) (σ : VS) : BR := match σ[i]? with
  | some (.rf _) => .bad
  | some _ => k (σ.set i .un)
  | none => .bad
def endU (i : Nat) : BR → BR
  | .nx σ => unS i .nx σ
  | .bk σ => unS i .bk σ
  | .ct σ => unS i .ct σ
  | .rt o σ => .rt o σ
  | _ => .bad
def sTryAs (tbl : List (Str × Bool)) (i : Nat) (b : VB) (s : Str → VB) : VB := fun σ => match b σ with
  | .err c σ1 => (match tbl.lookup c with
    | some true => endU i (unS i (s c) σ1)
    | some false => .err c σ1
    | none => .bad)
  | r => r
theorem unS_ok {i : Nat} {k : VS → BR} {σ : VS} {P : BR → Prop} (hb : ¬ P .bad) (h : P (unS i k σ)) : i < σ.length ∧ (∀ o, σ[i]? ≠ some (.rf o)) ∧ P (k (σ.set i .un)) := by
  unfold unS at h
  cases e : σ[i]? with
  | none => rw [e] at h; exact (hb h).elim
  | some sv =>
    rw [e] at h
    have hl := (List.getElem?_eq_some_iff.mp e).1
    cases sv with
    | rf o => exact (hb h).elim
    | un => exact ⟨hl, fun o => by simp, h⟩
    | va o => exact ⟨hl, fun o => by simp, h⟩
theorem sim_tryAs {tbl : List (Str × Bool)} {i : Nat} {cv : Value} {t2 : WX → TS} {ts2 : TSX} {s : Str → VB} (hx : ∀ q ∈ tbl, PySem.W.exmOne K (.ref (He.ga K q.1)) cv = some q.2) (hb : ∀ W, SimS K W (t2 W) b)
    (hs : SimU K i ts2 s) : SimS K W (fun D σ H => t2 (wAs K cv i ts2 W D) D σ H) (sTryAs tbl i b s) := fun ρ pv S H σV σ D st h => by
  refine hb (wAs K cv i ts2 W D) ρ pv S H σV σ D st ?_
  have h' : BPost K W ρ pv S H D (match b σV with
    | .err c σ1 => (match tbl.lookup c with
      | some true => endU i (unS i (s c) σ1)
      | some false => .err c σ1
      | none => .bad)
    | r => r) := h
  cases e : b σV with
  | err c σ1 =>
    rw [e] at h'
    have h2 : BPost K W ρ pv S H D (match tbl.lookup c with
      | some true => endU i (unS i (s c) σ1)
      | some false => .err c σ1
      | none => .bad) := h'
    intro ρ1 S1 H1 σ' g1 s1
    cases el : tbl.lookup c with
    | none => rw [el] at h2; exact h2.elim
    | some k =>
      rw [el] at h2
      refine ⟨k, hx _ (look_mem el), fun hk a ha => ?_, fun hk => ?_⟩
      · subst hk
        have h3 : BPost K W ρ1 pv S1 H1 D (endU i (unS i (s c) σ1)) := BPost.at g1 h2
        obtain ⟨hl, hr, h4⟩ := unS_ok (P := fun r => BPost K W ρ1 pv S1 H1 D (endU i r)) (fun z => z) h3
        have s2 : StR K ρ1 pv S1 H1 (σ1.set i .un) (σ'.set i (some (.ref a))) := s1.unset hr
        refine hs a c ρ1 pv S1 H1 _ _ _ s2 (List.getElem?_set_self (by rw [s1.len]; exact hl)) ?_
        cases er : s c (σ1.set i .un) with
        | nx σ2 =>
          rw [er] at h4
          intro ρ3 S3 H3 σ3 g3 s3
          obtain ⟨_, hr3, h5⟩ := unS_ok (P := fun r => BPost K W ρ1 pv S1 H1 D r) (fun z => z) h4
          exact h5 ρ3 S3 H3 _ g3 (s3.unset hr3)
        | bk σ2 =>
          rw [er] at h4
          intro ρ3 S3 H3 σ3 g3 s3
          obtain ⟨_, hr3, h5⟩ := unS_ok (P := fun r => BPost K W ρ1 pv S1 H1 D r) (fun z => z) h4
          exact h5 ρ3 S3 H3 _ g3 (s3.unset hr3)
        | ct σ2 =>
          rw [er] at h4
          intro ρ3 S3 H3 σ3 g3 s3
          obtain ⟨_, hr3, h5⟩ := unS_ok (P := fun r => BPost K W ρ1 pv S1 H1 D r) (fun z => z) h4
          exact h5 ρ3 S3 H3 _ g3 (s3.unset hr3)
        | rt o σ2 =>
          rw [er] at h4
          exact h4
        | err c2 σ2 => rw [er] at h4; exact h4.elim
        | bad => rw [er] at h4; exact h4.elim
      · subst hk
        exact h2 ρ1 S1 H1 σ' g1 s1
  | nx _ => rw [e] at h'; exact h'
  | rt _ _ => rw [e] at h'; exact h'
  | bk _ => rw [e] at h'; exact h'
  | ct _ => rw [e] at h'; exact h'
  | bad => rw [e] at h'; exact h'
/-! ### a written list of the module -/
theorem fz_rd {x : Str} {ds : List D} {vs : List V} (h : ∀ H, SqL K H (He.ga K x) vs) (f : ∀ S, FzL K S ds vs) : ∀ S, Fz K S (.rd ds) (.ref (He.ga K x)) := fun S => by
  unfold Fz; exact ⟨_, vs, rfl, h S, f S⟩
end
end VL
/-! ### the head's facts, more of them -/
namespace He
open PySem PySem.Spec PyProof.Rows L2
inductive FaX where
  | excC (x : Str)
  | kit (x y : Str) (b : Bool)
  | kitT (x : Str) (n : String) (b : Bool)
  | lst (x : Str) (vs : List Dv)
def FaX.ok (K : PySem.W.Frag) : FaX → Bool
  | .excC x => eqO (PySem.W.findIn K (.ref (ga K x)) "__getattribute__") (some (some (.builtin "BaseException.__getattribute__"))) && (eqO (PySem.W.findIn K (.ref (ga K x)) "__getattr__") (some none) && (decide (PySem.W.subIn K (.ref (ga K x)) (.type "BaseException") = some true) &&
      (PySem.W.hasDictIn K (ga K x) && (eqO (PySem.W.findIn K (.ref (ga K x)) "__class__") (some (some (.builtin "object.__class__"))) && (eqO (PySem.W.specialIn K (.builtin "object.__class__") "__get__") (some (some (.builtin "getset_descriptor.__get__"))) &&
      (decide (PySem.W.takesIn K (.builtin "object.__class__") = some true) && decide (PySem.W.mroIn K (ga K x) (.type "object") = some true)))))))
  | .kit x y b => decide (PySem.W.kitOne K (.ref (ga K x)) (.ref (ga K y)) = some b)
  | .kitT x n b => decide (PySem.W.kitOne K (.ref (ga K x)) (.type n) = some b)
  | .lst x vs => lstB K x vs
section
variable {K : PySem.W.Frag}
theorem excC_ok {x : Str} (c : (FaX.excC x).ok K = true) : ExcC K (ga K x) := by
  obtain ⟨c1, c⟩ := ba c
  obtain ⟨c2, c⟩ := ba c
  obtain ⟨c3, c⟩ := ba c
  obtain ⟨c4, c⟩ := ba c
  obtain ⟨c5, c⟩ := ba c
  obtain ⟨c6, c⟩ := ba c
  obtain ⟨c7, c8⟩ := ba c
  exact ⟨eqO_ok c1, eqO_ok c2, of_decide_eq_true c3, c4, eqO_ok c5, eqO_ok c6, of_decide_eq_true c7, of_decide_eq_true c8⟩
theorem kit_ok {x y : Str} {b : Bool} (c : (FaX.kit x y b).ok K = true) : PySem.W.kitOne K (.ref (ga K x)) (.ref (ga K y)) = some b := of_decide_eq_true c
theorem kitT_ok {x : Str} {n : String} {b : Bool} (c : (FaX.kitT x n b).ok K = true) : PySem.W.kitOne K (.ref (ga K x)) (.type n) = some b := of_decide_eq_true c
theorem excF_ok {x : Str} (c : (Fa.exc x).ok K = true) : VL.ExcF K x := by
  obtain ⟨a, b, d, e⟩ := exc_ok c
  exact ⟨a, b, d, e⟩
end
def obsX (fa : List Fa) (fb : List FaX) (fn : List DefD) (K : PySem.W.Frag) : AlD := ((fa.all fun f => f.ok K) && ((fb.all fun f => f.ok K) && fn.all fun d => d.ok K), fn.map fun d => fnW K d.at_)
def SaysX (fa : List Fa) (fb : List FaX) (fn : List DefD) (K : PySem.W.Frag) : Prop := obsX fa fb fn K = valD fn
def obsXG (n : Nat) (fa : List Fa) (fb : List FaX) (fn : List DefD) (g : Addr → Option Obj) : AlD := obsX fa fb fn (frG g (asD g n))
def hookX (n : Nat) (fa : List Fa) (fb : List FaX) (fn : List DefD) : PySem.W.Hook where
  α := AlD
  obs := fun s => obsXG n fa fb fn s.heap.get?
  val := fun _ => valD fn
  says := fun _ h => ∃ K : PySem.W.Frag, K.In h ∧ SaysX fa fb fn K
  of := fun _ _ e => ⟨_, frG_in, e⟩
  keeps := fun _ _ _ ⟨K, hK, c⟩ k => ⟨K, PySem.W.Frag.In.keeps hK k, c⟩
theorem obsXG_eq {n : Nat} {fa : List Fa} {fb : List FaX} {fn : List DefD} {g : Addr → Option Obj} {s : Shared} (h : ∀ a, g a = s.heap.get? a) : obsXG n fa fb fn g = (hookX n fa fb fn).obs s := by
  have e : g = s.heap.get? := funext h
  rw [e] <;> rfl
section
variable {fa : List Fa} {fb : List FaX} {fn : List DefD} {K : PySem.W.Frag}
theorem SaysX.fact (c : SaysX fa fb fn K) (i : Nat) {f : Fa} (h : fa[i]? = some f := by rfl) : f.ok K = true := by
  have c1 := (ba (show ((fa.all fun f => f.ok K) && ((fb.all fun f => f.ok K) && fn.all fun d => d.ok K)) = true from congrArg (fun z : AlD => z.1) c)).1
  exact List.all_eq_true.mp c1 f (List.mem_of_getElem? h)
theorem SaysX.factX (c : SaysX fa fb fn K) (i : Nat) {f : FaX} (h : fb[i]? = some f := by rfl) : f.ok K = true := by
  have c1 := (ba (ba (show ((fa.all fun f => f.ok K) && ((fb.all fun f => f.ok K) && fn.all fun d => d.ok K)) = true from congrArg (fun z : AlD => z.1) c)).2).1
  exact List.all_eq_true.mp c1 f (List.mem_of_getElem? h)
theorem SaysX.def_ (c : SaysX fa fb fn K) (i : Nat) {d : DefD} (h : fn[i]? = some d := by rfl) : ∃ fd, FunD K d.name d.qual d.params d.body d.scope (d.dvs K) (d.kws K) (fAd K d.at_) fd := by
  have c2 := (ba (ba (show ((fa.all fun f => f.ok K) && ((fb.all fun f => f.ok K) && fn.all fun d => d.ok K)) = true from congrArg (fun z : AlD => z.1) c)).2).2
  have e : fn.map (fun d => fnW K d.at_) = fn.map DefD.val := congrArg (fun z : AlD => z.2) c
  have e2 : (fn.map fun d => fnW K d.at_)[i]? = (fn.map DefD.val)[i]? := by rw [e]
  rw [List.getElem?_map, List.getElem?_map, h] at e2
  exact DefD.funD (Option.some.inj e2) (List.all_eq_true.mp c2 d (List.mem_of_getElem? h))
end
end He
namespace VL
open PySem L2
theorem fc {α : Type} {p : α → Prop} {a : α} {l : List α} (h : p a) (t : ∀ x ∈ l, p x) : ∀ x ∈ a :: l, p x := List.forall_mem_cons.mpr ⟨h, t⟩
theorem f0 {α : Type} {p : α → Prop} : ∀ x ∈ ([] : List α), p x := fun _ h => by cases h
theorem bi_ValueError : bootBuiltins "ValueError" = some (.type "ValueError") := by decide +kernel
theorem bi_enumerate : bootBuiltins "enumerate" = some (.type "enumerate") := by decide +kernel
theorem bi_zip : bootBuiltins "zip" = some (.type "zip") := by decide +kernel
theorem bi_set : bootBuiltins "set" = some (.type "set") := by decide +kernel
end VL
set_option maxRecDepth 100000
set_option maxHeartbeats 4000000
/-! V17: enumerate, zip, augmented assignment, further methods of lists -/
namespace L2
open PySem PySem.Spec PyProof.Rows
section
variable {X : Cx} {K : PySem.W.Frag} {e e2 : Expr} {ta : TA} {p pos tpos : Pos} {elts : List Expr} {kk : Nat}
theorem pi_enumK (hK : X.K = K) (hg : Gl X "enumerate") (hm : X.mg "enumerate" = none) (ha : PA X [e] ta) (hs : starEach [e] X.env = [(false, eval e X.env)] := by rfl) :
    PI X (.Tuple elts kk tpos) (.Call (.Name "enumerate" p) [e] [] pos) (iEnum K ta) := by
  subst hK; exact pi_enum hg hm ha hs
theorem pi_zipK (hK : X.K = K) (hg : Gl X "zip") (hm : X.mg "zip" = none) (ha : PA X [e, e2] ta)
    (hs : starEach [e, e2] X.env = (false, eval e X.env) :: starEach [e2] X.env := by rfl) (hpl : (backTo pos (starEach [e2] X.env)).any (·.1) = false := by rfl) :
    PI X (.Tuple elts kk tpos) (.Call (.Name "zip" p) [e, e2] [] pos) (iZip K ta) := by
  subst hK; exact pi_zip hg hm ha hs hpl
theorem mt_indexDK (hK : X.K = K) (hu : X.A.units + 65 < cLine) : MtR X "list.index" (rIndexD K) := by subst hK; exact mt_indexD hu
theorem mt_lcountK (hK : X.K = K) : MtR X "list.count" (rCntI K) := by subst hK; exact mt_lcount
theorem pget_list (hK : X.K = K) : PGet X (rIxL K) := by
  subst hK
  intro pins s σ H x y v u Q I rx ry h
  obtain ⟨p, xs, i, z, rfl, rfl, hq, he, q⟩ := h
  cases rx
  obtain ⟨t, rfl⟩ := ry
  obtain ⟨its, r, pl, hz⟩ := I.list hq
  obtain ⟨j, h1, h2, h3, h4, h5⟩ := atI_get he
  obtain ⟨w, ew, rw'⟩ := r.get h2
  have hl := r.length
  have hn := line63
  have fin : EP X pins σ Q w s := ⟨z, H, I, rw', q⟩
  by_cases h0 : 0 ≤ i
  · have hj : i.toNat = j := by
      rw [seqIndex_of h0 h5] at h1
      exact Option.some.inj h1
    exact wpAny_getItem_list pl.isList h0 (by omega) (by rw [hj]; simpa using ew) fin
  · have hj : (i + (its.toArray.size : Int)).toNat = j := by
      rw [seqIndex_neg (by omega) h4] at h1
      rw [List.size_toArray, ← hl]
      exact Option.some.inj h1
    exact wpAny_getItem_list_neg pl.isList (by omega) (by rw [List.size_toArray] <;> omega) (by omega) (by rw [hj]; simpa using ew) fin
/-- x *= y -/
def ipC (C : Int → Int → Prop) (f : Int → Int → Int) : TIp := fun x y H Q => ∃ i j, x = .int i ∧ y = .int j ∧ C i j ∧ Q (.int (f i j)) H
theorem ip_mul : PIp X .Mult (ipC CMul fun i j => i * j) := by
  intro pins s σ H x y v u Q I r1 r2 h
  obtain ⟨i, j, rfl, rfl, c, q⟩ := h
  obtain ⟨t, rfl⟩ := r1
  obtain ⟨t', rfl⟩ := r2
  exact imul_int ⟨.int _, H, I.tok _, ⟨_, rfl⟩, q⟩ c.ok
theorem ip_imp {op : Operator} {t t' : TIp} (h : PIp X op t) (hi : ∀ x y H Q, t' x y H Q → t x y H Q) : PIp X op t' := fun pins s σ H x y v u Q I r1 r2 q => h pins s σ H x y v u Q I r1 r2 (hi _ _ _ _ q)
theorem ip_addC : PIp X .Add (ipC (fun _ _ => True) fun i j => i + j) := ip_imp ip_add fun _ _ _ _ ⟨i, j, e1, e2, _, q⟩ => ⟨i, j, e1, e2, q⟩
theorem ip_subC : PIp X .Sub (ipC (fun _ _ => True) fun i j => i - j) := ip_imp ip_sub fun _ _ _ _ ⟨i, j, e1, e2, _, q⟩ => ⟨i, j, e1, e2, q⟩
end
end L2
namespace VL
open PySem L2
section
variable {K : Frag} {W : WX} {te tb to ti : TE} {ta : TA} {x y z : VX} {a : AX}
/-- a tuple made by a walk, frozen at once -/
theorem quiet_tup {S H : Hp} {T : Addr} {o : HO} (e : Ex S H) (hT : H T = none) : Quiet S H (upd S T o) (upd H T o) ∧ Ex (upd S T o) (upd H T o) := by
  have hS : S T = none := e.back hT
  refine ⟨⟨.new hS, .new hT, fun a u h1 h2 => ?_, fun f => f.new⟩, fun a u h => ?_⟩
  · have : a ≠ T := ne_of_none h1 hT
    rw [upd_ne this]; exact h2
  · by_cases c : a = T
    · subst c; rw [upd_same] at h ⊢; exact h
    · rw [upd_ne c] at h ⊢; exact e a u h
def enuD (ds : List D) : List D := ds.zipIdx.map fun p => D.tup [.int (p.2 : Nat), p.1]
theorem enuD_len {ds : List D} : (enuD ds).length = ds.length := by simp [enuD]
theorem enuD_get {ds : List D} {i : Nat} {d : D} (h : ds[i]? = some d) : (enuD ds)[i]? = some (.tup [.int i, d]) := by
  unfold enuD
  rw [List.getElem?_map, List.getElem?_zipIdx, h]
  simp
def ixEnum (x : VX) : IX := fun σ => match x.f σ with
  | .ok (.val (.lst ds)) σ1 => .ok (enuD ds) σ1
  | .ok (.val (.rd ds)) σ1 => .ok (enuD ds) σ1
  | .ok _ _ => .bad
  | .err c σ1 => .err c σ1
  | .bad => .bad
theorem enum_post {S' : Hp} {ds : List D} {vs : List V} (f : FzL K S' ds vs) : ∀ S2 H2 i x H3, i < (enuD ds).length → Ex S' S2 → Ex S2 H2 → YPair (fun i => some (.int (i : Nat))) (fun i => vs[i]?) i H2 x H3 → ∃ S3 d, Quiet S2 H2 S3 H3 ∧ Ex S3 H3 ∧ (enuD ds)[i]? = some d ∧ Fz K S3 d x := fun S2 H2 i x H3 _ e1 e2 y => by
  obtain ⟨T, a, b, rfl, hT, rfl, ha, hb⟩ := y
  cases ha
  obtain ⟨d, hd, q⟩ := f.getV hb
  obtain ⟨q1, q2⟩ := quiet_tup (o := .tup [.int (i : Nat), b]) e2 hT
  refine ⟨_, _, q1, q2, enuD_get hd, ?_⟩
  unfold Fz
  exact ⟨T, _, rfl, upd_same, .cons (by unfold Fz; rfl) (.one ((q.mono e1).mono q1.s))⟩
theorem sim_iEnum (hx : SimX K W te x) : SimI K W (iEnum K (tCons te tNil)) (ixEnum x) := fun ρ pv S H σV σ R s h => by
  refine hx ρ pv S H σV σ _ s ?_
  unfold ixEnum at h
  cases e : x.f σV with
  | bad => rw [e] at h; exact h
  | err c σ1 => rw [e] at h; exact h
  | ok o σ1 =>
    rw [e] at h
    intro ρ1 S1 H1 v p g1 s1 w1 _
    have ex := s1.w.ex
    cases o with
    | val d =>
      unfold Ow at w1
      cases d with
      | lst ds =>
        unfold Fz at w1
        obtain ⟨a, vs, rfl, h1, f⟩ := w1
        exact ⟨a, vs, rfl, SqL.of (ex _ _ h1), h ρ1 S1 H1 _ _ _ g1 s1 (by rw [enuD_len, f.len]; exact walk_enum) (fun S2 H2 e1 e2 => SqL.of (e2 _ _ (e1 _ _ h1))) (enum_post f)⟩
      | rd ds =>
        unfold Fz at w1
        obtain ⟨a, vs, rfl, h1, f⟩ := w1
        exact ⟨a, vs, rfl, ex.sqL h1, h ρ1 S1 H1 _ _ _ g1 s1 (by rw [enuD_len, f.len]; exact walk_enum) (fun S2 H2 e1 e2 => e2.sqL (e1.sqL h1)) (enum_post f)⟩
      | _ => exact h.elim
    | _ => exact h.elim
/-! ### zip of two lists -/
def zipD (ds es : List D) : List D := (ds.zip es).map fun p => D.tup [p.1, p.2]
theorem zipD_len {ds es : List D} : (zipD ds es).length = min ds.length es.length := by simp [zipD]
def lsO : O → Option (List D)
  | .val (.lst ds) => some ds
  | .val (.rd ds) => some ds
  | _ => none
theorem lsO_ok {ρ : Rho} {S H : Hp} {o : O} {v : V} {p : Path} {ds : List D} (h : Ow K ρ S H o v p) (e : lsO o = some ds) : ∃ a vs, v = .ref a ∧ SqL K S a vs ∧ FzL K S ds vs := by
  cases o with
  | val d =>
    unfold Ow at h
    cases d with
    | lst es =>
      cases e
      unfold Fz at h
      obtain ⟨a, vs, rfl, h1, f⟩ := h
      exact ⟨a, vs, rfl, SqL.of h1, f⟩
    | rd es =>
      cases e
      unfold Fz at h
      obtain ⟨a, vs, rfl, h1, f⟩ := h
      exact ⟨a, vs, rfl, h1, f⟩
    | _ => cases e
  | _ => cases e
def ixZip (a : AX) : IX := fun σ => match a.f σ with
  | .ok [o, o2] σ1 => (match lsO o, lsO o2 with
    | some ds, some es => .ok (zipD ds es) σ1
    | _, _ => .bad)
  | .ok _ _ => .bad
  | .err c σ1 => .err c σ1
  | .bad => .bad
theorem zip_post {S' : Hp} {ds es : List D} {vs ws : List V} (f : FzL K S' ds vs) (f2 : FzL K S' es ws) : ∀ S2 H2 i x H3, i < (zipD ds es).length → Ex S' S2 → Ex S2 H2 → YPair (fun i => vs[i]?) (fun i => ws[i]?) i H2 x H3 → ∃ S3 d, Quiet S2 H2 S3 H3 ∧ Ex S3 H3 ∧ (zipD ds es)[i]? = some d ∧ Fz K S3 d x := fun S2 H2 i x H3 _ e1 e2 y => by
  obtain ⟨T, a, b, rfl, hT, rfl, ha, hb⟩ := y
  obtain ⟨d, hd, q⟩ := f.getV ha
  obtain ⟨d2, hd2, q'⟩ := f2.getV hb
  obtain ⟨q1, q2⟩ := quiet_tup (o := .tup [a, b]) e2 hT
  refine ⟨_, .tup [d, d2], q1, q2, ?_, ?_⟩
  · unfold zipD
    have hz : (ds.zip es)[i]? = some (d, d2) := List.getElem?_zip_eq_some.mpr ⟨hd, hd2⟩
    rw [List.getElem?_map, hz]; rfl
  · unfold Fz
    exact ⟨T, _, rfl, upd_same, .cons ((q.mono e1).mono q1.s) (.one ((q'.mono e1).mono q1.s))⟩
theorem sim_iZip (ha : SimA K W ta a) : SimI K W (iZip K ta) (ixZip a) := fun ρ pv S H σV σ R s h => by
  refine ha ρ pv S H σV σ _ s ?_
  unfold ixZip at h
  cases e : a.f σV with
  | bad => rw [e] at h; exact h
  | err c σ1 => rw [e] at h; exact h
  | ok os σ1 =>
    rw [e] at h
    intro ρ1 S1 H1 vs g1 s1 w1 _
    have ex := s1.w.ex
    split at h
    · rename_i o o2 σ2 e2
      cases e2
      obtain ⟨v, p, v2, p2, rfl, h1, h2⟩ := w1.two
      cases e3 : lsO o with
      | none => rw [e3] at h; exact h.elim
      | some ds =>
        rw [e3] at h
        cases e4 : lsO o2 with
        | none => rw [e4] at h; exact h.elim
        | some es =>
          rw [e4] at h
          obtain ⟨b, us, rfl, q1, f1⟩ := lsO_ok h1 e3
          obtain ⟨c, ws, rfl, q2, f2⟩ := lsO_ok h2 e4
          exact ⟨b, c, us, ws, rfl, ex.sqL q1, ex.sqL q2, h ρ1 S1 H1 _ _ _ g1 s1 (walk_zip (by rw [zipD_len, f1.len, f2.len])) (fun S2 H2 e1 e2 => ⟨e2.sqL (e1.sqL q1), e2.sqL (e1.sqL q2)⟩) (zip_post f1 f2)⟩
    · exact h.elim
    · rename_i e2; cases e2
    · rename_i e2; cases e2
/-! ### x op= e -/
def sAug (i : Nat) (C : Int → Int → Bool) (g : Int → Int → Int) (x : VX) : VB := fun σ => match σ[i]?.bind SV.get with
  | some (.val (.int m)) => (match x.f σ with
    | .ok (.val (.int n)) σ1 => if C m n = true then nxQ (setv i (.val (.int (g m n))) σ1) else .bad
    | .ok _ _ => .bad
    | .err c σ1 => .err c σ1
    | .bad => .bad)
  | _ => .bad
theorem sim_aug {i : Nat} {C : Int → Int → Bool} {Cp : Int → Int → Prop} {g : Int → Int → Int} (hC : ∀ m n, C m n = true → Cp m n) (hx : SimX K W te x) : SimS K W (tAug i te (ipC Cp g)) (sAug i C g x) := fun ρ pv S H σV σ D s h => by
  unfold sAug at h
  cases e : σV[i]?.bind SV.get with
  | none => rw [e] at h; exact h.elim
  | some o =>
    rw [e] at h
    obtain ⟨sv, e1, e2⟩ := Option.bind_eq_some_iff.mp e
    obtain ⟨v, h1, h2⟩ := s.slot i sv o e1 e2
    split at h
    · rename_i m ho
      cases ho
      cases intO h2
      refine ⟨.int m, h1, hx ρ pv S H σV σ _ s ?_⟩
      cases ex : x.f σV with
      | bad => rw [ex] at h; exact h
      | err c σ1 => rw [ex] at h; exact fun ρ1 S1 H1 g1 s1 => h ρ1 S1 H1 σ g1 s1
      | ok o2 σ1 =>
        rw [ex] at h
        intro ρ1 S1 H1 v2 p2 g1 s1 w2 _
        split at h
        · rename_i n σ2 ho
          cases ho
          cases intO w2
          by_cases c : C m n = true
          · rw [if_pos c] at h
            refine ⟨m, n, rfl, rfl, hC m n c, ?_⟩
            cases es : setv i (.val (.int (g m n))) σ1 with
            | bad => rw [es] at h; exact h.elim
            | ok σ3 =>
              rw [es] at h
              obtain ⟨q1, q2, q3⟩ := setv_ok es
              subst q3
              exact h ρ1 S1 H1 _ g1 (s1.put q1 q2 s1.w (fun _ _ z => z) (by unfold Ow; exact fz_int S1))
          · rw [if_neg c] at h; exact h.elim
        · exact h.elim
        · rename_i ho; cases ho
        · rename_i ho; cases ho
    · exact h.elim
/-! ### l[i] op= e -/
/-- the receiver a place, the index and the operand quiet -/
def sAugL (l : LX) (y : VX) (C : Int → Int → Bool) (g : Int → Int → Int) (x : VX) : VB := fun σ => match l σ with
  | .ok lv => if (y.q && x.q) = true then (match y.f σ with
    | .ok (.val (.int k)) _ => (match lv.o with
      | .ol ds => (match L2.atI ds k, L2.ixN ds.length k with
        | some (.int m), some j => (match x.f σ with
          | .ok (.val (.int n)) _ => if C m n = true then .nx (lv.put (.ol (ds.set j (.int (g m n))))) else .bad
          | _ => .bad)
        | _, _ => .bad)
      | _ => .bad)
    | _ => .bad) else .bad
  | .bad => .bad
theorem sim_augL {l : LX} {C : Int → Int → Bool} {Cp : Int → Int → Prop} {g : Int → Int → Int} (hC : ∀ m n, C m n = true → Cp m n) (hl : SimL K to l) (hy : SimX K WN ti y) (hx : SimX K WN te x) : SimS K W (tAugS to ti te (rIxL K) (ipC Cp g) rSetL) (sAugL l y C g x) := fun ρ pv S H σV σ D s h => by
  unfold sAugL at h
  refine hl ρ pv S H σV σ _ s ?_
  cases e1 : l σV with
  | bad => rw [e1] at h; exact h.elim
  | ok lv =>
    rw [e1] at h; dsimp only at h
    intro S2 H2 vo po q2 ex pl
    by_cases hq : (y.q && x.q) = true
    · rw [if_pos hq] at h
      obtain ⟨hqy, hqx⟩ := Bool.and_eq_true_iff.mp hq
      have s2 := s.quiet q2 ex
      refine hy ρ pv S2 H2 σV σ _ s2 ?_
      cases e2 : y.f σV with
      | bad => rw [e2] at h; exact h.elim
      | err c σ2 => rw [e2] at h; exact h.elim
      | ok oi σ2 =>
        rw [e2] at h
        intro ρ3 S3 H3 vi pi g3 s3 wi q3
        obtain ⟨a1, a2, a3⟩ := q3 hqy
        subst a1 a2
        split at h
        · rename_i k σ9 hk
          cases hk
          cases intO wi
          have pl3 := pl.quiet s2.w a3
          split at h
          · rename_i ds hlo
            have w3 := pl3.w
            rw [hlo] at w3
            unfold Ow at w3
            obtain ⟨b, xs, rfl, r1, h1, f⟩ := w3
            split at h
            · rename_i m j hm hj
              obtain ⟨w, hw, fw⟩ := f.atI hm
              unfold Fz at fw
              subst fw
              refine ⟨b, xs, k, .int m, rfl, rfl, SqL.of h1, hw, ?_⟩
              refine hx ρ3 pv S3 H3 σ2 σ _ s3 ?_
              cases ex2 : x.f σ2 with
              | bad => rw [ex2] at h; exact h.elim
              | err c σ4 => rw [ex2] at h; exact h.elim
              | ok ox σ4 =>
                rw [ex2] at h
                intro ρ4 S4 H4 vx px g4 s4 wx q4
                obtain ⟨b1, b2, b3⟩ := q4 hqx
                subst b1 b2
                split at h
                · rename_i n σ8 hn
                  cases hn
                  cases intO wx
                  by_cases c : C m n = true
                  · rw [if_pos c] at h
                    have pl4 := pl3.quiet s3.w b3
                    have h14 : H4 b = some (.lst xs) := b3.h _ _ h1
                    obtain ⟨g5, ko, wf⟩ := upd_at (u' := .lst (xs.set j (.int (g m n)))) s4.w r1 h14
                    refine ⟨m, n, rfl, rfl, hC m n c, b, xs, k, j, rfl, rfl, h14, f.len ▸ hj, ?_⟩
                    refine h ρ4 S4 _ σ ((q2.trans (a3.trans b3)).grw.trans g5) (pl4.put ρ4 S4 _ _ (.refl _) ko wf ?_)
                    unfold Ow
                    exact ⟨b, _, rfl, r1, upd_same, (f.mono b3.s).set j (by unfold Fz; rfl)⟩
                  · rw [if_neg c] at h; exact h.elim
                · exact h.elim
            · exact h.elim
          · exact h.elim
        · exact h.elim
    · rw [if_neg hq] at h; exact h.elim
/-! ### index, count, insert, remove -/
def mIndex : O → List O → QR (O × O)
  | o, [y] => match pyO o, shp y with
    | some (.list ds), some d => if SeqAt.shaped (.list ds) = true then (match ds.findIdx? fun z => PyData.eqv z d with
      | some j => .ok (o, .val (.int (j : Nat)))
      | none => .bad) else .bad
    | _, _ => .bad
  | _, _ => .bad
theorem s_index : SimM K (rIndexD K) mIndex := fun ρ S H o v p os vs Q w wo wa h => by
  unfold mIndex at h
  split at h
  · rename_i y
    obtain ⟨vy, py, rfl, hy⟩ := wa.one
    split at h
    · rename_i ds d e1 e2
      by_cases hs : SeqAt.shaped (.list ds) = true
      · rw [if_pos hs] at h
        cases e3 : ds.findIdx? fun z => PyData.eqv z d with
        | none => rw [e3] at h; exact h.elim
        | some j =>
          rw [e3] at h
          obtain ⟨hd1, hd2⟩ := shp_ok w hy e2
          have hl := pyO_ok w wo e1
          obtain ⟨hj, hz, hno⟩ := List.findIdx?_eq_some_iff_getElem.mp e3
          have ha : ∃ a, v = .ref a := by
            cases hl with
            | lst => exact ⟨_, rfl⟩
          obtain ⟨a, rfl⟩ := ha
          refine ⟨a, vy, d, ds, j, ds[j], rfl, rfl, hl, hd1, hs, hd2, List.getElem?_eq_getElem hj, hz, fun m z' hm hz' => ?_, ?_⟩
          · have hml : m < ds.length := by omega
            rw [List.getElem?_eq_getElem hml] at hz'
            cases hz'
            simpa using hno m hm
          · exact h ρ S H _ [] .refl (fun a x h1 _ => ⟨h1, rfl⟩) w wo .int
      · rw [if_neg hs] at h; exact h.elim
    · exact h.elim
  · exact h.elim
def mCountI : O → List O → QR (O × O)
  | o, [.val (.int k)] => match sqO o with
    | some ds => (match intsD ds with
      | some ns => .ok (o, .val (.int (ns.count k : Nat)))
      | none => .bad)
    | none => .bad
  | _, _ => .bad
theorem s_countI : SimM K (rCntI K) mCountI := fun ρ S H o v p os vs Q w wo wa h => by
  unfold mCountI at h
  split at h
  · rename_i k
    obtain ⟨vy, py, rfl, hy⟩ := wa.one
    cases intO hy
    cases e1 : sqO o with
    | none => rw [e1] at h; exact h.elim
    | some ds =>
      rw [e1] at h; dsimp only at h
      cases e2 : intsD ds with
      | none => rw [e2] at h; exact h.elim
      | some ns =>
        rw [e2] at h
        obtain ⟨a, vs, rfl, q, f⟩ := sqO_ok w wo e1
        rw [intsD_eq e2] at f
        rw [FzL.ints.mp f] at q
        exact ⟨a, ns, k, rfl, rfl, q, h ρ S H _ [] .refl (fun a x h1 _ => ⟨h1, rfl⟩) w wo .int⟩
  · exact h.elim
def rInsert : V → List V → Hp → VK → Prop := fun x vs H Q => ∃ (l : Addr) (xs : List V) (i : Int) (y : V), x = .ref l ∧ vs = [.int i, y] ∧ H l = some (.lst xs) ∧ xs.length < sizeLine ∧ 0 ≤ i ∧ i < 2 ^ 63 ∧
    Q .non (upd H l (.lst (xs.take i.toNat ++ [y] ++ xs.drop i.toNat)))
def mInsert : O → List O → QR (O × O)
  | .ol ds, [.val (.int i), .val d] => if (decide (ds.length < sizeLine) && (decide (0 ≤ i) && bnd 9223372036854775807 i)) = true then .ok (.ol (ds.take i.toNat ++ [d] ++ ds.drop i.toNat), .val .non) else .bad
  | _, _ => .bad
theorem s_insert : SimM K rInsert mInsert := fun ρ S H o v p os vs Q w wo wa h => by
  unfold mInsert at h
  split at h
  · rename_i ds i d
    obtain ⟨vi, pi, vd, pd, rfl, hi, hd⟩ := wa.two
    cases intO hi
    unfold Ow at hd
    unfold Ow at wo
    obtain ⟨b, xs, rfl, r1, h1, f⟩ := wo
    by_cases hc : (decide (ds.length < sizeLine) && (decide (0 ≤ i) && bnd 9223372036854775807 i)) = true
    · rw [if_pos hc] at h
      rw [Bool.and_eq_true, Bool.and_eq_true, decide_eq_true_eq, decide_eq_true_eq, bnd_iff] at hc
      obtain ⟨c1, c2, c3⟩ := hc
      obtain ⟨g, ko, wf⟩ := upd_at (u' := .lst (xs.take i.toNat ++ [vd] ++ xs.drop i.toNat)) w r1 h1
      refine ⟨b, xs, i, vd, rfl, rfl, h1, f.len ▸ c1, c2, by omega, h ρ S _ _ [] g ko wf ?_ (.v (fz_non _))⟩
      unfold Ow
      exact ⟨b, _, rfl, r1, upd_same, ((f.take _).app (.one hd)).app (f.drop _)⟩
    · rw [if_neg hc] at h; exact h.elim
  · exact h.elim
/-- remove of an int in a list of ints -/
def mRemove : O → List O → QR (O × O)
  | .ol ds, [.val (.int k)] => match intsD ds with
    | some ns => (match ns.findIdx? fun z => z == k with
      | some j => .ok (.ol ((ns.eraseIdx j).map D.int), .val .non)
      | none => .bad)
    | none => .bad
  | _, _ => .bad
theorem s_remove : SimM K rRemI mRemove := fun ρ S H o v p os vs Q w wo wa h => by
  unfold mRemove at h
  split at h
  · rename_i ds k
    obtain ⟨vy, py, rfl, hy⟩ := wa.one
    cases intO hy
    unfold Ow at wo
    obtain ⟨b, xs, rfl, r1, h1, f⟩ := wo
    cases e1 : intsD ds with
    | none => rw [e1] at h; exact h.elim
    | some ns =>
      rw [e1] at h; dsimp only at h
      cases e2 : ns.findIdx? fun z => z == k with
      | none => rw [e2] at h; exact h.elim
      | some j =>
        rw [e2] at h
        obtain ⟨hj, hz, hno⟩ := List.findIdx?_eq_some_iff_getElem.mp e2
        rw [intsD_eq e1] at f
        have ex := FzL.ints.mp f
        subst ex
        obtain ⟨g, ko, wf⟩ := upd_at (u' := .lst ((ns.eraseIdx j).map V.int)) w r1 h1
        refine ⟨b, ns, k, j, rfl, rfl, h1, ?_, fun m hm hc => ?_, h ρ S _ _ [] g ko wf ?_ (.v (fz_non _))⟩
        · rw [List.getElem?_eq_getElem hj]
          exact congrArg some (by simpa using hz)
        · have hml : m < ns.length := by omega
          have := hno m hm
          rw [List.getElem?_eq_getElem hml] at hc
          cases hc
          simp at this
        · unfold Ow
          exact ⟨b, _, rfl, r1, upd_same, FzL.ints.mpr rfl⟩
  · exact h.elim
/-! ### a, b = x, y -/
def sPar (i j : Nat) (a : AX) : VB := fun σ => match a.f σ with
  | .ok [.val d, .val e] σ1 => (match setv i (.val d) σ1 with
    | .ok σ2 => nxQ (setv j (.val e) σ2)
    | .bad => .bad)
  | .ok _ _ => .bad
  | .err c σ1 => .err c σ1
  | .bad => .bad
theorem sim_par {i j : Nat} (ha : SimA K W ta a) : SimS K W (tPar i j ta) (sPar i j a) := fun ρ pv S H σV σ D s h => by
  refine ha ρ pv S H σV σ _ s ?_
  unfold sPar at h
  cases e : a.f σV with
  | bad => rw [e] at h; exact h
  | err c σ1 => rw [e] at h; exact fun ρ1 S1 H1 g s1 => h ρ1 S1 H1 σ g s1
  | ok os σ1 =>
    rw [e] at h
    intro ρ1 S1 H1 vs g1 s1 w1 _
    split at h
    · rename_i d d2 σ2 e2
      cases e2
      obtain ⟨v, p, v2, p2, rfl, h1, h2⟩ := w1.two
      unfold Ow at h1 h2
      cases es : setv i (.val d) σ1 with
      | bad => rw [es] at h; exact h.elim
      | ok σ3 =>
        rw [es] at h; dsimp only at h
        cases es2 : setv j (.val d2) σ3 with
        | bad => rw [es2] at h; exact h.elim
        | ok σ4 =>
          rw [es2] at h
          obtain ⟨q1, q2, q3⟩ := setv_ok es
          subst q3
          obtain ⟨r1, r2, r3⟩ := setv_ok es2
          subst r3
          have t1 := s1.put q1 q2 s1.w (fun _ _ z => z) (o := .val d) (v := v) (by unfold Ow; exact h1)
          have t2 := t1.put r1 r2 t1.w (fun _ _ z => z) (o := .val d2) (v := v2) (by unfold Ow; exact h2)
          exact ⟨v, v2, rfl, h ρ1 S1 H1 _ g1 t2⟩
    · exact h.elim
    · rename_i e2; cases e2
    · rename_i e2; cases e2
end
end VL
set_option maxRecDepth 100000
set_option maxHeartbeats 4000000
/-! V18: more displays and list methods -/
namespace VL
open PySem L2
section
variable {K : Frag} {W : WX}
/-! ### {} -/
def fNewD : List O → QR O
  | [] => .ok (.od (.k []) [])
  | _ => .bad
theorem s_newDK : SimRF K (fun _ H Q => ∀ p, H p = none → Q (.ref p) (upd H p (.dK []))) fNewD := fun ρ S H os vs Q w wa h => by
  unfold fNewD at h
  split at h
  · intro p hp
    exact RFPost.new w hp h fun H' e => by unfold Ow; exact ⟨p, [], _, rfl, rhoNew_at, e, ⟨rfl, rfl⟩, .nil⟩
  · exact h.elim
theorem sim_newDK : SimF K W tDNewK (vApp fNewD aNil) := sim_appF (r := fun _ H Q => ∀ p, H p = none → Q (.ref p) (upd H p (.dK []))) sim_nil s_newDK
/-! ### a name ahead of loud arguments: what it names is looked at behind them -/
def aName (i : Nat) (a : AX) : AX := ⟨false, fun σ => match σ[i]?.bind SV.get with
  | some _ => (match a.f σ with
    | .ok os σ1 => (match σ1[i]?.bind SV.get with
      | some o => .ok (o :: os) σ1
      | none => .bad)
    | .err c σ1 => .err c σ1
    | .bad => .bad)
  | none => .bad⟩
theorem sim_aName {i : Nat} {ta : TA} {a : AX} (ha : SimA K W ta a) : SimA K W (tCons (tVar i) ta) (aName i a) := fun ρ pv S H σV σ Q s h => by
  have h' : APost K W ρ pv S H σ false σV Q (match σV[i]?.bind SV.get with
    | some _ => (match a.f σV with
      | .ok os σ1 => (match σ1[i]?.bind SV.get with
        | some o => .ok (o :: os) σ1
        | none => .bad)
      | .err c σ1 => .err c σ1
      | .bad => .bad)
    | none => .bad) := h
  cases e : σV[i]?.bind SV.get with
  | none => rw [e] at h'; exact h'.elim
  | some o =>
    rw [e] at h'
    obtain ⟨sv, e1, e2⟩ := Option.bind_eq_some_iff.mp e
    obtain ⟨v, h1, h2⟩ := s.slot i sv o e1 e2
    refine ⟨v, h1, ha ρ pv S H σV σ _ s ?_⟩
    cases e3 : a.f σV with
    | bad => rw [e3] at h'; exact h'.elim
    | err c σ1 => rw [e3] at h'; exact h'
    | ok os σ1 =>
      rw [e3] at h'
      intro ρ1 S1 H1 vs g1 s1 w1 q1
      have h3 : APost K W ρ pv S H σ false σV Q (match σ1[i]?.bind SV.get with
        | some o => .ok (o :: os) σ1
        | none => .bad) := h'
      cases e4 : σ1[i]?.bind SV.get with
      | none => rw [e4] at h3; exact h3.elim
      | some o1 =>
        rw [e4] at h3
        obtain ⟨sv1, e5, e6⟩ := Option.bind_eq_some_iff.mp e4
        obtain ⟨v1, h4, h5⟩ := s1.slot i sv1 o1 e5 e6
        rw [h1] at h4; cases h4
        exact h3 ρ1 S1 H1 (v :: vs) g1 s1 ⟨v, vs, rfl, ⟨_, h5⟩, w1⟩ fun z => by cases z
theorem sim_opN {r : R2} {i : Nat} {tb : TE} {y : VX} {f : List O → QR O} (hr : SimR K (r2l r) f) (hy : SimX K W tb y) : SimX K W (tOp r (tVar i) tb) (vApp f (aName i (aCons y aNil))) :=
  sim_app (r := r2l r) (sim_aName (sim_cons hy sim_nil)) hr
end
end VL
set_option maxRecDepth 100000
set_option maxHeartbeats 4000000
/-! V19: properties; a head whose defs stand at any address -/
namespace L2
open PySem PySem.Spec PyProof.Rows
def tPropX (C : Addr) (sp : Sp) (ta : TE) : TE := tProp C (fun vs H Q _ => sp vs H Q fun _ _ _ => False) [] (fun _ _ _ => False) ta
theorem pe_propX {X : Cx} {k : Nat} {C p g : Addr} {f : Str} {fd : FuncData} {ps : List Str} {sp : Sp} {e : Expr} {pos : Pos} {ta : TE} (he : PE X e ta) (c : Cls X.K C) (hp : PropOf X.K C f p g) (F : FnOk X.prog X.w X.K X.mg X.base (L2.CX X.prog X.w) k g fd ps sp)
    (hr : Room (k + 1) X.A) (hb : Binds X.K fd ps []) (hab : attributeBase e f X.env (eval e X.env) = eval e X.env) : PE X (.Attribute e f pos) (tPropX C sp ta) :=
  pe_prop (CX := CX0) (E := fun _ _ _ => False) he c hp F.noE hr hb .nil (fun _ _ _ _ _ _ _ h => h.elim) hab
end L2
namespace VL
open PySem L2
section
variable {K : Frag} {W : WX} {te : TE} {x : VX}
def noErrF (m : FS) : FS := fun os => match m os with
  | .err _ _ => .bad
  | r => r
theorem sp_noErr {md : List Bool} {m : FS} {vs : List V} {H : Hp} {Q : VK} {E E' : XK} (h : SpOf K md (noErrF m) vs H Q E) : SpOf K md m vs H Q E' := by
  obtain ⟨ρ, S, os, w, p, h⟩ := h
  refine ⟨ρ, S, os, w, p, ?_⟩
  unfold noErrF at h
  cases e : m os with
  | ok o outs => rw [e] at h; exact h
  | err c outs => rw [e] at h; exact h.elim
  | bad => rw [e] at h; exact h
theorem xpost_mono {ρ : Rho} {pv : Nat → Option V} {S H : Hp} {σ : St} {q : Bool} {σ0 : VS} {Q Q' : V → Hp → Prop} (hQ : ∀ v H, Q v H → Q' v H) : ∀ {r : XR O}, XPost K W ρ pv S H σ q σ0 Q r → XPost K W ρ pv S H σ q σ0 Q' r
  | .ok _ _, h => fun ρ' S' H' v p a b c d => hQ _ _ (h ρ' S' H' v p a b c d)
  | .err _ _, h => h
  | .bad, h => h
theorem sim_prop {C f : Str} {m : FS} (hx : SimX K W te x) : SimF K W (tPropX (He.ga K C) (SpOf K (List.replicate 1 false) m) te) (vCallP (noErrF m) (aRecv C f x aNil)) := fun ρ pv S H σV σ Q s h => by
  have hs : SimX K W (fun σ H Q => ∃ ρ pv S σV, StR K ρ pv S H σV σ ∧ XPost K W ρ pv S H σ x.q σV Q (x.f σV)) x := fun ρ pv S H σV σ Q s h => ⟨ρ, pv, S, σV, s, h⟩
  have h1 := sim_callF (K := K) (W := W) (m := noErrF m) (n := 1) (sim_recv (C := C) (m := f) hs sim_nil) (na_recv na_nil) ρ pv S H σV σ Q s h
  obtain ⟨ρ', pv', S', σV', s', h2⟩ := h1
  refine hx ρ' pv' S' H σV' σ _ s' (xpost_mono (fun v H1 hq => ?_) h2)
  obtain ⟨a, dx, fs, e, ea, l, q⟩ := hq
  subst e
  have q' : SpOf K (List.replicate 1 false) (noErrF m) [.ref a] H1 Q (WE W σ) := q
  exact ⟨a, dx, fs, rfl, ea, sp_noErr q'⟩
end
end VL
namespace He
open PySem PySem.Spec PyProof.Rows L2
/-- a property's getter -/
def pa (K : PySem.W.Frag) (C : Addr) (f : Str) : Addr := match PySem.W.recIn K (ma K C f) "property" with
  | some (.ref g :: _) => g
  | _ => 0
/-- the class C may stand behind isinstance -/
def IscF (K : PySem.W.Frag) (C : Addr) : Prop := PySem.W.findIn K (.ref C) "__class__" = some (some (.builtin "object.__class__")) ∧ PySem.W.specialIn K (.builtin "object.__class__") "__get__" = some (some (.builtin "getset_descriptor.__get__")) ∧
  PySem.W.takesIn K (.builtin "object.__class__") = some true ∧ PySem.W.mroIn K C (.type "object") = some true ∧ ∀ T ∈ (["NoneType", "int", "str", "bool", "tuple", "list"] : List String), PySem.W.kitOne K (.type T) (.ref C) = some false
inductive FaY where
  | prop (x f : Str)
  | isc (x : Str)
def FaY.ok (K : PySem.W.Frag) : FaY → Bool
  | .prop x f => eqO (PySem.W.findIn K (.ref (ga K x)) f) (some (some (.ref (ma K (ga K x) f)))) && (eqO (PySem.W.specialIn K (.ref (ma K (ga K x) f)) "__get__") (some (some (.builtin "property.__get__"))) && (decide (PySem.W.takesIn K (.ref (ma K (ga K x) f)) = some true) &&
      (match PySem.W.recIn K (ma K (ga K x) f) "property" with
        | some (.ref _ :: _) => true
        | _ => false)))
  | .isc x => eqO (PySem.W.findIn K (.ref (ga K x)) "__class__") (some (some (.builtin "object.__class__"))) && (eqO (PySem.W.specialIn K (.builtin "object.__class__") "__get__") (some (some (.builtin "getset_descriptor.__get__"))) &&
      (decide (PySem.W.takesIn K (.builtin "object.__class__") = some true) && (decide (PySem.W.mroIn K (ga K x) (.type "object") = some true) &&
      (["NoneType", "int", "str", "bool", "tuple", "list"] : List String).all fun T => decide (PySem.W.kitOne K (.type T) (.ref (ga K x)) = some false))))
theorem isc_ok {K : PySem.W.Frag} {x : Str} (c : (FaY.isc x).ok K = true) : IscF K (ga K x) := by
  obtain ⟨c1, c⟩ := ba c
  obtain ⟨c2, c⟩ := ba c
  obtain ⟨c3, c⟩ := ba c
  obtain ⟨c4, c5⟩ := ba c
  exact ⟨eqO_ok c1, eqO_ok c2, of_decide_eq_true c3, of_decide_eq_true c4, fun T hT => of_decide_eq_true (List.all_eq_true.mp c5 T hT)⟩
theorem prop_ok {K : PySem.W.Frag} {x f : Str} (c : (FaY.prop x f).ok K = true) : PropOf K (ga K x) f (ma K (ga K x) f) (pa K (ga K x) f) := by
  obtain ⟨c1, c⟩ := ba c
  obtain ⟨c2, c⟩ := ba c
  obtain ⟨c3, c4⟩ := ba c
  refine ⟨eqO_ok c1, eqO_ok c2, of_decide_eq_true c3, ?_⟩
  have c5 : (match PySem.W.recIn K (ma K (ga K x) f) "property" with
        | some (.ref _ :: _) => true
        | _ => false) = true := c4
  unfold pa
  split at c5
  · rename_i g rest e
    rw [e]
    exact ⟨rest, rfl⟩
  · cases c5
def obsY (fa : List Fa) (fb : List FaX) (fc : List FaY) (fn : List He5.DefA) (K : PySem.W.Frag) : AlD := ((fa.all fun f => f.ok K) && ((fb.all fun f => f.ok K) && ((fc.all fun f => f.ok K) && fn.all fun d => d.ok K)), fn.map fun d => He5.fnA K (d.at_ K))
def valY (fn : List He5.DefA) : AlD := (true, fn.map He5.DefA.val)
def SaysY (fa : List Fa) (fb : List FaX) (fc : List FaY) (fn : List He5.DefA) (K : PySem.W.Frag) : Prop := obsY fa fb fc fn K = valY fn
def obsYG (n : Nat) (fa : List Fa) (fb : List FaX) (fc : List FaY) (fn : List He5.DefA) (g : Addr → Option Obj) : AlD := obsY fa fb fc fn (frG g (asD g n))
def hookY (n : Nat) (fa : List Fa) (fb : List FaX) (fc : List FaY) (fn : List He5.DefA) : PySem.W.Hook where
  α := AlD
  obs := fun s => obsYG n fa fb fc fn s.heap.get?
  val := fun _ => valY fn
  says := fun _ h => ∃ K : PySem.W.Frag, K.In h ∧ SaysY fa fb fc fn K
  of := fun _ _ e => ⟨_, frG_in, e⟩
  keeps := fun _ _ _ ⟨K, hK, c⟩ k => ⟨K, PySem.W.Frag.In.keeps hK k, c⟩
theorem obsYG_eq {n : Nat} {fa : List Fa} {fb : List FaX} {fc : List FaY} {fn : List He5.DefA} {g : Addr → Option Obj} {s : Shared} (h : ∀ a, g a = s.heap.get? a) : obsYG n fa fb fc fn g = (hookY n fa fb fc fn).obs s := by
  have e : g = s.heap.get? := funext h
  rw [e] <;> rfl
section
variable {fa : List Fa} {fb : List FaX} {fc : List FaY} {fn : List He5.DefA} {K : PySem.W.Frag}
theorem SaysY.all (c : SaysY fa fb fc fn K) : ((fa.all fun f => f.ok K) && ((fb.all fun f => f.ok K) && ((fc.all fun f => f.ok K) && fn.all fun d => d.ok K))) = true := congrArg (fun z : AlD => z.1) c
theorem SaysY.fact (c : SaysY fa fb fc fn K) (i : Nat) {f : Fa} (h : fa[i]? = some f := by rfl) : f.ok K = true :=
  List.all_eq_true.mp (ba c.all).1 f (List.mem_of_getElem? h)
theorem SaysY.factX (c : SaysY fa fb fc fn K) (i : Nat) {f : FaX} (h : fb[i]? = some f := by rfl) : f.ok K = true :=
  List.all_eq_true.mp (ba (ba c.all).2).1 f (List.mem_of_getElem? h)
theorem SaysY.factY (c : SaysY fa fb fc fn K) (i : Nat) {f : FaY} (h : fc[i]? = some f := by rfl) : f.ok K = true :=
  List.all_eq_true.mp (ba (ba (ba c.all).2).2).1 f (List.mem_of_getElem? h)
theorem SaysY.def_ (c : SaysY fa fb fc fn K) (i : Nat) {d : He5.DefA} (h : fn[i]? = some d := by rfl) : ∃ fd, FunD K d.name d.qual d.params d.body d.scope (d.dvs K) (d.kws K) (d.at_ K) fd := by
  have c2 := (ba (ba (ba c.all).2).2).2
  have e : fn.map (fun d => He5.fnA K (d.at_ K)) = fn.map He5.DefA.val := congrArg (fun z : AlD => z.2) c
  have e2 : (fn.map fun d => He5.fnA K (d.at_ K))[i]? = (fn.map He5.DefA.val)[i]? := by rw [e]
  rw [List.getElem?_map, List.getElem?_map, h] at e2
  exact He5.DefA.funD (Option.some.inj e2) (List.all_eq_true.mp c2 d (List.mem_of_getElem? h))
end
end He
set_option maxRecDepth 100000
set_option maxHeartbeats 4000000
/-! V20: dicts with frozen values -/
namespace VL
open PySem L2
theorem _root_.L2.Room.units1 {k : Nat} {A : Around} (r : Room k A) : A.units + 1 < cLine := by have := r.un; omega
/-! ### keys -/
def keyI : D → Option Key
  | .int i => some (.inl i)
  | .str x => some (.inr x)
  | _ => none
def keysI : List D → Option (List Key)
  | [] => some []
  | d :: ds => (keyI d).bind fun k => (keysI ds).map (k :: ·)
section
variable {K : Frag} {S H : Hp}
theorem keyI_ok {d : D} {k : Key} {v : V} (e : keyI d = some k) (f : Fz K S d v) : v = kV k := by
  cases d with
  | int i => cases e; unfold Fz at f; exact f
  | str x => cases e; unfold Fz at f; exact f
  | _ => cases e
theorem keysI_ok : ∀ {ds : List D} {kk : List Key} {vs : List V}, keysI ds = some kk → FzL K S ds vs → vs = kk.map kV
  | [], kk, vs, e, f => by cases e; exact f.unnil
  | d :: ds, kk, vs, e, f => by
    obtain ⟨v, vs', rfl, f1, f2⟩ := f.uncons
    obtain ⟨k, e1, e2⟩ := Option.bind_eq_some_iff.mp e
    obtain ⟨kk', e3, rfl⟩ := Option.map_eq_some_iff.mp e2
    rw [keyI_ok e1 f1, keysI_ok e3 f2]
    rfl
end
/-! ### tables -/
section
variable {κ : Type} [DecidableEq κ]
def getK : List κ → List D → κ → Option D
  | k :: ks, d :: ds, j => if k = j then some d else getK ks ds j
  | _, _, _ => none
def putDs (ks : List κ) (ds : List D) (j : κ) (d : D) : List D := if j ∈ ks then List.zipWith (fun k e => if k = j then d else e) ks ds else ds ++ [d]
def putKs (ks : List κ) (j : κ) : List κ := if j ∈ ks then ks else ks ++ [j]
variable {K : Frag} {S : Hp}
def RelF (K : Frag) (S : Hp) : Option D → Option V → Prop
  | some d, some v => Fz K S d v
  | none, none => True
  | _, _ => False
theorem getK_val : ∀ {ks : List κ} {ds : List D} {vs : List V} (j : κ), FzL K S ds vs → RelF K S (getK ks ds j) (valV (ks.zip vs) j)
  | [], ds, vs, j, f => by
    cases ds <;> exact True.intro
  | k :: ks, [], vs, j, f => by
    rw [f.unnil]; exact True.intro
  | k :: ks, d :: ds, vs, j, f => by
    obtain ⟨v, vs', rfl, f1, f2⟩ := f.uncons
    rw [List.zip_cons_cons]
    show RelF K S (if k = j then some d else getK ks ds j) _
    by_cases h : k = j
    · rw [if_pos h, valV_pos h]; exact f1
    · rw [if_neg h, valV_neg h]; exact getK_val j f2
theorem zip_any {ks : List κ} {vs : List V} (hl : ks.length = vs.length) (j : κ) : ((ks.zip vs).any fun kv => decide (kv.1 = j)) = decide (j ∈ ks) := by
  induction ks generalizing vs with
  | nil => rfl
  | cons k ks ih =>
    cases vs with
    | nil => cases hl
    | cons v vs =>
      rw [List.zip_cons_cons, List.any_cons, ih (by simpa using hl)]
      by_cases h : k = j
      · simp [h]
      · have h' : ¬ j = k := fun e => h e.symm
        simp [h, h']
theorem zip_map {ks : List κ} {vs : List V} (j : κ) (w : V) : (ks.zip vs).map (fun kv => if kv.1 = j then (kv.1, w) else kv) = ks.zip (List.zipWith (fun k e => if k = j then w else e) ks vs) := by
  induction ks generalizing vs with
  | nil => rfl
  | cons k ks ih =>
    cases vs with
    | nil => rfl
    | cons v vs =>
      rw [List.zip_cons_cons, List.map_cons, ih, List.zipWith_cons_cons, List.zip_cons_cons]
      by_cases h : k = j <;> simp [h]
def putVs (ks : List κ) (vs : List V) (j : κ) (w : V) : List V := if j ∈ ks then List.zipWith (fun k e => if k = j then w else e) ks vs else vs ++ [w]
theorem putK_zip {ks : List κ} {vs : List V} (hl : ks.length = vs.length) (j : κ) (w : V) : putK (ks.zip vs) j w = (putKs ks j).zip (putVs ks vs j w) := by
  unfold putK putKs putVs
  rw [zip_any hl]
  by_cases h : j ∈ ks
  · rw [if_pos (by simpa using h), if_pos h, if_pos h, zip_map]
  · rw [if_neg (by simpa using h), if_neg h, if_neg h, List.zip_append hl]; rfl
theorem putV_len {ks : List κ} {vs : List V} (hl : ks.length = vs.length) (j : κ) (w : V) : (putKs ks j).length = (putVs ks vs j w).length := by
  unfold putKs putVs
  by_cases h : j ∈ ks
  · rw [if_pos h, if_pos h, List.length_zipWith]; omega
  · rw [if_neg h, if_neg h]; simp [hl]
theorem zipW_fz {j : κ} {d : D} {w : V} (fw : Fz K S d w) : ∀ {ks : List κ} {ds : List D} {vs : List V}, FzL K S ds vs → FzL K S (List.zipWith (fun k e => if k = j then d else e) ks ds) (List.zipWith (fun k e => if k = j then w else e) ks vs)
  | [], ds, vs, f => .nil
  | k :: ks, [], vs, f => by rw [f.unnil]; exact .nil
  | k :: ks, e :: ds, vs, f => by
    obtain ⟨v, vs', rfl, f1, f2⟩ := f.uncons
    rw [List.zipWith_cons_cons, List.zipWith_cons_cons]
    refine .cons ?_ (zipW_fz fw f2)
    by_cases h : k = j
    · rw [if_pos h, if_pos h]; exact fw
    · rw [if_neg h, if_neg h]; exact f1
theorem putD_fz {ks : List κ} {ds : List D} {vs : List V} {j : κ} {d : D} {w : V} (f : FzL K S ds vs) (fw : Fz K S d w) : FzL K S (putDs ks ds j d) (putVs ks vs j w) := by
  unfold putDs putVs
  by_cases h : j ∈ ks
  · rw [if_pos h, if_pos h]; exact zipW_fz fw f
  · rw [if_neg h, if_neg h]; exact f.app (.one fw)
end
/-! ### looking up, storing -/
def dGetD : DKs → List D → D → Option (Option D)
  | .k kk, ds, d => (keyI d).map fun k => getK kk ds k
  | .t kk, ds, .tup es => (keysI es).map fun k => getK kk ds k
  | .t _, _, _ => none
def dPutD : DKs → List D → D → D → Option (DKs × List D)
  | .k kk, ds, y, d => (keyI y).map fun k => (.k (putKs kk k), putDs kk ds k d)
  | .t kk, ds, .tup es, d => (keysI es).map fun k => (.t (putKs kk k), putDs kk ds k d)
  | .t _, _, _, _ => none
def dicO : O → Option (DKs × List D)
  | .od ks ds => some (ks, ds)
  | .val (.dic ks ds) => some (ks, ds)
  | _ => none
section
variable {K : Frag} {W : WX} {ρ : Rho} {S H : Hp} {te tb td ty : TE}
theorem dicO_ok {o : O} {v : V} {p : Path} {ks : DKs} {ds : List D} (w : Wf ρ S H) (h : Ow K ρ S H o v p) (e : dicO o = some (ks, ds)) : ∃ a vs u, v = .ref a ∧ DiA H a ks u ∧ DiO ks vs u ∧ FzL K S ds vs := by
  cases o with
  | od ks' ds' => cases e; unfold Ow at h; obtain ⟨a, vs, u, rfl, _, h2, h3, h4⟩ := h; exact ⟨a, vs, u, rfl, .of h2, h3, h4⟩
  | val d =>
    cases d with
    | dic ks' ds' => cases e; unfold Ow Fz at h; obtain ⟨a, vs, u, rfl, h2, h3, h4⟩ := h; exact ⟨a, vs, u, rfl, h2.mono w.ex, h3, h4⟩
    | _ => cases e
  | _ => cases e
theorem dGet_ok {ks : DKs} {ds : List D} {vs : List V} {u : HO} {a : Addr} {d : D} {y : V} {r : Option D} (w : Ex S H) (hd : DiO ks vs u) (ha : DiA H a ks u) (f : FzL K S ds vs) (fy : Fz K S d y) (e : dGetD ks ds d = some r) : ∃ rv, DGet H a y rv ∧ RelF K S r rv := by
  cases ks with
  | k kk =>
    obtain ⟨k, e1, rfl⟩ := Option.map_eq_some_iff.mp (show (keyI d).map _ = some r from e)
    obtain ⟨hl, rfl⟩ := hd
    exact ⟨_, .inl ⟨_, k, ha, keyI_ok e1 fy, rfl⟩, getK_val k f⟩
  | t kk =>
    cases d with
    | tup es =>
      obtain ⟨k, e1, rfl⟩ := Option.map_eq_some_iff.mp (show (keysI es).map _ = some r from e)
      obtain ⟨hl, rfl⟩ := hd
      unfold Fz at fy
      obtain ⟨b, ws, rfl, hb, fw⟩ := fy
      rw [keysI_ok e1 fw] at hb
      exact ⟨_, .inr ⟨_, k, b, .inl ha, rfl, w _ _ hb, rfl⟩, getK_val k f⟩
    | _ => cases e
def fDGet : List O → QR O
  | [s, .val k] => match dicO s with
    | some (ks, ds) => (match dGetD ks ds k with
      | some (some d) => .ok (.val d)
      | _ => .bad)
    | none => .bad
  | _ => .bad
def rDG : R2 := fun x y H Q => ∃ a v, x = .ref a ∧ DGet H a y (some v) ∧ Q v H
theorem s_dget : SimR K (r2l rDG) fDGet := fun ρ S H os vs Q w wa h => by
  unfold fDGet at h
  split at h
  · rename_i s k
    obtain ⟨v, p, v2, p2, rfl, h1, h2⟩ := wa.two
    cases e1 : dicO s with
    | none => rw [e1] at h; exact h.elim
    | some q =>
      obtain ⟨ks, ds⟩ := q
      rw [e1] at h; dsimp only at h
      obtain ⟨a, xs, u, rfl, q1, q2, q3⟩ := dicO_ok w h1 e1
      unfold Ow at h2
      cases e2 : dGetD ks ds k with
      | none => rw [e2] at h; exact h.elim
      | some r =>
        cases r with
        | none => rw [e2] at h; exact h.elim
        | some d =>
          rw [e2] at h
          obtain ⟨rv, g, rel⟩ := dGet_ok w.ex q2 q1 q3 h2 e2
          cases rv with
          | none => exact rel.elim
          | some z => exact ⟨a, z, rfl, g, RPost.now (p := []) w h (.v rel)⟩
  · exact h.elim
theorem sim_dget {x y : VX} (hx : SimX K W td x) (hy : SimX K W ty y) : SimX K W (tDGet td ty) (v2 fDGet x y) := sim_op (r := rDG) s_dget hx hy
theorem sim_dgetN {i : Nat} {y : VX} (hy : SimX K W ty y) : SimX K W (tDGet (tVar i) ty) (vApp fDGet (aName i (aCons y aNil))) := sim_opN (r := rDG) s_dget hy
def fDIn (neg : Bool) : List O → QR O
  | [.val k, s] => match dicO s with
    | some (ks, ds) => (match dGetD ks ds k with
      | some r => .ok (.val (.bl (ngB neg r.isSome)))
      | none => .bad)
    | none => .bad
  | _ => .bad
def rDIn : R2 := fun y x H Q => ∃ a o, x = .ref a ∧ DGet H a y o ∧ Q (.bl o.isSome) H
def rDNi : R2 := fun y x H Q => ∃ a o, x = .ref a ∧ DGet H a y o ∧ Q (.bl (!o.isSome)) H
theorem relF_some {r : Option D} {o : Option V} (h : RelF K S r o) : o.isSome = r.isSome := by
  cases r <;> cases o <;> first | rfl | exact h.elim
theorem s_din : SimR K (r2l rDIn) (fDIn false) := fun ρ S H os vs Q w wa h => by
  unfold fDIn at h
  split at h
  · rename_i k s
    obtain ⟨v, p, v2, p2, rfl, h1, h2⟩ := wa.two
    cases e1 : dicO s with
    | none => rw [e1] at h; exact h.elim
    | some q =>
      obtain ⟨ks, ds⟩ := q
      rw [e1] at h; dsimp only at h
      obtain ⟨a, xs, u, rfl, q1, q2, q3⟩ := dicO_ok w h2 e1
      unfold Ow at h1
      cases e2 : dGetD ks ds k with
      | none => rw [e2] at h; exact h.elim
      | some r =>
        rw [e2] at h
        obtain ⟨rv, g, rel⟩ := dGet_ok w.ex q2 q1 q3 h1 e2
        refine ⟨a, rv, rfl, g, ?_⟩
        rw [relF_some rel]
        exact RPost.now (p := []) w h .bl
  · exact h.elim
theorem s_dni : SimR K (r2l rDNi) (fDIn true) := fun ρ S H os vs Q w wa h => by
  unfold fDIn at h
  split at h
  · rename_i k s
    obtain ⟨v, p, v2, p2, rfl, h1, h2⟩ := wa.two
    cases e1 : dicO s with
    | none => rw [e1] at h; exact h.elim
    | some q =>
      obtain ⟨ks, ds⟩ := q
      rw [e1] at h; dsimp only at h
      obtain ⟨a, xs, u, rfl, q1, q2, q3⟩ := dicO_ok w h2 e1
      unfold Ow at h1
      cases e2 : dGetD ks ds k with
      | none => rw [e2] at h; exact h.elim
      | some r =>
        rw [e2] at h
        obtain ⟨rv, g, rel⟩ := dGet_ok w.ex q2 q1 q3 h1 e2
        refine ⟨a, rv, rfl, g, ?_⟩
        rw [relF_some rel]
        exact RPost.now (p := []) w h .bl
  · exact h.elim
theorem sim_din {x y : VX} (hy : SimX K W ty y) (hx : SimX K W td x) : SimX K W (tDIn ty td) (v2 (fDIn false) y x) := sim_op (r := rDIn) s_din hy hx
theorem sim_dni {x y : VX} (hy : SimX K W ty y) (hx : SimX K W td x) : SimX K W (tDNotIn ty td) (v2 (fDIn true) y x) := sim_op (r := rDNi) s_dni hy hx
/-! ### d[k] = v -/
def mDPut : O → D → D → QR O
  | .od ks ds, y, d => if ds.length < sizeLine then (match dPutD ks ds y d with
    | some (ks', ds') => .ok (.od ks' ds')
    | none => .bad) else .bad
  | _, _, _ => .bad
def rDPut : V → V → V → Hp → (Hp → Prop) → Prop := fun x y v H Q => ∃ a H4, x = .ref a ∧ DPut H a y v H4 ∧ Q H4
theorem s_dput : SimSet K rDPut mDPut := fun ρ S H o v p di vi d vd Q w wo fi fd h => by
  unfold mDPut at h
  split at h
  · rename_i ks ds
    unfold Ow at wo
    obtain ⟨a, vs, u, rfl, r1, h1, hd, f⟩ := wo
    by_cases hl : ds.length < sizeLine
    · rw [if_pos hl] at h
      cases e : dPutD ks ds di d with
      | none => rw [e] at h; exact h.elim
      | some q =>
        obtain ⟨ks', ds'⟩ := q
        rw [e] at h; dsimp only at h
        cases ks with
        | k kk =>
          obtain ⟨k, e1, e2⟩ := Option.map_eq_some_iff.mp (show (keyI di).map _ = _ from e)
          cases e2
          obtain ⟨hl2, rfl⟩ := hd
          obtain ⟨g, ko, wf⟩ := upd_at (u' := .dK (putK (kk.zip vs) k vd)) w r1 h1
          refine ⟨a, _, rfl, .inl ⟨_, k, h1, keyI_ok e1 fi, ?_, rfl⟩, h ρ S _ g ko wf ?_⟩
          · rw [List.length_zip, hl2, Nat.min_self, ← f.len]; exact hl
          · unfold Ow
            refine ⟨a, putVs kk vs k vd, _, rfl, r1, upd_same, ⟨putV_len hl2 k vd, ?_⟩, putD_fz f fd⟩
            rw [putK_zip hl2]
        | t kk =>
          cases di with
          | tup es =>
            obtain ⟨k, e1, e2⟩ := Option.map_eq_some_iff.mp (show (keysI es).map _ = _ from e)
            cases e2
            obtain ⟨hl2, rfl⟩ := hd
            unfold Fz at fi
            obtain ⟨b, ws, rfl, hb, fw⟩ := fi
            rw [keysI_ok e1 fw] at hb
            obtain ⟨g, ko, wf⟩ := upd_at (u' := .dT (putK (kk.zip vs) k vd)) w r1 h1
            refine ⟨a, _, rfl, .inr ⟨_, k, b, h1, rfl, w.ex _ _ hb, ?_, rfl⟩, h ρ S _ g ko wf ?_⟩
            · rw [List.length_zip, hl2, Nat.min_self, ← f.len]; exact hl
            · unfold Ow
              refine ⟨a, putVs kk vs k vd, _, rfl, r1, upd_same, ⟨putV_len hl2 k vd, ?_⟩, putD_fz f fd⟩
              rw [putK_zip hl2]
          | _ => cases e
    · rw [if_neg hl] at h; exact h.elim
  · exact h.elim
theorem sim_dput {l : LX} {x y : VX} {to ti : TE} (hx : SimX K W te x) (hl : SimL K to l) (hy : SimX K WN ti y) : SimS K W (sDPut to ti te) (sSet l y x mDPut) := sim_set (t := rDPut) hx hl hy s_dput
def fNewT : List O → QR O
  | [] => .ok (.od (.t []) [])
  | _ => .bad
theorem sim_newDT : SimF K W tDNewT (vApp fNewT aNil) := sim_appF (r := fun _ H Q => ∀ p, H p = none → Q (.ref p) (upd H p (.dT []))) sim_nil fun ρ S H os vs Q w wa h => by
  unfold fNewT at h
  split at h
  · intro p hp
    exact RFPost.new w hp h fun H' e => by unfold Ow; exact ⟨p, [], _, rfl, rhoNew_at, e, ⟨rfl, rfl⟩, .nil⟩
  · exact h.elim
end
end VL
set_option maxRecDepth 100000
set_option maxHeartbeats 4000000
/-! V21: loud indices and operands; extend by tuples -/
namespace L2
open PySem PySem.Spec PyProof.Rows
theorem xt_meets (l : Addr) (its : Array Value) (n : Nat) (b : Addr) (jts : Array Value) (m : Nat) (dd : Option Addr) (sl : Array (Option Value)) (c0 : ¬(!its.isEmpty && Builtin.List.listTooLong (its.size + jts.size)) = true)
    (c1 : its.size ≤ sizeLine) (c2 : its.size + jts.size ≤ sizeLine + 1) :
    Meets (Builtin.«list.extend» ⟨[.ref l, .ref b], []⟩) (fun _ R s => s.heap.get? l = some ⟨.type "list", none, .seq its n, #[]⟩ ∧ (s.heap.get? b = some ⟨.type "tuple", dd, .seq jts m, sl⟩ ∧
      R (.ok (.ret Value.none)) { s with heap := s.heap.update l (Obj.mapSeq fun x => x ++ jts), toks := s.toks })) :=
  .of_wp fun prog w A R s q => by
    obtain ⟨hp, g, d, tk, os⟩ := s
    obtain ⟨hl, hb, h⟩ := q
    have f4 := AutoSeq1.sub_tuple_list
    have f5 := AutoSeq1.sub_list_tuple
    have f2 := AutoSeq1.sub_tuple_tuple
    have f3 := AutoSeq1.sub_list_list
    have f1 := AutoSeq1.idx_int
    have hz' : (its ++ jts).size ≤ sizeLine + 1 := by rw [Array.size_append]; exact c2
    wp_walk using (wpAny_updateSeq hl rfl (hz := c1) (_hz' := hz')), AutoSeq1.wpAny_loadPart' hl, AutoSeq1.wpAny_loadPart' hb
    exact ⟨_, rfl, h⟩
def rExtT (K : PySem.W.Frag) : V → List V → Hp → VK → Prop := fun x vs H Q => ∃ l b xs zs, x = .ref l ∧ vs = [.ref b] ∧ H l = some (.lst xs) ∧ SqT K H b zs ∧ xs.length + zs.length ≤ sizeLine ∧ Q .non (upd H l (.lst (xs ++ zs)))
theorem mt_extT {X : Cx} {K : PySem.W.Frag} (hK : X.K = K) : MtM X "list.extend" (rExtT K) := by
  subst hK
  intro pins s σ H x vs v us Q I rx rv h
  obtain ⟨l, b, xs, zs, rfl, rfl, hH, hB, hz, q⟩ := h
  cases rx
  obtain ⟨u, rfl, ru⟩ := rv.one
  cases ru
  obtain ⟨z, its, n, r, hl, e⟩ := I.lstM hH
  obtain ⟨jts, r2, ⟨o, e2, k1, m, k2⟩, z2⟩ := I.tuple hB
  obtain ⟨oc, od, dt, sl⟩ := o
  dsimp only at k1 k2
  subst k1 k2
  have hl2 := r2.length
  have hsz : its.toArray.size + jts.toArray.size ≤ sizeLine := by rw [List.size_toArray, List.size_toArray]; omega
  have hlong : ¬ (!its.toArray.isEmpty && Builtin.List.listTooLong (its.toArray.size + jts.toArray.size)) = true := by
    rw [notLongL hsz, Bool.and_false]
    exact Bool.false_ne_true
  refine call_meets PySem.F.slot_list_extend ⟨_, e, rfl⟩ PySem.F.entry_list_extend (PySem.F.args_list_extend_2 _ _) (xt_meets l its.toArray n b jts.toArray m od sl hlong (by rw [List.size_toArray]; omega) (by omega)) ⟨e, e2, ?_⟩
  refine ⟨.non, _, I.lset (its' := its ++ jts) hH e (by simp) (r.append r2) ?_, rfl, q⟩
  rw [List.length_append]
  omega
end L2
namespace VL
open PySem L2
section
variable {K : Frag} {W : WX} {te ti tb : TE} {x y : VX}
theorem sim_opFN {r : R2} {i : Nat} {tb : TE} {y : VX} {f : List O → QR O} (hr : SimRF K (r2l r) f) (hy : SimX K W tb y) : SimF K W (tOp r (tVar i) tb) (vApp f (aName i (aCons y aNil))) :=
  sim_appF (r := r2l r) (sim_aName (sim_cons hy sim_nil)) hr
/-- n[y] = x, y loud -/
def sSetN (i : Nat) (y x : VX) (μ : O → D → D → QR O) : VB := fun σ => match x.f σ with
  | .ok (.val d) σ1 => (match lN i σ1 with
    | .ok _ => (match y.f σ1 with
      | .ok (.val di) σ2 => (match lN i σ2 with
        | .ok lv => (match μ lv.o di d with
          | .ok z => .nx (lv.put z)
          | .bad => .bad)
        | .bad => .bad)
      | .ok _ _ => .bad
      | .err c σ2 => .err c σ2
      | .bad => .bad)
    | .bad => .bad)
  | .ok _ _ => .bad
  | .err c σ1 => .err c σ1
  | .bad => .bad
theorem sim_setN {i : Nat} {t : V → V → V → Hp → (Hp → Prop) → Prop} {μ : O → D → D → QR O} (hx : SimX K W te x) (hy : SimX K W ti y) (hs : SimSet K t μ) : SimS K W (tAsg te (gSub (tVar i) ti t)) (sSetN i y x μ) := fun ρ pv S H σV σ D s h => by
  refine hx ρ pv S H σV σ _ s ?_
  unfold sSetN at h
  cases e : x.f σV with
  | bad => rw [e] at h; exact h
  | err c σ1 => rw [e] at h; exact fun ρ1 S1 H1 g s1 => h ρ1 S1 H1 σ g s1
  | ok o σ1 =>
    rw [e] at h
    intro ρ1 S1 H1 v p g1 s1 w1 _
    cases o with
    | val d =>
      dsimp only at h
      unfold Ow at w1
      show tVar i σ H1 fun o H2 => ti σ H2 fun i H3 => t o i v H3 fun H4 => D.nx σ H4
      cases e1 : lN i σ1 with
      | bad => rw [e1] at h; exact h.elim
      | ok lv0 =>
        rw [e1] at h; dsimp only at h
        obtain ⟨vo, h1, pl0⟩ := place_name s1 e1
        refine ⟨vo, h1, hy ρ1 pv S1 H1 σ1 σ _ s1 ?_⟩
        cases e2 : y.f σ1 with
        | bad => rw [e2] at h; exact h.elim
        | err c σ2 => rw [e2] at h; exact fun ρ2 S2 H2 g2 s2 => h ρ2 S2 H2 σ (g1.trans g2) s2
        | ok oi σ2 =>
          rw [e2] at h
          intro ρ3 S3 H3 vi pi g3 s3 wi _
          cases oi with
          | val di =>
            dsimp only at h
            unfold Ow at wi
            cases e3 : lN i σ2 with
            | bad => rw [e3] at h; exact h.elim
            | ok lv =>
              rw [e3] at h; dsimp only at h
              obtain ⟨v', h1', pl⟩ := place_name s3 e3
              rw [h1] at h1'; cases h1'
              refine hs ρ3 S3 H3 lv.o vo _ di vi d v _ s3.w pl.w wi (w1.mono g3.s) ?_
              cases e4 : μ lv.o di d with
              | bad => rw [e4] at h; exact h.elim
              | ok z =>
                rw [e4] at h; dsimp only at h
                exact fun ρ4 S4 H4 g4 ko wf wz => h ρ4 S4 H4 σ ((g1.trans g3).trans g4) (pl.put ρ4 S4 H4 z g4.s ko wf wz)
          | _ => exact h.elim
    | _ => exact h.elim
def mExtT : O → List O → QR (O × O)
  | .ol ds, [.val (.tup es)] => if ds.length + es.length ≤ sizeLine then .ok (.ol (ds ++ es), .val .non) else .bad
  | _, _ => .bad
theorem s_extT : SimM K (L2.rExtT K) mExtT := fun ρ S H o v p os vs Q w wo wa h => by
  unfold mExtT at h
  split at h
  · rename_i ds es
    obtain ⟨vd, pd, rfl, hd⟩ := wa.one
    unfold Ow Fz at hd
    obtain ⟨c, zs, rfl, hz, fz⟩ := hd
    unfold Ow at wo
    obtain ⟨b, xs, rfl, r1, h1, f⟩ := wo
    by_cases hc : ds.length + es.length ≤ sizeLine
    · rw [if_pos hc] at h
      obtain ⟨g, ko, wf⟩ := upd_at (u' := .lst (xs ++ zs)) w r1 h1
      refine ⟨b, c, xs, zs, rfl, rfl, h1, .inl (.inl (w.ex _ _ hz)), by rw [← f.len, ← fz.len]; exact hc, h ρ S _ _ [] g ko wf ?_ (.v (fz_non _))⟩
      unfold Ow
      exact ⟨b, _, rfl, r1, upd_same, f.app fz⟩
    · rw [if_neg hc] at h; exact h.elim
  · exact h.elim
end
end VL
set_option maxRecDepth 100000
set_option maxHeartbeats 4000000
/-! V22: comprehensions of two clauses; sets of numbers, made and used at once -/
namespace VL
open PySem L2
section
theorem walk_it {J : It} {n : Nat} {G : Hp → Prop} {Y : Nat → Hp → V → Hp → Prop} (w : Walk J n G Y) {H0 : Hp} {Qd : Hp → Prop} (Body : (Hp → Prop) → V → Hp → Prop) (Pv : Nat → Hp → Prop) (h0 : Pv 0 H0) (hG : ∀ i H, i ≤ n → Pv i H → G H)
    (hs : ∀ i x H H', i < n → Pv i H → Y i H x H' → Body (Pv (i + 1)) x H') (hd : ∀ H, Pv n H → Qd H) :
    ∃ W : Nat → Nat → Hp → Prop, (∃ m, W 0 m H0) ∧ ∀ i m H, W i m H →
      (J.stop i H ∧ Qd H) ∨ (J.go i H ∧ ∃ Nx : Hp → Prop, (∀ H', Nx H' → ∃ m', m' < m ∧ W (i + 1) m' H') ∧ ∀ x H', J.yld i H x H' → Body Nx x H') := by
  refine ⟨fun i m H => m = n - i ∧ i ≤ n ∧ Pv i H, ⟨n, by simp, Nat.zero_le _, h0⟩, ?_⟩
  rintro i m H ⟨rfl, hi, p⟩
  have q := hG i H hi p
  by_cases hlt : i < n
  · refine .inr ⟨w.goes i H hlt q, Pv (i + 1), fun H' p' => ⟨n - (i + 1), by omega, rfl, hlt, p'⟩, fun x H' y => hs i x H H' hlt p (w.yields i H x H' hlt q y)⟩
  · have e : i = n := by omega
    subst e
    exact .inl ⟨w.stops H q, hd H p⟩
end
def lcL2 (vs : List Nat) (g : D → VS → QR VS) (tt : TX) (ix1 : IX) (vs1 : List Nat) (g1 : D → VS → QR VS) (tt1 : TX) (x : VX) : List D → VS → List D → XR (List D)
  | [], σ, acc => .ok acc σ
  | d :: ds, σ, acc => match putAway vs σ with
    | .bad => .bad
    | .ok σ1 => (match g d σ1 with
      | .bad => .bad
      | .ok σ2 => (match tt.f σ2 with
        | .bad => .bad
        | .err _ _ => .bad
        | .ok k σ3 => if k = true then (match ix1 σ3 with
            | .bad => .bad
            | .err _ _ => .bad
            | .ok ds1 σ4 => (match lcL vs1 g1 tt1 x ds1 σ4 acc with
              | .ok acc' σ5 => lcL2 vs g tt ix1 vs1 g1 tt1 x ds (putBack vs σ σ5) acc'
              | .err _ _ => .bad
              | .bad => .bad)) else lcL2 vs g tt ix1 vs1 g1 tt1 x ds (putBack vs σ σ3) acc))
def vLcF2 (ix : IX) (vs : List Nat) (g : D → VS → QR VS) (tt : TX) (ix1 : IX) (vs1 : List Nat) (g1 : D → VS → QR VS) (tt1 : TX) (x : VX) : VX := ⟨false, fun σ => match ix σ with
  | .ok ds σ1 => (match lcL2 vs g tt ix1 vs1 g1 tt1 x ds σ1 [] with
    | .ok acc σ2 => .ok (.ol acc) σ2
    | .err c σ2 => .err c σ2
    | .bad => .bad)
  | .err c σ1 => .err c σ1
  | .bad => .bad⟩
section
variable {K : Frag} {W : WX}
def lcF : XR (List D) → XR O
  | .ok acc σ2 => .ok (.ol acc) σ2
  | .err c σ2 => .err c σ2
  | .bad => .bad
theorem sim_lcF2 {wi wi1 : TI} {ix ix1 : IX} {tg tg1 : TG} {g g1 : D → VS → QR VS} {ttx ttx1 : TX} {tt tt1 : TT} {te : TE} {x : VX} {vs ts vs1 ts1 : List Nat}
    (hi : SimI K W wi ix) (hg : SimG K tg ts g) (hts : ∀ i ∈ ts, i ∈ vs) (ht : SimT K WN tt ttx) (hi1 : SimI K WN wi1 ix1) (hg1 : SimG K tg1 ts1 g1) (hts1 : ∀ i ∈ ts1, i ∈ vs1) (ht1 : SimT K WN tt1 ttx1) (hx : SimX K WN te x) :
    SimF K W (tLc2 wi tg tt wi1 tg1 tt1 te vs vs1) (vLcF2 ix vs g ttx ix1 vs1 g1 ttx1 x) := fun ρ pv S H σV σ Q s h => by
  refine hi ρ pv S H σV σ _ s ?_
  have h' : FPost K W ρ pv S H σ false σV Q ((vLcF2 ix vs g ttx ix1 vs1 g1 ttx1 x).f σV) := h
  unfold vLcF2 at h'; dsimp only at h'
  cases e : ix σV with
  | bad => rw [e] at h'; exact h'
  | err c σ1 => rw [e] at h'; exact h'
  | ok ds σ1 =>
    rw [e] at h'; dsimp only at h'
    intro ρ1 S1 H1 J G Y g1' s1 wk hG hY D hD
    have hS1 : S1 D = none := s1.w.ex.back hD
    have hr1 : ρ1 D = none := by
      cases q : ρ1 D with
      | none => rfl
      | some r => obtain ⟨_, o, ho⟩ := s1.w.wf D r q; rw [hD] at ho; cases ho
    have hH : ∀ u, H D = some u → ρ D ≠ none := fun u hu hr => by rw [g1'.h D u hu hr] at hD; cases hD
    let Rest : List VL.D → VS → List VL.D → Prop := fun l σ2 acc => FPost K W ρ pv S H σ false σV Q (lcF (lcL2 vs g ttx ix1 vs1 g1 ttx1 x l σ2 acc))
    have h0 : Rest ds σ1 [] := by
      show FPost K W ρ pv S H σ false σV Q (lcF _)
      unfold lcF
      exact h'
    refine walk_it wk (fun Nx xv H' => tg xv (wipe σ vs) H' fun σ2 H2 => wipe σ2 vs = wipe σ vs ∧ tt σ2 H2 fun b H3 =>
      if b = true then wi1 σ2 H3 fun J1 H4 => ∃ W1 : Nat → Nat → Hp → Prop, (∃ m, W1 0 m H4) ∧ ∀ j k H, W1 j k H →
        (J1.stop j H ∧ Nx H) ∨ (J1.go j H ∧ ∃ Nx1 : Hp → Prop, (∀ H', Nx1 H' → ∃ k', k' < k ∧ W1 (j + 1) k' H') ∧ ∀ x H', J1.yld j H x H' → tg1 x (wipe σ2 vs1) H' fun σ3 H5 => wipe σ3 vs1 = wipe σ2 vs1 ∧ tt1 σ3 H5 fun b H6 =>
          if b = true then te σ3 H6 fun y H7 => ∃ acc, H7 D = some (.lst acc) ∧ acc.length < sizeLine ∧ Nx1 (upd H7 D (.lst (acc ++ [y]))) else Nx1 H6)
      else Nx H3)
      (fun i Hc => ∃ ρ2 S2 σV2 acc vacc, Grw ρ S H ρ2 S2 Hc ∧ Ex S1 S2 ∧ StR K ρ2 pv S2 Hc σV2 σ ∧ Hc D = some (.lst vacc) ∧ S2 D = none ∧ ρ2 D = none ∧ FzL K S2 acc vacc ∧ Rest (ds.drop i) σV2 acc)
      ⟨ρ1, S1, σ1, [], [], g1'.updOut hH, .refl _, s1.updOut hr1 hS1, upd_same, hS1, hr1, .nil, h0⟩ ?_ ?_ ?_
    · rintro i Hc _ ⟨ρ2, S2, σV2, acc, vacc, _, x2, s2, _⟩
      exact hG S2 Hc x2 s2.w.ex
    · rintro i v Hc H3 hlt ⟨ρ2, S2, σV2, acc, vacc, g2, x2, s2, d2, n2, r2, f2, p2⟩ y
      obtain ⟨S3, d, q3, ex3, hd, w3⟩ := hY S2 Hc i v H3 hlt x2 s2.w.ex y
      have s3 := s2.quiet q3 ex3
      have p2' : FPost K W ρ pv S H σ false σV Q (lcF (lcL2 vs g ttx ix1 vs1 g1 ttx1 x (ds.drop i) σV2 acc)) := p2
      rw [drop_at hd] at p2'
      unfold lcL2 at p2'
      cases ea : putAway vs σV2 with
      | bad => rw [ea] at p2'; exact p2'.elim
      | ok σ3 =>
        rw [ea] at p2'; dsimp only at p2'
        refine hg ρ2 pv S3 H3 σ3 (wipe σ vs) d v _ (s3.away ea) w3 ?_
        cases eg : g d σ3 with
        | bad => rw [eg] at p2'; exact p2'.elim
        | ok σ4 =>
          rw [eg] at p2'; dsimp only at p2'
          intro σ4' s4 on4
          refine ⟨wipe_eq on4 hts, ht ρ2 pv S3 H3 σ4 σ4' _ s4 ?_⟩
          have g3 : Grw ρ S H ρ2 S3 H3 := g2.trans q3.grw
          cases et : ttx.f σ4 with
          | bad => rw [et] at p2'; exact p2'.elim
          | err c σ5 =>
            rw [et] at p2'; exact p2'.elim
          | ok k σ5 =>
            rw [et] at p2'; dsimp only at p2'
            intro ρ5 S5 H5 g5 s5 _
            have d3 := q3.h D _ d2
            have n3 := q3.n D _ d2 n2
            have d5 := g5.h D _ d3 r2
            have n5 := g5.n D _ d3 n3 r2
            have r5 := g5.f D _ d3 r2
            have x5 : Ex S1 S5 := (x2.trans q3.s).trans g5.s
            cases k with
            | false =>
              simp only [Bool.false_eq_true, if_false] at p2' ⊢
              exact ⟨ρ5, S5, _, acc, vacc, g3.trans g5, x5, s2.back ea (q3.s.trans g5.s) s5 on4 hts, d5, n5, r5, f2.mono (q3.s.trans g5.s), p2'⟩
            | true =>
              simp only [if_true] at p2' ⊢
              refine hi1 ρ5 pv S5 H5 σ5 σ4' _ s5 ?_
              cases ei : ix1 σ5 with
              | bad => rw [ei] at p2'; exact p2'.elim
              | err c σ6 => rw [ei] at p2'; exact p2'.elim
              | ok ds1 σ6 =>
                rw [ei] at p2'; dsimp only at p2'
                intro ρ6 S6 H6 J1 G1 Y1 g6 s6 wk1 hG1 hY1
                have d6 := g6.h D _ d5 r5
                have n6 := g6.n D _ d5 n5 r5
                have r6 := g6.f D _ d5 r5
                have x6 : Ex S1 S6 := x5.trans g6.s
                have e26 : Ex S2 S6 := (q3.s.trans g5.s).trans g6.s
                have g36 : Grw ρ S H ρ6 S6 H6 := (g3.trans g5).trans g6
                let RestI : List VL.D → VS → List VL.D → Prop := fun l σ2 acc => FPost K W ρ pv S H σ false σV Q (lcF (match lcL vs1 g1 ttx1 x l σ2 acc with
                  | .ok acc' σ5 => lcL2 vs g ttx ix1 vs1 g1 ttx1 x (ds.drop (i + 1)) (putBack vs σV2 σ5) acc'
                  | .err _ _ => .bad
                  | .bad => .bad))
                have h1 : RestI ds1 σ6 acc := p2'
                refine walk_it wk1 (fun Nx1 xv H' => tg1 xv (wipe σ4' vs1) H' fun σ3 H5 => wipe σ3 vs1 = wipe σ4' vs1 ∧ tt1 σ3 H5 fun b H6 =>
                  if b = true then te σ3 H6 fun y H7 => ∃ acc, H7 D = some (.lst acc) ∧ acc.length < sizeLine ∧ Nx1 (upd H7 D (.lst (acc ++ [y]))) else Nx1 H6)
                  (fun j Hc => ∃ ρ7 S7 σV7 acc vacc, Grw ρ S H ρ7 S7 Hc ∧ Ex S6 S7 ∧ StR K ρ7 pv S7 Hc σV7 σ4' ∧ Hc D = some (.lst vacc) ∧ S7 D = none ∧ ρ7 D = none ∧ FzL K S7 acc vacc ∧ RestI (ds1.drop j) σV7 acc)
                  ⟨ρ6, S6, σ6, acc, vacc, g36, .refl _, s6, d6, n6, r6, f2.mono e26, h1⟩ ?_ ?_ ?_
                · rintro j Hc _ ⟨ρ7, S7, σV7, acc7, vacc7, _, x7, s7, _⟩
                  exact hG1 S7 Hc x7 s7.w.ex
                · rintro j v1 Hc H8 hlt1 ⟨ρ7, S7, σV7, acc7, vacc7, g7, x7, s7, d7, n7, r7, f7, p7⟩ y1
                  obtain ⟨S8, dd, q8, ex8, hdd, w8⟩ := hY1 S7 Hc j v1 H8 hlt1 x7 s7.w.ex y1
                  have s8 := s7.quiet q8 ex8
                  have p7' : FPost K W ρ pv S H σ false σV Q (lcF (match lcL vs1 g1 ttx1 x (ds1.drop j) σV7 acc7 with
                    | .ok acc' σ5 => lcL2 vs g ttx ix1 vs1 g1 ttx1 x (ds.drop (i + 1)) (putBack vs σV2 σ5) acc'
                    | .err _ _ => .bad
                    | .bad => .bad)) := p7
                  rw [drop_at hdd] at p7'
                  unfold lcL at p7'
                  cases ea1 : putAway vs1 σV7 with
                  | bad => rw [ea1] at p7'; exact p7'.elim
                  | ok σ8 =>
                    rw [ea1] at p7'; dsimp only at p7'
                    refine hg1 ρ7 pv S8 H8 σ8 (wipe σ4' vs1) dd v1 _ (s8.away ea1) w8 ?_
                    cases eg1 : g1 dd σ8 with
                    | bad => rw [eg1] at p7'; exact p7'.elim
                    | ok σ9 =>
                      rw [eg1] at p7'; dsimp only at p7'
                      intro σ9' s9 on9
                      refine ⟨wipe_eq on9 hts1, ht1 ρ7 pv S8 H8 σ9 σ9' _ s9 ?_⟩
                      have g8 : Grw ρ S H ρ7 S8 H8 := g7.trans q8.grw
                      cases et1 : ttx1.f σ9 with
                      | bad => rw [et1] at p7'; exact p7'.elim
                      | err c σ10 => rw [et1] at p7'; exact p7'.elim
                      | ok k1 σ10 =>
                        rw [et1] at p7'; dsimp only at p7'
                        intro ρ10 S10 H10 g10 s10 _
                        have d8 := q8.h D _ d7
                        have n8 := q8.n D _ d7 n7
                        have d10 := g10.h D _ d8 r7
                        have n10 := g10.n D _ d8 n8 r7
                        have r10 := g10.f D _ d8 r7
                        have x10 : Ex S6 S10 := (x7.trans q8.s).trans g10.s
                        cases k1 with
                        | false =>
                          simp only [Bool.false_eq_true, if_false] at p7' ⊢
                          exact ⟨ρ10, S10, _, acc7, vacc7, g8.trans g10, x10, s7.back ea1 (q8.s.trans g10.s) s10 on9 hts1, d10, n10, r10, f7.mono (q8.s.trans g10.s), p7'⟩
                        | true =>
                          simp only [if_true] at p7' ⊢
                          refine hx ρ10 pv S10 H10 σ10 σ9' _ s10 ?_
                          cases ex : x.f σ10 with
                          | bad => rw [ex] at p7'; exact p7'.elim
                          | err c σ11 => rw [ex] at p7'; exact p7'.elim
                          | ok o σ11 =>
                            rw [ex] at p7'
                            cases o with
                            | val ev =>
                              dsimp only at p7'
                              intro ρ11 S11 H11 yv p11 g11 s11 w11 _
                              have d11 := g11.h D _ d10 r10
                              have n11 := g11.n D _ d10 n10 r10
                              have r11 := g11.f D _ d10 r10
                              unfold Ow at w11
                              have e711 : Ex S7 S11 := (q8.s.trans g10.s).trans g11.s
                              by_cases hc : acc7.length < sizeLine
                              · rw [if_pos hc] at p7'
                                refine ⟨vacc7, d11, by rw [← f7.len]; exact hc, ρ11, S11, _, acc7 ++ [ev], vacc7 ++ [yv], ((g8.trans g10).trans g11).updOut hH, x10.trans g11.s, (s7.back ea1 e711 s11 on9 hts1).updOut r11 n11, upd_same, n11, r11, (f7.mono e711).app (.one w11), p7'⟩
                              · rw [if_neg hc] at p7'; exact p7'.elim
                            | _ => exact p7'.elim
                · rintro Hc ⟨ρ7, S7, σV7, acc7, vacc7, g7, x7, s7, d7, n7, r7, f7, p7⟩
                  have p7' : FPost K W ρ pv S H σ false σV Q (lcF (match lcL vs1 g1 ttx1 x (ds1.drop ds1.length) σV7 acc7 with
                    | .ok acc' σ5 => lcL2 vs g ttx ix1 vs1 g1 ttx1 x (ds.drop (i + 1)) (putBack vs σV2 σ5) acc'
                    | .err _ _ => .bad
                    | .bad => .bad)) := p7
                  rw [List.drop_length] at p7'
                  unfold lcL at p7'
                  dsimp only at p7'
                  exact ⟨ρ7, S7, _, acc7, vacc7, g7, x6.trans x7, s2.back ea (e26.trans x7) s7 on4 hts, d7, n7, r7, f7, p7'⟩
    · rintro Hc ⟨ρ2, S2, σV2, acc, vacc, g2, x2, s2, d2, n2, r2, f2, p2⟩
      have p2' : FPost K W ρ pv S H σ false σV Q (lcF (lcL2 vs g ttx ix1 vs1 g1 ttx1 x (ds.drop ds.length) σV2 acc)) := p2
      rw [List.drop_length] at p2'
      unfold lcL2 lcF at p2'
      dsimp only at p2'
      have n0 : ∀ a o, H a = some o → ρ a = none → a ≠ D := fun a o h r z => hH o (z ▸ h) (z ▸ r)
      refine p2' ρ2 S2 Hc (.ref D) (rhoNew D) g2 s2 ⟨fun a q h => ?_, fun a q h => ?_, fun a o h r => ?_⟩ ?_ fun z => by cases z
      · unfold rhoNew at h
        by_cases z : a = D
        · subst z; exact ⟨n2, _, d2⟩
        · rw [if_neg z] at h; cases h
      · unfold rhoNew at h
        by_cases z : a = D
        · subst z; exact r2
        · rw [if_neg z] at h; cases h
      · unfold rhoNew; rw [if_neg (n0 a o h r)]
      · unfold Ow
        exact ⟨D, vacc, rfl, rhoNew_at, d2, f2⟩
end
end VL
set_option maxRecDepth 100000
set_option maxHeartbeats 4000000
/-! V23: the set of a list of numbers, used at once -/
namespace VL
open PySem PySem.Spec PyProof.Rows L2
abbrev eSet (w : World) : Obj := { cls := .type "set", dict := none, data := .set #[] 0 (.fresh 0 0 (!w.params.followText "set-order")) }
section
variable {P : Program} {w : World} {A : Around} {E : Value → Shared → Prop} {s : Shared}
set_option maxHeartbeats 3200000 in
theorem set_of_list {l : Addr} {items : Array Value} (ns : List Int) {Q : Value → Shared → Prop} (hh : A.handled = none) (hl : s.heap.IsList l items) (hit : IntsAre items.toList ns) (hb : ns.length + 1 < scanBound)
    (fin : ∀ (g : Heap) (tk c : Nat), SetR w g s.heap.objs.size (fun j => decide (j ∈ ns)) c → c ≤ ns.length → (∀ b o, s.heap.get? b = some o → g.get? b = some o) → Q (.ref s.heap.objs.size) { s with heap := g, toks := tk }) :
    wpAny (model P w) A (call (.type "set") [.ref l]) Q E s := by
  have sz : items.size = ns.length := by have q := IntsAre.length hit; rwa [Array.length_toList] at q
  obtain ⟨c0, tl0, mro⟩ := F.called_set.mro; have mk := F.called_set.made; have sb := F.called_set.sub
  refine wpAny_call (codeAny_of_tree ?_); show wpAny _ _ (callAny (.type "set") _) _ _ _
  refine wpAny_pure ⟨Code.quiet_builtin _ (by decide +kernel), codeAny_builtin F.entry_type_call ?_⟩; rw [Around.under_plain (weight_type_call_type "set" [.ref l] []) rfl]
  have n1 := F.called_set.notType; have n2 := F.called_set.canCreate; have n3 := F.typeCall_set_1 (.ref l)
  repeat (any_goals (first | assumption | wp_step))
  let a := s.heap.objs.size
  let h1 := s.heap.push (eSet w)
  refine codeAny_mono (code_set_led1 (.ref l) (E := E) (Q₁ := fun obj s1 => obj = .ref a ∧ s1 = { s with heap := h1 }) ⟨rfl, rfl⟩) fun r s1 hr => ?_
  cases r with
  | error e => exact hr
  | ok fl => cases fl with
    | ret obj =>
      obtain ⟨rfl, rfl⟩ := hr
      have at1 : h1.get? a = some (eSet w) := Heap.get?_push_size _ rfl
      have ty1 : Shared.TypeIs { s with heap := h1 } (.ref a) "set" := ⟨_, at1, rfl⟩
      have i1 := F.called_set.init.lookup; have i2 := F.called_set.init.bind (.ref a)
      repeat (any_goals (first | assumption | wp_step))
      refine codeAny_mono (codeAny_call_builtin (R := wants (fun r s2 => r = .none ∧ ∃ g tk c, s2 = { s with heap := g, toks := tk } ∧ SetR w g a (fun j => decide (j ∈ ns)) c ∧ c ≤ ns.length ∧ (∀ b o, s.heap.get? b = some o → g.get? b = some o)) E) F.called_set.init.plain F.entry_set_init (check_set_init_1 ty1 ?_)) fun r2 s2 hr2 => ?_
      · obtain ⟨ol, hol, hcl, nl, hdl⟩ := hl
        obtain ⟨k1, k2, k3, k4⟩ := ol
        simp only at hcl hdl; subst hcl; subst hdl
        have at2 : h1.get? l = some { cls := .type "list", dict := k2, data := .seq items nl, slots := k4 } := Heap.get?_push_of_some _ hol
        have s1' := F.sub_list_set; have s2' := F.sub_list_frozenset; have nd : (Value.type "list" == Value.type "dict") = false := by decide
        have l1 : h1.IsList l items := ⟨_, at2, rfl, nl, rfl⟩
        unfold Builtin.«set.__init__» noKeywords Builtin.Frozenset.updateFrom; generalize hPI : pyIter = PI; wp_walk; subst hPI
        refine wpAny_pyIter_list l1 ?_; refine wpAny_bind (wpAny_runValue ?_)
        have la : l < a := Heap.lt_size hol
        have s1z : h1.objs.size = a + 1 := Heap.size_push ..
        have hd3 : A.in1.in1.in1.handled = none := by simp [hh]
        have l2 : l ≠ h1.objs.size := by rw [s1z]; exact Nat.ne_of_lt (Nat.lt_succ_of_lt la)
        have a2 : a ∉ [h1.objs.size, l] := by rw [s1z]; simp only [List.mem_cons, List.not_mem_nil, or_false, not_or]; exact ⟨Nat.ne_of_lt (Nat.lt_succ_self _), Nat.ne_of_gt la⟩
        have val : ∀ (i : Nat) (v : Value), items[i]? = some v → ∃ k t, ns[i]? = some k ∧ v = .int k t := fun i v hv => by
          have hi : i < ns.length := sz ▸ (Array.getElem?_eq_some_iff.mp hv).1
          obtain ⟨t, e⟩ := PyProof.Rows.IntsAre.int_at hit i v (by rw [Array.getElem?_toList]; exact hv)
          exact ⟨ns[i], t, List.getElem?_eq_getElem hi, by rw [e, List.getD_eq_getElem?_getD, List.getElem?_eq_getElem hi] <;> rfl⟩
        refine set_update_ints ((Walks.list hd3 _ l l2 items).toS) a a2 ns sz hb val (items.size - 0) 0 _ (by omega) (Nat.zero_le _) ⟨⟨_, Heap.get?_push_size _ rfl, rfl, rfl⟩, (l1.push _)⟩ ?c0 ?c1
        case c0 => exact ⟨0, Nat.le_refl 0, setR_new_at (Heap.get?_push_of_some _ at1)⟩
        case c1 =>
          intro s3 c3 mv hc hS
          obtain ⟨g, g2, d3, t3, o3⟩ := s3
          have e1 : g2 = s.gens := mv.gens; have e2 : d3 = s.drawn := mv.drawn; have e3 : o3 = s.os := mv.os
          subst e1 e2 e3
          show wpAny _ _ _ _ _ _; refine wpAny_pure ?_; show wpAny _ _ (ret Value.none) _ _ _
          refine wpAny_pure ⟨rfl, g, t3, c3, rfl, hS, sz ▸ hc, fun b o e => ?_⟩
          have b0 : b < a := Heap.lt_size e
          refine mv.heap b o ?_ (Heap.get?_push_of_some _ (Heap.get?_push_of_some _ e))
          simp only [List.mem_cons, List.not_mem_nil, or_false, not_or]; exact ⟨Nat.ne_of_lt b0, by rw [Heap.size_push]; exact Nat.ne_of_lt (Nat.lt_succ_of_lt b0)⟩
      · cases r2 with
        | error e => exact hr2
        | ok f2 => cases f2 with
          | ret r =>
            obtain ⟨rfl, g, tk, c, rfl, hS, hc, hk⟩ := hr2
            repeat (any_goals (first | assumption | wp_step))
            exact fin _ _ _ hS hc hk
          | _ => exact hr2.elim
    | _ => exact hr.elim
end
end VL
namespace VL
open PySem L2
/-- each number once -/
def dedI : List Int → List Int
  | [] => []
  | a :: l => if a ∈ l then dedI l else a :: dedI l
theorem mem_dedI {x : Int} : ∀ {l : List Int}, x ∈ dedI l ↔ x ∈ l
  | [] => Iff.rfl
  | a :: l => by
    unfold dedI
    by_cases h : a ∈ l
    · rw [if_pos h, mem_dedI, List.mem_cons]
      exact ⟨.inr, fun z => z.elim (fun e => e ▸ h) id⟩
    · rw [if_neg h, List.mem_cons, List.mem_cons, mem_dedI]
theorem dedI_nodup : ∀ l : List Int, (dedI l).Nodup
  | [] => List.nodup_nil
  | a :: l => by
    unfold dedI
    by_cases h : a ∈ l
    · rw [if_pos h]; exact dedI_nodup l
    · rw [if_neg h]; exact List.nodup_cons.mpr ⟨fun z => h (mem_dedI.mp z), dedI_nodup l⟩
theorem dedI_len {ns ks : List Int} (nd : ks.Nodup) (h : ∀ k, k ∈ ks ↔ k ∈ ns) : ks.length = (dedI ns).length :=
  ((List.perm_ext_iff_of_nodup nd (dedI_nodup ns)).mpr fun k => (h k).trans mem_dedI.symm).length_eq
def srtD (ns : List Int) : List Int := srtI (dedI ns)
theorem srtD_asc (ns : List Int) : (srtD ns).Pairwise (· < ·) := by
  have h1 : (srtD ns).Nodup := (srtI_perm _).nodup_iff.mpr (dedI_nodup ns)
  exact ((srtI_pw (dedI ns)).and h1).imp fun {a b} h => by have := h.1; have := h.2; omega
theorem mem_srtD {ns : List Int} {x : Int} : x ∈ srtD ns ↔ x ∈ ns := (srtI_perm _).mem_iff.trans mem_dedI
theorem srtD_uniq {ns ks : List Int} (hp : ks.Pairwise (· < ·)) (h : ∀ k, k ∈ ks ↔ k ∈ ns) : ks = srtD ns := by
  have nd : ks.Nodup := hp.imp fun {a b} q e => by omega
  have nd2 : (srtD ns).Nodup := (srtD_asc ns).imp fun {a b} q e => by omega
  have pm : ks.Perm (srtD ns) := (List.perm_ext_iff_of_nodup nd nd2).mpr fun k => (h k).trans mem_srtD.symm
  exact pm.eq_of_pairwise (le := (· < ·)) (fun a b _ _ q1 q2 => by omega) hp (srtD_asc ns)
section
variable {X : Cx}
/-- set(list of numbers) -/
def rSetI (K : Frag) (w : World) : List V → Hp → VK → Prop := fun xs H Q => ∃ (l : Addr) (ns : List Int), xs = [V.ref l] ∧ SqL K H l (ns.map V.int) ∧ ns.length ≤ 4000 ∧
  ∀ p, H p = none → Q (.ref p) (upd H p (SetO w p (fun j => decide (j ∈ ns)) (dedI ns).length))
theorem cr_setI (hc : X.calm = true) : CallR X (.type "set") (rSetI X.K X.w) := by
  intro pins s σ H xs us Q I r h
  obtain ⟨l, ns, rfl, hl, hn, q⟩ := h
  rw [Vals.ref1 r]
  obtain ⟨its, rv, pl, hz⟩ := I.list hl
  have fr : H s.heap.objs.size = none := I.hok.fresh (Nat.le_refl _)
  have sb : (4002 : Nat) < scanBound := by decide +kernel
  refine set_of_list ns (I.ok.hd hc) pl.isList (by simpa using RZ.intsAre_vals rv) (by omega) fun g tk c R _ k => ?_
  have ec : c = (dedI ns).length := by
    obtain ⟨o, es, ep, t, _, _, _, _, nd, hm, _, _, hz, _⟩ := R
    rw [← hz, ← dedI_len (ks := es.toList.map keyOf) nd fun k => (hm k).symm.trans decide_eq_true_iff]
    simp
  rw [ec] at R
  exact ⟨.ref s.heap.objs.size, upd H s.heap.objs.size (SetO X.w s.heap.objs.size (fun j => decide (j ∈ ns)) (dedI ns).length), I.laid (t' := tk) k (Nat.le_refl _) (setO_new R), rfl, q _ fr⟩
def rLenS (w : World) : List V → Hp → VK → Prop := fun xs H Q => ∃ (a : Addr) (S : Int → Bool) (n : Nat), xs = [V.ref a] ∧ H a = some (SetO w a S n) ∧ Q (.int (n : Nat)) H
theorem cr_lenS : CallR X (.builtin "len") (rLenS X.w) := by
  intro pins s σ H xs us Q I r h
  obtain ⟨a, S, n, rfl, ha, q⟩ := h
  have R := setO_get I ha
  rw [Vals.ref1 r]
  obtain ⟨o, es, ep, t, ho, hex, hd, _, _, _, hb, hf, hz, _⟩ := R
  have hfit : (es.size : Int) < 2 ^ 63 := by
    have : scanBound < 2 ^ 62 := by decide +kernel
    omega
  exact call_len_set ho hex hd hf hfit ⟨.int (n : Nat), H, I.tok _, ⟨_, by rw [hz]⟩, q⟩
variable {K : Frag} {W : WX} {w : World}
theorem Quiet.fresh {S H : Hp} {p : Addr} {o : HO} (e : Ex S H) (h : H p = none) (hn : ∀ vs, o ≠ .tup vs := by (intro vs z; cases z)) : Quiet S H S (upd H p o) :=
  ⟨.refl _, .new h, fun _ _ _ z => z, fun f => f.upd hn⟩
theorem Wf.fresh {ρ : Rho} {S H : Hp} {p : Addr} {o : HO} (e : Wf ρ S H) (h : H p = none) (hn : ∀ vs, o ≠ .tup vs := by (intro vs z; cases z)) : Wf ρ S (upd H p o) := by
  have hS : S p = none := e.ex.back h
  refine ⟨fun b u hb => ?_, fun b q hb => ?_, e.ft.upd hn⟩
  · rw [upd_ne (fun z => by rw [z, hS] at hb; cases hb)]; exact e.ex b u hb
  · obtain ⟨h1, u, h2⟩ := e.wf b q hb
    exact ⟨h1, u, by rw [upd_ne (fun z => by rw [z, h] at h2; cases h2)]; exact h2⟩
/-- .. and sorted -/
def rSS (K : Frag) (w : World) : V → Hp → VK → Prop := fun x H Q => rSetI K w [x] H fun s H2 => rSortedSet w [s] H2 Q
def fSortSet : List O → QR O := fInts fun ns => if ns.length ≤ 4000 ∧ (dedI ns).length < 64 then .ok (.ol ((srtD ns).map D.int)) else .bad
theorem s_sortset : SimRF K (r1l (rSS K w)) fSortSet := fun ρ S H os vs Q wf wa h => by
  unfold fSortSet fInts at h
  split at h
  · rename_i o
    obtain ⟨v, p, rfl, h1⟩ := wa.one
    cases e : intsO o with
    | none => rw [e] at h; exact h.elim
    | some ns =>
      rw [e] at h; dsimp only at h
      obtain ⟨a, rfl, q⟩ := intsO_ok wf h1 e
      by_cases hc : ns.length ≤ 4000 ∧ (dedI ns).length < 64
      · rw [if_pos hc] at h
        refine ⟨a, ns, rfl, q, hc.1, fun p hp => ⟨p, _, _, rfl, upd_same, hc.2, fun ks p2 k1 k2 _ k4 => ?_⟩⟩
        rw [srtD_uniq k1 fun k => (k2 k).trans decide_eq_true_iff]
        have h2 : RFPost K ρ S (upd H p (SetO w p (fun j => decide (j ∈ ns)) (dedI ns).length)) Q (.ok (.ol ((srtD ns).map D.int))) := fun S' H' v ρ2 g x n1 n2 ow =>
          h S' H' v ρ2 ((Quiet.fresh wf.ex hp).trans g) x (fun b u hb => n1 b u (by rw [upd_ne fun z => by rw [z, hp] at hb; cases hb]; exact hb)) n2 ow
        exact RFPost.lst (wf.fresh hp) k4 h2 (FzL.ints.mpr rfl)
      · rw [if_neg hc] at h; exact h.elim
  · exact h.elim
/-- .. and counted -/
def rLS (K : Frag) (w : World) : V → Hp → VK → Prop := fun x H Q => rSetI K w [x] H fun s H2 => rLenS w [s] H2 Q
def fLenSet : List O → QR O := fInts fun ns => if ns.length ≤ 4000 then .ok (.val (.int (dedI ns).length)) else .bad
theorem s_lenset : SimR K (r1l (rLS K w)) fLenSet := s_ints fun {ρ S H a ns Q} wf q h => by
  by_cases hc : ns.length ≤ 4000
  · rw [if_pos hc] at h
    refine ⟨a, ns, rfl, q, hc, fun p hp => ⟨p, _, _, rfl, upd_same, ?_⟩⟩
    exact h S _ _ [] (Quiet.fresh wf.ex hp) (wf.fresh hp).ex (by unfold Ow Fz; rfl)
  · rw [if_neg hc] at h; exact h.elim
theorem sim_sortset {te : TE} {x : VX} (hx : SimX K W te x) : SimF K W (tCB (rSortedSet w) (tCons (tCB (rSetI K w) (tCons te tNil)) tNil)) (v1 fSortSet x) := sim_unF (r := rSS K w) s_sortset hx
theorem sim_lenset {te : TE} {x : VX} (hx : SimX K W te x) : SimX K W (tCB (rLenS w) (tCons (tCB (rSetI K w) (tCons te tNil)) tNil)) (v1 fLenSet x) := sim_un (r := rLS K w) s_lenset hx
end
end VL
set_option maxRecDepth 100000
set_option maxHeartbeats 4000000
/-! V24: calls without arguments, is True, blocks within blocks -/
namespace VL
open PySem L2
section
variable {X : Cx} {CX : CXT} {k : Nat} {f : Addr} {fd : FuncData} {ps : List Str} {sp : Sp} {E : St → XK} {x : Str} {p pos : Pos}
theorem pe_callS0 (F : FnOk X.prog X.w X.K X.mg X.base CX k f fd ps sp) (hr : Room k X.A) (hg : Gl X x) (hm : X.mg x = some (.ref f)) (hk : PySem.W.keepIn X.K (.ref f) = true) (hb : Binds X.K fd ps []) (hx : ∀ σ, PassesAt CX X σ (E σ))
    (hd : (x == ("__debug__" : Str)) = false := by decide) : PE X (.Call (.Name x p) [] [] pos) (tCallS sp E tNil) :=
  ⟨fun pins s σ H Q I h => wpAny_Call_Name_kw (ld_glob I hg hm (PySem.W.callWith_K0 I.kIn hk (run_fnS (us := []) F hr hb (hx σ) I .nil h)) hd)⟩
def relS (s1 s0 : Scope) : Scope := { s1 with names := s1.names.map fun nk => if (nk.2 == .free && s0.kind == .function && s0.names.lookup nk.1 == some .cell) then (nk.1, .cell) else (nk.1, nk.2) }
/-- a block's block -/
theorem blkOk_n {X0 : Cx} {s : Shared} {H : Hp} {cl : List (Str × Addr)} {C : Addr} {fp : List Addr} {N : List Str} {s0 s1 scope : Scope} {own : List (Str × Nat)} (hN : X0.N = N) (hs : X0.env.scope = s0) (h : blkC N (relS s1 s0) scope own = true) :
    BlkOk (X0.blk s H s1 (compEnvC s1 cl C X0.env) fp).N (X0.blk s H s1 (compEnvC s1 cl C X0.env) fp).env.scope scope own := by
  subst hN hs
  exact blkOk_by (sc := relS s1 X0.env.scope) h
variable {K : Frag} {W : WX}
def fIsB (g : Bool → Bool) : List O → QR O
  | [.val (.bl a), .val (.bl b)] => .ok (.val (.bl (g (decide (a = b)))))
  | _ => .bad
theorem s_isBG {g : Bool → Bool} : SimR K (r2l (fun x y H Q => ∃ a b, x = .bl a ∧ y = .bl b ∧ Q (.bl (g (decide (a = b)))) H)) (fIsB g) := fun ρ S H os vs Q w wa h => by
  unfold fIsB at h
  split at h
  · rename_i a b
    obtain ⟨v, p, v2, p2, rfl, h1, h2⟩ := wa.two
    cases blO h1
    cases blO h2
    exact ⟨a, b, rfl, rfl, RPost.now (p := []) w h .bl⟩
  · exact h.elim
theorem s_isB : SimR K (r2l (fun x y H Q => ∃ a b, x = .bl a ∧ y = .bl b ∧ Q (.bl (decide (a = b))) H)) (fIsB id) := s_isBG (g := id)
theorem s_notB : SimR K (r2l (fun x y H Q => ∃ a b, x = .bl a ∧ y = .bl b ∧ Q (.bl (!decide (a = b))) H)) (fIsB not) := s_isBG (g := not)
end
end VL
set_option maxRecDepth 100000
set_option maxHeartbeats 4000000
/-! V25: the set of a list of pairs, sorted at once; the list may be long, what differs is few -/
namespace VL
open PySem PySem.Spec PyProof.Rows L2
section
variable {P : Program} {w : World} {A : Around} {E : Value → Shared → Prop} {s : Shared}
theorem nodup_lenG {α : Type} [DecidableEq α] : ∀ (l m : List α), l.Nodup → (∀ x ∈ l, x ∈ m) → l.length ≤ m.length
  | [], _, _, _ => by simp
  | a :: l, m, hd, hs => by
    obtain ⟨h1, h2⟩ := List.nodup_cons.mp hd
    have ha := hs a List.mem_cons_self
    have := nodup_lenG l (m.erase a) h2 fun x hx => (List.mem_erase_of_ne (fun (e : x = a) => h1 (e ▸ hx))).mpr (hs x (List.mem_cons_of_mem _ hx))
    rw [List.length_erase_of_mem ha] at this
    have : 0 < m.length := List.length_pos_of_mem ha
    simp only [List.length_cons]
    omega
abbrev AT := Addr × List Int
theorem few_of {zs L : List AT} {i : Nat} {T : List (List Int)} (gt : Got zs i L) (nd : (L.map (·.2)).Nodup) (hT : ∀ z ∈ zs, z.2 ∈ T) : L.length ≤ T.length := by
  have := nodup_lenG (L.map (·.2)) T nd fun x hx => by
    obtain ⟨p, hp, rfl⟩ := List.mem_map.mp hx
    exact hT p (List.mem_of_mem_take (gt.sub p hp))
  rwa [List.length_map] at this
/-- the loop of set.update, few different tuples in a list of any length -/
theorem more_tups {I : Addr} {fp wr : List Addr} {G : Array GenState → Array GenState → Prop} {n : Nat} {Pv : Nat → Value → Prop} {St : Nat → Shared → Prop} {R : Result → Shared → Prop} (wk : WalksS P w A.in1 I fp wr G n Pv St) (p0 : Addr) (nf : p0 ∉ fp)
    (zs : List AT) (en : n = zs.length) (T : List (List Int)) (hT : ∀ z ∈ zs, z.2 ∈ T) (h63 : T.length < 63) (val : ∀ i v, Pv i v → ∃ z, zs[i]? = some z ∧ v = .ref z.1) (g0 : Heap) (tz : ∀ z ∈ zs, IsT P w g0 z.2 z.1) (b0 : g0.get? p0 = none) (bw : ∀ b ∈ wr, g0.get? b = none) (un : A.in1.units < cLine) :
    ∀ (k i : Nat) (s : Shared), n - i = k → i ≤ n → St i s → (∀ b o, g0.get? b = some o → s.heap.get? b = some o) → (∃ L es ep t, SetTR P w s.heap p0 L es ep t ∧ Got zs i L) →
      (∀ s' L es ep t, Moved (p0 :: wr) G s s' → SetTR P w s'.heap p0 L es ep t → Got zs n L → (∀ b o, g0.get? b = some o → s'.heap.get? b = some o) → R (.ok (.ret .none)) s') → codeAny (model P w) A (.builtin "set.update.loop" ⟨[.ref p0, .ref I], []⟩) R s := by
  have nw : p0 ∉ wr := fun h => nf (wk.sub _ h)
  have sb : ∀ b ∈ wr, b ∈ p0 :: wr := fun b => List.mem_cons_of_mem _
  have km : ∀ {s s' : Shared}, Moved wr G s s' → (∀ b o, g0.get? b = some o → s.heap.get? b = some o) → ∀ b o, g0.get? b = some o → s'.heap.get? b = some o := fun mv kp b o e => mv.heap b o (fun hb => by rw [bw b hb] at e; cases e) (kp b o e)
  intro k; induction k with
  | zero =>
    intro i s ki hi st kp ⟨L, es, ep, t, rs, gt⟩ fin
    obtain rfl : i = n := by omega
    refine codeAny_builtin F.entry_set_update_loop ?_; rw [Around.under_plainId F.plain_set_update_loop _]
    show wpAny _ A.in1 (pyNext (.ref I) >>= _) _ _ s; refine wpAny_bind (wk.done s _ _ st fun s' mv => ?_); show wpAny _ A.in1 (ret Value.none) _ _ s'
    have kp2 := km mv kp
    exact wpAny_pure (fin s' L es ep t (mv.mono sb) (rs.keep (fun o e => mv.heap p0 o nw e) fun z hz => isT_keep (tz z (List.mem_of_mem_take (gt.sub z hz))) kp2) gt kp2)
  | succ k ih =>
    intro i s ki hi st kp ⟨L, es, ep, t, rs, gt⟩ fin
    have lt : i < n := by omega
    refine codeAny_builtin F.entry_set_update_loop ?_; rw [Around.under_plainId F.plain_set_update_loop _]
    show wpAny _ A.in1 (pyNext (.ref I) >>= _) _ _ s; refine wpAny_bind (wk.item i s _ _ lt st fun v s' pv st2 mv => ?_)
    obtain ⟨z, ez, rfl⟩ := val i v pv; have kp2 := km mv kp
    have rs2 : SetTR P w s'.heap p0 L es ep t := rs.keep (fun o e => mv.heap p0 o nw e) fun q hq => isT_keep (tz q (List.mem_of_mem_take (gt.sub q hq))) kp2
    have tx : IsT P w s'.heap z.2 z.1 := isT_keep (tz z (List.mem_of_getElem? ez)) kp2
    have few := few_of gt rs.nd hT
    show wpAny _ A.in1 (holding [Value.ref z.1] (setAdd p0 (.ref z.1)) >>= _) _ _ s'; refine wpAny_bind (wpAny_holding ?_); unfold setAdd; refine wpAny_holding ?_; refine wpAny_bind (wpAny_pyHash_tuple un tx ?_)
    refine add_at (s := { s' with toks := s'.toks + (z.2.length + 1) }) rs2 tx un (by omega) fun b g' L2 es2 ep2 t2 sbt rs3 c1 c2 => ?_
    have gt2 : Got zs (i + 1) L2 := by
      by_cases c : z.2 ∈ L.map (·.2)
      · rw [c1 c]; exact gt.same ez c
      · exact gt.more ez (c2 c)
    have kp3 : ∀ b o, g0.get? b = some o → g'.get? b = some o := fun b o e => (sbt.2 b fun q => by rw [q, b0] at e; cases e).trans (kp2 b o e)
    refine wpAny_pure ⟨plainId_quiet F.plain_set_update_loop _, ih (i + 1) _ (by omega) lt (wk.frame _ s' _ _ st2 (Nat.le_add_right _ _) fun b hb o e => ?_) kp3 ⟨L2, es2, ep2, t2, rs3, gt2⟩ fun s3 L3 es3 ep3 t3 mv3 rs4 gt3 kp4 => ?_⟩
    · rw [sbt.2 b fun h : b = p0 => nf (by rw [← h]; exact hb)]; exact e
    · refine fin s3 L3 es3 ep3 t3 (Moved.trans wk.gtrans ((mv.mono sb).then_heap (Nat.le_add_right _ _) fun b o hb e => ?_) mv3) rs4 gt3 kp4
      rw [sbt.2 b fun h : b = p0 => hb (by rw [h]; exact List.mem_cons_self)]; exact e
set_option maxHeartbeats 3200000 in
theorem set_of_tups {l : Addr} {items : Array Value} (zs : List AT) (T : List (List Int)) (hT : ∀ z ∈ zs, z.2 ∈ T) (h63 : T.length < 63) {Q : Value → Shared → Prop} (hh : A.handled = none) (hl : s.heap.IsList l items) (hit : items.toList = zs.map fun z => Value.ref z.1) (tz : ∀ z ∈ zs, IsT P w s.heap z.2 z.1) (un : A.units + 3 < cLine)
    (fin : ∀ (g : Heap) (tk : Nat) L es ep t, SetTR P w g s.heap.objs.size L es ep t → Got zs zs.length L → (∀ b o, s.heap.get? b = some o → g.get? b = some o) → Q (.ref s.heap.objs.size) { s with heap := g, toks := tk }) :
    wpAny (model P w) A (call (.type "set") [.ref l]) Q E s := by
  have sz : items.size = zs.length := by have q := congrArg List.length hit; rwa [Array.length_toList, List.length_map] at q
  obtain ⟨c0, tl0, mro⟩ := F.called_set.mro; have mk := F.called_set.made; have sb := F.called_set.sub
  refine wpAny_call (codeAny_of_tree ?_); show wpAny _ _ (callAny (.type "set") _) _ _ _
  refine wpAny_pure ⟨Code.quiet_builtin _ (by decide +kernel), codeAny_builtin F.entry_type_call ?_⟩; rw [Around.under_plain (weight_type_call_type "set" [.ref l] []) rfl]
  have n1 := F.called_set.notType; have n2 := F.called_set.canCreate; have n3 := F.typeCall_set_1 (.ref l)
  repeat (any_goals (first | assumption | wp_step))
  let a := s.heap.objs.size
  let h1 := s.heap.push (eSet w)
  refine codeAny_mono (code_set_led1 (.ref l) (E := E) (Q₁ := fun obj s1 => obj = .ref a ∧ s1 = { s with heap := h1 }) ⟨rfl, rfl⟩) fun r s1 hr => ?_
  cases r with
  | error e => exact hr
  | ok fl => cases fl with
    | ret obj =>
      obtain ⟨rfl, rfl⟩ := hr
      have at1 : h1.get? a = some (eSet w) := Heap.get?_push_size _ rfl
      have ty1 : Shared.TypeIs { s with heap := h1 } (.ref a) "set" := ⟨_, at1, rfl⟩
      have i1 := F.called_set.init.lookup; have i2 := F.called_set.init.bind (.ref a)
      repeat (any_goals (first | assumption | wp_step))
      refine codeAny_mono (codeAny_call_builtin (R := wants (fun r s2 => r = .none ∧ ∃ g tk L es ep t, s2 = { s with heap := g, toks := tk } ∧ SetTR P w g a L es ep t ∧ Got zs zs.length L ∧ (∀ b o, s.heap.get? b = some o → g.get? b = some o)) E) F.called_set.init.plain F.entry_set_init (check_set_init_1 ty1 ?_)) fun r2 s2 hr2 => ?_
      · obtain ⟨ol, hol, hcl, nl, hdl⟩ := hl
        obtain ⟨k1, k2, k3, k4⟩ := ol
        simp only at hcl hdl; subst hcl; subst hdl
        have at2 : h1.get? l = some { cls := .type "list", dict := k2, data := .seq items nl, slots := k4 } := Heap.get?_push_of_some _ hol
        have s1' := F.sub_list_set; have s2' := F.sub_list_frozenset; have nd : (Value.type "list" == Value.type "dict") = false := by decide
        have l1 : h1.IsList l items := ⟨_, at2, rfl, nl, rfl⟩
        unfold Builtin.«set.__init__» noKeywords Builtin.Frozenset.updateFrom; generalize hPI : pyIter = PI; wp_walk; subst hPI
        refine wpAny_pyIter_list l1 ?_; refine wpAny_bind (wpAny_runValue ?_)
        have la : l < a := Heap.lt_size hol
        have s1z : h1.objs.size = a + 1 := Heap.size_push ..
        have hd3 : A.in1.in1.in1.handled = none := by simp [hh]
        have l2 : l ≠ h1.objs.size := by rw [s1z]; exact Nat.ne_of_lt (Nat.lt_succ_of_lt la)
        have a2 : a ∉ [h1.objs.size, l] := by rw [s1z]; simp only [List.mem_cons, List.not_mem_nil, or_false, not_or]; exact ⟨Nat.ne_of_lt (Nat.lt_succ_self _), Nat.ne_of_gt la⟩
        have val : ∀ (i : Nat) (v : Value), items[i]? = some v → ∃ z, zs[i]? = some z ∧ v = .ref z.1 := fun i v hv => by
          have q : items.toList[i]? = some v := by rw [Array.getElem?_toList]; exact hv
          rw [hit, List.getElem?_map] at q
          obtain ⟨z, ez, e⟩ := Option.map_eq_some_iff.mp q
          exact ⟨z, ez, e.symm⟩
        have no : ∀ b, a ≤ b → s.heap.get? b = none := fun b hb => by
          cases q : s.heap.get? b with
          | none => rfl
          | some o => have := Heap.lt_size q; exact absurd (Nat.lt_of_lt_of_le this hb) (Nat.lt_irrefl _)
        refine more_tups ((Walks.list hd3 _ l l2 items).toS) a a2 zs sz T hT h63 val s.heap tz (no _ (Nat.le_refl _)) (fun b hb => no b (by rw [List.mem_singleton.mp hb, s1z]; exact Nat.le_succ _)) un (items.size - 0) 0 _ (by omega) (Nat.zero_le _) ⟨⟨_, Heap.get?_push_size _ rfl, rfl, rfl⟩, (l1.push _)⟩ (fun b o e => Heap.get?_push_of_some _ (Heap.get?_push_of_some _ e)) ?c0 ?c1
        case c0 => exact ⟨[], #[], 0, _, setTR_fresh (Heap.get?_push_of_some _ at1), Got.zero zs⟩
        case c1 =>
          intro s3 L es ep t mv rs gt kp
          obtain ⟨g, g2, d3, t3, o3⟩ := s3
          have e1 : g2 = s.gens := mv.gens; have e2 : d3 = s.drawn := mv.drawn; have e3 : o3 = s.os := mv.os
          subst e1 e2 e3
          show wpAny _ _ _ _ _ _; refine wpAny_pure ?_; show wpAny _ _ (ret Value.none) _ _ _
          exact wpAny_pure ⟨rfl, g, t3, L, es, ep, t, rfl, rs, sz ▸ gt, kp⟩
      · cases r2 with
        | error e => exact hr2
        | ok f2 => cases f2 with
          | ret r =>
            obtain ⟨rfl, g, tk, L, es, ep, t, rfl, rs, gt, kp⟩ := hr2
            repeat (any_goals (first | assumption | wp_step))
            exact fin _ _ _ _ _ _ rs gt kp
          | _ => exact hr2.elim
    | _ => exact hr.elim
end
end VL
set_option maxRecDepth 100000
set_option maxHeartbeats 4000000
/-! V26: sorted(set(pairs)) -/
namespace VL
open PySem PySem.Spec PyProof.Rows L2
section
variable {X : Cx}
def rSetT (K : Frag) (P : Program) (w : World) : List V → Hp → VK → Prop := fun xs H Q => ∃ (l : Addr) (zs : List AT) (T : List (List Int)), xs = [V.ref l] ∧ SqL K H l (zs.map fun z => V.ref z.1) ∧ (∀ z ∈ zs, SqT K H z.1 (z.2.map V.int)) ∧ (∀ z ∈ zs, z.2 ∈ T) ∧ T.length < 63 ∧
  ∀ a L, H a = none → (∀ z ∈ L, z ∈ zs) → (∀ z ∈ zs, z.2 ∈ L.map (·.2)) → Q (.ref a) (upd H a (SetTO P w a L))
theorem cr_setT (hc : X.calm = true) (hu : X.A.units + 64 < cLine) : CallR X (.type "set") (rSetT X.K X.prog X.w) := by
  intro pins s σ H xs us Q I r h
  obtain ⟨l, zs, T, rfl, hl, hk, hT, h63, q⟩ := h
  rw [Vals.ref1 r]
  obtain ⟨its, rv, pl, hz⟩ := I.list hl
  have fr : H s.heap.objs.size = none := I.hok.fresh (Nat.le_refl _)
  refine set_of_tups (P := X.prog) (w := X.w) zs T hT h63 (I.ok.hd hc) pl.isList (by simpa using refs_of_vals rv) (fun z hz => I.isT (hk z hz)) (by omega) fun g tk L es ep t R gt k => ?_
  exact ⟨.ref s.heap.objs.size, upd H s.heap.objs.size (SetTO X.prog X.w s.heap.objs.size L), I.laid (t' := tk) k (Nat.le_refl _) (setTO_new R.t0), rfl, q _ L fr (fun z hz => List.mem_of_mem_take (gt.sub z hz)) fun z hz => gt.all z (by rw [List.take_length]; exact hz)⟩
end
/-- each pair once -/
def dedP : List (Int × Int) → List (Int × Int)
  | [] => []
  | a :: l => if a ∈ l then dedP l else a :: dedP l
theorem mem_dedP {x : Int × Int} : ∀ {l : List (Int × Int)}, x ∈ dedP l ↔ x ∈ l
  | [] => Iff.rfl
  | a :: l => by
    unfold dedP
    by_cases h : a ∈ l
    · rw [if_pos h, mem_dedP, List.mem_cons]
      exact ⟨.inr, fun z => z.elim (fun e => e ▸ h) id⟩
    · rw [if_neg h, List.mem_cons, List.mem_cons, mem_dedP]
theorem dedP_nodup : ∀ l : List (Int × Int), (dedP l).Nodup
  | [] => List.nodup_nil
  | a :: l => by
    unfold dedP
    by_cases h : a ∈ l
    · rw [if_pos h]; exact dedP_nodup l
    · rw [if_neg h]; exact List.nodup_cons.mpr ⟨fun z => h (mem_dedP.mp z), dedP_nodup l⟩
def srtDP (ps : List (Int × Int)) : List (Int × Int) := srtP (dedP ps)
theorem mem_srtDP {ps : List (Int × Int)} {x : Int × Int} : x ∈ srtDP ps ↔ x ∈ ps := (srtP_perm _).mem_iff.trans mem_dedP
theorem srtDP_nodup (ps : List (Int × Int)) : (srtDP ps).Nodup := (srtP_perm _).nodup_iff.mpr (dedP_nodup ps)
def in64 (p : Int × Int) : Bool := decide (0 ≤ p.1) && decide (p.1 < 64) && (decide (0 ≤ p.2) && decide (p.2 < 64))
theorem in64_iff {p : Int × Int} : in64 p = true ↔ (0 ≤ p.1 ∧ p.1 < 64) ∧ 0 ≤ p.2 ∧ p.2 < 64 := by
  unfold in64
  simp only [Bool.and_eq_true, decide_eq_true_eq]
def fSortSetP : List O → QR O
  | [o] => (match sqO o with
    | some ds => (match pairsD ds with
      | some ps => if ps.all in64 = true ∧ (dedP ps).length < 63 then .ok (.ol ((srtDP ps).map pairD)) else .bad
      | none => .bad)
    | none => .bad)
  | _ => .bad
section
variable {K : Frag} {W : WX} {w : World} {P : Program}
def rSS2 (K : Frag) (P : Program) (w : World) : V → Hp → VK → Prop := fun x H Q => rSetT K P w [x] H fun s H2 => rSortedT K P w [s] H2 Q
def adr : V → Addr
  | .ref t => t
  | _ => 0
def atOf (H : Hp) (v : V) : AT := (adr v, [(kOf H v).1, (kOf H v).2])
theorem s_sortsetP : SimRF K (r1l (rSS2 K P w)) fSortSetP := fun ρ S H os vs Q wf wa h => by
  unfold fSortSetP at h
  split at h
  · rename_i o
    obtain ⟨v, p, rfl, h1⟩ := wa.one
    cases e : sqO o with
    | none => rw [e] at h; exact h.elim
    | some ds =>
      rw [e] at h; dsimp only at h
      obtain ⟨a, xs, rfl, q1, q2⟩ := sqO_ok wf h1 e
      cases e3 : pairsD ds with
      | none => rw [e3] at h; exact h.elim
      | some ps =>
        rw [e3] at h; dsimp only at h
        by_cases hc : ps.all in64 = true ∧ (dedP ps).length < 63
        · rw [if_pos hc] at h
          rw [pairsD_eq e3] at q2
          obtain ⟨k1, k2⟩ := pairs_ok wf.ex q2
          have hin : ∀ v ∈ xs, kOf H v ∈ ps := fun v hv => by rw [← k1]; exact List.mem_map.mpr ⟨v, hv, rfl⟩
          have mz : ∀ z ∈ xs.map (atOf H), ∃ v ∈ xs, v = V.ref z.1 ∧ z.2 = [(kOf H v).1, (kOf H v).2] := fun z hz => by
            obtain ⟨v, hv, rfl⟩ := List.mem_map.mp hz
            obtain ⟨t, rfl, _⟩ := k2 v hv
            exact ⟨_, hv, rfl, rfl⟩
          have ex : (xs.map (atOf H)).map (fun z => V.ref z.1) = xs := by
            rw [List.map_map]
            conv => rhs; rw [← List.map_id xs]
            refine List.map_congr_left fun v hv => ?_
            obtain ⟨t, rfl, _⟩ := k2 v hv
            rfl
          refine ⟨a, xs.map (atOf H), (dedP ps).map fun p => [p.1, p.2], rfl, by rw [ex]; exact q1, fun z hz => ?_, fun z hz => ?_, by rw [List.length_map]; exact hc.2, fun p L hp hL hall => ?_⟩
          · obtain ⟨v, hv, e1, e2⟩ := mz z hz
            obtain ⟨t, e4, e5⟩ := k2 v hv
            rw [e1] at e4
            injection e4 with e4
            rw [e2, e4]
            exact SqT.of (wf.ex _ _ e5)
          · obtain ⟨v, hv, _, e2⟩ := mz z hz
            exact List.mem_map.mpr ⟨kOf H v, mem_dedP.mpr (hin v hv), e2.symm⟩
          · have upx : ∀ {b : Addr} {u : HO}, H b = some u → (upd H p (SetTO P w p L)) b = some u := fun {b u} hb => by
              rw [upd_ne (fun z => by rw [z, hp] at hb; cases hb)]; exact hb
            refine ⟨p, L, 2, 64, rfl, upd_same, fun z hz => ?_, by decide, fun z hz => ?_, fun L' p2 pm nd fw pw hp2 => ?_⟩
            · obtain ⟨v, hv, e1, e2⟩ := mz z (hL z hz)
              obtain ⟨t, e4, e5⟩ := k2 v hv
              rw [e1] at e4
              injection e4 with e4
              rw [e2, e4]
              exact SqT.of (upx (wf.ex _ _ e5))
            · obtain ⟨v, hv, _, e2⟩ := mz z (hL z hz)
              have b := in64_iff.mp (List.all_eq_true.mp hc.1 _ (hin v hv))
              rw [e2]
              refine ⟨rfl, fun m hm => ?_⟩
              rcases List.mem_cons.mp hm with rfl | hm
              · exact b.1
              · rw [List.mem_singleton] at hm; rw [hm]; exact b.2
            · have m2 : ∀ z ∈ L', ∃ v ∈ xs, v = V.ref z.1 ∧ z.2 = [(kOf H v).1, (kOf H v).2] := fun z hz => mz z (hL z (pm.mem_iff.mp hz))
              have z2 : ∀ z ∈ L', z.2 = [(kOf H (V.ref z.1)).1, (kOf H (V.ref z.1)).2] := fun z hz => by
                obtain ⟨v, _, e1, e2⟩ := m2 z hz
                rw [← e1]; exact e2
              have key : (L'.map fun z => V.ref z.1).map (kOf H) = srtDP ps := by
                rw [List.map_map]
                have nd2 : (L'.map (kOf H ∘ fun z => V.ref z.1)).Nodup := by
                  refine nodup_of_map (f := fun y : Int × Int => [y.1, y.2]) ?_
                  rw [List.map_map]
                  have : L'.map ((fun y : Int × Int => [y.1, y.2]) ∘ (kOf H ∘ fun z => V.ref z.1)) = L'.map (·.2) := List.map_congr_left fun z hz => (z2 z hz).symm
                  rw [this]; exact nd
                refine srtP_uniq ((List.perm_ext_iff_of_nodup nd2 (dedP_nodup ps)).mpr fun x => ?_) ?_
                · rw [mem_dedP, List.mem_map]
                  constructor
                  · rintro ⟨z, hz, rfl⟩
                    obtain ⟨v, hv, e1, _⟩ := m2 z hz
                    show kOf H (V.ref z.1) ∈ ps
                    rw [← e1]; exact hin v hv
                  · intro hx
                    rw [← k1] at hx
                    obtain ⟨v, hv, rfl⟩ := List.mem_map.mp hx
                    obtain ⟨z, hz, e2⟩ := List.mem_map.mp (hall (atOf H v) (List.mem_map.mpr ⟨v, hv, rfl⟩))
                    have hz' := pm.mem_iff.mpr hz
                    have e3 := z2 z hz'
                    rw [e2] at e3
                    have e4 : [(kOf H v).1, (kOf H v).2] = [(kOf H (V.ref z.1)).1, (kOf H (V.ref z.1)).2] := e3
                    injection e4 with e5 e6
                    injection e6 with e6 _
                    exact ⟨z, hz', (Prod.ext e5 e6).symm⟩
                · rw [List.pairwise_map]
                  have nd3 : L'.Pairwise fun q r => q.2 ≠ r.2 := List.pairwise_map.mp nd
                  refine List.Pairwise.imp_of_mem (fun {q r} hq hr h => ?_) (pw.and nd3)
                  have c1 := h.1
                  have c2 := h.2
                  rw [z2 q hq, z2 r hr] at c1 c2
                  obtain ⟨v1, hv1, e1, _⟩ := m2 q hq
                  obtain ⟨v2, hv2, e2, _⟩ := m2 r hr
                  have b1 := in64_iff.mp (List.all_eq_true.mp hc.1 _ (hin v1 hv1))
                  have b2 := in64_iff.mp (List.all_eq_true.mp hc.1 _ (hin v2 hv2))
                  rw [e1] at b1
                  rw [e2] at b2
                  have := pair_lt c1 c2 b1.1 b1.2 b2.1 b2.2
                  show leP (kOf H (V.ref q.1)) (kOf H (V.ref r.1)) = true
                  rw [leP_iff]
                  omega
              have f := pairs_mk (K := K) (S := S) (H := H) (vs := L'.map fun z => V.ref z.1) fun x hx => by
                obtain ⟨z, hz, rfl⟩ := List.mem_map.mp hx
                obtain ⟨v, hv, e1, _⟩ := m2 z hz
                rw [← e1]; exact k2 v hv
              rw [key] at f
              have h2 : RFPost K ρ S (upd H p (SetTO P w p L)) Q (.ok (.ol ((srtDP ps).map pairD))) := fun S' H' v ρ2 g x n1 n2 ow =>
                h S' H' v ρ2 ((Quiet.fresh wf.ex hp).trans g) x (fun b u hb => n1 b u (upx hb)) n2 ow
              exact RFPost.lst (wf.fresh hp) hp2 h2 f
        · rw [if_neg hc] at h; exact h.elim
  · exact h.elim
theorem sim_sortsetP {te : TE} {x : VX} (hx : SimX K W te x) : SimF K W (tCB (rSortedT K P w) (tCons (tCB (rSetT K P w) (tCons te tNil)) tNil)) (v1 fSortSetP x) := sim_unF (r := rSS2 K P w) s_sortsetP hx
end
section
variable {X : Cx} {K : Frag} {P : Program} {w : World}
theorem cr_setTK (hK : X.K = K) (hP : X.prog = P) (hw : X.w = w) (hc : X.calm = true) (hu : X.A.units + 64 < cLine) : CallR X (.type "set") (rSetT K P w) := by subst hK hP hw; exact cr_setT hc hu
theorem cr_sortTK (hK : X.K = K) (hP : X.prog = P) (hw : X.w = w) (hc : X.calm = true) : CallR X (.builtin "sorted") (rSortedT K P w) := by subst hK hP hw; exact cr_sortedT hc
end
end VL
set_option maxRecDepth 100000
set_option maxHeartbeats 4000000
/-! V27: >= of numbers and of tuples of numbers -/
namespace VL
open PySem PySem.Spec PyProof.Rows L2
def geL (ns ms : List Int) : Bool := leL ms ns
theorem lexAt_ge : ∀ ns ms : List Int, Ob.lexAt (fun j => decide (ns.getD j 0 = ms.getD j 0)) (fun j => decide (ms.getD j 0 ≤ ns.getD j 0)) (decide (ns.length ≥ ms.length)) 0 (min ns.length ms.length) = geL ns ms := fun ns ms => by
  have h := lexAt_le ms ns
  unfold geL
  rw [← h, Nat.min_comm]
  congr 1
  funext j
  exact decide_eq_decide.mpr ⟨fun e => e.symm, fun e => e.symm⟩
section
variable {K : Frag}
def rGeT (K : Frag) : R2 := fun x y H Q => ∃ (a b : Addr) (ns ms : List Int), x = .ref a ∧ y = .ref b ∧ SqT K H a (ns.map V.int) ∧ SqT K H b (ms.map V.int) ∧ Q (.bl (geL ns ms)) H
def rGeU (K : Frag) : R2 := fun x y H Q => rI0 (fun i j => .bl (decide (j ≤ i))) x y H Q ∨ rGeT K x y H Q
theorem op_geT {X : Cx} (hu : X.A.units < cLine) : OpR X (compareOp .GtE) (rGeT X.K) := by
  intro pins s σ H x y v u Q I rx ry ⟨a, b, ns, ms, ex, ey, ha, hb, q⟩
  subst ex ey; cases rx; cases ry
  obtain ⟨us, r1, p1, _⟩ := I.tuple ha; obtain ⟨ws, r2, p2, _⟩ := I.tuple hb
  have i1 : IntsAre us ns := Vals.ints r1; have i2 : IntsAre ws ms := Vals.ints r2
  have z1 : us.toArray.size = ns.length := (List.size_toArray ..).trans i1.length; have z2 : ws.toArray.size = ms.length := (List.size_toArray ..).trans i2.length
  have g1 : ∀ j (h : j < us.toArray.size), ∃ t, us.toArray[j] = .int (ns.getD j 0) t := fun j h => IntsAre.int_at i1 _ _ (by simp at h; simp [h])
  have g2 : ∀ j (h : j < ws.toArray.size), ∃ t, ws.toArray[j] = .int (ms.getD j 0) t := fun j h => IntsAre.int_at i2 _ _ (by simp at h; simp [h])
  have R := Ob.RcOp.tuples_ge (A := X.A) (s := s) (e := fun j => decide (ns.getD j 0 = ms.getD j 0)) (r := fun j => decide (ms.getD j 0 ≤ ns.getD j 0)) p1 p2 hu (fun j h1 h2 => by
    obtain ⟨t, et⟩ := g1 j h1; obtain ⟨t', et'⟩ := g2 j h2
    rw [et, et']
    have zz : ∀ x y : Int, (x == y) = decide (x = y) := fun x y => by by_cases q : x = y <;> simp [q]
    rw [← zz]; exact SeqAt.EqAt.int_int _ _ _ _) (fun j h1 h2 _ => by
    obtain ⟨t, et⟩ := g1 j h1; obtain ⟨t', et'⟩ := g2 j h2
    rw [et, et']; exact Ob.RcOp.ge_int _ _ _ _)
  rw [z1, z2, lexAt_ge] at R
  exact (R X.prog X.w X.xe (EP X pins σ Q) ⟨.bl _, H, I, rfl, q⟩ : wpAny (model X.prog X.w) X.A (compareOp .GtE (.ref a) (.ref b)) (EP X pins σ Q) X.xe s)
theorem op_geU {X : Cx} (hu : X.A.units < cLine) : OpR X (compareOp .GtE) (rGeU X.K) := fun pins s σ H x y v u Q I rx ry h => by
  rcases h with h | h
  · exact op_ge pins s σ H x y v u Q I rx ry h
  · exact op_geT hu pins s σ H x y v u Q I rx ry h
theorem op_geUK {X : Cx} (hK : X.K = K) (hu : X.A.units < cLine) : OpR X (compareOp .GtE) (rGeU K) := by subst hK; exact op_geU hu
def fGeU := fOrd (fun i j => decide (j ≤ i)) geL
theorem s_geU : SimR K (r2l (rGeU K)) fGeU := s_ord (fun q => .inl ⟨_, _, rfl, rfl, q⟩) fun a b q => .inr ⟨_, _, _, _, rfl, rfl, a, b, q⟩
end
end VL
set_option maxRecDepth 100000
set_option maxHeartbeats 4000000
/-! V28: sorted(xs) of tuples of numbers, of any lengths -/
namespace SrtT
open PySem PySem.W PySem.Calls PyProof.Rows Builtin
abbrev general' : SortKind := sortPriv% PySem.Builtin.KeyKind.general
theorem keyLt'_general (x y : Value) : keyLt' general' x y = oneLt' false x y := rfl
/-- a tuple of these numbers -/
def IsIt (h : Heap) (v : Value) (ns : List Int) : Prop := ∃ (a : Addr) (items : Array Value), v = .ref a ∧ IsTup h a items ∧ IntsAre items.toList ns
theorem IsIt.keeps {h h' : Heap} {v : Value} {ns : List Int} (p : IsIt h v ns) (k : ∀ b o, h.get? b = some o → o.cls = .type "tuple" → h'.get? b = some o) : IsIt h' v ns := by
  obtain ⟨a, items, e, ⟨o, ho, hc, hd⟩, hi⟩ := p
  exact ⟨a, items, e, ⟨o, k _ _ ho hc, hc, hd⟩, hi⟩
section
variable {prog : Program} {w : World} {A : Around} {E : Value → Shared → Prop} {s : Shared}
theorem lt_gen {v u : Value} {ns ms : List Int} {Q : Bool → Shared → Prop} (hu : A.units < cLine) (hv : IsIt s.heap v ns) (hw : IsIt s.heap u ms) (h : Q (HT.lexLt ns ms) s) : wpAny (model prog w) A (keyLt' general' v u) Q E s := by
  obtain ⟨a, xs, rfl, ta, ia⟩ := hv
  obtain ⟨b, ys, rfl, tb, ib⟩ := hw
  rw [keyLt'_general]
  refine kat_one _ _ (HT.lt_tupInts ta tb ia ib hu ?_)
  exact h
theorem call_lt {a b : Addr} {xs ys : Array Value} {ns ms : List Int} {Q : Value → Shared → Prop} (ta : IsTup s.heap a xs) (tb : IsTup s.heap b ys) (ia : IntsAre xs.toList ns) (ib : IntsAre ys.toList ms) (h : Q (.bool (HT.lexLt ns ms)) s) : wpAny (model prog w) A (call (.builtin "tuple.__lt__") [.ref a, .ref b]) Q E s := by
  obtain ⟨⟨cls, dd, data, sl⟩, ho, hc, n, hd⟩ := id ta
  obtain ⟨⟨cls2, dd2, data2, sl2⟩, ho2, hc2, n2, hd2⟩ := id tb
  simp only at hc hd hc2 hd2
  subst hc hd hc2 hd2
  refine wpAny_call (codeAny_call_builtin PySem.F.slot_tuple_lt.plain PySem.F.entry_tuple_lt (PySem.F.slot_tuple_lt.check _ _ _ _ _ _ _ _ ⟨_, ho, rfl⟩ (PySem.F.args_tuple_lt_2 _ _)
    (wpAny_mono (HT.tuple_lt_ints a b xs ys n n2 dd dd2 sl sl2 ns ms ia ib prog w _ (wants Q E) s ⟨ho, ho2, h⟩) (fun fin s' q => ?_) fun _ _ z => z)))
  cases fin with
  | done f => exact q
  | again c => exact q
theorem lt_one {v u : Value} {ns ms : List Int} {Q : Bool → Shared → Prop} (hu : A.units < cLine) (hv : IsIt s.heap v ns) (hw : IsIt s.heap u ms) (h : Q (HT.lexLt ns ms) s) : wpAny (model prog w) A (keyLt' oneType' v u) Q E s := by
  obtain ⟨a, xs, rfl, ta, ia⟩ := hv
  obtain ⟨b, ys, rfl, tb, ib⟩ := hw
  rw [keyLt'_oneType, oneLt'_eq]
  simp only [if_true]
  obtain ⟨o, ho, hc, _⟩ := id ta
  refine wpAny_bind (wpAny_cRoomFor hu ?_)
  refine wpAny_bind (wpAny_callSpecialIfBound?_slot (T := "tuple") ⟨o, ho, hc⟩ PySem.F.slot_tuple_lt (call_lt ta tb ia ib ?_))
  exact wpAny_truthy_bool h
theorem lt_tups {v u : Value} {ns ms : List Int} {Q : Bool → Shared → Prop} (hv : IsIt s.heap v ns) (hw : IsIt s.heap u ms) (h : Q (HT.lexLt ns ms) s) : wpAny (model prog w) A (keyLt' (tuples' true) v u) Q E s := by
  obtain ⟨a, xs, rfl, ⟨o, ho, hc, n, hd⟩, ia⟩ := hv
  obtain ⟨b, ys, rfl, ⟨o2, ho2, hc2, n2, hd2⟩, ib⟩ := hw
  refine PySem.W.kat_lt ho hd ho2 hd2 ?_
  have z1 : xs.size = xs.toList.length := by simp
  have z2 : ys.size = ys.toList.length := by simp
  rw [z1, z2]
  generalize xs.toList = l at ia ⊢
  generalize ys.toList = l2 at ib ⊢
  suffices H : ∀ (l l2 : List Value) (ns ms : List Int) (i : Nat), IntsAre l ns → IntsAre l2 ms → Q (HT.lexLt ns ms) s → PySem.W.KatLex prog w A true (decide (l.length < l2.length)) Q (l.zip l2) i s from H l l2 ns ms 0 ia ib h
  intro l
  induction l with
  | nil =>
    intro l2 ns ms i h1 h2 h
    rw [List.zip_nil_left]
    cases h1
    cases h2 with
    | nil => exact PySem.W.kat_nil (by simpa [HT.lexLt_nil_nil] using h)
    | cons => exact PySem.W.kat_nil (by simpa [HT.lexLt_nil_cons] using h)
  | cons x l ih =>
    intro l2 ns ms i h1 h2 h
    cases h1 with
    | cons x t h1 =>
      cases h2 with
      | nil => rw [List.zip_nil_right]; exact PySem.W.kat_nil (by simpa [HT.lexLt_cons_nil] using h)
      | cons y u h2 =>
        rename_i l3 ms3
        rw [List.zip_cons_cons]
        refine PySem.W.kat_cons (SeqAt.EqAt.int_int x t y u prog w _ _ ?_)
        rw [HT.lexLt_cons] at h
        refine PySem.W.kat_go (fun e1 => ?_) (fun e1 => ?_)
        · have ex : x = y := by simpa using e1
          rw [if_pos ex] at h
          have := ih _ _ _ (i + 1) h1 h2 h
          refine PySem.W.kat_yes ?_
          simpa using this
        · have ex : ¬ x = y := by simpa using e1
          rw [if_neg ex] at h
          refine PySem.W.kat_no ?_
          cases (true && i == 0) with
          | true => exact oneLt_int h
          | false => exact PySem.W.kat_one _ _ (PyProof.Rows.lt_int h)
/-! ### the kind of the keys -/
theorem firsts_any : ∀ {vs : List Value} {k : Value → List Int}, (∀ v ∈ vs, IsIt s.heap v (k v)) → ∃ fs : List (Option Value), fs.length = vs.length ∧ (∀ f ∈ fs, f = none ∨ ∃ x t, f = some (Value.int x t)) ∧
    ∀ {E : Value → Shared → Prop} {Q : List (Option Value) → Shared → Prop}, Q fs s → wpAny (model prog w) A (vs.mapM firstOfTuple') Q E s
  | [], _, _ => ⟨[], rfl, fun _ h => (by cases h), fun {E Q} h => by rw [List.mapM_nil]; exact wpAny_pure h⟩
  | v :: vs, k, hp => by
    obtain ⟨fs, h1, h2, h3⟩ := firsts_any (vs := vs) (k := k) fun v' hm => hp v' (List.mem_cons_of_mem _ hm)
    obtain ⟨a, xs, e, ⟨o, ho, hc, n, hd⟩, hi⟩ := hp v (List.mem_cons_self ..)
    subst e
    refine ⟨xs[0]? :: fs, by simp [h1], fun f hm => ?_, fun {E Q} h => ?_⟩
    · rcases List.mem_cons.mp hm with rfl | hm
      · have z : xs[0]? = xs.toList[0]? := by simp
        rw [z]
        generalize xs.toList = l at hi
        generalize k (Value.ref a) = ns at hi
        cases hi with
        | nil => exact .inl rfl
        | cons x t q => exact .inr ⟨_, _, rfl⟩
      · exact h2 f hm
    · rw [List.mapM_cons]
      refine wpAny_bind ?_
      rw [kas_first_eq]
      refine wpAny_bind (Looks.here (show Looks (model prog w) s.heap (typeOf (.ref a)) o.cls from (Looks.ld ho).andThen .now) ?_)
      rw [hc, if_neg (by first | decide | simp)]
      refine wpAny_bind (listItems_at ho hd (wpAny_pure ?_))
      exact wpAny_bind (h3 (Q := fun bs s' => wpAny (model prog w) A (pure (xs[0]? :: bs)) Q E s') (wpAny_pure h))
end
def Kinds (κ : SortKind) : Prop := κ = tuples' true ∨ κ = general' ∨ κ = oneType'
section
variable {prog : Program} {w : World} {A : Around} {E : Value → Shared → Prop} {s : Shared}
theorem lt_kinds {κ : SortKind} {v u : Value} {ns ms : List Int} {Q : Bool → Shared → Prop} (hk : Kinds κ) (hu : A.units < cLine) (hv : IsIt s.heap v ns) (hw : IsIt s.heap u ms) (h : Q (HT.lexLt ns ms) s) : wpAny (model prog w) A (keyLt' κ v u) Q E s := by
  rcases hk with rfl | rfl | rfl
  · exact lt_tups hv hw h
  · exact lt_gen hu hv hw h
  · exact lt_one hu hv hw h
theorem kind_any {vs : List Value} {k : Value → List Int} (h2 : 2 ≤ vs.length) (hp : ∀ v ∈ vs, IsIt s.heap v (k v)) : ∃ κ, Kinds κ ∧ ∀ (Q : SortKind → Shared → Prop) (E : Value → Shared → Prop), Q κ s → wpAny (model prog w) A (keyKind' vs.toArray) Q E s := by
  obtain ⟨fs, h1, h3, h4⟩ := firsts_any (prog := prog) (w := w) (A := A) hp
  have ty : ∀ v ∈ vs, Looks (model prog w) s.heap (typeOf v) (.type "tuple") := fun v hm => by
    obtain ⟨a, xs, e, ⟨o, ho, hc, n, hd⟩, hi⟩ := hp v hm
    subst e
    rw [← hc]
    exact (Looks.ld ho).andThen .now
  by_cases c1 : fs.all (·.isSome) = true
  · refine ⟨tuples' true, .inl rfl, fun Q E hq => ?_⟩
    rw [keyKind'_eq, List.mapM_toArray, map_eq_pure_bind]
    refine wpAny_bind (wpAny_bind (h4 (wpAny_pure ?_)))
    rw [if_pos (by simpa using c1)]
    refine wpAny_bind (wpAny_rule ?_)
    obtain ⟨us, e1, e2⟩ : ∃ us : List Value, fs = us.map some ∧ ∀ u ∈ us, ∃ x t, u = Value.int x t := by
      clear h1 h4
      induction fs with
      | nil => exact ⟨[], rfl, fun _ h => by cases h⟩
      | cons f fs ih =>
        obtain ⟨us, e1, e2⟩ := ih (fun f' hm => h3 f' (List.mem_cons_of_mem _ hm)) (by simp at c1; simpa using c1.2)
        rcases h3 f List.mem_cons_self with rfl | ⟨x, t, rfl⟩
        · simp at c1
        · refine ⟨.int x t :: us, by rw [e1]; rfl, fun u hu => ?_⟩
          rcases List.mem_cons.mp hu with rfl | hu
          · exact ⟨x, t, rfl⟩
          · exact e2 u hu
    have hfm : (fs.toArray.filterMap id) = us.toArray := by rw [e1]; simp
    rw [hfm, oneTypeOnly'_eq, List.mapM_toArray, map_eq_pure_bind]
    refine wpAny_bind (wpAny_bind (wpAny_bind (kas_mapM (r := .type "int") _ (fun v hv Q' hq => ?_) (wpAny_pure ?_))))
    · obtain ⟨x, t, rfl⟩ := e2 v hv
      exact (show Looks (model prog w) s.heap (typeOf (.int x t)) (.type "int") from Looks.now).here hq
    · have hl : us.length = vs.length := by rw [← h1, e1, List.length_map]
      obtain ⟨u, ur, rfl⟩ : ∃ u ur, us = u :: ur := by
        match us, hl with
        | [], hl => simp at hl; omega
        | u :: ur, _ => exact ⟨u, ur, rfl⟩
      have hall2 : ((List.map (fun _ => Value.type "int") (u :: ur)).toArray.all fun x => x == Value.type "int") = true := by
        simp only [List.all_toArray, List.all_map, List.all_eq_true]
        intro _ _
        rfl
      have h0 : (List.map (fun _ => Value.type "int") (u :: ur)).toArray[0]? = some (Value.type "int") := by simp
      rw [h0]
      simp only [hall2, if_true]
      exact wpAny_pure (wpAny_pure hq)
  · by_cases c2 : (fs.toArray[0]?.bind id).isSome = true
    · refine ⟨general', .inr (.inl rfl), fun Q E hq => ?_⟩
      rw [keyKind'_eq, List.mapM_toArray, map_eq_pure_bind]
      refine wpAny_bind (wpAny_bind (h4 (wpAny_pure ?_)))
      rw [if_neg (by simpa using c1), if_pos c2]
      exact wpAny_pure hq
    · refine ⟨oneType', .inr (.inr rfl), fun Q E hq => ?_⟩
      rw [keyKind'_eq, List.mapM_toArray, map_eq_pure_bind]
      refine wpAny_bind (wpAny_bind (h4 (wpAny_pure ?_)))
      rw [if_neg (by simpa using c1), if_neg c2]
      rw [oneTypeOnly'_eq, List.mapM_toArray, map_eq_pure_bind]
      refine wpAny_bind (wpAny_bind (wpAny_bind (kas_mapM (r := .type "tuple") _ (fun v hv Q' hq => (ty v hv).here hq) (wpAny_pure ?_))))
      obtain ⟨u, ur, rfl⟩ : ∃ u ur, vs = u :: ur := by
        match vs, h2 with
        | [], h2 => simp at h2
        | u :: ur, _ => exact ⟨u, ur, rfl⟩
      have hall2 : ((List.map (fun _ => Value.type "tuple") (u :: ur)).toArray.all fun x => x == Value.type "tuple") = true := by
        simp only [List.all_toArray, List.all_map, List.all_eq_true]
        intro _ _
        rfl
      have h0 : (List.map (fun _ => Value.type "tuple") (u :: ur)).toArray[0]? = some (Value.type "tuple") := by simp
      rw [h0]
      simp only [hall2, if_true]
      exact wpAny_pure (wpAny_pure hq)
/-! ### sorted -/
theorem tups_sortable {a : Addr} {vs : List Value} {k : Value → List Int} (hu : A.units < cLine) (h2 : 2 ≤ vs.length) (hp : ∀ v ∈ vs, IsIt s.heap v (k v)) (ha : ∀ o, s.heap.get? a = some o → o.cls ≠ .type "tuple") :
    SrtO.SortableO prog w A s a vs fun v u => HT.lexLt (k v) (k u) := by
  intro h' keep
  have hp' : ∀ v ∈ vs, IsIt h' v (k v) := fun v hm => (hp v hm).keeps fun b o e c => keep b o (fun z => by subst z; exact ha o e c) e
  obtain ⟨κ, hk, kd⟩ := kind_any (prog := prog) (w := w) (A := A) (s := { s with heap := h' }) h2 hp'
  refine ⟨κ, kd, fun p q hp1 hq1 => ?_⟩
  exact lt_kinds (Q := fun r s' => s' = { s with heap := h' } ∧ r = HT.lexLt (k p.1) (k q.1)) (E := fun _ _ => False) hk hu (hp' p.1 hp1) (hp' q.1 hq1) ⟨rfl, rfl⟩
theorem sorted_tups {l : Addr} {vs : List Value} {k : Value → List Int} {Q : Value → Shared → Prop} (hu : A.units + 64 < cLine) (hl : s.heap.IsList l vs.toArray) (hz : vs.length ≤ sizeLine) (hp : ∀ v ∈ vs, IsIt s.heap v (k v))
    (h : ∀ (h' : Heap) (d : Addr) (out : List Value), SrtO.Srtd (fun v u => HT.lexLt (k v) (k u)) out → SrtO.Stb (fun v u => HT.lexLt (k v) (k u)) out vs → (∀ b o, s.heap.get? b = some o → h'.get? b = some o) → s.heap.objs.size ≤ d → (∃ n, h'.get? d = some (seqObj "list" out.toArray n)) → Q (.ref d) { s with heap := h' }) :
    wpAny (model prog w) A (call (.builtin "sorted") [.ref l]) Q E s := by
  refine SrtO.sorted_ord (NtL.swo_lexL k) hl hz (fun h2 h₁ a ha kk => ?_) fun out hs hb => ?_
  · refine tups_sortable (s := { s with heap := h₁ }) (by show A.units + 1 + 1 < cLine; omega) h2 (fun v hm => (hp v hm).keeps fun b o e _ => (kk b o e).2) fun o e => ?_
    have e' : some o = some (seqObj "list" vs.toArray 0) := e.symm.trans ha
    cases e'
    intro c
    exact absurd (Value.type.inj c) (by decide)
  · exact h _ _ out hs hb (fun b o e => sortedAll_old e) (Nat.le_succ _) (sortedAll_at s.heap vs out.toArray)
end
end SrtT

namespace VL
open PySem PySem.Spec PyProof.Rows L2
/-- sorted(xs), xs a list of tuples of numbers (k says which) -/
def rSortedTO (K : PySem.W.Frag) : List V → Hp → VK → Prop := fun vs H Q => ∃ (a : Addr) (xs : List V) (k : V → List Int), vs = [V.ref a] ∧ SqL K H a xs ∧ (∀ x ∈ xs, ∃ t, x = V.ref t ∧ H t = some (.tup ((k x).map V.int))) ∧
  ∀ ys p, SrtO.Srtd (fun x y => HT.lexLt (k x) (k y)) ys → SrtO.Stb (fun x y => HT.lexLt (k x) (k y)) ys xs → H p = none → Q (.ref p) (upd H p (.lst ys))
section
variable {X : Cx}
theorem cr_sortedTO (hu : X.A.units + 65 < cLine) : CallR X (.builtin "sorted") (rSortedTO X.K) := by
  intro pins s σ H vs us Q I r h
  obtain ⟨a, xs, k, rfl, hs, hx, q⟩ := h
  obtain ⟨its, rv, hl, hz⟩ := I.list hs
  obtain ⟨u, rfl, ru⟩ := vals1 r
  obtain rfl : u = Value.ref a := ru
  obtain ⟨e1, e2⟩ := refs_back rv fun x m => by
    obtain ⟨t, e, _⟩ := hx x m
    exact ⟨t, e⟩
  refine SrtT.sorted_tups (k := fun u => k (backV u)) (by omega) hl.isList (by rw [← rv.length]; exact hz) (fun v hv => ?_) fun h' d out h1 h2 kp hd hn => ?_
  · obtain ⟨t, rfl⟩ := e2 v hv
    have hm : V.ref t ∈ xs := by rw [e1]; exact List.mem_map.mpr ⟨_, hv, rfl⟩
    obtain ⟨t', e, ht⟩ := hx _ hm
    cases e
    obtain ⟨_, its2, r2, o, ho, hc, n, hd⟩ := I.hok _ _ ht
    exact ⟨t, its2.toArray, rfl, ⟨o, ho, hc, n, hd⟩, Vals.ints r2⟩
  · have h3 : ∀ u ∈ out, ∃ a, u = Value.ref a := fun u hu => e2 u (h2.perm.mem_iff.mp hu)
    obtain ⟨n, hn⟩ := hn
    have O : SrtO.Swo (fun x y : V => HT.lexLt (k x) (k y)) := NtL.swo_lexL k
    have hb : SrtO.Stb (fun x y => HT.lexLt (k x) (k y)) (out.map backV) xs := by
      rw [e1]
      exact SrtO.Stb.map O backV h2
    refine ⟨.ref d, upd H d (.lst (out.map backV)), I.laid (t' := s.toks) kp hd ⟨?_, out, n, vals_back h3, hn⟩, rfl, q _ d (SrtO.srtd_map h1) hb (I.hok.fresh hd)⟩
    rw [hb.len]
    exact hz
end
/-- sorted(xs): numbers, pairs of numbers, tuples of numbers -/
def rSortM (K : PySem.W.Frag) : List V → Hp → VK → Prop := fun vs H Q => VL.rSortU K vs H Q ∨ rSortedTO K vs H Q
theorem cr_sortM {X : Cx} (hu : X.A.units + 65 < cLine) : CallR X (.builtin "sorted") (rSortM X.K) := fun pins s σ H vs us Q I r h => by
  rcases h with h | h
  · exact cr_sortU pins s σ H vs us Q I r h
  · exact cr_sortedTO hu pins s σ H vs us Q I r h
theorem cr_sortMK {K : Frag} {X : Cx} (hK : X.K = K) (hu : X.A.units + 65 < cLine) : CallR X (.builtin "sorted") (rSortM K) := by subst hK; exact cr_sortM hu
/-! ### tables of tuples -/
def tupD (ns : List Int) : D := .tup (ns.map D.int)
def tupsD : List D → Option (List (List Int))
  | [] => some []
  | .tup ds :: es => (intsD ds).bind fun ns => (tupsD es).map (ns :: ·)
  | _ => none
theorem tupsD_eq : ∀ {ds : List D} {ts : List (List Int)}, tupsD ds = some ts → ds = ts.map tupD
  | [], ts, h => by cases h; rfl
  | d :: ds, ts, h => by
    cases d with
    | tup es =>
      obtain ⟨ns, e1, e2⟩ := Option.bind_eq_some_iff.mp (show (intsD es).bind (fun ns => (tupsD ds).map (ns :: ·)) = some ts from h)
      obtain ⟨ts', e3, rfl⟩ := Option.map_eq_some_iff.mp e2
      rw [intsD_eq e1, tupsD_eq e3]
      rfl
    | _ => cases h
theorem tupsD_map : ∀ (ts : List (List Int)), tupsD (ts.map tupD) = some ts
  | [] => rfl
  | t :: ts => by
    show (intsD (t.map D.int)).bind (fun ns => (tupsD (ts.map tupD)).map (ns :: ·)) = _
    rw [intsD_map, tupsD_map ts]
    rfl
def leT (p q : List Int) : Bool := !HT.lexLt q p
def srtT (ts : List (List Int)) : List (List Int) := ts.mergeSort leT
theorem leT_tr {a b c : List Int} (h1 : leT a b = true) (h2 : leT b c = true) : leT a c = true := by
  unfold leT at *
  rw [Bool.not_eq_true'] at *
  exact NtL.lex_tr _ _ _ h1 h2
theorem leT_tot (a b : List Int) : (leT a b || leT b a) = true := by
  unfold leT
  cases e : HT.lexLt b a with
  | false => simp
  | true => simp [NtL.lex_asym _ _ e]
theorem leT_anti : ∀ {a b : List Int}, leT a b = true → leT b a = true → a = b
  | [], [], _, _ => rfl
  | [], y :: ys, _, h => by unfold leT at h; rw [HT.lexLt_nil_cons] at h; cases h
  | x :: xs, [], h, _ => by unfold leT at h; rw [HT.lexLt_nil_cons] at h; cases h
  | x :: xs, y :: ys, h1, h2 => by
    unfold leT at h1 h2
    rw [HT.lexLt_cons] at h1 h2
    by_cases e : x = y
    · subst e
      rw [if_pos rfl] at h1 h2
      rw [leT_anti (a := xs) (b := ys) h1 h2]
    · rw [if_neg fun z => e z.symm] at h1
      rw [if_neg e] at h2
      simp at h1 h2
      omega
theorem srtT_perm (ts : List (List Int)) : (srtT ts).Perm ts := List.mergeSort_perm _ _
theorem srtT_pw (ts : List (List Int)) : (srtT ts).Pairwise fun p q => leT p q = true := List.pairwise_mergeSort (le := leT) (fun _ _ _ h1 h2 => leT_tr h1 h2) leT_tot ts
theorem srtT_uniq {ts us : List (List Int)} (h : us.Perm ts) (p : us.Pairwise fun p q => leT p q = true) : us = srtT ts :=
  (h.trans (srtT_perm ts).symm).eq_of_pairwise (fun a b _ _ h1 h2 => leT_anti h1 h2) p (srtT_pw ts)
def fSortM : List O → QR O
  | [o] => match sqO o with
    | some ds => (match intsD ds with
      | some ns => .ok (.ol ((srtI ns).map D.int))
      | none => match pairsD ds with
        | some ps => .ok (.ol ((srtP ps).map pairD))
        | none => match tupsD ds with
          | some ts => .ok (.ol ((srtT ts).map tupD))
          | none => .bad)
    | none => .bad
  | _ => .bad
def kOfT (H : Hp) (v : V) : List Int := match v with
  | .ref t => (match H t with
    | some (.tup vs) => vs.filterMap fun v => match v with | .int i => some i | _ => none
    | _ => [])
  | _ => []
section
variable {K : Frag}
theorem int_fm (ns : List Int) : (ns.map V.int).filterMap (fun v => match v with | .int i => some i | _ => none) = ns := by
  induction ns with
  | nil => rfl
  | cons n ns ih => rw [List.map_cons, List.filterMap_cons]; simp [ih]
theorem fz_tup {S H : Hp} (e : Ex S H) {p : List Int} {v : V} (h : Fz K S (tupD p) v) : kOfT H v = p ∧ ∃ t, v = .ref t ∧ S t = some (.tup (p.map V.int)) := by
  unfold tupD Fz at h
  obtain ⟨a, vs, rfl, h1, h2⟩ := h
  rw [FzL.ints] at h2
  subst h2
  refine ⟨?_, a, rfl, h1⟩
  unfold kOfT
  dsimp only
  rw [e _ _ h1]
  exact int_fm p
theorem tups_ok {S H : Hp} (e : Ex S H) : ∀ {ps : List (List Int)} {vs : List V}, FzL K S (ps.map tupD) vs → vs.map (kOfT H) = ps ∧ ∀ v ∈ vs, ∃ t, v = .ref t ∧ S t = some (.tup ((kOfT H v).map V.int))
  | [], vs, h => by cases h.unnil; exact ⟨rfl, fun _ h => by cases h⟩
  | p :: ps, vs, h => by
    obtain ⟨v, vs', rfl, h1, h2⟩ := h.uncons
    obtain ⟨k1, k2⟩ := tups_ok e h2
    obtain ⟨k3, t, k4, k5⟩ := fz_tup e h1
    refine ⟨by rw [List.map_cons, k1, k3], fun u hu => ?_⟩
    rcases List.mem_cons.mp hu with rfl | hu
    · rw [k3]; exact ⟨t, k4, k5⟩
    · exact k2 u hu
theorem tups_mk {S H : Hp} : ∀ {vs : List V}, (∀ v ∈ vs, ∃ t, v = .ref t ∧ S t = some (.tup ((kOfT H v).map V.int))) → FzL K S ((vs.map (kOfT H)).map tupD) vs
  | [], _ => .nil
  | v :: vs, h => by
    obtain ⟨t, e1, e2⟩ := h v List.mem_cons_self
    refine .cons ?_ (tups_mk fun u hu => h u (List.mem_cons_of_mem _ hu))
    unfold tupD Fz
    exact ⟨t, _, e1, e2, FzL.ints.mpr rfl⟩
theorem s_sortM : SimRF K (rSortM K) fSortM := fun ρ S H os vs Q w wa h => by
  by_cases c : ∃ o, os = [o]
  · obtain ⟨o, rfl⟩ := c
    have h0 := h
    unfold fSortM at h
    dsimp only at h
    have old : RFPost K ρ S H Q (fSortF [o]) → rSortM K vs H Q := fun g => .inl (s_sortF ρ S H [o] vs Q w wa g)
    cases e : sqO o with
    | none => rw [e] at h; exact h.elim
    | some ds =>
      rw [e] at h; dsimp only at h
      cases e2 : intsD ds with
      | some ns => rw [e2] at h; exact old (by unfold fSortF; dsimp only; rw [e]; dsimp only; rw [e2]; exact h)
      | none =>
        rw [e2] at h; dsimp only at h
        cases e3 : pairsD ds with
        | some ps => rw [e3] at h; exact old (by unfold fSortF; dsimp only; rw [e]; dsimp only; rw [e2]; dsimp only; rw [e3]; exact h)
        | none =>
          rw [e3] at h; dsimp only at h
          cases e4 : tupsD ds with
          | none => rw [e4] at h; exact h.elim
          | some ts =>
            rw [e4] at h
            obtain ⟨v, p, rfl, h1⟩ := wa.one
            obtain ⟨a, xs, rfl, q1, q2⟩ := sqO_ok w h1 e
            rw [tupsD_eq e4] at q2
            obtain ⟨k1, k2⟩ := tups_ok w.ex q2
            refine .inr ⟨a, xs, kOfT H, rfl, q1, fun x hx => ?_, fun ys l hs hst hl => ?_⟩
            · obtain ⟨t, e4, e5⟩ := k2 x hx
              exact ⟨t, e4, w.ex _ _ e5⟩
            · have e6 : ys.map (kOfT H) = srtT ts := by
                refine srtT_uniq ?_ ?_
                · rw [← k1]; exact hst.perm.map _
                · rw [List.pairwise_map]
                  refine List.Pairwise.imp (fun {x y} h => ?_) (show SrtO.Srtd (fun x y => HT.lexLt (kOfT H x) (kOfT H y)) ys from hs)
                  unfold leT
                  rw [show HT.lexLt (kOfT H y) (kOfT H x) = false from h]; rfl
              have f := tups_mk (K := K) (S := S) (H := H) (vs := ys) fun x hx => k2 x (hst.perm.mem_iff.mp hx)
              rw [e6] at f
              exact RFPost.lst w hl h f
  · have : fSortM os = .bad := by
      match os, c with
      | [], _ => rfl
      | [o], c => exact (c ⟨o, rfl⟩).elim
      | _ :: _ :: _, _ => rfl
    rw [this] at h; exact h.elim
end
end VL
set_option maxRecDepth 100000
set_option maxHeartbeats 4000000
/-! V29: walks over what a name owns: the name is hidden meanwhile -/
namespace VL
open PySem L2
/-- the name in slot i is hidden -/
def hidS (i : Nat) (σ : VS) : VS := σ.set i (.rf (.val .hid))
def unhS (i : Nat) (sv : SV) (σ : VS) : QR VS := match σ[i]? with
  | some (.rf (.val .hid)) => .ok (σ.set i sv)
  | _ => .bad
def unhB (lock : Bool) (i : Nat) (sv : SV) : BR → BR
  | .nx σ => (match unhS i sv σ with | .ok σ1 => .nx σ1 | .bad => .bad)
  | .bk σ => (match unhS i sv σ with | .ok σ1 => .bk σ1 | .bad => .bad)
  | .ct σ => (match unhS i sv σ with | .ok σ1 => .ct σ1 | .bad => .bad)
  | .rt o σ => (match unhS i sv σ with | .ok σ1 => .rt o σ1 | .bad => .bad)
  | .err c σ => if lock = true then .bad else (match unhS i sv σ with | .ok σ1 => .err c σ1 | .bad => .bad)
  | .bad => .bad
def unhX {α : Type} (i : Nat) (sv : SV) : XR α → XR α
  | .ok o σ => (match unhS i sv σ with | .ok σ1 => .ok o σ1 | .bad => .bad)
  | .err c σ => (match unhS i sv σ with | .ok σ1 => .err c σ1 | .bad => .bad)
  | .bad => .bad
theorem unhS_ok {i : Nat} {sv : SV} {σ σ1 : VS} (h : unhS i sv σ = .ok σ1) : σ[i]? = some (.rf (.val .hid)) ∧ σ1 = σ.set i sv := by
  unfold unhS at h
  split at h
  · rename_i e; cases h; exact ⟨e, rfl⟩
  · cases h
def pvI (pv : Nat → Option V) (i : Nat) (v : V) : Nat → Option V := fun j => if j = i then some v else pv j
def rhoU (ρ ρ2 : Rho) (i : Nat) : Rho := fun b => match rhoIn ρ i b with
  | some q => some q
  | none => ρ2 b
section
variable {K : Frag} {W : WX}
theorem rhoIn_out {ρ : Rho} {i : Nat} {b : Addr} {q : Path} (h : rhoIn ρ i b = some q) : rhoOut ρ i b = none := by
  obtain ⟨r, rfl, e⟩ := rhoIn_some h
  unfold rhoOut
  rw [e]
  exact if_pos rfl
theorem StR.hide {ρ : Rho} {pv : Nat → Option V} {S H : Hp} {σV : VS} {σ : St} {i : Nat} {sv : SV} {o : O} {a : Addr} (s : StR K ρ pv S H σV σ) (h1 : σV[i]? = some sv) (h2 : sv.get = some o) (h3 : σ[i]? = some (some (.ref a))) :
    StR K (rhoOut ρ i) (pvI pv i (.ref a)) S H (hidS i σV) σ := by
  have hi := (List.getElem?_eq_some_iff.mp h1).1
  refine ⟨⟨s.w.ex, fun b q h => s.w.wf b q (rhoOut_some h).1, s.w.ft⟩, by simp [hidS, s.len], fun j sv2 o2 g1 g2 => ?_, fun j o2 g1 => ?_⟩
  · unfold hidS at g1
    by_cases z : i = j
    · subst z
      rw [List.getElem?_set_self hi] at g1
      cases g1; cases g2
      exact ⟨_, h3, by unfold Ow Fz; exact ⟨a, rfl⟩⟩
    · rw [List.getElem?_set_ne z] at g1
      obtain ⟨v, v1, v2⟩ := s.slot j sv2 o2 g1 g2
      exact ⟨v, v1, Ow.mono (.refl _) (Kp.slot fun a q h => rhoOut_at h (fun w => z w.symm)) v2⟩
  · unfold hidS at g1
    by_cases z : i = j
    · subst z
      exact ⟨_, by unfold pvI; rw [if_pos rfl], h3⟩
    · rw [List.getElem?_set_ne z] at g1
      obtain ⟨v, v1, v2⟩ := s.pin j o2 g1
      exact ⟨v, by unfold pvI; rw [if_neg (fun w => z w.symm)]; exact v1, v2⟩
theorem unhide {ρ ρ2 : Rho} {pv : Nat → Option V} {S H S2 H2 : Hp} {σV σV2 : VS} {σ σ2 : St} {i : Nat} {sv : SV} {o : O} {a : Addr} (s : StR K ρ pv S H σV σ) (h1 : σV[i]? = some sv) (h2 : sv.get = some o) (h3 : σ[i]? = some (some (.ref a)))
    (g : Grw (rhoOut ρ i) S H ρ2 S2 H2) (s2 : StR K ρ2 (pvI pv i (.ref a)) S2 H2 σV2 σ2) (e : σV2[i]? = some (.rf (.val .hid))) :
    Grw ρ S H (rhoU ρ ρ2 i) S2 H2 ∧ StR K (rhoU ρ ρ2 i) pv S2 H2 (σV2.set i sv) σ2 ∧ (∀ ρt, Tmp (rhoOut ρ i) S H ρ2 S2 H2 ρt → Tmp ρ S H (rhoU ρ ρ2 i) S2 H2 ρt) := by
  have inn : ∀ b q, rhoIn ρ i b = some q → ρ b = some q ∧ S2 b = none ∧ ρ2 b = none ∧ H2 b = H b ∧ ∃ o, H2 b = some o := fun b q h => by
    obtain ⟨r, e1, e2⟩ := rhoIn_some h
    obtain ⟨z1, ob, z2⟩ := s.w.wf b q e2
    have z3 := rhoIn_out h
    have z4 := g.h b ob z2 z3
    exact ⟨e2, g.n b ob z2 z1 z3, g.f b ob z2 z3, z4.trans z2.symm, ob, z4⟩
  have hi2 := (List.getElem?_eq_some_iff.mp e).1
  obtain ⟨v0, v01, v02⟩ := s.slot i sv o h1 h2
  rw [h3] at v01
  cases v01
  have p2 : σ2[i]? = some (some (.ref a)) := by
    obtain ⟨v, e1, e2⟩ := s2.pin i _ e
    unfold pvI at e1
    rw [if_pos rfl] at e1
    cases e1
    exact e2
  have hU : ∀ b, rhoIn ρ i b = none → rhoU ρ ρ2 i b = ρ2 b := fun b h => by unfold rhoU; rw [h]
  have hU1 : ∀ b q, rhoIn ρ i b = some q → rhoU ρ ρ2 i b = some q := fun b q h => by unfold rhoU; rw [h]
  refine ⟨⟨g.s, fun b u hb hr => g.h b u hb (rhoOut_none hr), fun b u hb hs hr => g.n b u hb hs (rhoOut_none hr), fun b u hb hr => ?_⟩, ⟨⟨s2.w.ex, fun b q h => ?_, s2.w.ft⟩, by simp [s2.len], fun j sv2 o2 g1 g2 => ?_, fun j o2 g1 => ?_⟩, fun ρt t => ⟨t.wf, fun b q h => ?_, fun b u hb hr => t.n b u hb (rhoOut_none hr)⟩⟩
  · rw [hU b (rhoIn_none hr)]; exact g.f b u hb (rhoOut_none hr)
  · cases z : rhoIn ρ i b with
    | none => rw [hU b z] at h; exact s2.w.wf b q h
    | some q' =>
      obtain ⟨_, z2, _, _, z5⟩ := inn b q' z
      exact ⟨z2, z5⟩
  · by_cases z : i = j
    · subst z
      rw [List.getElem?_set_self hi2] at g1
      cases g1
      rw [h2] at g2; cases g2
      refine ⟨_, p2, Ow.mono g.s (fun b r hb => ?_) v02⟩
      have q := rhoIn_at hb
      obtain ⟨_, _, _, z4, _⟩ := inn b _ q
      exact ⟨hU1 b _ q, z4⟩
    · rw [List.getElem?_set_ne z] at g1
      obtain ⟨v, v1, v2⟩ := s2.slot j sv2 o2 g1 g2
      refine ⟨v, v1, Ow.mono (.refl _) (Kp.slot fun b q hb => ?_) v2⟩
      cases y : rhoIn ρ i b with
      | none => rw [hU b y]; exact hb
      | some q' =>
        obtain ⟨_, _, z3, _⟩ := inn b q' y
        rw [z3] at hb; cases hb
  · by_cases z : i = j
    · subst z
      rw [List.getElem?_set_self hi2] at g1
      cases g1
      obtain ⟨v, e1, e2⟩ := s.pin i o2 h1
      rw [h3] at e2; cases e2
      exact ⟨_, e1, p2⟩
    · rw [List.getElem?_set_ne z] at g1
      obtain ⟨v, e1, e2⟩ := s2.pin j o2 g1
      unfold pvI at e1
      rw [if_neg (fun w => z w.symm)] at e1
      exact ⟨v, e1, e2⟩
  · cases z : rhoIn ρ i b with
    | none => rw [hU b z]; exact t.d b q h
    | some q' =>
      obtain ⟨r, _, e2⟩ := rhoIn_some z
      obtain ⟨_, ob, z2⟩ := s.w.wf b q' e2
      rw [t.n b ob z2 (rhoIn_out z)] at h
      cases h
/-- what the end of a block asks, the name hidden -/
theorem BPost.hide {ρ : Rho} {pv : Nat → Option V} {S H : Hp} {σV : VS} {σ : St} {i : Nat} {sv : SV} {o : O} {a : Addr} {D : Ends} {r : BR} (s : StR K ρ pv S H σV σ) (h1 : σV[i]? = some sv) (h2 : sv.get = some o) (h3 : σ[i]? = some (some (.ref a)))
    (h : BPost K W ρ pv S H D (unhB false i sv r)) : BPost K W (rhoOut ρ i) (pvI pv i (.ref a)) S H D r := by
  cases r with
  | nx σ1 =>
    intro ρ' S' H' σ' g s'
    unfold unhB at h; dsimp only at h
    cases e : unhS i sv σ1 with
    | bad => rw [e] at h; exact h.elim
    | ok σ3 =>
      rw [e] at h
      obtain ⟨e1, rfl⟩ := unhS_ok e
      obtain ⟨k1, k2, k3⟩ := unhide s h1 h2 h3 g s' e1
      exact h _ S' H' σ' k1 k2
  | bk σ1 =>
    intro ρ' S' H' σ' g s'
    unfold unhB at h; dsimp only at h
    cases e : unhS i sv σ1 with
    | bad => rw [e] at h; exact h.elim
    | ok σ3 =>
      rw [e] at h
      obtain ⟨e1, rfl⟩ := unhS_ok e
      obtain ⟨k1, k2, k3⟩ := unhide s h1 h2 h3 g s' e1
      exact h _ S' H' σ' k1 k2
  | ct σ1 =>
    intro ρ' S' H' σ' g s'
    unfold unhB at h; dsimp only at h
    cases e : unhS i sv σ1 with
    | bad => rw [e] at h; exact h.elim
    | ok σ3 =>
      rw [e] at h
      obtain ⟨e1, rfl⟩ := unhS_ok e
      obtain ⟨k1, k2, k3⟩ := unhide s h1 h2 h3 g s' e1
      exact h _ S' H' σ' k1 k2
  | err c σ1 =>
    intro ρ' S' H' σ' g s'
    unfold unhB at h; dsimp only at h
    rw [if_neg Bool.false_ne_true] at h
    cases e : unhS i sv σ1 with
    | bad => rw [e] at h; exact h.elim
    | ok σ3 =>
      rw [e] at h
      obtain ⟨e1, rfl⟩ := unhS_ok e
      obtain ⟨k1, k2, k3⟩ := unhide s h1 h2 h3 g s' e1
      exact h _ S' H' σ' k1 k2
  | rt ob σ1 =>
    intro ρ' S' H' σ' v ρt g s' t w
    unfold unhB at h; dsimp only at h
    cases e : unhS i sv σ1 with
    | bad => rw [e] at h; exact h.elim
    | ok σ3 =>
      rw [e] at h
      obtain ⟨e1, rfl⟩ := unhS_ok e
      obtain ⟨k1, k2, k3⟩ := unhide s h1 h2 h3 g s' e1
      exact h _ S' H' σ' v ρt k1 k2 (k3 ρt t) w
  | bad => exact h
theorem FPost.hide {ρ : Rho} {pv : Nat → Option V} {S H : Hp} {σV σ0 σ0' : VS} {σ : St} {i : Nat} {sv : SV} {o : O} {a : Addr} {Q : V → Hp → Prop} {r : XR O} (s : StR K ρ pv S H σV σ) (h1 : σV[i]? = some sv) (h2 : sv.get = some o) (h3 : σ[i]? = some (some (.ref a)))
    (h : FPost K W ρ pv S H σ false σ0 Q (unhX i sv r)) : FPost K W (rhoOut ρ i) (pvI pv i (.ref a)) S H σ false σ0' Q r := by
  cases r with
  | ok ob σ1 =>
    intro ρ' S' H' v ρt g s' t w _
    unfold unhX at h; dsimp only at h
    cases e : unhS i sv σ1 with
    | bad => rw [e] at h; exact h.elim
    | ok σ3 =>
      rw [e] at h
      obtain ⟨e1, rfl⟩ := unhS_ok e
      obtain ⟨k1, k2, k3⟩ := unhide s h1 h2 h3 g s' e1
      exact h _ S' H' v ρt k1 k2 (k3 ρt t) w fun z => by cases z
  | err c σ1 =>
    intro ρ' S' H' g s'
    unfold unhX at h; dsimp only at h
    cases e : unhS i sv σ1 with
    | bad => rw [e] at h; exact h.elim
    | ok σ3 =>
      rw [e] at h
      obtain ⟨e1, rfl⟩ := unhS_ok e
      obtain ⟨k1, k2, k3⟩ := unhide s h1 h2 h3 g s' e1
      exact h _ S' H' k1 k2
  | bad => exact h

/-! ### the turns of a loop -/
theorem for_core {J : It} {G : Hp → Prop} {Y : Nat → Hp → V → Hp → Prop} {ds : List VL.D} {ts : TS} {tg : TG} {g : VL.D → VS → QR VS} {tl : List Nat} {b : VB} {ρ : Rho} {pv : Nat → Option V} {S H : Hp} {σV : VS} {σ : St} {D : Ends} (hg : SimG K tg tl g) (hb : SimS K W ts b) (s : StR K ρ pv S H σV σ)
    (wk : Walk J ds.length G Y) (hG : ∀ ρ2 S2 H2, Grw ρ S H ρ2 S2 H2 → Ex S2 H2 → G H2)
    (hY : ∀ ρ2 S2 H2 i x H3, i < ds.length → Grw ρ S H ρ2 S2 H2 → Ex S2 H2 → Y i H2 x H3 → ∃ S3 d, Quiet S2 H2 S3 H3 ∧ Ex S3 H3 ∧ ds[i]? = some d ∧ Fz K S3 d x)
    (h : BPost K W ρ pv S H D (forL g b ds σV)) :
    ∃ W : Nat → Nat → St → Hp → Prop, (∃ m, W 0 m σ H) ∧ ∀ i m σ H, W i m σ H →
      (J.stop i H ∧ D.nx σ H) ∨ (J.go i H ∧ ∃ N : St → Hp → Prop, (∀ σ' H', N σ' H' → ∃ m', m' < m ∧ W (i + 1) m' σ' H') ∧ ∀ x H', J.yld i H x H' → tg x σ H' fun σ2 H2 => ts { D with nx := N, ct := N, bk := D.nx } σ2 H2) := by
  refine for_it wk (fun i σ2 H2 => ∃ ρ2 S2 σV2, Grw ρ S H ρ2 S2 H2 ∧ StR K ρ2 pv S2 H2 σV2 σ2 ∧ BPost K W ρ pv S H D (forL g b (ds.drop i) σV2)) ⟨ρ, S, σV, .refl, s, h⟩ ?_ ?_ ?_
  · rintro i σ2 H2 _ ⟨ρ2, S2, σV2, g2, s2, _⟩
    exact hG ρ2 S2 H2 g2 s2.w.ex
  · rintro i x σ2 H2 H3 hlt ⟨ρ2, S2, σV2, g2, s2, p2⟩ y
    obtain ⟨S3, d, q3, ex3, hd, w3⟩ := hY ρ2 S2 H2 i x H3 hlt g2 s2.w.ex y
    have s3 := s2.quiet q3 ex3
    rw [drop_at hd] at p2
    refine hg ρ2 pv S3 H3 σV2 σ2 d x _ s3 w3 ?_
    have p3 : BPost K W ρ pv S H D (match g d σV2 with
      | .ok σ1 => (match b σ1 with
        | .nx σ2 => forL g b (ds.drop (i + 1)) σ2
        | .ct σ2 => forL g b (ds.drop (i + 1)) σ2
        | .bk σ2 => .nx σ2
        | r => r)
      | .bad => .bad) := p2
    cases eg : g d σV2 with
    | bad => rw [eg] at p3; exact p3
    | ok σ4 =>
      rw [eg] at p3
      intro σ4' s4 _
      have g3 : Grw ρ S H ρ2 S3 H3 := g2.trans q3.grw
      refine hb ρ2 pv S3 H3 σ4 σ4' _ s4 ?_
      have p4 : BPost K W ρ2 pv S3 H3 D (match b σ4 with
        | .nx σ2 => forL g b (ds.drop (i + 1)) σ2
        | .ct σ2 => forL g b (ds.drop (i + 1)) σ2
        | .bk σ2 => .nx σ2
        | r => r) := BPost.at g3 p3
      have p5 : BPost K W ρ pv S H D (match b σ4 with
        | .nx σ2 => forL g b (ds.drop (i + 1)) σ2
        | .ct σ2 => forL g b (ds.drop (i + 1)) σ2
        | .bk σ2 => .nx σ2
        | r => r) := p3
      cases eb : b σ4 with
      | nx σ5 => rw [eb] at p5; exact fun ρ5 S5 H5 σ5' g5 s5 => ⟨ρ5, S5, σ5, g3.trans g5, s5, p5⟩
      | ct σ5 => rw [eb] at p5; exact fun ρ5 S5 H5 σ5' g5 s5 => ⟨ρ5, S5, σ5, g3.trans g5, s5, p5⟩
      | bk σ5 => rw [eb] at p4; exact p4
      | rt o σ5 => rw [eb] at p4; exact p4
      | err c' σ5 => rw [eb] at p4; exact p4
      | bad => rw [eb] at p4; exact p4
  · rintro σ2 H2 ⟨ρ2, S2, σV2, g2, s2, p2⟩
    rw [List.drop_length] at p2
    exact p2 ρ2 S2 H2 σ2 g2 s2
def lstL : O → Option (List D)
  | .ol ds => some ds
  | _ => none
/-- a walk over what the name in slot i owns -/
def sForH (L : O → Option (List D)) (lock : Bool) (i : Nat) (fb : VB) (g : D → VS → QR VS) (b : VB) : VB := fun σ => match σ[i]? with
  | some sv => (match sv.get.bind L with
    | some ds => unhB lock i sv (forL g b ds (hidS i σ))
    | none => fb σ)
  | none => .bad
theorem sim_forO {i : Nat} {tg : TG} {g : D → VS → QR VS} {tl : List Nat} {ts : TS} {b : VB} (hg : SimG K tg tl g) (hb : SimS K W ts b) : SimS K W (tFor (iSeq K (tVar i)) tg ts) (sForH lstL false i (sFor (ixSeq (vVar i)) g b) g b) := fun ρ pv S H σV σ D s h => by
  unfold sForH at h
  cases e : σV[i]? with
  | none => rw [e] at h; exact h.elim
  | some sv =>
    rw [e] at h; dsimp only at h
    cases e2 : sv.get.bind lstL with
    | none => rw [e2] at h; exact sim_for (sim_iSeq sim_var) hg hb ρ pv S H σV σ D s h
    | some ds =>
      rw [e2] at h; dsimp only at h
      obtain ⟨o, e3, e4⟩ := Option.bind_eq_some_iff.mp e2
      cases o with
      | ol ds' =>
        cases e4
        obtain ⟨v, v1, v2⟩ := s.slot i sv _ e e3
        have v2' := v2
        unfold Ow at v2
        obtain ⟨a, vs, rfl, r1, h1, f⟩ := v2
        have s' := s.hide e e3 v1
        have ra : rhoOut ρ i a = none := rhoIn_out (rhoIn_at r1)
        refine ⟨_, v1, a, rfl, .inl ⟨⟨vs, SqL.of h1⟩, ?_⟩⟩
        refine for_core hg hb s' (f.len ▸ walk_list (xs := vs)) (fun ρ2 S2 H2 g2 _ => SqL.of (g2.h a _ h1 ra)) (fun ρ2 S2 H2 k x H3 hk g2 ex y => ?_) (h.hide s e e3 v1)
        obtain ⟨rfl, hx⟩ := y
        obtain ⟨d, hd, q⟩ := f.getV hx
        exact ⟨S2, d, .refl, ex, hd, q.mono g2.s⟩
      | _ => cases e4
/-! ### a comprehension's turns -/
theorem lcF_core {J : It} {G : Hp → Prop} {Y : Nat → Hp → V → Hp → Prop} {ds : List VL.D} {tg : TG} {g : VL.D → VS → QR VS} {ttx : TX} {tt : TT} {te : TE} {x : VX} {vs ts : List Nat} {ρ : Rho} {pv : Nat → Option V} {S H : Hp} {σ1 σ0 : VS} {σ : St} {Q : V → Hp → Prop} (hg : SimG K tg ts g) (hts : ∀ i ∈ ts, i ∈ vs) (ht : SimT K WN tt ttx) (hx : SimX K WN te x)
    (s1 : StR K ρ pv S H σ1 σ) (wk : Walk J ds.length G Y) (hG : ∀ ρ2 S2 H2, Grw ρ S H ρ2 S2 H2 → Ex S2 H2 → G H2)
    (hY : ∀ ρ2 S2 H2 i x H3, i < ds.length → Grw ρ S H ρ2 S2 H2 → Ex S2 H2 → Y i H2 x H3 → ∃ S3 d, Quiet S2 H2 S3 H3 ∧ Ex S3 H3 ∧ ds[i]? = some d ∧ Fz K S3 d x)
    (h' : FPost K W ρ pv S H σ false σ0 Q (match lcL vs g ttx x ds σ1 [] with
      | .ok acc σ2 => .ok (.ol acc) σ2
      | .err c σ2 => .err c σ2
      | .bad => .bad)) (D : Addr) (hD : H D = none) :
    ∃ W : Nat → Nat → Hp → Prop, (∃ m, W 0 m (upd H D (.lst []))) ∧ ∀ i m H, W i m H →
      (J.stop i H ∧ Q (.ref D) H) ∨ (J.go i H ∧ ∃ Nx : Hp → Prop, (∀ H', Nx H' → ∃ m', m' < m ∧ W (i + 1) m' H') ∧ ∀ y H', J.yld i H y H' → tg y (wipe σ vs) H' fun σ2 H2 => wipe σ2 vs = wipe σ vs ∧ tt σ2 H2 fun b H3 =>
        if b = true then te σ2 H3 fun y H4 => ∃ acc, H4 D = some (.lst acc) ∧ acc.length < sizeLine ∧ Nx (upd H4 D (.lst (acc ++ [y]))) else Nx H3) := by
  have hS1 : S D = none := s1.w.ex.back hD
  have hr1 : ρ D = none := by
    cases q : ρ D with
    | none => rfl
    | some r => obtain ⟨_, o, ho⟩ := s1.w.wf D r q; rw [hD] at ho; cases ho
  have hH : ∀ u, H D = some u → ρ D ≠ none := fun u hu hr => by rw [hu] at hD; cases hD
  -- what the rest is to give
  let Rest : List VL.D → VS → List VL.D → Prop := fun l σ2 acc => FPost K W ρ pv S H σ false σ0 Q (match lcL vs g ttx x l σ2 acc with
    | .ok acc σ2 => .ok (.ol acc) σ2
    | .err c σ2 => .err c σ2
    | .bad => .bad)
  refine lc_it wk (fun i Hc => ∃ ρ2 S2 σV2 acc vacc, Grw ρ S H ρ2 S2 Hc ∧ StR K ρ2 pv S2 Hc σV2 σ ∧ Hc D = some (.lst vacc) ∧ S2 D = none ∧ ρ2 D = none ∧ FzL K S2 acc vacc ∧ Rest (ds.drop i) σV2 acc)
    ⟨ρ, S, σ1, [], [], Grw.refl.updOut hH, s1.updOut hr1 hS1, upd_same, hS1, hr1, .nil, h'⟩ ?_ ?_ ?_
  · rintro i Hc _ ⟨ρ2, S2, σV2, acc, vacc, g2, s2, _⟩
    exact hG ρ2 S2 Hc g2 s2.w.ex
  · rintro i v Hc H3 hlt ⟨ρ2, S2, σV2, acc, vacc, g2, s2, d2, n2, r2, f2, p2⟩ y
    obtain ⟨S3, d, q3, ex3, hd, w3⟩ := hY ρ2 S2 Hc i v H3 hlt g2 s2.w.ex y
    have s3 := s2.quiet q3 ex3
    have p2' : FPost K W ρ pv S H σ false σ0 Q (match lcL vs g ttx x (ds.drop i) σV2 acc with
      | .ok acc σ2 => .ok (.ol acc) σ2
      | .err c σ2 => .err c σ2
      | .bad => .bad) := p2
    rw [drop_at hd] at p2'
    unfold lcL at p2'
    cases ea : putAway vs σV2 with
    | bad => rw [ea] at p2'; exact p2'.elim
    | ok σ3 =>
      rw [ea] at p2'; dsimp only at p2'
      refine hg ρ2 pv S3 H3 σ3 (wipe σ vs) d v _ (s3.away ea) w3 ?_
      cases eg : g d σ3 with
      | bad => rw [eg] at p2'; exact p2'.elim
      | ok σ4 =>
        rw [eg] at p2'; dsimp only at p2'
        intro σ4' s4 on4
        refine ⟨wipe_eq on4 hts, ht ρ2 pv S3 H3 σ4 σ4' _ s4 ?_⟩
        have g3 : Grw ρ S H ρ2 S3 H3 := g2.trans q3.grw
        cases et : ttx.f σ4 with
        | bad => rw [et] at p2'; exact p2'.elim
        | err c σ5 =>
          rw [et] at p2'; exact p2'.elim
        | ok k σ5 =>
          rw [et] at p2'; dsimp only at p2'
          intro ρ5 S5 H5 g5 s5 _
          have d3 := q3.h D _ d2
          have n3 := q3.n D _ d2 n2
          have d5 := g5.h D _ d3 r2
          have n5 := g5.n D _ d3 n3 r2
          have r5 := g5.f D _ d3 r2
          cases k with
          | false =>
            simp only [Bool.false_eq_true, if_false] at p2' ⊢
            exact ⟨ρ5, S5, _, acc, vacc, g3.trans g5, s2.back ea (q3.s.trans g5.s) s5 on4 hts, d5, n5, r5, f2.mono (q3.s.trans g5.s), p2'⟩
          | true =>
            simp only [if_true] at p2' ⊢
            refine hx ρ5 pv S5 H5 σ5 σ4' _ s5 ?_
            cases ex : x.f σ5 with
            | bad => rw [ex] at p2'; exact p2'.elim
            | err c σ6 =>
              rw [ex] at p2'; exact p2'.elim
            | ok o σ6 =>
              rw [ex] at p2'
              cases o with
              | val ev =>
                dsimp only at p2'
                intro ρ6 S6 H6 yv p6 g6 s6 w6 _
                have d6 := g6.h D _ d5 r5
                have n6 := g6.n D _ d5 n5 r5
                have r6 := g6.f D _ d5 r5
                unfold Ow at w6
                have e36 : Ex S2 S6 := (q3.s.trans g5.s).trans g6.s
                by_cases hc : acc.length < sizeLine
                · rw [if_pos hc] at p2'
                  refine ⟨vacc, d6, by rw [← f2.len]; exact hc, ρ6, S6, _, acc ++ [ev], vacc ++ [yv], ((g3.trans g5).trans g6).updOut hH, (s2.back ea e36 s6 on4 hts).updOut r6 n6, upd_same, n6, r6, (f2.mono e36).app (.one w6), p2'⟩
                · rw [if_neg hc] at p2'; exact p2'.elim
              | _ => exact p2'.elim
  · rintro Hc ⟨ρ2, S2, σV2, acc, vacc, g2, s2, d2, n2, r2, f2, p2⟩
    have p2' : FPost K W ρ pv S H σ false σ0 Q (match lcL vs g ttx x (ds.drop ds.length) σV2 acc with
      | .ok acc σ2 => .ok (.ol acc) σ2
      | .err c σ2 => .err c σ2
      | .bad => .bad) := p2
    rw [List.drop_length] at p2'
    have n0 : ∀ a o, H a = some o → ρ a = none → a ≠ D := fun a o h r z => hH o (z ▸ h) (z ▸ r)
    refine p2' ρ2 S2 Hc (.ref D) (rhoNew D) g2 s2 ⟨fun a q h => ?_, fun a q h => ?_, fun a o h r => ?_⟩ ?_ fun z => by cases z
    · unfold rhoNew at h
      by_cases z : a = D
      · subst z; exact ⟨n2, _, d2⟩
      · rw [if_neg z] at h; cases h
    · unfold rhoNew at h
      by_cases z : a = D
      · subst z; exact r2
      · rw [if_neg z] at h; cases h
    · unfold rhoNew; rw [if_neg (n0 a o h r)]
    · unfold Ow
      exact ⟨D, vacc, rfl, rhoNew_at, d2, f2⟩

def vLcFH (L : O → Option (List D)) (i : Nat) (fb : VX) (vs : List Nat) (g : D → VS → QR VS) (tt : TX) (x : VX) : VX := ⟨false, fun σ => match σ[i]? with
  | some sv => (match sv.get.bind L with
    | some ds => unhX i sv (match lcL vs g tt x ds (hidS i σ) [] with
      | .ok acc σ2 => .ok (.ol acc) σ2
      | .err c σ2 => .err c σ2
      | .bad => .bad)
    | none => fb.f σ)
  | none => .bad⟩
theorem FPost.weak {ρ : Rho} {pv : Nat → Option V} {S H : Hp} {σ : St} {σ0 σ0' : VS} {Q : V → Hp → Prop} {r : XR O} (h : FPost K W ρ pv S H σ false σ0 Q r) (q : Bool) : FPost K W ρ pv S H σ q σ0' Q r := by
  cases r with
  | ok o σ1 => exact fun ρ' S' H' v ρt g s' t w _ => h ρ' S' H' v ρt g s' t w fun z => by cases z
  | err c σ1 => exact h
  | bad => exact h
theorem sim_lcFO {i : Nat} {tg : TG} {g : VL.D → VS → QR VS} {ttx : TX} {tt : TT} {te : TE} {x : VX} {vs ts : List Nat} (hg : SimG K tg ts g) (hts : ∀ i ∈ ts, i ∈ vs) (ht : SimT K WN tt ttx) (hx : SimX K WN te x) :
    SimF K W (tLc (iSeq K (tVar i)) tg tt te vs) (vLcFH lstL i (vLcF (ixSeq (vVar i)) vs g ttx x) vs g ttx x) := fun ρ pv S H σV σ Q s h => by
  have h : FPost K W ρ pv S H σ false σV Q ((vLcFH lstL i (vLcF (ixSeq (vVar i)) vs g ttx x) vs g ttx x).f σV) := h
  unfold vLcFH at h; dsimp only at h
  cases e : σV[i]? with
  | none => rw [e] at h; exact h.elim
  | some sv =>
    rw [e] at h; dsimp only at h
    cases e2 : sv.get.bind lstL with
    | none => rw [e2] at h; exact sim_lcF (sim_iSeq sim_var) hg hts ht hx ρ pv S H σV σ Q s (h.weak _)
    | some ds =>
      rw [e2] at h; dsimp only at h
      obtain ⟨o, e3, e4⟩ := Option.bind_eq_some_iff.mp e2
      cases o with
      | ol ds' =>
        cases e4
        obtain ⟨v, v1, v2⟩ := s.slot i sv _ e e3
        unfold Ow at v2
        obtain ⟨a, vs', rfl, r1, h1, f⟩ := v2
        have s' := s.hide e e3 v1
        have ra : rhoOut ρ i a = none := rhoIn_out (rhoIn_at r1)
        refine ⟨_, v1, a, rfl, .inl ⟨⟨vs', SqL.of h1⟩, fun D hD => ?_⟩⟩
        refine lcF_core hg hts ht hx s' (f.len ▸ walk_list (xs := vs')) (fun ρ2 S2 H2 g2 _ => SqL.of (g2.h a _ h1 ra)) (fun ρ2 S2 H2 k x H3 hk g2 ex y => ?_) (h.hide (σ0' := σV) s e e3 v1) D hD
        obtain ⟨rfl, hx⟩ := y
        obtain ⟨d, hd, q⟩ := f.getV hx
        exact ⟨S2, d, .refl, ex, hd, q.mono g2.s⟩
      | _ => cases e4
end
end VL
set_option maxRecDepth 100000
set_option maxHeartbeats 4000000
/-! V30: sorted(d) of a dict with tuples of numbers as keys; min, max of a tuple -/
namespace VL
open PySem PySem.Spec PyProof.Rows L2
def rSortedDT (K : PySem.W.Frag) : List V → Hp → VK → Prop := fun xs H Q => ∃ (a : Addr) (kvs : List (List Key × V)) (ns : List (List Int)), xs = [V.ref a] ∧ Rd H a (.dT kvs) ∧ kvs.map (·.1) = ns.map (fun l => l.map Sum.inl) ∧
  ∀ (bs : List Addr) (ys : List V) (p : Addr), bs.length = ns.length → (∀ (i : Nat) (b : Addr) (l : List Int), bs[i]? = some b → ns[i]? = some l → H b = some (.tup (l.map V.int))) →
    SrtO.Srtd (fun x y => HT.lexLt (kOfT H x) (kOfT H y)) ys → SrtO.Stb (fun x y => HT.lexLt (kOfT H x) (kOfT H y)) ys (bs.map V.ref) → H p = none → Q (.ref p) (upd H p (.lst ys))
theorem kV_inl (l : List Int) : (l.map (Sum.inl : Int → Key)).map kV = l.map V.int := by
  rw [List.map_map]
  rfl
theorem isKeys_at {H : Hp} : ∀ {kvs : List (List Key × V)} {bs : List Addr}, IsKeys H kvs bs → bs.length = kvs.length ∧ ∀ (i : Nat) (b : Addr) (p : List Key × V), bs[i]? = some b → kvs[i]? = some p → H b = some (.tup (p.1.map kV)) := by
  intro kvs bs h
  unfold IsKeys at h
  induction h with
  | nil => exact ⟨rfl, fun i b p h => by simp at h⟩
  | cons h t ih =>
    obtain ⟨l, k⟩ := ih
    refine ⟨by simp [l], fun i b p h1 h2 => ?_⟩
    cases i with
    | zero => simp at h1 h2; subst h1; subst h2; exact h
    | succ i => simp at h1 h2; exact k i b p h1 h2
theorem kOfT_ref {H : Hp} {b : Addr} {l : List Int} (h : H b = some (.tup (l.map V.int))) : kOfT H (.ref b) = l := by
  unfold kOfT
  dsimp only
  rw [h]
  exact int_fm l
section
variable {X : Cx}
theorem cr_sortedDT (hcalm : X.calm = true) (hu : X.A.units + 65 < cLine) : CallR X (.builtin "sorted") (rSortedDT X.K) := by
  intro pins s σ H xs us Q I r q
  obtain ⟨a, kvs, ns, rfl, hd, hks, q⟩ := q
  obtain ⟨u, rfl, rx⟩ := r.one
  cases rx
  obtain ⟨z, hs, ks, pr, o, es, ep, ho, hx, hdt, he, hn⟩ := (show ObjOk X.prog X.w H s.heap a (.dT kvs) from hd.ok I.hok)
  have l1 : es.size = ks.length := size_of_entries he
  have l2 : kvs.length = ks.length := Paired.length pr
  have h16 : es.size ≤ sizeLine := by omega
  refine Calls.call_function_entry PyProof.Rows.kind_sorted PyProof.Rows.plain_sorted PyProof.Rows.entry_sorted (PyProof.Rows.args_sorted1 _) ?_
  unfold Builtin.«sorted»
  refine wpAny_bind (m := checkCount "sorted" 1 1 _) (wpAny_pure ?_)
  refine wpAny_bind (PySem.W.kdu_collect (A := X.A.in1) (kdl_raw hs hx hdt) (I.ok.hd hcalm) ho h16 fun h' tk acc hk hacc => ?_)
  have hal : acc.toList.length = ks.length := by rw [Array.length_toList, hacc.1, l1]
  have ea : acc.toList = ks.map fun x => Value.ref x.2.1 := by
    apply List.ext_getElem?
    intro j
    rw [List.getElem?_map]
    cases hj : acc.toList[j]? with
    | none =>
      have h1 := List.getElem?_eq_none_iff.mp hj
      rw [List.getElem?_eq_none (by omega)]
      all_goals rfl
    | some v =>
      obtain ⟨en, hen, hv⟩ := hacc.2 j v (by rw [← Array.getElem?_toList]; exact hj)
      have qe := entry_at he j
      rw [hen] at qe
      cases hb : ks[j]? with
      | none =>
        rw [hb] at qe
        exact nomatch (show some en = none from qe)
      | some b =>
        rw [hb] at qe
        have e2 : en = entryOfKey (tupleKind (mixKind X.prog X.w)) b := Option.some.inj qe
        rw [hv, e2]
        all_goals rfl
  have eb : acc.toList = (ks.map fun x => x.2.1).map Value.ref := by rw [ea, List.map_map]; all_goals rfl
  have ik := isKeys_of pr
  generalize ks.map (fun x => x.2.1) = bs at eb ik
  obtain ⟨lb, ib⟩ := isKeys_at ik
  have ln : kvs.length = ns.length := by have := congrArg List.length hks; simpa using this
  have at1 : ∀ (i : Nat) (b : Addr) (l : List Int), bs[i]? = some b → ns[i]? = some l → H b = some (.tup (l.map V.int)) := fun i b l h1 h2 => by
    have hi : i < kvs.length := by have := (List.getElem?_eq_some_iff.mp h1).1; omega
    have h3 := ib i b kvs[i] h1 (List.getElem?_eq_getElem hi)
    have h4 : (kvs.map (·.1))[i]? = some kvs[i].1 := by rw [List.getElem?_map, List.getElem?_eq_getElem hi]; rfl
    rw [hks, List.getElem?_map, h2] at h4
    have h5 : l.map Sum.inl = kvs[i].1 := Option.some.inj h4
    rw [h3, ← h5, kV_inl]
  have I1 : Inv X pins σ H { s with heap := h', toks := tk } := I.kept hk
  refine wpAny_bind (wpAny_newList ?_ (by rw [hal]; omega))
  have hoL : (h'.push (seqObj "list" acc.toList.toArray 0)).get? h'.objs.size = some (seqObj "list" acc.toList.toArray 0) := Heap.get?_push_size _ rfl
  show wpAny _ _ _ _ _ { s with heap := h'.push (seqObj "list" acc.toList.toArray 0), toks := tk }
  have isit : ∀ v ∈ acc.toList, SrtT.IsIt h' v (kOfT H (backV v)) := fun v hv => by
    rw [eb] at hv
    obtain ⟨b, hb, rfl⟩ := List.mem_map.mp hv
    obtain ⟨i, hi, rfl⟩ := List.getElem_of_mem hb
    have hin : i < ns.length := by omega
    have h1 := at1 i bs[i] ns[i] (List.getElem?_eq_getElem hi) (List.getElem?_eq_getElem hin)
    obtain ⟨_, its2, r2, o2, ho2, hc2, n2, hd2⟩ := I1.hok _ _ h1
    have e3 : kOfT H (backV (Value.ref bs[i])) = ns[i] := kOfT_ref h1
    rw [e3]
    exact ⟨bs[i], its2.toArray, rfl, ⟨o2, ho2, hc2, n2, hd2⟩, Vals.ints r2⟩
  have sz : acc.toList.length ≤ sizeLine := by rw [hal]; omega
  refine wpAny_bind (wpAny_holding (wpAny_call_entry PyProof.Rows.slot_list_sort ⟨_, hoL, rfl⟩ PyProof.Rows.entry_list_sort
    (SrtO.list_sort_ord (s := { s with heap := h'.push (seqObj "list" acc.toList.toArray 0), toks := tk }) (NtL.swo_lexL fun v => kOfT H (backV v)) hoL sz (fun h2 => ?_) fun out hs1 hb1 => ⟨_, rfl, ?_⟩)
    (PyProof.Rows.args_list_sort _)))
  · refine SrtT.tups_sortable (by show X.A.units + 1 + 1 < cLine; omega) h2 (fun v hv => (isit v hv).keeps fun b ob e _ => Heap.get?_push_of_some _ e) fun ob e => ?_
    have e' : some ob = some (seqObj "list" acc.toList.toArray 0) := e.symm.trans hoL
    cases e'
    intro c
    exact absurd (Value.type.inj c) (by decide)
  · obtain ⟨e', he'⟩ := PyProof.Rows.sortedHeap_at (vs := acc.toList) (out := out.toArray) hoL
    have hrefs : ∀ u ∈ out, ∃ b, u = Value.ref b := fun u hu => by
      have hu := hb1.perm.mem_iff.mp hu
      rw [eb] at hu
      obtain ⟨b, _, rfl⟩ := List.mem_map.mp hu
      exact ⟨b, rfl⟩
    have O : SrtO.Swo (fun x y : V => HT.lexLt (kOfT H x) (kOfT H y)) := NtL.swo_lexL (kOfT H)
    have hb2 : SrtO.Stb (fun x y => HT.lexLt (kOfT H x) (kOfT H y)) (out.map backV) (bs.map V.ref) := by
      have := SrtO.Stb.map O backV hb1
      rw [eb, List.map_map] at this
      exact this
    have hlen : (out.map backV).length ≤ sizeLine := by rw [List.length_map, hb1.perm.length_eq]; exact sz
    refine wpAny_pure ⟨_, rfl, .ref h'.objs.size, upd H h'.objs.size (.lst (out.map backV)), I1.laid (t' := tk) (fun b u e => ?_) (Nat.le_refl _)
      (show ObjOk X.prog X.w _ _ _ (.lst (out.map backV)) from ⟨hlen, out, e', vals_back hrefs, he'⟩), rfl, q bs _ _ (by omega) at1 (SrtO.srtd_map hs1) hb2 (I1.hok.fresh (Nat.le_refl _))⟩
    have hb : b < h'.objs.size := Heap.lt_size e
    rw [PyProof.Rows.sortedHeap_old (Nat.ne_of_lt hb) (by rw [size_push']; exact Nat.lt_succ_of_lt hb)]
    exact Heap.get?_push_of_some _ e
end
end VL
namespace VL
open PySem PySem.Spec PyProof.Rows L2
/-! ### min, max of a tuple of numbers -/
section
variable {prog : Program} {w : World} {A : Around} {E : Value → Shared → Prop} {s : Shared} {l : Addr} {xs : Array (Int × Tok)}
theorem old_keptT {h' : Heap} (hk : ∀ b o, b ∉ [s.heap.objs.size] → (s.heap.push { cls := .type "tuple_iterator", data := .fields #[.ref l, .int 0 0] }).get? b = some o → h'.get? b = some o) :
    ∀ b o, s.heap.get? b = some o → h'.get? b = some o := fun b o e => by
  refine hk b o (fun hm => ?_) (Heap.get?_push_of_some _ e)
  rcases List.mem_cons.mp hm with e1 | hm
  · exact absurd (e1 ▸ Heap.lt_size e) (Nat.lt_irrefl _)
  · cases hm
theorem iter_intTup {Q : Value → Shared → Prop} (hl : s.heap.IsTuple l (intItems xs))
    (h : ∀ s₂ : Shared, s₂ = { s with heap := s.heap.push { cls := .type "tuple_iterator", data := .fields #[.ref l, .int 0 0] } } →
      (s₂.heap.IsTupleIter s.heap.objs.size l 0 ∧ s₂.heap.IsTuple l (intItems xs)) → (∀ b ∈ [s.heap.objs.size, l], b < s₂.heap.objs.size) → l ≠ s.heap.objs.size → Q (.ref s.heap.objs.size) s₂) :
    wpAny (model prog w) A (pyIter (.ref l)) Q E s := by
  have hlt : l < s.heap.objs.size := by obtain ⟨_, e, _⟩ := hl; exact Heap.lt_size e
  refine wpAny_pyIter_tuple hl (h _ rfl ⟨⟨_, Heap.get?_push_size _ rfl, rfl, rfl⟩, hl.push _⟩ (fun b hb => ?_) (Nat.ne_of_lt hlt))
  show b < (s.heap.push _).objs.size
  rw [Heap.size_push]
  rcases List.mem_cons.mp hb with rfl | hb
  · exact Nat.lt_succ_self _
  · rcases List.mem_cons.mp hb with rfl | hb
    · exact Nat.lt_succ_of_lt hlt
    · cases hb
theorem max_intTup {Q : Value → Shared → Prop} (hh : A.handled = none) (hl : s.heap.IsTuple l (intItems xs)) (hne : 0 < xs.size)
    (h : ∀ v h' tk, (intItems xs)[argBest (fun i j => decide (numAt xs i > numAt xs j)) (xs.size - 1)]? = some v → (∀ b o, s.heap.get? b = some o → h'.get? b = some o) → Q v { s with heap := h', toks := tk }) :
    wpAny (model prog w) A (call (.builtin "max") [.ref l]) Q E s := by
  refine call_max_walk (iter_intTup hl fun s₂ e st hfp hlI => ?_)
  subst e
  refine ⟨_, _, _, _, _, _, _, rfl, Walks.tuple (A := A.in1) hh _ l hlI (intItems xs), st, hfp, by simpa [intItems] using hne, CmpOf.ints_gt (numAt xs) (fun _ _ => intItems_at), fun v h' tk hP hk => ?_⟩
  exact h v h' tk (by simpa [intItems] using hP) (old_keptT hk)
theorem min_intTup {Q : Value → Shared → Prop} (hh : A.handled = none) (hl : s.heap.IsTuple l (intItems xs)) (hne : 0 < xs.size)
    (h : ∀ v h' tk, (intItems xs)[argBest (fun i j => decide (numAt xs i < numAt xs j)) (xs.size - 1)]? = some v → (∀ b o, s.heap.get? b = some o → h'.get? b = some o) → Q v { s with heap := h', toks := tk }) :
    wpAny (model prog w) A (call (.builtin "min") [.ref l]) Q E s := by
  refine call_min_walk (iter_intTup hl fun s₂ e st hfp hlI => ?_)
  subst e
  refine ⟨_, _, _, _, _, _, _, rfl, Walks.tuple (A := A.in1) hh _ l hlI (intItems xs), st, hfp, by simpa [intItems] using hne, CmpOf.ints_lt (numAt xs) (fun _ _ => intItems_at), fun v h' tk hP hk => ?_⟩
  exact h v h' tk (by simpa [intItems] using hP) (old_keptT hk)
end
section
variable {prog : Program} {w : World} {A : Around} {E : Value → Shared → Prop} {s : Shared} {l : Addr} {its : List Value} {ns : List Int} {Q : Value → Shared → Prop}
theorem max_rawT (hh : A.handled = none) (hl : s.heap.IsTuple l its.toArray) (hi : IntsAre its ns) (hne : 0 < ns.length)
    (h : ∀ h' tk M t', (∀ b o, s.heap.get? b = some o → h'.get? b = some o) → M ∈ ns → (∀ a, a ∈ ns → a ≤ M) → Q (.int M t') { s with heap := h', toks := tk }) : wpAny (model prog w) A (call (.builtin "max") [.ref l]) Q E s := by
  obtain ⟨xs, e⟩ := hi.allInts.items
  have hn : numsOf (intItems xs).toList = ns := by rw [← e]; exact hi.numsOf
  rw [nums_intItems] at hn
  subst hn
  rw [e] at hl
  have hsz : 0 < xs.size := by simpa using hne
  refine max_intTup hh hl hsz fun v h' tk hv hk => ?_
  obtain ⟨t, rfl⟩ := intItems_at hv
  obtain ⟨h1, h2⟩ := argBest_gt (numAt xs) (xs.size - 1)
  refine h h' tk _ t hk ?_ fun a ha => ?_
  · rw [numAt_eq]; exact PySem.getD_mem (by rw [List.length_map, Array.length_toList]; omega)
  · obtain ⟨j, hj, rfl⟩ := mem_getD ha
    rw [List.length_map, Array.length_toList] at hj
    rw [← numAt_eq]; exact h2 j (by omega)
theorem min_rawT (hh : A.handled = none) (hl : s.heap.IsTuple l its.toArray) (hi : IntsAre its ns) (hne : 0 < ns.length)
    (h : ∀ h' tk M t', (∀ b o, s.heap.get? b = some o → h'.get? b = some o) → M ∈ ns → (∀ a, a ∈ ns → M ≤ a) → Q (.int M t') { s with heap := h', toks := tk }) : wpAny (model prog w) A (call (.builtin "min") [.ref l]) Q E s := by
  obtain ⟨xs, e⟩ := hi.allInts.items
  have hn : numsOf (intItems xs).toList = ns := by rw [← e]; exact hi.numsOf
  rw [nums_intItems] at hn
  subst hn
  rw [e] at hl
  have hsz : 0 < xs.size := by simpa using hne
  refine min_intTup hh hl hsz fun v h' tk hv hk => ?_
  obtain ⟨t, rfl⟩ := intItems_at hv
  obtain ⟨h1, h2⟩ := argBest_lt (numAt xs) (xs.size - 1)
  refine h h' tk _ t hk ?_ fun a ha => ?_
  · rw [numAt_eq]; exact PySem.getD_mem (by rw [List.length_map, Array.length_toList]; omega)
  · obtain ⟨j, hj, rfl⟩ := mem_getD ha
    rw [List.length_map, Array.length_toList] at hj
    rw [← numAt_eq]; exact h2 j (by omega)
end
def rMaxT (K : PySem.W.Frag) : List V → Hp → VK → Prop := fun vs H Q => ∃ (a : Addr) (ns : List Int), vs = [V.ref a] ∧ SqT K H a (ns.map V.int) ∧ 0 < ns.length ∧ ∀ m, m ∈ ns → (∀ y, y ∈ ns → y ≤ m) → Q (.int m) H
def rMinT (K : PySem.W.Frag) : List V → Hp → VK → Prop := fun vs H Q => ∃ (a : Addr) (ns : List Int), vs = [V.ref a] ∧ SqT K H a (ns.map V.int) ∧ 0 < ns.length ∧ ∀ m, m ∈ ns → (∀ y, y ∈ ns → m ≤ y) → Q (.int m) H
section
variable {X : Cx} {K : Frag}
theorem cr_maxT (hc : X.calm = true) : CallR X (.builtin "max") (rMaxT X.K) := by
  intro pins s σ H vs us Q I r h
  obtain ⟨a, ns, rfl, hs, hne, q⟩ := h
  obtain ⟨its, rv, hl, _⟩ := I.tuple hs
  rw [Vals.ref1 r]
  exact max_rawT (I.ok.hd hc) (show s.heap.IsTuple a its.toArray from hl) rv.ints hne fun h' tk m t' hk h1 h2 => ⟨.int _, H, I.kept hk, ⟨_, rfl⟩, q m h1 h2⟩
theorem cr_minT (hc : X.calm = true) : CallR X (.builtin "min") (rMinT X.K) := by
  intro pins s σ H vs us Q I r h
  obtain ⟨a, ns, rfl, hs, hne, q⟩ := h
  obtain ⟨its, rv, hl, _⟩ := I.tuple hs
  rw [Vals.ref1 r]
  exact min_rawT (I.ok.hd hc) (show s.heap.IsTuple a its.toArray from hl) rv.ints hne fun h' tk m t' hk h1 h2 => ⟨.int _, H, I.kept hk, ⟨_, rfl⟩, q m h1 h2⟩
def rMaxU (K : Frag) : List V → Hp → VK → Prop := fun vs H Q => rMax K vs H Q ∨ rMaxT K vs H Q
def rMinU (K : Frag) : List V → Hp → VK → Prop := fun vs H Q => rMin K vs H Q ∨ rMinT K vs H Q
theorem cr_maxUK (hK : X.K = K) (hc : X.calm = true) : CallR X (.builtin "max") (rMaxU K) := by
  subst hK
  intro pins s σ H vs us Q I r h
  rcases h with h | h
  · exact cr_max hc pins s σ H vs us Q I r h
  · exact cr_maxT hc pins s σ H vs us Q I r h
theorem cr_minUK (hK : X.K = K) (hc : X.calm = true) : CallR X (.builtin "min") (rMinU K) := by
  subst hK
  intro pins s σ H vs us Q I r h
  rcases h with h | h
  · exact cr_min hc pins s σ H vs us Q I r h
  · exact cr_minT hc pins s σ H vs us Q I r h
def fIntsT (f : List O → QR O) (g : List Int → QR O) : List O → QR O
  | [.val (.tup ds)] => match intsD ds with
    | some ns => g ns
    | none => .bad
  | os => f os
def fMaxU := fIntsT fMax1 fun ns => match ns with | [] => .bad | _ => .ok (.val (.int (mxL ns)))
def fMinU := fIntsT fMin1 fun ns => match ns with | [] => .bad | _ => .ok (.val (.int (mnL ns)))
theorem s_intsT {f : List O → QR O} {g : List Int → QR O} {r r2 : List V → Hp → VK → Prop} (hf : SimR K r f) (hr : ∀ {ρ S H a ns Q}, Wf ρ S H → SqT K H a (ns.map V.int) → RPost K ρ S H Q (g ns) → r2 [.ref a] H Q) : SimR K (fun vs H Q => r vs H Q ∨ r2 vs H Q) (fIntsT f g) := fun ρ S H os vs Q w wa h => by
  unfold fIntsT at h
  split at h
  · rename_i ds
    obtain ⟨v, p, rfl, h1⟩ := wa.one
    cases e : intsD ds with
    | none => rw [e] at h; exact h.elim
    | some ns =>
      rw [e] at h
      obtain ⟨a, xs, rfl, q1, q2⟩ := tupO_ok w h1 rfl
      rw [intsD_eq e, FzL.ints] at q2
      subst q2
      exact .inr (hr w (SqT.of q1) h)
  · exact .inl (hf ρ S H os vs Q w wa h)
theorem s_maxU : SimR K (rMaxU K) fMaxU := s_intsT s_max1 fun {ρ S H a ns Q} w q h => by
  cases ns with
  | nil => exact h.elim
  | cons n ns =>
    obtain ⟨h1, h2⟩ := foldl_max ns n
    refine ⟨a, n :: ns, rfl, q, by simp, fun m hm hb => ?_⟩
    have : m = mxL (n :: ns) := by
      have e1 := h1 m hm
      have e2 := hb _ h2
      show m = ns.foldl max n
      omega
    subst this
    exact RPost.now (p := []) w h .int
theorem s_minU : SimR K (rMinU K) fMinU := s_intsT s_min1 fun {ρ S H a ns Q} w q h => by
  cases ns with
  | nil => exact h.elim
  | cons n ns =>
    obtain ⟨h1, h2⟩ := foldl_min ns n
    refine ⟨a, n :: ns, rfl, q, by simp, fun m hm hb => ?_⟩
    have : m = mnL (n :: ns) := by
      have e1 := h1 m hm
      have e2 := hb _ h2
      show m = ns.foldl min n
      omega
    subst this
    exact RPost.now (p := []) w h .int
/-! ### sorted of a dict, too -/
def inlK : List Key → Option (List Int)
  | [] => some []
  | .inl i :: ks => (inlK ks).map (i :: ·)
  | .inr _ :: _ => none
theorem inlK_eq : ∀ {ks : List Key} {ns : List Int}, inlK ks = some ns → ks = ns.map Sum.inl
  | [], ns, h => by cases h; rfl
  | .inl i :: ks, ns, h => by
    obtain ⟨ms, e, rfl⟩ := Option.map_eq_some_iff.mp (show (inlK ks).map (i :: ·) = some ns from h)
    rw [inlK_eq e]; rfl
  | .inr _ :: _, _, h => by cases h
theorem inlK_map : ∀ ns : List Int, inlK (ns.map Sum.inl) = some ns
  | [] => rfl
  | n :: ns => by show (inlK (ns.map Sum.inl)).map (n :: ·) = _; rw [inlK_map ns]; rfl
def inlKs : List (List Key) → Option (List (List Int))
  | [] => some []
  | k :: ks => (inlK k).bind fun n => (inlKs ks).map (n :: ·)
theorem inlKs_eq : ∀ {ks : List (List Key)} {ns : List (List Int)}, inlKs ks = some ns → ks = ns.map fun l => l.map Sum.inl
  | [], ns, h => by cases h; rfl
  | k :: ks, ns, h => by
    obtain ⟨n, e1, e2⟩ := Option.bind_eq_some_iff.mp (show (inlK k).bind (fun n => (inlKs ks).map (n :: ·)) = some ns from h)
    obtain ⟨ms, e3, rfl⟩ := Option.map_eq_some_iff.mp e2
    rw [inlK_eq e1, inlKs_eq e3]; rfl
theorem inlKs_map : ∀ ns : List (List Int), inlKs (ns.map fun l => l.map Sum.inl) = some ns
  | [] => rfl
  | n :: ns => by
    show (inlK (n.map Sum.inl)).bind (fun m => (inlKs (ns.map fun l => l.map Sum.inl)).map (m :: ·)) = _
    rw [inlK_map, inlKs_map ns]; rfl
def rSortedDI : List V → Hp → VK → Prop := fun xs H Q => ∃ (a : Addr) (kvs : List (Key × V)) (ks : List Int), xs = [.ref a] ∧ Rd H a (.dK kvs) ∧ kvs.map (·.1) = ks.map Sum.inl ∧ ks.length < 64 ∧
    ∀ (ys : List Int) (p : Addr), ys.Perm ks → ys.Pairwise (· ≤ ·) → H p = none → Q (.ref p) (upd H p (.lst (ys.map V.int)))
def rSortX (K : PySem.W.Frag) : List V → Hp → VK → Prop := fun vs H Q => rSortM K vs H Q ∨ rSortedDT K vs H Q ∨ rSortedDI vs H Q
theorem cr_sortXK (hK : X.K = K) (hc : X.calm = true) (hu : X.A.units + 65 < cLine) : CallR X (.builtin "sorted") (rSortX K) := by
  subst hK
  intro pins s σ H vs us Q I r h
  rcases h with h | h | h
  · exact cr_sortM hu pins s σ H vs us Q I r h
  · exact cr_sortedDT hc hu pins s σ H vs us Q I r h
  · exact call_sortedDI hc pins s σ H vs us Q I r h
def fSortX : List O → QR O
  | [o] => match dicO o with
    | some (.t kk, _) => (match inlKs kk with
      | some ns => .ok (.ol ((srtT ns).map tupD))
      | none => .bad)
    | some (.k kk, _) => (match inlK kk with
      | some ns => if ns.length < 64 then .ok (.ol ((srtI ns).map D.int)) else .bad
      | none => .bad)
    | none => fSortM [o]
  | _ => .bad
theorem s_sortX : SimRF K (rSortX K) fSortX := fun ρ S H os vs Q w wa h => by
  unfold fSortX at h
  split at h
  · rename_i o
    cases e : dicO o with
    | none => rw [e] at h; exact .inl (s_sortM ρ S H [o] vs Q w wa h)
    | some q =>
      obtain ⟨kd, ds⟩ := q
      obtain ⟨v, p, rfl, h1⟩ := wa.one
      obtain ⟨a, xs, u, rfl, q1, q2, q3⟩ := dicO_ok w h1 e
      rw [e] at h
      cases kd with
      | t kk =>
        dsimp only at h
        cases e2 : inlKs kk with
        | none => rw [e2] at h; exact h.elim
        | some ns =>
          rw [e2] at h
          obtain ⟨hl, rfl⟩ := q2
          have hk : (kk.zip xs).map (·.1) = ns.map fun l => l.map Sum.inl := by
            rw [← inlKs_eq e2]
            exact List.map_fst_zip (Nat.le_of_eq hl)
          refine .inr (.inl ⟨a, kk.zip xs, ns, rfl, Rd.of q1, hk, fun bs ys l lb at1 hs hst hl2 => ?_⟩)
          have fz : ∀ b ∈ bs, ∃ m : List Int, H b = some (.tup (m.map V.int)) ∧ S b = some (.tup (m.map V.int)) := fun b hb => by
            obtain ⟨i, hi, rfl⟩ := List.getElem_of_mem hb
            have hin : i < ns.length := by omega
            have h1 := at1 i bs[i] ns[i] (List.getElem?_eq_getElem hi) (List.getElem?_eq_getElem hin)
            exact ⟨ns[i], h1, by have := w.ft bs[i] (ns[i].map Sum.inl) (by rw [kV_inl]; exact h1); rw [kV_inl] at this; exact this⟩
          have kb : (bs.map V.ref).map (kOfT H) = ns := by
            refine List.ext_getElem (by simp [lb]) fun i h1 h2 => ?_
            simp only [List.getElem_map]
            have hi : i < bs.length := by simpa using h1
            exact kOfT_ref (at1 i bs[i] ns[i] (List.getElem?_eq_getElem hi) (List.getElem?_eq_getElem h2))
          have e6 : ys.map (kOfT H) = srtT ns := by
            refine srtT_uniq ?_ ?_
            · rw [← kb]; exact hst.perm.map _
            · rw [List.pairwise_map]
              refine List.Pairwise.imp (fun {x y} h => ?_) (show SrtO.Srtd (fun x y => HT.lexLt (kOfT H x) (kOfT H y)) ys from hs)
              unfold leT
              rw [show HT.lexLt (kOfT H y) (kOfT H x) = false from h]; rfl
          have f := tups_mk (K := K) (S := S) (H := H) (vs := ys) fun x hx => by
            have hx := hst.perm.mem_iff.mp hx
            obtain ⟨b, hb, rfl⟩ := List.mem_map.mp hx
            obtain ⟨m, h3, h4⟩ := fz b hb
            exact ⟨b, rfl, by rw [kOfT_ref h3]; exact h4⟩
          rw [e6] at f
          exact RFPost.lst w hl2 h f
      | k kk =>
        dsimp only at h
        cases e2 : inlK kk with
        | none => rw [e2] at h; exact h.elim
        | some ns =>
          rw [e2] at h
          dsimp only at h
          obtain ⟨hl, rfl⟩ := q2
          by_cases c : ns.length < 64
          · rw [if_pos c] at h
            have hk : (kk.zip xs).map (·.1) = ns.map Sum.inl := by
              rw [← inlK_eq e2]
              exact List.map_fst_zip (Nat.le_of_eq hl)
            refine .inr (.inr ⟨a, kk.zip xs, ns, rfl, q1, hk, c, fun ys l hp hw hl2 => ?_⟩)
            rw [srtI_uniq hp hw]
            exact RFPost.lst w hl2 h (FzL.ints.mpr rfl)
          · rw [if_neg c] at h; exact h.elim
  · exact h.elim
end
end VL
set_option maxRecDepth 100000
set_option maxHeartbeats 4000000
/-! V31: walks over frozen dicts of plain keys: the dict is locked meanwhile -/
namespace VL
open PySem L2
/-- a dict of plain keys, and the same locked -/
def Swp (o o' : HO) : Prop := ∃ (od : Obj) (kvs : List (Key × V)), (o = .dK kvs ∧ o' = .frz od (.dK kvs)) ∨ (o = .frz od (.dK kvs) ∧ o' = .dK kvs)
theorem Swp.symm {o o' : HO} (h : Swp o o') : Swp o' o := by
  obtain ⟨od, kvs, ⟨rfl, rfl⟩ | ⟨rfl, rfl⟩⟩ := h
  · exact ⟨od, kvs, .inr ⟨rfl, rfl⟩⟩
  · exact ⟨od, kvs, .inl ⟨rfl, rfl⟩⟩
section
variable {K : Frag} {S H : Hp} {ρ ρ' : Rho} {d : Addr} {o o' : HO}
theorem keepS {a : Addr} {u : HO} (hs : S d = some o) (h : S a = some u) (ne : u ≠ o) : upd S d o' a = some u := by
  by_cases z : a = d
  · subst z; rw [hs] at h; cases h; exact (ne rfl).elim
  · rw [upd_ne z]; exact h
theorem Swp.lst {vs : List V} (w : Swp o o') : HO.lst vs ≠ o := by
  obtain ⟨od, kvs, ⟨rfl, rfl⟩ | ⟨rfl, rfl⟩⟩ := w <;> exact fun z => by cases z
theorem Swp.tup {vs : List V} (w : Swp o o') : HO.tup vs ≠ o := by
  obtain ⟨od, kvs, ⟨rfl, rfl⟩ | ⟨rfl, rfl⟩⟩ := w <;> exact fun z => by cases z
theorem Swp.frzl {ob : Obj} {vs : List V} (w : Swp o o') : HO.frz ob (.lst vs) ≠ o := by
  obtain ⟨od, kvs, ⟨rfl, rfl⟩ | ⟨rfl, rfl⟩⟩ := w <;> exact fun z => by cases z
theorem Swp.own {a : Addr} (w : Swp o o') : HO.own a ≠ o := by
  obtain ⟨od, kvs, ⟨rfl, rfl⟩ | ⟨rfl, rfl⟩⟩ := w <;> exact fun z => by cases z
theorem Swp.ins {c dx : Addr} {l : List (Str × V)} (w : Swp o o') : HO.ins c dx l ≠ o := by
  obtain ⟨od, kvs, ⟨rfl, rfl⟩ | ⟨rfl, rfl⟩⟩ := w <;> exact fun z => by cases z
theorem Swp.dT {l : List (List Key × V)} (w : Swp o o') : HO.dT l ≠ o := by
  obtain ⟨od, kvs, ⟨rfl, rfl⟩ | ⟨rfl, rfl⟩⟩ := w <;> exact fun z => by cases z
theorem SqL.swp {a : Addr} {vs : List V} (w : Swp o o') (hs : S d = some o) (h : SqL K S a vs) : SqL K (upd S d o') a vs := by
  rcases h with (h | ⟨ob, h⟩) | h
  · exact .inl (.inl (keepS hs h w.lst))
  · exact .inl (.inr ⟨ob, keepS hs h w.frzl⟩)
  · exact .inr h
theorem DiA.swp {a : Addr} {ks : DKs} {vs : List V} {u : HO} (w : Swp o o') (hs : S d = some o) (hd : DiO ks vs u) (h : DiA S a ks u) : DiA (upd S d o') a ks u := by
  cases ks with
  | t kk =>
    obtain ⟨_, rfl⟩ := hd
    exact keepS hs h w.dT
  | k kk =>
    by_cases z : a = d
    · subst z
      obtain ⟨od, kvs, ⟨rfl, rfl⟩ | ⟨rfl, rfl⟩⟩ := w
      · rcases h with h | ⟨ob, h⟩
        · rw [hs] at h; cases h; exact .inr ⟨od, upd_same⟩
        · rw [hs] at h; cases h
      · rcases h with h | ⟨ob, h⟩
        · rw [hs] at h; cases h; obtain ⟨_, h⟩ := hd; cases h
        · rw [hs] at h; cases h; exact .inl upd_same
    · rcases h with h | ⟨ob, h⟩
      · exact .inl (by rw [upd_ne z]; exact h)
      · exact .inr ⟨ob, by rw [upd_ne z]; exact h⟩
mutual
theorem Fz.swp (w : Swp o o') (hs : S d = some o) : ∀ {x : D} {v : V}, Fz K S x v → Fz K (upd S d o') x v
  | .non, _, h => by unfold Fz at *; exact h
  | .bl _, _, h => by unfold Fz at *; exact h
  | .int _, _, h => by unfold Fz at *; exact h
  | .str _, _, h => by unfold Fz at *; exact h
  | .ty _, _, h => by unfold Fz at *; exact h
  | .tup _, _, h => by
    unfold Fz at *
    obtain ⟨a, vs, h1, h2, h3⟩ := h
    exact ⟨a, vs, h1, keepS hs h2 w.tup, FzL.swp w hs h3⟩
  | .lst _, _, h => by
    unfold Fz at *
    obtain ⟨a, vs, h1, h2, h3⟩ := h
    exact ⟨a, vs, h1, keepS hs h2 w.lst, FzL.swp w hs h3⟩
  | .rd _, _, h => by
    unfold Fz at *
    obtain ⟨a, vs, h1, h2, h3⟩ := h
    exact ⟨a, vs, h1, SqL.swp w hs h2, FzL.swp w hs h3⟩
  | .dic _ _, _, h => by
    unfold Fz at *
    obtain ⟨a, vs, u, h1, h2, h4, h3⟩ := h
    exact ⟨a, vs, u, h1, DiA.swp w hs h4 h2, h4, FzL.swp w hs h3⟩
  | .obj _ _ _, _, h => by
    unfold Fz at *
    obtain ⟨a, dx, vs, h1, h2, h4, h5, h3⟩ := h
    exact ⟨a, dx, vs, h1, keepS hs h2 w.ins, keepS hs h4 w.own, h5, FzL.swp w hs h3⟩
  | .hid, _, h => by unfold Fz at *; exact h
theorem FzL.swp (w : Swp o o') (hs : S d = some o) : ∀ {ds : List D} {vs : List V}, FzL K S ds vs → FzL K (upd S d o') ds vs
  | [], _, h => by unfold FzL at *; exact h
  | _ :: _, _, h => by
    unfold FzL at *
    obtain ⟨v, vs', h1, h2, h3⟩ := h
    exact ⟨v, vs', h1, Fz.swp w hs h2, FzL.swp w hs h3⟩
end
theorem keepH {p : Path} (hr : ρ d = none) (a : Addr) (h : ρ a = some p) : upd H d o' a = H a := upd_ne fun z => by subst z; rw [hr] at h; cases h
mutual
theorem Ow.swp (w : Swp o o') (hs : S d = some o) (hr : ρ d = none) : ∀ {x : O} {v : V} {p : Path}, Ow K ρ S H x v p → Ow K ρ (upd S d o') (upd H d o') x v p
  | .val _, _, _, h => by
    unfold Ow at *
    exact Fz.swp w hs h
  | .ol _, _, _, h => by
    unfold Ow at *
    obtain ⟨a, vs, h1, h2, h3, h4⟩ := h
    exact ⟨a, vs, h1, h2, (keepH hr a h2).trans h3, FzL.swp w hs h4⟩
  | .od _ _, _, _, h => by
    unfold Ow at *
    obtain ⟨a, vs, u, h1, h2, h3, h5, h4⟩ := h
    exact ⟨a, vs, u, h1, h2, (keepH hr a h2).trans h3, h5, FzL.swp w hs h4⟩
  | .nl _, _, _, h => by
    unfold Ow at *
    obtain ⟨a, vs, h1, h2, h3, h4⟩ := h
    exact ⟨a, vs, h1, h2, (keepH hr a h2).trans h3, OwZ.swp w hs hr h4⟩
  | .nd _ _, _, _, h => by
    unfold Ow at *
    obtain ⟨a, vs, u, h1, h2, h3, h5, h4⟩ := h
    exact ⟨a, vs, u, h1, h2, (keepH hr a h2).trans h3, h5, OwZ.swp w hs hr h4⟩
  | .ob _ _ _, _, _, h => by
    unfold Ow at *
    obtain ⟨a, dx, vs, h1, h2, h6, h3, h5, h7, h4⟩ := h
    exact ⟨a, dx, vs, h1, h2, h6, (keepH hr a h2).trans h3, (keepH hr dx h6).trans h5, h7, OwZ.swp w hs hr h4⟩
  | .nt _, _, _, h => by
    unfold Ow at *
    obtain ⟨a, vs, h1, h2, h3, h4⟩ := h
    exact ⟨a, vs, h1, h2, (keepH hr a h2).trans h3, OwZ.swp w hs hr h4⟩
theorem OwZ.swp (w : Swp o o') (hs : S d = some o) (hr : ρ d = none) : ∀ {os : List O} {ks : List PK} {vs : List V} {p : Path}, OwZ K ρ S H os ks vs p → OwZ K ρ (upd S d o') (upd H d o') os ks vs p
  | [], _, _, _, h => by unfold OwZ at *; exact h
  | _ :: _, _, _, _, h => by
    unfold OwZ at *
    obtain ⟨x, ks', v, vs', h1, h2, h3, h4⟩ := h
    exact ⟨x, ks', v, vs', h1, h2, Ow.swp w hs hr h3, OwZ.swp w hs hr h4⟩
end
theorem Wf.rno (w : Wf ρ S H) (hs : S d = some o) : ρ d = none := by
  cases e : ρ d with
  | none => rfl
  | some q => have := (w.wf d q e).1; rw [hs] at this; cases this
theorem Ex.swp (e : Ex S H) : Ex (upd S d o') (upd H d o') := fun a u h => by
  by_cases z : a = d
  · subst z; rw [upd_same] at h ⊢; exact h
  · rw [upd_ne z] at h ⊢; exact e a u h
theorem Wf.swp (w : Swp o o') (hs : S d = some o) (f : Wf ρ S H) : Wf ρ (upd S d o') (upd H d o') := by
  have hr := f.rno hs
  refine ⟨f.ex.swp, fun a q h => ?_, fun a ks h => ?_⟩
  · have z : a ≠ d := fun z => by subst z; rw [hr] at h; cases h
    rw [upd_ne z, upd_ne z]
    exact f.wf a q h
  · by_cases z : a = d
    · subst z; rw [upd_same] at h; cases h; exact (w.symm.tup rfl).elim
    · rw [upd_ne z] at h ⊢; exact f.ft a ks h
theorem StR.swp {pv : Nat → Option V} {σV : VS} {σ : St} (w : Swp o o') (hs : S d = some o) (s : StR K ρ pv S H σV σ) : StR K ρ pv (upd S d o') (upd H d o') σV σ :=
  ⟨s.w.swp w hs, s.len, fun i sv x h1 h2 => by obtain ⟨v, h3, h4⟩ := s.slot i sv x h1 h2; exact ⟨v, h3, Ow.swp w hs (s.w.rno hs) h4⟩, s.pin⟩
theorem Grw.swp {ρ2 : Rho} {S2 H2 : Hp} (e : Ex S H) (hs : S d = some o) (hr : ρ d = none) (g : Grw ρ (upd S d o') (upd H d o') ρ2 S2 H2) : Grw ρ S H ρ2 (upd S2 d o) (upd H2 d o) := by
  refine ⟨fun a u h => ?_, fun a u h r => ?_, fun a u h n r => ?_, fun a u h r => ?_⟩
  · by_cases z : a = d
    · subst z; rw [hs] at h; rw [upd_same]; exact h
    · rw [upd_ne z]; exact g.s a u (by rw [upd_ne z]; exact h)
  · by_cases z : a = d
    · subst z; rw [e _ _ hs] at h; rw [upd_same]; exact h
    · rw [upd_ne z]; exact g.h a u (by rw [upd_ne z]; exact h) r
  · have z : a ≠ d := fun z => by subst z; rw [hs] at n; cases n
    rw [upd_ne z]
    exact g.n a u (by rw [upd_ne z]; exact h) (by rw [upd_ne z]; exact n) r
  · by_cases z : a = d
    · subst z; exact g.f a _ upd_same r
    · exact g.f a u (by rw [upd_ne z]; exact h) r
theorem tmp_swp {ρ2 ρt : Rho} {S2 H2 : Hp} (e : Ex S H) (hs : S d = some o) (hr : ρ d = none) (h2 : S2 d = some o') (t : Tmp ρ (upd S d o') (upd H d o') ρ2 S2 H2 ρt) : Tmp ρ S H ρ2 (upd S2 d o) (upd H2 d o) ρt ∧ ρt d = none := by
  have hn : ρt d = none := t.n d o' upd_same hr
  refine ⟨⟨fun a q h => ?_, t.d, fun a u h r => ?_⟩, hn⟩
  · have z : a ≠ d := fun z => by subst z; rw [hn] at h; cases h
    rw [upd_ne z, upd_ne z]
    exact t.wf a q h
  · by_cases z : a = d
    · subst z; exact hn
    · exact t.n a u (by rw [upd_ne z]; exact h) r
end
/-! ### the walks -/
inductive DW where
  | keys | vals | items
def keyD : Key → D
  | .inl i => .int i
  | .inr x => .str x
def dwD : DW → List Key → List D → List D
  | .keys, kk, _ => kk.map keyD
  | .vals, _, ds => ds
  | .items, kk, ds => (kk.zip ds).map fun p => .tup [keyD p.1, p.2]
def dwI : DW → TE → TI
  | .keys => iKeys
  | .vals => iVals
  | .items => iItems
/-- the statement as it is, or the dict locked -/
def tLockO (t : TS) : TS := fun D σ H => t D σ H ∨ tLock t D σ H
theorem ps_lockO {X : Cx} {st : Stmt} {t : TS} (h : PS X st t) : PS X st (tLockO t) := ⟨fun pins s σ H D I hw => hw.elim (h.run pins s σ H D I) ((ps_lock h).run pins s σ H D I)⟩
/-- a walk over the frozen dict of plain keys in slot i -/
def sForD (kd : DW) (i : Nat) (g : D → VS → QR VS) (b : VB) : VB := fun σ => match σ[i]?.bind SV.get with
  | some (.val (.dic (.k kk) ds)) => noErr (forL g b (dwD kd kk ds) σ)
  | _ => .bad
section
variable {K : Frag} {W : WX}
theorem keyD_ok {S : Hp} : ∀ k : Key, Fz K S (keyD k) (kV k)
  | .inl _ => by unfold keyD Fz; rfl
  | .inr _ => by unfold keyD Fz; rfl
theorem zip_get {kk : List Key} {vs : List V} {i : Nat} {k : Key} {v : V} (h : (kk.zip vs)[i]? = some (k, v)) : kk[i]? = some k ∧ vs[i]? = some v := by
  rw [List.getElem?_zip_eq_some] at h
  exact h
theorem forD_core {kd : DW} {i : Nat} {tg : TG} {g : D → VS → QR VS} {tl : List Nat} {ts : TS} {b : VB} {ρ : Rho} {pv : Nat → Option V} {S H : Hp} {σV : VS} {σ : St} {De : Ends} {a : Addr} {od : Obj} {kk : List Key} {vs : List V} {ds : List D} (hg : SimG K tg tl g) (hb : SimS K W ts b)
    (s : StR K ρ pv S H σV σ) (v1 : σ[i]? = some (some (.ref a))) (hS : S a = some (.frz od (.dK (kk.zip vs)))) (hl : kk.length = vs.length) (f : FzL K S ds vs)
    (h : BPost K W ρ pv S H De (forL g b (dwD kd kk ds) σV)) : tFor (dwI kd (tVar i)) tg ts De σ H := by
  have hH := s.w.ex _ _ hS
  have hdv : ds.length = vs.length := f.len
  have hz : (kk.zip vs).length = kk.length := by rw [List.length_zip]; omega
  have at2 : ∀ ρ2 S2 H2, Grw ρ S H ρ2 S2 H2 → Ex S2 H2 → H2 a = some (.frz od (.dK (kk.zip vs))) := fun ρ2 S2 H2 g2 e => e _ _ (g2.s _ _ hS)
  cases kd with
  | keys =>
    refine ⟨_, v1, a, od, rfl, .inl ⟨_, hH, ?_⟩⟩
    have wk := walk_keys (d := a) (o := od) (kvs := kk.zip vs)
    rw [hz] at wk
    refine for_core hg hb s (by rw [show (dwD .keys kk ds).length = kk.length from by simp [dwD]]; exact wk) at2 (fun ρ2 S2 H2 j x H3 hj g2 ex y => ?_) h
    obtain ⟨rfl, k, v, e1, rfl⟩ := y
    refine ⟨S2, keyD k, .refl, ex, ?_, keyD_ok k⟩
    show (kk.map keyD)[j]? = _
    rw [List.getElem?_map, (zip_get e1).1]; rfl
  | vals =>
    refine ⟨_, v1, a, od, _, rfl, hH, ?_⟩
    have wk := walk_values (d := a) (o := od) (kvs := kk.zip vs)
    rw [hz] at wk
    refine for_core hg hb s (by rw [show (dwD .vals kk ds).length = kk.length from by show ds.length = _; omega]; exact wk) at2 (fun ρ2 S2 H2 j x H3 hj g2 ex y => ?_) h
    obtain ⟨rfl, k, e1⟩ := y
    obtain ⟨d, hd, q⟩ := f.getV (zip_get e1).2
    exact ⟨S2, d, .refl, ex, hd, q.mono g2.s⟩
  | items =>
    refine ⟨_, v1, a, od, _, rfl, hH, ?_⟩
    have wk := walk_items (d := a) (o := od) (kvs := kk.zip vs)
    rw [hz] at wk
    refine for_core hg hb s (by rw [show (dwD .items kk ds).length = kk.length from by simp [dwD]; omega]; exact wk) at2 (fun ρ2 S2 H2 j x H3 hj g2 ex y => ?_) h
    obtain ⟨T, x1, x2, rfl, hT, rfl, ha, hb'⟩ := y
    dsimp only at ha hb'
    cases e : (kk.zip vs)[j]? with
    | none => rw [e] at ha; cases ha
    | some p =>
      obtain ⟨k, v⟩ := p
      rw [e] at ha hb'
      cases ha; cases hb'
      obtain ⟨e1, e2⟩ := zip_get e
      obtain ⟨d, hd, q⟩ := f.getV e2
      obtain ⟨q1, q2⟩ := quiet_tup (o := .tup [kV k, v]) ex hT
      refine ⟨_, .tup [keyD k, d], q1, q2, ?_, ?_⟩
      · show ((kk.zip ds).map _)[j]? = _
        have ez : (kk.zip ds)[j]? = some (k, d) := List.getElem?_zip_eq_some.mpr ⟨e1, hd⟩
        rw [List.getElem?_map, ez]; rfl
      · unfold Fz
        exact ⟨T, _, rfl, upd_same, .cons (keyD_ok k) (.one ((q.mono g2.s).mono q1.s))⟩
theorem sim_forD {kd : DW} {i : Nat} {tg : TG} {g : D → VS → QR VS} {tl : List Nat} {ts : TS} {b : VB} (hg : SimG K tg tl g) (hb : SimS K W ts b) : SimS K W (tLockO (tFor (dwI kd (tVar i)) tg ts)) (sForD kd i g b) := fun ρ pv S H σV σ De s h => by
  unfold sForD at h
  split at h
  · rename_i kk ds e
    obtain ⟨sv, e1, e2⟩ := Option.bind_eq_some_iff.mp e
    obtain ⟨v, v1, v2⟩ := s.slot i sv _ e1 e2
    unfold Ow Fz at v2
    obtain ⟨a, vs, u, rfl, hA, ⟨hl, rfl⟩, f⟩ := v2
    rcases hA with hS | ⟨od, hS⟩
    · refine .inr ⟨a, _, s.w.ex _ _ hS, trivial, fun od => ?_⟩
      have sw : Swp (.dK (kk.zip vs)) (.frz od (.dK (kk.zip vs))) := ⟨od, _, .inl ⟨rfl, rfl⟩⟩
      have hr := s.w.rno hS
      have s1 := s.swp sw hS
      refine forD_core hg hb s1 v1 upd_same hl (FzL.swp sw hS f) ?_
      have back : ∀ {ρ' : Rho} {S' H' : Hp} {σV' : VS} {σ' : St}, Grw ρ (upd S a (.frz od (.dK (kk.zip vs)))) (upd H a (.frz od (.dK (kk.zip vs)))) ρ' S' H' → StR K ρ' pv S' H' σV' σ' → H' a = some (.frz od (.dK (kk.zip vs))) ∧ S' a = some (.frz od (.dK (kk.zip vs))) ∧ Grw ρ S H ρ' (upd S' a (.dK (kk.zip vs))) (upd H' a (.dK (kk.zip vs))) ∧ StR K ρ' pv (upd S' a (.dK (kk.zip vs))) (upd H' a (.dK (kk.zip vs))) σV' σ' := fun g' s' => by
        have z := g'.s a _ upd_same
        exact ⟨s'.w.ex _ _ z, z, g'.swp s.w.ex hS hr, s'.swp sw.symm z⟩
      revert h
      generalize forL g b (dwD kd kk ds) σV = r
      intro h
      cases r with
      | nx σ1 => exact fun ρ' S' H' σ' g' s' => by obtain ⟨z1, z2, z3, z4⟩ := back g' s'; exact ⟨z1, h _ _ _ _ z3 z4⟩
      | bk σ1 => exact fun ρ' S' H' σ' g' s' => by obtain ⟨z1, z2, z3, z4⟩ := back g' s'; exact ⟨z1, h _ _ _ _ z3 z4⟩
      | ct σ1 => exact fun ρ' S' H' σ' g' s' => by obtain ⟨z1, z2, z3, z4⟩ := back g' s'; exact ⟨z1, h _ _ _ _ z3 z4⟩
      | rt o σ1 =>
        intro ρ' S' H' σ' v ρt g' s' t w
        obtain ⟨z1, z2, z3, z4⟩ := back g' s'
        obtain ⟨t1, t2⟩ := tmp_swp s.w.ex hS hr z2 t
        exact ⟨z1, h _ _ _ _ _ _ z3 z4 t1 (Ow.swp sw.symm z2 t2 w)⟩
      | err c σ1 => exact h.elim
      | bad => exact h.elim
    · refine .inl (forD_core hg hb s v1 hS hl f ?_)
      revert h
      generalize forL g b (dwD kd kk ds) σV = r
      intro h
      cases r with
      | err c σ1 => exact h.elim
      | _ => exact h
  · exact h.elim
end
end VL
set_option maxRecDepth 100000
set_option maxHeartbeats 4000000
/-! V32: a list times an int -/
namespace VL
open PySem L2
section
variable {K : Frag} {W : WX} {S : Hp}
def repD (k : Nat) (ds : List D) : List D := (List.replicate k ds).flatten
theorem FzL.rep {ds : List D} {vs : List V} (h : FzL K S ds vs) : ∀ k : Nat, FzL K S (repD k ds) (List.replicate k vs).flatten
  | 0 => by unfold repD; simp [FzL]
  | k + 1 => by
    have := FzL.rep h k
    unfold repD at *
    rw [List.replicate_succ, List.flatten_cons, List.replicate_succ, List.flatten_cons]
    exact h.app this
def fRepF : List O → QR O
  | [a, .val (.int k)] => match lstO a with
    | some ds => if -(2 ^ 63) ≤ k ∧ k < 2 ^ 63 ∧ ds.length * k.toNat ≤ sizeLine then .ok (.ol (repD k.toNat ds)) else .bad
    | none => .bad
  | _ => .bad
theorem s_repF : SimRF K (r2l rRep) fRepF := fun ρ S H os vs Q w wa h => by
  unfold fRepF at h
  split at h
  · rename_i a k
    obtain ⟨v, p, v2, p2, rfl, h1, h2⟩ := wa.two
    cases intO h2
    cases ea : lstO a with
    | none => rw [ea] at h; exact h.elim
    | some ds =>
      rw [ea] at h
      have h' : RFPost K ρ S H Q (if -(2 ^ 63) ≤ k ∧ k < 2 ^ 63 ∧ ds.length * k.toNat ≤ sizeLine then .ok (.ol (repD k.toNat ds)) else .bad) := h
      obtain ⟨l, xs, rfl, q1, q2⟩ := lstO_ok w h1 ea
      by_cases c : -(2 ^ 63) ≤ k ∧ k < 2 ^ 63 ∧ ds.length * k.toNat ≤ sizeLine
      · rw [if_pos c] at h'
        exact ⟨l, k, xs, rfl, rfl, q1, c.1, c.2.1, by rw [← q2.len]; exact c.2.2, fun a ha => RFPost.lst w ha h' (q2.rep _)⟩
      · rw [if_neg c] at h'; exact h'.elim
  · exact h.elim
end
end VL
set_option maxRecDepth 100000
set_option maxHeartbeats 4000000
/-! V33: a list comprehension that changes nothing that stood: iterable, test and element quiet -/
namespace VL
open PySem L2
def lcQ (vs : List Nat) (g : D → VS → QR VS) (tt : TX) (x : VX) (σ : VS) : List D → List D → QR (List D)
  | [], acc => .ok acc
  | d :: ds, acc => match putAway vs σ with
    | .bad => .bad
    | .ok σ1 => (match g d σ1 with
      | .bad => .bad
      | .ok σ2 => (match tt.f σ2 with
        | .bad => .bad
        | .err _ _ => .bad
        | .ok k σ3 => if k = true then (match x.f σ3 with
            | .bad => .bad
            | .err _ _ => .bad
            | .ok (.val e) _ => if acc.length < sizeLine then lcQ vs g tt x σ ds (acc ++ [e]) else .bad
            | .ok _ _ => .bad) else lcQ vs g tt x σ ds acc))
def vLcQ (y : VX) (vs : List Nat) (g : D → VS → QR VS) (tt : TX) (x : VX) : VX := ⟨true, fun σ => if (y.q && tt.q && x.q) = true then (match y.f σ with
  | .ok (.val (.lst ds)) _ => (match lcQ vs g tt x σ ds [] with
    | .ok acc => .ok (.ol acc) σ
    | .bad => .bad)
  | _ => .bad) else .bad⟩
section
variable {K : Frag} {W : WX}
theorem Quiet.updNew {S H S' H' : Hp} {D : Addr} {o : HO} (q : Quiet S H S' H') (h : H D = none) (hn : ∀ vs, o ≠ .tup vs := by (intro vs z; cases z)) : Quiet S H S' (upd H' D o) :=
  ⟨q.s, fun b u e => by rw [upd_ne fun z => by subst z; rw [h] at e; cases e]; exact q.h b u e, q.n, fun t => (q.t t).upd hn⟩
theorem sim_lcQ {tg : TG} {g : D → VS → QR VS} {ttx : TX} {tt : TT} {te te0 : TE} {x y : VX} {vs ts : List Nat} (hy : SimX K W te0 y) (hg : SimG K tg ts g) (hts : ∀ i ∈ ts, i ∈ vs) (ht : SimT K WN tt ttx) (hx : SimX K WN te x) :
    SimF K W (tLc (iSeq K te0) tg tt te vs) (vLcQ y vs g ttx x) := fun ρ pv S H σV σ Q s h => by
  refine hy ρ pv S H σV σ _ s ?_
  have h' : FPost K W ρ pv S H σ true σV Q ((vLcQ y vs g ttx x).f σV) := h
  unfold vLcQ at h'; dsimp only at h'
  by_cases hq : (y.q && ttx.q && x.q) = true
  case neg => rw [if_neg hq] at h'; exact h'.elim
  rw [if_pos hq] at h'
  obtain ⟨hq2, qx⟩ := Bool.and_eq_true_iff.mp hq
  obtain ⟨qy, qt⟩ := Bool.and_eq_true_iff.mp hq2
  cases e : y.f σV with
  | bad => rw [e] at h'; exact h'.elim
  | err c σ1 => rw [e] at h'; exact h'.elim
  | ok o σ1 =>
    rw [e] at h'
    cases o with
    | val d =>
      cases d with
      | lst ds =>
        dsimp only at h'
        intro ρ1 S1 H1 v p g1 s1 w1 qq1
        obtain ⟨z1, z2, q1⟩ := qq1 qy
        subst z1 z2
        unfold Ow Fz at w1
        obtain ⟨a, vs0, rfl, h1, f⟩ := w1
        have ex := s1.w.ex
        refine ⟨a, rfl, .inl ⟨⟨vs0, SqL.of (ex _ _ h1)⟩, ?_⟩⟩
        have wk := (walk_list (K := K) (a := a) (xs := vs0))
        rw [← f.len] at wk
        have hG : ∀ S2 H2, Ex S1 S2 → Ex S2 H2 → SqL K H2 a vs0 := fun S2 H2 e1 e2 => SqL.of (e2 _ _ (e1 _ _ h1))
        have hY := yAt_post (K := K) f
        intro D hD
        have hH : H D = none := by
          cases q : H D with
          | none => rfl
          | some u => rw [q1.h D u q] at hD; cases hD
        have hS1 : S1 D = none := s1.w.ex.back hD
        have hr1 : ρ1 D = none := by
          cases q : ρ1 D with
          | none => rfl
          | some r => obtain ⟨_, o, ho⟩ := s1.w.wf D r q; rw [hD] at ho; cases ho
        let Rest : List VL.D → List VL.D → Prop := fun l acc => FPost K W ρ1 pv S H σ true σ1 Q (match lcQ vs g ttx x σ1 l acc with
          | .ok acc => .ok (.ol acc) σ1
          | .bad => .bad)
        refine lc_it wk (fun i Hc => ∃ S2 acc vacc, Quiet S H S2 Hc ∧ Ex S1 S2 ∧ StR K ρ1 pv S2 Hc σ1 σ ∧ Hc D = some (.lst vacc) ∧ S2 D = none ∧ FzL K S2 acc vacc ∧ Rest (ds.drop i) acc)
          ⟨S1, [], [], q1.updNew hH, .refl _, s1.updOut hr1 hS1, upd_same, hS1, .nil, h'⟩ ?_ ?_ ?_
        · rintro i Hc _ ⟨S2, acc, vacc, _, x2, s2, _⟩
          exact hG S2 Hc x2 s2.w.ex
        · rintro i v Hc H3 hlt ⟨S2, acc, vacc, g2, x2, s2, d2, n2, f2, p2⟩ y'
          obtain ⟨S3, d, q3, ex3, hd, w3⟩ := hY S2 Hc i v H3 hlt x2 s2.w.ex y'
          have s3 := s2.quiet q3 ex3
          have p2' : FPost K W ρ1 pv S H σ true σ1 Q (match lcQ vs g ttx x σ1 (ds.drop i) acc with
            | .ok acc => .ok (.ol acc) σ1
            | .bad => .bad) := p2
          rw [drop_at hd] at p2'
          unfold lcQ at p2'
          cases ea : putAway vs σ1 with
          | bad => rw [ea] at p2'; exact p2'.elim
          | ok σ3 =>
            rw [ea] at p2'; dsimp only at p2'
            refine hg ρ1 pv S3 H3 σ3 (wipe σ vs) d v _ (s3.away ea) w3 ?_
            cases eg : g d σ3 with
            | bad => rw [eg] at p2'; exact p2'.elim
            | ok σ4 =>
              rw [eg] at p2'; dsimp only at p2'
              intro σ4' s4 on4
              refine ⟨wipe_eq on4 hts, ht ρ1 pv S3 H3 σ4 σ4' _ s4 ?_⟩
              have g3 := g2.trans q3
              cases et : ttx.f σ4 with
              | bad => rw [et] at p2'; exact p2'.elim
              | err c σ5 => rw [et] at p2'; exact p2'.elim
              | ok k σ5 =>
                rw [et] at p2'; dsimp only at p2'
                intro ρ5 S5 H5 g5 s5 qq5
                obtain ⟨z1, z2, q5⟩ := qq5 qt
                subst z1 z2
                have d3 := q3.h D _ d2
                have n3 := q3.n D _ d2 n2
                have d5 := q5.h D _ d3
                have n5 := q5.n D _ d3 n3
                have x5 : Ex S1 S5 := (x2.trans q3.s).trans q5.s
                have q25 := q3.trans q5
                cases k with
                | false =>
                  simp only [Bool.false_eq_true, if_false] at p2' ⊢
                  exact ⟨S5, acc, vacc, g3.trans q5, x5, s2.quiet q25 s5.w.ex, d5, n5, f2.mono q25.s, p2'⟩
                | true =>
                  simp only [if_true] at p2' ⊢
                  refine hx ρ5 pv S5 H5 σ5 σ4' _ s5 ?_
                  cases ex : x.f σ5 with
                  | bad => rw [ex] at p2'; exact p2'.elim
                  | err c σ6 => rw [ex] at p2'; exact p2'.elim
                  | ok o σ6 =>
                    rw [ex] at p2'
                    cases o with
                    | val ev =>
                      dsimp only at p2'
                      intro ρ6 S6 H6 yv p6 g6 s6 w6 qq6
                      obtain ⟨z1, z2, q6⟩ := qq6 qx
                      subst z1 z2
                      have d6 := q6.h D _ d5
                      have n6 := q6.n D _ d5 n5
                      unfold Ow at w6
                      have q26 := q25.trans q6
                      by_cases hc : acc.length < sizeLine
                      · rw [if_pos hc] at p2'
                        refine ⟨vacc, d6, by rw [← f2.len]; exact hc, S6, acc ++ [ev], vacc ++ [yv], ((g3.trans q5).trans q6).updNew hH, x5.trans q6.s, (s2.quiet q26 s6.w.ex).updOut hr1 n6, upd_same, n6, (f2.mono q26.s).app (.one w6), p2'⟩
                      · rw [if_neg hc] at p2'; exact p2'.elim
                    | _ => exact p2'.elim
        · rintro Hc ⟨S2, acc, vacc, g2, x2, s2, d2, n2, f2, p2⟩
          have p2' : FPost K W ρ1 pv S H σ true σ1 Q (match lcQ vs g ttx x σ1 (ds.drop ds.length) acc with
            | .ok acc => .ok (.ol acc) σ1
            | .bad => .bad) := p2
          rw [List.drop_length] at p2'
          have n0 : ∀ a o, H a = some o → a ≠ D := fun a o h z => by subst z; rw [hH] at h; cases h
          refine p2' ρ1 S2 Hc (.ref D) (rhoNew D) g2.grw s2 ⟨fun a q h => ?_, fun a q h => ?_, fun a o h r => ?_⟩ ?_ fun _ => ⟨⟨rfl, rfl, g2⟩, fun a o h => ?_⟩
          · unfold rhoNew at h
            by_cases z : a = D
            · subst z; exact ⟨n2, _, d2⟩
            · rw [if_neg z] at h; cases h
          · unfold rhoNew at h
            by_cases z : a = D
            · subst z; exact hr1
            · rw [if_neg z] at h; cases h
          · unfold rhoNew; rw [if_neg (n0 a o h)]
          · unfold Ow
            exact ⟨D, vacc, rfl, rhoNew_at, d2, f2⟩
          · unfold rhoNew; rw [if_neg (n0 a o h)]
      | _ => exact h'.elim
    | _ => exact h'.elim
end
end VL
set_option maxRecDepth 100000
set_option maxHeartbeats 4000000
/-! V34: a tuple that holds an owned list: made of a value and something new, changed at its parts; a name that is moved -/
namespace VL
open PySem L2
def vMvN (i : Nat) : VX := ⟨false, fun σ => match σ[i]? with
  | some (.va o) => .ok o (σ.set i .un)
  | _ => .bad⟩
def vPairF (x y : VX) : VX := ⟨false, fun σ => match x.f σ with
  | .ok (.val d) σ1 => (match y.f σ1 with
    | .ok (.ol ds) σ2 => .ok (.nt [.val d, .ol ds]) σ2
    | .ok _ _ => .bad
    | .err c σ2 => .err c σ2
    | .bad => .bad)
  | .ok _ _ => .bad
  | .err c σ1 => .err c σ1
  | .bad => .bad⟩
def lIxT (l : LX) (y : VX) : LX := fun σ => match l σ with
  | .ok lv => if y.q = true then (match y.f σ with
    | .ok (.val (.int i)) _ => (match lv.o with
      | .nt os => (match L2.ixN os.length i with
        | some j => (match os[j]? with
          | some o => .ok ⟨o, fun z => lv.put (.nt (os.set j z))⟩
          | none => .bad)
        | none => .bad)
      | _ => .bad)
    | _ => .bad) else .bad
  | .bad => .bad
section
variable {K : Frag} {W : WX} {te ti tf : TE} {x y : VX}
theorem sim_mvN {i : Nat} : SimF K W (tVar i) (vMvN i) := fun ρ pv S H σV σ Q s h => by
  have h' : FPost K W ρ pv S H σ false σV Q (match σV[i]? with | some (.va o) => .ok o (σV.set i .un) | _ => .bad) := h
  cases q : σV[i]? with
  | none => rw [q] at h'; exact h'.elim
  | some sv =>
    rw [q] at h'
    cases sv with
    | un => exact h'.elim
    | rf o => exact h'.elim
    | va o =>
      have hi := (List.getElem?_eq_some_iff.mp q).1
      obtain ⟨v, h1, h2⟩ := s.slot i _ o q rfl
      refine ⟨v, h1, ?_⟩
      refine h' (rhoOut ρ i) S H v (rhoTmp ρ i) ⟨.refl _, fun _ _ h _ => h, fun _ _ _ h _ => h, fun _ _ _ r => rhoOut_none r⟩ ⟨⟨s.w.ex, fun a r h => s.w.wf a r (rhoOut_some h).1, s.w.ft⟩, by simp [s.len], fun j sv o2 g1 g2 => ?_, fun j o2 g1 => ?_⟩ ⟨fun a r h => s.w.wf a _ (rhoTmp_some h), fun a r h => ?_, fun a o h r => ?_⟩ ?_ fun z => by cases z
      · by_cases z : i = j
        · subst z
          rw [List.getElem?_set_self hi] at g1; cases g1; cases g2
        · rw [List.getElem?_set_ne z] at g1
          obtain ⟨w, w1, w2⟩ := s.slot j sv o2 g1 g2
          exact ⟨w, w1, Ow.mono (.refl _) (Kp.slot fun a q h => rhoOut_at h (fun w => z w.symm)) w2⟩
      · by_cases z : i = j
        · subst z
          rw [List.getElem?_set_self hi] at g1; cases g1
        · rw [List.getElem?_set_ne z] at g1
          exact s.pin j o2 g1
      · have := rhoTmp_some h
        unfold rhoOut; rw [this]; exact if_pos rfl
      · unfold rhoTmp; rw [r]
      · exact Ow.mono (.refl _) (fun a r h => ⟨rhoTmp_at h, rfl⟩) h2
theorem StR.updTup {ρ : Rho} {pv : Nat → Option V} {S H : Hp} {σV : VS} {σ : St} {a : Addr} {o : HO} (s : StR K ρ pv S H σV σ) (hr : ρ a = none) (hs : S a = none) (hn : ∀ ks : List Key, o ≠ .tup (ks.map kV)) : StR K ρ pv S (upd H a o) σV σ := by
  refine ⟨⟨fun b u h => ?_, fun b q h => ?_, fun b ks h => ?_⟩, s.len, fun i sv ob e1 e2 => ?_, s.pin⟩
  · rw [upd_ne fun z => by rw [z, hs] at h; cases h]; exact s.w.ex b u h
  · obtain ⟨h1, h2⟩ := s.w.wf b q h
    exact ⟨h1, by rw [upd_ne fun z => by rw [z, hr] at h; cases h]; exact h2⟩
  · by_cases z : b = a
    · subst z
      rw [upd_same] at h
      exact (hn ks (Option.some.inj h)).elim
    · rw [upd_ne z] at h
      exact s.w.ft b ks h
  · obtain ⟨v, h3, h4⟩ := s.slot i sv ob e1 e2
    exact ⟨v, h3, Ow.mono (.refl _) (fun b r h => ⟨h, upd_ne fun z => by rw [z, hr] at h; cases h⟩) h4⟩
def rhoQ (ρe : Rho) (p : Addr) : Rho := fun a => if a = p then some [] else match ρe a with
  | some q => some (.ix 1 :: q)
  | none => none
theorem sim_pairF (hx : SimX K W te x) (hy : SimF K W tf y) : SimF K W (tTup (tCons te (tCons tf tNil))) (vPairF x y) := fun ρ pv S H σV σ Q s h => by
  refine hx ρ pv S H σV σ _ s ?_
  have h' : FPost K W ρ pv S H σ false σV Q ((vPairF x y).f σV) := h
  unfold vPairF at h'; dsimp only at h'
  cases e : x.f σV with
  | bad => rw [e] at h'; exact h'
  | err c σ1 => rw [e] at h'; exact h'
  | ok o σ1 =>
    rw [e] at h'
    cases o with
    | val d =>
      dsimp only at h'
      intro ρ1 S1 H1 v1 p1 g1 s1 w1 _
      refine hy ρ1 pv S1 H1 σ1 σ _ s1 ?_
      cases e2 : y.f σ1 with
      | bad => rw [e2] at h'; exact h'
      | err c σ2 =>
        rw [e2] at h'
        exact fun ρ' S' H' g s' => h' ρ' S' H' (g1.trans g) s'
      | ok oy σ2 =>
        rw [e2] at h'
        cases oy with
        | ol ds =>
          dsimp only at h'
          intro ρ2 S2 H2 v2 ρe g2 s2 t2 w2 _
          refine ⟨show 2 ≤ sizeLine by decide, fun p hp => ?_⟩
          unfold Ow at w2
          obtain ⟨b, vs, rfl, rb, hb, fz⟩ := w2
          have g := g1.trans g2
          have hH : ∀ u, H p = some u → ρ p ≠ none := fun u hu hr => by rw [g.h p u hu hr] at hp; cases hp
          have hr2 : ρ2 p = none := by
            cases q : ρ2 p with
            | none => rfl
            | some r => obtain ⟨_, o, ho⟩ := s2.w.wf p r q; rw [hp] at ho; cases ho
          have hS2 : S2 p = none := s2.w.ex.back hp
          have hre : ρe p = none := by
            cases q : ρe p with
            | none => rfl
            | some r => obtain ⟨_, o, ho⟩ := t2.wf p r q; rw [hp] at ho; cases ho
          have n0 : ∀ a o, H a = some o → ρ a = none → a ≠ p := fun a o h r z => hH o (z ▸ h) (z ▸ r)
          have hbp : b ≠ p := fun z => by subst z; rw [hp] at hb; cases hb
          have hn : ∀ ks : List Key, HO.tup [v1, V.ref b] ≠ .tup (ks.map kV) := fun ks z => by
            injection z with z
            rcases ks with _ | ⟨k1, _ | ⟨k2, ks⟩⟩
            · cases z
            · cases z
            · simp only [List.map_cons] at z
              injection z with _ z
              injection z with z _
              cases k2 <;> cases z
          refine h' ρ2 S2 (upd H2 p (.tup [v1, .ref b])) (.ref p) (rhoQ ρe p) (g.updOut hH) (s2.updTup hr2 hS2 hn) ⟨fun a q h => ?_, fun a q h => ?_, fun a o h r => ?_⟩ ?_ fun z => by cases z
          · unfold rhoQ at h
            by_cases z : a = p
            · subst z; exact ⟨hS2, _, upd_same⟩
            · rw [if_neg z] at h
              cases e7 : ρe a with
              | none => rw [e7] at h; cases h
              | some q' =>
                obtain ⟨h1, o, h2⟩ := t2.wf a q' e7
                exact ⟨h1, o, by rw [upd_ne z]; exact h2⟩
          · unfold rhoQ at h
            by_cases z : a = p
            · subst z; exact hr2
            · rw [if_neg z] at h
              cases e7 : ρe a with
              | none => rw [e7] at h; cases h
              | some q' => exact t2.d a q' e7
          · unfold rhoQ
            rw [if_neg (n0 a o h r), t2.n a o (g1.h a o h r) (g1.f a o h r)]
          · unfold Ow at w1 ⊢
            refine ⟨p, [v1, .ref b], rfl, by unfold rhoQ; rw [if_pos rfl], upd_same, ?_⟩
            unfold OwZ
            refine ⟨.ix 0, _, v1, _, rfl, rfl, ?_, ?_⟩
            · unfold Ow; exact w1.mono g2.s
            · unfold OwZ
              refine ⟨.ix 1, _, .ref b, _, rfl, rfl, ?_, ?_⟩
              · unfold Ow
                refine ⟨b, vs, rfl, ?_, by rw [upd_ne hbp]; exact hb, fz⟩
                unfold rhoQ
                rw [if_neg hbp, rb]; rfl
              · unfold OwZ; exact ⟨rfl, rfl⟩
        | _ => exact h'.elim
    | _ => exact h'.elim
theorem sim_lIxT {l : LX} (hl : SimL K te l) (hy : SimX K WN ti y) : SimL K (tOp (rIx K) te ti) (lIxT l y) := fun ρ pv S H σV σ Q s h => by
  refine hl ρ pv S H σV σ _ s ?_
  unfold lIxT at h
  cases e : l σV with
  | bad => rw [e] at h; exact h.elim
  | ok lv =>
    rw [e] at h; dsimp only at h
    obtain ⟨lo, lput⟩ := lv
    intro S1 H1 v p q ex pl
    by_cases hq : y.q = true
    · rw [if_pos hq] at h
      have s1 := s.quiet q ex
      refine hy ρ pv S1 H1 σV σ _ s1 ?_
      cases e1 : y.f σV with
      | bad => rw [e1] at h; exact h.elim
      | err c σ1 => rw [e1] at h; exact h.elim
      | ok oi σ1 =>
        rw [e1] at h
        intro ρ2 S2 H2 vi pi g2 s2 wi q2
        obtain ⟨a1, a2, a3⟩ := q2 hq
        subst a1 a2
        split at h
        · rename_i i σ2 e4
          cases e4
          cases owI wi
          cases lo with
          | nt os =>
            dsimp only at h
            cases e5 : L2.ixN os.length i with
            | none => rw [e5] at h; exact h.elim
            | some j =>
              rw [e5] at h; dsimp only at h
              cases e6 : os[j]? with
              | none => rw [e6] at h; exact h.elim
              | some o =>
                rw [e6] at h
                have pl2 := pl.quiet s1.w a3
                have w := pl2.w
                have z := w
                dsimp only at z
                unfold Ow at z
                obtain ⟨b, vs, rfl, r1, z1, z4⟩ := z
                obtain ⟨k, v1, hk, hv, w1, up⟩ := z4.upd (nodup_ix _) e6
                refine .inr (.inl ⟨b, vs, i, v1, rfl, rfl, SqT.of z1, ?_, h S2 H2 v1 _ (q.trans a3) s2.w.ex (pl2.child (up := fun z => .nt (os.set j z)) w1 fun ρ3 S3 H3 z e3 ko w3 => ?_)⟩)
                · unfold L2.atI
                  rw [z4.lenK.2, e5]; exact hv
                · obtain ⟨k1, k2⟩ := ko b p r1 np
                  unfold Ow
                  refine ⟨b, vs, rfl, k1, k2.trans z1, ?_⟩
                  rw [List.length_set]
                  exact up ρ3 S3 H3 z e3 ko w3
          | _ => exact h.elim
        · exact h.elim
    · rw [if_neg hq] at h; exact h.elim
/-- what hangs on no heap -/
def flatD : D → Bool
  | .non => true
  | .bl _ => true
  | .int _ => true
  | .str _ => true
  | _ => false
theorem flatL_fz {S S' : Hp} {d : D} {v : V} (h : flatD d = true) (f : Fz K S d v) : Fz K S' d v := by
  cases d <;> first | (unfold Fz at f ⊢; exact f) | cases h
/-- a call that tells something flat: it changes nothing, owned things may be read -/
def vCallL (m : FS) (a : AX) : VX := ⟨a.q, fun σ => match a.f σ with
  | .ok os σ1 => (match m (os.map fun o => .val (frz o)) with
    | .ok (.val d) _ => if flatD d = true then .ok (.val d) σ1 else .bad
    | .ok _ _ => .bad
    | .err c _ => .err c σ1
    | .bad => .bad)
  | .err c σ1 => .err c σ1
  | .bad => .bad⟩
def mixS (S1 H1 S' : Hp) : Hp := fun a => match H1 a with
  | some _ => S1 a
  | none => S' a
theorem mix_quiet {S1 H1 SL S' H' : Hp} {ρ' : Rho} (e1 : Ex S1 H1) (f1 : Ft S1 H1) (g : Grw (fun _ => none) SL H1 ρ' S' H') (w : Wf ρ' S' H') : Quiet S1 H1 (mixS S1 H1 S') H' ∧ Ex (mixS S1 H1 S') H' := by
  have hh : Ex H1 H' := fun a o h => g.h a o h rfl
  refine ⟨⟨fun a o h => ?_, hh, fun a o h s => ?_, fun _ a ks h => ?_⟩, fun a o h => ?_⟩
  · unfold mixS; rw [e1 a o h]; exact h
  · unfold mixS; rw [h]; exact s
  · unfold mixS
    cases e : H1 a with
    | some o =>
      have := hh a o e
      rw [h] at this
      cases this
      exact f1 a ks e
    | none => exact w.ft a ks h
  · unfold mixS at h
    cases e : H1 a with
    | some o' => rw [e] at h; exact hh a o (e1 a o h)
    | none => rw [e] at h; exact w.ex a o h
theorem owA_frz {ρ : Rho} {S H : Hp} (w : ∀ a q, ρ a = some q → S a = none ∧ ∃ o, H a = some o) : ∀ {os : List O} {vs : List V}, OwA K ρ S H os vs → FzL K (VL.frS S H ρ) (os.map frz) vs
  | [], vs, h => by
    have : vs = [] := h
    subst this
    exact .nil
  | o :: os, vs, h => by
    obtain ⟨v, vs', rfl, ⟨p, h1⟩, h2⟩ := h
    have a := Ow.frzT w h1
    have b := owA_frz w h2
    show FzL K _ (frz o :: os.map frz) (v :: vs')
    unfold FzL
    exact ⟨v, vs', rfl, a, b⟩
theorem sim_callL {m : FS} {n : Nat} {ta : TA} {a : AX} (ha : SimA K W ta a) (hl : NA a n) : SimX K W (tCallS (SpOf K (List.replicate n false) m) (WE W) ta) (vCallL m a) := fun ρ pv S H σV σ Q s h => by
  refine ha ρ pv S H σV σ _ s ?_
  have h' : XPost K W ρ pv S H σ a.q σV Q ((vCallL m a).f σV) := h
  unfold vCallL at h'
  dsimp only at h'
  cases e : a.f σV with
  | bad => rw [e] at h'; exact h'
  | err c σ1 => rw [e] at h'; exact h'
  | ok os σ1 =>
    rw [e] at h'; dsimp only at h'
    intro ρ1 S1 H1 vs g1 s1 w1 q1
    have fz := owA_frz s1.w.wf w1
    have l : (List.replicate n false).length = (os.map frz).length := by rw [List.length_replicate, List.length_map, hl.l σV os σ1 e]
    have emap : (os.map frz).map O.val = os.map fun o => O.val (frz o) := by rw [List.map_map]; rfl
    refine ⟨fun _ => none, VL.frS S1 H1 ρ1, (os.map frz).map O.val, ⟨frS_in s1.w.ex, fun a q h => (by cases h), s1.w.ft.more (frS_ex s1.w.wf)⟩, pre_vals (ρ := ρ) fz l md_no, ?_⟩
    rw [emap]
    cases e3 : m (os.map fun o => .val (frz o)) with
    | bad => rw [e3] at h'; exact h'.elim
    | err c outs =>
      rw [e3] at h'; dsimp only at h'
      intro ρ' S' H' g w _
      obtain ⟨q, ex⟩ := mix_quiet s1.w.ex s1.w.ft g w
      exact h' ρ1 _ H' (g1.trans q.grw) (s1.quiet q ex)
    | ok o outs =>
      rw [e3] at h'
      cases o with
      | val d =>
        dsimp only at h'
        by_cases hf : flatD d = true
        · rw [if_pos hf] at h'
          intro ρ' S' H' v ρ2 g w _ t w2
          obtain ⟨q, ex⟩ := mix_quiet s1.w.ex s1.w.ft g w
          unfold Ow at w2
          exact h' ρ1 _ H' v [] (g1.trans q.grw) (s1.quiet q ex) (by unfold Ow; exact flatL_fz hf w2) fun hq => by
            obtain ⟨a1, a2, a3⟩ := q1 hq
            exact ⟨a1, a2, a3.trans q⟩
        · rw [if_neg hf] at h'; exact h'.elim
      | _ => exact h'.elim
end
end VL
set_option maxRecDepth 100000
set_option maxHeartbeats 4000000
/-! V35: walks over a list of ints that a name owns and that is read meanwhile: the name is pinned, every turn leaves it -/
namespace VL
open PySem L2
def okI (i : Nat) (ns : List Int) (σ : VS) : Bool := match σ[i]? with
  | some (.rf (.ol ds)) => decide (intsD ds = some ns)
  | _ => false
def forLI (i : Nat) (ns : List Int) (g : D → VS → QR VS) (b : VB) : List D → VS → BR
  | [], σ => if okI i ns σ = true then .nx σ else .bad
  | d :: ds, σ => if okI i ns σ = true then (match g d σ with
    | .ok σ1 => (match b σ1 with
      | .nx σ2 => forLI i ns g b ds σ2
      | .ct σ2 => forLI i ns g b ds σ2
      | .bk σ2 => .nx σ2
      | r => r)
    | .bad => .bad) else .bad
def unpS (i : Nat) (σ : VS) : QR VS := match σ[i]? with
  | some (.rf o) => .ok (σ.set i (.va o))
  | _ => .bad
def unpB (i : Nat) : BR → BR
  | .nx σ => (match unpS i σ with | .ok σ1 => .nx σ1 | .bad => .bad)
  | .bk σ => (match unpS i σ with | .ok σ1 => .bk σ1 | .bad => .bad)
  | .ct σ => (match unpS i σ with | .ok σ1 => .ct σ1 | .bad => .bad)
  | .rt o σ => (match unpS i σ with | .ok σ1 => .rt o σ1 | .bad => .bad)
  | .err c σ => (match unpS i σ with | .ok σ1 => .err c σ1 | .bad => .bad)
  | .bad => .bad
def sForI (i : Nat) (g : D → VS → QR VS) (b : VB) : VB := fun σ => match σ[i]? with
  | some (.va (.ol ds)) => (match intsD ds with
    | some ns => unpB i (forLI i ns g b ds (σ.set i (.rf (.ol ds))))
    | none => .bad)
  | _ => .bad
theorem unpS_ok {i : Nat} {σ σ1 : VS} (h : unpS i σ = .ok σ1) : ∃ o, σ[i]? = some (.rf o) ∧ σ1 = σ.set i (.va o) := by
  unfold unpS at h
  split at h
  · rename_i o e; cases h; exact ⟨o, e, rfl⟩
  · cases h
section
variable {K : Frag} {W : WX}
theorem StR.pinI {ρ : Rho} {pv : Nat → Option V} {S H : Hp} {σV : VS} {σ : St} {i : Nat} {o : O} {v : V} (s : StR K ρ pv S H σV σ) (h1 : σV[i]? = some (.va o)) (h3 : σ[i]? = some (some v)) :
    StR K ρ (pvI pv i v) S H (σV.set i (.rf o)) σ := by
  have hi := (List.getElem?_eq_some_iff.mp h1).1
  refine ⟨s.w, by simp [s.len], fun j sv2 o2 g1 g2 => ?_, fun j o2 g1 => ?_⟩
  · by_cases z : i = j
    · subst z
      rw [List.getElem?_set_self hi] at g1
      cases g1; cases g2
      exact s.slot i _ o h1 rfl
    · rw [List.getElem?_set_ne z] at g1
      exact s.slot j sv2 o2 g1 g2
  · by_cases z : i = j
    · subst z
      exact ⟨_, by unfold pvI; rw [if_pos rfl], h3⟩
    · rw [List.getElem?_set_ne z] at g1
      obtain ⟨v, v1, v2⟩ := s.pin j o2 g1
      exact ⟨v, by unfold pvI; rw [if_neg (fun w => z w.symm)]; exact v1, v2⟩
theorem StR.unpin {ρ : Rho} {pv : Nat → Option V} {S H : Hp} {σV : VS} {σ : St} {i : Nat} {o : O} {v : V} (s : StR K ρ (pvI pv i v) S H σV σ) (h1 : σV[i]? = some (.rf o)) :
    StR K ρ pv S H (σV.set i (.va o)) σ := by
  have hi := (List.getElem?_eq_some_iff.mp h1).1
  refine ⟨s.w, by simp [s.len], fun j sv2 o2 g1 g2 => ?_, fun j o2 g1 => ?_⟩
  · by_cases z : i = j
    · subst z
      rw [List.getElem?_set_self hi] at g1
      cases g1; cases g2
      exact s.slot i _ o h1 rfl
    · rw [List.getElem?_set_ne z] at g1
      exact s.slot j sv2 o2 g1 g2
  · by_cases z : i = j
    · subst z
      rw [List.getElem?_set_self hi] at g1
      cases g1
    · rw [List.getElem?_set_ne z] at g1
      obtain ⟨w, v1, v2⟩ := s.pin j o2 g1
      unfold pvI at v1
      rw [if_neg (fun w => z w.symm)] at v1
      exact ⟨w, v1, v2⟩
theorem BPost.unpin {ρ : Rho} {pv : Nat → Option V} {S H : Hp} {i : Nat} {v : V} {D : Ends} {r : BR} (h : BPost K W ρ pv S H D (unpB i r)) : BPost K W ρ (pvI pv i v) S H D r := by
  cases r with
  | nx σ1 =>
    intro ρ' S' H' σ' g s'
    unfold unpB at h; dsimp only at h
    cases e : unpS i σ1 with
    | bad => rw [e] at h; exact h.elim
    | ok σ3 =>
      rw [e] at h
      obtain ⟨o, e1, rfl⟩ := unpS_ok e
      exact h ρ' S' H' σ' g (s'.unpin e1)
  | bk σ1 =>
    intro ρ' S' H' σ' g s'
    unfold unpB at h; dsimp only at h
    cases e : unpS i σ1 with
    | bad => rw [e] at h; exact h.elim
    | ok σ3 =>
      rw [e] at h
      obtain ⟨o, e1, rfl⟩ := unpS_ok e
      exact h ρ' S' H' σ' g (s'.unpin e1)
  | ct σ1 =>
    intro ρ' S' H' σ' g s'
    unfold unpB at h; dsimp only at h
    cases e : unpS i σ1 with
    | bad => rw [e] at h; exact h.elim
    | ok σ3 =>
      rw [e] at h
      obtain ⟨o, e1, rfl⟩ := unpS_ok e
      exact h ρ' S' H' σ' g (s'.unpin e1)
  | err c σ1 =>
    intro ρ' S' H' σ' g s'
    unfold unpB at h; dsimp only at h
    cases e : unpS i σ1 with
    | bad => rw [e] at h; exact h.elim
    | ok σ3 =>
      rw [e] at h
      obtain ⟨o, e1, rfl⟩ := unpS_ok e
      exact h ρ' S' H' σ' g (s'.unpin e1)
  | rt ob σ1 =>
    intro ρ' S' H' σ' v ρt g s' t w
    unfold unpB at h; dsimp only at h
    cases e : unpS i σ1 with
    | bad => rw [e] at h; exact h.elim
    | ok σ3 =>
      rw [e] at h
      obtain ⟨o, e1, rfl⟩ := unpS_ok e
      exact h ρ' S' H' σ' v ρt g (s'.unpin e1) t w
  | bad => exact h
theorem forI_core {J : It} {G : Hp → Prop} {Y : Nat → Hp → V → Hp → Prop} {i0 : Nat} {ns : List Int} {ds : List VL.D} {ts : TS} {tg : TG} {g : VL.D → VS → QR VS} {tl : List Nat} {b : VB} {ρ : Rho} {pv : Nat → Option V} {S H : Hp} {σV : VS} {σ : St} {D : Ends} (hg : SimG K tg tl g) (hb : SimS K W ts b) (s : StR K ρ pv S H σV σ)
    (wk : Walk J ds.length G Y) (hG : ∀ ρ2 S2 H2 σV2 σ2, StR K ρ2 pv S2 H2 σV2 σ2 → okI i0 ns σV2 = true → G H2)
    (hY : ∀ ρ2 S2 H2 i x H3, i < ds.length → Grw ρ S H ρ2 S2 H2 → Ex S2 H2 → Y i H2 x H3 → ∃ S3 d, Quiet S2 H2 S3 H3 ∧ Ex S3 H3 ∧ ds[i]? = some d ∧ Fz K S3 d x)
    (h : BPost K W ρ pv S H D (forLI i0 ns g b ds σV)) :
    ∃ W : Nat → Nat → St → Hp → Prop, (∃ m, W 0 m σ H) ∧ ∀ i m σ H, W i m σ H →
      (J.stop i H ∧ D.nx σ H) ∨ (J.go i H ∧ ∃ N : St → Hp → Prop, (∀ σ' H', N σ' H' → ∃ m', m' < m ∧ W (i + 1) m' σ' H') ∧ ∀ x H', J.yld i H x H' → tg x σ H' fun σ2 H2 => ts { D with nx := N, ct := N, bk := D.nx } σ2 H2) := by
  refine for_it wk (fun i σ2 H2 => ∃ ρ2 S2 σV2, Grw ρ S H ρ2 S2 H2 ∧ StR K ρ2 pv S2 H2 σV2 σ2 ∧ BPost K W ρ pv S H D (forLI i0 ns g b (ds.drop i) σV2)) ⟨ρ, S, σV, .refl, s, h⟩ ?_ ?_ ?_
  · rintro i σ2 H2 _ ⟨ρ2, S2, σV2, g2, s2, p2⟩
    refine hG ρ2 S2 H2 σV2 σ2 s2 ?_
    cases e : ds.drop i with
    | nil =>
      rw [e] at p2
      unfold forLI at p2
      by_cases c : okI i0 ns σV2 = true
      · exact c
      · rw [if_neg c] at p2; exact p2.elim
    | cons d l =>
      rw [e] at p2
      unfold forLI at p2
      by_cases c : okI i0 ns σV2 = true
      · exact c
      · rw [if_neg c] at p2; exact p2.elim
  · rintro i x σ2 H2 H3 hlt ⟨ρ2, S2, σV2, g2, s2, p2⟩ y
    obtain ⟨S3, d, q3, ex3, hd, w3⟩ := hY ρ2 S2 H2 i x H3 hlt g2 s2.w.ex y
    have s3 := s2.quiet q3 ex3
    rw [drop_at hd] at p2
    refine hg ρ2 pv S3 H3 σV2 σ2 d x _ s3 w3 ?_
    unfold forLI at p2
    by_cases c : okI i0 ns σV2 = true
    case neg => rw [if_neg c] at p2; exact p2.elim
    rw [if_pos c] at p2
    have p3 : BPost K W ρ pv S H D (match g d σV2 with
      | .ok σ1 => (match b σ1 with
        | .nx σ2 => forLI i0 ns g b (ds.drop (i + 1)) σ2
        | .ct σ2 => forLI i0 ns g b (ds.drop (i + 1)) σ2
        | .bk σ2 => .nx σ2
        | r => r)
      | .bad => .bad) := p2
    cases eg : g d σV2 with
    | bad => rw [eg] at p3; exact p3
    | ok σ4 =>
      rw [eg] at p3
      intro σ4' s4 _
      have g3 : Grw ρ S H ρ2 S3 H3 := g2.trans q3.grw
      refine hb ρ2 pv S3 H3 σ4 σ4' _ s4 ?_
      have p4 : BPost K W ρ2 pv S3 H3 D (match b σ4 with
        | .nx σ2 => forLI i0 ns g b (ds.drop (i + 1)) σ2
        | .ct σ2 => forLI i0 ns g b (ds.drop (i + 1)) σ2
        | .bk σ2 => .nx σ2
        | r => r) := BPost.at g3 p3
      have p5 : BPost K W ρ pv S H D (match b σ4 with
        | .nx σ2 => forLI i0 ns g b (ds.drop (i + 1)) σ2
        | .ct σ2 => forLI i0 ns g b (ds.drop (i + 1)) σ2
        | .bk σ2 => .nx σ2
        | r => r) := p3
      cases eb : b σ4 with
      | nx σ5 => rw [eb] at p5; exact fun ρ5 S5 H5 σ5' g5 s5 => ⟨ρ5, S5, σ5, g3.trans g5, s5, p5⟩
      | ct σ5 => rw [eb] at p5; exact fun ρ5 S5 H5 σ5' g5 s5 => ⟨ρ5, S5, σ5, g3.trans g5, s5, p5⟩
      | bk σ5 => rw [eb] at p4; exact p4
      | rt o σ5 => rw [eb] at p4; exact p4
      | err c' σ5 => rw [eb] at p4; exact p4
      | bad => rw [eb] at p4; exact p4
  · rintro σ2 H2 ⟨ρ2, S2, σV2, g2, s2, p2⟩
    rw [List.drop_length] at p2
    unfold forLI at p2
    by_cases c : okI i0 ns σV2 = true
    · rw [if_pos c] at p2; exact p2 ρ2 S2 H2 σ2 g2 s2
    · rw [if_neg c] at p2; exact p2.elim
theorem sim_forI {i : Nat} {tg : TG} {g : D → VS → QR VS} {tl : List Nat} {ts : TS} {b : VB} (hg : SimG K tg tl g) (hb : SimS K W ts b) : SimS K W (tFor (iSeq K (tVar i)) tg ts) (sForI i g b) := fun ρ pv S H σV σ D s h => by
  unfold sForI at h
  split at h
  · rename_i ds e
    cases en : intsD ds with
    | none => rw [en] at h; exact h.elim
    | some ns =>
      rw [en] at h; dsimp only at h
      obtain ⟨v, v1, v2⟩ := s.slot i _ _ e rfl
      have v2' := v2
      unfold Ow at v2
      obtain ⟨a, vs, rfl, r1, h1, f⟩ := v2
      have s' := s.pinI e v1
      have hi := (List.getElem?_eq_some_iff.mp e).1
      refine ⟨_, v1, a, rfl, .inl ⟨⟨vs, SqL.of h1⟩, ?_⟩⟩
      have fi := f
      rw [intsD_eq en] at fi
      have evs := FzL.ints.mp fi
      refine forI_core (i0 := i) (ns := ns) hg hb s' (f.len ▸ walk_list (xs := vs)) (fun ρ2 S2 H2 σV2 σ2 s2 ok => ?_) (fun ρ2 S2 H2 k x H3 hk g2 ex y => ?_) h.unpin
      · unfold okI at ok
        split at ok
        · rename_i ds2 e2
          have en2 : intsD ds2 = some ns := of_decide_eq_true ok
          obtain ⟨w, w1, w2⟩ := s2.slot i _ _ e2 rfl
          obtain ⟨w', p1, p2⟩ := s2.pin i _ e2
          unfold pvI at p1
          rw [if_pos rfl] at p1
          cases p1
          rw [w1] at p2
          cases p2
          unfold Ow at w2
          obtain ⟨a2, vs2, ea, _, h2, f2⟩ := w2
          cases ea
          rw [intsD_eq en2] at f2
          have evs2 := FzL.ints.mp f2
          rw [evs, ← evs2]
          exact SqL.of h2
        · cases ok
      · obtain ⟨rfl, hx⟩ := y
        obtain ⟨d, hd, q⟩ := f.getV hx
        exact ⟨S2, d, .refl, ex, hd, q.mono g2.s⟩
  · exact h.elim
end
end VL
set_option maxRecDepth 100000
set_option maxHeartbeats 4000000
/-! V36: == by an own __eq__ that may say no -/
namespace L2
open PySem PySem.Spec PyProof.Rows
def eqTs : List String := ["NoneType", "int", "str", "bool", "tuple", "list"]
def noErr0 : XK := fun _ _ _ => False
def rEqO (K : PySem.W.Frag) (C : Addr) (sp : Sp) : R2 := fun x y H Q => ∃ a dx fs, x = V.ref a ∧ H a = some (.ins C dx fs) ∧ ((∃ T, TyX K H y (.type T) ∧ T ∈ eqTs) ∨ ∃ b dy gs, y = .ref b ∧ H b = some (.ins C dy gs)) ∧ sp [x, y] H (fun v H' => (∃ b, v = V.bl b) ∧ Q v H') noErr0
theorem notFirst_b {K : PySem.W.Frag} {C : Addr} {T : String} (h : T ∈ eqTs) : PySem.W.notFirst K C (.type T) = true := by
  unfold eqTs at h
  simp only [List.mem_cons, List.not_mem_nil, or_false] at h
  unfold PySem.W.notFirst
  rw [Bool.or_eq_true]
  refine .inr ?_
  rcases h with rfl | rfl | rfl | rfl | rfl | rfl <;> rfl
section
variable {X : Cx} {n : Nat}
theorem op_ownEq {C f : Addr} {fd : FuncData} {ps : List Str} {sp : Sp} (F : FnOk X.prog X.w X.K X.mg X.base (L2.CX X.prog X.w) n f fd ps sp) (hm : Meth X.K C "__eq__" f) (hb : Binds X.K fd ps []) (hr : Room n X.A) : OpR X (compareOp .Eq) (rEqO X.K C sp) := by
  intro pins s σ H x y v u Q I rx ry h
  obtain ⟨a, dx, fs, rfl, ha, hy, hsp⟩ := h
  show wpAny (model X.prog X.w) X.A (richCompare .Eq v u) (EP X pins σ Q) X.xe s
  cases rx
  obtain ⟨mA, J, _⟩ := ins_get I.hok ha
  obtain ⟨od, J, _⟩ := J.look
  obtain ⟨m, hF⟩ := I.fr
  have hty : ∃ tb, PySem.W.Looks (model X.prog X.w) s.heap (typeOf u) tb ∧ PySem.W.notFirst X.K C tb = true := by
    rcases hy with ⟨T, ty, hT⟩ | ⟨b, dy, gs, rfl, hb'⟩
    · obtain ⟨P, Z, p, _⟩ := kit_of I ry ty
      exact ⟨_, Z.ty _ _ I.kIn p, notFirst_b hT⟩
    · cases ry
      obtain ⟨mB, J', _⟩ := ins_get I.hok hb'
      obtain ⟨od', J', _⟩ := J'.look
      exact ⟨.ref C, J'.type, by simp [PySem.W.notFirst]⟩
  obtain ⟨tb, hL, hnf⟩ := hty
  refine PySem.W.cmp_K (op := .Eq) (tb := tb) hr.units0 hF I.ok.mod.kin J hL hnf hm.at_ hm.fn ?_
  have e0 : Env0 X.prog X.w X.K X.mg X.base X.A X.stack s H := I.env0
  have hl := F.len _ _ _ _ hsp
  have r2 : Vals [V.ref a, y] [Value.ref a, u] := .cons rfl (.cons ry .nil)
  refine wpAny_call (codeAny_mono (F.run X.A X.stack s H ⟨[.ref a, u], []⟩ [.ref a, u] [.ref a, y] _ noErr0 hr e0 (by
    have := hb s [.ref a, u] I.kIn (by simpa using hl)
    simpa using this) r2 hsp) fun r s' hq => ?_)
  cases r with
  | error e =>
    obtain ⟨_, _, _, _, _, _, _, _, _, _, _, _, z⟩ := hq
    exact z.elim
  | ok fl =>
    cases fl with
    | ret w =>
      obtain ⟨z, H', I', rz, ⟨b, rfl⟩, q⟩ := I.after hq
      cases rz
      exact ⟨.bl b, H', I', rfl, q⟩
    | next => exact False.elim hq
    | brk => exact False.elim hq
    | cont => exact False.elim hq
theorem op_ownEqK {K : PySem.W.Frag} (hK : X.K = K) {C f : Addr} {fd : FuncData} {ps : List Str} {sp : Sp} (F : FnOk X.prog X.w K X.mg X.base (L2.CX X.prog X.w) n f fd ps sp) (hm : Meth K C "__eq__" f) (hb : Binds K fd ps []) (hr : Room n X.A) : OpR X (compareOp .Eq) (rEqO K C sp) := by
  subst hK; exact op_ownEq F hm hb hr
end
end L2
namespace VL
open PySem L2
def okY (C : Str) (d : D) : Bool := match d with
  | .obj C' _ _ => decide (C' = C)
  | d => match tyO (.val d) with
    | some T => decide (T ∈ eqTs)
    | none => false
def fEqO (C : Str) (m : FS) : List O → QR O
  | [.val (.obj C' ns ds), .val d] => if C' = C ∧ okY C d = true then (match m [.val (.obj C' ns ds), .val d] with
    | .ok (.val (.bl b)) _ => .ok (.val (.bl b))
    | _ => .bad) else .bad
  | _ => .bad
section
variable {K : Frag}
theorem s_eqO {C : Str} {m : FS} : SimR K (r2l (rEqO K (He.ga K C) (SpOf K (List.replicate 2 false) m))) (fEqO C m) := fun ρ S H os vs Q w wa h => by
  unfold fEqO at h
  split at h
  · rename_i C' ns ds d
    obtain ⟨v, p, v2, p2, rfl, h1, h2⟩ := wa.two
    by_cases c : C' = C ∧ okY C d = true
    · rw [if_pos c] at h
      obtain ⟨rfl, ok⟩ := c
      have h1' := h1
      have h2' := h2
      unfold Ow at h1 h2
      have z := h1
      unfold Fz at z
      obtain ⟨a, dx, ws, rfl, z1, _, _, _⟩ := z
      refine ⟨a, dx, _, rfl, w.ex _ _ z1, ?_, fun _ => none, S, [.val (.obj C' ns ds), .val d], ⟨w.ex, fun a q h => (by cases h), w.ft⟩, ?_, ?_⟩
      · unfold okY at ok
        split at ok
        · rename_i C2 ns2 ds2
          have e2 : C2 = C' := of_decide_eq_true ok
          subst e2
          unfold Fz at h2
          obtain ⟨b, dy, ws2, rfl, z2, _⟩ := h2
          exact .inr ⟨b, dy, _, rfl, w.ex _ _ z2⟩
        · cases e3 : tyO (.val d) with
          | none => rw [e3] at ok; cases ok
          | some T =>
            rw [e3] at ok
            exact .inl ⟨T, tyO_ok w h2' e3, of_decide_eq_true ok⟩
      · have fz : FzL K S [.obj C' ns ds, d] [V.ref a, v2] := by
          unfold FzL
          refine ⟨_, _, rfl, h1, ?_⟩
          unfold FzL
          refine ⟨_, _, rfl, h2, ?_⟩
          unfold FzL; rfl
        exact pre_vals (ρ := ρ) fz rfl md_no
      · cases e : m [.val (.obj C' ns ds), .val d] with
        | bad => rw [e] at h; exact h.elim
        | err c outs => rw [e] at h; exact h.elim
        | ok o outs =>
          rw [e] at h
          cases o with
          | val d2 =>
            cases d2 with
            | bl b =>
              intro ρ' S' H' v' ρ2 g w' _ t w2
              have hv : v' = .bl b := by unfold Ow Fz at w2; exact w2
              subst hv
              exact ⟨⟨b, rfl⟩, h S' H' (.bl b) [] (Quiet.of0 g w') w'.ex (by unfold Ow Fz; rfl)⟩
            | _ => exact h.elim
          | _ => exact h.elim
    · rw [if_neg c] at h; exact h.elim
  · exact h.elim
end
end VL
set_option maxRecDepth 100000
set_option maxHeartbeats 4000000
/-! V37: isinstance(x, C) of an own class -/
namespace VL
open PySem L2
def fIsC (C : Str) : List O → QR O
  | [.val (.obj C' _ _)] => if C' = C then .ok (.val (.bl true)) else .bad
  | [.ob C' _ _] => if C' = C then .ok (.val (.bl true)) else .bad
  | [o] => match tyO o with
    | some T => if T ∈ eqTs then .ok (.val (.bl false)) else .bad
    | none => .bad
  | _ => .bad
theorem kit_self {K : Frag} {C : Addr} : PySem.W.kitOne K (.ref C) (.ref C) = some true := by
  unfold PySem.W.kitOne
  rw [if_pos (by simp)]
section
variable {K : Frag} {W : WX}
def rIs1 (K : Frag) (C : Addr) : V → Hp → VK → Prop := fun v H Q => rIsi K [v, .ref C] H Q
theorem s_isC {C : Str} (hc : Cls K (He.ga K C)) (f : He.IscF K (He.ga K C)) : SimR K (r1l (rIs1 K (He.ga K C))) (fIsC C) := fun ρ S H os vs Q w wa h => by
  obtain ⟨f1, f2, f3, f4, f5⟩ := f
  have fin : ∀ (b : Bool) (v : V) (t : Value), RPost K ρ S H Q (.ok (.val (.bl b))) → TyX K H v t → PySem.W.kitOne K t (.ref (He.ga K C)) = some b → rIsi K [v, .ref (He.ga K C)] H Q := fun b v t h ty e =>
    ⟨v, _, t, _, b, rfl, .own _, ty, e, h S H (.bl b) [] .refl w.ex (by unfold Ow Fz; rfl)⟩
  unfold fIsC at h
  split at h
  · rename_i C' ns ds
    obtain ⟨v, p, rfl, h1⟩ := wa.one
    by_cases c : C' = C
    · rw [if_pos c] at h
      subst c
      unfold Ow Fz at h1
      obtain ⟨a, dx, ws, rfl, z1, _⟩ := h1
      exact fin true _ _ h (.base (.ins (w.ex _ _ z1) hc f1 f2 f3 f4)) kit_self
    · rw [if_neg c] at h; exact h.elim
  · rename_i C' ns ds
    obtain ⟨v, p, rfl, h1⟩ := wa.one
    by_cases c : C' = C
    · rw [if_pos c] at h
      subst c
      unfold Ow at h1
      obtain ⟨a, dx, ws, rfl, _, _, z1, _⟩ := h1
      exact fin true _ _ h (.base (.ins z1 hc f1 f2 f3 f4)) kit_self
    · rw [if_neg c] at h; exact h.elim
  · rename_i o _ _
    obtain ⟨v, p, rfl, h1⟩ := wa.one
    cases e : tyO o with
    | none => rw [e] at h; exact h.elim
    | some T =>
      rw [e] at h
      have h' : RPost K ρ S H Q (if T ∈ eqTs then .ok (.val (.bl false)) else .bad) := h
      by_cases c : T ∈ eqTs
      · rw [if_pos c] at h'
        exact fin false _ _ h' (tyO_ok w h1 e) (f5 T c)
      · rw [if_neg c] at h'; exact h'.elim
  · exact h.elim
theorem sim_isC {C : Str} {te : TE} {x : VX} (hc : Cls K (He.ga K C)) (f : He.IscF K (He.ga K C)) (hx : SimX K W te x) : SimX K W (tCB (rIsi K) (tCons te (tCons (tC (.ref (He.ga K C))) tNil))) (v1 (fIsC C) x) :=
  sim_un (r := rIs1 K (He.ga K C)) (s_isC hc f) hx
end
end VL
set_option maxRecDepth 100000
set_option maxHeartbeats 4000000
/-! V38: promises that hold where no repr is under way (str of containers wants to know that) -/
namespace VL
open PySem PySem.Spec PyProof.Rows L2
structure FnG (P : Program) (w : World) (K : Frag) (mg : Str → Option Value) (base : Heap) (CX : CXT) (k : Nat) (f : Addr) (fd : FuncData) (ps : List Str) (sp : Sp) : Prop where
  ln : ∀ vs H Q E, sp vs H Q E → vs.length = ps.length
  go : ∀ (A : Around) (out : List Env) (s : Shared) (H : Hp) (ar : Args) (us : List Value) (vs : List V) (Q : VK) (E : XK), A.guards = some [] → Room k A → Env0 P w K mg base A out s H → BindsTo s fd ar (ps.zip us) → Vals vs us → sp vs H Q E →
    codeAny (model P w) A (.call (.ref f) ar) (CR CX out P w H s Q E) s
section
variable {P : Program} {w : World} {K : Frag} {mg : Str → Option Value} {base : Heap} {k : Nat} {f : Addr} {name qual : Str} {params : Arguments} {body : List Stmt} {scope : Scope} {fd : FuncData} {N ps : List Str} {md : List Bool} {b : VB} {CX : CXT} {sp : Sp}
theorem FnG.of (F : FnOk P w K mg base CX k f fd ps sp) : FnG P w K mg base CX k f fd ps sp := ⟨F.len, fun A out s H ar us vs Q E _ => F.run A out s H ar us vs Q E⟩
theorem FnG.up {j : Nat} (F : FnG P w K mg base CX j f fd ps sp) (h : j ≤ k) : FnG P w K mg base CX k f fd ps sp := ⟨F.ln, fun A out s H ar us vs Q E g r => F.go A out s H ar us vs Q E g (r.mono h)⟩
theorem okG (F : FunD K name qual params body scope [] [] f fd) (Sc : FnScope N ps scope) (ln : ∀ vs H Q E, sp vs H Q E → vs.length = ps.length)
    (hb : ∀ (cdv : Value) (A : Around) (out : List Env) (s : Shared) (H : Hp) (vs : List V) (Q : VK) (E : XK), A.guards = some [] → Room k (A.deeper (envOfC qual scope s.heap.objs.size f cdv)) → sp vs H Q E →
      ∃ t, PSs (cxOf CX P w K mg base N qual scope f cdv A out s H E) body t ∧ t { nx := fun _ H' => Q .non H', rt := Q } (L2.start N vs) H) : FnG P w K mg base CX (k + 1) f fd ps sp := by
  obtain ⟨c1, c2, c3, c4, c5, c6, c7, cdv, c9, c10, e, look, code, _, _⟩ := F.ex
  subst e
  constructor
  · exact ln
  intro A out s H ar us vs Q E gd room e0 bind rel pre
  have long := ln _ _ _ _ pre
  have inK : K.In s.heap := e0.mod.kin.keeps fun x y z => (e0.bs x y z).1
  have nolim := e0.mod.nolimit.keeps fun x y z => (e0.bs x y z).1
  refine codeAny_call_function room.depth (inK _ _ look) rfl Sc.co Sc.gen rfl (PySem.W.codeRec_of inK code) (bind _ _ _ _ ?_)
  refine wpAny_newFunctionEnv_cells Sc.kind (fun y hy => ?_) fun env ee s1 cl => ?_
  · exact (Sc.par y.1 (List.of_mem_zip hy).1).imp id fun q => ⟨q, PySem.W.cellsFrom_some _ _ _ (.inl q)⟩
  subst ee
  refine ⟨nolim.keeps cl.toInCall.keep, codeAny_func ?_⟩
  obtain ⟨t, pt, qt⟩ := hb cdv A out s H vs Q E gd (room.deeper _) pre
  have inv := inv_start (CX := CX) (E := E) Sc room.hd e0 long rel cl
  refine wpAny_mono (pt.run [] s1 _ H _ inv qt) (fun fl s' z => ?_) fun _ _ z => z
  cases fl with
  | ret u =>
    obtain ⟨v, σ', H', J, rv, q⟩ := z
    exact ⟨v, H', J.os, J.bare, J.base, J.hok, rv, q⟩
  | next =>
    obtain ⟨σ', H', J, q⟩ := z
    exact ⟨V.non, H', J.os, J.bare, J.base, J.hok, rfl, q⟩
  | brk => obtain ⟨_, _, _, q⟩ := z; exact False.elim q
  | cont => obtain ⟨_, _, _, q⟩ := z; exact False.elim q
/-- a def keeps the promise of its meaning, where no repr is under way -/
theorem fnVG (F : FunD K name qual params body scope [] [] f fd) (Sc : FnScope N ps scope) (hm : md.length = ps.length)
    (hb : ∀ (cdv : Value) (A : Around) (outer : List Env) (s : Shared) (H : Hp) (E : XK), A.guards = some [] → Room k (A.deeper (envOfC qual scope s.heap.objs.size f cdv)) →
      ∃ t, PSs (cxOf (L2.CX P w) P w K mg base N qual scope f cdv A outer s H E) body t ∧ SimS K (fun cls d _ H' => E cls d H') t b) :
    FnG P w K mg base (L2.CX P w) (k + 1) f fd ps (SpOf K md (runG md (N.length - md.length) b)) := by
  refine okG F Sc (fun vs H Q E h => ?_) (fun cdv A outer s H vs Q E hg hr h => ?_)
  · obtain ⟨ρ, S, os, _, p, _⟩ := h
    rw [p.2.1, hm]
  · obtain ⟨t, ht, hs⟩ := hb cdv A outer s H E hg hr
    refine ⟨t, ht, ?_⟩
    obtain ⟨ρ, S, os, wf, p, post⟩ := h
    have hN : md.length ≤ N.length := by
      have := congrArg List.length Sc.pre
      rw [List.length_take] at this
      omega
    have s0 := StR.start (N := N) wf p hN
    refine hs ρ _ S H _ _ _ s0 ?_
    have post' : FPst K md vs ρ S H Q E (match b (startV md os (N.length - md.length)) with
      | .nx σ => if rfOk md σ = true then .ok (.val .non) (outsV md.length σ) else .bad
      | .rt o σ => if rfOk md σ = true then .ok o (outsV md.length σ) else .bad
      | .err c σ => if rfOk md σ = true then .err c (outsV md.length σ) else .bad
      | _ => .bad) := post
    cases e : b (startV md os (N.length - md.length)) with
    | bad => rw [e] at post'; exact post'
    | bk _ => rw [e] at post'; exact post'.elim
    | ct _ => rw [e] at post'; exact post'.elim
    | nx σ1 =>
      rw [e] at post'; dsimp only at post'
      intro ρ' S' H' σ' g s1
      cases hr : rfOk md σ1 with
      | false => rw [hr] at post'; exact post'.elim
      | true =>
        rw [hr] at post'
        exact post' ρ' S' H' .non (fun _ => none) g s1.w (out_of s1 hr) ⟨fun _ _ h => (by cases h), fun _ _ h => (by cases h), fun _ _ _ _ => rfl⟩ (.v (fz_non _))
    | rt o σ1 =>
      rw [e] at post'; dsimp only at post'
      intro ρ' S' H' σ' v ρ2 g s1 t2 w2
      cases hr : rfOk md σ1 with
      | false => rw [hr] at post'; exact post'.elim
      | true =>
        rw [hr] at post'
        exact post' ρ' S' H' v ρ2 g s1.w (out_of s1 hr) t2 w2
    | err c σ1 =>
      rw [e] at post'; dsimp only at post'
      intro ρ' S' H' σ' g s1
      cases hr : rfOk md σ1 with
      | false => rw [hr] at post'; exact post'.elim
      | true =>
        rw [hr] at post'
        exact post' ρ' S' H' g s1.w (out_of s1 hr)
theorem FnG.noE {m : FS} (F : FnG P w K mg base (L2.CX P w) k f fd ps (SpOf K md m)) : FnG P w K mg base CX0 k f fd ps (fun vs H Q _ => SpOf K md m vs H Q fun _ _ _ => False) := by
  refine ⟨fun vs H Q E h => F.ln vs H Q _ h, fun A out s H ar us vs Q E g r e0 bt rv pre => ?_⟩
  refine codeAny_mono (F.go A out s H ar us vs Q (fun _ _ _ => False) g r e0 bt rv pre) fun res s' z => ?_
  cases res with
  | error e =>
    obtain ⟨_, _, _, _, _, _, _, _, _, _, _, _, q⟩ := z
    exact q.elim
  | ok fl => cases fl <;> exact z
end
/-! ### calls of such defs -/
section
variable {X : Cx} {K : Frag} {mg : Str → Option Value} {base : Heap} {k : Nat} {f : Addr} {fd : FuncData} {ps : List Str} {sp : Sp} {x : Str} {e : PySem.Expr} {es : List PySem.Expr} {t : TA} {E : L2.St → XK} {CX : CXT} {p pos : Pos}
theorem pe_callG (F : FnG X.prog X.w X.K X.mg X.base CX k f fd ps sp) (hgd : X.A.guards = some []) (hr : Room k X.A) (hg : Gl X x) (hm : X.mg x = some (.ref f)) (hk : PySem.W.keepIn X.K (.ref f) = true) (hb : Binds X.K fd ps []) (hx : ∀ σ, PassesAt CX X σ (E σ))
    (ha : PA X (e :: es) t) (hdb : (x == ("__debug__" : Str)) = false := by decide) (he : starEach (e :: es) X.env = (false, eval e X.env) :: starEach es X.env := by rfl) (hpl : (backTo pos (starEach es X.env)).any (·.1) = false := by rfl) :
    PE X (.Call (.Name x p) (e :: es) [] pos) (tCallS sp E t) := by
  constructor
  intro pins s σ H Q I h
  refine wpAny_Call_Name_kw (ld_glob I hg hm ?_ hdb)
  refine PySem.W.callWith_K (h₀ := X.base) I.ok.mod.kin hk (thn (ha.run pos pins s σ H _ I h) fun us s1 ⟨vs, H1, J, rv, pre⟩ => ⟨J.kIn, ?_⟩) he hpl
  have n1 : us.length = ps.length := by rw [← rv.length]; exact F.ln _ _ _ _ pre
  have bt := hb s1 us J.kIn (by simpa using n1)
  rw [List.append_nil] at bt
  refine wpAny_call (codeAny_mono (F.go X.A X.stack s1 H1 ⟨us, []⟩ us vs Q (E σ) hgd hr J.env0 bt rv pre) fun r s' z => ?_)
  cases r with
  | error e => exact hx σ pins H1 s1 e s' J z
  | ok fl =>
    cases fl with
    | ret u => exact J.after z
    | _ => exact False.elim z
end
/-! ### the law -/
section
variable {P : Program} {w : World} {K : Frag} {mg mb : Str → Option Value} {CX : CXT} {k : Nat} {fa a : Addr} {fd : FuncData} {x : Str} {sp : Sp} {s1 : Shared} {us : List Value} {ns : List Int}
theorem callG (inK : K.In s1.heap) (mn : s1.heap.Ns mainGlobals mg) (mbb : s1.heap.Ns builtinsNs mb) (boot : ∀ x : Str, x ≠ "__name__" → mb x = bootBuiltins x) (nolim : s1.heap.NoLimit) (gens : s1.gens = #[])
    (hs : s1.heap.get? a = some { cls := .type "list", data := .seq us.toArray }) (isI : IntsAre us ns) (size : ns.length ≤ sizeLine) (room : Room k callerA)
    (F : ∀ base : Heap, K.In base → base.Ns mainGlobals mg → FnG P w K mg base CX k fa fd [x] sp) (bt : ∀ (s : Shared) (u : Value), BindsTo s fd ⟨[u], []⟩ [(x, u)])
    (pre : ∀ H : Hp, Only H → SqL K H a (ns.map V.int) → sp [.ref a] H (fun v _ => v = .bl true) fun _ _ _ => False)
    (noX : ∀ H e s', CX [] H s1 (fun _ _ _ => False) e s' → False) :
    codeAny (model P w) callerA (.call (.ref fa) ⟨[.ref a], []⟩) (fun r s' => r = .ok (.ret (.bool true)) ∧ OldK s1.heap s'.heap ∧ s'.os = s1.os ∧ AllBare s'.gens) s1 := by
  have rel := vals_ints isI
  have from_ : ∀ H : Hp, Only H → SqL K H a (ns.map V.int) → HOk P w H s1.heap → (∀ b, b ≠ a → H b = none) → (K.lookup a ≠ none → H a = none) →
      codeAny (model P w) callerA (.call (.ref fa) ⟨[.ref a], []⟩) (fun r s' => r = .ok (.ret (.bool true)) ∧ OldK s1.heap s'.heap ∧ s'.os = s1.os ∧ AllBare s'.gens) s1 := by
    intro H only sq hok off offK
    have noD : ∀ {b : Addr} {o : Obj} {es : Array DictEntry} {ep : Nat}, s1.heap.get? b = some o → o.data = .dict es ep → H b = none := fun {b o es ep} e d => by
      by_cases hb : b = a
      · subst hb
        rw [hs] at e
        cases e
        have d' : Data.seq us.toArray _ = Data.dict es ep := d
        cases d'
      · exact off b hb
    have ns_ : ∀ {b : Addr} {m : Str → Option Value}, s1.heap.Ns b m → (hidT s1.heap H).Ns b m := fun {b m} z => by
      obtain ⟨o, es, ep, e, d, r⟩ := z
      exact ⟨o, es, ep, hidT_get e (noD e d), d, r⟩
    have inB : K.In (hidT s1.heap H) := fun b o e => hidT_get (inK b o e) (by
      by_cases hb : b = a
      · subst hb; exact offK (by rw [e]; simp)
      · exact off b hb)
    obtain ⟨mc, l1, l2⟩ := nolim
    have e0 : Env0 P w K mg (hidT s1.heap H) callerA [] s1 H :=
      { frames := rfl, mod := ⟨inB, ns_ mn, ⟨mb, ns_ mbb, boot⟩, ⟨mc, ns_ l1, l2⟩⟩, bs := fun b o e => of_hidT e, bsz := Nat.le_of_eq (hidT_size _ _), funs := trivial, frf := fun b hb => (by cases hb), hok := hok, bare := .of_eq gens }
    have run := (F _ inB (ns_ mn)).go callerA [] s1 H ⟨[.ref a], []⟩ [.ref a] [.ref a] _ _ rfl room e0 (bt s1 (.ref a)) (.cons rfl .nil) (pre H only sq)
    refine codeAny_mono run fun r s' z => ?_
    cases r with
    | error e => exact (noX H e s' z).elim
    | ok fl =>
      cases fl with
      | ret u =>
        obtain ⟨v, H', os, bare, un, hok', rv, q⟩ := z
        have q' : v = .bl true := q
        subst q'
        have eu : u = Value.bool true := rv
        subst eu
        refine ⟨rfl, OldK.of_keep fun b o e => ?_, os, bare⟩
        rcases only b with n | ⟨ob, xs, n⟩
        · exact un.keep b o e n (fun z => by cases z) (by simp)
        · obtain ⟨e1, _⟩ := hok b _ n
          obtain ⟨e2, _⟩ := hok' b _ (un.frzs b ob _ n)
          rw [e] at e1
          cases e1
          exact e2
      | _ => exact False.elim z
  cases hk : K.lookup a with
  | some o =>
    have e := inK a o hk
    rw [hs] at e
    cases e
    exact from_ (fun _ => none) (fun _ => .inl rfl) (.inr ⟨_, us.toArray, _, hk, rfl, rfl, rfl, by rw [List.size_toArray, isI.length]; exact size, by simpa using rel⟩) (fun b u z => by cases (show (none : Option HO) = some u from z)) (fun _ _ => rfl) fun _ => rfl
  | none =>
    have at_a : ∀ o : Option HO, (if a = a then o else none) = o := fun o => if_pos rfl
    refine from_ (fun b => if b = a then some (.frz { cls := .type "list", data := .seq us.toArray } (.lst (ns.map V.int))) else none) (fun b => ?_) (.inl (.inr ⟨_, at_a _⟩)) (fun b u z => ?_) (fun b hb => if_neg hb) fun z => absurd hk z
    · by_cases hb : b = a
      · subst hb; exact .inr ⟨_, _, at_a _⟩
      · exact .inl (if_neg hb)
    · by_cases hb : b = a
      · subst hb
        have z' := (at_a _).symm.trans z
        cases z'
        exact ⟨hs, by rw [List.length_map]; exact size, us, _, rel, hs⟩
      · cases (if_neg hb).symm.trans z
end
theorem walkG {l : PySem.W.OpenLaw} {n k : Nat} {q : Program} {loose : List Str} {XP : (Str → Option Value) → Heap → Prop} {YP : World → Heap → Prop} {d : DefRec} {CX : CXT} {x : Str}
    (h1 : l.most = some n) (h2 : n ≤ sizeLine) (h3 : d.params.defaults = []) (room : Room k callerA)
    (F : ∀ (w : World) (mg : Str → Option Value) (fa : Addr) (h : Heap), YP w h → h.Ns mainGlobals mg → mg d.name = some (.ref fa) →
      ∃ (K : Frag) (fd : FuncData) (sp : Sp), K.In h ∧ (∀ (s : Shared) (u : Value), BindsTo s fd ⟨[u], []⟩ [(x, u)]) ∧
        (∀ (H : Hp) (a : Addr) (ns : List Int), ns.length ≤ n → Only H → SqL K H a (ns.map V.int) → sp [.ref a] H (fun v _ => v = .bl true) fun _ _ _ => False) ∧
        ∀ base : Heap, K.In base → base.Ns mainGlobals mg → FnG l.prog w K mg base CX k fa fd [x] sp)
    (noX : ∀ (H : Hp) (s : Shared) (e : Value) (s' : Shared), CX [] H s (fun _ _ _ => False) e s' → False) :
    PySem.W.WalkO q loose XP YP l.row.toRowW d [] (fun f vs => PySem.call f vs) := by
  refine Att.attach_call h1 h3 fun w s0 s1 mg mb fa o pm cd doc a us ns G Y _ _ _ named obj isI len gens => ?_
  obtain ⟨K, fd, sp, inK, bt, pre, run⟩ := F w mg fa _ Y G.T.g named
  exact callG inK G.T.g G.T.b G.T.builtins G.T.nolimit gens obj isI (Nat.le_trans len h2) room run bt (fun H o S => pre H a ns len o S) fun H e s' => noX H s1 e s'
end VL
set_option maxRecDepth 100000
set_option maxHeartbeats 4000000
/-! V39: str of plain data -/
namespace L2
open PySem PySem.Spec PyProof.Rows
/-- the text of plain data -/
def txt : PyData → Str
  | .str y => y
  | d => d.shown
/-- an empty dict of plain keys, locked or not -/
def NoKeys (H : Hp) (v : V) : Prop := ∃ a, v = .ref a ∧ (H a = some (.dK []) ∨ ∃ ob, H a = some (.frz ob (.dK [])))
def rStrD (K : PySem.W.Frag) : List V → Hp → VK → Prop := fun xs H Q => ∃ x d, xs = [x] ∧ ((Dp K H x d ∧ SeqAt.shaped d = true) ∨ (d = .dict [] ∧ NoKeys H x)) ∧ d.showable = true ∧ d.shown.length ≤ sizeLine ∧ Q (.str (txt d)) H
section
variable {X : Cx} {K : PySem.W.Frag}
theorem reads_noKeys {pins : List (Addr × Obj)} {σ : St} {H : Hp} {s : Shared} {v : V} {u : Value} (I : Inv X pins σ H s) (r : RelV v u) (h : NoKeys H v) : ∃ a, u = .ref a ∧ a ≠ sysModules ∧ Reads s.heap u (.dict []) [a] := by
  obtain ⟨a, rfl, h⟩ := h
  have e : u = .ref a := r
  subst e
  have ok : ObjOk X.prog X.w H s.heap a (.dK []) := by
    rcases h with h | ⟨ob, h⟩
    · exact I.hok a _ h
    · exact (I.hok a _ h).2
  obtain ⟨_, ne, vs, kv, o, es, ep, e1, e2, e3, _, e5, _⟩ := ok
  cases kv
  have nil : es.toList = [] := by
    generalize es.toList = L at e5
    cases e5
    rfl
  refine ⟨a, rfl, fun z => (by rw [z] at ne; cases ne), ?_⟩
  exact .dict (as := []) (bs := []) e1 e2.1 e3 (by rw [nil]; exact .nil) (by rw [nil]; exact .nil)
theorem cr_strD (hK : X.K = K) (hg : X.A.guards = some []) (hu : X.A.units + 80 < cLine) : CallR X (.type "str") (rStrD K) := by
  subst hK
  intro pins s σ H xs us Q I r h
  obtain ⟨x, d, rfl, hd, hs, hz, q⟩ := h
  obtain ⟨u, rfl, r1⟩ := vals1 r
  have big : ∀ (a : Addr) (as : List Addr), u = .ref a → Reads s.heap u d as → (d.hasDict = true → sysModules ∉ as) → d.depth ≤ 64 → txt d = d.shown → wpAny (model X.prog X.w) X.A (call (.type "str") [u]) (EP X pins σ Q) X.xe s := by
    intro a as e rd nd dp ht
    subst e
    refine str_of_reads rd hs nd hg (by omega) (fun _ _ z => z) (fun h' t tk kp => ?_) hz
    exact ⟨.str d.shown, H, I.kept kp, ⟨t, rfl⟩, ht ▸ q⟩
  rcases hd with ⟨hd, sh⟩ | ⟨rfl, nk⟩
  · obtain ⟨as, rd⟩ := Dp.reads I d x u hd r1
    have nd : d.hasDict = true → sysModules ∉ as := PyData.noDict_hsm (PyData.hasDict_of_canLay d (SeqAt.canLay_of_shaped sh))
    have dp := SeqAt.depth_of_shaped sh
    cases rd with
    | none => exact PySem.P.str_of_none ⟨.str _, H, I.tok _, ⟨_, rfl⟩, by simpa [txt, PyData.shown] using q⟩
    | bool b => exact PySem.P.str_of_bool ⟨.str _, H, I.tok _, ⟨_, rfl⟩, by cases b <;> simpa [txt, PyData.shown] using q⟩
    | int i t => exact PySem.P.str_of_int (by simpa [PyData.showable] using hs) ⟨.str _, H, I.tok _, ⟨_, rfl⟩, by simpa [txt, PyData.shown] using q⟩
    | str y t => exact PySem.P.str_of_str ⟨.str _, H, I, ⟨_, rfl⟩, by simpa [txt] using q⟩
    | list h1 h2 h3 h4 => exact big _ _ rfl (.list h1 h2 h3 h4) nd dp rfl
    | tuple h1 h2 h3 h4 => exact big _ _ rfl (.tuple h1 h2 h3 h4) nd dp rfl
    | dict h1 h2 h3 h4 h5 => exact big _ _ rfl (.dict h1 h2 h3 h4 h5) nd dp rfl
  · obtain ⟨a, e, ne, rd⟩ := reads_noKeys I r1 nk
    exact big a [a] e rd (fun _ z => ne (List.mem_singleton.mp z).symm) (by simp [PyData.depth, PyData.depthKv]) rfl
end
end L2
namespace VL
open PySem L2
theorem _root_.L2.Room.units8 {k : Nat} {A : Around} (r : Room k A) : A.units + 80 < cLine := by have := r.un; omega
def fitT (d : PyData) : Option Str := if (d.showable && decide (d.shown.length ≤ sizeLine)) = true then some (txt d) else none
def txtO : O → Option Str
  | .val (.dic (.k []) []) => fitT (.dict [])
  | .od (.k []) [] => fitT (.dict [])
  | o => (shp o).bind fitT
def fStrD : List O → QR O
  | [o] => match txtO o with
    | some t => .ok (.val (.str t))
    | none => .bad
  | _ => .bad
/-- == and != of two texts -/
def fEqS (g : Bool → Bool) : List O → QR O
  | [.val (.str a), .val (.str b)] => .ok (.val (.bl (g (decide (a = b)))))
  | _ => .bad
section
variable {K : Frag}
theorem fitT_ok {d : PyData} {t : Str} (h : fitT d = some t) : (d.showable = true ∧ d.shown.length ≤ sizeLine) ∧ t = txt d := by
  unfold fitT at h
  split at h
  · rename_i c
    rw [Bool.and_eq_true] at c
    cases h
    exact ⟨⟨c.1, of_decide_eq_true c.2⟩, rfl⟩
  · cases h
theorem s_strD : SimR K (rStrD K) fStrD := fun ρ S H os vs Q w wa h => by
  unfold fStrD at h
  split at h
  · rename_i o
    obtain ⟨v, p, rfl, h1⟩ := wa.one
    cases e : txtO o with
    | none => rw [e] at h; exact h.elim
    | some t =>
      rw [e] at h
      have q : Q (.str t) H := h S H (.str t) [] .refl w.ex (by unfold Ow Fz; rfl)
      unfold txtO at e
      split at e
      · obtain ⟨⟨a1, a2⟩, rfl⟩ := fitT_ok e
        refine ⟨v, .dict [], rfl, .inr ⟨rfl, ?_⟩, a1, a2, q⟩
        unfold Ow Fz at h1
        obtain ⟨a, ws, u, rfl, z1, z2, _⟩ := h1
        obtain ⟨l, rfl⟩ := z2
        have : ws = [] := List.length_eq_zero_iff.mp l.symm
        subst this
        refine ⟨a, rfl, ?_⟩
        rcases (show Rd S a (.dK []) from z1) with z | ⟨ob, z⟩
        · exact .inl (w.ex _ _ z)
        · exact .inr ⟨ob, w.ex _ _ z⟩
      · obtain ⟨⟨a1, a2⟩, rfl⟩ := fitT_ok e
        refine ⟨v, .dict [], rfl, .inr ⟨rfl, ?_⟩, a1, a2, q⟩
        unfold Ow at h1
        obtain ⟨a, ws, u, rfl, _, z1, z2, _⟩ := h1
        obtain ⟨l, rfl⟩ := z2
        have : ws = [] := List.length_eq_zero_iff.mp l.symm
        subst this
        exact ⟨a, rfl, .inl z1⟩
      · obtain ⟨d, e1, e2⟩ := Option.bind_eq_some_iff.mp e
        obtain ⟨⟨a1, a2⟩, rfl⟩ := fitT_ok e2
        obtain ⟨b1, b2⟩ := shp_ok w h1 e1
        exact ⟨v, d, rfl, .inl ⟨b1, b2⟩, a1, a2, q⟩
  · exact h.elim
theorem s_eqS_ {g : Bool → Bool} {r : R2} (hr : ∀ {a b H Q}, Q (.bl (g (decide (a = b)))) H → r (.str a) (.str b) H Q) : SimR K (r2l r) (fEqS g) := fun ρ S H os vs Q w wa h => by
  unfold fEqS at h
  split at h
  · rename_i a b
    obtain ⟨v, p, v2, p2, rfl, h1, h2⟩ := wa.two
    unfold Ow Fz at h1 h2
    subst h1 h2
    exact hr (h S H _ [] .refl w.ex (by unfold Ow Fz; rfl))
  · exact h.elim
theorem dec_st {a b : Str} : decide (V.str a = V.str b) = decide (a = b) := by
  by_cases h : a = b
  · subst h; simp
  · rw [decide_eq_false h, decide_eq_false fun z => h (V.str.inj z)]
theorem s_eqS : SimR K (r2l rEq) (fEqS id) := s_eqS_ fun {a b H Q} q => ⟨rfl, by rw [dec_st]; exact q⟩
theorem s_neS : SimR K (r2l rNe) (fEqS not) := s_eqS_ fun {a b H Q} q => ⟨rfl, by rw [dec_st]; exact q⟩
end
end VL
namespace VL
open PySem L2
/-- a def that stands by name, to be called where no repr is under way -/
structure OkG (P : Program) (w : World) (K : Frag) (mg : Str → Option Value) (base : Heap) (k : Nat) (f : Addr) (ps : List Str) (sp : Sp) : Prop where
  ok : ∃ fd, FnG P w K mg base (L2.CX P w) k f fd ps sp ∧ Binds K fd ps []
  kp : PySem.W.keepIn K (.ref f) = true
end VL
set_option maxRecDepth 100000
set_option maxHeartbeats 4000000
/-! V40: except C as e: assignments of truth values that hang on the class; isinstance(e, (A, B)) -/
namespace L2
open PySem PySem.Spec PyProof.Rows
def rIsXT (K : PySem.W.Frag) (a : Addr) (cls : Value) (d : Option Addr) : List V → Hp → VK → Prop := fun xs H Q => ∃ (D tp : Addr) (cs : List V) (us : List Value) (b : Bool), cls = .ref D ∧ d = none ∧ ExcC K D ∧ xs = [.ref a, .ref tp] ∧ H tp = some (.tup cs) ∧ Paired ClsV cs us ∧ PySem.W.kitAny K (.ref D) us = some b ∧ Q (.bl b) H
theorem call_isXTK {X : Cx} {K : PySem.W.Frag} (hK : X.K = K) {a : Addr} {cls : Value} {d : Option Addr} {oe : Obj} {pn : List (Addr × Obj)} (hz : Zc cls d oe) (hf : ∃ vs, oe.data = .fields vs) : CallR (X.suite a ((a, oe) :: pn)) (.builtin "isinstance") (rIsXT K a cls d) := by
  subst hK
  intro pins s σ H xs us Q I r h
  obtain ⟨D, tp, cs, ws, b, rfl, rfl, C, rfl, hT, pr, e, q⟩ := h
  obtain ⟨u1, u2, rfl, r1, r2⟩ := vals2 r
  cases (show u1 = Value.ref a from r1)
  cases (show u2 = Value.ref tp from r2)
  obtain ⟨at_a, _⟩ := I.pin (a, oe) (by simp [Cx.suite])
  have J : PySem.W.InstAt s.heap a oe D none := by
    obtain ⟨vs, hv⟩ := hf
    cases oe
    obtain ⟨z1, z2⟩ := hz
    dsimp only at z1 z2 hv
    subst z1 z2 hv
    exact ⟨at_a, rfl, rfl, trivial⟩
  obtain ⟨_, its, rv, o, o1, o2, n, o3⟩ := (show ObjOk X.prog X.w H s.heap tp (.tup cs) from I.hok tp _ hT)
  have es := ClsV.all pr rv
  subst es
  cases o
  dsimp only at o2 o3
  subst o2 o3
  have Z := PySem.W.handS_kitx_exc (x := a) (ox := oe) C.hg C.hk C.hs C.hd C.ha C.hn C.ht C.hm
  exact PySem.W.kia_tup Z I.kIn J o1 e (fun z => nomatch z) fun tk => ⟨.bl b, H, I.tok tk, rfl, q⟩
end L2
namespace VL
open PySem L2
section
variable {K : Frag} {i : Nat}
abbrev EB2 := Str → VS → Option Bool
def SimC2 (K : Frag) (i : Nat) (te : TEX) (eb : EB2) : Prop := ∀ c σV k, eb c σV = some k → ∀ a ρ pv S H σ Q, StR K ρ pv S H σV σ → σ[i]? = some (some (.ref a)) → (∀ S' H', Quiet S H S' H' → Ex S' H' → Q (.bl k) H') → te a (.ref (He.ga K c)) none σ H Q
def ebL (e : EB) : EB2 := fun c _ => e c
def ebV (j : Nat) : EB2 := fun _ σV => match σV[j]? with
  | some (.va (.val (.bl b))) => some b
  | _ => none
def ebNot2 (e : EB2) : EB2 := fun c σV => (e c σV).map fun k => !k
def ebAnd2 (e f : EB2) : EB2 := fun c σV => match e c σV with
  | some true => f c σV
  | some false => some false
  | none => none
theorem simC2_l {te : TEX} {e : EB} (h : SimC K i te e) : SimC2 K i te (ebL e) := fun c σV k e a ρ pv S H σ Q s hi q => h c k e a σ H Q hi (q S H .refl s.w.ex)
theorem simC2_v {j : Nat} : SimC2 K i (fun _ _ _ => tVar j) (ebV j) := fun c σV k e a ρ pv S H σ Q s hi q => by
  unfold ebV at e
  split at e
  · rename_i b h1
    cases e
    obtain ⟨v, h2, h3⟩ := s.slot j _ _ h1 rfl
    unfold Ow Fz at h3
    subst h3
    exact ⟨_, h2, q S H .refl s.w.ex⟩
  · cases e
theorem simC2_not {te : TEX} {e : EB2} (h : SimC2 K i te e) : SimC2 K i (fun a cls d => tNotT K (te a cls d)) (ebNot2 e) := fun c σV k hk a ρ pv S H σ Q s hi q => by
  unfold ebNot2 at hk
  cases hc : e c σV with
  | none => rw [hc] at hk; cases hk
  | some b =>
    rw [hc] at hk
    cases hk
    exact h c σV b hc a ρ pv S H σ _ s hi fun S' H' g x => ⟨b, rfl, q S' H' g x⟩
theorem simC2_and {te tb : TEX} {e f : EB2} (h : SimC2 K i te e) (h2 : SimC2 K i tb f) : SimC2 K i (fun a cls d => tAndV (te a cls d) (tb a cls d)) (ebAnd2 e f) := fun c σV k hk a ρ pv S H σ Q s hi q => by
  unfold ebAnd2 at hk
  cases hc : e c σV with
  | none => rw [hc] at hk; cases hk
  | some b =>
    rw [hc] at hk
    refine h c σV b hc a ρ pv S H σ _ s hi fun S' H' g x => ⟨b, rfl, ?_⟩
    cases b with
    | true => exact h2 c σV k hk a ρ pv S' H' σ Q (s.quiet g x) hi fun S2 H2 g2 x2 => q S2 H2 (g.trans g2) x2
    | false => cases hk; exact q S' H' g x
def tCs : List V → TA
  | [] => tNil
  | v :: vs => tCons (tC v) (tCs vs)
theorem tCs_ok : ∀ {vs : List V} {σ : St} {H : Hp} {Q : List V → Hp → Prop}, Q vs H → tCs vs σ H Q
  | [], _, _, _, h => h
  | v :: vs, σ, H, Q, h => by
    unfold tCs
    exact tCs_ok (vs := vs) h
theorem quietT {S H : Hp} {p : Addr} {vs : List V} (e : Ex S H) (h : H p = none) : Quiet S H (upd S p (.tup vs)) (upd H p (.tup vs)) ∧ Ex (upd S p (.tup vs)) (upd H p (.tup vs)) := by
  have hs : S p = none := by
    cases z : S p with
    | none => rfl
    | some o => rw [e _ _ z] at h; cases h
  refine ⟨⟨Ex.new hs, Ex.new h, fun a o h1 h2 => ?_, fun f a ks z => ?_⟩, fun a o z => ?_⟩
  · have ne : a ≠ p := fun z => by rw [z, h] at h1; cases h1
    rw [upd_ne ne]; exact h2
  · by_cases ea : a = p
    · subst ea
      rw [upd_same] at z ⊢; exact z
    · rw [upd_ne ea] at z ⊢; exact f a ks z
  · by_cases ea : a = p
    · subst ea
      rw [upd_same] at z ⊢; exact z
    · rw [upd_ne ea] at z ⊢; exact e a o z
theorem simC2_isT {kt : List (Str × Bool)} {vs : List V} (us : List Value) (hl : vs.length ≤ sizeLine) (hv : Paired ClsV vs us) (hk : ∀ q ∈ kt, ExcC K (He.ga K q.1) ∧ PySem.W.kitAny K (.ref (He.ga K q.1)) us = some q.2) :
    SimC2 K i (fun a cls d => tCB (rIsXT K a cls d) (tCons (tVar i) (tCons (tTup (tCs vs)) tNil))) (ebL (ebIs kt)) := fun c σV k e a ρ pv S H σ Q s hi q => by
  obtain ⟨h1, h2⟩ := hk _ (look_mem e)
  refine ⟨.ref a, hi, tCs_ok ⟨hl, fun p hp => ?_⟩⟩
  obtain ⟨g, x⟩ := quietT (vs := vs) s.w.ex hp
  exact ⟨He.ga K c, p, vs, us, k, rfl, rfl, h1, rfl, upd_same, hv, h2, q _ _ g x⟩
/-! ### the suite -/
def suAsg (i j : Nat) (e : EB2) (r : Str → VB) : Str → VB := fun c σ => if j = i then .bad else match e c σ with
  | some k => (match setv j (.val (.bl k)) σ with
    | .ok σ1 => r c σ1
    | .bad => .bad)
  | none => .bad
def suEnd : Str → VB := fun _ σ => .nx σ
theorem simU_end : SimU K i (fun _ _ _ => tNext) suEnd := fun a c ρ pv S H σV σ D st hi q => (show BPost K WN ρ pv S H D (.nx σV) from q) ρ S H σ .refl st
theorem setvOk {j : Nat} {o : O} {σ σ1 : VS} (h : setv j o σ = .ok σ1) : j < σ.length ∧ (∀ o', σ[j]? ≠ some (.rf o')) ∧ σ1 = σ.set j (.va o) := by
  unfold setv at h
  cases e : σ[j]? with
  | none => rw [e] at h; cases h
  | some sv =>
    rw [e] at h
    have hl := (List.getElem?_eq_some_iff.mp e).1
    cases sv with
    | rf o' => cases h
    | un => cases h; exact ⟨hl, fun o' => by simp, rfl⟩
    | va o' => cases h; exact ⟨hl, fun o' => by simp, rfl⟩
theorem simU_asg {j : Nat} {te : TEX} {e : EB2} {ts : TSX} {r : Str → VB} (h : SimC2 K i te e) (hr : SimU K i ts r) : SimU K i (fun a cls d => tSeq (tAsg (te a cls d) (gName j)) (ts a cls d)) (suAsg i j e r) := fun a c ρ pv S H σV σ D st hi q => by
  have q' : BPost K WN ρ pv S H D (if j = i then .bad else match e c σV with
    | some k => (match setv j (.val (.bl k)) σV with
      | .ok σ1 => r c σ1
      | .bad => .bad)
    | none => .bad) := q
  by_cases ne : j = i
  · rw [if_pos ne] at q'; exact q'.elim
  rw [if_neg ne] at q'
  cases hc : e c σV with
  | none => rw [hc] at q'; exact q'.elim
  | some k =>
    rw [hc] at q'; dsimp only at q'
    cases hs : setv j (.val (.bl k)) σV with
    | bad => rw [hs] at q'; exact q'.elim
    | ok σ1 =>
      rw [hs] at q'; dsimp only at q'
      obtain ⟨l1, l2, rfl⟩ := setvOk hs
      refine h c σV k hc a ρ pv S H σ _ st hi fun S' H' g x => ?_
      have st2 := st.quiet g x
      have st3 : StR K ρ pv S' H' (σV.set j (.va (.val (.bl k)))) (σ.set j (some (.bl k))) := st2.put l1 l2 st2.w (fun _ _ z => z) (by unfold Ow; exact fz_bl S')
      exact hr a c ρ pv S' H' _ _ D st3 (by rw [List.getElem?_set_ne ne]; exact hi) (BPost.at g.grw q')
end
end VL
set_option maxRecDepth 100000
set_option maxHeartbeats 4000000
/-! V41: C(..) with arguments by reference -/
namespace VL
open PySem L2
section
variable {K : Frag} {W : WX}
def vMakeR (C : Str) (m : FS) (b : BX) : VX := ⟨false, fun σ => match b.f σ with
  | .ok ds σ1 => (match fillR b.rs ds σ1 with
    | some os => (match m (.ob C [] [] :: os) with
      | .ok (.val .non) (o :: outs) => .ok o (putR b.rs outs σ1)
      | .ok _ _ => .bad
      | .err c (_ :: outs) => .err c (putR b.rs outs σ1)
      | .err _ [] => .bad
      | .bad => .bad)
    | none => .bad)
  | .err c σ1 => .err c σ1
  | .bad => .bad⟩
/-- what the new object and the callee own -/
def rhoM (x dx : Addr) (ρ : Rho) (rs : List (Option Nat)) : Rho := fun a => if a = x ∨ a = dx then some [.ix 0] else rhoC ρ (none :: rs) a
theorem posR_cons {rs : List (Option Nat)} {j i : Nat} (h : posR rs j = some i) : posR (none :: rs) j = some (i + 1) := by
  have h' : rs.findIdx? (· = some j) = some i := h
  unfold posR
  rw [List.findIdx?_cons]
  simp [h']
theorem sim_makeR {C : Str} {m : FS} {ta : TA} {bx : BX} {md : List Bool} (hb : SimB K W ta bx) (hmd : md = true :: bx.rs.map Option.isSome) (hnd : ndR bx.rs = true) : SimF K W (tMakeS (He.ga K C) (SpOf K md m) (WE W) ta) (vMakeR C m bx) := fun ρ pv S H σV σ Q s h => by
  refine hb ρ pv S H σV σ _ s ?_
  have nd0 : (bx.rs.filterMap id).Nodup := of_decide_eq_true hnd
  have nd : ((none :: bx.rs).filterMap id).Nodup := by rw [List.filterMap_cons]; exact nd0
  unfold vMakeR at h; dsimp only at h
  cases e : bx.f σV with
  | bad => rw [e] at h; exact h
  | err c σ1 => rw [e] at h; exact h
  | ok ds σ1 =>
    rw [e] at h; dsimp only at h
    intro ρ1 S1 H1 vs g1 s1 ar x dx hx hdx ne
    cases e2 : fillR bx.rs ds σ1 with
    | none => rw [e2] at h; exact h.elim
    | some os =>
      rw [e2] at h; dsimp only at h
      obtain ⟨l1, l2, k⟩ := fill_at ar e2
      generalize hHx : upd (upd H1 dx (.own x)) x (.ins (He.ga K C) dx []) = Hx
      have atO : ∀ b u, H1 b = some u → b ≠ x ∧ b ≠ dx := fun b u hb => ⟨ne_of_none hb hx, ne_of_none hb hdx⟩
      have hH : Ex H1 Hx := fun b u hb => by
        obtain ⟨n1, n2⟩ := atO b u hb
        rw [← hHx, upd_ne n1, upd_ne n2]; exact hb
      have atM : ∀ b u, H1 b = some u → rhoM x dx ρ1 bx.rs b = rhoC ρ1 (none :: bx.rs) b := fun b u hb => by
        obtain ⟨n1, n2⟩ := atO b u hb
        unfold rhoM
        rw [if_neg (by rintro (z | z); exact n1 z; exact n2 z)]
      have ftx : Ft S1 Hx := by rw [← hHx]; exact (s1.w.ft.upd (by intro vs z; cases z)).upd (by intro vs z; cases z)
      have atx : Hx x = some (.ins (He.ga K C) dx []) := by rw [← hHx]; exact upd_same
      have atdx : Hx dx = some (.own x) := by rw [← hHx, upd_ne ne]; exact upd_same
      have rx : rhoM x dx ρ1 bx.rs x = some [.ix 0] := by unfold rhoM; rw [if_pos (Or.inl rfl)]
      have rdx : rhoM x dx ρ1 bx.rs dx = some [.ix 0] := by unfold rhoM; rw [if_pos (Or.inr rfl)]
      have wf0 : Wf (rhoM x dx ρ1 bx.rs) S1 Hx := ⟨s1.w.ex.trans hH, fun b r hr => by
        by_cases c : b = x ∨ b = dx
        · rcases c with rfl | rfl
          · exact ⟨s1.w.ex.back hx, _, atx⟩
          · exact ⟨s1.w.ex.back hdx, _, atdx⟩
        · unfold rhoM at hr
          rw [if_neg c] at hr
          obtain ⟨j, q, i, e1, _, _⟩ := rhoC_some hr
          obtain ⟨z1, o, z2⟩ := s1.w.wf b _ e1
          exact ⟨z1, o, hH b o z2⟩, ftx⟩
      have pre : PreA K (rhoM x dx ρ1 bx.rs) S1 Hx md (.ob C [] [] :: os) (.ref x :: vs) := by
        subst hmd
        refine ⟨by simp [l1], by simp [l2], fun i o v h1 h2 => ?_⟩
        cases i with
        | zero =>
          simp at h1 h2
          subst h1 h2
          refine ⟨fun _ => ?_, fun z => by simp at z⟩
          unfold Ow
          refine ⟨x, dx, [], rfl, rx, rdx, atx, atdx, ⟨rfl, List.nodup_nil⟩, ?_⟩
          unfold OwZ
          exact ⟨rfl, rfl⟩
        | succ i =>
          rw [List.getElem?_cons_succ] at h1 h2
          refine ⟨fun h3 => ?_, fun h3 => ?_⟩
          · rw [List.getElem?_cons_succ, List.getElem?_map] at h3
            obtain ⟨r, e3, e4⟩ := Option.map_eq_some_iff.mp h3
            cases r with
            | none => cases e4
            | some j =>
              obtain ⟨q1, q2⟩ := (k i o v h1 h2).1 j e3
              obtain ⟨sv, e5, e6⟩ := Option.bind_eq_some_iff.mp q1
              obtain ⟨v', h4, h5⟩ := s1.slot j sv o e5 e6
              rw [q2] at h4; cases h4
              refine Ow.mono (.refl _) (fun a r h => ?_) h5
              obtain ⟨_, u, hu⟩ := s1.w.wf a _ h
              exact ⟨(atM a u hu).trans (rhoC_at h (posR_cons (posR_of nd0 e3))), (hH a u hu).trans hu.symm⟩
          · rw [List.getElem?_cons_succ, List.getElem?_map] at h3
            obtain ⟨r, e3, e4⟩ := Option.map_eq_some_iff.mp h3
            cases r with
            | none => exact (k i o v h1 h2).2 e3
            | some j => cases e4
      have osAt : ∀ (i : Nat), i < bx.rs.length → ∃ o, os[i]? = some o := fun i hi => ⟨_, List.getElem?_eq_getElem (l1 ▸ hi)⟩
      have hv : ∀ (i j : Nat) (v : V), (none :: bx.rs)[i]? = some (some j) → (V.ref x :: vs)[i]? = some v → σ[j]? = some (some v) := fun i j v h1 h2 => by
        cases i with
        | zero => simp at h1
        | succ i =>
          rw [List.getElem?_cons_succ] at h1 h2
          obtain ⟨o, ho⟩ := osAt i (List.getElem?_eq_some_iff.mp h1).1
          exact ((k i o v ho h2).1 j h1).2
      have hlv : ∀ j i, posR (none :: bx.rs) j = some i → ∃ o, σ1[j]?.bind SV.get = some o := fun j i e => by
        have ei := posR_some e
        cases i with
        | zero => simp at ei
        | succ i =>
          rw [List.getElem?_cons_succ] at ei
          have hi := (List.getElem?_eq_some_iff.mp ei).1
          obtain ⟨o, ho⟩ := osAt i hi
          exact ⟨o, ((k i o _ ho (List.getElem?_eq_getElem (l2 ▸ hi))).1 j ei).1⟩
      have gr : ∀ {ρ' : Rho} {S' H' : Hp}, Grw (rhoM x dx ρ1 bx.rs) S1 Hx ρ' S' H' → Grw (rhoC ρ1 (none :: bx.rs)) S1 H1 ρ' S' H' := fun g =>
        ⟨g.s, fun a o h r => g.h a o (hH a o h) ((atM a o h).trans r), fun a o h z r => g.n a o (hH a o h) z ((atM a o h).trans r), fun a o h r => g.f a o (hH a o h) ((atM a o h).trans r)⟩
      have oaN : ∀ {ρ' : Rho} {S' H' : Hp} {outs : List O}, OutA K ρ' S' H' md outs (.ref x :: vs) → OutA K ρ' S' H' ((none :: bx.rs).map Option.isSome) outs (.ref x :: vs) := fun oa i v h1 h2 => by
        refine oa i v ?_ h2
        subst hmd
        cases i with
        | zero => simp at h1
        | succ i => simpa using h1
      have lN : (V.ref x :: vs).length = (none :: bx.rs).length := by simp [l2]
      refine ⟨rhoM x dx ρ1 bx.rs, S1, .ob C [] [] :: os, wf0, pre, ?_⟩
      cases e3 : m (.ob C [] [] :: os) with
      | bad => rw [e3] at h; exact h.elim
      | err c outs =>
        rw [e3] at h
        intro ρ' S' H' g w oa
        obtain ⟨s2, g2⟩ := StR.behind s1 nd rfl hv lN hlv (gr g) w (oaN oa)
        cases outs with
        | nil => exact h.elim
        | cons o outs =>
          have ep : putR (none :: bx.rs) (o :: outs) σ1 = putR bx.rs outs σ1 := by
            conv => lhs; unfold putR
          rw [ep] at s2
          exact h _ S' H' (g1.trans g2) s2
      | ok o outs =>
        rw [e3] at h
        intro ρ' S' H' v ρ2 g w oa t w2
        obtain ⟨s2, g2⟩ := StR.behind s1 nd rfl hv lN hlv (gr g) w (oaN oa)
        split at h
        · rename_i o1 rest e4
          cases e4
          have ev : v = .non := by unfold Ow Fz at w2; exact w2
          refine ⟨ev, ?_⟩
          obtain ⟨o2, e5, w3⟩ := oa 0 (.ref x) (by subst hmd; rfl) rfl
          have : o1 = o2 := by simpa using e5
          subst this
          have ep : putR (none :: bx.rs) (o1 :: rest) σ1 = putR bx.rs rest σ1 := by
            conv => lhs; unfold putR
          rw [ep] at s2
          refine h _ S' H' (.ref x) (strip0 ρ') (g1.trans g2) s2 ⟨fun b r hb => w.wf b _ (strip0_some hb), fun b r hb => ?_, fun b u hb hr => ?_⟩ (Ow.mono (.refl _) (fun b r hb => ⟨strip0_at hb, rfl⟩) w3) fun hq => by cases hq
          · unfold rhoB
            rw [strip0_some hb]
            rfl
          · have h1 := g1.h b u hb hr
            exact strip0_none (g.f b u (hH b u h1) ((atM b u h1).trans (rhoC_none (g1.f b u hb hr))))
        · exact h.elim
        all_goals (rename_i e4; cases e4)
end
end VL
set_option maxRecDepth 100000
set_option maxHeartbeats 4000000
/-! V42: suites of except C as e: quiet expressions, if, statements that do not name e -/
namespace VL
open PySem L2
section
variable {K : Frag} {i : Nat}
/-- a quiet expression that tells a truth value -/
def ebX (x : VX) : EB2 := fun _ σV => if x.q = true then (match x.f σV with
  | .ok (.val (.bl b)) _ => some b
  | _ => none) else none
theorem simC2_x {te : TE} {x : VX} (h : SimX K WN te x) : SimC2 K i (fun _ _ _ => te) (ebX x) := fun c σV k e a ρ pv S H σ Q s hi q => by
  unfold ebX at e
  by_cases cq : x.q = true
  · rw [if_pos cq] at e
    refine h ρ pv S H σV σ Q s ?_
    cases hx : x.f σV with
    | ok o σ1 =>
      rw [hx] at e
      intro ρ' S' H' v p g st ow hq
      obtain ⟨_, _, qu⟩ := hq cq
      split at e
      · rename_i b σ2 heq
        cases heq
        cases e
        unfold Ow Fz at ow
        subst ow
        exact q S' H' qu st.w.ex
      · cases e
    | err c σ1 => rw [hx] at e; cases e
    | bad => rw [hx] at e; cases e
  · rw [if_neg cq] at e; cases e
/-- .. return what an expression of that kind tells -/
def suRet2 (e : EB2) : Str → VB := fun c σ => match e c σ with
  | some k => .rt (.val (.bl k)) σ
  | none => .bad
theorem simU_ret2 {te : TEX} {e : EB2} (h : SimC2 K i te e) : SimU K i (fun a cls d => tRet (te a cls d)) (suRet2 e) := fun a c ρ pv S H σV σ D st hi q => by
  have q' : BPost K WN ρ pv S H D (match e c σV with
    | some k => .rt (.val (.bl k)) σV
    | none => .bad) := q
  cases hc : e c σV with
  | none => rw [hc] at q'; exact q'.elim
  | some k =>
    rw [hc] at q'
    refine h c σV k hc a ρ pv S H σ _ st hi fun S' H' g x => ?_
    have st2 := st.quiet g x
    exact q' ρ S' H' σ (.bl k) (fun _ => none) g.grw st2 ⟨fun _ _ h => (by cases h), fun _ _ h => (by cases h), fun _ _ _ _ => rfl⟩ (by unfold Ow; exact fz_bl S')
/-- .. a statement that does not name e -/
theorem simU_s {ts : TS} {b : VB} (h : SimS K WN ts b) : SimU K i (fun _ _ _ => ts) (fun _ => b) := fun a c ρ pv S H σV σ D st _ q => h ρ pv S H σV σ D st q
/-- .. an if -/
def suIf (e : EB2) (s t : Str → VB) : Str → VB := fun c σ => match e c σ with
  | some true => s c σ
  | some false => t c σ
  | none => .bad
theorem simU_if {te : TEX} {e : EB2} {ts tu : TSX} {s t : Str → VB} (h : SimC2 K i te e) (hs : SimU K i ts s) (ht : SimU K i tu t) :
    SimU K i (fun a cls d => tIfS (fun σ H Q => te a cls d σ H fun v H' => ∃ k, TruV K v H' k ∧ Q k H') (ts a cls d) (tu a cls d)) (suIf e s t) := fun a c ρ pv S H σV σ D st hi q => by
  have q' : BPost K WN ρ pv S H D (match e c σV with
    | some true => s c σV
    | some false => t c σV
    | none => .bad) := q
  cases hc : e c σV with
  | none => rw [hc] at q'; exact q'.elim
  | some k =>
    rw [hc] at q'
    refine h c σV k hc a ρ pv S H σ _ st hi fun S' H' g x => ⟨k, rfl, ?_⟩
    have st2 := st.quiet g x
    cases k with
    | true => exact hs a c ρ pv S' H' σV σ D st2 hi (BPost.at g.grw q')
    | false => exact ht a c ρ pv S' H' σV σ D st2 hi (BPost.at g.grw q')
end
end VL
set_option maxRecDepth 100000
set_option maxHeartbeats 4000000
/-! V43: the rows of an owned list of owned rows are frozen, the list itself stays owned -/
namespace VL
open PySem L2
/-- freeze the rows -/
def gFrI (i : Nat) : VS → QR VS := fun σ => match σ[i]? with
  | some (.va (.nl os)) => .ok (σ.set i (.va (.ol (os.map frz))))
  | some (.va (.ol ds)) => .ok σ
  | _ => .bad
open Classical in
noncomputable def rhoIn3 (ρ : Rho) (p : Path) : Rho := fun a => match ρ a with
  | some x => if p <+: x ∧ x ≠ p then some x else none
  | none => none
open Classical in
noncomputable def rhoOut3 (ρ : Rho) (p : Path) : Rho := fun a => match ρ a with
  | some x => if p <+: x ∧ x ≠ p then none else some x
  | none => none
section
variable {K : Frag} {ρ : Rho} {p : Path} {a : Addr}
theorem rhoIn3_some {x : Path} (h : rhoIn3 ρ p a = some x) : ρ a = some x ∧ p <+: x ∧ x ≠ p := by
  unfold rhoIn3 at h
  split at h
  · rename_i y e
    by_cases c : p <+: y ∧ y ≠ p
    · rw [if_pos c] at h; cases h; exact ⟨e, c⟩
    · rw [if_neg c] at h; cases h
  · cases h
theorem rhoIn3_at {x : Path} (h : ρ a = some x) (c : p <+: x ∧ x ≠ p) : rhoIn3 ρ p a = some x := by
  unfold rhoIn3; rw [h]; exact if_pos c
theorem rhoIn3_none (h : ρ a = none) : rhoIn3 ρ p a = none := by unfold rhoIn3; rw [h]
theorem rhoOut3_some {x : Path} (h : rhoOut3 ρ p a = some x) : ρ a = some x ∧ ¬ (p <+: x ∧ x ≠ p) := by
  unfold rhoOut3 at h
  split at h
  · rename_i y e
    by_cases c : p <+: y ∧ y ≠ p
    · rw [if_pos c] at h; cases h
    · rw [if_neg c] at h; cases h; exact ⟨e, c⟩
  · cases h
theorem rhoOut3_at {x : Path} (h : ρ a = some x) (c : ¬ (p <+: x ∧ x ≠ p)) : rhoOut3 ρ p a = some x := by
  unfold rhoOut3; rw [h]; exact if_neg c
theorem rhoOut3_none (h : ρ a = none) : rhoOut3 ρ p a = none := by unfold rhoOut3; rw [h]
theorem owZ_frI {S S' H : Hp} (e : Ex S S') : ∀ {os : List O} {ks : List PK} {vs : List V}, (∀ k, Froze ρ S' H (p ++ [k])) → OwZ K ρ S H os ks vs p → FzL K S' (os.map frz) vs
  | [], _, _, _, h => by
    unfold OwZ at h
    unfold FzL
    exact h.2
  | _ :: _, _, _, k, h => by
    unfold OwZ at h
    obtain ⟨x, ks', v, vs', h1, h2, h3, h4⟩ := h
    rw [List.map_cons]
    unfold FzL
    exact ⟨v, vs', h2, Ow.frz e (k x) h3, owZ_frI e k h4⟩
end
section
variable {K : Frag}
theorem simH_frI {i : Nat} : SimH K (gFrI i) := fun ρ pv S H σV σ σ1 s e => by
  have e' : (match σV[i]? with
    | some (.va (.nl os)) => .ok (σV.set i (.va (.ol (os.map frz))))
    | some (.va (.ol ds)) => .ok σV
    | _ => .bad) = QR.ok σ1 := e
  split at e'
  · rename_i os h1
    cases e'
    have hi := (List.getElem?_eq_some_iff.mp h1).1
    have wI : ∀ a x, rhoIn3 ρ [.ix i] a = some x → S a = none ∧ ∃ o, H a = some o := fun a x h => s.w.wf a x (rhoIn3_some h).1
    refine ⟨rhoOut3 ρ [.ix i], VL.frS S H (rhoIn3 ρ [.ix i]), ⟨frS_ex wI, fun _ _ h _ => h, fun a o' h z r => ?_, fun a o' h r => rhoOut3_none r⟩, ⟨⟨frS_in s.w.ex, fun a x h => ?_, s.w.ft.more (frS_ex wI)⟩, by simp [s.len], fun j sv2 o2 g1 g2 => ?_, fun j o2 g1 => ?_⟩⟩
    · rw [frS_out (rhoIn3_none r)]; exact z
    · obtain ⟨h, hne⟩ := rhoOut3_some h
      obtain ⟨z1, z2⟩ := s.w.wf a x h
      refine ⟨?_, z2⟩
      cases e3 : rhoIn3 ρ [.ix i] a with
      | none => rw [frS_out e3]; exact z1
      | some r =>
        obtain ⟨e4, e5⟩ := rhoIn3_some e3
        rw [h] at e4; cases e4
        exact (hne e5).elim
    · by_cases z : i = j
      · subst z
        rw [List.getElem?_set_self hi] at g1
        cases g1
        cases g2
        obtain ⟨v, v1, v2⟩ := s.slot i _ _ h1 rfl
        refine ⟨v, v1, ?_⟩
        unfold Ow at v2 ⊢
        obtain ⟨a, vs, q1, q2, q3, q4⟩ := v2
        refine ⟨a, vs, q1, rhoOut3_at q2 fun c => c.2 rfl, q3, ?_⟩
        refine owZ_frI (frS_ex wI) (fun k a r h => frS_at (rhoIn3_at h ⟨?_, ?_⟩)) q4
        · rw [List.append_assoc]; exact List.prefix_append _ _
        · intro z
          have := congrArg List.length z
          simp at this
      · rw [List.getElem?_set_ne z] at g1
        obtain ⟨v, v1, v2⟩ := s.slot j sv2 o2 g1 g2
        exact ⟨v, v1, Ow.mono (frS_ex wI) (fun a x h => ⟨rhoOut3_at h (by rintro ⟨⟨t, ht⟩, _⟩; exact z (PK.ix.inj (List.cons.inj ht).1)), rfl⟩) v2⟩
    · by_cases z : i = j
      · subst z
        rw [List.getElem?_set_self hi] at g1
        cases g1
      · rw [List.getElem?_set_ne z] at g1
        exact s.pin j o2 g1
  · cases e'
    exact ⟨ρ, S, .refl, s⟩
  · cases e'
end
@[simp] theorem ev_frI {i : Nat} {σ : VS} : gFrI i σ = match σ[i]? with
  | some (.va (.nl os)) => .ok (σ.set i (.va (.ol (os.map frz))))
  | some (.va (.ol ds)) => .ok σ
  | _ => .bad := (rfl)
end VL
set_option maxRecDepth 100000
set_option maxHeartbeats 4000000
/-! V44: a method of an item of an owned list of owned things, its argument a call with owned things and something quiet -/
namespace VL
open PySem L2
def vMtH (T : String) (i j : Nat) (y z : VX) (f : List O → QR O) (μ : O → List O → QR (O × O)) : VX := ⟨false, fun σ => match σ[i]?, σ[j]? with
  | some (.va (.nl os)), some (.va (.val (.int n))) => (match L2.ixN os.length n with
    | some m => (match os[m]? with
      | some o => if tyC T o = true then (match y.f (hidS i σ) with
        | .ok (.val d) σ1 => (match unhS i (.va (.nl os)) σ1 with
          | .ok σ2 => if z.q = true then (match z.f σ2 with
            | .ok oz _ => (match f [.val d, oz] with
              | .ok r0 => (match μ o [r0] with
                | .ok (w, r) => .ok r (σ2.set i (.va (.nl (os.set m w))))
                | .bad => .bad)
              | .bad => .bad)
            | _ => .bad) else .bad
          | .bad => .bad)
        | _ => .bad) else .bad
      | none => .bad)
    | none => .bad)
  | _, _ => .bad⟩
section
variable {K : Frag} {W : WX}
theorem sim_mtH {T : String} {r : V → List V → Hp → VK → Prop} {i j : Nat} {ty tz : TE} {y z : VX} {rf : R2} {f : List O → QR O} {μ : O → List O → QR (O × O)}
    (hy : SimX K W ty y) (hz : SimX K W tz z) (hf : SimR K (r2l rf) f) (hm : SimM K r μ) : SimX K W (L2.tBM K T r (tOp (rIx K) (tVar i) (tVar j)) (tCons (tOp rf ty tz) tNil)) (vMtH T i j y z f μ) := fun ρ pv S H σV σ Q s h => by
  unfold vMtH at h; dsimp only at h
  split at h
  · rename_i os n h1 h2
    cases e1 : L2.ixN os.length n with
    | none => rw [e1] at h; exact h.elim
    | some m =>
      rw [e1] at h; dsimp only at h
      cases e2 : os[m]? with
      | none => rw [e2] at h; exact h.elim
      | some o =>
        rw [e2] at h; dsimp only at h
        by_cases ht : tyC T o = true
        · rw [if_pos ht] at h
          obtain ⟨vx, x1, x2⟩ := s.slot i _ _ h1 rfl
          obtain ⟨vj, j1, j2⟩ := s.slot j _ _ h2 rfl
          cases owI j2
          have x3 := x2
          unfold Ow at x3
          obtain ⟨a, vs, rfl, r1, z1, z4⟩ := x3
          obtain ⟨k, v1, hk, hv, w1, _⟩ := z4.upd (nodup_ix _) e2
          have hat : L2.atI vs n = some v1 := by
            unfold L2.atI
            rw [z4.lenK.2, e1]; exact hv
          refine ⟨_, x1, _, j1, .inl ⟨a, vs, n, v1, rfl, rfl, SqL.of z1, hat, tyC_ok s.w w1 ht, ?_⟩⟩
          refine hy (rhoOut ρ i) (pvI pv i (.ref a)) S H (hidS i σV) σ _ (s.hide h1 rfl x1) ?_
          cases ey : y.f (hidS i σV) with
          | bad => rw [ey] at h; exact h.elim
          | err c σ1 => rw [ey] at h; exact h.elim
          | ok oy σ1 =>
            rw [ey] at h
            intro ρ1 S1 H1 vy py g1 s1 wy _
            split at h
            · rename_i d σ1' heq
              cases heq
              cases eu : unhS i (.va (.nl os)) σ1 with
              | bad => rw [eu] at h; exact h.elim
              | ok σ2 =>
                rw [eu] at h; dsimp only at h
                obtain ⟨u1, rfl⟩ := unhS_ok eu
                obtain ⟨k1, k2, _⟩ := unhide s h1 rfl x1 g1 s1 u1
                have ra : rhoOut ρ i a = none := rhoIn_out (rhoIn_at r1)
                have ha1 : H1 a = some (.lst vs) := g1.h a _ z1 ra
                by_cases hq : z.q = true
                · rw [if_pos hq] at h
                  refine hz (rhoU ρ ρ1 i) pv S1 H1 _ σ _ k2 ?_
                  cases ez : z.f (σ1.set i (.va (.nl os))) with
                  | bad => rw [ez] at h; exact h.elim
                  | err c σ3 => rw [ez] at h; exact h.elim
                  | ok oz σ3 =>
                    rw [ez] at h; dsimp only at h
                    intro ρ2 S2 H2 vz pz g2 s2 wz q2
                    obtain ⟨a1, a2, a3⟩ := q2 hq
                    subst a1 a2
                    have wy2 : Ow K (rhoU ρ ρ1 i) S2 H2 (.val d) vy [] := by
                      unfold Ow at wy ⊢
                      exact wy.mono a3.s
                    refine hf _ S2 H2 [.val d, oz] [vy, vz] _ s2.w ⟨vy, [vz], rfl, ⟨_, wy2⟩, vz, [], rfl, ⟨_, wz⟩, rfl⟩ ?_
                    cases ef : f [.val d, oz] with
                    | bad => rw [ef] at h; exact h.elim
                    | ok r0 =>
                      rw [ef] at h; dsimp only at h
                      intro S3 H3 v3 p3 q3 ex3 w3
                      have s3 := s2.quiet q3 ex3
                      have ha3 : H3 a = some (.lst vs) := q3.h _ _ (a3.h _ _ ha1)
                      have hi1 : i < σ1.length := (List.getElem?_eq_some_iff.mp u1).1
                      have el : lN i (σ1.set i (.va (.nl os))) = .ok ⟨.nl os, fun z => (σ1.set i (.va (.nl os))).set i (.va z)⟩ := by
                        unfold lN
                        rw [List.getElem?_set_self hi1]
                      obtain ⟨v', b1, pl⟩ := place_name s3 el
                      rw [x1] at b1
                      cases b1
                      have pw := pl.w
                      dsimp only at pw
                      unfold Ow at pw
                      obtain ⟨b, vs', e5, r5, z5, z6⟩ := pw
                      cases e5
                      rw [ha3] at z5
                      cases z5
                      obtain ⟨k', v1', hk', hv', w1', up⟩ := z6.upd (nodup_ix _) e2
                      rw [hv] at hv'
                      cases hv'
                      have plc := pl.child (o := o) (up := fun z => .nl (os.set m z)) w1' fun ρ4 S4 H4 z e4 ko w4 => by
                        obtain ⟨k3, k4⟩ := ko a _ r5 np
                        unfold Ow
                        refine ⟨a, vs, rfl, k3, k4.trans ha3, ?_⟩
                        rw [List.length_set]
                        exact up ρ4 S4 H4 z e4 ko w4
                      refine hm _ S3 H3 o v1 _ [r0] [v3] Q s3.w w1' ⟨v3, [], rfl, ⟨_, w3⟩, rfl⟩ ?_
                      cases em : μ o [r0] with
                      | bad => rw [em] at h; exact h.elim
                      | ok zr =>
                        obtain ⟨w, r⟩ := zr
                        rw [em] at h; dsimp only at h
                        intro ρ4 S4 H4 wv p4 g4 ko wf4 wz4 wr4
                        have st := plc.put ρ4 S4 H4 w g4.s ko wf4 wz4
                        exact h ρ4 S4 H4 wv p4 ((k1.trans (a3.trans q3).grw).trans g4) st wr4 fun z => by cases z
                · rw [if_neg hq] at h; exact h.elim
            · exact h.elim
        · rw [if_neg ht] at h; exact h.elim
  · exact h.elim
end
end VL
set_option maxRecDepth 100000
set_option maxHeartbeats 4000000
/-! V45: an owned row goes into an owned list (and extends another); the rows of an owned list grow, one by one -/
namespace VL
open PySem L2
def nlOf : O → Option (List O)
  | .nl os => some os
  | .ol [] => some []
  | _ => none
def sAppExt (i j k : Nat) : VB := fun σ => match σ[i]?, σ[j]?, σ[k]? with
  | some (.va oi), some (.va (.ol ds)), some (.va (.ol es)) => (match nlOf oi with
    | some os => if i ≠ j ∧ j ≠ k ∧ i ≠ k ∧ os.length < sizeLine ∧ es.length + ds.length ≤ sizeLine then
        .nx (((σ.set i (.va (.nl (os ++ [.ol ds])))).set k (.va (.ol (es ++ ds)))).set j .un) else .bad
    | none => .bad)
  | _, _, _ => .bad
section
variable {K : Frag} {W : WX}
theorem ow_nlOf {ρ : Rho} {S H : Hp} {o : O} {os : List O} {v : V} {p : Path} (e : nlOf o = some os) (w : Ow K ρ S H o v p) : ∃ a vs, v = .ref a ∧ ρ a = some p ∧ H a = some (.lst vs) ∧ OwZ K ρ S H os ((List.range os.length).map PK.ix) vs p := by
  unfold nlOf at e
  split at e
  · cases e
    unfold Ow at w
    exact w
  · cases e
    unfold Ow at w
    obtain ⟨a, vs, h1, h2, h3, h4⟩ := w
    refine ⟨a, vs, h1, h2, h3, ?_⟩
    cases h4.unnil
    unfold OwZ
    exact ⟨rfl, rfl⟩
  · cases e
theorem nlOf_ty {o : O} {os : List O} (e : nlOf o = some os) : tyC "list" o = true := by
  unfold nlOf at e
  split at e
  · rfl
  · rfl
  · cases e
theorem sim_appExt {i j k : Nat} : SimS K W (tSeq (tDrop (L2.tBM K "list" L2.rAppend (tVar i) (tCons (tVar j) tNil))) (tDrop (L2.tBM K "list" L2.rExtend (tVar k) (tCons (tVar j) tNil)))) (sAppExt i j k) := fun ρ pv S H σV σ D s h => by
  unfold sAppExt at h
  split at h
  · rename_i oi ds es h1 h2 h3
    cases e : nlOf oi with
    | none => rw [e] at h; exact h.elim
    | some os =>
      rw [e] at h; dsimp only at h
      by_cases hc : i ≠ j ∧ j ≠ k ∧ i ≠ k ∧ os.length < sizeLine ∧ es.length + ds.length ≤ sizeLine
      · rw [if_pos hc] at h
        obtain ⟨nij, njk, nik, c1, c2⟩ := hc
        obtain ⟨vi, i1, wi⟩ := s.slot i _ _ h1 rfl
        obtain ⟨vj, j1, wj⟩ := s.slot j _ _ h2 rfl
        obtain ⟨vk, k1, wk⟩ := s.slot k _ _ h3 rfl
        have ti := tyC_ok s.w wi (nlOf_ty e)
        have tk : L2.tyV K "list" vk H := tyC_ok s.w wk rfl
        obtain ⟨a, xs, rfl, ra, ha, za⟩ := ow_nlOf e wi
        unfold Ow at wj wk
        obtain ⟨b, ys, rfl, rb, hb, fb⟩ := wj
        obtain ⟨c, ws, rfl, rc, hcc, fc⟩ := wk
        have hi : i < σV.length := (List.getElem?_eq_some_iff.mp h1).1
        have hj : j < σV.length := (List.getElem?_eq_some_iff.mp h2).1
        have hk : k < σV.length := (List.getElem?_eq_some_iff.mp h3).1
        have nab : a ≠ b := fun z => nij (by subst z; rw [ra] at rb; exact PK.ix.inj (List.cons.inj (Option.some.inj rb)).1)
        have nbc : b ≠ c := fun z => njk (by subst z; rw [rb] at rc; exact PK.ix.inj (List.cons.inj (Option.some.inj rc)).1)
        have nac : a ≠ c := fun z => nik (by subst z; rw [ra] at rc; exact PK.ix.inj (List.cons.inj (Option.some.inj rc)).1)
        have nS : ∀ x q, ρ x = some q → S x = none := fun x q h => (s.w.wf x q h).1
        let H2 : Hp := upd (upd H a (.lst (xs ++ [.ref b]))) c (.lst (ws ++ ys))
        let ρ2 : Rho := fun x => if x = b then some [.ix i, .ix os.length] else ρ x
        have r2 : ∀ {x}, x ≠ b → ρ2 x = ρ x := fun h => if_neg h
        have r2b : ρ2 b = some [.ix i, .ix os.length] := if_pos rfl
        have H2a : H2 a = some (.lst (xs ++ [.ref b])) := by show upd (upd H a _) c _ a = _; rw [upd_ne nac, upd_same]
        have H2c : H2 c = some (.lst (ws ++ ys)) := upd_same
        have H2o : ∀ x, x ≠ a → x ≠ c → H2 x = H x := fun x h1 h2 => by show upd (upd H a _) c _ x = _; rw [upd_ne h2, upd_ne h1]
        have H2b : H2 b = some (.lst ys) := by rw [H2o b (fun z => nab z.symm) nbc]; exact hb
        have w2 : Wf ρ2 S H2 := by
          refine ⟨fun x o hx => ?_, fun x q hx => ?_, (s.w.ft.upd (by intro vs z; cases z)).upd (by intro vs z; cases z)⟩
          · rw [H2o x (fun z => by rw [z, nS a _ ra] at hx; cases hx) (fun z => by rw [z, nS c _ rc] at hx; cases hx)]
            exact s.w.ex _ _ hx
          · by_cases z : x = b
            · subst z; exact ⟨nS _ _ rb, _, H2b⟩
            · rw [r2 z] at hx
              refine ⟨nS _ _ hx, ?_⟩
              by_cases z1 : x = a
              · subst z1; exact ⟨_, H2a⟩
              · by_cases z2 : x = c
                · subst z2; exact ⟨_, H2c⟩
                · rw [H2o x z1 z2]; exact (s.w.wf x q hx).2
        have g2 : Grw ρ S H ρ2 S H2 := by
          refine ⟨.refl _, fun x o hx hr => ?_, fun _ _ _ h _ => h, fun x o hx hr => ?_⟩
          · rw [H2o x (fun z => by rw [z, ra] at hr; cases hr) (fun z => by rw [z, rc] at hr; cases hr)]; exact hx
          · rw [r2 (fun z => by rw [z, rb] at hr; cases hr)]; exact hr
        have kp : ∀ (p : Path), (∀ r, p ++ r ≠ [.ix i]) → (∀ r, p ++ r ≠ [.ix j]) → (∀ r, p ++ r ≠ [.ix k]) → Keeps ρ ρ2 H H2 p p := fun p n1 n2 n3 x r hx => by
          have x1 : x ≠ a := fun z => by rw [z, ra] at hx; exact n1 r (Option.some.inj hx).symm
          have x2 : x ≠ b := fun z => by rw [z, rb] at hx; exact n2 r (Option.some.inj hx).symm
          have x3 : x ≠ c := fun z => by rw [z, rc] at hx; exact n3 r (Option.some.inj hx).symm
          exact ⟨by rw [r2 x2]; exact hx, H2o x x1 x3⟩
        -- the two statements
        refine ⟨_, i1, ti, _, j1, ⟨a, xs, .ref b, rfl, rfl, ha, za.lenK.2.symm ▸ c1, ?_⟩⟩
        refine ⟨_, k1, ?_, _, j1, ⟨c, b, ws, ys, rfl, rfl, ?_, ?_, by rw [← fc.len, ← fb.len]; exact c2, ?_⟩⟩
        · exact .inl ⟨rfl, ws, SqL.of (by rw [upd_ne (fun z => nac z.symm)]; exact hcc)⟩
        · rw [upd_ne (fun z => nac z.symm)]; exact hcc
        · rw [upd_ne (fun z => nab z.symm)]; exact hb
        · refine h ρ2 S H2 σ g2 ⟨w2, by simp [s.len], fun m sv o q1 q2 => ?_, fun m o q1 => ?_⟩
          · by_cases mj : j = m
            · subst mj
              rw [List.getElem?_set_self (by simpa using hj)] at q1
              cases q1; cases q2
            · rw [List.getElem?_set_ne mj] at q1
              by_cases mk : k = m
              · subst mk
                rw [List.getElem?_set_self (by simpa using hk)] at q1
                cases q1; cases q2
                refine ⟨_, k1, ?_⟩
                unfold Ow
                exact ⟨c, _, rfl, by rw [r2 (fun z => nbc z.symm)]; exact rc, H2c, fc.app fb⟩
              · rw [List.getElem?_set_ne mk] at q1
                by_cases mi : i = m
                · subst mi
                  rw [List.getElem?_set_self hi] at q1
                  cases q1; cases q2
                  refine ⟨_, i1, ?_⟩
                  unfold Ow
                  refine ⟨a, _, rfl, by rw [r2 nab]; exact ra, H2a, ?_⟩
                  rw [List.length_append, List.length_singleton, range_map_succ]
                  refine owZ_app ?_ ?_
                  · obtain ⟨l1, l2, hz⟩ := owZ_iff.mp za
                    refine owZ_iff.mpr ⟨l1, l2, fun n o kk v e1 e2 e3 => Ow.mono (.refl _) (kp _ (fun r z => ?_) (fun r z => ?_) (fun r z => ?_)) (hz n o kk v e1 e2 e3)⟩
                    · have := congrArg List.length z; simp at this
                    · have := congrArg List.length z; simp at this
                    · have := congrArg List.length z; simp at this
                  · unfold Ow
                    exact ⟨b, ys, rfl, r2b, H2b, fb⟩
                · rw [List.getElem?_set_ne mi] at q1
                  obtain ⟨v, v1, v2⟩ := s.slot m sv o q1 q2
                  exact ⟨v, v1, Ow.mono (.refl _) (kp _ (fun r z => mi (PK.ix.inj (List.cons.inj z).1).symm) (fun r z => mj (PK.ix.inj (List.cons.inj z).1).symm) (fun r z => mk (PK.ix.inj (List.cons.inj z).1).symm)) v2⟩
          · by_cases mj : j = m
            · subst mj; rw [List.getElem?_set_self (by simpa using hj)] at q1; cases q1
            · rw [List.getElem?_set_ne mj] at q1
              by_cases mk : k = m
              · subst mk; rw [List.getElem?_set_self (by simpa using hk)] at q1; cases q1
              · rw [List.getElem?_set_ne mk] at q1
                by_cases mi : i = m
                · subst mi; rw [List.getElem?_set_self hi] at q1; cases q1
                · rw [List.getElem?_set_ne mi] at q1
                  exact s.pin m o q1
      · rw [if_neg hc] at h; exact h.elim
  · exact h.elim
end
/-! ### the rows grow -/
def appR (d : D) : O → O
  | .ol ds => .ol (ds ++ [d])
  | o => o
def rowOk : O → Bool
  | .ol ds => decide (ds.length < sizeLine)
  | _ => false
def sForA (i j : Nat) (d : D) : VB := fun σ => match σ[i]?, σ[j]? with
  | some (.va (.nl os)), some sv => if i ≠ j ∧ sv.isRf = false ∧ os.all rowOk = true then .nx ((σ.set i (.va (.nl (os.map (appR d))))).set j .un) else .bad
  | some (.va (.ol [])), some sv => if i ≠ j ∧ sv.isRf = false then .nx (σ.set j .un) else .bad
  | _, _ => .bad
section
variable {K : Frag} {W : WX}
theorem StR.junk {ρ : Rho} {pv : Nat → Option V} {S H : Hp} {σV : VS} {σ : St} {j : Nat} {x : Option V} (s : StR K ρ pv S H σV σ) (h : σV[j]? = some .un) : StR K ρ pv S H σV (σ.set j x) :=
  ⟨s.w, by simp [s.len], fun m sv o h1 h2 => by
    obtain ⟨v, v1, v2⟩ := s.slot m sv o h1 h2
    have z : j ≠ m := fun z => by subst z; rw [h] at h1; cases h1; cases h2
    exact ⟨v, by rw [List.getElem?_set_ne z]; exact v1, v2⟩, fun m o h1 => by
    obtain ⟨v, v1, v2⟩ := s.pin m o h1
    have z : j ≠ m := fun z => by subst z; rw [h] at h1; cases h1
    exact ⟨v, v1, by rw [List.getElem?_set_ne z]; exact v2⟩⟩
theorem StR.forget {ρ : Rho} {pv : Nat → Option V} {S H : Hp} {σV : VS} {σ : St} {j : Nat} (s : StR K ρ pv S H σV σ) : StR K ρ pv S H (σV.set j .un) σ :=
  ⟨s.w, by simp [s.len], fun m sv o h1 h2 => by
    by_cases z : j = m
    · subst z
      by_cases hl : j < σV.length
      · rw [List.getElem?_set_self hl] at h1; cases h1; cases h2
      · rw [List.getElem?_eq_none (by simpa using hl)] at h1; cases h1
    · rw [List.getElem?_set_ne z] at h1; exact s.slot m sv o h1 h2, fun m o h1 => by
    by_cases z : j = m
    · subst z
      by_cases hl : j < σV.length
      · rw [List.getElem?_set_self hl] at h1; cases h1
      · rw [List.getElem?_eq_none (by simpa using hl)] at h1; cases h1
    · rw [List.getElem?_set_ne z] at h1; exact s.pin m o h1⟩
theorem mix_set {os : List O} {d : D} {k : Nat} {o : O} (h : os[k]? = some o) : (((os.map (appR d)).take k) ++ os.drop k).set k (appR d o) = (os.map (appR d)).take (k + 1) ++ os.drop (k + 1) := by
  have hk : k < os.length := (List.getElem?_eq_some_iff.mp h).1
  refine List.ext_getElem? fun m => ?_
  have lt : ((os.map (appR d)).take k).length = k := by simp; omega
  have lt2 : ((os.map (appR d)).take (k + 1)).length = k + 1 := by simp; omega
  by_cases e : k = m
  · subst e
    rw [List.getElem?_set_self (by simp; omega), List.getElem?_append_left (by omega), List.getElem?_take_of_lt (by omega), List.getElem?_map, h]; rfl
  · rw [List.getElem?_set_ne e]
    by_cases c : m < k
    · rw [List.getElem?_append_left (by omega), List.getElem?_append_left (by omega), List.getElem?_take_of_lt c, List.getElem?_take_of_lt (by omega)]
    · rw [List.getElem?_append_right (by omega), List.getElem?_append_right (by omega), List.getElem?_drop, List.getElem?_drop, lt, lt2]
      congr 1; omega
theorem sim_forA {i j : Nat} {d : D} {v : V} (hd : ∀ S, Fz K S d v) : SimS K W (tFor (iSeq K (tVar i)) (gName j) (tDrop (L2.tBM K "list" L2.rAppend (tVar j) (tCons (tC v) tNil)))) (sForA i j d) := fun ρ pv S H σV σ D s h => by
  unfold sForA at h
  split at h
  · rename_i os sv h1 h2
    by_cases hc : i ≠ j ∧ sv.isRf = false ∧ os.all rowOk = true
    · rw [if_pos hc] at h
      obtain ⟨nij, hrf, hall⟩ := hc
      obtain ⟨va, i1, wi⟩ := s.slot i _ _ h1 rfl
      unfold Ow at wi
      obtain ⟨a, xs, rfl, ra, ha, za⟩ := wi
      have hi : i < σV.length := (List.getElem?_eq_some_iff.mp h1).1
      have hj : j < σV.length := (List.getElem?_eq_some_iff.mp h2).1
      have lx : xs.length = os.length := za.lenK.2
      let mix : Nat → List O := fun k => (os.map (appR d)).take k ++ os.drop k
      let stt : Nat → VS := fun k => (σV.set i (.va (.nl (mix k)))).set j .un
      have mix0 : mix 0 = os := by show [] ++ os.drop 0 = os; simp
      have lmix : ∀ k, (mix k).length = os.length := fun k => by show ((os.map (appR d)).take k ++ os.drop k).length = _; simp; omega
      refine ⟨_, i1, a, rfl, .inl ⟨⟨xs, SqL.of ha⟩, ?_⟩⟩
      refine for_it (walk_list (xs := xs)) (fun k σ2 H2 => ∃ ρ2 S2, Grw ρ S H ρ2 S2 H2 ∧ StR K ρ2 pv S2 H2 (stt k) σ2 ∧ σ2[i]? = some (some (.ref a)) ∧ H2 a = some (.lst xs)) ⟨ρ, S, .refl, ?_, i1, ha⟩ ?_ ?_ ?_
      · show StR K ρ pv S H ((σV.set i (.va (.nl (mix 0)))).set j .un) σ
        rw [mix0]
        have e0 : σV.set i (.va (.nl os)) = σV := by
          refine List.ext_getElem? fun m => ?_
          by_cases z : i = m
          · subst z; rw [List.getElem?_set_self hi, h1]
          · rw [List.getElem?_set_ne z]
        rw [e0]
        exact s.forget
      · rintro k σ2 H2 _ ⟨ρ2, S2, g2, s2, e2, h2a⟩
        exact SqL.of h2a
      · rintro k x σ2 H2 H3 hlt ⟨ρ2, S2, g2, s2, e2, h2a⟩ ⟨rfl, hx⟩
        have hk : k < os.length := lx ▸ hlt
        have sj : (stt k)[j]? = some .un := by show ((σV.set i _).set j .un)[j]? = _; rw [List.getElem?_set_self (by simpa using hj)]
        have si : (stt k)[i]? = some (.va (.nl (mix k))) := by show ((σV.set i _).set j .un)[i]? = _; rw [List.getElem?_set_ne (fun z => nij z.symm), List.getElem?_set_self hi]
        have s3 : StR K ρ2 pv S2 H3 (stt k) (σ2.set j (some x)) := s2.junk sj
        show L2.tBM K "list" L2.rAppend (tVar j) (tCons (tC v) tNil) (σ2.set j (some x)) H3 _
        have hj2 : j < σ2.length := by rw [s2.len]; show j < ((σV.set i _).set j .un).length; simpa using hj
        have ej : (σ2.set j (some x))[j]? = some (some x) := List.getElem?_set_self hj2
        have ei : (σ2.set j (some x))[i]? = some (some (.ref a)) := by rw [List.getElem?_set_ne (fun z => nij z.symm)]; exact e2
        -- the row in hand
        obtain ⟨o, ho⟩ : ∃ o, os[k]? = some o := ⟨_, List.getElem?_eq_getElem hk⟩
        have hro : rowOk o = true := List.all_eq_true.mp hall o (List.mem_of_getElem? ho)
        have hm : (mix k)[k]? = some o := by
          show ((os.map (appR d)).take k ++ os.drop k)[k]? = _
          rw [List.getElem?_append_right (by simp; omega), List.getElem?_drop]
          rw [← ho]; congr 1; simp; omega
        cases o with
        | ol ds =>
          have hl : ds.length < sizeLine := of_decide_eq_true hro
          have el : lN i (stt k) = .ok ⟨.nl (mix k), fun z => (stt k).set i (.va z)⟩ := by unfold lN; rw [si]
          obtain ⟨v', b1, pl⟩ := place_name s3 el
          rw [ei] at b1; cases b1
          have pw := pl.w
          dsimp only at pw
          unfold Ow at pw
          obtain ⟨b, vs', e5, r5, z5, z6⟩ := pw
          cases e5
          rw [h2a] at z5; cases z5
          obtain ⟨kk, v1', hk', hv', w1', up⟩ := z6.upd (nodup_ix _) hm
          rw [hx] at hv'; cases hv'
          have plc := pl.child (o := .ol ds) (up := fun z => .nl ((mix k).set k z)) w1' fun ρ4 S4 H4 z e4 ko w4 => by
            obtain ⟨k3, k4⟩ := ko a _ r5 np
            unfold Ow
            refine ⟨a, xs, rfl, k3, k4.trans h2a, ?_⟩
            rw [List.length_set]
            exact up ρ4 S4 H4 z e4 ko w4
          refine ⟨x, ej, tyC_ok s3.w w1' rfl, ?_⟩
          refine (show L2.rAppend x [v] H3 (fun _ H1 => ∃ ρ4 S4, Grw ρ S H ρ4 S4 H1 ∧ StR K ρ4 pv S4 H1 (stt (k + 1)) (σ2.set j (some x)) ∧ (σ2.set j (some x))[i]? = some (some (V.ref a)) ∧ H1 a = some (HO.lst xs)) from ?_)
          refine s_append ρ2 S2 H3 (.ol ds) x _ [.val d] [v] _ s3.w w1' ⟨v, [], rfl, ⟨[], by unfold Ow; exact hd _⟩, rfl⟩ ?_
          unfold mAppend
          dsimp only
          rw [if_pos hl]
          intro ρ4 S4 H4 w p' g4 ko wf wz wr
          have st := plc.put ρ4 S4 H4 (.ol (ds ++ [d])) g4.s ko wf wz
          refine ⟨ρ4, S4, g2.trans g4, ?_, ei, ?_⟩
          · have es : (stt k).set i (.va (.nl ((mix k).set k (.ol (ds ++ [d]))))) = stt (k + 1) := by
              have em : (mix k).set k (.ol (ds ++ [d])) = mix (k + 1) := mix_set (d := d) ho
              rw [em]
              show ((σV.set i _).set j .un).set i _ = (σV.set i _).set j .un
              rw [List.set_comm _ _ nij.symm, List.set_set]
            rw [← es]; exact st
          · obtain ⟨_, k4⟩ := ko a _ r5 np
            exact k4.trans h2a
        | _ => cases hro
      · rintro σ2 H2 ⟨ρ2, S2, g2, s2, e2, h2a⟩
        have el : stt xs.length = (σV.set i (.va (.nl (os.map (appR d))))).set j .un := by
          show (σV.set i (.va (.nl ((os.map (appR d)).take xs.length ++ os.drop xs.length)))).set j .un = _
          rw [List.take_of_length_le (by simp; omega), List.drop_eq_nil_of_le (by omega), List.append_nil]
        rw [el] at s2
        exact h ρ2 S2 H2 σ2 g2 s2
    · rw [if_neg hc] at h; exact h.elim
  · rename_i sv h1 h2
    by_cases hc : i ≠ j ∧ sv.isRf = false
    · rw [if_pos hc] at h
      obtain ⟨va, i1, wi⟩ := s.slot i _ _ h1 rfl
      unfold Ow at wi
      obtain ⟨a, xs, rfl, ra, ha, za⟩ := wi
      cases za.unnil
      refine ⟨_, i1, a, rfl, .inl ⟨⟨[], SqL.of ha⟩, ?_⟩⟩
      refine for_it (walk_list (xs := [])) (fun k σ2 H2 => σ2 = σ ∧ H2 = H) ⟨rfl, rfl⟩ ?_ ?_ ?_
      · rintro k σ2 H2 _ ⟨rfl, rfl⟩
        exact SqL.of ha
      · rintro k x σ2 H2 H3 hlt _ _
        simp at hlt
      · rintro σ2 H2 ⟨rfl, rfl⟩
        exact h ρ S _ _ .refl s.forget
    · rw [if_neg hc] at h; exact h.elim
  · exact h.elim
end
@[simp] theorem ev_appExt {i j k : Nat} {σ : VS} : sAppExt i j k σ = match σ[i]?, σ[j]?, σ[k]? with
  | some (.va oi), some (.va (.ol ds)), some (.va (.ol es)) => (match nlOf oi with
    | some os => if i ≠ j ∧ j ≠ k ∧ i ≠ k ∧ os.length < sizeLine ∧ es.length + ds.length ≤ sizeLine then
        .nx (((σ.set i (.va (.nl (os ++ [.ol ds])))).set k (.va (.ol (es ++ ds)))).set j .un) else .bad
    | none => .bad)
  | _, _, _ => .bad := (rfl)
@[simp] theorem ev_forA {i j : Nat} {d : D} {σ : VS} : sForA i j d σ = match σ[i]?, σ[j]? with
  | some (.va (.nl os)), some sv => if i ≠ j ∧ sv.isRf = false ∧ os.all rowOk = true then .nx ((σ.set i (.va (.nl (os.map (appR d))))).set j .un) else .bad
  | some (.va (.ol [])), some sv => if i ≠ j ∧ sv.isRf = false then .nx (σ.set j .un) else .bad
  | _, _ => .bad := (rfl)
end VL
set_option maxRecDepth 100000
set_option maxHeartbeats 4000000
/-! V46: a pair of an owned list and a value; the first part of such a pair in hand -/
namespace VL
open PySem L2
/-- the owned list of a name ahead, a value behind it -/
def vPairO (i : Nat) (x : VX) : VX := ⟨false, fun σ => if x.q = true then (match x.f σ with
  | .ok (.val d) _ => (match (vMvN i).f σ with
    | .ok (.ol ds) σ2 => .ok (.nt [.ol ds, .val d]) σ2
    | _ => .bad)
  | _ => .bad) else .bad⟩
def rhoQ0 (ρe : Rho) (p : Addr) : Rho := fun a => if a = p then some [] else match ρe a with
  | some q => some (.ix 0 :: q)
  | none => none
def vFst (x : VX) : VX := ⟨false, fun σ => match x.f σ with
  | .ok (.nt (.ol ds :: os)) σ1 => .ok (.ol ds) σ1
  | .ok _ _ => .bad
  | .err c σ1 => .err c σ1
  | .bad => .bad⟩
open Classical in
noncomputable def rho0 (ρe : Rho) : Rho := fun a => match ρe a with
  | some q => (match q with
    | .ix 0 :: r => some r
    | _ => none)
  | none => none
section
variable {K : Frag} {W : WX} {te : TE} {x : VX}
theorem rho0_some {ρe : Rho} {a : Addr} {q : Path} (h : rho0 ρe a = some q) : ρe a = some (.ix 0 :: q) := by
  unfold rho0 at h
  split at h
  · rename_i q' e
    split at h
    · cases h; exact e
    · cases h
  · cases h
theorem rho0_none {ρe : Rho} {a : Addr} (h : ρe a = none) : rho0 ρe a = none := by unfold rho0; simp only [h]
theorem rho0_at {ρe : Rho} {a : Addr} {q : Path} (h : ρe a = some (.ix 0 :: q)) : rho0 ρe a = some q := by unfold rho0; rw [h]; rfl
theorem sim_pairO {i : Nat} (hx : SimX K W te x) : SimF K W (tTup (tCons (tVar i) (tCons te tNil))) (vPairO i x) := fun ρ pv S H σV σ Q s h => by
  have h' : FPost K W ρ pv S H σ false σV Q ((vPairO i x).f σV) := h
  unfold vPairO at h'; dsimp only at h'
  by_cases hq : x.q = true
  · rw [if_pos hq] at h'
    cases e : x.f σV with
    | bad => rw [e] at h'; exact h'.elim
    | err c σ1 => rw [e] at h'; exact h'.elim
    | ok o σ1 =>
      rw [e] at h'
      cases o with
      | val d =>
        dsimp only at h'
        cases e2 : (vMvN i).f σV with
        | bad => rw [e2] at h'; exact h'.elim
        | err c σ2 => rw [e2] at h'; exact h'.elim
        | ok oy σ2 =>
          rw [e2] at h'
          cases oy with
          | ol ds =>
            dsimp only at h'
            -- the name's list and the name moved
            have e3 : σV[i]? = some (.va (.ol ds)) ∧ σ2 = σV.set i .un := by
              have z : (match σV[i]? with | some (.va o) => .ok o (σV.set i .un) | _ => .bad : XR O) = .ok (.ol ds) σ2 := e2
              split at z
              · rename_i o e4; cases z; exact ⟨e4, rfl⟩
              · cases z
            obtain ⟨e3, rfl⟩ := e3
            have hi := (List.getElem?_eq_some_iff.mp e3).1
            obtain ⟨v, h1, h2⟩ := s.slot i _ _ e3 rfl
            refine ⟨v, h1, ?_⟩
            refine hx ρ pv S H σV σ _ s ?_
            rw [e]
            intro ρ1 S1 H1 vd pd g1 s1 w1 q1
            obtain ⟨a1, a2, a3⟩ := q1 hq
            subst a1 a2
            obtain ⟨v', h1', h2'⟩ := s1.slot i _ _ e3 rfl
            rw [h1] at h1'; cases h1'
            unfold Ow at h2'
            obtain ⟨b, vs, rfl, rb, hb, fz⟩ := h2'
            refine ⟨show 2 ≤ sizeLine by decide, fun p hp => ?_⟩
            have hH : ∀ u, H p = some u → ρ1 p ≠ none := fun u hu hr => by rw [g1.h p u hu hr] at hp; cases hp
            have hr1 : ρ1 p = none := by
              cases q : ρ1 p with
              | none => rfl
              | some r => obtain ⟨_, o, ho⟩ := s1.w.wf p r q; rw [hp] at ho; cases ho
            have hS1 : S1 p = none := s1.w.ex.back hp
            have hbp : b ≠ p := fun z => by subst z; rw [hp] at hb; cases hb
            have n0 : ∀ a o, H a = some o → ρ1 a = none → a ≠ p := fun a o h r z => hH o (z ▸ h) (z ▸ r)
            -- the state without the name
            have s2 : StR K (rhoOut ρ1 i) pv S1 H1 (σ1.set i .un) σ := ⟨⟨s1.w.ex, fun a r h => s1.w.wf a r (rhoOut_some h).1, s1.w.ft⟩, by simp [s1.len], fun j sv o2 g1 g2 => by
                by_cases z : i = j
                · subst z
                  rw [List.getElem?_set_self hi] at g1; cases g1; cases g2
                · rw [List.getElem?_set_ne z] at g1
                  obtain ⟨w, w1, w2⟩ := s1.slot j sv o2 g1 g2
                  exact ⟨w, w1, Ow.mono (.refl _) (Kp.slot fun a q h => rhoOut_at h (fun w => z w.symm)) w2⟩, fun j o2 g1 => by
                by_cases z : i = j
                · subst z
                  rw [List.getElem?_set_self hi] at g1; cases g1
                · rw [List.getElem?_set_ne z] at g1
                  exact s1.pin j o2 g1⟩
            have hr2 : rhoOut ρ1 i p = none := rhoOut_none hr1
            have hn : ∀ ks : List Key, HO.tup [V.ref b, vd] ≠ .tup (ks.map kV) := fun ks z => by
              injection z with z
              rcases ks with _ | ⟨k1, ks⟩
              · cases z
              · simp only [List.map_cons] at z
                injection z with z _
                cases k1 <;> cases z
            have gg : Grw ρ1 S H (rhoOut ρ1 i) S1 H1 := ⟨g1.s, g1.h, g1.n, fun a o h r => rhoOut_none r⟩
            refine h' (rhoOut ρ1 i) S1 (upd H1 p (.tup [.ref b, vd])) (.ref p) (rhoQ0 (rhoTmp ρ1 i) p) (gg.updOut hH) (s2.updTup hr2 hS1 hn) ⟨fun a q h => ?_, fun a q h => ?_, fun a o h r => ?_⟩ ?_ fun z => by cases z
            · unfold rhoQ0 at h
              by_cases z : a = p
              · subst z; exact ⟨hS1, _, upd_same⟩
              · rw [if_neg z] at h
                cases e7 : rhoTmp ρ1 i a with
                | none => rw [e7] at h; cases h
                | some q' =>
                  obtain ⟨h1, o, h2⟩ := s1.w.wf a _ (rhoTmp_some e7)
                  exact ⟨h1, o, by rw [upd_ne z]; exact h2⟩
            · unfold rhoQ0 at h
              by_cases z : a = p
              · subst z; exact hr2
              · rw [if_neg z] at h
                cases e7 : rhoTmp ρ1 i a with
                | none => rw [e7] at h; cases h
                | some q' =>
                  have := rhoTmp_some e7
                  unfold rhoOut; rw [this]; exact if_pos rfl
            · unfold rhoQ0
              rw [if_neg (n0 a o h r)]
              have : rhoTmp ρ1 i a = none := by unfold rhoTmp; rw [r]
              rw [this]
            · unfold Ow
              refine ⟨p, [.ref b, vd], rfl, by unfold rhoQ0; rw [if_pos rfl], upd_same, ?_⟩
              unfold OwZ
              refine ⟨.ix 0, _, .ref b, _, rfl, rfl, ?_, ?_⟩
              · unfold Ow
                refine ⟨b, vs, rfl, ?_, by rw [upd_ne hbp]; exact hb, fz⟩
                have rt : rhoTmp ρ1 i b = some [] := rhoTmp_at rb
                unfold rhoQ0
                rw [if_neg hbp, rt]; rfl
              · unfold OwZ
                refine ⟨.ix 1, _, vd, _, rfl, rfl, ?_, ?_⟩
                · unfold Ow at w1 ⊢; exact w1
                · unfold OwZ; exact ⟨rfl, rfl⟩
          | _ => exact h'.elim
      | _ => exact h'.elim
  · rw [if_neg hq] at h'; exact h'.elim
theorem sim_fst (hx : SimF K W te x) : SimF K W (tOp (rIx K) te (tC (.int 0))) (vFst x) := fun ρ pv S H σV σ Q s h => by
  have h' : FPost K W ρ pv S H σ false σV Q ((vFst x).f σV) := h
  unfold vFst at h'; dsimp only at h'
  refine hx ρ pv S H σV σ _ s ?_
  cases e : x.f σV with
  | bad => rw [e] at h'; exact h'
  | err c σ1 => rw [e] at h'; exact h'
  | ok o σ1 =>
    rw [e] at h'
    split at h'
    · rename_i ds os σ1' e1
      cases e1
      intro ρ1 S1 H1 v ρ2 g1 s1 t w _
      unfold Ow at w
      obtain ⟨a, vs, rfl, ra, ha, z⟩ := w
      have z0 := z
      unfold OwZ at z
      obtain ⟨k, ks', v1, vs', e5, rfl, w1, _⟩ := z
      have ek : k = .ix 0 := by
        rw [List.length_cons, List.range_succ_eq_map, List.map_cons] at e5
        exact (List.cons.inj e5).1.symm
      subst ek
      unfold Ow at w1
      obtain ⟨b, ys, rfl, rb, hb, fz⟩ := w1
      refine .inr (.inl ⟨a, _, 0, .ref b, rfl, rfl, SqT.of ha, ?_, ?_⟩)
      · unfold L2.atI
        simp [L2.ixN, seqIndex?]
      · refine h' ρ1 S1 H1 (.ref b) (rho0 ρ2) g1 s1 ⟨fun x q h => t.wf x _ (rho0_some h), fun x q h => t.d x _ (rho0_some h), fun x o h r => rho0_none (t.n x o h r)⟩ ?_ fun z => by cases z
        unfold Ow
        exact ⟨b, ys, rfl, rho0_at rb, hb, fz⟩
    · rename_i o' σ' hne e1
      cases e1
      exact h'.elim
    · cases ‹XR.ok _ _ = XR.err _ _›
    · cases ‹XR.ok _ _ = XR.bad›
theorem na_name {i : Nat} {a : AX} {n : Nat} (h : NA a n) : NA (aName i a) (n + 1) := ⟨fun σ os σ1 e => by
  unfold aName at e
  dsimp only at e
  split at e
  · split at e
    · rename_i os2 σ3 e2
      split at e
      · cases e
        simp [h.l _ _ _ e2]
      · cases e
    · cases e
    · cases e
  · cases e⟩
end
@[simp] theorem ev_pairO {i : Nat} {x : VX} {σ : VS} : (vPairO i x).f σ = if x.q = true then (match x.f σ with
  | .ok (.val d) _ => (match (vMvN i).f σ with
    | .ok (.ol ds) σ2 => .ok (.nt [.ol ds, .val d]) σ2
    | _ => .bad)
  | _ => .bad) else .bad := (rfl)
@[simp] theorem ev_fst {x : VX} {σ : VS} : (vFst x).f σ = match x.f σ with
  | .ok (.nt (.ol ds :: os)) σ1 => .ok (.ol ds) σ1
  | .ok _ _ => .bad
  | .err c σ1 => .err c σ1
  | .bad => .bad := (rfl)
end VL
set_option maxRecDepth 100000
set_option maxHeartbeats 4000000
/-! V47: texts: join, split, slices, signs, numbers there and back, f-strings -/
namespace L2
open PySem PySem.Spec PyProof.Rows
def rJoinT (K : PySem.W.Frag) : V → List V → Hp → VK → Prop := fun x xs H Q => ∃ a p, ∃ ys : List Str, x = .str a ∧ xs = [.ref p] ∧ (SqL K H p (ys.map V.str) ∨ SqT K H p (ys.map V.str)) ∧
    (ys.map (·.length)).sum + ys.length * a.length ≤ 16777216 ∧ Q (.str (Txt.join a ys)) H
def rSplitT : V → List V → Hp → VK → Prop := fun x xs H Q => ∃ a b, x = .str a ∧ xs = [.str b] ∧ (b.length == 0) = false ∧ a.length + 2 ≤ sizeLine ∧ rNewStrs (Txt.split a b) H Q
section
variable {X : Cx} {K : PySem.W.Frag} {o e : Expr} {to te : TE} {apos pos : Pos}
theorem pe_joinK (hK : X.K = K) (ho : PE X o to) (he : PE X e te) (hs : starEach [e] X.env = [(false, eval e X.env)] := by rfl) (hbase : attributeBase o "join" X.env (eval o X.env) = eval o X.env := by rfl) (hline : (apos.endLine == pos.line) = true := by rfl) :
    PE X (.Call (.Attribute o "join" apos) [e] [] pos) (tM1 (rJoinT K) to te) := by subst hK; exact pe_join ho he hs hbase hline
theorem pe_splitT (ho : PE X o to) (he : PE X e te) (hs : starEach [e] X.env = [(false, eval e X.env)] := by rfl) (hbase : attributeBase o "split" X.env (eval o X.env) = eval o X.env := by rfl) (hline : (apos.endLine == pos.line) = true := by rfl) :
    PE X (.Call (.Attribute o "split" apos) [e] [] pos) (tM1 rSplitT to te) := pe_split ho he hs hbase hline
end
end L2
namespace VL
open PySem L2
section
variable {K : Frag} {W : WX} {te tb to : TE} {x y : VX}
/-! ### a text's method with one argument -/
def vTx (f : Str → O → QR O) (x y : VX) : VX := ⟨x.q && y.q, fun σ => match x.f σ with
  | .ok (.val (.str a)) σ1 => (match y.f σ1 with
    | .ok o σ2 => (match f a o with
      | .ok r => .ok r σ2
      | .bad => .bad)
    | .err c σ2 => .err c σ2
    | .bad => .bad)
  | .ok _ _ => .bad
  | .err c σ1 => .err c σ1
  | .bad => .bad⟩
def SimR1 (K : Frag) (r : V → List V → Hp → VK → Prop) (f : Str → O → QR O) : Prop := ∀ ρ S H a o v p Q, Wf ρ S H → Ow K ρ S H o v p → RPost K ρ S H Q (f a o) → r (.str a) [v] H Q
def SimRF1 (K : Frag) (r : V → List V → Hp → VK → Prop) (f : Str → O → QR O) : Prop := ∀ ρ S H a o v p Q, Wf ρ S H → Ow K ρ S H o v p → RFPost K ρ S H Q (f a o) → r (.str a) [v] H Q
theorem sim_tx {r : V → List V → Hp → VK → Prop} {f : Str → O → QR O} (hr : SimR1 K r f) (hx : SimX K W to x) (hy : SimX K W te y) : SimX K W (tM1 r to te) (vTx f x y) := fun ρ pv S H σV σ Q s h => by
  refine hx ρ pv S H σV σ _ s ?_
  have h' : XPost K W ρ pv S H σ (x.q && y.q) σV Q ((vTx f x y).f σV) := h
  unfold vTx at h'; dsimp only at h'
  cases e : x.f σV with
  | bad => rw [e] at h'; exact h'
  | err c σ1 => rw [e] at h'; exact h'
  | ok o σ1 =>
    rw [e] at h'
    split at h'
    · rename_i a σ1' e1
      cases e1
      intro ρ1 S1 H1 v p g1 s1 w1 q1
      have ev : v = .str a := by unfold Ow Fz at w1; exact w1
      subst ev
      refine ⟨⟨a, rfl⟩, hy ρ1 pv S1 H1 σ1 σ _ s1 ?_⟩
      cases e2 : y.f σ1 with
      | bad => rw [e2] at h'; exact h'
      | err c σ2 => rw [e2] at h'; exact fun ρ2 S2 H2 g2 s2 => h' ρ2 S2 H2 (g1.trans g2) s2
      | ok oy σ2 =>
        rw [e2] at h'; dsimp only at h'
        intro ρ2 S2 H2 vy py g2 s2 w2 q2
        refine hr ρ2 S2 H2 a oy vy py Q s2.w w2 ?_
        cases e3 : f a oy with
        | bad => rw [e3] at h'; exact h'.elim
        | ok r =>
          rw [e3] at h'
          intro S3 H3 v3 p3 q3 ex3 w3
          refine h' ρ2 S3 H3 v3 p3 ((g1.trans g2).trans q3.grw) (s2.quiet q3 ex3) w3 fun hq => ?_
          obtain ⟨k1, k2⟩ := Bool.and_eq_true_iff.mp hq
          obtain ⟨a1, a2, a3⟩ := q1 k1
          obtain ⟨b1, b2, b3⟩ := q2 k2
          exact ⟨b1.trans a1, b2.trans a2, (a3.trans b3).trans q3⟩
    · exact h'.elim
    · rename_i e1; cases e1
    · rename_i e1; cases e1
/-- the same, telling something new -/
def vTxF (f : Str → O → QR O) (x y : VX) : VX := ⟨false, (vTx f x y).f⟩
theorem sim_txF {r : V → List V → Hp → VK → Prop} {f : Str → O → QR O} (hr : SimRF1 K r f) (hx : SimX K W to x) (hy : SimX K W te y) : SimF K W (tM1 r to te) (vTxF f x y) := fun ρ pv S H σV σ Q s h => by
  refine hx ρ pv S H σV σ _ s ?_
  have h' : FPost K W ρ pv S H σ false σV Q ((vTx f x y).f σV) := h
  unfold vTx at h'; dsimp only at h'
  cases e : x.f σV with
  | bad => rw [e] at h'; exact h'
  | err c σ1 => rw [e] at h'; exact h'
  | ok o σ1 =>
    rw [e] at h'
    split at h'
    · rename_i a σ1' e1
      cases e1
      intro ρ1 S1 H1 v p g1 s1 w1 q1
      have ev : v = .str a := by unfold Ow Fz at w1; exact w1
      subst ev
      refine ⟨⟨a, rfl⟩, hy ρ1 pv S1 H1 σ1 σ _ s1 ?_⟩
      cases e2 : y.f σ1 with
      | bad => rw [e2] at h'; exact h'
      | err c σ2 => rw [e2] at h'; exact fun ρ2 S2 H2 g2 s2 => h' ρ2 S2 H2 (g1.trans g2) s2
      | ok oy σ2 =>
        rw [e2] at h'; dsimp only at h'
        intro ρ2 S2 H2 vy py g2 s2 w2 q2
        refine hr ρ2 S2 H2 a oy vy py Q s2.w w2 ?_
        cases e3 : f a oy with
        | bad => rw [e3] at h'; exact h'.elim
        | ok r =>
          rw [e3] at h'
          intro S3 H3 v3 ρ3 q3 ex3 n3 wf3 w3
          have g := g1.trans g2
          refine h' ρ2 S3 H3 v3 ρ3 (g.trans q3.grw) (s2.quiet q3 ex3) ⟨wf3, fun b r hb => ?_, fun b u hb hr => n3 b u (g.h b u hb hr)⟩ w3 fun z => by cases z
          cases e5 : ρ2 b with
          | none => rfl
          | some q' =>
            obtain ⟨_, u, hu⟩ := s2.w.wf b q' e5
            rw [n3 b u hu] at hb; cases hb
    · exact h'.elim
    · rename_i e1; cases e1
    · rename_i e1; cases e1
def strsD : List D → Option (List Str)
  | [] => some []
  | .str a :: ds => (strsD ds).map fun r => a :: r
  | _ :: _ => none
theorem strsD_ok {S : Hp} : ∀ {ds : List D} {vs : List V} {ys : List Str}, FzL K S ds vs → strsD ds = some ys → vs = ys.map V.str
  | [], vs, ys, f, e => by cases e; exact f.unnil
  | .str a :: ds, vs, ys, f, e => by
    obtain ⟨r, e1, rfl⟩ := Option.map_eq_some_iff.mp (show (strsD ds).map (fun r => a :: r) = some ys from e)
    obtain ⟨v, vs', rfl, h1, h2⟩ := f.uncons
    unfold Fz at h1
    rw [h1, strsD_ok h2 e1]
    rfl
  | .non :: _, _, _, _, e => nomatch (show none = some _ from e)
  | .bl _ :: _, _, _, _, e => nomatch (show none = some _ from e)
  | .int _ :: _, _, _, _, e => nomatch (show none = some _ from e)
  | .ty _ :: _, _, _, _, e => nomatch (show none = some _ from e)
  | .tup _ :: _, _, _, _, e => nomatch (show none = some _ from e)
  | .lst _ :: _, _, _, _, e => nomatch (show none = some _ from e)
  | .rd _ :: _, _, _, _, e => nomatch (show none = some _ from e)
  | .dic _ _ :: _, _, _, _, e => nomatch (show none = some _ from e)
  | .obj _ _ _ :: _, _, _, _, e => nomatch (show none = some _ from e)
  | .hid :: _, _, _, _, e => nomatch (show none = some _ from e)
theorem strsD_map (ys : List Str) : strsD (ys.map D.str) = some ys := by
  induction ys with
  | nil => rfl
  | cons y ys ih => rw [List.map_cons]; unfold strsD; rw [ih]; rfl
def fJoin (a : Str) (o : O) : QR O := match (sqO o).bind strsD with
  | some ys => if (ys.map (·.length)).sum + ys.length * a.length ≤ 16777216 then .ok (.val (.str (Txt.join a ys))) else .bad
  | none => .bad
theorem s_join : SimR1 K (rJoinT K) fJoin := fun ρ S H a o v p Q w h1 h => by
  unfold fJoin at h
  cases e : (sqO o).bind strsD with
  | none => rw [e] at h; exact h.elim
  | some ys =>
    rw [e] at h; dsimp only at h
    obtain ⟨ds, e1, e2⟩ := Option.bind_eq_some_iff.mp e
    obtain ⟨b, vs, rfl, q1, q2⟩ := sqO_ok w h1 e1
    by_cases hc : (ys.map (·.length)).sum + ys.length * a.length ≤ 16777216
    · rw [if_pos hc] at h
      rw [strsD_ok q2 e2] at q1
      exact ⟨a, b, ys, rfl, rfl, .inl q1, hc, RPost.now (p := []) w h (by unfold Ow Fz; rfl)⟩
    · rw [if_neg hc] at h; exact h.elim
def fSplit (a : Str) (o : O) : QR O := match o with
  | .val (.str b) => if (b.length == 0) = false ∧ a.length + 2 ≤ sizeLine then .ok (.ol ((Txt.split a b).map D.str)) else .bad
  | _ => .bad
theorem fz_strs {S : Hp} : ∀ ys : List Str, FzL K S (ys.map D.str) (ys.map V.str)
  | [] => .nil
  | y :: ys => .cons (fz_str _) (fz_strs ys)
theorem s_split : SimRF1 K rSplitT fSplit := fun ρ S H a o v p Q w h1 h => by
  unfold fSplit at h
  split at h
  · rename_i b
    have ev : v = .str b := by unfold Ow Fz at h1; exact h1
    subst ev
    by_cases hc : (b.length == 0) = false ∧ a.length + 2 ≤ sizeLine
    · rw [if_pos hc] at h
      exact ⟨a, b, rfl, rfl, hc.1, hc.2, fun q hq => RFPost.lst w hq h (fz_strs _)⟩
    · rw [if_neg hc] at h; exact h.elim
  · exact h.elim
/-! ### numbers and texts -/
def fStrI : List O → QR O
  | [.val (.int i)] => if i.natAbs.log2 < 1920 then .ok (.val (.str (toString i))) else .bad
  | _ => .bad
theorem s_strI : SimR K (fun xs H Q => ∃ i : Int, xs = [.int i] ∧ i.natAbs.log2 < 1920 ∧ Q (.str (toString i)) H) fStrI := fun ρ S H os vs Q w wa h => by
  unfold fStrI at h
  split at h
  · rename_i i
    obtain ⟨v, p, rfl, h1⟩ := wa.one
    cases owI h1
    by_cases hc : i.natAbs.log2 < 1920
    · rw [if_pos hc] at h
      exact ⟨i, rfl, hc, RPost.now (p := []) w h (by unfold Ow Fz; rfl)⟩
    · rw [if_neg hc] at h; exact h.elim
  · exact h.elim
def fIntT : List O → QR O
  | [.val (.str a)] => if a.length ≤ 640 then (match PySem.intText? a with
    | some n => .ok (.val (.int n))
    | none => .bad) else .bad
  | _ => .bad
theorem s_intT : SimR K (fun xs H Q => ∃ a n, xs = [.str a] ∧ PySem.intText? a = some n ∧ a.length ≤ 640 ∧ Q (.int n) H) fIntT := fun ρ S H os vs Q w wa h => by
  unfold fIntT at h
  split at h
  · rename_i a
    obtain ⟨v, p, rfl, h1⟩ := wa.one
    have ev : v = .str a := by unfold Ow Fz at h1; exact h1
    subst ev
    by_cases hc : a.length ≤ 640
    · rw [if_pos hc] at h
      cases e : PySem.intText? a with
      | none => rw [e] at h; exact h.elim
      | some n =>
        rw [e] at h
        exact ⟨a, n, rfl, e, hc, RPost.now (p := []) w h (by unfold Ow Fz; rfl)⟩
    · rw [if_neg hc] at h; exact h.elim
  · exact h.elim
/-! ### slices of texts -/
def vSlS (x : VX) (l u : OX) : VX := ⟨false, fun σ => match x.f σ with
  | .ok (.val (.str z)) σ1 => (match l.f σ1 with
    | .ok lo σ2 => (match u.f σ2 with
      | .ok hi σ3 => if z.length ≤ sizeLine then .ok (.val (.str (Txt.slice z lo hi))) σ3 else .bad
      | .err c σ3 => .err c σ3
      | .bad => .bad)
    | .err c σ2 => .err c σ2
    | .bad => .bad)
  | .ok _ _ => .bad
  | .err c σ1 => .err c σ1
  | .bad => .bad⟩
theorem sim_slS {tl th : TO} {l u : OX} (hx : SimX K W te x) (hl : SimO K W tl l) (hu : SimO K W th u) : SimX K W (tSl C8.rSlX te tl th) (vSlS x l u) := fun ρ pv S H σV σ Q s h => by
  refine hx ρ pv S H σV σ _ s ?_
  have h' : XPost K W ρ pv S H σ false σV Q ((vSlS x l u).f σV) := h
  unfold vSlS at h'; dsimp only at h'
  cases e : x.f σV with
  | bad => rw [e] at h'; exact h'
  | err c σ1 => rw [e] at h'; exact h'
  | ok o σ1 =>
    rw [e] at h'
    split at h'
    · rename_i z σ1' e1
      cases e1
      intro ρ1 S1 H1 v p g1 s1 w1 _
      have ev : v = .str z := by unfold Ow Fz at w1; exact w1
      subst ev
      refine hl ρ1 pv S1 H1 σ1 σ _ s1 ?_
      cases e2 : l.f σ1 with
      | bad => rw [e2] at h'; exact h'
      | err c σ2 => rw [e2] at h'; exact fun ρ2 S2 H2 g2 s2 => h' ρ2 S2 H2 (g1.trans g2) s2
      | ok lo σ2 =>
        rw [e2] at h'; dsimp only at h'
        intro ρ2 S2 H2 g2 s2 _
        refine hu ρ2 pv S2 H2 σ2 σ _ s2 ?_
        cases e3 : u.f σ2 with
        | bad => rw [e3] at h'; exact h'
        | err c σ3 => rw [e3] at h'; exact fun ρ3 S3 H3 g3 s3 => h' ρ3 S3 H3 ((g1.trans g2).trans g3) s3
        | ok hi σ3 =>
          rw [e3] at h'; dsimp only at h'
          intro ρ3 S3 H3 g3 s3 _
          by_cases hz : z.length ≤ sizeLine
          · rw [if_pos hz] at h'
            exact ⟨z, rfl, hz, h' ρ3 S3 H3 _ [] ((g1.trans g2).trans g3) s3 (by unfold Ow Fz; rfl) fun z => by cases z⟩
          · rw [if_neg hz] at h'; exact h'.elim
    · exact h'.elim
    · rename_i e1; cases e1
    · rename_i e1; cases e1
/-! ### a text, sign by sign -/
def sgD (c : Nat) : D := .str ⟨#[c]⟩
def ixStr (x : VX) : IX := fun σ => match x.f σ with
  | .ok (.val (.str z)) σ1 => .ok (z.cps.toList.map sgD) σ1
  | .ok _ _ => .bad
  | .err c σ1 => .err c σ1
  | .bad => .bad
theorem sim_iStr (hx : SimX K W te x) : SimI K W (iStr te) (ixStr x) := fun ρ pv S H σV σ R s h => by
  refine hx ρ pv S H σV σ _ s ?_
  unfold ixStr at h
  cases e : x.f σV with
  | bad => rw [e] at h; exact h
  | err c σ1 => rw [e] at h; exact h
  | ok o σ1 =>
    rw [e] at h
    split at h
    · rename_i z σ1' e1
      cases e1
      intro ρ1 S1 H1 v p g1 s1 w1 _
      have ev : v = .str z := by unfold Ow Fz at w1; exact w1
      subst ev
      have hl : (z.cps.toList.map sgD).length = z.cps.size := by simp
      refine ⟨z, rfl, h ρ1 S1 H1 _ _ _ g1 s1 (hl.symm ▸ walk_str) (fun _ _ _ _ => trivial) fun S2 H2 i x H3 hi e1 e2 y => ?_⟩
      obtain ⟨rfl, c, hc, rfl⟩ := y
      refine ⟨S2, sgD c, .refl, e2, ?_, by unfold sgD Fz; rfl⟩
      rw [List.getElem?_map, Array.getElem?_toList, hc]
      rfl
    · exact h.elim
    · rename_i e1; cases e1
    · rename_i e1; cases e1
/-! ### f-strings -/
def vFmt (x : VX) : VX := ⟨false, fun σ => match x.f σ with
  | .ok (.val (.str y)) σ1 => if y.length ≤ sizeLine then .ok (.val (.str y)) σ1 else .bad
  | .ok (.val (.int i)) σ1 => if i.natAbs.log2 < 1920 then .ok (.val (.str (toString i))) σ1 else .bad
  | .ok _ _ => .bad
  | .err c σ1 => .err c σ1
  | .bad => .bad⟩
theorem sim_fmt (hx : SimX K W te x) : SimX K W (tFmt te) (vFmt x) := fun ρ pv S H σV σ Q s h => by
  refine hx ρ pv S H σV σ _ s ?_
  have h' : XPost K W ρ pv S H σ false σV Q ((vFmt x).f σV) := h
  unfold vFmt at h'; dsimp only at h'
  cases e : x.f σV with
  | bad => rw [e] at h'; exact h'
  | err c σ1 => rw [e] at h'; exact h'
  | ok o σ1 =>
    rw [e] at h'
    split at h'
    · rename_i y σ1' e1
      cases e1
      intro ρ1 S1 H1 v p g1 s1 w1 _
      have ev : v = .str y := by unfold Ow Fz at w1; exact w1
      by_cases hz : y.length ≤ sizeLine
      · rw [if_pos hz] at h'
        exact .inl ⟨y, ev, hz, h' ρ1 S1 H1 _ [] g1 s1 (by unfold Ow Fz; rfl) fun z => by cases z⟩
      · rw [if_neg hz] at h'; exact h'.elim
    · rename_i i σ1' e1
      cases e1
      intro ρ1 S1 H1 v p g1 s1 w1 _
      have ev : v = .int i := owI w1
      by_cases hz : i.natAbs.log2 < 1920
      · rw [if_pos hz] at h'
        exact .inr ⟨i, ev, hz, h' ρ1 S1 H1 _ [] g1 s1 (by unfold Ow Fz; rfl) fun z => by cases z⟩
      · rw [if_neg hz] at h'; exact h'.elim
    · exact h'.elim
    · rename_i e1; cases e1
    · rename_i e1; cases e1
def jsV : List VX → Str → VS → XR Str
  | [], acc, σ => .ok acc σ
  | x :: xs, acc, σ => match x.f σ with
    | .ok (.val (.str y)) σ1 => if (acc ++ y).length ≤ sizeLine then jsV xs (acc ++ y) σ1 else .bad
    | .ok _ _ => .bad
    | .err c σ1 => .err c σ1
    | .bad => .bad
inductive SimJ (K : Frag) (W : WX) : List TE → List VX → Prop where
  | nil : SimJ K W [] []
  | cons {t : TE} {x : VX} {ts : List TE} {xs : List VX} (h : SimX K W t x) (r : SimJ K W ts xs) : SimJ K W (t :: ts) (x :: xs)
def JPost (K : Frag) (W : WX) (ρ : Rho) (pv : Nat → Option V) (S H : Hp) (σ : St) (Q : Str → Hp → Prop) : XR Str → Prop
  | .ok a σ1 => ∀ ρ' S' H', Grw ρ S H ρ' S' H' → StR K ρ' pv S' H' σ1 σ → Q a H'
  | .err c σ1 => ∀ ρ' S' H', Grw ρ S H ρ' S' H' → StR K ρ' pv S' H' σ1 σ → EC K W c σ H'
  | .bad => False
theorem sim_jsL {ts : List TE} {xs : List VX} (hj : SimJ K W ts xs) : ∀ (acc : Str) (ρ : Rho) (pv : Nat → Option V) (S H : Hp) (σV : VS) (σ : St) (Q : Str → Hp → Prop), StR K ρ pv S H σV σ → JPost K W ρ pv S H σ Q (jsV xs acc σV) → tJs ts acc σ H Q := by
  induction hj with
  | nil => intro acc ρ pv S H σV σ Q s h; exact h ρ S H .refl s
  | @cons t x ts xs hx r ih =>
    intro acc ρ pv S H σV σ Q s h
    refine hx ρ pv S H σV σ _ s ?_
    unfold jsV at h
    cases e : x.f σV with
    | bad => rw [e] at h; exact h
    | err c σ1 => rw [e] at h; exact h
    | ok o σ1 =>
      rw [e] at h
      split at h
      · rename_i y σ1' e1
        cases e1
        intro ρ1 S1 H1 v p g1 s1 w1 _
        have ev : v = .str y := by unfold Ow Fz at w1; exact w1
        by_cases hz : (acc ++ y).length ≤ sizeLine
        · rw [if_pos hz] at h
          refine ⟨y, ev, hz, ih (acc ++ y) ρ1 pv S1 H1 σ1 σ Q s1 ?_⟩
          cases e2 : jsV xs (acc ++ y) σ1 with
          | bad => rw [e2] at h; exact h
          | err c σ2 => rw [e2] at h; exact fun ρ2 S2 H2 g2 s2 => h ρ2 S2 H2 (g1.trans g2) s2
          | ok a σ2 => rw [e2] at h; exact fun ρ2 S2 H2 g2 s2 => h ρ2 S2 H2 (g1.trans g2) s2
        · rw [if_neg hz] at h; exact h.elim
      · exact h.elim
      · rename_i e1; cases e1
      · rename_i e1; cases e1
def vJs (xs : List VX) : VX := ⟨false, fun σ => match jsV xs Str.empty σ with
  | .ok a σ1 => .ok (.val (.str a)) σ1
  | .err c σ1 => .err c σ1
  | .bad => .bad⟩
theorem sim_js {ts : List TE} {xs : List VX} (hj : SimJ K W ts xs) : SimX K W (fun σ H Q => tJs ts Str.empty σ H fun out H1 => Q (.str out) H1) (vJs xs) := fun ρ pv S H σV σ Q s h => by
  refine sim_jsL hj Str.empty ρ pv S H σV σ _ s ?_
  have h' : XPost K W ρ pv S H σ false σV Q ((vJs xs).f σV) := h
  unfold vJs at h'; dsimp only at h'
  cases e : jsV xs Str.empty σV with
  | bad => rw [e] at h'; exact h'
  | err c σ1 => rw [e] at h'; exact h'
  | ok a σ1 =>
    rw [e] at h'
    exact fun ρ1 S1 H1 g1 s1 => h' ρ1 S1 H1 _ [] g1 s1 (by unfold Ow Fz; rfl) fun z => by cases z
end
section
variable {σ : VS}
@[simp] theorem ev_tx {f : Str → O → QR O} {x y : VX} : (vTx f x y).f σ = match x.f σ with
  | .ok (.val (.str a)) σ1 => (match y.f σ1 with
    | .ok o σ2 => (match f a o with
      | .ok r => .ok r σ2
      | .bad => .bad)
    | .err c σ2 => .err c σ2
    | .bad => .bad)
  | .ok _ _ => .bad
  | .err c σ1 => .err c σ1
  | .bad => .bad := (rfl)
@[simp] theorem ev_txF {f : Str → O → QR O} {x y : VX} : (vTxF f x y).f σ = match x.f σ with
  | .ok (.val (.str a)) σ1 => (match y.f σ1 with
    | .ok o σ2 => (match f a o with
      | .ok r => .ok r σ2
      | .bad => .bad)
    | .err c σ2 => .err c σ2
    | .bad => .bad)
  | .ok _ _ => .bad
  | .err c σ1 => .err c σ1
  | .bad => .bad := (rfl)
@[simp] theorem ev_slS {x : VX} {l u : OX} : (vSlS x l u).f σ = match x.f σ with
  | .ok (.val (.str z)) σ1 => (match l.f σ1 with
    | .ok lo σ2 => (match u.f σ2 with
      | .ok hi σ3 => if z.length ≤ sizeLine then .ok (.val (.str (Txt.slice z lo hi))) σ3 else .bad
      | .err c σ3 => .err c σ3
      | .bad => .bad)
    | .err c σ2 => .err c σ2
    | .bad => .bad)
  | .ok _ _ => .bad
  | .err c σ1 => .err c σ1
  | .bad => .bad := (rfl)
@[simp] theorem ev_ixStr {x : VX} : ixStr x σ = match x.f σ with
  | .ok (.val (.str z)) σ1 => .ok (z.cps.toList.map sgD) σ1
  | .ok _ _ => .bad
  | .err c σ1 => .err c σ1
  | .bad => .bad := (rfl)
@[simp] theorem ev_fmt {x : VX} : (vFmt x).f σ = match x.f σ with
  | .ok (.val (.str y)) σ1 => if y.length ≤ sizeLine then .ok (.val (.str y)) σ1 else .bad
  | .ok (.val (.int i)) σ1 => if i.natAbs.log2 < 1920 then .ok (.val (.str (toString i))) σ1 else .bad
  | .ok _ _ => .bad
  | .err c σ1 => .err c σ1
  | .bad => .bad := (rfl)
@[simp] theorem ev_js0 {acc : Str} : jsV [] acc σ = .ok acc σ := (rfl)
@[simp] theorem ev_js1 {acc : Str} {x : VX} {xs : List VX} : jsV (x :: xs) acc σ = match x.f σ with
    | .ok (.val (.str y)) σ1 => if (acc ++ y).length ≤ sizeLine then jsV xs (acc ++ y) σ1 else .bad
    | .ok _ _ => .bad
    | .err c σ1 => .err c σ1
    | .bad => .bad := (rfl)
@[simp] theorem ev_vjs {xs : List VX} : (vJs xs).f σ = match jsV xs Str.empty σ with
  | .ok a σ1 => .ok (.val (.str a)) σ1
  | .err c σ1 => .err c σ1
  | .bad => .bad := (rfl)
end
end VL
set_option maxRecDepth 100000
namespace CM
open PySem L2 VL
noncomputable def b_law_mixed : VB := (sSeq (sAsg (gN 2) (v2 fMod (v2 fAdd (v2 fAdd (v2 fMul (vVar 0) (vC (.int 48271))) (v2 fMul (vVar 1) (vC (.int 69621)))) (vC (.int 12345))) (vC (.int 2147483647))))
 (sRet (v2 fMod (v2 fAdd (v2 fMul (vVar 2) (v2 fAdd (v2 fFdiv (vVar 2) (vC (.int 65536))) (vC (.int 3)))) (vVar 1)) (vC (.int 2147483647)))))
theorem mx_law_mixed : ∃ m : FS, m = runG (List.replicate 2 false) 1 (b_law_mixed) := ⟨_, rfl⟩
noncomputable def m_law_mixed : FS := (mx_law_mixed).choose
theorem mq_law_mixed : m_law_mixed = runG (List.replicate 2 false) 1 (b_law_mixed) := (mx_law_mixed).choose_spec
theorem l1_law_numbers_x : ∃ m : VB, m = (sTidy [4] (sIf (tvTest (v2 fGt (vVar 3) (vC (.int 0))))
 (sSeq (sDrop (vMtN "list" 1 (aCons (v2 fMod (vVar 3) (vC (.int 1000000))) aNil) mAppend))
 (sAsg (gN 3) (v2 fFdiv (vVar 3) (vC (.int 1000000)))))
 sNext)) := ⟨_, rfl⟩
noncomputable def l1_law_numbers : VB := (l1_law_numbers_x).choose
theorem l1_law_numbers_q : l1_law_numbers = (sTidy [4] (sIf (tvTest (v2 fGt (vVar 3) (vC (.int 0))))
 (sSeq (sDrop (vMtN "list" 1 (aCons (v2 fMod (vVar 3) (vC (.int 1000000))) aNil) mAppend))
 (sAsg (gN 3) (v2 fFdiv (vVar 3) (vC (.int 1000000)))))
 sNext)) := (l1_law_numbers_x).choose_spec
theorem l2_law_numbers_x : ∃ m : VB, m = (sTidy [4] (sDrop (vMtN "list" 1 (aCons (v2 fMod (vFrz (vCallP m_law_mixed (aCons (vFrz (vCallP m_law_mixed (aCons (v2 fMod (vVar 2) (vC (.int 2147483647))) (aCons (vVar 4) aNil)))) (aCons (v2 fAdd (vVar 4) (vC (.int 7))) aNil)))) (vC (.int 1000000))) aNil) mAppend))) := ⟨_, rfl⟩
noncomputable def l2_law_numbers : VB := (l2_law_numbers_x).choose
theorem l2_law_numbers_q : l2_law_numbers = (sTidy [4] (sDrop (vMtN "list" 1 (aCons (v2 fMod (vFrz (vCallP m_law_mixed (aCons (vFrz (vCallP m_law_mixed (aCons (v2 fMod (vVar 2) (vC (.int 2147483647))) (aCons (vVar 4) aNil)))) (aCons (v2 fAdd (vVar 4) (vC (.int 7))) aNil)))) (vC (.int 1000000))) aNil) mAppend))) := (l2_law_numbers_x).choose_spec
theorem l3_law_numbers_x : ∃ m : VB, m = (sTidy [2, 3, 4] (sTidy [3, 4] (sIf (tvTest (v2 fGe (vVar 2) (v2 fPow (vC (.int 10)) (vC (.int 18)))))
 (sSeq (sAsg (gN 3) (vVar 2))
 (sTidy [3] (sFor (ixRng (aCons (vC (.int 60)) aNil)) (gN 4)
 (l1_law_numbers))))
 (sSeq (sDrop (vMtN "list" 1 (aCons (v2 fMod (vVar 2) (vC (.int 1000000))) aNil) mAppend))
 (sFor (ixRng (aCons (vC (.int 5)) aNil)) (gN 4)
 (l2_law_numbers)))))) := ⟨_, rfl⟩
noncomputable def l3_law_numbers : VB := (l3_law_numbers_x).choose
theorem l3_law_numbers_q : l3_law_numbers = (sTidy [2, 3, 4] (sTidy [3, 4] (sIf (tvTest (v2 fGe (vVar 2) (v2 fPow (vC (.int 10)) (vC (.int 18)))))
 (sSeq (sAsg (gN 3) (vVar 2))
 (sTidy [3] (sFor (ixRng (aCons (vC (.int 60)) aNil)) (gN 4)
 (l1_law_numbers))))
 (sSeq (sDrop (vMtN "list" 1 (aCons (v2 fMod (vVar 2) (vC (.int 1000000))) aNil) mAppend))
 (sFor (ixRng (aCons (vC (.int 5)) aNil)) (gN 4)
 (l2_law_numbers)))))) := (l3_law_numbers_x).choose_spec
noncomputable def b_law_numbers : VB := (sSeq (sAsgF 1 (vApp fLstF aNil))
 (sSeq (sFor (ixSeq (vVar 0)) (gN 2)
 (l3_law_numbers))
 (sRetMv 1)))
theorem mx_law_numbers : ∃ m : FS, m = runG (List.replicate 1 false) 4 (b_law_numbers) := ⟨_, rfl⟩
noncomputable def m_law_numbers : FS := (mx_law_numbers).choose
theorem mq_law_numbers : m_law_numbers = runG (List.replicate 1 false) 4 (b_law_numbers) := (mx_law_numbers).choose_spec
noncomputable def b_law_draw : VB := (sSeq (sAsg (gN 1) (v2 fIx (vVar 0) (vC (.int 1))))
 (sSeq (sSet (lN 0) (vC (.int 1)) (v2 fAdd (vVar 1) (vC (.int 1))) mSetL)
 (sSeq (sIf (tvTest (v2 fLt (vVar 1) (vApp fLen (aCons (v2 fIx (vVar 0) (vC (.int 0))) aNil))))
 (sRet (v2 fIx (v2 fIx (vVar 0) (vC (.int 0))) (vVar 1)))
 sNext)
 (sSeq (sAsg (gN 2) (v2 fAdd (vC (.int 1)) (vVar 1)))
 (sSeq (sIf (tvTest (v2 fGt (vApp fLen (aCons (v2 fIx (vVar 0) (vC (.int 0))) aNil)) (vC (.int 0))))
 (sAsg (gN 2) (v2 fAdd (vVar 2) (v2 fMul (vC (.int 1009)) (v2 fIx (v2 fIx (vVar 0) (vC (.int 0))) (vC (.int 0))))))
 sNext)
 (sRet (v2 fMod (vFrz (vCallP m_law_mixed (aCons (vFrz (vCallP m_law_mixed (aCons (vVar 2) (aCons (vVar 1) aNil)))) (aCons (vC (.int 5)) aNil)))) (vC (.int 1000000)))))))))
theorem mx_law_draw : ∃ m : FS, m = runG [true] 2 (b_law_draw) := ⟨_, rfl⟩
noncomputable def m_law_draw : FS := (mx_law_draw).choose
theorem mq_law_draw : m_law_draw = runG [true] 2 (b_law_draw) := (mx_law_draw).choose_spec
theorem l1_law_all_equal_x (rec : FS) : ∃ m : VB, m = (sTidy [2] (sIf (tvNot (xT tru (vFrz (vCallP rec (aCons (v2 fIx (vVar 0) (vVar 2)) (aCons (v2 fIx (vVar 1) (vVar 2)) aNil))))))
 (sRet (vC (.bl false)))
 sNext)) := ⟨_, rfl⟩
noncomputable def l1_law_all_equal (rec : FS) : VB := (l1_law_all_equal_x rec).choose
theorem l1_law_all_equal_q (rec : FS) : l1_law_all_equal rec = (sTidy [2] (sIf (tvNot (xT tru (vFrz (vCallP rec (aCons (v2 fIx (vVar 0) (vVar 2)) (aCons (v2 fIx (vVar 1) (vVar 2)) aNil))))))
 (sRet (vC (.bl false)))
 sNext)) := (l1_law_all_equal_x rec).choose_spec
noncomputable def b_law_all_equal (rec : FS) : VB := (sSeq (sFor (ixRng (aCons (vApp fLen (aCons (vVar 1) aNil)) aNil)) (gN 2)
 (l1_law_all_equal rec))
 (sRet (vC (.bl true))))
theorem mx_law_all_equal (rec : FS) : ∃ m : FS, m = runG (List.replicate 2 false) 1 (b_law_all_equal rec) := ⟨_, rfl⟩
noncomputable def m_law_all_equal (rec : FS) : FS := (mx_law_all_equal rec).choose
theorem mq_law_all_equal (rec : FS) : m_law_all_equal rec = runG (List.replicate 2 false) 1 (b_law_all_equal rec) := (mx_law_all_equal rec).choose_spec
noncomputable def b_law_equal (rec : FS) : VB := (sSeq (sIf (xT tru (vApp fIsi (aCons (vVar 1) (aCons (vC (.ty "list")) aNil))))
 (sSeq (sIf (tvOr (tvNot (xT tru (vApp fIsi (aCons (vVar 0) (aCons (vC (.ty "list")) aNil))))) (tvTest (v2 (fEq not) (vApp fLen (aCons (vVar 0) aNil)) (vApp fLen (aCons (vVar 1) aNil)))))
 (sRet (vC (.bl false)))
 sNext)
 (sRetF (vCallP (m_law_all_equal rec) (aCons (vVar 0) (aCons (vVar 1) aNil)))))
 sNext)
 (sSeq (sIf (xT tru (vApp fIsi (aCons (vVar 1) (aCons (vC (.ty "tuple")) aNil))))
 (sSeq (sIf (tvOr (tvNot (xT tru (vApp fIsi (aCons (vVar 0) (aCons (vC (.ty "tuple")) aNil))))) (tvTest (v2 (fEq not) (vApp fLen (aCons (vVar 0) aNil)) (vApp fLen (aCons (vVar 1) aNil)))))
 (sRet (vC (.bl false)))
 sNext)
 (sRetF (vCallP (m_law_all_equal rec) (aCons (vVar 0) (aCons (vVar 1) aNil)))))
 sNext)
 (sSeq (sIf (xT tru (vApp fIsi (aCons (vVar 1) (aCons (vC (.ty "bool")) aNil))))
 (sRet (vAnd (vApp fIsi (aCons (vVar 0) (aCons (vC (.ty "bool")) aNil))) (v2 (fEq id) (vVar 0) (vVar 1))))
 sNext)
 (sSeq (sIf (xT tru (vApp fIsi (aCons (vVar 1) (aCons (vC (.ty "int")) aNil))))
 (sRet (vAnd (vApp fIsi (aCons (vVar 0) (aCons (vC (.ty "int")) aNil))) (vAnd (v1 fNotT (vApp fIsi (aCons (vVar 0) (aCons (vC (.ty "bool")) aNil)))) (v2 (fEq id) (vVar 0) (vVar 1)))))
 sNext)
 (sSeq (sIf (xT tru (vApp fIsi (aCons (vVar 1) (aCons (vC (.ty "str")) aNil))))
 (sRet (vAnd (vApp fIsi (aCons (vVar 0) (aCons (vC (.ty "str")) aNil))) (v2 (fEq id) (vVar 0) (vVar 1))))
 sNext)
 (sRet (v2 (fIsN id) (vVar 0) (vC .non))))))))
theorem mx_law_equal_step (rec : FS) : ∃ m : FS, m = runG (List.replicate 2 false) 0 (b_law_equal rec) := ⟨_, rfl⟩
noncomputable def m_law_equal_step (rec : FS) : FS := (mx_law_equal_step rec).choose
theorem mq_law_equal_step (rec : FS) : m_law_equal_step rec = runG (List.replicate 2 false) 0 (b_law_equal rec) := (mx_law_equal_step rec).choose_spec
noncomputable def m_law_equal : Nat → FS
  | 0 => runG (List.replicate 2 false) 0 sBad
  | n + 1 => m_law_equal_step (m_law_equal n)
noncomputable def b_is_integer : VB := (sRet (vAnd (vApp fIsi (aCons (vVar 0) (aCons (vC (.ty "int")) aNil))) (v1 fNotT (vApp fIsi (aCons (vVar 0) (aCons (vC (.ty "bool")) aNil))))))
theorem mx_is_integer : ∃ m : FS, m = runG (List.replicate 1 false) 0 (b_is_integer) := ⟨_, rfl⟩
noncomputable def m_is_integer : FS := (mx_is_integer).choose
theorem mq_is_integer : m_is_integer = runG (List.replicate 1 false) 0 (b_is_integer) := (mx_is_integer).choose_spec
noncomputable def b_is_index : VB := (sRet (vAnd (vFrz (vCallP m_is_integer (aCons (vVar 0) aNil))) (vChain fLe fLt (vC (.int 0)) (vVar 0) (vVar 1))))
theorem mx_is_index : ∃ m : FS, m = runG (List.replicate 2 false) 0 (b_is_index) := ⟨_, rfl⟩
noncomputable def m_is_index : FS := (mx_is_index).choose
theorem mq_is_index : m_is_index = runG (List.replicate 2 false) 0 (b_is_index) := (mx_is_index).choose_spec
theorem l1_is_rising_x : ∃ m : VB, m = (sTidy [3] (sSeq (sIf (tvOr (tvNot (xT tru (vFrz (vCallP m_is_index (aCons (vVar 3) (aCons (vVar 1) aNil)))))) (tvTest (v2 fLe (vVar 3) (vVar 2))))
 (sRet (vC (.bl false)))
 sNext)
 (sAsg (gN 2) (vVar 3)))) := ⟨_, rfl⟩
noncomputable def l1_is_rising : VB := (l1_is_rising_x).choose
theorem l1_is_rising_q : l1_is_rising = (sTidy [3] (sSeq (sIf (tvOr (tvNot (xT tru (vFrz (vCallP m_is_index (aCons (vVar 3) (aCons (vVar 1) aNil)))))) (tvTest (v2 fLe (vVar 3) (vVar 2))))
 (sRet (vC (.bl false)))
 sNext)
 (sAsg (gN 2) (vVar 3)))) := (l1_is_rising_x).choose_spec
noncomputable def b_is_rising : VB := (sSeq (sIf (tvNot (xT tru (vApp fIsi (aCons (vVar 0) (aCons (vC (.ty "list")) aNil)))))
 (sRet (vC (.bl false)))
 sNext)
 (sSeq (sAsg (gN 2) (v1 fNeg (vC (.int 1))))
 (sSeq (sTidy [2] (sFor (ixSeq (vVar 0)) (gN 3)
 (l1_is_rising)))
 (sRet (vC (.bl true))))))
theorem mx_is_rising : ∃ m : FS, m = runG (List.replicate 2 false) 2 (b_is_rising) := ⟨_, rfl⟩
noncomputable def m_is_rising : FS := (mx_is_rising).choose
theorem mq_is_rising : m_is_rising = runG (List.replicate 2 false) 2 (b_is_rising) := (mx_is_rising).choose_spec
theorem l1_check_edges_x : ∃ m : VB, m = (sTidy [3] (sSeq (sIf (tvOr (tvNot (xT tru (vApp fIsi (aCons (vVar 3) (aCons (vC (.ty "tuple")) aNil))))) (tvTest (v2 (fEq not) (vApp fLen (aCons (vVar 3) aNil)) (vC (.int 2)))))
 (sErr "BadGraph")
 sNext)
 (sSeq (sIf (tvOr (tvNot (xT tru (vFrz (vCallP m_is_index (aCons (v2 fIx (vVar 3) (vC (.int 0))) (aCons (vVar 0) aNil)))))) (tvNot (xT tru (vFrz (vCallP m_is_index (aCons (v2 fIx (vVar 3) (vC (.int 1))) (aCons (vVar 0) aNil)))))))
 (sErr "BadGraph")
 sNext)
 (sSeq (sIf (tvOr (tvTest (v2 fGe (v2 fIx (vVar 3) (vC (.int 0))) (v2 fIx (vVar 3) (vC (.int 1))))) (tvTest (v2 fLe (vVar 3) (vVar 2))))
 (sErr "BadGraph")
 sNext)
 (sAsg (gN 2) (vVar 3)))))) := ⟨_, rfl⟩
noncomputable def l1_check_edges : VB := (l1_check_edges_x).choose
theorem l1_check_edges_q : l1_check_edges = (sTidy [3] (sSeq (sIf (tvOr (tvNot (xT tru (vApp fIsi (aCons (vVar 3) (aCons (vC (.ty "tuple")) aNil))))) (tvTest (v2 (fEq not) (vApp fLen (aCons (vVar 3) aNil)) (vC (.int 2)))))
 (sErr "BadGraph")
 sNext)
 (sSeq (sIf (tvOr (tvNot (xT tru (vFrz (vCallP m_is_index (aCons (v2 fIx (vVar 3) (vC (.int 0))) (aCons (vVar 0) aNil)))))) (tvNot (xT tru (vFrz (vCallP m_is_index (aCons (v2 fIx (vVar 3) (vC (.int 1))) (aCons (vVar 0) aNil)))))))
 (sErr "BadGraph")
 sNext)
 (sSeq (sIf (tvOr (tvTest (v2 fGe (v2 fIx (vVar 3) (vC (.int 0))) (v2 fIx (vVar 3) (vC (.int 1))))) (tvTest (v2 fLe (vVar 3) (vVar 2))))
 (sErr "BadGraph")
 sNext)
 (sAsg (gN 2) (vVar 3)))))) := (l1_check_edges_x).choose_spec
noncomputable def b_check_edges : VB := (sSeq (sIf (tvOr (tvNot (xT tru (vFrz (vCallP m_is_integer (aCons (vVar 0) aNil))))) (tvNot (tvTest (vChain fLe fLe (vC (.int 0)) (vVar 0) (vC (.int 40))))))
 (sErr "BadGraph")
 sNext)
 (sSeq (sIf (tvNot (xT tru (vApp fIsi (aCons (vVar 1) (aCons (vC (.ty "list")) aNil)))))
 (sErr "BadGraph")
 sNext)
 (sSeq (sAsg (gN 2) (vApp fTup (aCons (v1 fNeg (vC (.int 1))) (aCons (v1 fNeg (vC (.int 1))) aNil))))
 (sTidy [2] (sFor (ixSeq (vVar 1)) (gN 3)
 (l1_check_edges))))))
theorem mx_check_edges : ∃ m : FS, m = runG (List.replicate 2 false) 2 (b_check_edges) := ⟨_, rfl⟩
noncomputable def m_check_edges : FS := (mx_check_edges).choose
theorem mq_check_edges : m_check_edges = runG (List.replicate 2 false) 2 (b_check_edges) := (mx_check_edges).choose_spec
theorem x1_Graph__init_x : ∃ m : VX, m = (vApp fLstF aNil) := ⟨_, rfl⟩
noncomputable def x1_Graph__init : VX := (x1_Graph__init_x).choose
theorem x1_Graph__init_q : x1_Graph__init = (vApp fLstF aNil) := (x1_Graph__init_x).choose_spec
theorem l1_Graph__init_x : ∃ m : VB, m = (sTidy [4, 5] (sSeq (sDrop (vMt "list" (lIx (lFd "Graph" "links" (lN 0)) (vVar 4)) (aCons (vVar 5) aNil) mAppend))
 (sDrop (vMt "list" (lIx (lFd "Graph" "links" (lN 0)) (vVar 5)) (aCons (vVar 4) aNil) mAppend)))) := ⟨_, rfl⟩
noncomputable def l1_Graph__init : VB := (l1_Graph__init_x).choose
theorem l1_Graph__init_q : l1_Graph__init = (sTidy [4, 5] (sSeq (sDrop (vMt "list" (lIx (lFd "Graph" "links" (lN 0)) (vVar 4)) (aCons (vVar 5) aNil) mAppend))
 (sDrop (vMt "list" (lIx (lFd "Graph" "links" (lN 0)) (vVar 5)) (aCons (vVar 4) aNil) mAppend)))) := (l1_Graph__init_x).choose_spec
theorem x2_Graph__init_x : ∃ m : VX, m = (vFrz (vApp fSortF (aCons (vVar 6) aNil))) := ⟨_, rfl⟩
noncomputable def x2_Graph__init : VX := (x2_Graph__init_x).choose
theorem x2_Graph__init_q : x2_Graph__init = (vFrz (vApp fSortF (aCons (vVar 6) aNil))) := (x2_Graph__init_x).choose_spec
noncomputable def b_Graph__init : VB := (sSeq (sDrop (vFrz (vCallP m_check_edges (aCons (vVar 1) (aCons (vVar 2) aNil)))))
 (sSeq (sFldF "Graph" "nodes" (lN 0) (vVal (vVar 1)))
 (sSeq (sFldF "Graph" "edges" (lN 0) (vVal (vFrz (vApp fListF (aCons (vVar 2) aNil)))))
 (sSeq (sFldF "Graph" "links" (lN 0) (vLcN (ixRng (aCons (vVar 1) aNil)) [3] (gN 3) tvYes (x1_Graph__init)))
 (sSeq (sFor (ixSeq (vVar 2)) (gT [(gN 4), (gN 5)])
 (l1_Graph__init))
 (sGh (gFrP 0 [.fd "links"]) (sFldF "Graph" "links" (lN 0) (vVal (vFrz (vLcF (ixSeq (v1 (fFld "Graph" "links") (vVar 0))) [6] (gN 6) tvYes (x2_Graph__init)))))))))))
theorem mx_Graph__init : ∃ m : FS, m = runG [true, false, false] 4 (b_Graph__init) := ⟨_, rfl⟩
noncomputable def m_Graph__init : FS := (mx_Graph__init).choose
theorem mq_Graph__init : m_Graph__init = runG [true, false, false] 4 (b_Graph__init) := (mx_Graph__init).choose_spec
noncomputable def b_is_list : VB := (sRetF (vCallP m_is_rising (aCons (vVar 1) (aCons (v1 (fFld "Graph" "nodes") (vVar 0)) aNil))))
theorem mx_is_list : ∃ m : FS, m = runG (List.replicate 2 false) 0 (b_is_list) := ⟨_, rfl⟩
noncomputable def m_is_list : FS := (mx_is_list).choose
theorem mq_is_list : m_is_list = runG (List.replicate 2 false) 0 (b_is_list) := (mx_is_list).choose_spec
theorem l1_Graph_complement_x : ∃ m : VB, m = (sTidy [3] (sIf (tvTest (v2 (fIn true) (vVar 3) (v2 fIx (v1 (fFld "Graph" "links") (vVar 0)) (vVar 2))))
 (sDrop (vMtN "list" 1 (aCons (vApp fTup (aCons (vVar 2) (aCons (vVar 3) aNil))) aNil) mAppend))
 sNext)) := ⟨_, rfl⟩
noncomputable def l1_Graph_complement : VB := (l1_Graph_complement_x).choose
theorem l1_Graph_complement_q : l1_Graph_complement = (sTidy [3] (sIf (tvTest (v2 (fIn true) (vVar 3) (v2 fIx (v1 (fFld "Graph" "links") (vVar 0)) (vVar 2))))
 (sDrop (vMtN "list" 1 (aCons (vApp fTup (aCons (vVar 2) (aCons (vVar 3) aNil))) aNil) mAppend))
 sNext)) := (l1_Graph_complement_x).choose_spec
theorem l2_Graph_complement_x : ∃ m : VB, m = (sTidy [2, 3] (sFor (ixRng (aCons (v2 fAdd (vVar 2) (vC (.int 1))) (aCons (v1 (fFld "Graph" "nodes") (vVar 0)) aNil))) (gN 3)
 (l1_Graph_complement))) := ⟨_, rfl⟩
noncomputable def l2_Graph_complement : VB := (l2_Graph_complement_x).choose
theorem l2_Graph_complement_q : l2_Graph_complement = (sTidy [2, 3] (sFor (ixRng (aCons (v2 fAdd (vVar 2) (vC (.int 1))) (aCons (v1 (fFld "Graph" "nodes") (vVar 0)) aNil))) (gN 3)
 (l1_Graph_complement))) := (l2_Graph_complement_x).choose_spec
noncomputable def b_Graph_complement : VB := (sSeq (sAsgF 1 (vApp fLstF aNil))
 (sSeq (sFor (ixRng (aCons (v1 (fFld "Graph" "nodes") (vVar 0)) aNil)) (gN 2)
 (l2_Graph_complement))
 (sGh (gFr 1) (sRetF (vMake "Graph" m_Graph__init (aCons (v1 (fFld "Graph" "nodes") (vVar 0)) (aCons (vVar 1) aNil)))))))
theorem mx_Graph_complement : ∃ m : FS, m = runG (List.replicate 1 false) 3 (b_Graph_complement) := ⟨_, rfl⟩
noncomputable def m_Graph_complement : FS := (mx_Graph_complement).choose
theorem mq_Graph_complement : m_Graph_complement = runG (List.replicate 1 false) 3 (b_Graph_complement) := (mx_Graph_complement).choose_spec
end CM
set_option maxRecDepth 100000
namespace CA
open PySem L2 VL CM
theorem t1_law_some_pairs_x : ∃ m : TX, m = (tvAnd (tvTest (v2 (fEq id) (v2 fMod (v2 fAdd (vVar 5) (vVar 4)) (vC (.int 2))) (vC (.int 1)))) (tvTest (v2 (fEq id) (v2 fMod (vFrz (vCallR m_law_draw (bRef 0 bNil))) (vC (.int 2))) (vC (.int 0))))) := ⟨_, rfl⟩
noncomputable def t1_law_some_pairs : TX := (t1_law_some_pairs_x).choose
theorem t1_law_some_pairs_q : t1_law_some_pairs = (tvAnd (tvTest (v2 (fEq id) (v2 fMod (v2 fAdd (vVar 5) (vVar 4)) (vC (.int 2))) (vC (.int 1)))) (tvTest (v2 (fEq id) (v2 fMod (vFrz (vCallR m_law_draw (bRef 0 bNil))) (vC (.int 2))) (vC (.int 0))))) := (t1_law_some_pairs_x).choose_spec
theorem x1_law_some_pairs_x : ∃ m : VX, m = (vApp fTup (aCons (vVar 5) (aCons (vVar 4) aNil))) := ⟨_, rfl⟩
noncomputable def x1_law_some_pairs : VX := (x1_law_some_pairs_x).choose
theorem x1_law_some_pairs_q : x1_law_some_pairs = (vApp fTup (aCons (vVar 5) (aCons (vVar 4) aNil))) := (x1_law_some_pairs_x).choose_spec
theorem t2_law_some_pairs_x : ∃ m : TX, m = (tvTest (v2 (fEq id) (v2 fFdiv (vVar 5) (vC (.int 3))) (v2 fFdiv (vVar 4) (vC (.int 3))))) := ⟨_, rfl⟩
noncomputable def t2_law_some_pairs : TX := (t2_law_some_pairs_x).choose
theorem t2_law_some_pairs_q : t2_law_some_pairs = (tvTest (v2 (fEq id) (v2 fFdiv (vVar 5) (vC (.int 3))) (v2 fFdiv (vVar 4) (vC (.int 3))))) := (t2_law_some_pairs_x).choose_spec
theorem x2_law_some_pairs_x : ∃ m : VX, m = (vApp fTup (aCons (vVar 5) (aCons (vVar 4) aNil))) := ⟨_, rfl⟩
noncomputable def x2_law_some_pairs : VX := (x2_law_some_pairs_x).choose
theorem x2_law_some_pairs_q : x2_law_some_pairs = (vApp fTup (aCons (vVar 5) (aCons (vVar 4) aNil))) := (x2_law_some_pairs_x).choose_spec
theorem t3_law_some_pairs_x : ∃ m : TX, m = (tvTest (v2 (fEq id) (v2 fMod (vFrz (vCallR m_law_draw (bRef 0 bNil))) (vC (.int 2))) (vC (.int 0)))) := ⟨_, rfl⟩
noncomputable def t3_law_some_pairs : TX := (t3_law_some_pairs_x).choose
theorem t3_law_some_pairs_q : t3_law_some_pairs = (tvTest (v2 (fEq id) (v2 fMod (vFrz (vCallR m_law_draw (bRef 0 bNil))) (vC (.int 2))) (vC (.int 0)))) := (t3_law_some_pairs_x).choose_spec
theorem x3_law_some_pairs_x : ∃ m : VX, m = (vApp fTup (aCons (vVar 5) (aCons (vVar 4) aNil))) := ⟨_, rfl⟩
noncomputable def x3_law_some_pairs : VX := (x3_law_some_pairs_x).choose
theorem x3_law_some_pairs_q : x3_law_some_pairs = (vApp fTup (aCons (vVar 5) (aCons (vVar 4) aNil))) := (x3_law_some_pairs_x).choose_spec
theorem t4_law_some_pairs_x : ∃ m : TX, m = (tvTest (v2 fGt (v2 fMod (vFrz (vCallR m_law_draw (bRef 0 bNil))) (vC (.int 5))) (vC (.int 0)))) := ⟨_, rfl⟩
noncomputable def t4_law_some_pairs : TX := (t4_law_some_pairs_x).choose
theorem t4_law_some_pairs_q : t4_law_some_pairs = (tvTest (v2 fGt (v2 fMod (vFrz (vCallR m_law_draw (bRef 0 bNil))) (vC (.int 5))) (vC (.int 0)))) := (t4_law_some_pairs_x).choose_spec
theorem x4_law_some_pairs_x : ∃ m : VX, m = (vApp fTup (aCons (vVar 5) (aCons (vVar 4) aNil))) := ⟨_, rfl⟩
noncomputable def x4_law_some_pairs : VX := (x4_law_some_pairs_x).choose
theorem x4_law_some_pairs_q : x4_law_some_pairs = (vApp fTup (aCons (vVar 5) (aCons (vVar 4) aNil))) := (x4_law_some_pairs_x).choose_spec
theorem t5_law_some_pairs_x : ∃ m : TX, m = (tvTest (v2 fLt (v2 fMod (v2 fMul (vFrz (vCallR m_law_draw (bRef 0 bNil))) (vC (.int 3))) (v2 fMul (vC (.int 2)) (vVar 1))) (vC (.int 5)))) := ⟨_, rfl⟩
noncomputable def t5_law_some_pairs : TX := (t5_law_some_pairs_x).choose
theorem t5_law_some_pairs_q : t5_law_some_pairs = (tvTest (v2 fLt (v2 fMod (v2 fMul (vFrz (vCallR m_law_draw (bRef 0 bNil))) (vC (.int 3))) (v2 fMul (vC (.int 2)) (vVar 1))) (vC (.int 5)))) := (t5_law_some_pairs_x).choose_spec
theorem x5_law_some_pairs_x : ∃ m : VX, m = (vApp fTup (aCons (vVar 5) (aCons (vVar 4) aNil))) := ⟨_, rfl⟩
noncomputable def x5_law_some_pairs : VX := (x5_law_some_pairs_x).choose
theorem x5_law_some_pairs_q : x5_law_some_pairs = (vApp fTup (aCons (vVar 5) (aCons (vVar 4) aNil))) := (x5_law_some_pairs_x).choose_spec
theorem l1_law_some_pairs_x : ∃ m : VB, m = (sTidy [4] (sIf (tvTest (v2 (fEq id) (vVar 2) (vC (.int 0))))
 (sDrop (vMtN "list" 3 (aCons (vApp fTup (aCons (v2 fSub (vVar 4) (vC (.int 1))) (aCons (vVar 4) aNil))) aNil) mAppend))
 (sIf (tvTest (v2 (fEq id) (vVar 2) (vC (.int 1))))
 (sDrop (vMtN "list" 3 (aCons (vApp fTup (aCons (v2 fMod (vFrz (vCallR m_law_draw (bRef 0 bNil))) (vVar 4)) (aCons (vVar 4) aNil))) aNil) mAppend))
 (sIf (tvTest (v2 (fEq id) (vVar 2) (vC (.int 2))))
 (sDrop (vMtN "list" 3 (aCons (vFrz (vLcF (ixRng (aCons (vVar 4) aNil)) [5] (gN 5) (t1_law_some_pairs) (x1_law_some_pairs))) aNil) mExtend))
 (sIf (tvTest (v2 (fEq id) (vVar 2) (vC (.int 3))))
 (sDrop (vMtN "list" 3 (aCons (vFrz (vLcF (ixRng (aCons (vVar 4) aNil)) [5] (gN 5) (t2_law_some_pairs) (x2_law_some_pairs))) aNil) mExtend))
 (sIf (tvTest (v2 (fEq id) (vVar 2) (vC (.int 4))))
 (sDrop (vMtN "list" 3 (aCons (vFrz (vLcF (ixRng (aCons (vVar 4) aNil)) [5] (gN 5) (t3_law_some_pairs) (x3_law_some_pairs))) aNil) mExtend))
 (sIf (tvTest (v2 (fEq id) (vVar 2) (vC (.int 5))))
 (sDrop (vMtN "list" 3 (aCons (vFrz (vLcF (ixRng (aCons (vVar 4) aNil)) [5] (gN 5) (t4_law_some_pairs) (x4_law_some_pairs))) aNil) mExtend))
 (sIf (tvTest (v2 fLt (vVar 2) (vC (.int 8))))
 (sDrop (vMtN "list" 3 (aCons (vFrz (vLcF (ixRng (aCons (vVar 4) aNil)) [5] (gN 5) (t5_law_some_pairs) (x5_law_some_pairs))) aNil) mExtend))
 sNext)))))))) := ⟨_, rfl⟩
noncomputable def l1_law_some_pairs : VB := (l1_law_some_pairs_x).choose
theorem l1_law_some_pairs_q : l1_law_some_pairs = (sTidy [4] (sIf (tvTest (v2 (fEq id) (vVar 2) (vC (.int 0))))
 (sDrop (vMtN "list" 3 (aCons (vApp fTup (aCons (v2 fSub (vVar 4) (vC (.int 1))) (aCons (vVar 4) aNil))) aNil) mAppend))
 (sIf (tvTest (v2 (fEq id) (vVar 2) (vC (.int 1))))
 (sDrop (vMtN "list" 3 (aCons (vApp fTup (aCons (v2 fMod (vFrz (vCallR m_law_draw (bRef 0 bNil))) (vVar 4)) (aCons (vVar 4) aNil))) aNil) mAppend))
 (sIf (tvTest (v2 (fEq id) (vVar 2) (vC (.int 2))))
 (sDrop (vMtN "list" 3 (aCons (vFrz (vLcF (ixRng (aCons (vVar 4) aNil)) [5] (gN 5) (t1_law_some_pairs) (x1_law_some_pairs))) aNil) mExtend))
 (sIf (tvTest (v2 (fEq id) (vVar 2) (vC (.int 3))))
 (sDrop (vMtN "list" 3 (aCons (vFrz (vLcF (ixRng (aCons (vVar 4) aNil)) [5] (gN 5) (t2_law_some_pairs) (x2_law_some_pairs))) aNil) mExtend))
 (sIf (tvTest (v2 (fEq id) (vVar 2) (vC (.int 4))))
 (sDrop (vMtN "list" 3 (aCons (vFrz (vLcF (ixRng (aCons (vVar 4) aNil)) [5] (gN 5) (t3_law_some_pairs) (x3_law_some_pairs))) aNil) mExtend))
 (sIf (tvTest (v2 (fEq id) (vVar 2) (vC (.int 5))))
 (sDrop (vMtN "list" 3 (aCons (vFrz (vLcF (ixRng (aCons (vVar 4) aNil)) [5] (gN 5) (t4_law_some_pairs) (x4_law_some_pairs))) aNil) mExtend))
 (sIf (tvTest (v2 fLt (vVar 2) (vC (.int 8))))
 (sDrop (vMtN "list" 3 (aCons (vFrz (vLcF (ixRng (aCons (vVar 4) aNil)) [5] (gN 5) (t5_law_some_pairs) (x5_law_some_pairs))) aNil) mExtend))
 sNext)))))))) := (l1_law_some_pairs_x).choose_spec
theorem l2_law_some_pairs_x : ∃ m : VB, m = (sTidy [4, 5, 6] (sTidy [4, 5] (sIf (tvTest (v2 fGt (vVar 1) (vC (.int 1))))
 (sSeq (sAsg (gN 5) (v2 fMod (vFrz (vCallR m_law_draw (bRef 0 bNil))) (vVar 1)))
 (sSeq (sAsg (gN 4) (v2 fMod (v2 fAdd (v2 fAdd (vVar 5) (vC (.int 1))) (v2 fMod (vFrz (vCallR m_law_draw (bRef 0 bNil))) (v2 fSub (vVar 1) (vC (.int 1))))) (vVar 1)))
 (sDrop (vMtN "list" 3 (aCons (vApp fTup (aCons (vApp fMin2 (aCons (vVar 5) (aCons (vVar 4) aNil))) (aCons (vApp fMax2 (aCons (vVar 5) (aCons (vVar 4) aNil))) aNil))) aNil) mAppend))))
 sNext))) := ⟨_, rfl⟩
noncomputable def l2_law_some_pairs : VB := (l2_law_some_pairs_x).choose
theorem l2_law_some_pairs_q : l2_law_some_pairs = (sTidy [4, 5, 6] (sTidy [4, 5] (sIf (tvTest (v2 fGt (vVar 1) (vC (.int 1))))
 (sSeq (sAsg (gN 5) (v2 fMod (vFrz (vCallR m_law_draw (bRef 0 bNil))) (vVar 1)))
 (sSeq (sAsg (gN 4) (v2 fMod (v2 fAdd (v2 fAdd (vVar 5) (vC (.int 1))) (v2 fMod (vFrz (vCallR m_law_draw (bRef 0 bNil))) (v2 fSub (vVar 1) (vC (.int 1))))) (vVar 1)))
 (sDrop (vMtN "list" 3 (aCons (vApp fTup (aCons (vApp fMin2 (aCons (vVar 5) (aCons (vVar 4) aNil))) (aCons (vApp fMax2 (aCons (vVar 5) (aCons (vVar 4) aNil))) aNil))) aNil) mAppend))))
 sNext))) := (l2_law_some_pairs_x).choose_spec
noncomputable def b_law_some_pairs : VB := (sSeq (sAsg (gN 2) (v2 fMod (vFrz (vCallR m_law_draw (bRef 0 bNil))) (vC (.int 9))))
 (sSeq (sAsgF 3 (vApp fLstF aNil))
 (sSeq (sFor (ixRng (aCons (vC (.int 1)) (aCons (vVar 1) aNil))) (gN 4)
 (l1_law_some_pairs))
 (sSeq (sIf (tvAnd (tvTest (v2 (fEq id) (vVar 2) (vC (.int 0)))) (tvAnd (tvTest (v2 fGt (vVar 1) (vC (.int 2)))) (tvTest (v2 (fEq id) (v2 fMod (vFrz (vCallR m_law_draw (bRef 0 bNil))) (vC (.int 2))) (vC (.int 0))))))
 (sDrop (vMtN "list" 3 (aCons (vApp fTup (aCons (vC (.int 0)) (aCons (v2 fSub (vVar 1) (vC (.int 1))) aNil))) aNil) mAppend))
 sNext)
 (sSeq (sFor (ixRng (aCons (v2 fMod (vFrz (vCallR m_law_draw (bRef 0 bNil))) (vC (.int 4))) aNil)) (gN 6)
 (l2_law_some_pairs))
 (sRetMv 3))))))
theorem mx_law_some_pairs : ∃ m : FS, m = runG [true, false] 5 (b_law_some_pairs) := ⟨_, rfl⟩
noncomputable def m_law_some_pairs : FS := (mx_law_some_pairs).choose
theorem mq_law_some_pairs : m_law_some_pairs = runG [true, false] 5 (b_law_some_pairs) := (mx_law_some_pairs).choose_spec
theorem x1_law_turned_x : ∃ m : VX, m = (vVar 4) := ⟨_, rfl⟩
noncomputable def x1_law_turned : VX := (x1_law_turned_x).choose
theorem x1_law_turned_q : x1_law_turned = (vVar 4) := (x1_law_turned_x).choose_spec
theorem l1_law_turned_x : ∃ m : VB, m = (sTidy [4, 5, 6] (sSeq (sAsg (gN 5) (v2 fMod (vFrz (vCallR m_law_draw (bRef 0 bNil))) (vVar 1)))
 (sSeq (sAsg (gN 6) (v2 fIx (vVar 3) (vVar 4)))
 (sSeq (sSet (lN 3) (vVar 4) (v2 fIx (vVar 3) (vVar 5)) mSetL)
 (sSet (lN 3) (vVar 5) (vVar 6) mSetL))))) := ⟨_, rfl⟩
noncomputable def l1_law_turned : VB := (l1_law_turned_x).choose
theorem l1_law_turned_q : l1_law_turned = (sTidy [4, 5, 6] (sSeq (sAsg (gN 5) (v2 fMod (vFrz (vCallR m_law_draw (bRef 0 bNil))) (vVar 1)))
 (sSeq (sAsg (gN 6) (v2 fIx (vVar 3) (vVar 4)))
 (sSeq (sSet (lN 3) (vVar 4) (v2 fIx (vVar 3) (vVar 5)) mSetL)
 (sSet (lN 3) (vVar 5) (vVar 6) mSetL))))) := (l1_law_turned_x).choose_spec
theorem x2_law_turned_x : ∃ m : VX, m = (vApp fTup (aCons (vApp fMin2 (aCons (v2 fIx (vVar 3) (vVar 8)) (aCons (v2 fIx (vVar 3) (vVar 4)) aNil))) (aCons (vApp fMax2 (aCons (v2 fIx (vVar 3) (vVar 8)) (aCons (v2 fIx (vVar 3) (vVar 4)) aNil))) aNil))) := ⟨_, rfl⟩
noncomputable def x2_law_turned : VX := (x2_law_turned_x).choose
theorem x2_law_turned_q : x2_law_turned = (vApp fTup (aCons (vApp fMin2 (aCons (v2 fIx (vVar 3) (vVar 8)) (aCons (v2 fIx (vVar 3) (vVar 4)) aNil))) (aCons (vApp fMax2 (aCons (v2 fIx (vVar 3) (vVar 8)) (aCons (v2 fIx (vVar 3) (vVar 4)) aNil))) aNil))) := (x2_law_turned_x).choose_spec
theorem t1_law_turned_x : ∃ m : TX, m = (tvOr (tvTest (v2 (fEq id) (vVar 9) (vC (.int 0)))) (tvTest (v2 (fEq not) (v2 fIx (vVar 7) (vVar 9)) (v2 fIx (vVar 7) (v2 fSub (vVar 9) (vC (.int 1))))))) := ⟨_, rfl⟩
noncomputable def t1_law_turned : TX := (t1_law_turned_x).choose
theorem t1_law_turned_q : t1_law_turned = (tvOr (tvTest (v2 (fEq id) (vVar 9) (vC (.int 0)))) (tvTest (v2 (fEq not) (v2 fIx (vVar 7) (vVar 9)) (v2 fIx (vVar 7) (v2 fSub (vVar 9) (vC (.int 1))))))) := (t1_law_turned_x).choose_spec
theorem x3_law_turned_x : ∃ m : VX, m = (v2 fIx (vVar 7) (vVar 9)) := ⟨_, rfl⟩
noncomputable def x3_law_turned : VX := (x3_law_turned_x).choose
theorem x3_law_turned_q : x3_law_turned = (v2 fIx (vVar 7) (vVar 9)) := (x3_law_turned_x).choose_spec
noncomputable def b_law_turned : VB := (sSeq (sAsgF 3 (vLcF (ixRng (aCons (vVar 1) aNil)) [4] (gN 4) tvYes (x1_law_turned)))
 (sSeq (sTidy [4, 5, 6] (sIf (tvTest (v2 (fEq id) (v2 fMod (vFrz (vCallR m_law_draw (bRef 0 bNil))) (vC (.int 2))) (vC (.int 0))))
 (sFor (ixRng (aCons (vVar 1) aNil)) (gN 4)
 (l1_law_turned))
 sNext))
 (sSeq (sAsg (gN 7) (vFrz (vLcF (ixSeq (vVar 2)) [8, 4] (gT [(gN 8), (gN 4)]) tvYes (x2_law_turned))))
 (sSeq (sAsg (gN 7) (vFrz (vApp fSortF (aCons (vVar 7) aNil))))
 (sRetF (vLcF (ixRng (aCons (vApp fLen (aCons (vVar 7) aNil)) aNil)) [9] (gN 9) (t1_law_turned) (x3_law_turned)))))))
theorem mx_law_turned : ∃ m : FS, m = runG [true, false, false] 7 (b_law_turned) := ⟨_, rfl⟩
noncomputable def m_law_turned : FS := (mx_law_turned).choose
theorem mq_law_turned : m_law_turned = runG [true, false, false] 7 (b_law_turned) := (mx_law_turned).choose_spec
noncomputable def b_law_edges : VB := (sRetF (vCallR m_law_turned (bRef 0 (bCons (vVar 1) (bCons (vFrz (vCallR m_law_some_pairs (bRef 0 (bCons (vVar 1) bNil)))) bNil)))))
theorem mx_law_edges : ∃ m : FS, m = runG [true, false] 0 (b_law_edges) := ⟨_, rfl⟩
noncomputable def m_law_edges : FS := (mx_law_edges).choose
theorem mq_law_edges : m_law_edges = runG [true, false] 0 (b_law_edges) := (mx_law_edges).choose_spec
theorem x1_law_around_x : ∃ m : VX, m = (vApp fLstF aNil) := ⟨_, rfl⟩
noncomputable def x1_law_around : VX := (x1_law_around_x).choose
theorem x1_law_around_q : x1_law_around = (vApp fLstF aNil) := (x1_law_around_x).choose_spec
theorem l1_law_around_x : ∃ m : VB, m = (sTidy [3, 4] (sSeq (sDrop (vMt "list" (lIx (lN 2) (vVar 4)) (aCons (vVar 3) aNil) mAppend))
 (sDrop (vMt "list" (lIx (lN 2) (vVar 3)) (aCons (vVar 4) aNil) mAppend)))) := ⟨_, rfl⟩
noncomputable def l1_law_around : VB := (l1_law_around_x).choose
theorem l1_law_around_q : l1_law_around = (sTidy [3, 4] (sSeq (sDrop (vMt "list" (lIx (lN 2) (vVar 4)) (aCons (vVar 3) aNil) mAppend))
 (sDrop (vMt "list" (lIx (lN 2) (vVar 3)) (aCons (vVar 4) aNil) mAppend)))) := (l1_law_around_x).choose_spec
theorem x2_law_around_x : ∃ m : VX, m = (vFrz (vApp fSortF (aCons (vVar 5) aNil))) := ⟨_, rfl⟩
noncomputable def x2_law_around : VX := (x2_law_around_x).choose
theorem x2_law_around_q : x2_law_around = (vFrz (vApp fSortF (aCons (vVar 5) aNil))) := (x2_law_around_x).choose_spec
noncomputable def b_law_around : VB := (sSeq (sAsgF 2 (vLcN (ixRng (aCons (vVar 0) aNil)) [3] (gN 3) tvYes (x1_law_around)))
 (sSeq (sFor (ixSeq (vVar 1)) (gT [(gN 4), (gN 3)])
 (l1_law_around))
 (sGh (gFr 2) (sRetF (vLcF (ixSeq (vVar 2)) [5] (gN 5) tvYes (x2_law_around))))))
theorem mx_law_around : ∃ m : FS, m = runG (List.replicate 2 false) 4 (b_law_around) := ⟨_, rfl⟩
noncomputable def m_law_around : FS := (mx_law_around).choose
theorem mq_law_around : m_law_around = runG (List.replicate 2 false) 4 (b_law_around) := (mx_law_around).choose_spec
end CA
set_option maxRecDepth 100000
set_option maxHeartbeats 4000000
/-! EV: the meanings worked out, rule by rule -/
namespace VL
open PySem L2
section
variable {σ : VS} {x y z : VX} {a : AX} {b c : VB} {f f' : List O → QR O} {t u : TX} {i : Nat} {o : O} {d : D}
@[simp] theorem ev_get_va : (SV.va o).get = some o := (rfl)
@[simp] theorem ev_get_rf : (SV.rf o).get = some o := (rfl)
@[simp] theorem ev_get_un : SV.un.get = none := (rfl)
@[simp] theorem ev_isRf_va : (SV.va o).isRf = false := (rfl)
@[simp] theorem ev_isRf_rf : (SV.rf o).isRf = true := (rfl)
@[simp] theorem ev_isRf_un : SV.un.isRf = false := (rfl)
@[simp] theorem ev_isVal : (O.val d).isVal = true := (rfl)
@[simp] theorem ev_isValo {ds : List D} : (O.ol ds).isVal = false := (rfl)
@[simp] theorem ev_isValn {os : List O} : (O.nl os).isVal = false := (rfl)
@[simp] theorem ev_var : (vVar i).f σ = match σ[i]?.bind SV.get with
  | some o => .ok o σ
  | none => .bad := (rfl)
@[simp] theorem ev_varq : (vVar i).q = true := (rfl)
@[simp] theorem ev_c : (vC d).f σ = .ok (.val d) σ := (rfl)
@[simp] theorem ev_cq : (vC d).q = true := (rfl)
@[simp] theorem ev_anil : aNil.f σ = .ok [] σ := (rfl)
@[simp] theorem ev_anilq : aNil.q = true := (rfl)
@[simp] theorem ev_aconsq : (aCons x a).q = (x.q && a.q) := (rfl)
@[simp] theorem ev_acons : (aCons x a).f σ = match x.f σ with
  | .ok o σ1 => (match a.f σ1 with
    | .ok os σ2 => if (o.isVal || a.q) = true then .ok (o :: os) σ2 else .bad
    | .err c σ2 => .err c σ2
    | .bad => .bad)
  | .err c σ1 => .err c σ1
  | .bad => .bad := (rfl)
@[simp] theorem ev_appq : (vApp f a).q = a.q := (rfl)
@[simp] theorem ev_app : (vApp f a).f σ = match a.f σ with
  | .ok os σ1 => (match f os with
    | .ok o => .ok o σ1
    | .bad => .bad)
  | .err c σ1 => .err c σ1
  | .bad => .bad := (rfl)
@[simp] theorem ev_v2 : v2 f x y = vApp f (aCons x (aCons y aNil)) := (rfl)
@[simp] theorem ev_v1 : v1 f x = vApp f (aCons x aNil) := (rfl)
@[simp] theorem ev_frz_ol {ds : List D} : frz (.ol ds) = .lst ds := by unfold frz; rfl
@[simp] theorem ev_frz_val : frz (.val d) = d := by unfold frz; rfl
@[simp] theorem ev_vfrzq : (vFrz x).q = x.q := (rfl)
@[simp] theorem ev_vfrz : (vFrz x).f σ = match x.f σ with
  | .ok o σ1 => .ok (.val (frz o)) σ1
  | .err c σ1 => .err c σ1
  | .bad => .bad := (rfl)
@[simp] theorem ev_vvalq : (vVal x).q = x.q := (rfl)
@[simp] theorem ev_vval : (vVal x).f σ = match x.f σ with
  | .ok (.val d) σ1 => .ok (.val d) σ1
  | .ok _ _ => .bad
  | .err c σ1 => .err c σ1
  | .bad => .bad := (rfl)
@[simp] theorem ev_isBl {b : Bool} : isBl (.val (.bl b)) = .ok b := (rfl)
@[simp] theorem ev_tvTestq : (tvTest x).q = x.q := (rfl)
@[simp] theorem ev_tvTest : (tvTest x).f σ = match x.f σ with
  | .ok o σ1 => (match isBl o with
    | .ok b => .ok b σ1
    | .bad => .bad)
  | .err c σ1 => .err c σ1
  | .bad => .bad := (rfl)
@[simp] theorem ev_xTq {g : O → QR Bool} : (xT g x).q = x.q := (rfl)
@[simp] theorem ev_xT {g : O → QR Bool} : (xT g x).f σ = match x.f σ with
  | .ok o σ1 => (match g o with
    | .ok b => .ok b σ1
    | .bad => .bad)
  | .err c σ1 => .err c σ1
  | .bad => .bad := (rfl)
@[simp] theorem ev_tru_bl {b : Bool} : tru (.val (.bl b)) = .ok b := (rfl)
@[simp] theorem ev_tru_non : tru (.val .non) = .ok false := (rfl)
@[simp] theorem ev_tru_int {i : Int} : tru (.val (.int i)) = .ok (i != 0) := (rfl)
@[simp] theorem ev_tru_lst {ds : List D} : tru (.val (.lst ds)) = .ok (!ds.isEmpty) := (rfl)
@[simp] theorem ev_tru_tup {ds : List D} : tru (.val (.tup ds)) = .ok (!ds.isEmpty) := (rfl)
@[simp] theorem ev_tru_ol {ds : List D} : tru (.ol ds) = .ok (!ds.isEmpty) := (rfl)
@[simp] theorem ev_tru_nl {ds : List O} : tru (.nl ds) = .ok (!ds.isEmpty) := (rfl)
@[simp] theorem ev_tand : (tvAnd t u).f σ = match t.f σ with
  | .ok c σ1 => if c = true then u.f σ1 else .ok false σ1
  | .err c σ1 => .err c σ1
  | .bad => .bad := (rfl)
@[simp] theorem ev_tor : (tvOr t u).f σ = match t.f σ with
  | .ok c σ1 => if c = true then .ok true σ1 else u.f σ1
  | .err c σ1 => .err c σ1
  | .bad => .bad := (rfl)
@[simp] theorem ev_tnot : (tvNot t).f σ = match t.f σ with
  | .ok c σ1 => .ok (!c) σ1
  | .err c σ1 => .err c σ1
  | .bad => .bad := (rfl)
@[simp] theorem ev_tyes : tvYes.f σ = .ok true σ := (rfl)
@[simp] theorem ev_andq : (vAnd x y).q = (x.q && y.q) := (rfl)
@[simp] theorem ev_and : (vAnd x y).f σ = match x.f σ with
  | .ok o σ1 => (match isBl o with
    | .ok c => if c = true then y.f σ1 else .ok (.val (.bl false)) σ1
    | .bad => .bad)
  | .err c σ1 => .err c σ1
  | .bad => .bad := (rfl)
@[simp] theorem ev_orq : (vOr x y).q = (x.q && y.q) := (rfl)
@[simp] theorem ev_or : (vOr x y).f σ = match x.f σ with
  | .ok o σ1 => (match isBl o with
    | .ok c => if c = true then .ok (.val (.bl true)) σ1 else y.f σ1
    | .bad => .bad)
  | .err c σ1 => .err c σ1
  | .bad => .bad := (rfl)
@[simp] theorem ev_if : (vIf t x y).f σ = match t.f σ with
  | .ok b σ1 => if b = true then x.f σ1 else y.f σ1
  | .err c σ1 => .err c σ1
  | .bad => .bad := (rfl)
@[simp] theorem ev_chainq : (vChain f f' x y z).q = (x.q && (y.q && z.q)) := (rfl)
@[simp] theorem ev_chain : (vChain f f' x y z).f σ = match x.f σ with
  | .ok a σ1 => (match y.f σ1 with
    | .ok b σ2 => chn f f' z a b σ2
    | .err e σ2 => .err e σ2
    | .bad => .bad)
  | .err e σ1 => .err e σ1
  | .bad => .bad := (rfl)
@[simp] theorem ev_chn {o o2 : O} : chn f f' z o o2 σ = if (o.isVal && o2.isVal) = true then (match f [o, o2] with
      | .ok (.val (.bl k)) => if k = true then (match z.f σ with
          | .ok c σ3 => (match f' [o2, c] with
            | .ok o => .ok o σ3
            | .bad => .bad)
          | .err e σ3 => .err e σ3
          | .bad => .bad) else .ok (.val (.bl false)) σ
      | _ => .bad) else .bad := (rfl)
/-! statements -/
@[simp] theorem ev_seq : sSeq b c σ = match b σ with
  | .nx σ1 => c σ1
  | r => r := (rfl)
@[simp] theorem ev_next : sNext σ = .nx σ := (rfl)
@[simp] theorem ev_break : sBreak σ = .bk σ := (rfl)
@[simp] theorem ev_cont : sCont σ = .ct σ := (rfl)
@[simp] theorem ev_sbad : sBad σ = .bad := (rfl)
@[simp] theorem ev_sif : sIf t b c σ = match t.f σ with
  | .ok k σ1 => if k = true then b σ1 else c σ1
  | .err c σ1 => .err c σ1
  | .bad => .bad := (rfl)
@[simp] theorem ev_drop : sDrop x σ = match x.f σ with
  | .ok _ σ1 => .nx σ1
  | .err c σ1 => .err c σ1
  | .bad => .bad := (rfl)
@[simp] theorem ev_ret : sRet x σ = match x.f σ with
  | .ok o σ1 => (match o with
    | .val d => .rt (.val d) σ1
    | _ => .bad)
  | .err c σ1 => .err c σ1
  | .bad => .bad := (rfl)
@[simp] theorem ev_retN : sRetN σ = .rt (.val .non) σ := (rfl)
@[simp] theorem ev_retF : sRetF x σ = match x.f σ with
  | .ok o σ1 => .rt o σ1
  | .err c σ1 => .err c σ1
  | .bad => .bad := (rfl)
@[simp] theorem ev_retMv : sRetMv i σ = match σ[i]? with
  | some (.va o) => .rt o (σ.set i .un)
  | _ => .bad := (rfl)
@[simp] theorem ev_setv : setv i o σ = match σ[i]? with
  | some sv => if sv.isRf = true then .bad else .ok (σ.set i (.va o))
  | none => .bad := (rfl)
@[simp] theorem ev_asg {g : D → VS → QR VS} : sAsg g x σ = match x.f σ with
  | .ok o σ1 => (match o with
    | .val d => nxQ (g d σ1)
    | _ => .bad)
  | .err c σ1 => .err c σ1
  | .bad => .bad := (rfl)
@[simp] theorem ev_nxQ : nxQ (.ok σ) = .nx σ := (rfl)
@[simp] theorem ev_nxQb : nxQ .bad = .bad := (rfl)
@[simp] theorem ev_gN : gN i d σ = setv i (.val d) σ := (rfl)
@[simp] theorem ev_gT {gs : List (D → VS → QR VS)} {ds : List D} : gT gs (.tup ds) σ = gAll gs ds σ := (rfl)
@[simp] theorem ev_gAll0 : gAll [] [] σ = .ok σ := (rfl)
@[simp] theorem ev_gAll {g : D → VS → QR VS} {gs : List (D → VS → QR VS)} {ds : List D} : gAll (g :: gs) (d :: ds) σ = match g d σ with
    | .ok σ1 => gAll gs ds σ1
    | .bad => .bad := (rfl)
@[simp] theorem ev_asgF : sAsgF i x σ = match x.f σ with
  | .ok o σ1 => nxQ (setv i o σ1)
  | .err c σ1 => .err c σ1
  | .bad => .bad := (rfl)
@[simp] theorem ev_gh {g : VS → QR VS} : sGh g b σ = match g σ with
  | .ok σ1 => b σ1
  | .bad => .bad := (rfl)
@[simp] theorem ev_gFg0 : gFg [] σ = .ok σ := (rfl)
@[simp] theorem ev_gFg {is : List Nat} : gFg (i :: is) σ = match σ[i]? with
    | some (.rf _) => .bad
    | _ => gFg is (σ.set i .un) := (rfl)
@[simp] theorem ev_gFr : gFr i σ = match σ[i]? with
  | some (.va o) => .ok (σ.set i (.va (.val (frz o))))
  | some (.rf o) => .ok (σ.set i (.rf (.val (frz o))))
  | _ => .bad := (rfl)
@[simp] theorem ev_tidy {is : List Nat} : sTidy is b σ = match b σ with
  | .nx σ1 => (match gFg is σ1 with
    | .ok σ2 => .nx σ2
    | .bad => .bad)
  | .ct σ1 => (match gFg is σ1 with
    | .ok σ2 => .ct σ2
    | .bad => .bad)
  | .bk σ1 => (match gFg is σ1 with
    | .ok σ2 => .bk σ2
    | .bad => .bad)
  | r => r := (rfl)
@[simp] theorem ev_for {ix : IX} {g : D → VS → QR VS} : sFor ix g b σ = match ix σ with
  | .ok ds σ1 => forL g b ds σ1
  | .err c σ1 => .err c σ1
  | .bad => .bad := (rfl)
@[simp] theorem ev_ixSeq : ixSeq x σ = match x.f σ with
  | .ok (.val (.lst ds)) σ1 => .ok ds σ1
  | .ok (.val (.rd ds)) σ1 => .ok ds σ1
  | .ok (.val (.tup ds)) σ1 => .ok ds σ1
  | .ok _ _ => .bad
  | .err c σ1 => .err c σ1
  | .bad => .bad := (rfl)
@[simp] theorem ev_ixRng : ixRng a σ = match a.f σ with
  | .ok [.val (.int j)] σ1 => if sm62 j = true then .ok (rngD 0 j.toNat) σ1 else .bad
  | .ok [.val (.int i), .val (.int j)] σ1 => if sm62 i = true ∧ sm62 j = true then .ok (rngD i (j - i).toNat) σ1 else .bad
  | .ok _ _ => .bad
  | .err c σ1 => .err c σ1
  | .bad => .bad := (rfl)
/-! calls -/
@[simp] theorem ev_valsO0 : fTup.valsO [] = some [] := (rfl)
@[simp] theorem ev_valsO {os : List O} : fTup.valsO (.val d :: os) = (fTup.valsO os).map (d :: ·) := (rfl)
@[simp] theorem ev_callPq {m : FS} : (vCallP m a).q = a.q := (rfl)
@[simp] theorem ev_callR {m : FS} {bx : BX} : (vCallR m bx).f σ = match bx.f σ with
  | .ok ds σ1 => (match fillR bx.rs ds σ1 with
    | some os => (match m os with
      | .ok o outs => .ok o (putR bx.rs outs σ1)
      | .err c outs => .err c (putR bx.rs outs σ1)
      | .bad => .bad)
    | none => .bad)
  | .err c σ1 => .err c σ1
  | .bad => .bad := (rfl)
@[simp] theorem ev_callRq {m : FS} {bx : BX} : (vCallR m bx).q = false := (rfl)
@[simp] theorem ev_bNil : bNil.f σ = .ok [] σ := (rfl)
@[simp] theorem ev_bNils : bNil.rs = [] := (rfl)
@[simp] theorem ev_bRefs {bx : BX} : (bRef i bx).rs = some i :: bx.rs := (rfl)
@[simp] theorem ev_bRef {bx : BX} : (bRef i bx).f σ = match σ[i]?.bind SV.get with
  | some _ => (match bx.f σ with
    | .ok ds σ1 => .ok (none :: ds) σ1
    | .err c σ1 => .err c σ1
    | .bad => .bad)
  | none => .bad := (rfl)
@[simp] theorem ev_bConss {bx : BX} : (bCons x bx).rs = none :: bx.rs := (rfl)
@[simp] theorem ev_bCons {bx : BX} : (bCons x bx).f σ = match x.f σ with
  | .ok (.val d) σ1 => (match bx.f σ1 with
    | .ok ds σ2 => .ok (some d :: ds) σ2
    | .err c σ2 => .err c σ2
    | .bad => .bad)
  | .ok _ _ => .bad
  | .err c σ1 => .err c σ1
  | .bad => .bad := (rfl)
@[simp] theorem ev_fill0 : fillR [] [] σ = some [] := (rfl)
@[simp] theorem ev_fillR {j : Nat} {rs : List (Option Nat)} {ds : List (Option D)} : fillR (some j :: rs) (none :: ds) σ = (σ[j]?.bind SV.get).bind fun o => (fillR rs ds σ).map (o :: ·) := (rfl)
@[simp] theorem ev_fillV {rs : List (Option Nat)} {ds : List (Option D)} : fillR (none :: rs) (some d :: ds) σ = (fillR rs ds σ).map (.val d :: ·) := (rfl)
@[simp] theorem ev_put0 {os : List O} : putR [] os σ = σ := by unfold putR; rfl
@[simp] theorem ev_put0' {rs : List (Option Nat)} : putR rs [] σ = σ := by cases rs with
  | nil => rfl
  | cons r rs => cases r <;> rfl
@[simp] theorem ev_putR {j : Nat} {rs : List (Option Nat)} {os : List O} : putR (some j :: rs) (o :: os) σ = putR rs os (σ.modify j (putO o)) := (rfl)
@[simp] theorem ev_putV {rs : List (Option Nat)} {os : List O} : putR (none :: rs) (o :: os) σ = putR rs os σ := (rfl)
@[simp] theorem ev_putOv {o2 : O} : putO o (.va o2) = .va o := (rfl)
@[simp] theorem ev_putOr {o2 : O} : putO o (.rf o2) = .rf o := (rfl)
@[simp] theorem ev_lN : lN i σ = match σ[i]? with
  | some (.va o) => .ok ⟨o, fun z => σ.set i (.va z)⟩
  | some (.rf o) => .ok ⟨o, fun z => σ.set i (.rf z)⟩
  | _ => .bad := (rfl)
@[simp] theorem ev_tyCo {T : String} {ds : List D} : tyC T (.ol ds) = (T == "list") := (rfl)
@[simp] theorem ev_tyCn {T : String} {ds : List O} : tyC T (.nl ds) = (T == "list") := (rfl)
@[simp] theorem ev_mtN {T : String} {μ : O → List O → QR (O × O)} : (vMtN T i a μ).f σ = match lN i σ with
  | .ok lv0 => if tyC T lv0.o = true then (match a.f σ with
    | .ok os σ1 => (match lN i σ1 with
      | .ok lv => (match μ lv.o os with
        | .ok (z, r) => .ok r (lv.put z)
        | .bad => .bad)
      | .bad => .bad)
    | .err c σ1 => .err c σ1
    | .bad => .bad) else .bad
  | .bad => .bad := (rfl)
@[simp] theorem ev_mt {T : String} {l : LX} {μ : O → List O → QR (O × O)} : (vMt T l a μ).f σ = match l σ with
  | .ok lv => if (tyC T lv.o && a.q) = true then (match a.f σ with
    | .ok os _ => (match μ lv.o os with
      | .ok (z, r) => .ok r (lv.put z)
      | .bad => .bad)
    | _ => .bad) else .bad
  | .bad => .bad := (rfl)
@[simp] theorem ev_append {ds : List D} : mAppend (.ol ds) [.val d] = if ds.length < sizeLine then .ok (.ol (ds ++ [d]), .val .non) else .bad := (rfl)
@[simp] theorem ev_sset {l : LX} {μ : O → D → D → QR O} : sSet l y x μ σ = match x.f σ with
  | .ok (.val d) σ1 => (match l σ1 with
    | .ok lv => if y.q = true then (match y.f σ1 with
      | .ok (.val di) _ => (match μ lv.o di d with
        | .ok z => .nx (lv.put z)
        | .bad => .bad)
      | _ => .bad) else .bad
    | .bad => .bad)
  | .ok _ _ => .bad
  | .err c σ1 => .err c σ1
  | .bad => .bad := (rfl)
@[simp] theorem ev_lFd {C f : Str} {l : LX} : lFd C f l σ = match l σ with
  | .ok lv => (match lv.o with
    | .ob C' ns os => if C' = C then (match namAt ns f with
      | some n => (match os[n]? with
        | some o => .ok ⟨o, fun z => lv.put (.ob C' ns (os.set n z))⟩
        | none => .bad)
      | none => .bad) else .bad
    | _ => .bad)
  | .bad => .bad := (rfl)
@[simp] theorem ev_lIx {l : LX} : lIx l y σ = match l σ with
  | .ok lv => if y.q = true then (match y.f σ with
    | .ok (.val (.int i)) _ => (match lv.o with
      | .nl os => (match L2.ixN os.length i with
        | some j => (match os[j]? with
          | some o => .ok ⟨o, fun z => lv.put (.nl (os.set j z))⟩
          | none => .bad)
        | none => .bad)
      | _ => .bad)
    | _ => .bad) else .bad
  | .bad => .bad := (rfl)
theorem ixN_nat {n m : Nat} (h : n < m) : L2.ixN m (n : Int) = some n := by
  unfold L2.ixN
  rw [if_pos (by omega), if_pos (by omega)]; rfl
@[simp] theorem ev_fldF {C f : Str} {l : LX} : sFldF C f l x σ = match x.f σ with
  | .ok z σ1 => (match l σ1 with
    | .ok lv => (match lv.o with
      | .ob C' ns os => if C' = C ∧ ns.length < 1000 then .nx (lv.put (.ob C' (putN f z ns os).1 (putN f z ns os).2)) else .bad
      | _ => .bad)
    | .bad => .bad)
  | .err c σ1 => .err c σ1
  | .bad => .bad := (rfl)
@[simp] theorem ev_frP {q : List PK} : gFrP i q σ = match σ[i]? with
  | some (.va o) => (match getP q o with
    | some o1 => .ok (σ.set i (.va (setP q o (.val (frz o1)))))
    | none => .bad)
  | some (.rf o) => (match getP q o with
    | some o1 => .ok (σ.set i (.rf (setP q o (.val (frz o1)))))
    | none => .bad)
  | _ => .bad := (rfl)
@[simp] theorem ev_listF {ds : List D} : fListF [.val (.lst ds)] = .ok (.ol ds) := (rfl)
@[simp] theorem ev_tupleL {ds : List D} : fTuple [.val (.lst ds)] = .ok (.val (.tup ds)) := (rfl)
theorem ev_sortI {ns : List Int} : fSortF [.val (.lst (ns.map D.int))] = .ok (.ol ((srtI ns).map D.int)) := by
  have h : intsD (ns.map D.int) = some ns := by
    induction ns with
    | nil => rfl
    | cons n ns ih => show (intsD (ns.map D.int)).map (n :: ·) = _; rw [ih]; rfl
  show (match intsD (ns.map D.int) with
    | some ns => QR.ok (O.ol ((srtI ns).map D.int))
    | none => _) = _
  rw [h]
/-! step by step -/
theorem seq_nx {σ1 : VS} {r : BR} (h : b σ = .nx σ1) (h2 : c σ1 = r) : sSeq b c σ = r := by rw [ev_seq, h]; exact h2
theorem seq_rt {σ1 : VS} {o : O} (h : b σ = .rt o σ1) : sSeq b c σ = .rt o σ1 := by rw [ev_seq, h]
theorem if_t {σ1 : VS} {r : BR} (h : t.f σ = .ok true σ1) (h2 : b σ1 = r) : sIf t b c σ = r := by rw [ev_sif, h]; exact h2
theorem if_f {σ1 : VS} {r : BR} (h : t.f σ = .ok false σ1) (h2 : c σ1 = r) : sIf t b c σ = r := by rw [ev_sif, h]; exact h2
/-! comprehensions -/
@[simp] theorem ev_lcFq {ix : IX} {vs : List Nat} {g : D → VS → QR VS} : (vLcF ix vs g t x).q = false := (rfl)
@[simp] theorem ev_lcF {ix : IX} {vs : List Nat} {g : D → VS → QR VS} : (vLcF ix vs g t x).f σ = match ix σ with
  | .ok ds σ1 => (match lcL vs g t x ds σ1 [] with
    | .ok acc σ2 => .ok (.ol acc) σ2
    | .err c σ2 => .err c σ2
    | .bad => .bad)
  | .err c σ1 => .err c σ1
  | .bad => .bad := (rfl)
@[simp] theorem ev_lcN {ix : IX} {vs : List Nat} {g : D → VS → QR VS} : (vLcN ix vs g t x).f σ = match ix σ with
  | .ok ds σ1 => (match lcN vs g t x ds σ1 [] with
    | .ok acc σ2 => .ok (.nl acc) σ2
    | .err c σ2 => .err c σ2
    | .bad => .bad)
  | .err c σ1 => .err c σ1
  | .bad => .bad := (rfl)
/-! defs -/
theorem ev_run {md : List Bool} {k : Nat} {os : List O} : runG md k b os = match b (startV md os k) with
  | .nx σ => if rfOk md σ = true then .ok (.val .non) (outsV md.length σ) else .bad
  | .rt o σ => if rfOk md σ = true then .ok o (outsV md.length σ) else .bad
  | .err c σ => if rfOk md σ = true then .err c (outsV md.length σ) else .bad
  | _ => .bad := (rfl)
@[simp] theorem ev_rf0 : rfOk [] σ = true := (rfl)
theorem ev_rfS {m : Bool} {md : List Bool} {sv : SV} : rfOk (m :: md) (sv :: σ) = ((match m, sv with
  | true, .rf _ => true
  | true, _ => false
  | _, _ => true) && rfOk md σ) := by
  unfold rfOk
  rw [List.length_cons, List.range_succ_eq_map, List.all_cons, List.all_map]
  congr 1
  cases m <;> cases sv <;> rfl
@[simp] theorem ev_rfF {md : List Bool} {sv : SV} : rfOk (false :: md) (sv :: σ) = rfOk md σ := by rw [ev_rfS]; cases sv <;> rfl
@[simp] theorem ev_rfT {md : List Bool} : rfOk (true :: md) (.rf o :: σ) = rfOk md σ := by rw [ev_rfS]; rfl
@[simp] theorem ev_out0 : outsV 0 σ = [] := by unfold outsV; simp
@[simp] theorem ev_outR {n : Nat} : outsV (n + 1) (.rf o :: σ) = o :: outsV n σ := by unfold outsV; simp
@[simp] theorem ev_outV {n : Nat} : outsV (n + 1) (.va o :: σ) = o :: outsV n σ := by unfold outsV; simp
@[simp] theorem ev_outU {n : Nat} : outsV (n + 1) (.un :: σ) = .val .non :: outsV n σ := by unfold outsV; simp
@[simp] theorem ev_start {md : List Bool} {os : List O} {k : Nat} : startV md os k = List.zipWith (fun b o => if b = true then SV.rf o else SV.va o) md os ++ List.replicate k SV.un := (rfl)
theorem run_rt {md : List Bool} {k : Nat} {os outs : List O} {σ1 : VS} (h : b (startV md os k) = .rt o σ1) (hr : rfOk md σ1 = true) (ho : outsV md.length σ1 = outs) : runG md k b os = .ok o outs := by rw [ev_run, h]; simp only [hr, if_true, ho]
theorem run_nx {md : List Bool} {k : Nat} {os outs : List O} {σ1 : VS} (h : b (startV md os k) = .nx σ1) (hr : rfOk md σ1 = true) (ho : outsV md.length σ1 = outs) : runG md k b os = .ok (.val .non) outs := by rw [ev_run, h]; simp only [hr, if_true, ho]
/-! operations -/
@[simp] theorem ev_fI0 {g : Int → Int → D} {i j : Int} : fI0 g [.val (.int i), .val (.int j)] = .ok (.val (g i j)) := (rfl)
@[simp] theorem ev_sub {i j : Int} : fSub [.val (.int i), .val (.int j)] = .ok (.val (.int (i - j))) := (rfl)
theorem ev_mul {i j : Int} (h : CMul i j) : fMul [.val (.int i), .val (.int j)] = .ok (.val (.int (i * j))) := by show (if CMul i j then _ else _) = _; rw [if_pos h]
@[simp] theorem ev_fdiv {i j : Int} (h : 0 < j ∧ j < 1073741824) : fFdiv [.val (.int i), .val (.int j)] = .ok (.val (.int (i / j))) := by show (if CDiv i j then _ else _) = _; rw [if_pos (show CDiv i j from h)]
@[simp] theorem ev_mod {i j : Int} (h : 0 < j) : fMod [.val (.int i), .val (.int j)] = .ok (.val (.int (i % j))) := by show (if 0 < j then _ else _) = _; rw [if_pos h]
@[simp] theorem ev_add {i j : Int} : fAdd [.val (.int i), .val (.int j)] = .ok (.val (.int (i + j))) := (rfl)
@[simp] theorem ev_addL {ds es : List D} (h : ds.length + es.length ≤ sizeLine) : fAdd [.val (.lst ds), .val (.lst es)] = .ok (.val (.lst (ds ++ es))) := by
  show frzR (if ds.length + es.length ≤ sizeLine then _ else _) = _
  rw [if_pos h]; simp [frzR]
@[simp] theorem ev_neg {i : Int} : fNeg [.val (.int i)] = .ok (.val (.int (-i))) := (rfl)
@[simp] theorem ev_lt {i j : Int} : fLt [.val (.int i), .val (.int j)] = .ok (.val (.bl (decide (i < j)))) := (rfl)
@[simp] theorem ev_le {i j : Int} : fLe [.val (.int i), .val (.int j)] = .ok (.val (.bl (decide (i ≤ j)))) := (rfl)
@[simp] theorem ev_gt {i j : Int} : fGt [.val (.int i), .val (.int j)] = .ok (.val (.bl (decide (j < i)))) := (rfl)
@[simp] theorem ev_ge {i j : Int} : fGe [.val (.int i), .val (.int j)] = .ok (.val (.bl (decide (j ≤ i)))) := (rfl)
end
/-! ### data that is compared by its value -/
class En (α : Type) [DecidableEq α] where
  enc : α → D
  py : α → PyData
  k : Nat
  py_ok : ∀ a, pyD (enc a) = some (py a)
  lay : ∀ a, (py a).canLay0 = true
  dep : ∀ a, (py a).depth ≤ k
  eqv : ∀ a b, PyData.eqv (py a) (py b) = decide (a = b)
open En
instance : En Int := ⟨D.int, PyData.int, 1, fun a => by unfold pyD; rfl, fun a => by unfold PyData.canLay0; rfl, fun a => by unfold PyData.depth; omega, fun a b => by unfold PyData.eqv; rw [Bool.beq_eq_decide_eq]⟩
instance : En Bool := ⟨D.bl, PyData.bool, 1, fun a => by unfold pyD; rfl, fun a => by unfold PyData.canLay0; rfl, fun a => by unfold PyData.depth; omega, fun a b => by unfold PyData.eqv; cases a <;> cases b <;> rfl⟩
section
variable {α β : Type} [DecidableEq α] [DecidableEq β] [En α] [En β]
theorem pyL_enc : ∀ as : List α, pyL (as.map enc) = some (as.map py)
  | [] => by unfold pyL; rfl
  | a :: as => by
    rw [List.map_cons]
    unfold pyL
    rw [py_ok, pyL_enc as]; rfl
theorem layAll_enc : ∀ as : List α, PyData.canLayAll0 (as.map py) = true
  | [] => by unfold PyData.canLayAll0; rfl
  | a :: as => by
    rw [List.map_cons]
    unfold PyData.canLayAll0
    rw [lay, layAll_enc as]; rfl
theorem depAll_enc : ∀ as : List α, PyData.depthAll (as.map py) ≤ k α
  | [] => by rw [List.map_nil]; simp [PyData.depthAll]
  | a :: as => by
    rw [List.map_cons]
    unfold PyData.depthAll
    have := dep a
    have := depAll_enc as
    omega
theorem eqvAll_enc : ∀ as bs : List α, PyData.eqvAll (as.map py) (bs.map py) = decide (as = bs)
  | [], [] => by unfold PyData.eqvAll; rfl
  | [], _ :: _ => by rw [List.map_nil, List.map_cons]; unfold PyData.eqvAll; simp
  | _ :: _, [] => by rw [List.map_nil, List.map_cons]; unfold PyData.eqvAll; simp
  | a :: as, b :: bs => by
    rw [List.map_cons, List.map_cons]
    unfold PyData.eqvAll
    rw [eqv, eqvAll_enc as bs]
    by_cases h : a = b <;> simp [h]
instance : En (List α) := ⟨fun as => .lst (as.map enc), fun as => .list (as.map py), k α + 1, fun as => by unfold pyD; rw [pyL_enc]; rfl, fun as => by unfold PyData.canLay0; exact layAll_enc as,
  fun as => by unfold PyData.depth; have := depAll_enc as; omega, fun as bs => by unfold PyData.eqv; exact eqvAll_enc as bs⟩
instance : En (α × β) := ⟨fun p => .tup [enc p.1, enc p.2], fun p => .tuple [py p.1, py p.2], max (k α) (k β) + 1, fun p => by unfold pyD pyL pyL pyL; rw [py_ok, py_ok]; rfl,
  fun p => by unfold PyData.canLay0 PyData.canLayAll0 PyData.canLayAll0 PyData.canLayAll0; rw [lay, lay]; rfl,
  fun p => by unfold PyData.depth PyData.depthAll PyData.depthAll PyData.depthAll; have := dep p.1; have := dep p.2; omega,
  fun p q => by
    unfold PyData.eqv PyData.eqvAll PyData.eqvAll PyData.eqvAll
    rw [eqv, eqv]
    obtain ⟨a, b⟩ := p
    obtain ⟨c, d⟩ := q
    by_cases h : a = c <;> by_cases h2 : b = d <;> simp [h, h2]⟩
/-- a tuple of any length -/
structure Tp (α : Type) where
  l : List α
  deriving DecidableEq
instance : En (Tp α) := ⟨fun as => .tup (as.l.map enc), fun as => .tuple (as.l.map py), k α + 1, fun as => by unfold pyD; rw [pyL_enc]; rfl, fun as => by unfold PyData.canLay0; exact layAll_enc as.l,
  fun as => by unfold PyData.depth; have := depAll_enc as.l; omega, fun as bs => by
    unfold PyData.eqv
    rw [eqvAll_enc]
    obtain ⟨a⟩ := as
    obtain ⟨b⟩ := bs
    simp⟩
theorem shp_enc (hk : k α ≤ 64) (a : α) : shp (.val (enc a)) = some (py a) := by
  have e : pyO (.val (enc a)) = some (py a) := py_ok a
  unfold shp
  rw [e]
  show (if SeqAt.shaped (py a) = true then some (py a) else none) = _
  rw [if_pos]
  show ((py a).canLay0 && decide ((py a).depth ≤ 64)) = true
  rw [lay, decide_eq_true (Nat.le_trans (dep a) hk)]; rfl
theorem ev_eq (hk : k α ≤ 64) {g : Bool → Bool} (a b : α) : fEq g [.val (enc a), .val (enc b)] = .ok (.val (.bl (g (decide (a = b))))) := by
  show (match shp (.val (enc a)), shp (.val (enc b)) with
    | some x, some y => QR.ok (O.val (.bl (g (PyData.eqv x y))))
    | _, _ => .bad) = _
  rw [shp_enc hk, shp_enc hk]
  show QR.ok (O.val (.bl (g (PyData.eqv (py a) (py b))))) = _
  rw [eqv]
theorem any_enc (a : α) : ∀ as : List α, ((as.map py).any fun z => PyData.eqv z (py a)) = decide (a ∈ as)
  | [] => by simp
  | b :: as => by
    rw [List.map_cons, List.any_cons, any_enc a as, eqv]
    by_cases h : b = a
    · subst h; simp
    · have : a ≠ b := fun e => h e.symm
      simp [h, this]
theorem ev_inE (hk : k α + 1 ≤ 64) {neg : Bool} (a : α) (as : List α) (hs : ∀ (a : α) s, enc a ≠ D.str s) : fIn neg [.val (enc a), .val (.lst (as.map enc))] = .ok (.val (.bl (ngB neg (decide (a ∈ as))))) := by
  have h1 := shp_enc (by omega) a
  have h2 : shp (.val (.lst (as.map enc))) = some (.list (as.map py)) := shp_enc (α := List α) hk as
  have h3 : fIn neg [.val (enc a), .val (.lst (as.map enc))] = (match shp (.val (enc a)), shp (.val (.lst (as.map enc))) with
    | some x, some (.list ys) => .ok (.val (.bl (ngB neg (ys.any fun z => PyData.eqv z x))))
    | _, _ => .bad) := by
    cases hc : enc a with
    | str s => exact (hs a s hc).elim
    | _ => rfl
  rw [h3, h1, h2]
  show QR.ok (O.val (.bl (ngB neg ((as.map py).any fun z => PyData.eqv z (py a))))) = _
  rw [any_enc]
end
section
variable {g : Bool → Bool} {i j : Int} {ns ms : List Int} {neg : Bool}
@[simp] theorem ev_eqI : fEq g [.val (.int i), .val (.int j)] = .ok (.val (.bl (g (decide (i = j))))) := ev_eq (α := Int) (by decide) i j
@[simp] theorem ev_inI : fIn neg [.val (.int i), .val (.lst (ns.map D.int))] = .ok (.val (.bl (ngB neg (decide (i ∈ ns))))) := ev_inE (α := Int) (by decide) i ns (fun a s h => by cases h)
@[simp] theorem ev_eqB {a b : Bool} : fEq g [.val (.bl a), .val (.bl b)] = .ok (.val (.bl (g (decide (a = b))))) := ev_eq (α := Bool) (by decide) a b
@[simp] theorem ev_ngT {b : Bool} : ngB true b = !b := (rfl)
@[simp] theorem ev_ngF {b : Bool} : ngB false b = b := (rfl)
end
@[simp] theorem ev_lst {os : List O} : fLstF os = match fTup.valsO os with
  | some ds => if ds.length ≤ sizeLine then .ok (.ol ds) else .bad
  | none => .bad := (rfl)
@[simp] theorem ev_tup {os : List O} : fTup os = match fTup.valsO os with
  | some ds => if ds.length ≤ sizeLine then .ok (.val (.tup ds)) else .bad
  | none => .bad := (rfl)
@[simp] theorem sz_0 : 0 ≤ sizeLine := Nat.zero_le _
@[simp] theorem sz_1 : 1 ≤ sizeLine := by decide
@[simp] theorem sz_2 : 2 ≤ sizeLine := by decide
@[simp] theorem sz_3 : 3 ≤ sizeLine := by decide
@[simp] theorem sz_4 : 4 ≤ sizeLine := by decide
@[simp] theorem sz_5 : 5 ≤ sizeLine := by decide
theorem sz_of {n : Nat} (h : n ≤ 1000000) : n ≤ sizeLine := Nat.le_trans h (by decide)
theorem sz_lt {n : Nat} (h : n < 1000000) : n < sizeLine := Nat.lt_of_lt_of_le h (by decide)
theorem rngD_eq {lo : Int} {n : Nat} : rngD lo n = (List.range n).map fun i => D.int (lo + (i : Nat)) := (rfl)
theorem ev_leT {a b c d : Int} : fLe [.val (.tup [.int a, .int b]), .val (.tup [.int c, .int d])] = .ok (.val (.bl (decide (a < c ∨ (a = c ∧ b ≤ d))))) := by
  have h1 : fLe [.val (.tup [.int a, .int b]), .val (.tup [.int c, .int d])] = .ok (.val (.bl (leL [a, b] [c, d]))) := (rfl)
  rw [h1]
  unfold leL
  rw [HT.lexLt_cons, HT.lexLt_cons]
  by_cases h : c = a
  · subst h
    by_cases h2 : d = b
    · subst h2
      simp [HT.lexLt]
    · rw [if_pos rfl, if_neg h2]
      by_cases h3 : b ≤ d
      · simp [h3] <;> omega
      · simp [h3] <;> omega
  · rw [if_neg h]
    by_cases h3 : a < c
    · simp [h3] <;> omega
    · have : ¬ a = c := fun e => h e.symm
      simp [h3, this] <;> omega
/-! ### reading -/
theorem at_nat {α : Type} {l : List α} {n : Nat} : L2.atI l (n : Int) = l[n]? := by
  unfold L2.atI L2.ixN
  rw [if_pos (by omega)]
  by_cases h : (n : Int) < (l.length : Int)
  · rw [if_pos h]; simp
  · rw [if_neg h]
    rw [List.getElem?_eq_none (by omega)]; rfl
@[simp] theorem ev_ixL {ds : List D} {i : Int} : fIx [.val (.lst ds), .val (.int i)] = match L2.atI ds i with
  | some d => .ok (.val d)
  | none => .bad := (rfl)
@[simp] theorem ev_ixR {ds : List D} {i : Int} : fIx [.val (.rd ds), .val (.int i)] = match L2.atI ds i with
  | some d => .ok (.val d)
  | none => .bad := (rfl)
@[simp] theorem ev_ixO {ds : List D} {i : Int} : fIx [.ol ds, .val (.int i)] = match L2.atI ds i with
  | some d => .ok (.val d)
  | none => .bad := (rfl)
@[simp] theorem ev_ixT {ds : List D} {i : Int} : fIx [.val (.tup ds), .val (.int i)] = match L2.atI ds i with
  | some d => .ok (.val d)
  | none => .bad := (rfl)
@[simp] theorem ev_ixN {os : List O} {i : Int} : fIx [.nl os, .val (.int i)] = match L2.atI os i with
  | some o => .ok o
  | none => .bad := (rfl)
@[simp] theorem ev_at0 {α : Type} {a : α} {l : List α} : L2.atI (a :: l) 0 = some a := at_nat (n := 0)
@[simp] theorem ev_at1 {α : Type} {a b : α} {l : List α} : L2.atI (a :: b :: l) 1 = some b := at_nat (n := 1)
@[simp] theorem ev_lenL {ds : List D} : fLen [.val (.lst ds)] = .ok (.val (.int ds.length)) := (rfl)
@[simp] theorem ev_lenR {ds : List D} : fLen [.val (.rd ds)] = .ok (.val (.int ds.length)) := (rfl)
@[simp] theorem ev_lenT {ds : List D} : fLen [.val (.tup ds)] = .ok (.val (.int ds.length)) := (rfl)
@[simp] theorem ev_lenO {ds : List D} : fLen [.ol ds] = .ok (.val (.int ds.length)) := (rfl)
@[simp] theorem ev_lenN {ds : List O} : fLen [.nl ds] = .ok (.val (.int ds.length)) := (rfl)
@[simp] theorem ev_set0 {a d : D} {l : List D} : mSetL (.ol (a :: l)) (.int 0) d = .ok (.ol (d :: l)) := by
  simp [mSetL, L2.ixN]
@[simp] theorem ev_set1 {a b d : D} {l : List D} : mSetL (.ol (a :: b :: l)) (.int 1) d = .ok (.ol (a :: d :: l)) := by
  have : L2.ixN (a :: b :: l).length 1 = some 1 := by
    unfold L2.ixN
    rw [if_pos (by omega), if_pos (by simp only [List.length_cons]; omega)]; rfl
  simp only [mSetL, this]
  rfl
theorem ev_setN {ds : List D} {n : Nat} {d : D} (h : n < ds.length) : mSetL (.ol ds) (.int n) d = .ok (.ol (ds.set n d)) := by
  have : L2.ixN ds.length n = some n := by
    unfold L2.ixN
    rw [if_pos (by omega), if_pos (by omega)]; rfl
  simp only [mSetL, this]
@[simp] theorem ev_isN {d : D} {g : Bool → Bool} : fIsN g [.val d, .val .non] = .ok (.val (.bl (g (match d with | .non => true | _ => false)))) := (rfl)
/-! ### isinstance -/
@[simp] theorem kit_NoneType_int : kitB "NoneType" "int" = some false := by rfl
@[simp] theorem kit_NoneType_bool : kitB "NoneType" "bool" = some false := by rfl
@[simp] theorem kit_NoneType_list : kitB "NoneType" "list" = some false := by rfl
@[simp] theorem kit_NoneType_tuple : kitB "NoneType" "tuple" = some false := by rfl
@[simp] theorem kit_NoneType_str : kitB "NoneType" "str" = some false := by rfl
@[simp] theorem kit_NoneType_dict : kitB "NoneType" "dict" = some false := by rfl
@[simp] theorem kit_bool_int : kitB "bool" "int" = some true := by rfl
@[simp] theorem kit_bool_bool : kitB "bool" "bool" = some true := by rfl
@[simp] theorem kit_bool_list : kitB "bool" "list" = some false := by rfl
@[simp] theorem kit_bool_tuple : kitB "bool" "tuple" = some false := by rfl
@[simp] theorem kit_bool_str : kitB "bool" "str" = some false := by rfl
@[simp] theorem kit_bool_dict : kitB "bool" "dict" = some false := by rfl
@[simp] theorem kit_int_int : kitB "int" "int" = some true := by rfl
@[simp] theorem kit_int_bool : kitB "int" "bool" = some false := by rfl
@[simp] theorem kit_int_list : kitB "int" "list" = some false := by rfl
@[simp] theorem kit_int_tuple : kitB "int" "tuple" = some false := by rfl
@[simp] theorem kit_int_str : kitB "int" "str" = some false := by rfl
@[simp] theorem kit_int_dict : kitB "int" "dict" = some false := by rfl
@[simp] theorem kit_str_int : kitB "str" "int" = some false := by rfl
@[simp] theorem kit_str_bool : kitB "str" "bool" = some false := by rfl
@[simp] theorem kit_str_list : kitB "str" "list" = some false := by rfl
@[simp] theorem kit_str_tuple : kitB "str" "tuple" = some false := by rfl
@[simp] theorem kit_str_str : kitB "str" "str" = some true := by rfl
@[simp] theorem kit_str_dict : kitB "str" "dict" = some false := by rfl
@[simp] theorem kit_tuple_int : kitB "tuple" "int" = some false := by rfl
@[simp] theorem kit_tuple_bool : kitB "tuple" "bool" = some false := by rfl
@[simp] theorem kit_tuple_list : kitB "tuple" "list" = some false := by rfl
@[simp] theorem kit_tuple_tuple : kitB "tuple" "tuple" = some true := by rfl
@[simp] theorem kit_tuple_str : kitB "tuple" "str" = some false := by rfl
@[simp] theorem kit_tuple_dict : kitB "tuple" "dict" = some false := by rfl
@[simp] theorem kit_list_int : kitB "list" "int" = some false := by rfl
@[simp] theorem kit_list_bool : kitB "list" "bool" = some false := by rfl
@[simp] theorem kit_list_list : kitB "list" "list" = some true := by rfl
@[simp] theorem kit_list_tuple : kitB "list" "tuple" = some false := by rfl
@[simp] theorem kit_list_str : kitB "list" "str" = some false := by rfl
@[simp] theorem kit_list_dict : kitB "list" "dict" = some false := by rfl
@[simp] theorem kit_dict_int : kitB "dict" "int" = some false := by rfl
@[simp] theorem kit_dict_bool : kitB "dict" "bool" = some false := by rfl
@[simp] theorem kit_dict_list : kitB "dict" "list" = some false := by rfl
@[simp] theorem kit_dict_tuple : kitB "dict" "tuple" = some false := by rfl
@[simp] theorem kit_dict_str : kitB "dict" "str" = some false := by rfl
@[simp] theorem kit_dict_dict : kitB "dict" "dict" = some true := by rfl
@[simp] theorem ev_isi {o : O} {n : String} : fIsi [o, .val (.ty n)] = match (tyO o).bind fun t => kitB t n with
    | some b => .ok (.val (.bl b))
    | none => .bad := (rfl)
@[simp] theorem ty_non : tyO (.val .non) = some "NoneType" := (rfl)
@[simp] theorem ty_bl {b : Bool} : tyO (.val (.bl b)) = some "bool" := (rfl)
@[simp] theorem ty_int {i : Int} : tyO (.val (.int i)) = some "int" := (rfl)
@[simp] theorem ty_str {i : Str} : tyO (.val (.str i)) = some "str" := (rfl)
@[simp] theorem ty_tup {ds : List D} : tyO (.val (.tup ds)) = some "tuple" := (rfl)
@[simp] theorem ty_lst {ds : List D} : tyO (.val (.lst ds)) = some "list" := (rfl)
@[simp] theorem ty_dic {ks : DKs} {ds : List D} : tyO (.val (.dic ks ds)) = some "dict" := (rfl)
@[simp] theorem ty_ol {ds : List D} : tyO (.ol ds) = some "list" := (rfl)
@[simp] theorem ty_nl {ds : List O} : tyO (.nl ds) = some "list" := (rfl)
@[simp] theorem ev_notT {o : O} : fNotT [o] = match tru o with
    | .ok b => .ok (.val (.bl (!b)))
    | .bad => .bad := (rfl)
/-! ### loops -/
theorem forL_gen {g : D → VS → QR VS} {b : VB} (P : List D → VS → Prop) (R : BR → Prop)
    (step : ∀ d ds σ, P (d :: ds) σ → ∃ σ1, g d σ = .ok σ1 ∧ (match b σ1 with
      | .nx σ2 => P ds σ2
      | .ct σ2 => P ds σ2
      | .bk σ2 => R (.nx σ2)
      | r => R r)) (hd : ∀ σ, P [] σ → R (.nx σ)) : ∀ {ds : List D} {σ : VS}, P ds σ → R (forL g b ds σ)
  | [], σ, h => hd σ h
  | d :: ds, σ, h => by
    obtain ⟨σ1, e, q⟩ := step d ds σ h
    unfold forL
    rw [e]; dsimp only
    cases e2 : b σ1 with
    | nx σ2 => rw [e2] at q; exact forL_gen P R step hd q
    | ct σ2 => rw [e2] at q; exact forL_gen P R step hd q
    | bk σ2 => rw [e2] at q; exact q
    | rt o σ2 => rw [e2] at q; exact q
    | err c σ2 => rw [e2] at q; exact q
    | bad => rw [e2] at q; exact q
/-- a loop that runs to its end -/
def NxOk (P : VS → Prop) : BR → Prop
  | .nx σ => P σ
  | .ct σ => P σ
  | _ => False
@[simp] theorem nxOk_nx {P : VS → Prop} {σ : VS} : NxOk P (.nx σ) = P σ := (rfl)
@[simp] theorem nxOk_ct {P : VS → Prop} {σ : VS} : NxOk P (.ct σ) = P σ := (rfl)
def gb (g : D → VS → QR VS) (b : VB) (d : D) (σ : VS) : BR := match g d σ with
  | .ok σ1 => b σ1
  | .bad => .bad
theorem forL_nx {g : D → VS → QR VS} {b : VB} (P : List D → VS → Prop)
    (step : ∀ d ds σ, P (d :: ds) σ → NxOk (P ds) (gb g b d σ)) {ds : List D} {σ : VS} (h : P ds σ) : ∃ σ', forL g b ds σ = .nx σ' ∧ P [] σ' := by
  refine forL_gen (g := g) (b := b) P (fun r => ∃ σ', r = .nx σ' ∧ P [] σ') (fun d ds σ h => ?_) (fun σ h => ⟨σ, rfl, h⟩) h
  have q := step d ds σ h
  unfold gb at q
  cases e : g d σ with
  | bad => rw [e] at q; exact q.elim
  | ok σ1 =>
    rw [e] at q; dsimp only at q
    refine ⟨σ1, rfl, ?_⟩
    cases e2 : b σ1 with
    | nx σ2 => rw [e2] at q; exact q
    | ct σ2 => rw [e2] at q; exact q
    | bk σ2 => rw [e2] at q; exact q.elim
    | rt o σ2 => rw [e2] at q; exact q.elim
    | err c σ2 => rw [e2] at q; exact q.elim
    | bad => rw [e2] at q; exact q.elim
/-- a loop that may end early: R of what ends it -/
def EndOk (P : VS → Prop) (R : BR → Prop) : BR → Prop
  | .nx σ => P σ
  | .ct σ => P σ
  | .bk σ => R (.nx σ)
  | r => R r
@[simp] theorem endOk_nx {P : VS → Prop} {R : BR → Prop} {σ : VS} : EndOk P R (.nx σ) = P σ := (rfl)
@[simp] theorem endOk_ct {P : VS → Prop} {R : BR → Prop} {σ : VS} : EndOk P R (.ct σ) = P σ := (rfl)
@[simp] theorem endOk_bk {P : VS → Prop} {R : BR → Prop} {σ : VS} : EndOk P R (.bk σ) = R (.nx σ) := (rfl)
@[simp] theorem endOk_rt {P : VS → Prop} {R : BR → Prop} {o : O} {σ : VS} : EndOk P R (.rt o σ) = R (.rt o σ) := (rfl)
theorem forL_end {g : D → VS → QR VS} {b : VB} (P : List D → VS → Prop) (R : BR → Prop) (hR : ¬ R .bad)
    (step : ∀ d ds σ, P (d :: ds) σ → EndOk (P ds) R (gb g b d σ)) (hd : ∀ σ, P [] σ → R (.nx σ)) {ds : List D} {σ : VS} (h : P ds σ) : R (forL g b ds σ) := by
  refine forL_gen (g := g) (b := b) P R (fun d ds σ h => ?_) hd h
  have q := step d ds σ h
  unfold gb at q
  cases e : g d σ with
  | bad => rw [e] at q; exact (hR q).elim
  | ok σ1 =>
    rw [e] at q; dsimp only at q
    refine ⟨σ1, rfl, ?_⟩
    cases e2 : b σ1 with
    | nx σ2 => rw [e2] at q; exact q
    | ct σ2 => rw [e2] at q; exact q
    | bk σ2 => rw [e2] at q; exact q
    | rt o σ2 => rw [e2] at q; exact q
    | err c σ2 => rw [e2] at q; exact q
    | bad => rw [e2] at q; exact q
/-- one turn of a comprehension -/
def lc1 (vs : List Nat) (g : D → VS → QR VS) (tt : TX) (x : VX) (d : D) (σ : VS) (acc : List D) : XR (List D) := match putAway vs σ with
    | .bad => .bad
    | .ok σ1 => (match g d σ1 with
      | .bad => .bad
      | .ok σ2 => (match tt.f σ2 with
        | .bad => .bad
        | .err _ _ => .bad
        | .ok k σ3 => if k = true then (match x.f σ3 with
            | .bad => .bad
            | .err _ _ => .bad
            | .ok (.val e) σ4 => if acc.length < sizeLine then .ok (acc ++ [e]) (putBack vs σ σ4) else .bad
            | .ok _ _ => .bad) else .ok acc (putBack vs σ σ3)))
def LcOk {α : Type} (P : VS → α → Prop) : XR α → Prop
  | .ok acc σ => P σ acc
  | _ => False
@[simp] theorem lcOk_ok {α : Type} {P : VS → α → Prop} {acc : α} {σ : VS} : LcOk P (.ok acc σ) = P σ acc := (rfl)
@[simp] theorem ev_put_nil {σ : VS} : putAway [] σ = .ok σ := (rfl)
@[simp] theorem ev_put_cons {i : Nat} {is : List Nat} {σ : VS} : putAway (i :: is) σ = match σ[i]? with
    | some .un => putAway is σ
    | some (.va (.val _)) => putAway is (σ.set i .un)
    | _ => .bad := (rfl)
@[simp] theorem ev_back_nil {σ σ0 : VS} : putBack [] σ0 σ = σ := (rfl)
@[simp] theorem ev_back_cons {i : Nat} {is : List Nat} {σ σ0 : VS} : putBack (i :: is) σ0 σ = putBack is σ0 (match σ0[i]? with
    | some sv => σ.set i sv
    | none => σ) := (rfl)
theorem lcL_nx {vs : List Nat} {g : D → VS → QR VS} {t : TX} {x : VX} (P : List D → VS → List D → Prop)
    (step : ∀ d ds σ acc, P (d :: ds) σ acc → LcOk (P ds) (lc1 vs g t x d σ acc)) : ∀ {ds : List D} {σ : VS} {acc : List D}, P ds σ acc → ∃ acc' σ', lcL vs g t x ds σ acc = .ok acc' σ' ∧ P [] σ' acc'
  | [], σ, acc, h => ⟨acc, σ, rfl, h⟩
  | d :: ds, σ, acc, h => by
    have q := step d ds σ acc h
    unfold lc1 at q
    unfold lcL
    cases e1 : putAway vs σ with
    | bad => rw [e1] at q; exact q.elim
    | ok σ1 =>
      rw [e1] at q; dsimp only at q ⊢
      cases e2 : g d σ1 with
      | bad => rw [e2] at q; exact q.elim
      | ok σ2 =>
        rw [e2] at q; dsimp only at q ⊢
        cases e3 : t.f σ2 with
        | bad => rw [e3] at q; exact q.elim
        | err _ _ => rw [e3] at q; exact q.elim
        | ok k σ3 =>
          rw [e3] at q; dsimp only at q ⊢
          cases k with
          | false =>
            simp only [Bool.false_eq_true, if_false] at q ⊢
            exact lcL_nx P step q
          | true =>
            simp only [if_true] at q ⊢
            cases e4 : x.f σ3 with
            | bad => rw [e4] at q; exact q.elim
            | err _ _ => rw [e4] at q; exact q.elim
            | ok o σ4 =>
              rw [e4] at q
              cases o with
              | val e =>
                dsimp only at q ⊢
                by_cases hc : acc.length < sizeLine
                · rw [if_pos hc] at q ⊢
                  exact lcL_nx P step q
                · rw [if_neg hc] at q; exact q.elim
              | _ => exact q.elim
/-- .. of new things -/
def lc1N (vs : List Nat) (g : D → VS → QR VS) (tt : TX) (x : VX) (d : D) (σ : VS) (acc : List O) : XR (List O) := match putAway vs σ with
    | .bad => .bad
    | .ok σ1 => (match g d σ1 with
      | .bad => .bad
      | .ok σ2 => (match tt.f σ2 with
        | .bad => .bad
        | .err _ _ => .bad
        | .ok k σ3 => if k = true then (match x.f σ3 with
            | .bad => .bad
            | .err _ _ => .bad
            | .ok e σ4 => if acc.length < sizeLine then .ok (acc ++ [e]) (putBack vs σ σ4) else .bad) else .ok acc (putBack vs σ σ3)))
theorem lcN_nx {vs : List Nat} {g : D → VS → QR VS} {t : TX} {x : VX} (P : List D → VS → List O → Prop)
    (step : ∀ d ds σ acc, P (d :: ds) σ acc → LcOk (P ds) (lc1N vs g t x d σ acc)) : ∀ {ds : List D} {σ : VS} {acc : List O}, P ds σ acc → ∃ acc' σ', lcN vs g t x ds σ acc = .ok acc' σ' ∧ P [] σ' acc'
  | [], σ, acc, h => ⟨acc, σ, rfl, h⟩
  | d :: ds, σ, acc, h => by
    have q := step d ds σ acc h
    unfold lc1N at q
    unfold lcN
    cases e1 : putAway vs σ with
    | bad => rw [e1] at q; exact q.elim
    | ok σ1 =>
      rw [e1] at q; dsimp only at q ⊢
      cases e2 : g d σ1 with
      | bad => rw [e2] at q; exact q.elim
      | ok σ2 =>
        rw [e2] at q; dsimp only at q ⊢
        cases e3 : t.f σ2 with
        | bad => rw [e3] at q; exact q.elim
        | err _ _ => rw [e3] at q; exact q.elim
        | ok k σ3 =>
          rw [e3] at q; dsimp only at q ⊢
          cases k with
          | false =>
            simp only [Bool.false_eq_true, if_false] at q ⊢
            exact lcN_nx P step q
          | true =>
            simp only [if_true] at q ⊢
            cases e4 : x.f σ3 with
            | bad => rw [e4] at q; exact q.elim
            | err _ _ => rw [e4] at q; exact q.elim
            | ok o σ4 =>
              rw [e4] at q
              dsimp only at q ⊢
              by_cases hc : acc.length < sizeLine
              · rw [if_pos hc] at q ⊢
                exact lcN_nx P step q
              · rw [if_neg hc] at q; exact q.elim
end VL
set_option maxRecDepth 100000
set_option maxHeartbeats 4000000
/-! EV2: what a def gives, loops as folds -/
namespace VL
open PySem L2
/-- what a call gives, the outs left aside -/
inductive QE where
  | ok (o : O) | err (c : Str) | bad
def hd : FR → QE
  | .ok o _ => .ok o
  | .err c _ => .err c
  | .bad => .bad
def brO : BR → QE
  | .nx _ => .ok (.val .non)
  | .rt o _ => .ok o
  | .err c _ => .err c
  | _ => .bad
def mk1 : FR → QE
  | .ok (.val .non) (o :: _) => .ok o
  | .ok _ _ => .bad
  | .err c _ => .err c
  | .bad => .bad
section
variable {σ : VS} {x y z : VX} {a : AX} {b c : VB} {t u : TX} {m : FS} {o : O} {os : List O} {k n : Nat} {e : Str}
@[simp] theorem hd_ok : hd (.ok o os) = .ok o := (rfl)
@[simp] theorem hd_err : hd (.err e os) = .err e := (rfl)
@[simp] theorem hd_bad : hd .bad = .bad := (rfl)
@[simp] theorem brO_nx : brO (.nx σ) = .ok (.val .non) := (rfl)
@[simp] theorem brO_rt : brO (.rt o σ) = .ok o := (rfl)
@[simp] theorem brO_err : brO (.err e σ) = .err e := (rfl)
@[simp] theorem brO_bad : brO .bad = .bad := (rfl)
@[simp] theorem brO_bk : brO (.bk σ) = .bad := (rfl)
@[simp] theorem brO_ct : brO (.ct σ) = .bad := (rfl)
theorem hd_of {r : FR} {o : O} (h : hd r = .ok o) : ∃ outs, r = .ok o outs := by
  cases r with
  | ok o1 outs => cases h; exact ⟨outs, rfl⟩
  | err _ _ => cases h
  | bad => cases h
@[simp] theorem ev_callP : (vCallP m a).f σ = match a.f σ with
  | .ok os σ1 => (match fTup.valsO os with
    | some ds => (match hd (m (ds.map O.val)) with
      | .ok o => .ok o σ1
      | .err c => .err c σ1
      | .bad => .bad)
    | none => .bad)
  | .err c σ1 => .err c σ1
  | .bad => .bad := by
  unfold vCallP
  dsimp only
  cases a.f σ with
  | ok os σ1 =>
    dsimp only
    cases fTup.valsO os with
    | some ds => dsimp only; cases m (ds.map O.val) <;> rfl
    | none => rfl
  | err c σ1 => rfl
  | bad => rfl
@[simp] theorem ev_makeq {C : Str} : (vMake C m a).q = a.q := (rfl)
@[simp] theorem ev_make {C : Str} : (vMake C m a).f σ = match a.f σ with
  | .ok os σ1 => (match fTup.valsO os with
    | some ds => (match mk1 (m (.ob C [] [] :: ds.map O.val)) with
      | .ok o => .ok o σ1
      | .err c => .err c σ1
      | .bad => .bad)
    | none => .bad)
  | .err c σ1 => .err c σ1
  | .bad => .bad := by
  unfold vMake
  dsimp only
  cases a.f σ with
  | ok os σ1 =>
    dsimp only
    cases fTup.valsO os with
    | some ds =>
      dsimp only
      cases m (.ob C [] [] :: ds.map O.val) with
      | ok o os => cases o with
        | val d => cases d <;> cases os <;> rfl
        | _ => rfl
      | _ => rfl
    | none => rfl
  | err c σ1 => rfl
  | bad => rfl
@[simp] theorem ev_recvq {C f : Str} : (aRecv C f x a).q = (x.q && a.q) := (rfl)
def rcvOk (C f : Str) : O → Bool
  | .val (.obj C' ns _) => decide (C' = C) && (namAt ns f).isNone
  | _ => false
@[simp] theorem ev_recv {C f : Str} : (aRecv C f x a).f σ = match x.f σ with
  | .ok o σ1 => if rcvOk C f o = true then (match a.f σ1 with
    | .ok os σ2 => .ok (o :: os) σ2
    | .err c σ2 => .err c σ2
    | .bad => .bad) else .bad
  | .err c σ1 => .err c σ1
  | .bad => .bad := by
  unfold aRecv
  dsimp only
  cases x.f σ with
  | ok o σ1 =>
    cases o with
    | val d =>
      cases d with
      | obj C' ns ds =>
        dsimp only
        by_cases h1 : C' = C
        · cases h2 : namAt ns f <;> simp [rcvOk, h1, h2]
          all_goals (cases a.f σ1 <;> rfl)
        · simp [rcvOk, h1]
      | _ => simp [rcvOk]
    | _ => simp [rcvOk]
  | err c σ1 => rfl
  | bad => rfl
theorem rf_rep (n : Nat) (σ : VS) : rfOk (List.replicate n false) σ = true := by
  unfold rfOk
  rw [List.all_eq_true]
  intro i hi
  by_cases h : i < n
  · rw [List.getElem?_replicate, if_pos h]
  · rw [List.getElem?_replicate, if_neg h]
theorem hd_run : hd (runG (List.replicate n false) k b os) = brO (b (startV (List.replicate n false) os k)) := by
  rw [ev_run]
  cases h : b (startV (List.replicate n false) os k) <;> simp [rf_rep]
/-! slices -/
@[simp] theorem ev_slq {l u : OX} : (vSl x l u).q = x.q := (rfl)
@[simp] theorem ev_sl {l u : OX} : (vSl x l u).f σ = match x.f σ with
  | .ok o σ1 => if (l.q && u.q) = true then (match l.f σ1 with
    | .ok lo σ2 => (match u.f σ2 with
      | .ok hi σ3 => (match cutO o lo hi with
        | .ok r => .ok r σ3
        | .bad => .bad)
      | .err c σ3 => .err c σ3
      | .bad => .bad)
    | .err c σ2 => .err c σ2
    | .bad => .bad) else .bad
  | .err c σ1 => .err c σ1
  | .bad => .bad := (rfl)
@[simp] theorem ev_oNo : oNo.f σ = .ok none σ := (rfl)
@[simp] theorem ev_oNoq : oNo.q = true := (rfl)
@[simp] theorem ev_oPartq : (oPart x).q = x.q := (rfl)
@[simp] theorem ev_oPart : (oPart x).f σ = match x.f σ with
  | .ok (.val (.int i)) σ1 => .ok (some i) σ1
  | .ok _ _ => .bad
  | .err c σ1 => .err c σ1
  | .bad => .bad := (rfl)
@[simp] theorem ev_cutL {ds : List D} {lo hi : Option Int} : cutO (.val (.lst ds)) lo hi = .ok (.ol (cutD ds lo hi)) := (rfl)
@[simp] theorem ev_cutO {ds : List D} {lo hi : Option Int} : cutO (.ol ds) lo hi = .ok (.ol (cutD ds lo hi)) := (rfl)
theorem cut_to {ds : List D} {j : Nat} (h : j ≤ ds.length) : cutD ds none (some (j : Int)) = ds.take j := by
  unfold cutD
  rw [HT.sIx_none, HT.sIx_nat, Nat.min_eq_left h]
  simp
theorem cut_from {ds : List D} {j : Nat} (h : j ≤ ds.length) : cutD ds (some (j : Int)) none = ds.drop j := by
  unfold cutD
  rw [HT.sIx_none, HT.sIx_nat, Nat.min_eq_left h]
  rw [List.take_of_length_le]
  simp
@[simp] theorem ev_rev {ds : List D} : fRev [.val (.lst ds)] = .ok (.ol ds.reverse) := (rfl)
@[simp] theorem ev_revO {ds : List D} : fRev [.ol ds] = .ok (.ol ds.reverse) := (rfl)
@[simp] theorem ev_extend {ds es : List D} : mExtend (.ol ds) [.val (.lst es)] = if ds.length + es.length ≤ sizeLine then .ok (.ol (ds ++ es), .val .non) else .bad := (rfl)
/-! loops -/
def toNx : BR → BR
  | .ct σ => .nx σ
  | r => r
@[simp] theorem toNx_nx : toNx (.nx σ) = .nx σ := (rfl)
@[simp] theorem toNx_ct : toNx (.ct σ) = .nx σ := (rfl)
@[simp] theorem toNx_rt : toNx (.rt o σ) = .rt o σ := (rfl)
@[simp] theorem toNx_err : toNx (.err e σ) = .err e σ := (rfl)
@[simp] theorem toNx_bk : toNx (.bk σ) = .bk σ := (rfl)
@[simp] theorem toNx_bad : toNx .bad = .bad := (rfl)
variable {g : D → VS → QR VS} {α τ : Type}
theorem forL_one (d : D) (ds : List D) (σ : VS) : forL g b (d :: ds) σ = match toNx (gb g b d σ) with
  | .nx σ2 => forL g b ds σ2
  | .bk σ2 => .nx σ2
  | r => r := by
  conv => lhs; unfold forL
  unfold gb
  cases g d σ with
  | bad => rfl
  | ok σ1 => dsimp only; cases b σ1 <;> rfl
/-- a loop without a way out: a fold -/
theorem forL_fold (eA : α → D) (eS : τ → VS) (f : τ → α → τ) (I : List α → τ → Prop)
    (step : ∀ a as s, I (a :: as) s → toNx (gb g b (eA a) (eS s)) = .nx (eS (f s a)) ∧ I as (f s a)) :
    ∀ (as : List α) (s : τ), I as s → forL g b (as.map eA) (eS s) = .nx (eS (as.foldl f s)) ∧ I [] (as.foldl f s)
  | [], s, h => ⟨rfl, h⟩
  | a :: as, s, h => by
    obtain ⟨e, h2⟩ := step a as s h
    rw [List.map_cons, forL_one, e]
    exact forL_fold eA eS f I step as (f s a) h2
/-- a loop that tests: the state as it was, or the answer o -/
theorem forL_all (eA : α → D) (σ : VS) (p : α → Bool) (o : O) : ∀ (as : List α),
    (∀ a ∈ as, p a = true → toNx (gb g b (eA a) σ) = .nx σ) → (∀ a ∈ as, p a = false → ∃ σ', gb g b (eA a) σ = .rt o σ') →
    (as.all p = true ∧ forL g b (as.map eA) σ = .nx σ) ∨ (as.all p = false ∧ ∃ σ', forL g b (as.map eA) σ = .rt o σ')
  | [], _, _ => .inl ⟨rfl, rfl⟩
  | a :: as, h1, h2 => by
    rw [List.map_cons, forL_one, List.all_cons]
    cases hp : p a with
    | true =>
      rw [h1 a List.mem_cons_self hp]
      exact forL_all eA σ p o as (fun a ha => h1 a (List.mem_cons_of_mem _ ha)) (fun a ha => h2 a (List.mem_cons_of_mem _ ha))
    | false =>
      obtain ⟨σ', e⟩ := h2 a List.mem_cons_self hp
      rw [e]
      exact .inr ⟨rfl, σ', rfl⟩
/-- a loop with a way out -/
theorem forL_opt (eA : α → D) (eS : τ → VS) (f : τ → α → Option τ) (o : O) (I : List α → τ → Prop)
    (step : ∀ a as s s', I (a :: as) s → f s a = some s' → toNx (gb g b (eA a) (eS s)) = .nx (eS s') ∧ I as s')
    (out : ∀ a as s, I (a :: as) s → f s a = none → ∃ σ', gb g b (eA a) (eS s) = .rt o σ') :
    ∀ (as : List α) (s : τ), I as s → (∃ s', as.foldlM f s = some s' ∧ I [] s' ∧ forL g b (as.map eA) (eS s) = .nx (eS s')) ∨ (as.foldlM f s = none ∧ ∃ σ', forL g b (as.map eA) (eS s) = .rt o σ')
  | [], s, h => .inl ⟨s, rfl, h, rfl⟩
  | a :: as, s, h => by
    rw [List.map_cons, forL_one, List.foldlM_cons]
    cases hp : f s a with
    | some s' =>
      obtain ⟨e, h2⟩ := step a as s s' h hp
      rw [e]
      exact forL_opt eA eS f o I step out as s' h2
    | none =>
      obtain ⟨σ', e⟩ := out a as s h hp
      rw [e]
      exact .inr ⟨rfl, σ', rfl⟩
/-! comprehensions -/
def lcE (vs : List Nat) (g : D → VS → QR VS) (tt : TX) (x : VX) (d : D) (σ : VS) : XR (Option O) := match putAway vs σ with
    | .bad => .bad
    | .ok σ1 => (match g d σ1 with
      | .bad => .bad
      | .ok σ2 => (match tt.f σ2 with
        | .bad => .bad
        | .err _ _ => .bad
        | .ok k σ3 => if k = true then (match x.f σ3 with
            | .bad => .bad
            | .err _ _ => .bad
            | .ok e σ4 => .ok (some e) (putBack vs σ σ4)) else .ok none (putBack vs σ σ3)))
variable {vs : List Nat}
theorem lcL_one (d : D) (ds : List D) (σ : VS) (acc : List D) : lcL vs g t x (d :: ds) σ acc = match lcE vs g t x d σ with
  | .ok none σ2 => lcL vs g t x ds σ2 acc
  | .ok (some (.val e)) σ2 => if acc.length < sizeLine then lcL vs g t x ds σ2 (acc ++ [e]) else .bad
  | _ => .bad := by
  conv => lhs; unfold lcL
  unfold lcE
  cases putAway vs σ with
  | bad => rfl
  | ok σ1 =>
    dsimp only
    cases g d σ1 with
    | bad => rfl
    | ok σ2 =>
      dsimp only
      cases t.f σ2 with
      | bad => rfl
      | err _ _ => rfl
      | ok k σ3 =>
        cases k with
        | false => rfl
        | true =>
          dsimp only [if_true]
          cases x.f σ3 with
          | bad => rfl
          | err _ _ => rfl
          | ok o σ4 => cases o <;> rfl
theorem lcN_one (d : D) (ds : List D) (σ : VS) (acc : List O) : lcN vs g t x (d :: ds) σ acc = match lcE vs g t x d σ with
  | .ok none σ2 => lcN vs g t x ds σ2 acc
  | .ok (some e) σ2 => if acc.length < sizeLine then lcN vs g t x ds σ2 (acc ++ [e]) else .bad
  | _ => .bad := by
  conv => lhs; unfold lcN
  unfold lcE
  cases putAway vs σ with
  | bad => rfl
  | ok σ1 =>
    dsimp only
    cases g d σ1 with
    | bad => rfl
    | ok σ2 =>
      dsimp only
      cases t.f σ2 with
      | bad => rfl
      | err _ _ => rfl
      | ok k σ3 =>
        cases k with
        | false => rfl
        | true =>
          dsimp only [if_true]
          cases x.f σ3 with
          | bad => rfl
          | err _ _ => rfl
          | ok o σ4 => rfl
/-- a comprehension that changes nothing -/
theorem lcL_map (eA : α → D) (σ : VS) (f : α → Option D) : ∀ (as : List α) (acc : List D), as.length + acc.length ≤ 1000000 →
    (∀ a ∈ as, lcE vs g t x (eA a) σ = .ok ((f a).map O.val) σ) → lcL vs g t x (as.map eA) σ acc = .ok (acc ++ as.filterMap f) σ
  | [], acc, _, _ => by simp [lcL]
  | a :: as, acc, hl, h => by
    simp only [List.length_cons] at hl
    rw [List.map_cons, lcL_one, h a List.mem_cons_self]
    cases hf : f a with
    | none =>
      dsimp only [Option.map]
      rw [lcL_map eA σ f as acc (by omega) fun a ha => h a (List.mem_cons_of_mem _ ha), List.filterMap_cons_none hf]
    | some d =>
      dsimp only [Option.map]
      rw [if_pos (sz_lt (by omega)), lcL_map eA σ f as _ (by simp; omega) fun a ha => h a (List.mem_cons_of_mem _ ha), List.filterMap_cons_some hf]
      simp
/-- .. its state and what it makes -/
def lcRun (f : τ → α → τ × Option β) : τ → List α → τ × List β
  | s, [] => (s, [])
  | s, a :: as => ((lcRun f (f s a).1 as).1, (f s a).2.toList ++ (lcRun f (f s a).1 as).2)
theorem lcL_run (eA : α → D) (eS : τ → VS) (f : τ → α → τ × Option D) (I : List α → τ → Prop)
    (step : ∀ a as s, I (a :: as) s → lcE vs g t x (eA a) (eS s) = .ok ((f s a).2.map O.val) (eS (f s a).1) ∧ I as (f s a).1) : ∀ (as : List α) (s : τ) (acc : List D), as.length + acc.length ≤ 1000000 → I as s →
    lcL vs g t x (as.map eA) (eS s) acc = .ok (acc ++ (lcRun f s as).2) (eS (lcRun f s as).1) ∧ I [] (lcRun f s as).1
  | [], s, acc, _, h => by simp [lcL, lcRun]; exact h
  | a :: as, s, acc, hl, h => by
    simp only [List.length_cons] at hl
    obtain ⟨e, h2⟩ := step a as s h
    rw [List.map_cons, lcL_one, e]
    unfold lcRun
    cases hf : (f s a).2 with
    | none =>
      have := lcL_run eA eS f I step as (f s a).1 acc (by omega) h2
      dsimp only [Option.map, Option.toList]
      exact this
    | some d =>
      have := lcL_run eA eS f I step as (f s a).1 (acc ++ [d]) (by simp; omega) h2
      dsimp only [Option.map, Option.toList]
      rw [if_pos (sz_lt (by omega))]
      simpa using this
theorem lcN_map (eA : α → D) (σ : VS) (f : α → Option O) : ∀ (as : List α) (acc : List O), as.length + acc.length ≤ 1000000 →
    (∀ a ∈ as, lcE vs g t x (eA a) σ = .ok (f a) σ) → lcN vs g t x (as.map eA) σ acc = .ok (acc ++ as.filterMap f) σ
  | [], acc, _, _ => by simp [lcN]
  | a :: as, acc, hl, h => by
    simp only [List.length_cons] at hl
    rw [List.map_cons, lcN_one, h a List.mem_cons_self]
    cases hf : f a with
    | none =>
      dsimp only
      rw [lcN_map eA σ f as acc (by omega) fun a ha => h a (List.mem_cons_of_mem _ ha), List.filterMap_cons_none hf]
    | some d =>
      dsimp only
      rw [if_pos (sz_lt (by omega)), lcN_map eA σ f as _ (by simp; omega) fun a ha => h a (List.mem_cons_of_mem _ ha), List.filterMap_cons_some hf]
      simp
/-! while -/
theorem sWhile_run (eS : τ → VS) (I : τ → Prop) (nxt : τ → Option τ) (m : τ → Nat)
    (h1 : ∀ s, I s → nxt s = none → t.f (eS s) = .ok false (eS s))
    (h2 : ∀ s s', I s → nxt s = some s' → (∃ σ1, t.f (eS s) = .ok true σ1 ∧ toNx (b σ1) = .nx (eS s')) ∧ I s' ∧ m s' < m s) :
    ∀ (n : Nat) (s : τ), m s = n → I s → ∃ s', sWhile t b (eS s) = .nx (eS s') ∧ I s' ∧ nxt s' = none := by
  intro n
  induction n using Nat.strongRecOn with
  | _ n ih =>
    intro s hm hs
    rw [sWhile_eq]
    cases hn : nxt s with
    | none =>
      rw [h1 s hs hn]
      exact ⟨s, rfl, hs, hn⟩
    | some s' =>
      obtain ⟨⟨σ1, e1, e2⟩, i2, lt⟩ := h2 s s' hs hn
      rw [e1]
      dsimp only [if_true]
      obtain ⟨s2, q1, q2, q3⟩ := ih (m s') (by omega) s' rfl i2
      cases hb : b σ1 with
      | nx σ2 => rw [hb] at e2; cases e2; exact ⟨s2, q1, q2, q3⟩
      | ct σ2 => rw [hb] at e2; cases e2; exact ⟨s2, q1, q2, q3⟩
      | _ => rw [hb] at e2; cases e2
end
end VL
namespace VL
open PySem L2
/-! ### tests that may go either way -/
section
variable {κ : Type} {S : κ → VS} {t u : TX} {b c : VB} {R : BR → Prop}
def TOk (S : κ → VS) (t : TX) : Prop := ∀ k, ∃ z k', t.f (S k) = .ok z (S k')
theorem TOk.and (h : TOk S t) (h2 : TOk S u) : TOk S (tvAnd t u) := fun k => by
  obtain ⟨z, k1, e⟩ := h k
  rw [ev_tand, e]
  cases z with
  | true => obtain ⟨z2, k2, e2⟩ := h2 k1; exact ⟨z2, k2, e2⟩
  | false => exact ⟨false, k1, rfl⟩
theorem TOk.or (h : TOk S t) (h2 : TOk S u) : TOk S (tvOr t u) := fun k => by
  obtain ⟨z, k1, e⟩ := h k
  rw [ev_tor, e]
  cases z with
  | true => exact ⟨true, k1, rfl⟩
  | false => obtain ⟨z2, k2, e2⟩ := h2 k1; exact ⟨z2, k2, e2⟩
theorem TOk.not (h : TOk S t) : TOk S (tvNot t) := fun k => by
  obtain ⟨z, k1, e⟩ := h k
  rw [ev_tnot, e]
  exact ⟨!z, k1, rfl⟩
theorem TOk.sif (h : TOk S t) (h1 : ∀ k, R (b (S k))) (h2 : ∀ k, R (c (S k))) : ∀ k, R (sIf t b c (S k)) := fun k => by
  obtain ⟨z, k1, e⟩ := h k
  rw [ev_sif, e]
  cases z with
  | true => exact h1 k1
  | false => exact h2 k1
end
theorem at_int {α : Type} {l : List α} {i : Int} (h0 : 0 ≤ i) (h : i < l.length) : ∃ x, L2.atI l i = some x ∧ x ∈ l := by
  obtain ⟨n, rfl⟩ : ∃ n : Nat, i = n := ⟨i.toNat, by omega⟩
  rw [at_nat]
  have hn : n < l.length := by omega
  exact ⟨l[n], List.getElem?_eq_getElem hn, List.getElem_mem hn⟩
end VL
set_option maxRecDepth 100000
set_option maxHeartbeats 4000000
/-! M1: draws, numbers, indices, rising lists -/
namespace CM
open PySem L2 VL
def mixV (a b : Int) : Int := (((a * 48271 + b * 69621 + 12345) % 2147483647) * ((a * 48271 + b * 69621 + 12345) % 2147483647 / 65536 + 3) + b) % 2147483647
@[simp] theorem mixed_ev (a b : Int) : hd (m_law_mixed [.val (.int a), .val (.int b)]) = .ok (.val (.int (mixV a b))) := by
  have h1 : CMul a 48271 := .inr (by decide)
  have h2 : CMul b 69621 := .inr (by decide)
  have h3 : ∀ z : Int, CMul (z % 2147483647) (z % 2147483647 / 65536 + 3) := fun z => .inl (by constructor <;> omega)
  rw [mq_law_mixed, hd_run]
  simp [b_law_mixed, ev_mul, h1, h2, h3, mixV]
/-- the draws: what is drawn from, the place -/
def dr (ns : List Int) (k : Nat) : O := .ol [.lst (ns.map D.int), .int k]
def dv (ns : List Int) (k : Nat) : Int := match ns[k]? with
  | some n => n
  | none => mixV (mixV (match ns with
    | [] => 1 + k
    | n :: _ => 1 + k + 1009 * n) k) 5 % 1000000
@[simp] theorem draw_ev (ns : List Int) (k : Nat) : m_law_draw [dr ns k] = .ok (.val (.int (dv ns k))) [dr ns (k + 1)] := by
  rw [mq_law_draw, ev_run]
  by_cases hk : k < ns.length
  · have hk' : (k : Int) < (ns.length : Int) := by omega
    simp [b_law_draw, dr, hk', at_nat, hk, dv]
  · have hk' : ¬ (k : Int) < (ns.length : Int) := by omega
    have hn : ns[k]? = none := List.getElem?_eq_none (by omega)
    cases ns with
    | nil =>
      have h0 : ¬ (k : Int) < 0 := by omega
      simp [b_law_draw, dr, h0, dv]
    | cons n ns =>
      have h1 : CMul 1009 n := .inl (by decide)
      have h3 : (0 : Int) < (ns.length : Int) + 1 := by omega
      have hk' : ¬ (k : Int) < (ns.length : Int) + 1 := fun h => hk' (by simpa using h)
      unfold dv
      rw [hn]
      simp [b_law_draw, dr, ev_mul, h1, h3, hk']
end CM
namespace CM
open PySem L2 VL
/-! ### the numbers -/
theorem pow18 : fPow [.val (.int 10), .val (.int 18)] = .ok (.val (.int 1000000000000000000)) := by
  have h : CPow 10 18 := by unfold CPow; decide
  show (if CPow 10 18 then QR.ok (O.val (.int (10 ^ (18 : Int).toNat))) else .bad) = _
  rw [if_pos h]; rfl
def nmS (rd : O) (c : SV) : List Int × SV → VS := fun s => [.va rd, .va (.ol (s.1.map D.int)), c, s.2, .un]
theorem num_1 (rd : O) (cell : Int) (ds : List D) (ms : List Int) (r : Int) (hl : ms.length + ds.length < 4000) : ∃ ms' r', forL (gN 4) l1_law_numbers ds [.va rd, .va (.ol (ms.map D.int)), .va (.val (.int cell)), .va (.val (.int r)), .un] =
    .nx [.va rd, .va (.ol (List.map D.int ms')), .va (.val (.int cell)), .va (.val (.int r')), .un] ∧ ms'.length ≤ ms.length + ds.length := by
  have := forL_fold (g := gN 4) (b := l1_law_numbers) (id : D → D) (fun s : List Int × Int => [.va rd, .va (.ol (s.1.map D.int)), .va (.val (.int cell)), .va (.val (.int s.2)), .un])
    (fun s _ => if 0 < s.2 then (s.1 ++ [s.2 % 1000000], s.2 / 1000000) else s) (fun ds s => s.1.length + ds.length < 4000 ∧ s.1.length + ds.length ≤ ms.length + (id ds).length + 4000) (fun a as s ⟨h, _⟩ => by
      have hs : s.1.length < sizeLine := sz_lt (by simp at h; omega)
      simp only [List.length_cons] at h
      unfold gb; rw [l1_law_numbers_q]
      by_cases h0 : 0 < s.2
      · simp [h0, hs]; omega
      · simp [h0]; try omega) ds (ms, r) ⟨hl, by simp⟩
  simp only [List.map_id] at this
  refine ⟨_, _, this.1, ?_⟩
  clear this
  generalize hs : (ms, r) = s
  have : ms.length = s.1.length := by rw [← hs]
  rw [this]
  clear this hs
  induction ds generalizing s with
  | nil => simp
  | cons d ds ih =>
    rw [List.foldl_cons]
    refine Nat.le_trans (ih (by simp at hl; omega) _) ?_
    split <;> simp <;> omega
theorem num_2 (rd : O) (cell : Int) (js : List Int) (ms : List Int) (hl : ms.length + js.length < 4000) : ∃ ms', forL (gN 4) l2_law_numbers (js.map D.int) [.va rd, .va (.ol (ms.map D.int)), .va (.val (.int cell)), .un, .un] =
    .nx [.va rd, .va (.ol (List.map D.int ms')), .va (.val (.int cell)), .un, .un] ∧ ms'.length ≤ ms.length + js.length := by
  have := forL_fold (g := gN 4) (b := l2_law_numbers) D.int (fun s : List Int => [.va rd, .va (.ol (s.map D.int)), .va (.val (.int cell)), .un, .un])
    (fun s j => s ++ [mixV (mixV (cell % 2147483647) j) (j + 7) % 1000000]) (fun as s => s.length + as.length = ms.length + js.length) (fun a as s h => by
      have hs : s.length < sizeLine := sz_lt (by simp at h; omega)
      unfold gb; rw [l2_law_numbers_q]
      simp [hs]
      simp at h; omega) js ms rfl
  exact ⟨_, this.1, by simpa using Nat.le_of_eq this.2⟩
theorem num_3 (rd : O) (ms : List Int) (cell : Int) (hl : ms.length ≤ 3780) : ∃ ms' : List Int, gb (gN 2) l3_law_numbers (.int cell) [.va rd, .va (.ol (ms.map D.int)), .un, .un, .un] = .nx [.va rd, .va (.ol (ms'.map D.int)), .un, .un, .un] ∧ ms'.length ≤ ms.length + 60 := by
  have hs : ms.length < sizeLine := sz_lt (by omega)
  by_cases hc : 1000000000000000000 ≤ cell
  · obtain ⟨ms', r', e, h⟩ := num_1 rd cell (rngD 0 60) ms cell (by simp [rngD_len]; omega)
    refine ⟨ms', ?_, by simpa [rngD_len] using h⟩
    unfold gb; rw [l3_law_numbers_q]
    simp [pow18, hc, show sm62 60 = true by decide, e]
  · have er : rngD 0 5 = List.map D.int [0, 1, 2, 3, 4] := rfl
    obtain ⟨ms', e, h⟩ := num_2 rd cell [0, 1, 2, 3, 4] (ms ++ [cell % 1000000]) (by simp; omega)
    refine ⟨ms', ?_, by simp at h; omega⟩
    rw [← er] at e
    simp only [List.map_append, List.map_cons, List.map_nil] at e
    unfold gb; rw [l3_law_numbers_q]
    simp [pow18, hc, show sm62 5 = true by decide, hs, e]
theorem numbers_ev (ns : List Int) (hl : ns.length ≤ 63) : ∃ ms : List Int, hd (m_law_numbers [.val (.rd (ns.map D.int))]) = .ok (.ol (ms.map D.int)) := by
  have : ∀ (rest ms : List Int), ms.length + 60 * rest.length ≤ 3780 → ∃ ms' : List Int, forL (gN 2) l3_law_numbers (rest.map D.int) [.va (.val (.rd (ns.map D.int))), .va (.ol (ms.map D.int)), .un, .un, .un] = .nx [.va (.val (.rd (ns.map D.int))), .va (.ol (ms'.map D.int)), .un, .un, .un] := by
    intro rest
    induction rest with
    | nil => exact fun ms _ => ⟨ms, rfl⟩
    | cons c rest ih =>
      intro ms h
      simp only [List.length_cons] at h
      obtain ⟨ms1, e1, h1⟩ := num_3 (.val (.rd (ns.map D.int))) ms c (by omega)
      obtain ⟨ms2, e2⟩ := ih ms1 (by omega)
      refine ⟨ms2, ?_⟩
      rw [List.map_cons, forL_one, e1]
      exact e2
  obtain ⟨ms, e⟩ := this ns [] (by simp; omega)
  refine ⟨ms, ?_⟩
  rw [mq_law_numbers, hd_run]
  simp only [List.map_nil] at e
  simp [b_law_numbers, e]
/-! ### integers and indices -/
/-- plain data that isinstance is asked of -/
def plD : D → Bool
  | .non | .bl _ | .int _ | .str _ | .tup _ | .lst _ | .dic _ _ => true
  | _ => false
def isI : D → Bool
  | .int _ => true
  | _ => false
theorem is_integer_ev {d : D} (h : plD d = true) : hd (m_is_integer [.val d]) = .ok (.val (.bl (isI d))) := by
  rw [mq_is_integer, hd_run]
  cases d with
  | rd _ => cases h
  | obj _ _ _ => cases h
  | ty _ => cases h
  | hid => cases h
  | _ => simp [b_is_integer, isI]
def inB : D → Int → Bool
  | .int i, n => decide (0 ≤ i) && decide (i < n)
  | _, _ => false
theorem is_index_ev {d : D} {n : Int} (h : plD d = true) : hd (m_is_index [.val d, .val (.int n)]) = .ok (.val (.bl (inB d n))) := by
  rw [mq_is_index, hd_run]
  cases d with
  | rd _ => cases h
  | obj _ _ _ => cases h
  | ty _ => cases h
  | hid => cases h
  | int i =>
    by_cases h0 : 0 ≤ i <;> simp [b_is_index, is_integer_ev h, isI, inB, h0]
  | _ => simp [b_is_index, is_integer_ev h, isI, inB]
@[simp] theorem is_index_int {i n : Int} : hd (m_is_index [.val (.int i), .val (.int n)]) = .ok (.val (.bl (decide (0 ≤ i) && decide (i < n)))) := is_index_ev rfl
@[simp] theorem is_integer_int {i : Int} : hd (m_is_integer [.val (.int i)]) = .ok (.val (.bl true)) := is_integer_ev rfl
/-- a rising list of ints from last on, below n -/
def risB (n : Int) : Int → List D → Bool
  | _, [] => true
  | l, .int i :: ds => decide (0 ≤ i) && decide (i < n) && decide (l < i) && risB n i ds
  | _, _ :: _ => false
theorem rising_loop (vs : D) (n : Int) : ∀ (ds : List D) (l : Int), (∀ d ∈ ds, plD d = true) → (risB n l ds = true ∧ ∃ l', forL (gN 3) l1_is_rising ds [.va (.val vs), .va (.val (.int n)), .va (.val (.int l)), .un] = .nx [.va (.val vs), .va (.val (.int n)), .va (.val (.int l')), .un]) ∨
    (risB n l ds = false ∧ ∃ σ', forL (gN 3) l1_is_rising ds [.va (.val vs), .va (.val (.int n)), .va (.val (.int l)), .un] = .rt (.val (.bl false)) σ')
  | [], l, _ => .inl ⟨rfl, l, rfl⟩
  | d :: ds, l, h => by
    have hp := h d List.mem_cons_self
    rw [forL_one]
    by_cases hi : ∃ i, d = .int i
    · obtain ⟨i, rfl⟩ := hi
      have e : gb (gN 3) l1_is_rising (.int i) [.va (.val vs), .va (.val (.int n)), .va (.val (.int l)), .un] = if (decide (0 ≤ i) && decide (i < n) && decide (l < i)) = true then .nx [.va (.val vs), .va (.val (.int n)), .va (.val (.int i)), .un] else .rt (.val (.bl false)) [.va (.val vs), .va (.val (.int n)), .va (.val (.int l)), .va (.val (.int i))] := by
        unfold gb; rw [l1_is_rising_q]
        by_cases h0 : 0 ≤ i <;> by_cases h1 : i < n <;> by_cases h2 : l < i <;> simp [h0, h1, h2, Int.not_lt.mp, Int.not_le.mpr]
        all_goals (have h3 : i ≤ l := by omega); simp [h3]
      rw [e]
      by_cases hc : (decide (0 ≤ i) && decide (i < n) && decide (l < i)) = true
      · rw [if_pos hc]
        have := rising_loop vs n ds i fun d hd => h d (List.mem_cons_of_mem _ hd)
        unfold risB
        rw [hc]
        simpa using this
      · rw [if_neg hc]
        rw [Bool.not_eq_true] at hc
        unfold risB
        rw [hc]
        exact .inr ⟨rfl, _, rfl⟩
    · have e : ∃ σ', gb (gN 3) l1_is_rising d [.va (.val vs), .va (.val (.int n)), .va (.val (.int l)), .un] = .rt (.val (.bl false)) σ' := by
        unfold gb; rw [l1_is_rising_q]
        cases d with
        | int i => exact (hi ⟨i, rfl⟩).elim
        | _ => simp [is_index_ev hp, inB]
      have e2 : risB n l (d :: ds) = false := by
        cases d with
        | int i => exact (hi ⟨i, rfl⟩).elim
        | _ => rfl
      obtain ⟨σ', e⟩ := e
      rw [e]
      exact .inr ⟨e2, σ', rfl⟩
def risD (n : Int) : D → Bool
  | .lst ds => risB n (-1) ds
  | _ => false
/-- plain data, the items of a list too -/
def pl1 : D → Bool
  | .lst ds => ds.all plD
  | .tup ds => ds.all plD
  | d => plD d
theorem is_rising_ev {vs : D} {n : Int} (hv : pl1 vs = true) : hd (m_is_rising [.val vs, .val (.int n)]) = .ok (.val (.bl (risD n vs))) := by
  rw [mq_is_rising, hd_run]
  cases vs with
  | rd _ => cases hv
  | obj _ _ _ => cases hv
  | ty _ => cases hv
  | hid => cases hv
  | lst ds =>
    rcases rising_loop (.lst ds) n ds (-1) (by simpa [pl1] using hv) with ⟨h, l, e⟩ | ⟨h, σ', e⟩
    · simp [b_is_rising, e, risD, h]
    · simp [b_is_rising, e, risD, h]
  | _ => simp [b_is_rising, risD]
end CM
set_option maxRecDepth 100000
set_option maxHeartbeats 4000000
/-! M2: what is the same is told to be equal -/
namespace CM
open PySem L2 VL
mutual
def eqB : Nat → D → Bool
  | 0, _ => false
  | _ + 1, .non => true
  | _ + 1, .bl _ => true
  | _ + 1, .int _ => true
  | _ + 1, .str x => PyData.strOk x
  | n + 1, .tup ds => decide (ds.length ≤ 1000000) && eqBL n ds
  | n + 1, .lst ds => decide (ds.length ≤ 1000000) && eqBL n ds
  | _ + 1, _ => false
def eqBL : Nat → List D → Bool
  | _, [] => true
  | n, d :: ds => eqB n d && eqBL n ds
end
theorem eqBL_mem {n : Nat} : ∀ {ds : List D}, eqBL n ds = true → ∀ d ∈ ds, eqB n d = true
  | [], _, d, h => by cases h
  | x :: ds, h, d, hd => by
    unfold eqBL at h
    rw [Bool.and_eq_true] at h
    rcases List.mem_cons.mp hd with rfl | hd
    · exact h.1
    · exact eqBL_mem h.2 d hd
theorem eqBL_of {n : Nat} : ∀ {ds : List D}, (∀ d ∈ ds, eqB n d = true) → eqBL n ds = true
  | [], _ => by unfold eqBL; rfl
  | x :: ds, h => by unfold eqBL; rw [Bool.and_eq_true]; exact ⟨h x List.mem_cons_self, eqBL_of fun d hd => h d (List.mem_cons_of_mem _ hd)⟩
theorem eqB_ints {n : Nat} {ns : List Int} (h : ns.length ≤ 1000000) : eqB (n + 2) (.lst (ns.map D.int)) = true := by
  unfold eqB
  rw [Bool.and_eq_true]
  refine ⟨by simpa using h, eqBL_of fun d hd => ?_⟩
  obtain ⟨i, _, rfl⟩ := List.mem_map.mp hd
  unfold eqB; rfl
theorem all_eq_ev (rec : FS) (x : D) (ds : List D) (hx : x = .lst ds ∨ x = .tup ds) (hl : ds.length ≤ 1000000) (h : ∀ d ∈ ds, hd (rec [.val d, .val d]) = .ok (.val (.bl true))) : hd (m_law_all_equal rec [.val x, .val x]) = .ok (.val (.bl true)) := by
  have key : ∀ ks : List Nat, (∀ k ∈ ks, k < ds.length) → forL (gN 2) (l1_law_all_equal rec) (ks.map fun (k : Nat) => D.int (k : Int)) [.va (.val x), .va (.val x), .un] = .nx [.va (.val x), .va (.val x), .un] := by
    intro ks
    induction ks with
    | nil => exact fun _ => rfl
    | cons k ks ih =>
      intro hk
      have h1 := hk k List.mem_cons_self
      have e := h ds[k] (List.getElem_mem h1)
      have e2 : gb (gN 2) (l1_law_all_equal rec) (.int k) [.va (.val x), .va (.val x), .un] = .nx [.va (.val x), .va (.val x), .un] := by
        unfold gb; rw [l1_law_all_equal_q]
        rcases hx with rfl | rfl <;> simp [at_nat, h1, e]
      rw [List.map_cons, forL_one, e2]
      exact ih fun j hj => hk j (List.mem_cons_of_mem _ hj)
  have e := key (List.range ds.length) fun k hk => List.mem_range.mp hk
  have hs : sm62 (ds.length : Int) = true := sm62_in (by omega) (by omega)
  have er : rngD 0 ds.length = (List.range ds.length).map fun (k : Nat) => D.int (k : Int) := by unfold rngD; simp
  rw [← er] at e
  rw [mq_law_all_equal, hd_run]
  rcases hx with rfl | rfl <;> simp [b_law_all_equal, hs, e]
theorem eqS {g : Bool → Bool} {a b : Str} (ha : PyData.strOk a = true) (hb : PyData.strOk b = true) : fEq g [.val (.str a), .val (.str b)] = .ok (.val (.bl (g (a == b)))) := by
  have h : ∀ s : Str, PyData.strOk s = true → shp (.val (.str s)) = some (.str s) := fun s hs => by
    unfold shp pyO pyD
    show (if SeqAt.shaped (.str s) = true then some (PyData.str s) else none) = _
    rw [if_pos]
    show ((PyData.str s).canLay0 && decide ((PyData.str s).depth ≤ 64)) = true
    unfold PyData.canLay0 PyData.depth
    rw [hs]; rfl
  show (match shp (.val (.str a)), shp (.val (.str b)) with
    | some x, some y => QR.ok (O.val (.bl (g (PyData.eqv x y))))
    | _, _ => .bad) = _
  rw [h a ha, h b hb]
  dsimp only
  unfold PyData.eqv
  rfl
theorem equal_step (rec : FS) (d : D) (h : match d with
    | .non | .bl _ | .int _ => True
    | .str x => PyData.strOk x = true
    | .tup ds => hd (m_law_all_equal rec [.val (.tup ds), .val (.tup ds)]) = .ok (.val (.bl true))
    | .lst ds => hd (m_law_all_equal rec [.val (.lst ds), .val (.lst ds)]) = .ok (.val (.bl true))
    | _ => False) : hd (m_law_equal_step rec [.val d, .val d]) = .ok (.val (.bl true)) := by
  rw [mq_law_equal_step, hd_run]
  cases d with
  | non => simp [b_law_equal]
  | bl b => simp [b_law_equal]
  | int i => simp [b_law_equal]
  | str i => simp [b_law_equal, eqS h h]
  | tup ds => simp [b_law_equal, h]
  | lst ds => simp [b_law_equal, h]
  | _ => exact h.elim
theorem equal_ev : ∀ (n : Nat) (d : D), eqB n d = true → hd (m_law_equal n [.val d, .val d]) = .ok (.val (.bl true))
  | 0, d, h => by unfold eqB at h; cases h
  | n + 1, d, h => by
    have ih := equal_ev n
    unfold m_law_equal
    refine equal_step _ d ?_
    cases d with
    | non => trivial
    | bl b => trivial
    | int i => trivial
    | str i => unfold eqB at h; exact h
    | tup ds =>
      unfold eqB at h
      rw [Bool.and_eq_true, decide_eq_true_eq] at h
      exact all_eq_ev _ _ ds (.inr rfl) h.1 fun d hd => ih d (eqBL_mem h.2 d hd)
    | lst ds =>
      unfold eqB at h
      rw [Bool.and_eq_true, decide_eq_true_eq] at h
      exact all_eq_ev _ _ ds (.inl rfl) h.1 fun d hd => ih d (eqBL_mem h.2 d hd)
    | _ => unfold eqB at h; cases h
@[simp] theorem equal_bl {n : Nat} {b : Bool} : hd (m_law_equal (n + 1) [.val (.bl b), .val (.bl b)]) = .ok (.val (.bl true)) := equal_ev _ _ (by unfold eqB; rfl)
@[simp] theorem equal_int {n : Nat} {b : Int} : hd (m_law_equal (n + 1) [.val (.int b), .val (.int b)]) = .ok (.val (.bl true)) := equal_ev _ _ (by unfold eqB; rfl)
@[simp] theorem equal_non {n : Nat} : hd (m_law_equal (n + 1) [.val .non, .val .non]) = .ok (.val (.bl true)) := equal_ev _ _ (by unfold eqB; rfl)
theorem equal_ints {n : Nat} {ns : List Int} (h : ns.length ≤ 1000000) : hd (m_law_equal (n + 2) [.val (.lst (ns.map D.int)), .val (.lst (ns.map D.int))]) = .ok (.val (.bl true)) := equal_ev _ _ (eqB_ints h)
theorem eqB_bls {n : Nat} {ns : List Bool} (h : ns.length ≤ 1000000) : eqB (n + 2) (.lst (ns.map D.bl)) = true := by
  unfold eqB
  rw [Bool.and_eq_true]
  refine ⟨by simpa using h, eqBL_of fun d hd => ?_⟩
  obtain ⟨i, _, rfl⟩ := List.mem_map.mp hd
  unfold eqB; rfl
@[simp] theorem equal_b1 {n : Nat} {a : Bool} : hd (m_law_equal (n + 2) [.val (.lst [.bl a]), .val (.lst [.bl a])]) = .ok (.val (.bl true)) := equal_ev _ _ (eqB_bls (ns := [a]) (by simp))
@[simp] theorem equal_b2 {n : Nat} {a b : Bool} : hd (m_law_equal (n + 2) [.val (.lst [.bl a, .bl b]), .val (.lst [.bl a, .bl b])]) = .ok (.val (.bl true)) := equal_ev _ _ (eqB_bls (ns := [a, b]) (by simp))
@[simp] theorem equal_b3 {n : Nat} {a b c : Bool} : hd (m_law_equal (n + 2) [.val (.lst [.bl a, .bl b, .bl c]), .val (.lst [.bl a, .bl b, .bl c])]) = .ok (.val (.bl true)) := equal_ev _ _ (eqB_bls (ns := [a, b, c]) (by simp))
@[simp] theorem equal_b4 {n : Nat} {a b c e : Bool} : hd (m_law_equal (n + 2) [.val (.lst [.bl a, .bl b, .bl c, .bl e]), .val (.lst [.bl a, .bl b, .bl c, .bl e])]) = .ok (.val (.bl true)) := equal_ev _ _ (eqB_bls (ns := [a, b, c, e]) (by simp))
end CM
set_option maxRecDepth 100000
set_option maxHeartbeats 4000000
/-! M3: graphs -/
namespace CM
open PySem L2 VL
theorem nodup_len {α : Type} [DecidableEq α] : ∀ (l m : List α), l.Nodup → (∀ x ∈ l, x ∈ m) → l.length ≤ m.length
  | [], _, _, _ => by simp
  | a :: l, m, hd, hs => by
    obtain ⟨h1, h2⟩ := List.nodup_cons.mp hd
    have ha := hs a List.mem_cons_self
    have := nodup_len l (m.erase a) h2 fun x hx => (List.mem_erase_of_ne (fun (e : x = a) => h1 (e ▸ hx))).mpr (hs x (List.mem_cons_of_mem _ hx))
    rw [List.length_erase_of_mem ha] at this
    have : 0 < m.length := List.length_pos_of_mem ha
    simp only [List.length_cons]
    omega
theorem foldl_app {α β : Type} (h : α → List β) : ∀ (as : List α) (s : List β), as.foldl (fun acc a => acc ++ h a) s = s ++ as.flatMap h
  | [], s => by simp
  | a :: as, s => by rw [List.foldl_cons, foldl_app h as, List.flatMap_cons, List.append_assoc]
theorem sm62_nat {n : Nat} (h : n ≤ 1000000) : sm62 (n : Int) = true := sm62_in (by omega) (by omega)
theorem sm62_of {n : Int} (h : -1000000 ≤ n) (h2 : n ≤ 1000000) : sm62 n = true := sm62_in (by omega) (by omega)
/-- ints as what range walks over -/
def upto (n : Nat) : List Int := (List.range n).map fun (i : Nat) => (i : Int)
theorem mem_upto {n : Nat} {i : Int} : i ∈ upto n ↔ 0 ≤ i ∧ i < n := by
  unfold upto
  rw [List.mem_map]
  constructor
  · rintro ⟨k, hk, rfl⟩
    have := List.mem_range.mp hk
    omega
  · rintro ⟨h1, h2⟩
    exact ⟨i.toNat, List.mem_range.mpr (by omega), by omega⟩
@[simp] theorem upto_len {n : Nat} : (upto n).length = n := by simp [upto]
theorem rng0 {n : Nat} : rngD 0 n = (upto n).map D.int := by unfold rngD upto; simp
def span (a : Int) (n : Nat) : List Int := (List.range n).map fun (i : Nat) => a + (i : Int)
theorem rngA {a : Int} {n : Nat} : rngD a n = (span a n).map D.int := by unfold rngD span; simp
theorem mem_span {a : Int} {n : Nat} {i : Int} : i ∈ span a n ↔ a ≤ i ∧ i < a + n := by
  unfold span
  rw [List.mem_map]
  constructor
  · rintro ⟨k, hk, rfl⟩
    have := List.mem_range.mp hk
    omega
  · rintro ⟨h1, h2⟩
    exact ⟨(i - a).toNat, List.mem_range.mpr (by omega), by omega⟩
@[simp] theorem span_len {a : Int} {n : Nat} : (span a n).length = n := by simp [span]
theorem span_asc {a : Int} {n : Nat} : (span a n).Pairwise (· < ·) := by
  unfold span
  rw [List.pairwise_map]
  exact List.Pairwise.imp (fun {x y} (h : x < y) => by omega) List.pairwise_lt_range
theorem upto_asc {n : Nat} : (upto n).Pairwise (· < ·) := by
  unfold upto
  rw [List.pairwise_map]
  exact List.Pairwise.imp (fun {x y} (h : x < y) => by omega) List.pairwise_lt_range
/-! ### edges -/
def ltP (p q : Int × Int) : Prop := p.1 < q.1 ∨ (p.1 = q.1 ∧ p.2 < q.2)
/-- edges that stand: below n, the first below the second -/
def Ok (n : Nat) (E : List (Int × Int)) : Prop := ∀ p ∈ E, 0 ≤ p.1 ∧ p.1 < p.2 ∧ p.2 < (n : Int)
structure Gr (n : Nat) (E : List (Int × Int)) : Prop where
  le : n ≤ 40
  ok : Ok n E
  asc : E.Pairwise ltP
theorem ltP_irr {p : Int × Int} : ¬ ltP p p := by rintro (h | ⟨_, h⟩) <;> omega
theorem Gr.nodup {n : Nat} {E : List (Int × Int)} (g : Gr n E) : E.Nodup := List.Pairwise.imp (fun {a b} (h : ltP a b) (e : a = b) => ltP_irr (e ▸ h)) g.asc
theorem Gr.len {n : Nat} {E : List (Int × Int)} (g : Gr n E) : E.length ≤ 1600 := by
  have := nodup_len E ((upto 40).flatMap fun a => (upto 40).map fun b => (a, b)) g.nodup fun p hp => by
    obtain ⟨h1, h2, h3⟩ := g.ok p hp
    have := g.le
    exact List.mem_flatMap.mpr ⟨p.1, mem_upto.mpr (by omega), List.mem_map.mpr ⟨p.2, mem_upto.mpr (by omega), rfl⟩⟩
  refine Nat.le_trans this ?_
  rw [List.length_flatMap]
  decide
/-! ### check_edges -/
theorem chk_1 (n : Int) (es : D) (l p : Int × Int) (h0 : 0 ≤ p.1 ∧ p.1 < p.2 ∧ p.2 < n) (h2 : ltP l p) :
    gb (gN 3) l1_check_edges (pairD p) [.va (.val (.int n)), .va (.val es), .va (.val (pairD l)), .un] = .nx [.va (.val (.int n)), .va (.val es), .va (.val (pairD p)), .un] := by
  obtain ⟨a1, a2, a3⟩ := h0
  have h3 : ¬ p.2 ≤ p.1 := by omega
  have h4 : 0 ≤ p.2 := by omega
  have h5 : p.1 < n := by omega
  have h6 : ¬ (p.1 < l.1 ∨ (p.1 = l.1 ∧ p.2 ≤ l.2)) := by rcases h2 with h | ⟨h, h'⟩ <;> omega
  unfold gb pairD; rw [l1_check_edges_q]
  simp [a1, a3, h3, h4, h5, ev_leT, h6]
theorem chk_loop (n : Int) (es : D) : ∀ (E : List (Int × Int)) (l : Int × Int), (∀ p ∈ E, 0 ≤ p.1 ∧ p.1 < p.2 ∧ p.2 < n) → (l :: E).Pairwise ltP → ∃ l', forL (gN 3) l1_check_edges (E.map pairD) [.va (.val (.int n)), .va (.val es), .va (.val (pairD l)), .un] = .nx [.va (.val (.int n)), .va (.val es), .va (.val (pairD l')), .un]
  | [], l, _, _ => ⟨l, rfl⟩
  | p :: E, l, h1, h2 => by
    rw [List.map_cons, forL_one, chk_1 n es l p (h1 p List.mem_cons_self) (List.rel_of_pairwise_cons h2 List.mem_cons_self)]
    exact chk_loop n es E p (fun q hq => h1 q (List.mem_cons_of_mem _ hq)) (List.Pairwise.of_cons h2)
theorem check_ev {n : Nat} {E : List (Int × Int)} (g : Gr n E) : hd (m_check_edges [.val (.int n), .val (.lst (E.map pairD))]) = .ok (.val .non) := by
  have hn := g.le
  have h0 : (0 : Int) ≤ n := by omega
  have h1 : (n : Int) ≤ 40 := by omega
  obtain ⟨l, e⟩ := chk_loop n (.lst (E.map pairD)) E (-1, -1) g.ok (List.pairwise_cons.mpr ⟨fun p hp => .inl (by have := (g.ok p hp).1; show (-1 : Int) < p.1; omega), g.asc⟩)
  have hp : pairD (-1, -1) = .tup [.int (-1), .int (-1)] := rfl
  rw [hp] at e
  rw [mq_check_edges, hd_run]
  simp [b_check_edges, h1, e]
/-! ### Graph(..) -/
theorem nm_e : namAt ["nodes"] "edges" = none := by rfl
theorem nm_l : namAt ["nodes", "edges"] "links" = none := by rfl
theorem nm_0 : namAt ["nodes", "edges", "links"] "nodes" = some 0 := by rfl
theorem nm_1 : namAt ["nodes", "edges", "links"] "edges" = some 1 := by rfl
theorem nm_2 : namAt ["nodes", "edges", "links"] "links" = some 2 := by rfl
/-- who stands beside i -/
def rows (E : List (Int × Int)) (i : Int) : List Int := E.flatMap fun p => (if p.1 = i then [p.2] else []) ++ (if p.2 = i then [p.1] else [])
def rowsO (n : Nat) (E : List (Int × Int)) : List O := (List.range n).map fun (i : Nat) => .ol ((rows E i).map D.int)
def adj (E : List (Int × Int)) (i : Int) : List Int := srtI (rows E i)
def rowsD (n : Nat) (E : List (Int × Int)) : List D := (List.range n).map fun (i : Nat) => .lst ((adj E i).map D.int)
def grO (n : Int) (E : List (Int × Int)) (l : O) : O := .ob "Graph" ["nodes", "edges", "links"] [.val (.int n), .val (.lst (E.map pairD)), l]
def grD (n : Nat) (E : List (Int × Int)) : D := .obj "Graph" ["nodes", "edges", "links"] [.int n, .lst (E.map pairD), .lst (rowsD n E)]
theorem mem_rows {E : List (Int × Int)} {i j : Int} : j ∈ rows E i ↔ (i, j) ∈ E ∨ (j, i) ∈ E := by
  unfold rows
  rw [List.mem_flatMap]
  constructor
  · rintro ⟨p, hp, hj⟩
    rcases List.mem_append.mp hj with h | h
    · split at h
      · rename_i e
        rw [List.mem_singleton] at h
        exact .inl (by rw [h, ← e]; exact hp)
      · cases h
    · split at h
      · rename_i e
        rw [List.mem_singleton] at h
        exact .inr (by rw [h, ← e]; exact hp)
      · cases h
  · rintro (h | h)
    · exact ⟨_, h, by simp⟩
    · exact ⟨_, h, by simp⟩
theorem mem_adj {E : List (Int × Int)} {i j : Int} : j ∈ adj E i ↔ (i, j) ∈ E ∨ (j, i) ∈ E := (srtI_perm _).mem_iff.trans mem_rows
theorem ini_x (σ : VS) (a b c e f g : SV) (h : σ = [a, b, c, .un, e, f, g]) (d : D) : lcE [3] (gN 3) tvYes x1_Graph__init d σ = .ok (some (.ol [])) σ := by
  subst h
  unfold lcE; rw [x1_Graph__init_q]
  simp
theorem ini_l (n : Int) (E : List (Int × Int)) (os : List O) (a b : Nat) (xs ys : List D) (ha : os[a]? = some (.ol xs)) (hb : (os.set a (.ol (xs ++ [.int b])))[b]? = some (.ol ys)) (hx : xs.length < 1000000) (hy : ys.length < 1000000) (s1 s2 : SV) :
    gb (gT [(gN 4), (gN 5)]) l1_Graph__init (pairD ((a : Int), (b : Int))) [.rf (grO n E (.nl os)), s1, s2, .un, .un, .un, .un] = .nx [.rf (grO n E (.nl ((os.set a (.ol (xs ++ [.int b]))).set b (.ol (ys ++ [.int a]))))), s1, s2, .un, .un, .un, .un] := by
  have la : a < os.length := (List.getElem?_eq_some_iff.mp ha).1
  have lb : b < os.length := by have := (List.getElem?_eq_some_iff.mp hb).1; simpa using this
  have q1 := ixN_nat la
  have q2 := ixN_nat lb
  have sx : xs.length < sizeLine := sz_lt hx
  have sy : ys.length < sizeLine := sz_lt hy
  unfold gb; rw [l1_Graph__init_q]
  have e1 : gT [(gN 4), (gN 5)] (pairD ((a : Int), (b : Int))) [.rf (grO n E (.nl os)), s1, s2, .un, .un, .un, .un] = .ok [.rf (grO n E (.nl os)), s1, s2, .un, .va (.val (.int a)), .va (.val (.int b)), .un] := by
    simp [pairD]
  rw [e1]; dsimp only
  rw [ev_tidy]
  rw [seq_nx (σ1 := [.rf (grO n E (.nl (os.set a (.ol (xs ++ [.int b]))))), s1, s2, .un, .va (.val (.int a)), .va (.val (.int b)), .un]) (by simp [grO, nm_2, q1, ha, sx]) rfl]
  simp only [ev_drop, ev_mt]
  simp [grO, nm_2, q2, hb, sy]
theorem rows_app (F : List (Int × Int)) (p : Int × Int) (i : Int) : rows (F ++ [p]) i = rows F i ++ ((if p.1 = i then [p.2] else []) ++ (if p.2 = i then [p.1] else [])) := by
  unfold rows
  simp [List.flatMap_append]
theorem rowsO_get {n i : Nat} {F : List (Int × Int)} (h : i < n) : (rowsO n F)[i]? = some (.ol ((rows F i).map D.int)) := by
  unfold rowsO
  rw [List.getElem?_map, List.getElem?_range h]; rfl
theorem rowsO_app (n : Nat) (F : List (Int × Int)) (a b : Nat) (hab : a < b) (hb : b < n) :
    ((rowsO n F).set a (.ol ((rows F a).map D.int ++ [.int b]))).set b (.ol ((rows F b).map D.int ++ [.int a])) = rowsO n (F ++ [((a : Int), (b : Int))]) := by
  apply List.ext_getElem?
  intro i
  have hl : (rowsO n F).length = n := by unfold rowsO; simp
  by_cases hi : i < n
  · rw [rowsO_get hi, rows_app]
    by_cases h1 : b = i
    · subst h1
      have : (a : Int) ≠ (b : Int) := by omega
      rw [List.getElem?_set_self (by simp [hl, hb])]
      simp [this]
    · rw [List.getElem?_set_ne h1]
      have h1' : ¬ (b : Int) = (i : Int) := by omega
      by_cases h2 : a = i
      · subst h2
        rw [List.getElem?_set_self (by rw [hl]; exact hi)]
        simp [h1']
      · have h2' : ¬ (a : Int) = (i : Int) := by omega
        rw [List.getElem?_set_ne h2, rowsO_get hi]
        simp [h1', h2']
  · rw [List.getElem?_eq_none (by simp [hl]; omega), List.getElem?_eq_none (by unfold rowsO; simp; omega)]
theorem rows_len (F : List (Int × Int)) (i : Int) : (rows F i).length ≤ 2 * F.length := by
  induction F with
  | nil => simp [rows]
  | cons p F ih =>
    have e : rows (p :: F) i = ((if p.1 = i then [p.2] else []) ++ (if p.2 = i then [p.1] else [])) ++ rows F i := by unfold rows; rw [List.flatMap_cons]
    rw [e, List.length_append, List.length_append, List.length_cons]
    have h1 : (if p.1 = i then [p.2] else []).length ≤ 1 := by split <;> simp
    have h2 : (if p.2 = i then [p.1] else []).length ≤ 1 := by split <;> simp
    omega
theorem adj_len (F : List (Int × Int)) (i : Int) : (adj F i).length ≤ 2 * F.length := by unfold adj; rw [(srtI_perm _).length_eq]; exact rows_len F i
theorem ini_loop (n : Nat) (E0 : List (Int × Int)) (s1 s2 : SV) : ∀ (R F : List (Int × Int)), Ok n R → F.length + R.length ≤ 2000 →
    forL (gT [(gN 4), (gN 5)]) l1_Graph__init (R.map pairD) [.rf (grO n E0 (.nl (rowsO n F))), s1, s2, .un, .un, .un, .un] = .nx [.rf (grO n E0 (.nl (rowsO n (F ++ R)))), s1, s2, .un, .un, .un, .un]
  | [], F, _, _ => by rw [List.append_nil]; rfl
  | p :: R, F, hE, hl => by
    obtain ⟨q1, q2, q3⟩ := hE p List.mem_cons_self
    obtain ⟨a, ha⟩ : ∃ a : Nat, p.1 = a := ⟨p.1.toNat, by omega⟩
    obtain ⟨b, hb⟩ : ∃ b : Nat, p.2 = b := ⟨p.2.toNat, by omega⟩
    have hp : p = ((a : Int), (b : Int)) := Prod.ext ha hb
    subst hp
    have hab : a < b := by simp at q2; omega
    have hbn : b < n := by simp at q3; omega
    have l1 := rows_len F a
    have l2 := rows_len F b
    simp only [List.length_cons] at hl
    rw [List.map_cons, forL_one, ini_l n E0 (rowsO n F) a b ((rows F a).map D.int) ((rows F b).map D.int) (rowsO_get (by omega)) (by rw [List.getElem?_set_ne (by omega)]; exact rowsO_get hbn) (by simp; omega) (by simp; omega), rowsO_app n F a b hab hbn]
    dsimp only [toNx]
    rw [ini_loop n E0 s1 s2 R _ (fun q hq => hE q (List.mem_cons_of_mem _ hq)) (by simp; omega)]
    simp
theorem frz_rows (n : Nat) (E : List (Int × Int)) : frz (.nl (rowsO n E)) = .lst ((List.range n).map fun (i : Nat) => D.lst ((rows E i).map D.int)) := by
  have h : ∀ l : List Nat, frzL (l.map fun (i : Nat) => O.ol ((rows E i).map D.int)) = l.map fun (i : Nat) => D.lst ((rows E i).map D.int) := fun l => by
    induction l with
    | nil => unfold frzL; rfl
    | cons i l ih =>
      rw [List.map_cons, List.map_cons]
      unfold frzL
      rw [ih, ev_frz_ol]
  unfold frz rowsO
  rw [h]
theorem ini_ev {n : Nat} {E : List (Int × Int)} (g : Gr n E) : mk1 (m_Graph__init [.ob "Graph" [] [], .val (.int n), .val (.lst (E.map pairD))]) = .ok (grO n E (.val (.lst (rowsD n E)))) := by
  have hn := g.le
  have hl := g.len
  have hs := sm62_nat (n := n) (by omega)
  have e0 : ∀ σ : VS, ∀ a b c e f g : SV, σ = [a, b, c, .un, e, f, g] → lcN [3] (gN 3) tvYes x1_Graph__init (rngD 0 n) σ [] = .ok (rowsO n []) σ := fun σ a b c e f g h => by
    have := lcN_map (vs := [3]) (g := gN 3) (t := tvYes) (x := x1_Graph__init) (fun i : Nat => D.int (0 + (i : Int))) σ (fun _ => some (O.ol [])) (List.range n) [] (by simp; omega) fun i _ => ini_x σ a b c e f g h _
    rw [show rngD 0 n = (List.range n).map fun (i : Nat) => D.int (0 + (i : Int)) from rfl, this]
    unfold rowsO rows
    simp [List.filterMap_eq_map]
  have e5 : ∀ σ : VS, ∀ a b c e f g : SV, σ = [a, b, c, e, f, g, .un] → lcL [6] (gN 6) tvYes x2_Graph__init ((List.range n).map fun (i : Nat) => D.lst ((rows E i).map D.int)) σ [] = .ok (rowsD n E) σ := fun σ a b c e f g h => by
    have := lcL_map (vs := [6]) (g := gN 6) (t := tvYes) (x := x2_Graph__init) (fun i : Nat => D.lst ((rows E i).map D.int)) σ (fun i : Nat => some (D.lst ((adj E i).map D.int))) (List.range n) [] (by simp; omega) fun i _ => by
      subst h
      unfold lcE; rw [x2_Graph__init_q]
      simp [ev_sortI, adj]
    rw [this]
    unfold rowsD
    simp [List.filterMap_eq_map]
  obtain ⟨ck, hck⟩ : ∃ ck, m_check_edges = ck := ⟨_, rfl⟩
  have ec := check_ev g
  rw [mq_Graph__init]
  have fin : ∀ r, r = runG [true, false, false] 4 b_Graph__init [.ob "Graph" [] [], .val (.int n), .val (.lst (E.map pairD))] → r = .ok (.val .non) [grO n E (.val (.lst (rowsD n E))), .val (.int n), .val (.lst (E.map pairD))] → mk1 r = .ok (grO n E (.val (.lst (rowsD n E)))) := fun r _ h => by rw [h]; rfl
  refine fin _ rfl ?_
  unfold b_Graph__init
  refine run_nx (σ1 := [.rf (grO n E (.val (.lst (rowsD n E)))), .va (.val (.int n)), .va (.val (.lst (E.map pairD))), .un, .un, .un, .un]) ?_ (by simp) (by simp)
  refine seq_nx (σ1 := [.rf (.ob "Graph" [] []), .va (.val (.int n)), .va (.val (.lst (E.map pairD))), .un, .un, .un, .un]) (by simp [ec]) ?_
  refine seq_nx (σ1 := [.rf (.ob "Graph" ["nodes"] [.val (.int n)]), .va (.val (.int n)), .va (.val (.lst (E.map pairD))), .un, .un, .un, .un]) (by simp; exact ⟨rfl, rfl⟩) ?_
  refine seq_nx (σ1 := [.rf (.ob "Graph" ["nodes", "edges"] [.val (.int n), .val (.lst (E.map pairD))]), .va (.val (.int n)), .va (.val (.lst (E.map pairD))), .un, .un, .un, .un]) (by simp [putN, nm_e]) ?_
  refine seq_nx (σ1 := [.rf (grO n E (.nl (rowsO n []))), .va (.val (.int n)), .va (.val (.lst (E.map pairD))), .un, .un, .un, .un]) (by simp [putN, nm_l, hs, e0 _ _ _ _ _ _ _ rfl, grO]) ?_
  refine seq_nx (σ1 := [.rf (grO n E (.nl (rowsO n E))), .va (.val (.int n)), .va (.val (.lst (E.map pairD))), .un, .un, .un, .un]) (by simp [ini_loop n E _ _ E [] g.ok (by simp; omega)]) ?_
  have e1 : gFrP 0 [.fd "links"] [.rf (grO n E (.nl (rowsO n E))), .va (.val (.int n)), .va (.val (.lst (E.map pairD))), .un, .un, .un, .un] = .ok [.rf (grO n E (.val (.lst ((List.range n).map fun (i : Nat) => D.lst ((rows E i).map D.int))))), .va (.val (.int n)), .va (.val (.lst (E.map pairD))), .un, .un, .un, .un] := by
    simp [grO, getP, setP, nm_2, frz_rows]
  rw [ev_gh, e1]; dsimp only
  have e2 : fFld "Graph" "links" [grO n E (.val (.lst ((List.range n).map fun (i : Nat) => D.lst ((rows E i).map D.int))))] = .ok (.val (.lst ((List.range n).map fun (i : Nat) => D.lst ((rows E i).map D.int)))) := by
    simp [fFld, grO, nm_2]
  simp [e2, e5 _ _ _ _ _ _ _ rfl]
  simp [grO, putN, nm_2]
@[simp] theorem frz_gr {n : Nat} {E : List (Int × Int)} : frz (grO n E (.val (.lst (rowsD n E)))) = grD n E := by
  unfold grO grD
  simp [frz, frzL]
@[simp] theorem fld_n {n : Nat} {E : List (Int × Int)} : fFld "Graph" "nodes" [.val (grD n E)] = .ok (.val (.int n)) := by simp [fFld, grD, nm_0]
@[simp] theorem fld_e {n : Nat} {E : List (Int × Int)} : fFld "Graph" "edges" [.val (grD n E)] = .ok (.val (.lst (E.map pairD))) := by simp [fFld, grD, nm_1]
@[simp] theorem fld_l {n : Nat} {E : List (Int × Int)} : fFld "Graph" "links" [.val (grD n E)] = .ok (.val (.lst (rowsD n E))) := by simp [fFld, grD, nm_2]
theorem at_rows {n : Nat} {E : List (Int × Int)} {i : Int} (h0 : 0 ≤ i) (h : i < n) : L2.atI (rowsD n E) i = some (.lst ((adj E i).map D.int)) := by
  obtain ⟨k, rfl⟩ : ∃ k : Nat, i = k := ⟨i.toNat, by omega⟩
  rw [at_nat]
  unfold rowsD
  rw [List.getElem?_map, List.getElem?_range (by omega)]
  rfl
theorem is_list_ev {n : Nat} {E : List (Int × Int)} {v : D} (hv : pl1 v = true) : hd (m_is_list [.val (grD n E), .val v]) = .ok (.val (.bl (risD n v))) := by
  rw [mq_is_list, hd_run]
  simp [b_is_list, is_rising_ev hv]
@[simp] theorem rcv_complement {n : Nat} {E : List (Int × Int)} : rcvOk "Graph" "complement" (.val (grD n E)) = true := by rfl
@[simp] theorem rcv_neighbours {n : Nat} {E : List (Int × Int)} : rcvOk "Graph" "neighbours" (.val (grD n E)) = true := by rfl
@[simp] theorem rcv_degree {n : Nat} {E : List (Int × Int)} : rcvOk "Graph" "degree" (.val (grD n E)) = true := by rfl
@[simp] theorem rcv_adjacent {n : Nat} {E : List (Int × Int)} : rcvOk "Graph" "adjacent" (.val (grD n E)) = true := by rfl
@[simp] theorem rcv_induced {n : Nat} {E : List (Int × Int)} : rcvOk "Graph" "induced" (.val (grD n E)) = true := by rfl
@[simp] theorem rcv_without {n : Nat} {E : List (Int × Int)} : rcvOk "Graph" "without" (.val (grD n E)) = true := by rfl
@[simp] theorem rcv_many {n : Nat} {E : List (Int × Int)} : rcvOk "Graph" "many" (.val (grD n E)) = true := by rfl
@[simp] theorem rcv_eq {n : Nat} {E : List (Int × Int)} : rcvOk "Graph" "__eq__" (.val (grD n E)) = true := by rfl
end CM
set_option maxRecDepth 100000
set_option maxHeartbeats 4000000
/-! M4: the complement -/
namespace CM
open PySem L2 VL
def nonA (E : List (Int × Int)) (a : Int) (bs : List Int) : List (Int × Int) := bs.flatMap fun b => if b ∈ adj E a then [] else [(a, b)]
def compl (n : Nat) (E : List (Int × Int)) : List (Int × Int) := (upto n).flatMap fun a => nonA E a (span (a + 1) ((n : Int) - (a + 1)).toNat)
theorem mem_nonA {E : List (Int × Int)} {a : Int} {bs : List Int} {p : Int × Int} : p ∈ nonA E a bs ↔ p.1 = a ∧ p.2 ∈ bs ∧ p.2 ∉ adj E a := by
  unfold nonA
  rw [List.mem_flatMap]
  constructor
  · rintro ⟨b, hb, h⟩
    split at h
    · cases h
    · rename_i hn
      rw [List.mem_singleton] at h
      subst h
      exact ⟨rfl, hb, hn⟩
  · rintro ⟨h1, h2, h3⟩
    exact ⟨p.2, h2, by rw [if_neg h3, List.mem_singleton, ← h1]⟩
theorem mem_compl {n : Nat} {E : List (Int × Int)} {p : Int × Int} : p ∈ compl n E ↔ 0 ≤ p.1 ∧ p.1 < p.2 ∧ p.2 < n ∧ p.2 ∉ adj E p.1 := by
  unfold compl
  rw [List.mem_flatMap]
  constructor
  · rintro ⟨a, ha, h⟩
    obtain ⟨h1, h2, h3⟩ := mem_nonA.mp h
    have := mem_upto.mp ha
    have := mem_span.mp h2
    subst h1
    exact ⟨by omega, by omega, by omega, h3⟩
  · rintro ⟨h1, h2, h3, h4⟩
    exact ⟨p.1, mem_upto.mpr (by omega), mem_nonA.mpr ⟨rfl, mem_span.mpr (by omega), h4⟩⟩
theorem compl_gr {n : Nat} (E : List (Int × Int)) (hn : n ≤ 40) : Gr n (compl n E) := by
  refine ⟨hn, fun p hp => ?_, ?_⟩
  · obtain ⟨h1, h2, h3, _⟩ := mem_compl.mp hp
    exact ⟨h1, h2, h3⟩
  · unfold compl
    rw [List.pairwise_flatMap]
    refine ⟨fun a _ => ?_, upto_asc.imp fun {a b} h x hx y hy => ?_⟩
    · unfold nonA
      rw [List.pairwise_flatMap]
      refine ⟨fun b _ => by split <;> simp, span_asc.imp fun {b c} h x hx y hy => ?_⟩
      split at hx
      · cases hx
      · split at hy
        · cases hy
        · rw [List.mem_singleton] at hx hy
          subst hx hy
          exact .inr ⟨rfl, h⟩
    · have h1 := (mem_nonA.mp hx).1
      have h2 := (mem_nonA.mp hy).1
      exact .inl (by omega)
theorem nonA_len (E : List (Int × Int)) (a : Int) : ∀ bs : List Int, (nonA E a bs).length ≤ bs.length
  | [] => by simp [nonA]
  | b :: bs => by
    have := nonA_len E a bs
    unfold nonA at *
    rw [List.flatMap_cons, List.length_append, List.length_cons]
    have : (if b ∈ adj E a then [] else [(a, b)]).length ≤ 1 := by split <;> simp
    omega
theorem cmp_1 {n : Nat} {E : List (Int × Int)} (a : Int) (h0 : 0 ≤ a) (h : a < n) (bs : List Int) (acc : List (Int × Int)) (hl : acc.length + bs.length ≤ 100000) :
    forL (gN 3) l1_Graph_complement (bs.map D.int) [.va (.val (grD n E)), .va (.ol (acc.map pairD)), .va (.val (.int a)), .un] = .nx [.va (.val (grD n E)), .va (.ol ((acc ++ nonA E a bs).map pairD)), .va (.val (.int a)), .un] := by
  have := forL_fold (g := gN 3) (b := l1_Graph_complement) D.int (fun s : List (Int × Int) => [.va (.val (grD n E)), .va (.ol (s.map pairD)), .va (.val (.int a)), .un]) (fun s b => s ++ if b ∈ adj E a then [] else [(a, b)])
    (fun as s => s.length + as.length ≤ 100000) (fun b as s hs => by
      simp only [List.length_cons] at hs
      have hs2 : s.length < sizeLine := sz_lt (by omega)
      unfold gb; rw [l1_Graph_complement_q]
      by_cases hb : b ∈ adj E a
      · simp [at_rows h0 h, hb]; omega
      · simp [at_rows h0 h, hb, hs2, pairD]; omega) bs acc hl
  rw [this.1, foldl_app]
  rfl
theorem cmp_2 {n : Nat} {E : List (Int × Int)} (hn : n ≤ 40) (as : List Int) (acc : List (Int × Int)) (ha : ∀ a ∈ as, 0 ≤ a ∧ a < n) (hl : acc.length + 40 * as.length ≤ 10000) :
    forL (gN 2) l2_Graph_complement (as.map D.int) [.va (.val (grD n E)), .va (.ol (acc.map pairD)), .un, .un] = .nx [.va (.val (grD n E)), .va (.ol ((acc ++ as.flatMap fun a => nonA E a (span (a + 1) ((n : Int) - (a + 1)).toNat)).map pairD)), .un, .un] := by
  have := forL_fold (g := gN 2) (b := l2_Graph_complement) D.int (fun s : List (Int × Int) => [.va (.val (grD n E)), .va (.ol (s.map pairD)), .un, .un]) (fun s a => s ++ nonA E a (span (a + 1) ((n : Int) - (a + 1)).toNat))
    (fun as s => (∀ a ∈ as, 0 ≤ a ∧ a < n) ∧ s.length + 40 * as.length ≤ 10000) (fun a as s ⟨hs1, hs⟩ => by
      simp only [List.length_cons] at hs
      obtain ⟨h0, h⟩ := hs1 a List.mem_cons_self
      have q1 : sm62 (a + 1) = true := sm62_of (by omega) (by omega)
      have q2 : sm62 (n : Int) = true := sm62_nat (by omega)
      have e := cmp_1 (E := E) a h0 h (span (a + 1) ((n : Int) - (a + 1)).toNat) s (by simp; omega)
      have l1 := nonA_len E a (span (a + 1) ((n : Int) - (a + 1)).toNat)
      rw [span_len] at l1
      rw [← rngA] at e
      unfold gb; rw [l2_Graph_complement_q]
      refine ⟨by simp [q1, q2, e], fun b hb => hs1 b (List.mem_cons_of_mem _ hb), by rw [List.length_append]; omega⟩) as acc ⟨ha, hl⟩
  rw [this.1, foldl_app]
@[simp] theorem complement_ev {n : Nat} {E : List (Int × Int)} (hn : n ≤ 40) : hd (m_Graph_complement [.val (grD n E)]) = .ok (grO n (compl n E) (.val (.lst (rowsD n (compl n E))))) := by
  have e := cmp_2 (E := E) hn (upto n) [] (fun a ha => by have := mem_upto.mp ha; omega) (by simp; omega)
  rw [← rng0] at e
  simp only [List.map_nil, List.nil_append] at e
  have q2 : sm62 (n : Int) = true := sm62_nat (by omega)
  have hc : ((upto n).flatMap fun a => nonA E a (span (a + 1) ((n : Int) - (a + 1)).toNat)) = compl n E := rfl
  rw [hc] at e
  rw [mq_Graph_complement, hd_run]
  simp [b_Graph_complement, q2, e, ini_ev (compl_gr E hn)]
end CM
set_option maxRecDepth 100000
set_option maxHeartbeats 4000000
/-! M5: node lists; rows are ascending -/
namespace CM
open PySem L2 VL
theorem risB_iff {n : Int} : ∀ {ds : List D} {l : Int}, risB n l ds = true ↔ ∃ ns : List Int, ds = ns.map D.int ∧ (l :: ns).Pairwise (· < ·) ∧ ∀ i ∈ ns, 0 ≤ i ∧ i < n
  | [], l => ⟨fun _ => ⟨[], rfl, by simp, by simp⟩, fun _ => rfl⟩
  | d :: ds, l => by
    cases d with
    | int i =>
      unfold risB
      rw [Bool.and_eq_true, Bool.and_eq_true, Bool.and_eq_true, decide_eq_true_eq, decide_eq_true_eq, decide_eq_true_eq, risB_iff]
      constructor
      · rintro ⟨⟨⟨h1, h2⟩, h3⟩, ns, rfl, h4, h5⟩
        refine ⟨i :: ns, rfl, ?_, fun j hj => ?_⟩
        · refine List.pairwise_cons.mpr ⟨fun j hj => ?_, h4⟩
          rcases List.mem_cons.mp hj with rfl | hj
          · exact h3
          · exact Int.lt_trans h3 (List.rel_of_pairwise_cons h4 hj)
        · rcases List.mem_cons.mp hj with rfl | hj
          · exact ⟨h1, h2⟩
          · exact h5 j hj
      · rintro ⟨ns, e, h4, h5⟩
        cases ns with
        | nil => cases e
        | cons j ns =>
          cases e
          obtain ⟨q1, q2⟩ := h5 i List.mem_cons_self
          exact ⟨⟨⟨q1, q2⟩, List.rel_of_pairwise_cons h4 List.mem_cons_self⟩, ns, rfl, List.Pairwise.of_cons h4, fun k hk => h5 k (List.mem_cons_of_mem _ hk)⟩
    | _ => exact ⟨fun h => (by cases h), fun ⟨ns, e, _⟩ => (by cases ns <;> cases e)⟩
/-- a node list -/
def Nl (n : Nat) (ns : List Int) : Prop := ns.Pairwise (· < ·) ∧ ∀ i ∈ ns, 0 ≤ i ∧ i < (n : Int)
theorem risD_iff {n : Nat} {v : D} : risD n v = true ↔ ∃ ns : List Int, v = .lst (ns.map D.int) ∧ Nl n ns := by
  cases v with
  | lst ds =>
    show risB n (-1) ds = true ↔ _
    rw [risB_iff]
    constructor
    · rintro ⟨ns, rfl, h1, h2⟩
      exact ⟨ns, rfl, List.Pairwise.of_cons h1, h2⟩
    · rintro ⟨ns, e, h1, h2⟩
      cases e
      exact ⟨ns, rfl, List.pairwise_cons.mpr ⟨fun i hi => by have := (h2 i hi).1; omega, h1⟩, h2⟩
  | _ => exact ⟨fun h => (by cases h), fun ⟨ns, e, _⟩ => (by cases e)⟩
theorem risD_nl {n : Nat} {ns : List Int} (h : Nl n ns) : risD n (.lst (ns.map D.int)) = true := risD_iff.mpr ⟨ns, rfl, h⟩
theorem asc_nodup {l : List Int} (h : l.Pairwise (· < ·)) : l.Nodup := h.imp fun {a b} h e => by omega
theorem Nl.nodup {n : Nat} {ns : List Int} (h : Nl n ns) : ns.Nodup := asc_nodup h.1
theorem Nl.len {n : Nat} {ns : List Int} (h : Nl n ns) : ns.length ≤ n := by
  have := nodup_len ns (upto n) h.nodup fun i hi => mem_upto.mpr (h.2 i hi)
  rwa [upto_len] at this
theorem pl1_ints (ns : List Int) : pl1 (.lst (ns.map D.int)) = true := by
  show (ns.map D.int).all plD = true
  rw [List.all_eq_true]
  intro d hd
  obtain ⟨i, _, rfl⟩ := List.mem_map.mp hd
  rfl
/-! ### rows -/
theorem rows_nodup {n : Nat} {E : List (Int × Int)} (g : Gr n E) (i : Int) : (rows E i).Nodup := by
  unfold rows List.Nodup
  rw [List.pairwise_flatMap]
  constructor
  · intro p hp
    have := (g.ok p hp).2.1
    by_cases h1 : p.1 = i
    · have h2 : ¬ p.2 = i := by omega
      simp [h1, h2]
    · by_cases h2 : p.2 = i <;> simp [h1, h2]
  · refine List.Pairwise.imp_of_mem (fun {p q} hp hq h x hx y hy e => h ?_) g.nodup
    subst e
    have h1 := (g.ok p hp).2.1
    have h2 := (g.ok q hq).2.1
    have key : ∀ r : Int × Int, x ∈ (if r.1 = i then [r.2] else []) ++ (if r.2 = i then [r.1] else []) → (r.1 = i ∧ x = r.2) ∨ (r.2 = i ∧ x = r.1) := fun r hr => by
      by_cases c1 : r.1 = i <;> by_cases c2 : r.2 = i <;> simp [c1, c2] at hr <;> omega
    rcases key p hx with a | a <;> rcases key q hy with b | b
    · exact Prod.ext (by omega) (by omega)
    · omega
    · omega
    · exact Prod.ext (by omega) (by omega)
theorem adj_asc {n : Nat} {E : List (Int × Int)} (g : Gr n E) (i : Int) : (adj E i).Pairwise (· < ·) := by
  have h1 : (adj E i).Nodup := (srtI_perm _).nodup_iff.mpr (rows_nodup g i)
  have h2 : (adj E i).Pairwise (· ≤ ·) := srtI_pw _
  exact (h2.and h1).imp fun {a b} ⟨h, h3⟩ => by omega
theorem adj_bd {n : Nat} {E : List (Int × Int)} (g : Gr n E) {i j : Int} (h : j ∈ adj E i) : 0 ≤ j ∧ j < n ∧ 0 ≤ i ∧ i < n ∧ i ≠ j := by
  rcases mem_adj.mp h with h | h
  · have := g.ok _ h
    simp at this
    omega
  · have := g.ok _ h
    simp at this
    omega
theorem adj_symm {E : List (Int × Int)} {i j : Int} : j ∈ adj E i ↔ i ∈ adj E j := by
  rw [mem_adj, mem_adj]
  exact Or.comm
theorem adj_nl {n : Nat} {E : List (Int × Int)} (g : Gr n E) (i : Int) : Nl n (adj E i) := ⟨adj_asc g i, fun j h => by have := adj_bd g h; omega⟩
theorem edge_adj {n : Nat} {E : List (Int × Int)} (g : Gr n E) {a b : Int} (h : a < b) : b ∈ adj E a ↔ (a, b) ∈ E := by
  rw [mem_adj]
  constructor
  · rintro (h1 | h1)
    · exact h1
    · have := (g.ok _ h1).2.1
      simp at this
      omega
  · exact .inl
theorem adj_compl {n : Nat} {E : List (Int × Int)} (g : Gr n E) {a b : Int} (ha : 0 ≤ a ∧ a < n) (hb : 0 ≤ b ∧ b < n) (hab : a ≠ b) : b ∈ adj (compl n E) a ↔ b ∉ adj E a := by
  rw [mem_adj, mem_compl, mem_compl]
  dsimp only
  constructor
  · rintro (⟨_, _, _, h⟩ | ⟨_, _, _, h⟩)
    · exact h
    · exact fun z => h (adj_symm.mp z)
  · intro h
    rcases Int.lt_or_gt_of_ne hab with q | q
    · exact .inl ⟨ha.1, q, hb.2, h⟩
    · exact .inr ⟨hb.1, q, ha.2, fun z => h (adj_symm.mp z)⟩
/-! ### a comprehension over ints that filters -/
theorem filterMap_if {α β : Type} (p : α → Bool) (f : α → β) (l : List α) : l.filterMap (fun a => if p a then some (f a) else none) = (l.filter p).map f := by
  induction l with
  | nil => rfl
  | cons a l ih =>
    by_cases h : p a = true
    · rw [List.filterMap_cons_some (b := f a) (by simp [h]), List.filter_cons_of_pos h, List.map_cons, ih]
    · rw [List.filterMap_cons_none (by simp [h]), List.filter_cons_of_neg h, ih]
theorem lcL_filter {α : Type} {vs : List Nat} {g : D → VS → QR VS} {t : TX} {x : VX} (eA : α → D) (σ : VS) (p : α → Bool) (f : α → D) (as : List α) (hl : as.length ≤ 1000000)
    (h : ∀ a ∈ as, lcE vs g t x (eA a) σ = .ok (if p a then some (.val (f a)) else none) σ) : lcL vs g t x (as.map eA) σ [] = .ok ((as.filter p).map f) σ := by
  have := lcL_map (vs := vs) (g := g) (t := t) (x := x) eA σ (fun a => if p a then some (f a) else none) as [] (by simpa using hl) fun a ha => by
    rw [h a ha]
    by_cases c : p a = true
    · simp [c]
    · simp [c]
  rw [this, filterMap_if, List.nil_append]
end CM
set_option maxRecDepth 100000
set_option maxHeartbeats 4000000
/-! EV3: the later statements worked out -/
namespace VL
open PySem L2
section
variable {σ : VS} {x y z : VX} {a : AX} {b c : VB} {t u : TX} {i j : Nat} {o : O} {d : D} {e : Str}
@[simp] theorem ev_ixEnum : ixEnum x σ = match x.f σ with
  | .ok (.val (.lst ds)) σ1 => .ok (enuD ds) σ1
  | .ok (.val (.rd ds)) σ1 => .ok (enuD ds) σ1
  | .ok _ _ => .bad
  | .err c σ1 => .err c σ1
  | .bad => .bad := (rfl)
@[simp] theorem ev_ixZip : ixZip a σ = match a.f σ with
  | .ok [o, o2] σ1 => (match lsO o, lsO o2 with
    | some ds, some es => .ok (zipD ds es) σ1
    | _, _ => .bad)
  | .ok _ _ => .bad
  | .err c σ1 => .err c σ1
  | .bad => .bad := (rfl)
@[simp] theorem ev_lsO {ds : List D} : lsO (.val (.lst ds)) = some ds := (rfl)
@[simp] theorem ev_aNameq : (aName i a).q = false := (rfl)
@[simp] theorem ev_aName : (aName i a).f σ = match σ[i]?.bind SV.get with
  | some _ => (match a.f σ with
    | .ok os σ1 => (match σ1[i]?.bind SV.get with
      | some o => .ok (o :: os) σ1
      | none => .bad)
    | .err c σ1 => .err c σ1
    | .bad => .bad)
  | none => .bad := (rfl)
theorem ev_insert {ds : List D} {k : Int} : mInsert (.ol ds) [.val (.int k), .val d] = if (decide (ds.length < sizeLine) && (decide (0 ≤ k) && bnd 9223372036854775807 k)) = true then .ok (.ol (ds.take k.toNat ++ [d] ++ ds.drop k.toNat), .val .non) else .bad := (rfl)
@[simp] theorem ev_sErr : sErr e σ = .err e σ := (rfl)
@[simp] theorem ev_noErr_rt : noErr (.rt o σ) = .rt o σ := (rfl)
@[simp] theorem ev_noErr_nx : noErr (.nx σ) = .nx σ := (rfl)
@[simp] theorem ev_noErr_bk : noErr (.bk σ) = .bk σ := (rfl)
@[simp] theorem ev_noErr_ct : noErr (.ct σ) = .ct σ := (rfl)
theorem ev_try {tbl : List (Str × Bool)} {s : Str → VB} : sTry tbl b s σ = match b σ with
  | .err c σ1 => (match tbl.lookup c with
    | some true => noErr (s c σ1)
    | some false => .err c σ1
    | none => .bad)
  | r => r := (rfl)
@[simp] theorem ev_newD : fNewD [] = .ok (.od (.k []) []) := (rfl)
@[simp] theorem ev_frz_od {ks : DKs} {ds : List D} : frz (.od ks ds) = .dic ks ds := by unfold frz; rfl
@[simp] theorem ev_tupF {ds : List D} : fTuple [.ol ds] = .ok (.val (.tup ds)) := (rfl)
@[simp] theorem ev_tru_dic {ks : DKs} {ds : List D} : tru (.val (.dic ks ds)) = tru (.val (.dic ks ds)) := (rfl)
theorem ev_aug {C : Int → Int → Bool} {g : Int → Int → Int} : sAug i C g x σ = match σ[i]?.bind SV.get with
  | some (.val (.int m)) => (match x.f σ with
    | .ok (.val (.int n)) σ1 => if C m n = true then nxQ (setv i (.val (.int (g m n))) σ1) else .bad
    | .ok _ _ => .bad
    | .err c σ1 => .err c σ1
    | .bad => .bad)
  | _ => .bad := (rfl)
theorem ev_augL {l : LX} {C : Int → Int → Bool} {g : Int → Int → Int} : sAugL l y C g x σ = match l σ with
  | .ok lv => if (y.q && x.q) = true then (match y.f σ with
    | .ok (.val (.int k)) _ => (match lv.o with
      | .ol ds => (match L2.atI ds k, L2.ixN ds.length k with
        | some (.int m), some j => (match x.f σ with
          | .ok (.val (.int n)) _ => if C m n = true then .nx (lv.put (.ol (ds.set j (.int (g m n))))) else .bad
          | _ => .bad)
        | _, _ => .bad)
      | _ => .bad)
    | _ => .bad) else .bad
  | .bad => .bad := (rfl)
@[simp] theorem ev_par : sPar i j a σ = match a.f σ with
  | .ok [.val d, .val e] σ1 => (match setv i (.val d) σ1 with
    | .ok σ2 => nxQ (setv j (.val e) σ2)
    | .bad => .bad)
  | .ok _ _ => .bad
  | .err c σ1 => .err c σ1
  | .bad => .bad := (rfl)
end
@[simp] theorem ev_inI0 {neg : Bool} {i : Int} : fIn neg [.val (.int i), .val (.lst [])] = .ok (.val (.bl (ngB neg false))) := by
  have := ev_inI (neg := neg) (i := i) (ns := [])
  simpa using this
theorem shp_ol {ds : List D} : shp (.ol ds) = shp (.val (.lst ds)) := by
  unfold shp pyO
  unfold pyD
  rfl
@[simp] theorem ev_inO {neg : Bool} {i : Int} {ns : List Int} : fIn neg [.val (.int i), .ol (ns.map D.int)] = .ok (.val (.bl (ngB neg (decide (i ∈ ns))))) := by
  rw [← ev_inI]
  show (match shp (.val (.int i)), shp (.ol (ns.map D.int)) with
    | some x, some (.list ys) => QR.ok (O.val (.bl (ngB neg (ys.any fun z => PyData.eqv z x))))
    | _, _ => .bad) = _
  rw [shp_ol]
  rfl
theorem ev_sortO {ns : List Int} : fSortF [.ol (ns.map D.int)] = .ok (.ol ((srtI ns).map D.int)) := by
  show (match intsD (ns.map D.int) with
    | some ns => QR.ok (O.ol ((srtI ns).map D.int))
    | none => _) = _
  rw [intsD_map]
/-! a block, step by step, each step with its own choice of what comes next -/
theorem seqP {b c : VB} {σ : VS} {G : BR → Prop} (P : VS → Prop) (h1 : ∃ σ1, b σ = .nx σ1 ∧ P σ1) (h2 : ∀ σ1, P σ1 → G (c σ1)) : G (sSeq b c σ) := by
  obtain ⟨σ1, e, p⟩ := h1
  rw [ev_seq, e]
  exact h2 σ1 p
def TdOk {κ : Type} (is : List Nat) (S : κ → VS) (r : BR) : Prop := ∃ k σ1, r = .nx σ1 ∧ gFg is σ1 = .ok (S k)
theorem tidyP {κ : Type} {S : κ → VS} {is : List Nat} {b : VB} {σ : VS} (h : TdOk is S (b σ)) : ∃ k, sTidy is b σ = .nx (S k) := by
  obtain ⟨k, σ1, e, h⟩ := h
  exact ⟨k, by rw [ev_tidy, e]; dsimp only; rw [h]⟩
theorem ev_addO {ds es : List D} (h : ds.length + es.length ≤ sizeLine) : fAdd [.ol ds, .val (.lst es)] = .ok (.val (.lst (ds ++ es))) := by
  show frzR (if ds.length + es.length ≤ sizeLine then _ else _) = _
  rw [if_pos h]; simp [frzR]
theorem ev_cat {ds es : List D} (h : ds.length + es.length ≤ sizeLine) : fCat2 [.val (.lst ds), .val (.lst es)] = .ok (.ol (ds ++ es)) := by
  show (if ds.length + es.length ≤ sizeLine then QR.ok (O.ol (ds ++ es)) else .bad) = _
  rw [if_pos h]
theorem ev_catO {ds es : List D} (h : ds.length + es.length ≤ sizeLine) : fCat2 [.ol ds, .val (.lst es)] = .ok (.ol (ds ++ es)) := by
  show (if ds.length + es.length ≤ sizeLine then QR.ok (O.ol (ds ++ es)) else .bad) = _
  rw [if_pos h]
theorem ev_sumL {ns : List Int} : fSum [.val (.lst (ns.map D.int))] = .ok (.val (.int ns.sum)) := by
  show (match intsD (ns.map D.int) with
    | some ns => QR.ok (O.val (.int ns.sum))
    | none => .bad) = _
  rw [intsD_map]
@[simp] theorem ev_listO {ds : List D} : fListF [.ol ds] = .ok (.ol ds) := (rfl)
theorem ev_setNq {σ : VS} {x y : VX} {i : Nat} {μ : O → D → D → QR O} : sSetN i y x μ σ = match x.f σ with
  | .ok (.val d) σ1 => (match lN i σ1 with
    | .ok _ => (match y.f σ1 with
      | .ok (.val di) σ2 => (match lN i σ2 with
        | .ok lv => (match μ lv.o di d with
          | .ok z => .nx (lv.put z)
          | .bad => .bad)
        | .bad => .bad)
      | .ok _ _ => .bad
      | .err c σ2 => .err c σ2
      | .bad => .bad)
    | .bad => .bad)
  | .ok _ _ => .bad
  | .err c σ1 => .err c σ1
  | .bad => .bad := (rfl)
@[simp] theorem sz_6 : 6 ≤ sizeLine := by decide
@[simp] theorem sz_7 : 7 ≤ sizeLine := by decide
@[simp] theorem sz_8 : 8 ≤ sizeLine := by decide
@[simp] theorem sz_9 : 9 ≤ sizeLine := by decide
@[simp] theorem sz_10 : 10 ≤ sizeLine := by decide
theorem ev_tryAs {tbl : List (Str × Bool)} {i : Nat} {b : VB} {s : Str → VB} {σ : VS} : sTryAs tbl i b s σ = match b σ with
  | .err c σ1 => (match tbl.lookup c with
    | some true => endU i (unS i (s c) σ1)
    | some false => .err c σ1
    | none => .bad)
  | r => r := (rfl)
theorem enuD_eq {ds : List D} : enuD ds = ds.zipIdx.map fun p => D.tup [.int (p.2 : Nat), p.1] := (rfl)
theorem at_neg1 {α : Type} {l : List α} (h : l ≠ []) : L2.atI l (-1) = l[l.length - 1]? := by
  have hp : 0 < l.length := List.length_pos_iff.mpr h
  unfold L2.atI L2.ixN
  rw [if_neg (by omega), if_pos (by omega)]
  show l[((l.length : Int) + (-1)).toNat]? = _
  rw [show ((l.length : Int) + (-1)).toNat = l.length - 1 by omega]
/-- a loop whose steps are told by a relation -/
theorem sWhile_rel {τ : Type} {t : TX} {b : VB} (eS : τ → VS) (I Dn : τ → Prop) (m : τ → Nat)
    (h : ∀ s, I s → (t.f (eS s) = .ok false (eS s) ∧ Dn s) ∨ (∃ σ1 s', t.f (eS s) = .ok true σ1 ∧ toNx (b σ1) = .nx (eS s') ∧ I s' ∧ m s' < m s)) :
    ∀ (k : Nat) (s : τ), m s = k → I s → ∃ s', sWhile t b (eS s) = .nx (eS s') ∧ I s' ∧ Dn s' := by
  intro k
  induction k using Nat.strongRecOn with
  | _ k ih =>
    intro s hm hs
    rw [sWhile_eq]
    rcases h s hs with ⟨e, hd⟩ | ⟨σ1, s', e1, e2, i2, lt⟩
    · rw [e]
      exact ⟨s, rfl, hs, hd⟩
    · rw [e1]
      dsimp only [if_true]
      obtain ⟨s2, q1, q2, q3⟩ := ih (m s') (by omega) s' rfl i2
      cases hb : b σ1 with
      | nx σ2 => rw [hb] at e2; cases e2; exact ⟨s2, q1, q2, q3⟩
      | ct σ2 => rw [hb] at e2; cases e2; exact ⟨s2, q1, q2, q3⟩
      | _ => rw [hb] at e2; cases e2
end VL
set_option maxRecDepth 100000
set_option maxHeartbeats 4000000
/-! MTS: texts as lists of signs: numbers, words, graphs written -/
namespace TS
open PySem L2 VL SX TL
theorem S_lit (s : Str) : s = S s.cps.toList := (S_tl s).symm
theorem e_empty : Str.empty = S [] := rfl
theorem c_semi : (";" : Str) = S [59] := rfl
theorem c_blank : (" " : Str) = S [32] := rfl
theorem c_dash : ("-" : Str) = S [45] := rfl
theorem c_none : ("" : Str) = S [] := rfl
theorem to_num (n : Nat) : ((toString ((n : Nat) : Int) : String) : Str) = S (numL n) := num_S n
/-! ### operations -/
theorem ev_strI {n : Nat} (h : n ≤ 1000) : fStrI [.val (.int (n : Int))] = .ok (.val (.str (S (numL n)))) := by
  have hb : (n : Int).natAbs.log2 < 1920 := by
    have e : (n : Int).natAbs = n := Int.natAbs_natCast n
    rw [e]
    have h1 : n.log2 ≤ n := Nat.log2_le_self n
    omega
  show (if (n : Int).natAbs.log2 < 1920 then QR.ok (O.val (D.str ((toString ((n : Nat) : Int) : String) : Str))) else .bad) = _
  rw [if_pos hb, to_num]
theorem nat_log {n : Nat} (h : n ≤ 1000) : (n : Int).natAbs.log2 < 1920 := by
  have e : (n : Int).natAbs = n := Int.natAbs_natCast n
  rw [e]
  have h1 : n.log2 ≤ n := Nat.log2_le_self n
  omega
theorem ev_lenS {w : List Nat} (h : w.length ≤ 100000) : fLen [.val (.str (S w))] = .ok (.val (.int (w.length : Int))) := by
  have hl : (S w).length ≤ sizeLine := by rw [S_len]; exact sz_of (by omega)
  show (if (S w).length ≤ sizeLine then QR.ok (O.val (D.int (((S w).length : Nat) : Int))) else .bad) = _
  rw [if_pos hl, S_len]
theorem ev_catS {a b : List Nat} (h : a.length + b.length ≤ 100000) : fAdd [.val (.str (S a)), .val (.str (S b))] = .ok (.val (.str (S (a ++ b)))) := by
  have hl : (S a).length + (S b).length ≤ sizeLine := by rw [S_len, S_len]; exact sz_of (by omega)
  show (if (S a).length + (S b).length ≤ sizeLine then QR.ok (O.val (D.str (S a ++ S b))) else .bad) = _
  rw [if_pos hl, S_cat]
theorem ev_ixS {a : Nat} {r : List Nat} (h : (a :: r).length ≤ 100000) : fIx [.val (.str (S (a :: r))), .val (.int 0)] = .ok (.val (sgD a)) := by
  have hl : (S (a :: r)).length ≤ sizeLine := by rw [S_len]; exact sz_of (by omega)
  show (if (S (a :: r)).length ≤ sizeLine then (match L2.atI (S (a :: r)).cps.toList 0 with
          | some c => QR.ok (O.val (.str ⟨#[c]⟩))
          | none => .bad) else .bad) = _
  rw [if_pos hl]
  have e : L2.atI (S (a :: r)).cps.toList 0 = some a := by
    show L2.atI (a :: r) 0 = some a
    unfold L2.atI
    have : L2.ixN (a :: r).length 0 = some 0 := by simp [L2.ixN, seqIndex?]
    rw [this]; rfl
  rw [e]; rfl
def dig (c : Nat) : Bool := decide (48 ≤ c) && decide (c ≤ 57)
theorem dig_mem (c : Nat) : c ∈ ("0123456789" : Str).cps.toList ↔ dig c = true := by
  have e : ("0123456789" : Str).cps.toList = [48, 49, 50, 51, 52, 53, 54, 55, 56, 57] := by decide +kernel
  rw [e]
  unfold dig
  rw [Bool.and_eq_true, decide_eq_true_eq, decide_eq_true_eq]
  simp only [List.mem_cons, List.not_mem_nil, or_false]
  omega
theorem ev_inDig {c : Nat} : fIn true [.val (sgD c), .val (.str "0123456789")] = .ok (.val (.bl (!dig c))) := by
  have e : decide (c ∈ ("0123456789" : Str).cps.toList) = dig c := by
    cases h : dig c with
    | true => exact decide_eq_true ((dig_mem c).mpr h)
    | false => exact decide_eq_false fun z => by rw [(dig_mem c).mp z] at h; cases h
  show QR.ok (O.val (D.bl (ngB true (decide (c ∈ ("0123456789" : Str).cps.toList))))) = _
  rw [e]; rfl
theorem ev_eqZero {g : Bool → Bool} {c : Nat} : fEqS g [.val (sgD c), .val (.str "0")] = .ok (.val (.bl (g (decide (c = 48))))) := by
  have e : decide ((⟨#[c]⟩ : Str) = ("0" : Str)) = decide (c = 48) := by
    have z : ("0" : Str) = S [48] := rfl
    by_cases h : c = 48
    · subst h; rfl
    · rw [decide_eq_false h, decide_eq_false]
      intro q
      rw [z] at q
      have := S_inj (a := [c]) (b := [48]) q
      exact h (List.cons.inj this).1
  show QR.ok (O.val (D.bl (g (decide ((⟨#[c]⟩ : Str) = ("0" : Str)))))) = _
  rw [e]
theorem ev_intT {w : List Nat} (h : w.all dig = true) (hne : w ≠ []) (hl : w.length ≤ 100) : fIntT [.val (.str (S w))] = .ok (.val (.int ((NumText.digitsVal w : Nat) : Int))) := by
  have h1 : (S w).length ≤ 640 := by rw [S_len]; omega
  show (if (S w).length ≤ 640 then (match PySem.intText? (S w) with
    | some n => QR.ok (O.val (D.int n))
    | none => .bad) else .bad) = _
  rw [if_pos h1, int_S h hne (by omega)]
/-! ### number words -/
def numW : List Nat → Option Nat
  | [a] => if dig a = true then some (a - 48) else none
  | [a, b] => if dig a = true ∧ dig b = true ∧ a ≠ 48 then some (10 * (a - 48) + (b - 48)) else none
  | _ => none
theorem numW_num {n : Nat} (h : n < 100) : numW (numL n) = some n := by
  by_cases h1 : n < 10
  · rw [numL_lt h1]
    have : dig (48 + n) = true := by unfold dig; simp; omega
    show (if dig (48 + n) = true then some (48 + n - 48) else none) = _
    rw [if_pos this]
    congr 1; omega
  · rw [numL_step (by omega), numL_lt (by omega)]
    have d1 : dig (48 + n / 10) = true := by unfold dig; simp; omega
    have d2 : dig (48 + n % 10) = true := by unfold dig; simp; omega
    show (if dig (48 + n / 10) = true ∧ dig (48 + n % 10) = true ∧ 48 + n / 10 ≠ 48 then some (10 * (48 + n / 10 - 48) + (48 + n % 10 - 48)) else none) = _
    rw [if_pos ⟨d1, d2, by omega⟩]
    congr 1; omega
theorem numL_l2 {n : Nat} (h : n < 100) : (numL n).length ≤ 2 := numL_len (by decide) h
/-! ### words, texts -/
def wrd (p : Int × Int) : List Nat := numL p.1.toNat ++ 45 :: numL p.2.toNat
def fmt (n : Nat) (E : List (Int × Int)) : List Nat := joinL [32] ((numL n ++ [59]) :: E.map wrd)
theorem fmt_eq (n : Nat) : ∀ E : List (Int × Int), fmt n E = numL n ++ 59 :: (E.map fun p => 32 :: wrd p).flatten
  | [] => by
    show numL n ++ [59] = _
    simp
  | p :: E => by
    have key : ∀ (E : List (Int × Int)) (w : List Nat), joinL [32] (w :: E.map wrd) = w ++ (E.map fun p => 32 :: wrd p).flatten := by
      intro E
      induction E with
      | nil => intro w; show w = _; simp
      | cons q E ih =>
        intro w
        show w ++ ([32] ++ joinL [32] (wrd q :: E.map wrd)) = _
        rw [ih]
        simp
    unfold fmt
    rw [key]
    simp
theorem wrd_len {p : Int × Int} (h1 : p.1.toNat < 100) (h2 : p.2.toNat < 100) : (wrd p).length ≤ 5 := by
  have a := numL_l2 h1
  have b := numL_l2 h2
  unfold wrd
  simp
  omega
theorem flat_len : ∀ (E : List (Int × Int)), (∀ p ∈ E, p.1.toNat < 100 ∧ p.2.toNat < 100) → (E.map fun p => 32 :: wrd p).flatten.length ≤ 6 * E.length
  | [], _ => by simp
  | p :: E, h => by
    have h1 := h p List.mem_cons_self
    have h2 := flat_len E fun q hq => h q (List.mem_cons_of_mem _ hq)
    have h3 := wrd_len h1.1 h1.2
    rw [List.map_cons, List.flatten_cons, List.length_append, List.length_cons, List.length_cons]
    omega
theorem fmt_len {n : Nat} {E : List (Int × Int)} (hn : n < 100) (h : ∀ p ∈ E, p.1.toNat < 100 ∧ p.2.toNat < 100) : (fmt n E).length ≤ 3 + 6 * E.length := by
  have h1 := flat_len E h
  have h2 := numL_l2 hn
  rw [fmt_eq, List.length_append, List.length_cons]
  omega
/-- the signs of written graphs -/
theorem wrd_no {p : Int × Int} {c : Nat} (h : c < 48 ∨ 57 < c) (h2 : c ≠ 45) : c ∉ wrd p := by
  unfold wrd
  rw [List.mem_append, List.mem_cons, not_or, not_or]
  exact ⟨numL_free h, h2, numL_free h⟩
theorem small {w : List Nat} (h : ∀ c ∈ w, c < 1114112) : PyData.strOk (S w) = true := by
  unfold PyData.strOk
  rw [← Array.all_toList]
  exact List.all_eq_true.mpr fun c hc => decide_eq_true (h c hc)
theorem wrd_small {p : Int × Int} : ∀ c ∈ wrd p, c < 1114112 := fun c hc => by
  unfold wrd at hc
  rcases List.mem_append.mp hc with h | h
  · have := numL_digits _ c h; omega
  · rcases List.mem_cons.mp h with rfl | h
    · decide
    · have := numL_digits _ c h; omega
theorem fmt_small {n : Nat} {E : List (Int × Int)} : ∀ c ∈ fmt n E, c < 1114112 := fun c hc => by
  rw [fmt_eq] at hc
  rcases List.mem_append.mp hc with h | h
  · have := numL_digits _ c h; omega
  · rcases List.mem_cons.mp h with rfl | h
    · decide
    · obtain ⟨w, hw, hc⟩ := List.mem_flatten.mp h
      obtain ⟨p, _, rfl⟩ := List.mem_map.mp hw
      rcases List.mem_cons.mp hc with rfl | hc
      · decide
      · exact wrd_small c hc
theorem ev_splitS {a b : List Nat} (hb : b ≠ []) (hk : b.all (· < 256) = true) (h : a.length ≤ 100000) : fSplit (S a) (.val (.str (S b))) = .ok (.ol ((TL.spl b 0 [] a).map fun w => D.str (S w))) := by
  have h1 : ((S b).length == 0) = false := by
    rw [S_len]
    cases b with
    | nil => exact (hb rfl).elim
    | cons x b => rfl
  have h2 : (S a).length + 2 ≤ sizeLine := by rw [S_len]; exact sz_of (by omega)
  show (if ((S b).length == 0) = false ∧ (S a).length + 2 ≤ sizeLine then QR.ok (O.ol ((Txt.split (S a) (S b)).map D.str)) else .bad) = _
  rw [if_pos ⟨h1, h2⟩, split_S hb hk, List.map_map]
  rfl
theorem lens_le : ∀ (L : List (List Nat)), ((L.map S).map (·.length)).sum = L.flatten.length
  | [] => rfl
  | w :: L => by
    rw [List.map_cons, List.map_cons, List.sum_cons, lens_le L, List.flatten_cons, List.length_append, S_len]
theorem ev_joinS {a : List Nat} {L : List (List Nat)} (h : L.flatten.length + L.length * a.length ≤ 1000000) : fJoin (S a) (.val (.lst (L.map fun w => D.str (S w)))) = .ok (.val (.str (S (joinL a L)))) := by
  have e : (sqO (.val (.lst (L.map fun w => D.str (S w))))).bind strsD = some (L.map S) := by
    show strsD (L.map fun w => D.str (S w)) = _
    have := strsD_map (L.map S)
    rw [List.map_map] at this
    exact this
  unfold fJoin
  rw [e]
  dsimp only
  have hz : ((L.map S).map (·.length)).sum + (L.map S).length * (S a).length ≤ 16777216 := by
    rw [lens_le, List.length_map, S_len]; omega
  rw [if_pos hz, join_S]
theorem sIx_m1 (n d : Nat) : HT.sIx n d (some (-1)) = n - 1 := by
  unfold HT.sIx
  simp
  omega
theorem slice_last (w : List Nat) : Txt.slice (S w) (some (-1)) none = S (w.drop (w.length - 1)) := by
  rw [← C8.cutS_slice]
  have hl : (S w).length = w.length := S_len w
  unfold cutS
  rw [hl, sIx_m1, HT.sIx_none]
  show S ((w.drop (w.length - 1)).take (w.length - (w.length - 1))) = _
  rw [List.take_of_length_le (by simp)]
theorem slice_init (w : List Nat) : Txt.slice (S w) none (some (-1)) = S (w.take (w.length - 1)) := by
  rw [← C8.cutS_slice]
  have hl : (S w).length = w.length := S_len w
  unfold cutS
  rw [hl, sIx_m1, HT.sIx_none]
  show S ((w.drop 0).take (w.length - 1 - 0)) = _
  simp
theorem flat_len2 : ∀ (E : List (Int × Int)), (∀ p ∈ E, p.1.toNat < 100 ∧ p.2.toNat < 100) → (E.map wrd).flatten.length ≤ 5 * E.length
  | [], _ => by simp
  | p :: E, h => by
    have h1 := h p List.mem_cons_self
    have h2 := flat_len2 E fun q hq => h q (List.mem_cons_of_mem _ hq)
    have h3 := wrd_len h1.1 h1.2
    rw [List.map_cons, List.flatten_cons, List.length_append, List.length_cons]
    omega
theorem of_num (n : Nat) : Str.ofString ((n : Int).repr) = S (numL n) := num_S n
theorem log_n {n : Nat} (h : n ≤ 1000) : n.log2 < 1920 := by
  have h1 : n.log2 ≤ n := Nat.log2_le_self n
  omega
theorem joinL_nil : ∀ L : List (List Nat), joinL [] L = L.flatten
  | [] => rfl
  | [w] => by show w = _; simp
  | w :: x :: L => by
    show w ++ ([] ++ joinL [] (x :: L)) = _
    rw [joinL_nil (x :: L)]
    simp
end TS
set_option maxRecDepth 100000
set_option maxHeartbeats 4000000
/-! M6: what the drawn graphs of both styles share -/
namespace CM
open PySem L2 VL
theorem at_ints {l : List Int} {i : Int} (h0 : 0 ≤ i) (h : i < l.length) : ∃ z, L2.atI (l.map D.int) i = some (.int z) := by
  obtain ⟨x, e, hx⟩ := at_int (l := l.map D.int) h0 (by simpa using h)
  obtain ⟨z, _, rfl⟩ := List.mem_map.mp hx
  exact ⟨z, e⟩
def oat (os : List Int) (i : Int) : Int := os.getD i.toNat 0
theorem oat_at {os : List Int} {i : Int} (h0 : 0 ≤ i) (h : i < os.length) : L2.atI (os.map D.int) i = some (.int (oat os i)) := by
  obtain ⟨k, rfl⟩ : ∃ k : Nat, i = k := ⟨i.toNat, by omega⟩
  rw [at_nat]
  unfold oat
  have hk : k < os.length := by omega
  simp [hk]
theorem oat_inj {os : List Int} (hd : os.Nodup) {i j : Int} (h0 : 0 ≤ i) (h : i < os.length) (h0' : 0 ≤ j) (h' : j < os.length) (e : oat os i = oat os j) : i = j := by
  obtain ⟨k, rfl⟩ : ∃ k : Nat, i = k := ⟨i.toNat, by omega⟩
  obtain ⟨l, rfl⟩ : ∃ l : Nat, j = l := ⟨j.toNat, by omega⟩
  unfold oat at e
  have hk : k < os.length := by omega
  have hl : l < os.length := by omega
  simp [hk, hl] at e
  have h2 := List.pairwise_iff_getElem.mp hd
  rcases Nat.lt_trichotomy k l with q | q | q
  · exact (h2 k l hk hl q e).elim
  · omega
  · exact (h2 l k hl hk q e.symm).elim
theorem oat_mem {os : List Int} {i : Int} (h0 : 0 ≤ i) (h : i < os.length) : oat os i ∈ os := by
  obtain ⟨k, rfl⟩ : ∃ k : Nat, i = k := ⟨i.toNat, by omega⟩
  unfold oat
  have hk : k < os.length := by omega
  simp [hk]
@[simp] theorem ev_min2 {i j : Int} : fMin2 [.val (.int i), .val (.int j)] = .ok (.val (.int (if j < i then j else i))) := (rfl)
@[simp] theorem ev_max2 {i j : Int} : fMax2 [.val (.int i), .val (.int j)] = .ok (.val (.int (if j > i then j else i))) := (rfl)
theorem ev_sortP {ps : List (Int × Int)} : fSortF [.val (.lst (ps.map pairD))] = .ok (.ol ((srtP ps).map pairD)) := by
  cases ps with
  | nil =>
    have h1 : srtP [] = [] := (srtP_perm []).eq_nil
    have h2 : srtI [] = [] := (srtI_perm []).eq_nil
    show QR.ok (O.ol ((srtI []).map D.int)) = _
    rw [h1, h2]; rfl
  | cons p ps =>
    show (match intsD ((p :: ps).map pairD) with
      | some ns => QR.ok (O.ol ((srtI ns).map D.int))
      | none => match pairsD ((p :: ps).map pairD) with
        | some ps => QR.ok (.ol ((srtP ps).map pairD))
        | none => .bad) = _
    rw [pairsD_map]
    rfl
theorem srtP_gr {n : Nat} {ps : List (Int × Int)} (hn : n ≤ 40) (hk : Ok n ps) (hd : ps.Nodup) : Gr n (srtP ps) := by
  refine ⟨hn, fun p hp => hk p ((srtP_perm ps).mem_iff.mp hp), ?_⟩
  have h1 : (srtP ps).Nodup := (srtP_perm ps).nodup_iff.mpr hd
  refine ((srtP_pw ps).and h1).imp fun {a b} ⟨h, h2⟩ => ?_
  have := leP_iff.mp h
  unfold ltP
  rcases this with h | ⟨h, h3⟩
  · exact .inl h
  · rcases Int.lt_or_eq_of_le h3 with h4 | h4
    · exact .inr ⟨h, h4⟩
    · exact (h2 (Prod.ext h h4)).elim
theorem ev_mulC {i j : Int} (h : bnd 18446744073709551615 i = true ∨ bnd 18446744073709551615 j = true) : fMul [.val (.int i), .val (.int j)] = .ok (.val (.int (i * j))) := ev_mul (by
  unfold CMul
  rcases h with h | h
  · have := bnd_iff.mp h; omega
  · have := bnd_iff.mp h; omega)
/-- edges near: the links as the law sees them -/
theorem eqP_ev {g : Bool → Bool} {p q : Int × Int} : fEq g [.val (pairD p), .val (pairD q)] = .ok (.val (.bl (g (decide (p = q))))) := ev_eq (α := Int × Int) (by decide) p q
end CM
set_option maxRecDepth 100000
set_option maxHeartbeats 4000000
/-! MA: drawn graphs, the first style -/
namespace CA
open PySem L2 VL CM
def Pok (n : Nat) (F : List (Int × Int)) : Prop := Ok n F
def qS (ns : List Int) (n kind : Int) (acc : List (Int × Int)) (v u : SV) (k : Nat) : VS := [.rf (dr ns k), .va (.val (.int n)), .va (.val (.int kind)), .va (.ol (acc.map pairD)), v, u, .un]
theorem lc_any (ns : List Int) (n kind v : Int) (acc : List (Int × Int)) {t : TX} {x : VX} (ht : ∀ u, 0 ≤ u → u < v → TOk (qS ns n kind acc (.va (.val (.int v))) (.va (.val (.int u)))) t)
    (hx : ∀ u k, x.f (qS ns n kind acc (.va (.val (.int v))) (.va (.val (.int u))) k) = .ok (.val (pairD (u, v))) (qS ns n kind acc (.va (.val (.int v))) (.va (.val (.int u))) k)) :
    ∀ (us : List Int) (out : List (Int × Int)) (k : Nat), (∀ u ∈ us, 0 ≤ u ∧ u < v) → out.length + us.length ≤ 10000 →
    ∃ (k' : Nat) (F : List (Int × Int)), lcL [5] (gN 5) t x (us.map D.int) (qS ns n kind acc (.va (.val (.int v))) .un k) (out.map pairD) = .ok ((out ++ F).map pairD) (qS ns n kind acc (.va (.val (.int v))) .un k') ∧ F.length ≤ us.length ∧ ∀ p ∈ F, 0 ≤ p.1 ∧ p.1 < p.2 ∧ p.2 = v
  | [], out, k, _, _ => ⟨k, [], by rw [List.append_nil]; rfl, Nat.le_refl _, by simp⟩
  | u :: us, out, k, hu, hl => by
    simp only [List.length_cons] at hl
    obtain ⟨h0, h1⟩ := hu u List.mem_cons_self
    obtain ⟨b, k1, eb⟩ := ht u h0 h1 k
    have e : lcE [5] (gN 5) t x (.int u) (qS ns n kind acc (.va (.val (.int v))) .un k) = .ok (if b = true then some (.val (pairD (u, v))) else none) (qS ns n kind acc (.va (.val (.int v))) .un k1) := by
      have eb' := eb
      have ex := hx u k1
      unfold qS at eb' ex
      unfold lcE qS
      cases b with
      | true => simp [eb', ex]
      | false => simp [eb']
    rw [List.map_cons, lcL_one, e]
    cases b with
    | true =>
      have hs : (out.map pairD).length < sizeLine := sz_lt (by simp; omega)
      obtain ⟨k', F, e2, l2, q2⟩ := lc_any ns n kind v acc ht hx us (out ++ [(u, v)]) k1 (fun w hw => hu w (List.mem_cons_of_mem _ hw)) (by simp; omega)
      simp only [if_true]
      rw [if_pos hs]
      have e4 : List.map pairD out ++ [pairD (u, v)] = List.map pairD (out ++ [(u, v)]) := by simp
      rw [e4, e2]
      refine ⟨k', (u, v) :: F, by rw [List.append_assoc]; rfl, by simp; omega, fun p hp => ?_⟩
      rcases List.mem_cons.mp hp with rfl | hp
      · exact ⟨h0, h1, rfl⟩
      · exact q2 p hp
    | false =>
      obtain ⟨k', F, e2, l2, q2⟩ := lc_any ns n kind v acc ht hx us out k1 (fun w hw => hu w (List.mem_cons_of_mem _ hw)) (by omega)
      simp only [Bool.false_eq_true, if_false]
      rw [e2]
      exact ⟨k', F, rfl, by simp; omega, q2⟩
theorem sp_1 (ns : List Int) (n : Nat) (hn : n ≤ 40) (kind v : Int) (acc : List (Int × Int)) (h1 : 1 ≤ v) (h2 : v < n) (ha : acc.length ≤ 5000) (k : Nat) :
    ∃ (k' : Nat) (F : List (Int × Int)), gb (gN 4) l1_law_some_pairs (.int v) (qS ns n kind acc .un .un k) = .nx (qS ns n kind (acc ++ F) .un .un k') ∧ F.length ≤ 40 ∧ Ok n F := by
  have hs : acc.length < sizeLine := sz_lt (by omega)
  have h0 : 0 < v := by omega
  have q : sm62 v = true := sm62_of (by omega) (by omega)
  have fin : ∀ (t : TX) (x : VX), (∀ u, 0 ≤ u → u < v → TOk (qS ns n kind acc (.va (.val (.int v))) (.va (.val (.int u)))) t) →
    (∀ u k, x.f (qS ns n kind acc (.va (.val (.int v))) (.va (.val (.int u))) k) = .ok (.val (pairD (u, v))) (qS ns n kind acc (.va (.val (.int v))) (.va (.val (.int u))) k)) →
    ∃ (k' : Nat) (F : List (Int × Int)), sDrop (vMtN "list" 3 (aCons (vFrz (vLcF (ixRng (aCons (vVar 4) aNil)) [5] (gN 5) t x)) aNil) mExtend) (qS ns n kind acc (.va (.val (.int v))) .un k) = .nx (qS ns n kind (acc ++ F) (.va (.val (.int v))) .un k') ∧ F.length ≤ 40 ∧ Ok n F := fun t x ht hx => by
    obtain ⟨k', F, e, l, hF⟩ := lc_any ns n kind v acc ht hx (upto v.toNat) [] k (fun u hu => by have := mem_upto.mp hu; omega) (by simp; omega)
    rw [upto_len] at l
    rw [← rng0] at e
    simp only [List.map_nil, List.nil_append] at e
    have hs2 : acc.length + F.length ≤ sizeLine := sz_of (by omega)
    unfold qS at e
    refine ⟨k', F, ?_, by omega, fun p hp => by have := hF p hp; omega⟩
    unfold qS
    simp [q, e, hs2]
  have tidy : ∀ (b : VB) (σ : VS), (∃ (k' : Nat) (F : List (Int × Int)), b σ = .nx (qS ns n kind (acc ++ F) (.va (.val (.int v))) .un k') ∧ F.length ≤ 40 ∧ Ok n F) → ∃ (k' : Nat) (F : List (Int × Int)), sTidy [4] b σ = .nx (qS ns n kind (acc ++ F) .un .un k') ∧ F.length ≤ 40 ∧ Ok n F := fun b σ ⟨k', F, e, h⟩ => by
    refine ⟨k', F, ?_, h⟩
    rw [ev_tidy, e]
    simp [qS]
  have e0 : gN 4 (.int v) (qS ns n kind acc .un .un k) = .ok (qS ns n kind acc (.va (.val (.int v))) .un k) := by simp [qS]
  unfold gb
  rw [l1_law_some_pairs_q, e0]; dsimp only
  refine tidy _ _ ?_
  by_cases c0 : kind = 0
  · refine ⟨k, [(v - 1, v)], ?_, by simp, fun p hp => ?_⟩
    · subst c0; unfold qS; simp [hs, pairD]
    · rw [List.mem_singleton] at hp; subst hp; exact ⟨by show (0 : Int) ≤ v - 1; omega, by show v - 1 < v; omega, by show v < (n : Int); omega⟩
  have t0 : ∀ b c : VB, sIf (tvTest (v2 (fEq id) (vVar 2) (vC (.int 0)))) b c (qS ns n kind acc (.va (.val (.int v))) .un k) = c (qS ns n kind acc (.va (.val (.int v))) .un k) := fun b c => by unfold qS; simp [c0]
  rw [t0]
  by_cases c1 : kind = 1
  · have m1 := Int.emod_nonneg (dv ns k) (show v ≠ 0 by omega)
    have m2 := Int.emod_lt_of_pos (dv ns k) h0
    refine ⟨k + 1, [(dv ns k % v, v)], ?_, by simp, fun p hp => ?_⟩
    · subst c1; unfold qS; simp [hs, h0, pairD]
    · rw [List.mem_singleton] at hp; subst hp; exact ⟨m1, m2, by show v < (n : Int); omega⟩
  have t1 : ∀ (m : Int) (b c : VB), kind ≠ m → sIf (tvTest (v2 (fEq id) (vVar 2) (vC (.int m)))) b c (qS ns n kind acc (.va (.val (.int v))) .un k) = c (qS ns n kind acc (.va (.val (.int v))) .un k) := fun m b c hm => by unfold qS; simp [hm]
  have t2 : ∀ (m : Int) (b c : VB), kind = m → sIf (tvTest (v2 (fEq id) (vVar 2) (vC (.int m)))) b c (qS ns n kind acc (.va (.val (.int v))) .un k) = b (qS ns n kind acc (.va (.val (.int v))) .un k) := fun m b c hm => by subst hm; unfold qS; simp
  rw [t1 1 _ _ c1]
  by_cases c2 : kind = 2
  · rw [t2 2 _ _ c2]
    refine fin _ _ (fun u _ _ => ?_) fun u k => ?_
    · rw [t1_law_some_pairs_q]
      exact TOk.and (fun k => ⟨_, k, by unfold qS; simp; rfl⟩) (fun k => ⟨_, k + 1, by unfold qS; simp; rfl⟩)
    · rw [x1_law_some_pairs_q]; unfold qS; simp [pairD]
  rw [t1 2 _ _ c2]
  by_cases c3 : kind = 3
  · rw [t2 3 _ _ c3]
    refine fin _ _ (fun u _ _ => ?_) fun u k => ?_
    · rw [t2_law_some_pairs_q]
      exact fun k => ⟨_, k, by unfold qS; simp; rfl⟩
    · rw [x2_law_some_pairs_q]; unfold qS; simp [pairD]
  rw [t1 3 _ _ c3]
  by_cases c4 : kind = 4
  · rw [t2 4 _ _ c4]
    refine fin _ _ (fun u _ _ => ?_) fun u k => ?_
    · rw [t3_law_some_pairs_q]
      exact fun k => ⟨_, k + 1, by unfold qS; simp; rfl⟩
    · rw [x3_law_some_pairs_q]; unfold qS; simp [pairD]
  rw [t1 4 _ _ c4]
  by_cases c5 : kind = 5
  · rw [t2 5 _ _ c5]
    refine fin _ _ (fun u _ _ => ?_) fun u k => ?_
    · rw [t4_law_some_pairs_q]
      exact fun k => ⟨_, k + 1, by unfold qS; simp; rfl⟩
    · rw [x4_law_some_pairs_q]; unfold qS; simp [pairD]
  rw [t1 5 _ _ c5]
  have hnn : (0 : Int) < 2 * n := by omega
  by_cases c8 : kind < 8
  · have : ∀ b c : VB, sIf (tvTest (v2 fLt (vVar 2) (vC (.int 8)))) b c (qS ns n kind acc (.va (.val (.int v))) .un k) = b (qS ns n kind acc (.va (.val (.int v))) .un k) := fun b c => by unfold qS; simp [c8]
    rw [this]
    refine fin _ _ (fun u _ _ => ?_) fun u k => ?_
    · rw [t5_law_some_pairs_q]
      exact fun k => ⟨_, k + 1, by unfold qS; simp [ev_mulC (.inr (show bnd _ 3 = true by decide)), ev_mulC (.inl (show bnd _ 2 = true by decide)), hnn]; rfl⟩
    · rw [x5_law_some_pairs_q]; unfold qS; simp [pairD]
  · have : ∀ b c : VB, sIf (tvTest (v2 fLt (vVar 2) (vC (.int 8)))) b c (qS ns n kind acc (.va (.val (.int v))) .un k) = c (qS ns n kind acc (.va (.val (.int v))) .un k) := fun b c => by unfold qS; simp [c8]
    rw [this]
    exact ⟨k, [], by rw [List.append_nil]; rfl, by simp, fun p hp => by cases hp⟩
end CA
namespace CA
open PySem L2 VL CM
theorem sp_loop1 (ns : List Int) (n : Nat) (hn : n ≤ 40) (kind : Int) : ∀ (vs : List Int) (acc : List (Int × Int)) (k : Nat), (∀ v ∈ vs, 1 ≤ v ∧ v < n) → acc.length + 40 * vs.length ≤ 5000 →
    ∃ (k' : Nat) (F : List (Int × Int)), forL (gN 4) l1_law_some_pairs (vs.map D.int) (qS ns n kind acc .un .un k) = .nx (qS ns n kind (acc ++ F) .un .un k') ∧ F.length ≤ 40 * vs.length ∧ Ok n F
  | [], acc, k, _, _ => ⟨k, [], by rw [List.append_nil]; rfl, by simp, fun p hp => by cases hp⟩
  | v :: vs, acc, k, hv, hl => by
    simp only [List.length_cons] at hl
    obtain ⟨h1, h2⟩ := hv v List.mem_cons_self
    obtain ⟨k1, F1, e1, l1, o1⟩ := sp_1 ns n hn kind v acc h1 h2 (by omega) k
    obtain ⟨k2, F2, e2, l2, o2⟩ := sp_loop1 ns n hn kind vs (acc ++ F1) k1 (fun w hw => hv w (List.mem_cons_of_mem _ hw)) (by simp; omega)
    rw [List.map_cons, forL_one, e1]
    dsimp only [toNx]
    rw [e2]
    refine ⟨k2, F1 ++ F2, by rw [List.append_assoc], by simp; omega, fun p hp => ?_⟩
    rcases List.mem_append.mp hp with h | h
    · exact o1 p h
    · exact o2 p h
theorem sp_2 (ns : List Int) (n : Nat) (hn : n ≤ 40) (kind : Int) (acc : List (Int × Int)) (ha : acc.length ≤ 5000) (k : Nat) (d : D) :
    ∃ (k' : Nat) (F : List (Int × Int)), gb (gN 6) l2_law_some_pairs d (qS ns n kind acc .un .un k) = .nx (qS ns n kind (acc ++ F) .un .un k') ∧ F.length ≤ 1 ∧ Ok n F := by
  have hs : acc.length < sizeLine := sz_lt (by omega)
  by_cases h : (1 : Int) < n
  · have h0 : (0 : Int) < n := by omega
    have h1 : (0 : Int) < (n : Int) - 1 := by omega
    have m1 := Int.emod_nonneg (dv ns k) (show (n : Int) ≠ 0 by omega)
    have m2 := Int.emod_lt_of_pos (dv ns k) h0
    have m3 := Int.emod_nonneg (dv ns (k + 1)) (show (n : Int) - 1 ≠ 0 by omega)
    have m4 := Int.emod_lt_of_pos (dv ns (k + 1)) h1
    generalize hu : dv ns k % (n : Int) = u at m1 m2
    generalize hw : dv ns (k + 1) % ((n : Int) - 1) = w at m3 m4
    have m5 := Int.emod_nonneg (u + 1 + w) (show (n : Int) ≠ 0 by omega)
    have m6 := Int.emod_lt_of_pos (u + 1 + w) h0
    have ne : (u + 1 + w) % (n : Int) ≠ u := by
      rcases Int.lt_or_le (u + 1 + w) n with c | c
      · rw [Int.emod_eq_of_lt (by omega) c]; omega
      · have : (u + 1 + w) % (n : Int) = u + 1 + w - n := by
          rw [Int.emod_eq_iff]
          · refine ⟨?_, ?_, ⟨-1, ?_⟩⟩ <;> omega
          · omega
        omega
    generalize hx : (u + 1 + w) % (n : Int) = x at m5 m6 ne
    refine ⟨k + 2, [(if x < u then x else u, if x > u then x else u)], ?_, by simp, fun p hp => ?_⟩
    · unfold gb qS
      rw [l2_law_some_pairs_q]
      simp [h, ev_mod h0, ev_mod h1, hu, hw, hx, hs, pairD]
    · rw [List.mem_singleton] at hp
      subst hp
      show 0 ≤ (if x < u then x else u) ∧ (if x < u then x else u) < (if x > u then x else u) ∧ (if x > u then x else u) < (n : Int)
      split <;> split <;> omega
  · refine ⟨k, [], ?_, by simp, fun p hp => by cases hp⟩
    unfold gb qS
    rw [l2_law_some_pairs_q]
    simp [h]
theorem sp_loop2 (ns : List Int) (n : Nat) (hn : n ≤ 40) (kind : Int) : ∀ (ds : List D) (acc : List (Int × Int)) (k : Nat), acc.length + ds.length ≤ 5000 →
    ∃ (k' : Nat) (F : List (Int × Int)), forL (gN 6) l2_law_some_pairs ds (qS ns n kind acc .un .un k) = .nx (qS ns n kind (acc ++ F) .un .un k') ∧ F.length ≤ ds.length ∧ Ok n F
  | [], acc, k, _ => ⟨k, [], by rw [List.append_nil]; rfl, by simp, fun p hp => by cases hp⟩
  | d :: ds, acc, k, hl => by
    simp only [List.length_cons] at hl
    obtain ⟨k1, F1, e1, l1, o1⟩ := sp_2 ns n hn kind acc (by omega) k d
    obtain ⟨k2, F2, e2, l2, o2⟩ := sp_loop2 ns n hn kind ds (acc ++ F1) k1 (by simp; omega)
    rw [forL_one, e1]
    dsimp only [toNx]
    rw [e2]
    refine ⟨k2, F1 ++ F2, by rw [List.append_assoc], by simp; omega, fun p hp => ?_⟩
    rcases List.mem_append.mp hp with h | h
    · exact o1 p h
    · exact o2 p h
theorem some_pairs_ev (ns : List Int) (n : Nat) (hn : n ≤ 40) (k : Nat) : ∃ (k' : Nat) (F : List (Int × Int)), m_law_some_pairs [dr ns k, .val (.int n)] = .ok (.ol (F.map pairD)) [dr ns k', .val (.int n)] ∧ F.length ≤ 2000 ∧ Ok n F := by
  have q : sm62 (n : Int) = true := sm62_nat (by omega)
  have q1 : sm62 1 = true := by decide
  have m1 := Int.emod_nonneg (dv ns k) (show (9 : Int) ≠ 0 by decide)
  generalize hkd : dv ns k % 9 = kind at m1
  obtain ⟨k1, F1, e1, l1, o1⟩ := sp_loop1 ns n hn kind (span 1 (n - 1)) [] (k + 1) (fun v hv => by have := mem_span.mp hv; omega) (by simp; omega)
  rw [span_len] at l1
  rw [← rngA] at e1
  rw [List.nil_append] at e1
  obtain ⟨k2, F2, e2, l2, o2⟩ : ∃ (k' : Nat) (F : List (Int × Int)), sIf (tvAnd (tvTest (v2 (fEq id) (vVar 2) (vC (.int 0)))) (tvAnd (tvTest (v2 fGt (vVar 1) (vC (.int 2)))) (tvTest (v2 (fEq id) (v2 fMod (vFrz (vCallR m_law_draw (bRef 0 bNil))) (vC (.int 2))) (vC (.int 0)))))) (sDrop (vMtN "list" 3 (aCons (vApp fTup (aCons (vC (.int 0)) (aCons (v2 fSub (vVar 1) (vC (.int 1))) aNil))) aNil) mAppend)) sNext (qS ns n kind F1 .un .un k1) = .nx (qS ns n kind (F1 ++ F) .un .un k') ∧ F.length ≤ 1 ∧ Ok n F := by
    have hs : F1.length < sizeLine := sz_lt (by omega)
    by_cases c0 : kind = 0
    · by_cases c1 : (2 : Int) < n
      · by_cases c2 : dv ns k1 % 2 = 0
        · refine ⟨k1 + 1, [(0, (n : Int) - 1)], by unfold qS; simp [c0, c1, c2, hs, pairD], by simp, fun p hp => ?_⟩
          rw [List.mem_singleton] at hp; subst hp
          exact ⟨Int.le_refl _, by show (0 : Int) < (n : Int) - 1; omega, by show (n : Int) - 1 < n; omega⟩
        · exact ⟨k1 + 1, [], by unfold qS; simp [c0, c1, c2], by simp, fun p hp => by cases hp⟩
      · exact ⟨k1, [], by unfold qS; simp [c0, c1], by simp, fun p hp => by cases hp⟩
    · exact ⟨k1, [], by unfold qS; simp [c0], by simp, fun p hp => by cases hp⟩
  have m2 := Int.emod_nonneg (dv ns k2) (show (4 : Int) ≠ 0 by decide)
  have m3 := Int.emod_lt_of_pos (dv ns k2) (show (0 : Int) < 4 by decide)
  have q3 : sm62 (dv ns k2 % 4) = true := sm62_of (by omega) (by omega)
  obtain ⟨k3, F3, e3, l3, o3⟩ := sp_loop2 ns n hn kind (rngD 0 (dv ns k2 % 4).toNat) (F1 ++ F2) (k2 + 1) (by simp [rngD_len]; omega)
  rw [rngD_len] at l3
  refine ⟨k3, F1 ++ F2 ++ F3, ?_, by simp; omega, fun p hp => ?_⟩
  · obtain ⟨G, hG⟩ : ∃ G, F1 ++ F2 = G := ⟨_, rfl⟩
    rw [hG] at e2 e3
    obtain ⟨G2, hG2⟩ : ∃ G2, G ++ F3 = G2 := ⟨_, rfl⟩
    rw [hG2] at e3
    rw [hG, hG2, mq_law_some_pairs, ev_run]
    unfold b_law_some_pairs
    unfold qS at e1 e2 e3
    rw [ev_start]
    rw [seq_nx (σ1 := [.rf (dr ns (k + 1)), .va (.val (.int n)), .va (.val (.int kind)), .un, .un, .un, .un]) (by simp [hkd]) rfl]
    rw [seq_nx (σ1 := [.rf (dr ns (k + 1)), .va (.val (.int n)), .va (.val (.int kind)), .va (.ol []), .un, .un, .un]) (by simp) rfl]
    simp only [List.map_nil] at e1
    rw [seq_nx (by simp [q, q1]; exact e1) rfl]
    rw [seq_nx e2 rfl]
    rw [seq_nx (by simp [q3]; exact e3) rfl]
    simp
  · rcases List.mem_append.mp hp with h | h
    · rcases List.mem_append.mp h with h | h
      · exact o1 p h
      · exact o2 p h
    · exact o3 p h
end CA
namespace CA
open PySem L2 VL CM
/-! ### turned -/
theorem tn_swap (ns : List Int) (n : Nat) (hn : n ≤ 40) (pr : SV) : ∀ (vs names : List Int) (k : Nat), names.Perm (upto n) → (∀ v ∈ vs, 0 ≤ v ∧ v < (n : Int)) → ∃ (k' : Nat) (names' : List Int), forL (gN 4) l1_law_turned (vs.map D.int) [.rf (dr ns k), .va (.val (.int n)), pr, .va (.ol (names.map D.int)), .un, .un, .un, .un, .un, .un] =
    .nx [.rf (dr ns k'), .va (.val (.int n)), pr, .va (.ol (names'.map D.int)), .un, .un, .un, .un, .un, .un] ∧ names'.Perm (upto n)
  | [], names, k, hp, _ => ⟨k, names, rfl, hp⟩
  | v :: vs, names, k, hp, hv => by
    obtain ⟨h0, h1⟩ := hv v List.mem_cons_self
    have hl : names.length = n := by rw [hp.length_eq, upto_len]
    have hn0 : (0 : Int) < n := by omega
    have m1 := Int.emod_nonneg (dv ns k) (show (n : Int) ≠ 0 by omega)
    have m2 := Int.emod_lt_of_pos (dv ns k) hn0
    obtain ⟨a, ha⟩ : ∃ a : Nat, dv ns k % (n : Int) = a := ⟨(dv ns k % (n : Int)).toNat, by omega⟩
    obtain ⟨b, rfl⟩ : ∃ b : Nat, v = b := ⟨v.toNat, by omega⟩
    have hal : a < names.length := by omega
    have hbl : b < names.length := by omega
    have e : gb (gN 4) l1_law_turned (.int b) [.rf (dr ns k), .va (.val (.int n)), pr, .va (.ol (names.map D.int)), .un, .un, .un, .un, .un, .un] = .nx [.rf (dr ns (k + 1)), .va (.val (.int n)), pr, .va (.ol (((names.set b names[a]).set a names[b]).map D.int)), .un, .un, .un, .un, .un, .un] := by
      have s1 : mSetL (.ol (names.map D.int)) (.int b) (.int names[a]) = .ok (.ol ((names.set b names[a]).map D.int)) := by rw [ev_setN (by simp; omega), List.map_set]
      have s2 : mSetL (.ol ((names.set b names[a]).map D.int)) (.int a) (.int names[b]) = .ok (.ol (((names.set b names[a]).set a names[b]).map D.int)) := by rw [ev_setN (by simp; omega), ← List.map_set]
      have x1 : L2.atI (names.map D.int) (a : Int) = some (.int names[a]) := by rw [at_nat]; simp [hal]
      have x2 : L2.atI (names.map D.int) (b : Int) = some (.int names[b]) := by rw [at_nat]; simp [hbl]
      revert s1 s2 x1 x2
      generalize names[a] = na
      generalize names[b] = nb
      generalize hN1 : names.set b na = N1
      generalize hN2 : N1.set a nb = N2
      intro s1 s2 x1 x2
      unfold gb
      rw [l1_law_turned_q]
      simp [ev_mod hn0, ha, x1, x2, s1, s2]
    have hp2 : ((names.set b names[a]).set a names[b]).Perm (upto n) := (List.set_set_perm hbl hal).trans hp
    obtain ⟨k2, N, e2, q⟩ := tn_swap ns n hn pr vs _ (k + 1) hp2 fun w hw => hv w (List.mem_cons_of_mem _ hw)
    rw [List.map_cons, forL_one, e]
    exact ⟨k2, N, e2, q⟩
def turnP (os : List Int) (p : Int × Int) : Int × Int := (if oat os p.2 < oat os p.1 then oat os p.2 else oat os p.1, if oat os p.2 > oat os p.1 then oat os p.2 else oat os p.1)
theorem turn_ok {n : Nat} {os : List Int} (hp : os.Perm (upto n)) {F : List (Int × Int)} (hF : Ok n F) : Ok n (F.map (turnP os)) ∧ ∀ p ∈ F, 0 ≤ p.1 ∧ p.1 < os.length ∧ 0 ≤ p.2 ∧ p.2 < os.length := by
  have hd : os.Nodup := hp.nodup_iff.mpr (asc_nodup upto_asc)
  have hl : os.length = n := by rw [hp.length_eq, upto_len]
  have hm : ∀ p ∈ F, 0 ≤ p.1 ∧ p.1 < p.2 ∧ p.2 < os.length := fun p h => by have := hF p h; omega
  have hr : ∀ i : Int, 0 ≤ i → i < os.length → 0 ≤ oat os i ∧ oat os i < n := fun i h0 h => mem_upto.mp (hp.mem_iff.mp (oat_mem h0 h))
  refine ⟨fun q hq => ?_, fun p h => by have := hm p h; omega⟩
  obtain ⟨p, h, rfl⟩ := List.mem_map.mp hq
  obtain ⟨h1, h2, h3⟩ := hm p h
  have r1 := hr p.1 h1 (by omega)
  have r2 := hr p.2 (by omega) h3
  have ne : oat os p.1 ≠ oat os p.2 := fun e => by have := oat_inj hd h1 (by omega) (by omega) h3 e; omega
  unfold turnP
  dsimp only
  split <;> split <;> omega
/-- neighbours that are the same, once -/
def keepB (l : List (Int × Int)) (k : Nat) : Bool := decide (k = 0) || !decide (l[k]? = l[k - 1]?)
def once (l : List (Int × Int)) : List (Int × Int) := ((List.range l.length).filter (keepB l)).map fun k => l.getD k (0, 0)
theorem once_mem {l : List (Int × Int)} {p : Int × Int} (h : p ∈ once l) : p ∈ l := by
  unfold once at h
  obtain ⟨k, hk, rfl⟩ := List.mem_map.mp h
  have := List.mem_range.mp (List.mem_filter.mp hk).1
  rw [List.getD_eq_getElem?_getD, List.getElem?_eq_getElem this]
  exact List.getElem_mem this
theorem once_asc {l : List (Int × Int)} (h : l.Pairwise fun p q => leP p q = true) : (once l).Pairwise ltP := by
  unfold once
  rw [List.pairwise_map]
  refine List.Pairwise.imp_of_mem (fun {a b} ha hb hab => ?_) (List.pairwise_lt_range.sublist List.filter_sublist)
  obtain ⟨ha1, ha2⟩ := List.mem_filter.mp ha
  obtain ⟨hb1, hb2⟩ := List.mem_filter.mp hb
  have la := List.mem_range.mp ha1
  have lb := List.mem_range.mp hb1
  have hb0 : ¬ b = 0 := by omega
  have hne : l[b]? ≠ l[b - 1]? := by
    unfold keepB at hb2
    rw [decide_eq_false hb0] at hb2
    simpa using hb2
  rw [List.getElem?_eq_getElem lb, List.getElem?_eq_getElem (show b - 1 < l.length by omega)] at hne
  have pw := List.pairwise_iff_getElem.mp h
  have h1 := leP_iff.mp (pw (b - 1) b (by omega) lb (by omega))
  have h2 : l[a] = l[b - 1] ∨ leP l[a] l[b - 1] = true := by
    rcases Nat.lt_or_ge a (b - 1) with c | c
    · exact .inr (pw a (b - 1) la (by omega) c)
    · have e : a = b - 1 := by omega
      subst e
      exact .inl rfl
  rw [List.getD_eq_getElem?_getD, List.getElem?_eq_getElem la, List.getD_eq_getElem?_getD, List.getElem?_eq_getElem lb]
  show ltP l[a] l[b]
  have h3 : l[b - 1] ≠ l[b] := fun e => hne (congrArg some e.symm)
  have h4 : ltP l[b - 1] l[b] := by
    rcases h1 with q | ⟨q, q2⟩
    · exact .inl q
    · rcases Int.lt_or_eq_of_le q2 with q3 | q3
      · exact .inr ⟨q, q3⟩
      · exact (h3 (Prod.ext q q3)).elim
  rcases h2 with q | q
  · rw [q]; exact h4
  · have h5 := leP_iff.mp q
    unfold CM.ltP at h4 ⊢
    omega
theorem turned_ev (ns : List Int) (n : Nat) (hn : n ≤ 40) (F : List (Int × Int)) (hF : Ok n F) (hl : F.length ≤ 2000) (k : Nat) : ∃ (k' : Nat) (E : List (Int × Int)), m_law_turned [dr ns k, .val (.int n), .val (.lst (F.map pairD))] = .ok (.ol (E.map pairD)) [dr ns k', .val (.int n), .val (.lst (F.map pairD))] ∧ Gr n E := by
  have q : sm62 (n : Int) = true := sm62_nat (by omega)
  have e1 : ∀ (a b c e f g h i j : SV), lcL [4] (gN 4) tvYes x1_law_turned (rngD 0 n) [a, b, c, e, .un, f, g, h, i, j] [] = .ok ((upto n).map D.int) [a, b, c, e, .un, f, g, h, i, j] := fun a b c e f g h i j => by
    rw [rng0]
    have := lcL_map (vs := [4]) (g := gN 4) (t := tvYes) (x := x1_law_turned) D.int [a, b, c, e, .un, f, g, h, i, j] (fun i => some (D.int i)) (upto n) [] (by simp; omega) fun i _ => by
      unfold lcE
      rw [x1_law_turned_q]
      simp
    rw [this]
    simp [List.filterMap_eq_map']
  obtain ⟨k1, names, e2, hp⟩ : ∃ (k' : Nat) (names : List Int), sTidy [4, 5, 6] (sIf (tvTest (v2 (fEq id) (v2 fMod (vFrz (vCallR m_law_draw (bRef 0 bNil))) (vC (.int 2))) (vC (.int 0)))) (sFor (ixRng (aCons (vVar 1) aNil)) (gN 4) l1_law_turned) sNext) [.rf (dr ns k), .va (.val (.int n)), .va (.val (.lst (F.map pairD))), .va (.ol ((upto n).map D.int)), .un, .un, .un, .un, .un, .un] =
      .nx [.rf (dr ns k'), .va (.val (.int n)), .va (.val (.lst (F.map pairD))), .va (.ol (names.map D.int)), .un, .un, .un, .un, .un, .un] ∧ names.Perm (upto n) := by
    by_cases c : dv ns k % 2 = 0
    · obtain ⟨k1, names, e, hp⟩ := tn_swap ns n hn (.va (.val (.lst (F.map pairD)))) (upto n) (upto n) (k + 1) (List.Perm.refl _) fun v hv => mem_upto.mp hv
      exact ⟨k1, names, by simp [c, q, rng0, e], hp⟩
    · exact ⟨k + 1, upto n, by simp [c], List.Perm.refl _⟩
  obtain ⟨ok, hb⟩ := turn_ok hp hF
  have e3 : ∀ (f g h i j : SV), lcL [8, 4] (gT [(gN 8), (gN 4)]) tvYes x2_law_turned (F.map pairD) [.rf (dr ns k1), .va (.val (.int n)), f, .va (.ol (names.map D.int)), .un, g, h, i, .un, j] [] = .ok ((F.map (turnP names)).map pairD) [.rf (dr ns k1), .va (.val (.int n)), f, .va (.ol (names.map D.int)), .un, g, h, i, .un, j] := fun f g h i j => by
    have := lcL_map (vs := [8, 4]) (g := gT [(gN 8), (gN 4)]) (t := tvYes) (x := x2_law_turned) pairD [.rf (dr ns k1), .va (.val (.int n)), f, .va (.ol (names.map D.int)), .un, g, h, i, .un, j] (fun p => some (pairD (turnP names p))) F [] (by simp; omega) fun p hp => by
      obtain ⟨h1, h2, h3, h4⟩ := hb p hp
      unfold lcE
      rw [x2_law_turned_q]
      simp [pairD, turnP, oat_at h1 h2, oat_at h3 h4]
    rw [this, List.filterMap_eq_map', List.nil_append, List.map_map]
    rfl
  have hG : (F.map (turnP names)).length ≤ 2000 := by simpa using hl
  revert e3 ok hG
  generalize F.map (turnP names) = G
  intro ok e3 hG
  have hS : (srtP G).length = G.length := (srtP_perm G).length_eq
  have hpw := srtP_pw G
  have ok2 : Ok n (srtP G) := fun p hp => ok p ((srtP_perm G).mem_iff.mp hp)
  have e4 := ev_sortP (ps := G)
  revert hS hpw ok2 e4
  generalize srtP G = E
  intro hS hpw ok2 e4
  have q2 : sm62 (E.length : Int) = true := sm62_nat (by omega)
  have e5 : ∀ (a b c e f g h i : SV), lcL [9] (gN 9) t1_law_turned x3_law_turned (rngD 0 E.length) [a, b, c, e, f, g, h, .va (.val (.lst (E.map pairD))), i, .un] [] = .ok ((once E).map pairD) [a, b, c, e, f, g, h, .va (.val (.lst (E.map pairD))), i, .un] := fun a b c e f g h i => by
    have er : rngD 0 E.length = (List.range E.length).map fun (k : Nat) => D.int k := by unfold rngD; simp
    rw [er]
    have := lcL_filter (vs := [9]) (g := gN 9) (t := t1_law_turned) (x := x3_law_turned) (fun (k : Nat) => D.int k) [a, b, c, e, f, g, h, .va (.val (.lst (E.map pairD))), i, .un] (keepB E) (fun k => pairD (E.getD k (0, 0))) (List.range E.length) (by simp; omega) fun k hk => by
      have lk := List.mem_range.mp hk
      have x1 : L2.atI (E.map pairD) (k : Int) = some (pairD E[k]) := by rw [at_nat]; simp [lk]
      unfold lcE keepB
      rw [t1_law_turned_q, x3_law_turned_q]
      by_cases c : k = 0
      · subst c
        have x1' : L2.atI (E.map pairD) 0 = some (pairD E[0]) := x1
        simp [x1', lk]
      · have x2 : L2.atI (E.map pairD) ((k : Int) - 1) = some (pairD E[k - 1]) := by
          rw [show (k : Int) - 1 = ((k - 1 : Nat) : Int) by omega, at_nat]
          have : k - 1 < E.length := by omega
          simp [this]
        have c2 : ¬ (k : Int) = 0 := by omega
        have l2 : k - 1 < E.length := by omega
        by_cases c3 : E[k] = E[k - 1]
        · simp [x1, x2, c, c2, lk, l2, eqP_ev, c3]
        · simp [x1, x2, c, c2, lk, l2, eqP_ev, c3]
    rw [this]
    unfold once
    rw [List.map_map]
    rfl
  refine ⟨k1, once E, ?_, hn, fun p hp => ok2 p (once_mem hp), once_asc hpw⟩
  rw [mq_law_turned, ev_run]
  unfold b_law_turned
  rw [ev_start]
  rw [seq_nx (σ1 := [.rf (dr ns k), .va (.val (.int n)), .va (.val (.lst (F.map pairD))), .va (.ol ((upto n).map D.int)), .un, .un, .un, .un, .un, .un]) (by simp [q, e1]) rfl]
  rw [seq_nx e2 rfl]
  rw [seq_nx (σ1 := [.rf (dr ns k1), .va (.val (.int n)), .va (.val (.lst (F.map pairD))), .va (.ol (names.map D.int)), .un, .un, .un, .va (.val (.lst (G.map pairD))), .un, .un]) (by simp [e3]) rfl]
  rw [seq_nx (σ1 := [.rf (dr ns k1), .va (.val (.int n)), .va (.val (.lst (F.map pairD))), .va (.ol (names.map D.int)), .un, .un, .un, .va (.val (.lst (E.map pairD))), .un, .un]) (by simp [e4]) rfl]
  simp [q2, e5]
theorem edges_ev (ns : List Int) (n : Nat) (hn : n ≤ 40) (k : Nat) : ∃ (k' : Nat) (E : List (Int × Int)), m_law_edges [dr ns k, .val (.int n)] = .ok (.ol (E.map pairD)) [dr ns k', .val (.int n)] ∧ Gr n E := by
  obtain ⟨k1, F, e1, l1, o1⟩ := some_pairs_ev ns n hn k
  obtain ⟨k2, E, e2, g⟩ := turned_ev ns n hn F o1 l1 k1
  refine ⟨k2, E, ?_, g⟩
  rw [mq_law_edges, ev_run]
  simp [b_law_edges, e1, e2]
end CA
namespace CA
open PySem L2 VL CM
theorem aro_l (a b : Nat) (os : List O) (xs ys : List D) (ha : os[a]? = some (.ol xs)) (hb : (os.set a (.ol (xs ++ [.int b])))[b]? = some (.ol ys)) (hx : xs.length < 1000000) (hy : ys.length < 1000000) (s1 s2 : SV) :
    gb (gT [(gN 4), (gN 3)]) l1_law_around (pairD ((a : Int), (b : Int))) [s1, s2, .va (.nl os), .un, .un, .un] = .nx [s1, s2, .va (.nl ((os.set a (.ol (xs ++ [.int b]))).set b (.ol (ys ++ [.int a])))), .un, .un, .un] := by
  have la : a < os.length := (List.getElem?_eq_some_iff.mp ha).1
  have lb : b < os.length := by have := (List.getElem?_eq_some_iff.mp hb).1; simpa using this
  have q1 := ixN_nat la
  have q2 := ixN_nat lb
  have sx : xs.length < sizeLine := sz_lt hx
  have sy : ys.length < sizeLine := sz_lt hy
  unfold gb
  rw [l1_law_around_q]
  have e1 : gT [(gN 4), (gN 3)] (pairD ((a : Int), (b : Int))) [s1, s2, .va (.nl os), .un, .un, .un] = .ok [s1, s2, .va (.nl os), .va (.val (.int b)), .va (.val (.int a)), .un] := by
    simp [pairD]
  rw [e1]; dsimp only
  rw [ev_tidy]
  rw [seq_nx (σ1 := [s1, s2, .va (.nl (os.set a (.ol (xs ++ [.int b])))), .va (.val (.int b)), .va (.val (.int a)), .un]) (by simp [q1, ha, sx]) rfl]
  simp only [ev_drop, ev_mt]
  simp [q2, hb, sy]
theorem aro_loop (n : Nat) (s1 s2 : SV) : ∀ (R F : List (Int × Int)), Ok n R → F.length + R.length ≤ 2000 →
    forL (gT [(gN 4), (gN 3)]) l1_law_around (R.map pairD) [s1, s2, .va (.nl (rowsO n F)), .un, .un, .un] = .nx [s1, s2, .va (.nl (rowsO n (F ++ R))), .un, .un, .un]
  | [], F, _, _ => by rw [List.append_nil]; rfl
  | p :: R, F, hE, hl => by
    obtain ⟨q1, q2, q3⟩ := hE p List.mem_cons_self
    obtain ⟨a, ha⟩ : ∃ a : Nat, p.1 = a := ⟨p.1.toNat, by omega⟩
    obtain ⟨b, hb⟩ : ∃ b : Nat, p.2 = b := ⟨p.2.toNat, by omega⟩
    have hp : p = ((a : Int), (b : Int)) := Prod.ext ha hb
    subst hp
    have hab : a < b := by simp at q2; omega
    have hbn : b < n := by simp at q3; omega
    have l1 := rows_len F a
    have l2 := rows_len F b
    simp only [List.length_cons] at hl
    rw [List.map_cons, forL_one, aro_l a b (rowsO n F) ((rows F a).map D.int) ((rows F b).map D.int) (rowsO_get (by omega)) (by rw [List.getElem?_set_ne (by omega)]; exact rowsO_get hbn) (by simp; omega) (by simp; omega), rowsO_app n F a b hab hbn]
    dsimp only [toNx]
    rw [aro_loop n s1 s2 R _ (fun q hq => hE q (List.mem_cons_of_mem _ hq)) (by simp; omega)]
    simp
theorem around_ev {n : Nat} {E : List (Int × Int)} (g : Gr n E) : hd (m_law_around [.val (.int n), .val (.lst (E.map pairD))]) = .ok (.ol (rowsD n E)) := by
  have hn := g.le
  have hl := g.len
  have hs := sm62_nat (n := n) (by omega)
  have e0 : ∀ (a b c e f : SV), lcN [3] (gN 3) tvYes x1_law_around (rngD 0 n) [a, b, c, .un, e, f] [] = .ok (rowsO n []) [a, b, c, .un, e, f] := fun a b c e f => by
    have := lcN_map (vs := [3]) (g := gN 3) (t := tvYes) (x := x1_law_around) (fun i : Nat => D.int (0 + (i : Int))) [a, b, c, .un, e, f] (fun _ => some (O.ol [])) (List.range n) [] (by simp; omega) fun i _ => by
      unfold lcE
      rw [x1_law_around_q]
      simp
    rw [show rngD 0 n = (List.range n).map fun (i : Nat) => D.int (0 + (i : Int)) from rfl, this]
    unfold rowsO rows
    simp [List.filterMap_eq_map]
  have e5 : ∀ (a b c e f : SV), lcL [5] (gN 5) tvYes x2_law_around ((List.range n).map fun (i : Nat) => D.lst ((rows E i).map D.int)) [a, b, c, e, f, .un] [] = .ok (rowsD n E) [a, b, c, e, f, .un] := fun a b c e f => by
    have := lcL_map (vs := [5]) (g := gN 5) (t := tvYes) (x := x2_law_around) (fun i : Nat => D.lst ((rows E i).map D.int)) [a, b, c, e, f, .un] (fun i : Nat => some (D.lst ((adj E i).map D.int))) (List.range n) [] (by simp; omega) fun i _ => by
      unfold lcE
      rw [x2_law_around_q]
      simp [ev_sortI, adj]
    rw [this]
    unfold rowsD
    simp [List.filterMap_eq_map]
  have e2 := aro_loop n (.va (.val (.int n))) (.va (.val (.lst (E.map pairD)))) E [] g.ok (by simp; omega)
  rw [List.nil_append] at e2
  rw [mq_law_around, hd_run]
  simp [b_law_around, hs, e0, e2, frz_rows, e5]
end CA
set_option maxRecDepth 100000
set_option maxHeartbeats 0
namespace LW
open PySem L2 VL CM CA
def top (i : Nat) : Stmt := PySem.Challenge.pw_cherrystone_k09_graphs_are_written.main.body.getD i (.Pass ⟨0, 0, 0, 0⟩)
abbrev s_law_mixed : Stmt := top 15
abbrev s_law_numbers : Stmt := top 16
abbrev s_law_draw : Stmt := top 17
abbrev s_law_turned : Stmt := top 21
abbrev s_law_some_pairs : Stmt := top 20
abbrev s_law_edges : Stmt := top 22
abbrev s_is_integer : Stmt := top 7
abbrev s_is_index : Stmt := top 8
abbrev s_check_edges : Stmt := top 9
abbrev s_Graph__init : Stmt := inClass (top 10) 0
abbrev s_law_all_equal : Stmt := top 19
abbrev s_law_equal : Stmt := top 18
abbrev s_format_graph : Stmt := top 11
abbrev s_parse_number : Stmt := top 12
abbrev s_parse_graph : Stmt := top 13
abbrev s_Graph__eq : Stmt := inClass (top 10) 1
abbrev s_law : Stmt := top 23
/-! ### what the defs mean -/
theorem x1_format_graph_x : ∃ m : VX, m = (vJs [(vFmt (vVar 2)), (vC (.str "-")), (vFmt (vVar 3))]) := ⟨_, rfl⟩
noncomputable def x1_format_graph : VX := (x1_format_graph_x).choose
theorem x1_format_graph_q : x1_format_graph = (vJs [(vFmt (vVar 2)), (vC (.str "-")), (vFmt (vVar 3))]) := (x1_format_graph_x).choose_spec
noncomputable def b_format_graph : VB := (sSeq (sAsg (gN 1) (v2 fAdd (vFrz (vApp fLstF (aCons (vJs [(vFmt (v1 (fFld "Graph" "nodes") (vVar 0))), (vC (.str ";"))]) aNil))) (vFrz (vLcF (ixSeq (v1 (fFld "Graph" "edges") (vVar 0))) [2, 3] (gT [(gN 2), (gN 3)]) tvYes (x1_format_graph)))))
 (sRet (vTx fJoin (vC (.str " ")) (vVar 1))))
theorem mx_format_graph : ∃ m : FS, m = runG (List.replicate 1 false) 3 (b_format_graph) := ⟨_, rfl⟩
noncomputable def m_format_graph : FS := (mx_format_graph).choose
theorem mq_format_graph : m_format_graph = runG (List.replicate 1 false) 3 (b_format_graph) := (mx_format_graph).choose_spec
theorem l1_parse_number_x : ∃ m : VB, m = (sTidy [1] (sIf (tvTest (v2 (fIn true) (vVar 1) (vC (.str "0123456789"))))
 (sErr "BadText")
 sNext)) := ⟨_, rfl⟩
noncomputable def l1_parse_number : VB := (l1_parse_number_x).choose
theorem l1_parse_number_q : l1_parse_number = (sTidy [1] (sIf (tvTest (v2 (fIn true) (vVar 1) (vC (.str "0123456789"))))
 (sErr "BadText")
 sNext)) := (l1_parse_number_x).choose_spec
noncomputable def b_parse_number : VB := (sSeq (sIf (tvNot (tvTest (vChain fLe fLe (vC (.int 1)) (vApp fLen (aCons (vVar 0) aNil)) (vC (.int 2)))))
 (sErr "BadText")
 sNext)
 (sSeq (sFor (ixStr (vVar 0)) (gN 1)
 (l1_parse_number))
 (sSeq (sIf (tvAnd (tvTest (v2 (fEqS id) (v2 fIx (vVar 0) (vC (.int 0))) (vC (.str "0")))) (tvTest (v2 fGt (vApp fLen (aCons (vVar 0) aNil)) (vC (.int 1)))))
 (sErr "BadText")
 sNext)
 (sRet (vApp fIntT (aCons (vVar 0) aNil))))))
theorem mx_parse_number : ∃ m : FS, m = runG (List.replicate 1 false) 1 (b_parse_number) := ⟨_, rfl⟩
noncomputable def m_parse_number : FS := (mx_parse_number).choose
theorem mq_parse_number : m_parse_number = runG (List.replicate 1 false) 1 (b_parse_number) := (mx_parse_number).choose_spec
theorem l1_parse_graph_x : ∃ m : VB, m = (sTidy [4, 5] (sSeq (sAsg (gN 5) (vFrz (vTxF fSplit (vVar 4) (vC (.str "-")))))
 (sSeq (sIf (tvTest (v2 (fEq not) (vApp fLen (aCons (vVar 5) aNil)) (vC (.int 2))))
 (sErr "BadText")
 sNext)
 (sDrop (vMtN "list" 3 (aCons (vApp fTup (aCons (vFrz (vCallP m_parse_number (aCons (v2 fIx (vVar 5) (vC (.int 0))) aNil))) (aCons (vFrz (vCallP m_parse_number (aCons (v2 fIx (vVar 5) (vC (.int 1))) aNil))) aNil))) aNil) mAppend))))) := ⟨_, rfl⟩
noncomputable def l1_parse_graph : VB := (l1_parse_graph_x).choose
theorem l1_parse_graph_q : l1_parse_graph = (sTidy [4, 5] (sSeq (sAsg (gN 5) (vFrz (vTxF fSplit (vVar 4) (vC (.str "-")))))
 (sSeq (sIf (tvTest (v2 (fEq not) (vApp fLen (aCons (vVar 5) aNil)) (vC (.int 2))))
 (sErr "BadText")
 sNext)
 (sDrop (vMtN "list" 3 (aCons (vApp fTup (aCons (vFrz (vCallP m_parse_number (aCons (v2 fIx (vVar 5) (vC (.int 0))) aNil))) (aCons (vFrz (vCallP m_parse_number (aCons (v2 fIx (vVar 5) (vC (.int 1))) aNil))) aNil))) aNil) mAppend))))) := (l1_parse_graph_x).choose_spec
noncomputable def b_parse_graph : VB := (sSeq (sIf (tvNot (xT tru (vApp fIsi (aCons (vVar 0) (aCons (vC (.ty "str")) aNil)))))
 (sErr "BadText")
 sNext)
 (sSeq (sAsg (gN 1) (vFrz (vTxF fSplit (vVar 0) (vC (.str " ")))))
 (sSeq (sIf (tvTest (v2 (fEqS not) (vSlS (v2 fIx (vVar 1) (vC (.int 0))) (oPart (v1 fNeg (vC (.int 1)))) oNo) (vC (.str ";"))))
 (sErr "BadText")
 sNext)
 (sSeq (sAsg (gN 2) (vFrz (vCallP m_parse_number (aCons (vSlS (v2 fIx (vVar 1) (vC (.int 0))) oNo (oPart (v1 fNeg (vC (.int 1))))) aNil))))
 (sSeq (sAsgF 3 (vApp fLstF aNil))
 (sSeq (sFor (ixSeq (vFrz (vSl (vVar 1) (oPart (vC (.int 1))) oNo))) (gN 4)
 (l1_parse_graph))
 (sSeq (sTry [("CherrystoneError", false), ("BadGraph", true), ("BadText", false)]
 (sGh (gFr 3) (sAsg (gN 6) (vFrz (vMake "Graph" m_Graph__init (aCons (vVar 2) (aCons (vVar 3) aNil))))))
 (fun _ => sBad))
 (sRet (vVar 6)))))))))
theorem mx_parse_graph : ∃ m : FS, m = runG (List.replicate 1 false) 6 (b_parse_graph) := ⟨_, rfl⟩
noncomputable def m_parse_graph : FS := (mx_parse_graph).choose
theorem mq_parse_graph : m_parse_graph = runG (List.replicate 1 false) 6 (b_parse_graph) := (mx_parse_graph).choose_spec
noncomputable def b_Graph__eq : VB := (sRet (vAnd (v1 (fIsC "Graph") (vVar 1)) (vAnd (v2 (fEq id) (v1 (fFld "Graph" "nodes") (vVar 0)) (v1 (fFld "Graph" "nodes") (vVar 1))) (v2 (fEq id) (v1 (fFld "Graph" "edges") (vVar 0)) (v1 (fFld "Graph" "edges") (vVar 1))))))
theorem mx_Graph__eq : ∃ m : FS, m = runG (List.replicate 2 false) 0 (b_Graph__eq) := ⟨_, rfl⟩
noncomputable def m_Graph__eq : FS := (mx_Graph__eq).choose
theorem mq_Graph__eq : m_Graph__eq = runG (List.replicate 2 false) 0 (b_Graph__eq) := (mx_Graph__eq).choose_spec
theorem x1_law_x : ∃ m : VX, m = (v2 fAdd (v2 fAdd (v2 fAdd (vC (.str " ")) (vApp fStrI (aCons (vVar 6) aNil))) (vC (.str "-"))) (vApp fStrI (aCons (vVar 7) aNil))) := ⟨_, rfl⟩
noncomputable def x1_law : VX := (x1_law_x).choose
theorem x1_law_q : x1_law = (v2 fAdd (v2 fAdd (v2 fAdd (vC (.str " ")) (vApp fStrI (aCons (vVar 6) aNil))) (vC (.str "-"))) (vApp fStrI (aCons (vVar 7) aNil))) := (x1_law_x).choose_spec
noncomputable def b_law : VB := (sSeq (sAsgF 1 (vApp fLstF (aCons (vFrz (vCallP m_law_numbers (aCons (vVar 0) aNil))) (aCons (vC (.int 0)) aNil))))
 (sSeq (sAsg (gN 2) (v2 fIx (vFrz (vApp fLstF (aCons (v2 fMod (vFrz (vCallR m_law_draw (bRef 1 bNil))) (vC (.int 13))) (aCons (v2 fMod (vFrz (vCallR m_law_draw (bRef 1 bNil))) (vC (.int 13))) (aCons (vC (.int 40)) aNil))))) (v2 fMod (vFrz (vCallR m_law_draw (bRef 1 bNil))) (vC (.int 3)))))
 (sSeq (sAsg (gN 3) (vFrz (vCallR m_law_edges (bRef 1 (bCons (vVar 2) bNil)))))
 (sSeq (sAsg (gN 4) (vFrz (vMake "Graph" m_Graph__init (aCons (vVar 2) (aCons (vFrz (vApp fListF (aCons (vVar 3) aNil))) aNil)))))
 (sSeq (sAsg (gN 5) (v2 fAdd (v2 fAdd (vApp fStrI (aCons (vVar 2) aNil)) (vC (.str ";"))) (vTx fJoin (vC (.str "")) (vFrz (vLcF (ixSeq (vVar 3)) [6, 7] (gT [(gN 6), (gN 7)]) tvYes (x1_law))))))
 (sSeq (sIf (tvNot (xT tru (vFrz (vCallP (m_law_equal 4) (aCons (vFrz (vCallP m_format_graph (aCons (vVar 4) aNil))) (aCons (vVar 5) aNil))))))
 (sRet (vC (.bl false)))
 sNext)
 (sSeq (sAsg (gN 8) (vFrz (vCallP m_parse_graph (aCons (vVar 5) aNil))))
 (sRet (vAnd (vFrz (vCallP (m_law_equal 4) (aCons (vFrz (vApp fLstF (aCons (v1 (fFld "Graph" "nodes") (vVar 8)) (aCons (v1 (fFld "Graph" "edges") (vVar 8)) aNil)))) (aCons (vFrz (vApp fLstF (aCons (vVar 2) (aCons (vVar 3) aNil)))) aNil)))) (vFrz (vCallP (m_law_equal 4) (aCons (v2 (fEqO "Graph" m_Graph__eq) (vVar 8) (vVar 4)) (aCons (vC (.bl true)) aNil)))))))))))))
theorem mx_law : ∃ m : FS, m = runG (List.replicate 1 false) 8 (b_law) := ⟨_, rfl⟩
noncomputable def m_law : FS := (mx_law).choose
theorem mq_law : m_law = runG (List.replicate 1 false) 8 (b_law) := (mx_law).choose_spec
structure Txt (K : PySem.W.Frag) (mg : Str → Option Value) : Prop where
  z_range : mg "range" = none
  g_law_mixed : mg "_law_mixed" = some (.ref (He.ga K "_law_mixed"))
  g_law_numbers : mg "_law_numbers" = some (.ref (He.ga K "_law_numbers"))
  z_len : mg "len" = none
  g_law_draw : mg "_law_draw" = some (.ref (He.ga K "_law_draw"))
  z_max : mg "max" = none
  z_min : mg "min" = none
  z_sorted : mg "sorted" = none
  g_law_turned : mg "_law_turned" = some (.ref (He.ga K "_law_turned"))
  g_law_some_pairs : mg "_law_some_pairs" = some (.ref (He.ga K "_law_some_pairs"))
  g_law_edges : mg "_law_edges" = some (.ref (He.ga K "_law_edges"))
  z_isinstance : mg "isinstance" = none
  z_int : mg "int" = none
  z_bool : mg "bool" = none
  g_is_integer : mg "is_integer" = some (.ref (He.ga K "is_integer"))
  i_MOST : ∃ t, mg "MOST" = some (.int 40 t)
  x_BadGraph : ExcF K "BadGraph"
  g_BadGraph : mg "BadGraph" = some (.ref (He.ga K "BadGraph"))
  z_list : mg "list" = none
  z_tuple : mg "tuple" = none
  g_is_index : mg "is_index" = some (.ref (He.ga K "is_index"))
  g_check_edges : mg "check_edges" = some (.ref (He.ga K "check_edges"))
  c_Graph : Cls K (He.ga K "Graph")
  n_Graph_nodes : NoAttr K (He.ga K "Graph") "nodes"
  n_Graph_edges : NoAttr K (He.ga K "Graph") "edges"
  n_Graph_links : NoAttr K (He.ga K "Graph") "links"
  g_Graph : mg "Graph" = some (.ref (He.ga K "Graph"))
  k_Graph : Mk K (He.ga K "Graph") (He.ma K (He.ga K "Graph") "__init__")
  z_str : mg "str" = none
  g_law_equal : mg "_law_equal" = some (.ref (He.ga K "_law_equal"))
  g_law_all_equal : mg "_law_all_equal" = some (.ref (He.ga K "_law_all_equal"))
  g_format_graph : mg "format_graph" = some (.ref (He.ga K "format_graph"))
  x_BadText : ExcF K "BadText"
  g_BadText : mg "BadText" = some (.ref (He.ga K "BadText"))
  g_parse_number : mg "parse_number" = some (.ref (He.ga K "parse_number"))
  e_BadText_BadGraph : PySem.W.exmOne K (.ref (He.ga K "BadText")) (.ref (He.ga K "BadGraph")) = some false
  e_BadGraph_BadGraph : PySem.W.exmOne K (.ref (He.ga K "BadGraph")) (.ref (He.ga K "BadGraph")) = some true
  e_CherrystoneError_BadGraph : PySem.W.exmOne K (.ref (He.ga K "CherrystoneError")) (.ref (He.ga K "BadGraph")) = some false
  g_parse_graph : mg "parse_graph" = some (.ref (He.ga K "parse_graph"))
  is_Graph : He.IscF K (He.ga K "Graph")
  m_Graph_eq : Meth K (He.ga K "Graph") "__eq__" (He.ma K (He.ga K "Graph") "__eq__")
  d_law_mixed : ∃ fd, FunD K "_law_mixed" "_law_mixed" (defArgs s_law_mixed) (defBody s_law_mixed) (defScope s_law_mixed) [] [] (He.ga K "_law_mixed") fd ∧ Binds K fd ["_law_number", "_law_k"] []
  d_law_numbers : ∃ fd, FunD K "_law_numbers" "_law_numbers" (defArgs s_law_numbers) (defBody s_law_numbers) (defScope s_law_numbers) [] [] (He.ga K "_law_numbers") fd ∧ Binds K fd ["_law_script"] []
  d_law_draw : ∃ fd, FunD K "_law_draw" "_law_draw" (defArgs s_law_draw) (defBody s_law_draw) (defScope s_law_draw) [] [] (He.ga K "_law_draw") fd ∧ Binds K fd ["_law_draws"] []
  d_law_turned : ∃ fd, FunD K "_law_turned" "_law_turned" (defArgs s_law_turned) (defBody s_law_turned) (defScope s_law_turned) [] [] (He.ga K "_law_turned") fd ∧ Binds K fd ["_law_draws", "_law_nodes", "_law_pairs"] []
  d_law_some_pairs : ∃ fd, FunD K "_law_some_pairs" "_law_some_pairs" (defArgs s_law_some_pairs) (defBody s_law_some_pairs) (defScope s_law_some_pairs) [] [] (He.ga K "_law_some_pairs") fd ∧ Binds K fd ["_law_draws", "_law_nodes"] []
  d_law_edges : ∃ fd, FunD K "_law_edges" "_law_edges" (defArgs s_law_edges) (defBody s_law_edges) (defScope s_law_edges) [] [] (He.ga K "_law_edges") fd ∧ Binds K fd ["_law_draws", "_law_nodes"] []
  d_is_integer : ∃ fd, FunD K "is_integer" "is_integer" (defArgs s_is_integer) (defBody s_is_integer) (defScope s_is_integer) [] [] (He.ga K "is_integer") fd ∧ Binds K fd ["value"] []
  d_is_index : ∃ fd, FunD K "is_index" "is_index" (defArgs s_is_index) (defBody s_is_index) (defScope s_is_index) [] [] (He.ga K "is_index") fd ∧ Binds K fd ["value", "bound"] []
  d_check_edges : ∃ fd, FunD K "check_edges" "check_edges" (defArgs s_check_edges) (defBody s_check_edges) (defScope s_check_edges) [] [] (He.ga K "check_edges") fd ∧ Binds K fd ["nodes", "edges"] []
  d_Graph__init : ∃ fd, FunD K "__init__" "Graph.__init__" (defArgs s_Graph__init) (defBody s_Graph__init) (defScope s_Graph__init) [] [] (He.ma K (He.ga K "Graph") "__init__") fd ∧ Binds K fd ["self", "nodes", "edges"] []
  d_law_all_equal : ∃ fd, FunD K "_law_all_equal" "_law_all_equal" (defArgs s_law_all_equal) (defBody s_law_all_equal) (defScope s_law_all_equal) [] [] (He.ga K "_law_all_equal") fd ∧ Binds K fd ["_law_actual", "_law_due"] []
  d_law_equal : ∃ fd, FunD K "_law_equal" "_law_equal" (defArgs s_law_equal) (defBody s_law_equal) (defScope s_law_equal) [] [] (He.ga K "_law_equal") fd ∧ Binds K fd ["_law_actual", "_law_due"] []
  d_format_graph : ∃ fd, FunD K "format_graph" "format_graph" (defArgs s_format_graph) (defBody s_format_graph) (defScope s_format_graph) [] [] (He.ga K "format_graph") fd ∧ Binds K fd ["graph"] []
  d_parse_number : ∃ fd, FunD K "parse_number" "parse_number" (defArgs s_parse_number) (defBody s_parse_number) (defScope s_parse_number) [] [] (He.ga K "parse_number") fd ∧ Binds K fd ["text"] []
  d_parse_graph : ∃ fd, FunD K "parse_graph" "parse_graph" (defArgs s_parse_graph) (defBody s_parse_graph) (defScope s_parse_graph) [] [] (He.ga K "parse_graph") fd ∧ Binds K fd ["text"] []
  d_Graph__eq : ∃ fd, FunD K "__eq__" "Graph.__eq__" (defArgs s_Graph__eq) (defBody s_Graph__eq) (defScope s_Graph__eq) [] [] (He.ma K (He.ga K "Graph") "__eq__") fd ∧ Binds K fd ["self", "other"] []
  d_law : ∃ fd, FunD K "law" "law" (defArgs s_law) (defBody s_law) (defScope s_law) [] [] (He.ga K "law") fd ∧ Binds K fd ["_law_script"] []
section
variable {P : Program} {w : World} {K : PySem.W.Frag} {mg : Str → Option Value} {base : Heap}
abbrev N_law_mixed : List Str := ["_law_number", "_law_k", "_law_step"]
theorem sc_law_mixed : FnScope N_law_mixed ["_law_number", "_law_k"] (defScope s_law_mixed) := ⟨rfl, rfl, rfl, by decide +kernel, rfl, by decide +kernel, by decide +kernel⟩
theorem ok_law_mixed (T : Txt K mg) : OkF P w K mg base (1) (He.ga K "_law_mixed") ["_law_number", "_law_k"] (SpOf K (List.replicate 2 false) (m_law_mixed)) := by
  rw [mq_law_mixed]
  obtain ⟨fd, F, bF⟩ := T.d_law_mixed
  refine ⟨⟨fd, fnV (k := 0) F sc_law_mixed rfl fun cdv A outer s H E hr => ?_, bF⟩, F.kp⟩
  have nd := sc_law_mixed.nd
  have hu := hr.units
  have hu1 := hr.units1
  have hu0 := hr.units0
  have hu5 := hr.units5
  refine ⟨_, (pss_cons (ps_set (i := 2) nd rfl (by first | exact Or.inl rfl | exact Or.inr rfl) (pe_op op_mod (pe_op (op_addUK (K := K) (by rfl)) (pe_op (op_addUK (K := K) (by rfl)) (pe_op op_mul (pv 0) pe_int) (pe_op op_mul (pv 1) pe_int)) pe_int) pe_int))
 (pss_one (ps_ret (pe_op op_mod (pe_op (op_addUK (K := K) (by rfl)) (pe_op op_mul (pv 2) (pe_op (op_addUK (K := K) (by rfl)) (pe_op op_fdiv (pv 2) pe_int) pe_int)) (pv 1)) pe_int)))), ?_⟩
  unfold b_law_mixed
  exact (sim_seq (sim_asg (sim_op s_mod (sim_op s_add (sim_op s_add (sim_op s_mul sim_var sim_ci) (sim_op s_mul sim_var sim_ci)) sim_ci) sim_ci) simG_name)
 (sim_ret (sim_op s_mod (sim_op s_add (sim_op s_mul sim_var (sim_op s_add (sim_op s_fdiv sim_var sim_ci) sim_ci)) sim_var) sim_ci)))
abbrev N_law_numbers : List Str := ["_law_script", "_law_numbers_here", "_law_cell", "_law_rest", "_law_k"]
theorem sc_law_numbers : FnScope N_law_numbers ["_law_script"] (defScope s_law_numbers) := ⟨rfl, rfl, rfl, by decide +kernel, rfl, by decide +kernel, by decide +kernel⟩
theorem ok_law_numbers (T : Txt K mg) : OkF P w K mg base (2) (He.ga K "_law_numbers") ["_law_script"] (SpOf K (List.replicate 1 false) (m_law_numbers)) := by
  rw [mq_law_numbers]
  obtain ⟨fd, F, bF⟩ := T.d_law_numbers
  obtain ⟨⟨fd_law_mixed, G_law_mixed, b_law_mixed_⟩, k_law_mixed⟩ := ok_law_mixed (P := P) (w := w) (base := base) T
  refine ⟨⟨fd, fnV (k := 1) F sc_law_numbers rfl fun cdv A outer s H E hr => ?_, bF⟩, F.kp⟩
  have nd := sc_law_numbers.nd
  have hu := hr.units
  have hu1 := hr.units1
  have hu0 := hr.units0
  have hu5 := hr.units5
  refine ⟨_, (pss_cons (ps_set (i := 1) nd rfl (by first | exact Or.inl rfl | exact Or.inr rfl) (pe_lst pa_nil))
 (pss_cons (ps_for (passes_of rfl) rfl (pi_seqK (K := K) (by rfl) (pv 0)) (pg_name (i := 2) nd rfl (by first | exact Or.inl rfl | exact Or.inr rfl))
 (pss_one (ps_if (pt_cmpR op_ge (pv 2) (pe_op op_pow pe_int pe_int) (nomark _))
 (pss_cons (ps_set (i := 3) nd rfl (by first | exact Or.inl rfl | exact Or.inr rfl) (pv 2))
 (pss_one (ps_for (passes_of rfl) rfl (pi_range1 rfl T.z_range (pa_cons pe_int pa_nil)) (pg_name (i := 4) nd rfl (by first | exact Or.inl rfl | exact Or.inr rfl))
 (pss_one (ps_if (pt_cmpR op_gt (pv 3) pe_int (nomark _))
 (pss_cons (ps_expr (pe_bmK' (K := K) (by rfl) PySem.F.plainAttrs_list PySem.F.slot_list_append PySem.F.type_list_append mt_append (pv 1) (pa_cons (pe_op op_mod (pv 3) pe_int) pa_nil)))
 (pss_one (ps_set (i := 3) nd rfl (by first | exact Or.inl rfl | exact Or.inr rfl) (pe_op op_fdiv (pv 3) pe_int))))
 pss_nil)))))
 (pss_cons (ps_expr (pe_bmK' (K := K) (by rfl) PySem.F.plainAttrs_list PySem.F.slot_list_append PySem.F.type_list_append mt_append (pv 1) (pa_cons (pe_op op_mod (pv 2) pe_int) pa_nil)))
 (pss_one (ps_for (passes_of rfl) rfl (pi_range1 rfl T.z_range (pa_cons pe_int pa_nil)) (pg_name (i := 4) nd rfl (by first | exact Or.inl rfl | exact Or.inr rfl))
 (pss_one (ps_expr (pe_bmK' (K := K) (by rfl) PySem.F.plainAttrs_list PySem.F.slot_list_append PySem.F.type_list_append mt_append (pv 1) (pa_cons (pe_op op_mod (pe_callS G_law_mixed (hr.mono (by omega)) rfl T.g_law_mixed k_law_mixed b_law_mixed_ (fun σ => passAt (takes_of rfl rfl rfl rfl) σ) (pa_cons (pe_callS G_law_mixed (hr.mono (by omega)) rfl T.g_law_mixed k_law_mixed b_law_mixed_ (fun σ => passAt (takes_of rfl rfl rfl rfl) σ) (pa_cons (pe_op op_mod (pv 2) pe_int) (pa_cons (pv 4) pa_nil))) (pa_cons (pe_op (op_addUK (K := K) (by rfl)) (pv 4) pe_int) pa_nil))) pe_int) pa_nil))))))))))
 (pss_one (ps_ret (pv 1))))), ?_⟩
  unfold b_law_numbers
  rw [l3_law_numbers_q, l2_law_numbers_q, l1_law_numbers_q]
  exact (sim_seq (sim_asgF (sim_lstF sim_nil))
 (sim_seq (sim_for (sim_iSeq sim_var) simG_name
 (sim_tidy (sim_tidy (sim_ifS (sim_tTest (sim_op s_ge sim_var (sim_op s_pow sim_ci sim_ci)))
 (sim_seq (sim_asg sim_var simG_name)
 (sim_tidy (sim_for (sim_iRng1 (sim_cons sim_ci sim_nil) ((na_cons na_nil)).l) simG_name
 (sim_tidy (sim_ifS (sim_tTest (sim_op s_gt sim_var sim_ci))
 (sim_seq (sim_drop (sim_mtN (T := "list") (i := 1) (sim_cons (sim_op s_mod sim_var sim_ci) sim_nil) s_append))
 (sim_asg (sim_op s_fdiv sim_var sim_ci) simG_name))
 sim_next)))))
 (sim_seq (sim_drop (sim_mtN (T := "list") (i := 1) (sim_cons (sim_op s_mod sim_var sim_ci) sim_nil) s_append))
 (sim_for (sim_iRng1 (sim_cons sim_ci sim_nil) ((na_cons na_nil)).l) simG_name
 (sim_tidy (sim_drop (sim_mtN (T := "list") (i := 1) (sim_cons (sim_op s_mod (sim_frz (sim_callF (sim_cons (sim_frz (sim_callF (sim_cons (sim_op s_mod sim_var sim_ci) (sim_cons sim_var sim_nil)) (na_cons (na_cons na_nil)))) (sim_cons (sim_op s_add sim_var sim_ci) sim_nil)) (na_cons (na_cons na_nil)))) sim_ci) sim_nil) s_append)))))))))
 sim_retMv))
abbrev N_law_draw : List Str := ["_law_draws", "_law_at", "_law_first"]
theorem sc_law_draw : FnScope N_law_draw ["_law_draws"] (defScope s_law_draw) := ⟨rfl, rfl, rfl, by decide +kernel, rfl, by decide +kernel, by decide +kernel⟩
theorem ok_law_draw (T : Txt K mg) : OkF P w K mg base (2) (He.ga K "_law_draw") ["_law_draws"] (SpOf K [true] (m_law_draw)) := by
  rw [mq_law_draw]
  obtain ⟨fd, F, bF⟩ := T.d_law_draw
  obtain ⟨⟨fd_law_mixed, G_law_mixed, b_law_mixed_⟩, k_law_mixed⟩ := ok_law_mixed (P := P) (w := w) (base := base) T
  refine ⟨⟨fd, fnV (k := 1) F sc_law_draw rfl fun cdv A outer s H E hr => ?_, bF⟩, F.kp⟩
  have nd := sc_law_draw.nd
  have hu := hr.units
  have hu1 := hr.units1
  have hu0 := hr.units0
  have hu5 := hr.units5
  refine ⟨_, (pss_cons (ps_set (i := 1) nd rfl (by first | exact Or.inl rfl | exact Or.inr rfl) (pe_ix (ix_seqK (K := K) (by rfl)) (pv 0) pe_int (fun _ _ => rfl)))
 (pss_cons (ps_asg (pe_op (op_addUK (K := K) (by rfl)) (pv 1) pe_int) (pg_sub (pv 0) pe_int set_list))
 (pss_cons (ps_if (pt_cmpR (op_ltUK (K := K) (by rfl) hu0) (pv 1) (pe_callB (call_lenK (K := K) (by rfl)) rfl T.z_len bi_len (pa_cons (pe_ix (ix_seqK (K := K) (by rfl)) (pv 0) pe_int (fun _ _ => rfl)) pa_nil)) (nomark _))
 (pss_one (ps_ret (pe_ix (ix_seqK (K := K) (by rfl)) (pe_ix (ix_seqK (K := K) (by rfl)) (pv 0) pe_int (fun _ _ => rfl)) (pv 1) (fun _ _ => rfl))))
 pss_nil)
 (pss_cons (ps_set (i := 2) nd rfl (by first | exact Or.inl rfl | exact Or.inr rfl) (pe_op (op_addUK (K := K) (by rfl)) pe_int (pv 1)))
 (pss_cons (ps_if (pt_cmpR op_gt (pe_callB (call_lenK (K := K) (by rfl)) rfl T.z_len bi_len (pa_cons (pe_ix (ix_seqK (K := K) (by rfl)) (pv 0) pe_int (fun _ _ => rfl)) pa_nil)) pe_int (nomark _))
 (pss_one (ps_set (i := 2) nd rfl (by first | exact Or.inl rfl | exact Or.inr rfl) (pe_op (op_addUK (K := K) (by rfl)) (pv 2) (pe_op op_mul pe_int (pe_ix (ix_seqK (K := K) (by rfl)) (pe_ix (ix_seqK (K := K) (by rfl)) (pv 0) pe_int (fun _ _ => rfl)) pe_int (fun _ _ => rfl))))))
 pss_nil)
 (pss_one (ps_ret (pe_op op_mod (pe_callS G_law_mixed (hr.mono (by omega)) rfl T.g_law_mixed k_law_mixed b_law_mixed_ (fun σ => passAt (takes_of rfl rfl rfl rfl) σ) (pa_cons (pe_callS G_law_mixed (hr.mono (by omega)) rfl T.g_law_mixed k_law_mixed b_law_mixed_ (fun σ => passAt (takes_of rfl rfl rfl rfl) σ) (pa_cons (pv 2) (pa_cons (pv 1) pa_nil))) (pa_cons pe_int pa_nil))) pe_int)))))))), ?_⟩
  unfold b_law_draw
  exact (sim_seq (sim_asg (sim_op s_ix sim_var sim_ci) simG_name)
 (sim_seq (sim_set (sim_op s_add sim_var sim_ci) sim_lN sim_ci s_setL)
 (sim_seq (sim_ifS (sim_tTest (sim_op s_lt sim_var (sim_cb s_len (sim_cons (sim_op s_ix sim_var sim_ci) sim_nil))))
 (sim_ret (sim_op s_ix (sim_op s_ix sim_var sim_ci) sim_var))
 sim_next)
 (sim_seq (sim_asg (sim_op s_add sim_ci sim_var) simG_name)
 (sim_seq (sim_ifS (sim_tTest (sim_op s_gt (sim_cb s_len (sim_cons (sim_op s_ix sim_var sim_ci) sim_nil)) sim_ci))
 (sim_asg (sim_op s_add sim_var (sim_op s_mul sim_ci (sim_op s_ix (sim_op s_ix sim_var sim_ci) sim_ci))) simG_name)
 sim_next)
 (sim_ret (sim_op s_mod (sim_frz (sim_callF (sim_cons (sim_frz (sim_callF (sim_cons sim_var (sim_cons sim_var sim_nil)) (na_cons (na_cons na_nil)))) (sim_cons sim_ci sim_nil)) (na_cons (na_cons na_nil)))) sim_ci)))))))
abbrev N_law_turned : List Str := ["_law_draws", "_law_nodes", "_law_pairs", "_law_names", "_law_v", "_law_at", "_law_held", "_law_edges_here", "_law_u", "_law_k"]
theorem sc_law_turned : FnScope N_law_turned ["_law_draws", "_law_nodes", "_law_pairs"] (defScope s_law_turned) := ⟨rfl, rfl, rfl, by decide +kernel, rfl, by decide +kernel, by decide +kernel⟩
theorem ok_law_turned (T : Txt K mg) : OkF P w K mg base (3) (He.ga K "_law_turned") ["_law_draws", "_law_nodes", "_law_pairs"] (SpOf K [true, false, false] (m_law_turned)) := by
  rw [mq_law_turned]
  obtain ⟨fd, F, bF⟩ := T.d_law_turned
  obtain ⟨⟨fd_law_draw, G_law_draw, b_law_draw_⟩, k_law_draw⟩ := ok_law_draw (P := P) (w := w) (base := base) T
  refine ⟨⟨fd, fnV (k := 2) F sc_law_turned rfl fun cdv A outer s H E hr => ?_, bF⟩, F.kp⟩
  have nd := sc_law_turned.nd
  have hu := hr.units
  have hu1 := hr.units1
  have hu0 := hr.units0
  have hu5 := hr.units5
  refine ⟨_, (pss_cons (ps_set (i := 3) nd rfl (by first | exact Or.inl rfl | exact Or.inr rfl) (pe_lc (own := [("_law_v", 4)]) rfl nd (pi_range1 rfl T.z_range (pa_cons (pv 1) pa_nil)) (blkOk_by (N := N_law_turned) (sc := defScope s_law_turned) (by decide +kernel)) (fun _ _ _ _ _ => (pg_name (i := 4) nd rfl (by first | exact Or.inl rfl | exact Or.inr rfl))) (fun _ _ _ _ _ => pts_nil) (fun _ _ _ _ _ => (pv 4))))
 (pss_cons (ps_if (pt_cmpR (op_eqDK (K := K) (by rfl) hu) (pe_op op_mod (pe_callS G_law_draw (hr.mono (by omega)) rfl T.g_law_draw k_law_draw b_law_draw_ (fun σ => passAt (takes_of rfl rfl rfl rfl) σ) (pa_cons (pv 0) pa_nil)) pe_int) pe_int (nomark _))
 (pss_one (ps_for (passes_of rfl) rfl (pi_range1 rfl T.z_range (pa_cons (pv 1) pa_nil)) (pg_name (i := 4) nd rfl (by first | exact Or.inl rfl | exact Or.inr rfl))
 (pss_cons (ps_set (i := 5) nd rfl (by first | exact Or.inl rfl | exact Or.inr rfl) (pe_op op_mod (pe_callS G_law_draw (hr.mono (by omega)) rfl T.g_law_draw k_law_draw b_law_draw_ (fun σ => passAt (takes_of rfl rfl rfl rfl) σ) (pa_cons (pv 0) pa_nil)) (pv 1)))
 (pss_cons (ps_set (i := 6) nd rfl (by first | exact Or.inl rfl | exact Or.inr rfl) (pe_ix (ix_seqK (K := K) (by rfl)) (pv 3) (pv 4) (fun _ _ => rfl)))
 (pss_cons (ps_asg (pe_ix (ix_seqK (K := K) (by rfl)) (pv 3) (pv 5) (fun _ _ => rfl)) (pg_sub (pv 3) (pv 4) set_list))
 (pss_one (ps_asg (pv 6) (pg_sub (pv 3) (pv 5) set_list))))))))
 pss_nil)
 (pss_cons (ps_set (i := 7) nd rfl (by first | exact Or.inl rfl | exact Or.inr rfl) (pe_lc (own := [("_law_u", 8), ("_law_v", 4)]) rfl nd (pi_seqK (K := K) (by rfl) (pv 2)) (blkOk_by (N := N_law_turned) (sc := defScope s_law_turned) (by decide +kernel)) (fun _ _ _ _ _ => (pg_tupK (n := 2) (K := K) (by rfl) rfl (pgs_cons (pg_name (i := 8) nd rfl (by first | exact Or.inl rfl | exact Or.inr rfl)) (pgs_cons (pg_name (i := 4) nd rfl (by first | exact Or.inl rfl | exact Or.inr rfl)) pgs_nil)))) (fun _ _ _ _ _ => pts_nil) (fun _ _ _ _ _ => (pe_tup (pa_cons (pe_callB (call_min2 rfl) rfl T.z_min bi_min (pa_cons (pe_ix (ix_seqK (K := K) (by rfl)) (pv 3) (pv 8) (fun _ _ => rfl)) (pa_cons (pe_ix (ix_seqK (K := K) (by rfl)) (pv 3) (pv 4) (fun _ _ => rfl)) pa_nil))) (pa_cons (pe_callB (call_max2 rfl) rfl T.z_max bi_max (pa_cons (pe_ix (ix_seqK (K := K) (by rfl)) (pv 3) (pv 8) (fun _ _ => rfl)) (pa_cons (pe_ix (ix_seqK (K := K) (by rfl)) (pv 3) (pv 4) (fun _ _ => rfl)) pa_nil))) pa_nil))))))
 (pss_cons (ps_set (i := 7) nd rfl (by first | exact Or.inl rfl | exact Or.inr rfl) (pe_callB (cr_sortUK (K := K) (by rfl)) rfl T.z_sorted bi_sorted (pa_cons (pv 7) pa_nil)))
 (pss_one (ps_ret (pe_lc (own := [("_law_k", 9)]) rfl nd (pi_range1 rfl T.z_range (pa_cons (pe_callB (call_lenK (K := K) (by rfl)) rfl T.z_len bi_len (pa_cons (pv 7) pa_nil)) pa_nil)) (blkOk_by (N := N_law_turned) (sc := defScope s_law_turned) (by decide +kernel)) (fun _ _ _ _ _ => (pg_name (i := 9) nd rfl (by first | exact Or.inl rfl | exact Or.inr rfl))) (fun _ _ _ _ _ => (pts_one (PW.pt (pw_or (pt_cmpR (op_eqDK (K := K) (by rfl) hu) (pv 9) pe_int (nomark _)) (pw_or1 (pt_cmpR (op_neDK (K := K) (by rfl) hu) (pe_ix (ix_seqK (K := K) (by rfl)) (pv 7) (pv 9) (fun _ _ => rfl)) (pe_ix (ix_seqK (K := K) (by rfl)) (pv 7) (pe_op op_sub (pv 9) pe_int) (fun _ _ => rfl)) (nomark _))))))) (fun _ _ _ _ _ => (pe_ix (ix_seqK (K := K) (by rfl)) (pv 7) (pv 9) (fun _ _ => rfl)))))))))), ?_⟩
  unfold b_law_turned
  rw [x3_law_turned_q, t1_law_turned_q, x2_law_turned_q, l1_law_turned_q, x1_law_turned_q]
  exact (sim_seq (sim_asgF (sim_lcF (sim_iRng1 (sim_cons sim_var sim_nil) ((na_cons na_nil)).l) simG_name (by decide) sim_yes sim_var))
 (sim_seq (sim_tidy (sim_ifS (sim_tTest (sim_op s_eq (sim_op s_mod (sim_frz (sim_callR (sim_bRef sim_bNil) rfl rfl)) sim_ci) sim_ci))
 (sim_for (sim_iRng1 (sim_cons sim_var sim_nil) ((na_cons na_nil)).l) simG_name
 (sim_tidy (sim_seq (sim_asg (sim_op s_mod (sim_frz (sim_callR (sim_bRef sim_bNil) rfl rfl)) sim_var) simG_name)
 (sim_seq (sim_asg (sim_op s_ix sim_var sim_var) simG_name)
 (sim_seq (sim_set (sim_op s_ix sim_var sim_var) sim_lN sim_var s_setL)
 (sim_set sim_var sim_lN sim_var s_setL))))))
 sim_next))
 (sim_seq (sim_asg (sim_frz (sim_lcF (sim_iSeq sim_var) (simG_tup rfl (simGs_cons simG_name (simGs_cons simG_name simGs_nil))) (by decide) sim_yes (sim_tup (sim_cons (sim_cb s_2I (sim_cons (sim_op s_ix sim_var sim_var) (sim_cons (sim_op s_ix sim_var sim_var) sim_nil))) (sim_cons (sim_cb s_2I (sim_cons (sim_op s_ix sim_var sim_var) (sim_cons (sim_op s_ix sim_var sim_var) sim_nil))) sim_nil))))) simG_name)
 (sim_seq (sim_asg (sim_frz (sim_appF (sim_cons sim_var sim_nil) s_sortF)) simG_name)
 (sim_retF (sim_lcF (sim_iRng1 (sim_cons (sim_cb s_len (sim_cons sim_var sim_nil)) sim_nil) ((na_cons na_nil)).l) simG_name (by decide) (sim_or (sim_tTest (sim_op s_eq sim_var sim_ci)) (sim_tTest (sim_op s_ne (sim_op s_ix sim_var sim_var) (sim_op s_ix sim_var (sim_op s_sub sim_var sim_ci))))) (sim_op s_ix sim_var sim_var)))))))
abbrev N_law_some_pairs : List Str := ["_law_draws", "_law_nodes", "_law_kind", "_law_pairs", "_law_v", "_law_u", "_law_k"]
theorem sc_law_some_pairs : FnScope N_law_some_pairs ["_law_draws", "_law_nodes"] (defScope s_law_some_pairs) := ⟨rfl, rfl, rfl, by decide +kernel, rfl, by decide +kernel, by decide +kernel⟩
theorem ok_law_some_pairs (T : Txt K mg) : OkF P w K mg base (3) (He.ga K "_law_some_pairs") ["_law_draws", "_law_nodes"] (SpOf K [true, false] (m_law_some_pairs)) := by
  rw [mq_law_some_pairs]
  obtain ⟨fd, F, bF⟩ := T.d_law_some_pairs
  obtain ⟨⟨fd_law_draw, G_law_draw, b_law_draw_⟩, k_law_draw⟩ := ok_law_draw (P := P) (w := w) (base := base) T
  refine ⟨⟨fd, fnV (k := 2) F sc_law_some_pairs rfl fun cdv A outer s H E hr => ?_, bF⟩, F.kp⟩
  have nd := sc_law_some_pairs.nd
  have hu := hr.units
  have hu1 := hr.units1
  have hu0 := hr.units0
  have hu5 := hr.units5
  refine ⟨_, (pss_cons (ps_set (i := 2) nd rfl (by first | exact Or.inl rfl | exact Or.inr rfl) (pe_op op_mod (pe_callS G_law_draw (hr.mono (by omega)) rfl T.g_law_draw k_law_draw b_law_draw_ (fun σ => passAt (takes_of rfl rfl rfl rfl) σ) (pa_cons (pv 0) pa_nil)) pe_int))
 (pss_cons (ps_set (i := 3) nd rfl (by first | exact Or.inl rfl | exact Or.inr rfl) (pe_lst pa_nil))
 (pss_cons (ps_for (passes_of rfl) rfl (pi_range2 rfl T.z_range (pa_cons pe_int (pa_cons (pv 1) pa_nil))) (pg_name (i := 4) nd rfl (by first | exact Or.inl rfl | exact Or.inr rfl))
 (pss_one (ps_if (pt_cmpR (op_eqDK (K := K) (by rfl) hu) (pv 2) pe_int (nomark _))
 (pss_one (ps_expr (pe_bmK' (K := K) (by rfl) PySem.F.plainAttrs_list PySem.F.slot_list_append PySem.F.type_list_append mt_append (pv 3) (pa_cons (pe_tup (pa_cons (pe_op op_sub (pv 4) pe_int) (pa_cons (pv 4) pa_nil))) pa_nil))))
 (pss_one (ps_if (pt_cmpR (op_eqDK (K := K) (by rfl) hu) (pv 2) pe_int (nomark _))
 (pss_one (ps_expr (pe_bmK' (K := K) (by rfl) PySem.F.plainAttrs_list PySem.F.slot_list_append PySem.F.type_list_append mt_append (pv 3) (pa_cons (pe_tup (pa_cons (pe_op op_mod (pe_callS G_law_draw (hr.mono (by omega)) rfl T.g_law_draw k_law_draw b_law_draw_ (fun σ => passAt (takes_of rfl rfl rfl rfl) σ) (pa_cons (pv 0) pa_nil)) (pv 4)) (pa_cons (pv 4) pa_nil))) pa_nil))))
 (pss_one (ps_if (pt_cmpR (op_eqDK (K := K) (by rfl) hu) (pv 2) pe_int (nomark _))
 (pss_one (ps_expr (pe_bmK' (K := K) (by rfl) PySem.F.plainAttrs_list PySem.F.slot_list_extend PySem.F.type_list_extend mt_extend (pv 3) (pa_cons (pe_lc (own := [("_law_u", 5)]) rfl nd (pi_range1 rfl T.z_range (pa_cons (pv 4) pa_nil)) (blkOk_by (N := N_law_some_pairs) (sc := defScope s_law_some_pairs) (by decide +kernel)) (fun _ _ _ _ _ => (pg_name (i := 5) nd rfl (by first | exact Or.inl rfl | exact Or.inr rfl))) (fun _ _ _ _ _ => (pts_one (PW.pt (pw_and (pt_cmpR (op_eqDK (K := K) (by rfl) hu) (pe_op op_mod (pe_op (op_addUK (K := K) (by rfl)) (pv 5) (pv 4)) pe_int) pe_int (nomark _)) (pw_and1 (pt_cmpR (op_eqDK (K := K) (by rfl) hu) (pe_op op_mod (pe_callS G_law_draw (hr.mono (by omega)) rfl T.g_law_draw k_law_draw b_law_draw_ (fun σ => passAt takes0 σ) (pa_cons (pv 0) pa_nil)) pe_int) pe_int (nomark _))))))) (fun _ _ _ _ _ => (pe_tup (pa_cons (pv 5) (pa_cons (pv 4) pa_nil))))) pa_nil))))
 (pss_one (ps_if (pt_cmpR (op_eqDK (K := K) (by rfl) hu) (pv 2) pe_int (nomark _))
 (pss_one (ps_expr (pe_bmK' (K := K) (by rfl) PySem.F.plainAttrs_list PySem.F.slot_list_extend PySem.F.type_list_extend mt_extend (pv 3) (pa_cons (pe_lc (own := [("_law_u", 5)]) rfl nd (pi_range1 rfl T.z_range (pa_cons (pv 4) pa_nil)) (blkOk_by (N := N_law_some_pairs) (sc := defScope s_law_some_pairs) (by decide +kernel)) (fun _ _ _ _ _ => (pg_name (i := 5) nd rfl (by first | exact Or.inl rfl | exact Or.inr rfl))) (fun _ _ _ _ _ => (pts_one (pt_cmpR (op_eqDK (K := K) (by rfl) hu) (pe_op op_fdiv (pv 5) pe_int) (pe_op op_fdiv (pv 4) pe_int) (nomark _)))) (fun _ _ _ _ _ => (pe_tup (pa_cons (pv 5) (pa_cons (pv 4) pa_nil))))) pa_nil))))
 (pss_one (ps_if (pt_cmpR (op_eqDK (K := K) (by rfl) hu) (pv 2) pe_int (nomark _))
 (pss_one (ps_expr (pe_bmK' (K := K) (by rfl) PySem.F.plainAttrs_list PySem.F.slot_list_extend PySem.F.type_list_extend mt_extend (pv 3) (pa_cons (pe_lc (own := [("_law_u", 5)]) rfl nd (pi_range1 rfl T.z_range (pa_cons (pv 4) pa_nil)) (blkOk_by (N := N_law_some_pairs) (sc := defScope s_law_some_pairs) (by decide +kernel)) (fun _ _ _ _ _ => (pg_name (i := 5) nd rfl (by first | exact Or.inl rfl | exact Or.inr rfl))) (fun _ _ _ _ _ => (pts_one (pt_cmpR (op_eqDK (K := K) (by rfl) hu) (pe_op op_mod (pe_callS G_law_draw (hr.mono (by omega)) rfl T.g_law_draw k_law_draw b_law_draw_ (fun σ => passAt takes0 σ) (pa_cons (pv 0) pa_nil)) pe_int) pe_int (nomark _)))) (fun _ _ _ _ _ => (pe_tup (pa_cons (pv 5) (pa_cons (pv 4) pa_nil))))) pa_nil))))
 (pss_one (ps_if (pt_cmpR (op_eqDK (K := K) (by rfl) hu) (pv 2) pe_int (nomark _))
 (pss_one (ps_expr (pe_bmK' (K := K) (by rfl) PySem.F.plainAttrs_list PySem.F.slot_list_extend PySem.F.type_list_extend mt_extend (pv 3) (pa_cons (pe_lc (own := [("_law_u", 5)]) rfl nd (pi_range1 rfl T.z_range (pa_cons (pv 4) pa_nil)) (blkOk_by (N := N_law_some_pairs) (sc := defScope s_law_some_pairs) (by decide +kernel)) (fun _ _ _ _ _ => (pg_name (i := 5) nd rfl (by first | exact Or.inl rfl | exact Or.inr rfl))) (fun _ _ _ _ _ => (pts_one (pt_cmpR op_gt (pe_op op_mod (pe_callS G_law_draw (hr.mono (by omega)) rfl T.g_law_draw k_law_draw b_law_draw_ (fun σ => passAt takes0 σ) (pa_cons (pv 0) pa_nil)) pe_int) pe_int (nomark _)))) (fun _ _ _ _ _ => (pe_tup (pa_cons (pv 5) (pa_cons (pv 4) pa_nil))))) pa_nil))))
 (pss_one (ps_if (pt_cmpR (op_ltUK (K := K) (by rfl) hu0) (pv 2) pe_int (nomark _))
 (pss_one (ps_expr (pe_bmK' (K := K) (by rfl) PySem.F.plainAttrs_list PySem.F.slot_list_extend PySem.F.type_list_extend mt_extend (pv 3) (pa_cons (pe_lc (own := [("_law_u", 5)]) rfl nd (pi_range1 rfl T.z_range (pa_cons (pv 4) pa_nil)) (blkOk_by (N := N_law_some_pairs) (sc := defScope s_law_some_pairs) (by decide +kernel)) (fun _ _ _ _ _ => (pg_name (i := 5) nd rfl (by first | exact Or.inl rfl | exact Or.inr rfl))) (fun _ _ _ _ _ => (pts_one (pt_cmpR (op_ltUK (K := K) (by rfl) hu0) (pe_op op_mod (pe_op op_mul (pe_callS G_law_draw (hr.mono (by omega)) rfl T.g_law_draw k_law_draw b_law_draw_ (fun σ => passAt takes0 σ) (pa_cons (pv 0) pa_nil)) pe_int) (pe_op op_mul pe_int (pv 1))) pe_int (nomark _)))) (fun _ _ _ _ _ => (pe_tup (pa_cons (pv 5) (pa_cons (pv 4) pa_nil))))) pa_nil))))
 pss_nil)))))))))))))))
 (pss_cons (ps_if (PW.pt (pw_and (pt_cmpR (op_eqDK (K := K) (by rfl) hu) (pv 2) pe_int (nomark _)) (pw_and (pt_cmpR op_gt (pv 1) pe_int (nomark _)) (pw_and1 (pt_cmpR (op_eqDK (K := K) (by rfl) hu) (pe_op op_mod (pe_callS G_law_draw (hr.mono (by omega)) rfl T.g_law_draw k_law_draw b_law_draw_ (fun σ => passAt (takes_of rfl rfl rfl rfl) σ) (pa_cons (pv 0) pa_nil)) pe_int) pe_int (nomark _))))))
 (pss_one (ps_expr (pe_bmK' (K := K) (by rfl) PySem.F.plainAttrs_list PySem.F.slot_list_append PySem.F.type_list_append mt_append (pv 3) (pa_cons (pe_tup (pa_cons pe_int (pa_cons (pe_op op_sub (pv 1) pe_int) pa_nil))) pa_nil))))
 pss_nil)
 (pss_cons (ps_for (passes_of rfl) rfl (pi_range1 rfl T.z_range (pa_cons (pe_op op_mod (pe_callS G_law_draw (hr.mono (by omega)) rfl T.g_law_draw k_law_draw b_law_draw_ (fun σ => passAt (takes_of rfl rfl rfl rfl) σ) (pa_cons (pv 0) pa_nil)) pe_int) pa_nil)) (pg_name (i := 6) nd rfl (by first | exact Or.inl rfl | exact Or.inr rfl))
 (pss_one (ps_if (pt_cmpR op_gt (pv 1) pe_int (nomark _))
 (pss_cons (ps_set (i := 5) nd rfl (by first | exact Or.inl rfl | exact Or.inr rfl) (pe_op op_mod (pe_callS G_law_draw (hr.mono (by omega)) rfl T.g_law_draw k_law_draw b_law_draw_ (fun σ => passAt (takes_of rfl rfl rfl rfl) σ) (pa_cons (pv 0) pa_nil)) (pv 1)))
 (pss_cons (ps_set (i := 4) nd rfl (by first | exact Or.inl rfl | exact Or.inr rfl) (pe_op op_mod (pe_op (op_addUK (K := K) (by rfl)) (pe_op (op_addUK (K := K) (by rfl)) (pv 5) pe_int) (pe_op op_mod (pe_callS G_law_draw (hr.mono (by omega)) rfl T.g_law_draw k_law_draw b_law_draw_ (fun σ => passAt (takes_of rfl rfl rfl rfl) σ) (pa_cons (pv 0) pa_nil)) (pe_op op_sub (pv 1) pe_int))) (pv 1)))
 (pss_one (ps_expr (pe_bmK' (K := K) (by rfl) PySem.F.plainAttrs_list PySem.F.slot_list_append PySem.F.type_list_append mt_append (pv 3) (pa_cons (pe_tup (pa_cons (pe_callB (call_min2 rfl) rfl T.z_min bi_min (pa_cons (pv 5) (pa_cons (pv 4) pa_nil))) (pa_cons (pe_callB (call_max2 rfl) rfl T.z_max bi_max (pa_cons (pv 5) (pa_cons (pv 4) pa_nil))) pa_nil))) pa_nil))))))
 pss_nil)))
 (pss_one (ps_ret (pv 3)))))))), ?_⟩
  unfold b_law_some_pairs
  rw [l2_law_some_pairs_q, l1_law_some_pairs_q, x5_law_some_pairs_q, t5_law_some_pairs_q, x4_law_some_pairs_q, t4_law_some_pairs_q, x3_law_some_pairs_q, t3_law_some_pairs_q, x2_law_some_pairs_q, t2_law_some_pairs_q, x1_law_some_pairs_q, t1_law_some_pairs_q]
  exact (sim_seq (sim_asg (sim_op s_mod (sim_frz (sim_callR (sim_bRef sim_bNil) rfl rfl)) sim_ci) simG_name)
 (sim_seq (sim_asgF (sim_lstF sim_nil))
 (sim_seq (sim_for (sim_iRng2 (sim_cons sim_ci (sim_cons sim_var sim_nil)) ((na_cons (na_cons na_nil))).l) simG_name
 (sim_tidy (sim_ifS (sim_tTest (sim_op s_eq sim_var sim_ci))
 (sim_drop (sim_mtN (T := "list") (i := 3) (sim_cons (sim_tup (sim_cons (sim_op s_sub sim_var sim_ci) (sim_cons sim_var sim_nil))) sim_nil) s_append))
 (sim_ifS (sim_tTest (sim_op s_eq sim_var sim_ci))
 (sim_drop (sim_mtN (T := "list") (i := 3) (sim_cons (sim_tup (sim_cons (sim_op s_mod (sim_frz (sim_callR (sim_bRef sim_bNil) rfl rfl)) sim_var) (sim_cons sim_var sim_nil))) sim_nil) s_append))
 (sim_ifS (sim_tTest (sim_op s_eq sim_var sim_ci))
 (sim_drop (sim_mtN (T := "list") (i := 3) (sim_cons (sim_frz (sim_lcF (sim_iRng1 (sim_cons sim_var sim_nil) ((na_cons na_nil)).l) simG_name (by decide) (sim_and (sim_tTest (sim_op s_eq (sim_op s_mod (sim_op s_add sim_var sim_var) sim_ci) sim_ci)) (sim_tTest (sim_op s_eq (sim_op s_mod (sim_frz (sim_callR (sim_bRef sim_bNil) rfl rfl)) sim_ci) sim_ci))) (sim_tup (sim_cons sim_var (sim_cons sim_var sim_nil))))) sim_nil) s_extend))
 (sim_ifS (sim_tTest (sim_op s_eq sim_var sim_ci))
 (sim_drop (sim_mtN (T := "list") (i := 3) (sim_cons (sim_frz (sim_lcF (sim_iRng1 (sim_cons sim_var sim_nil) ((na_cons na_nil)).l) simG_name (by decide) (sim_tTest (sim_op s_eq (sim_op s_fdiv sim_var sim_ci) (sim_op s_fdiv sim_var sim_ci))) (sim_tup (sim_cons sim_var (sim_cons sim_var sim_nil))))) sim_nil) s_extend))
 (sim_ifS (sim_tTest (sim_op s_eq sim_var sim_ci))
 (sim_drop (sim_mtN (T := "list") (i := 3) (sim_cons (sim_frz (sim_lcF (sim_iRng1 (sim_cons sim_var sim_nil) ((na_cons na_nil)).l) simG_name (by decide) (sim_tTest (sim_op s_eq (sim_op s_mod (sim_frz (sim_callR (sim_bRef sim_bNil) rfl rfl)) sim_ci) sim_ci)) (sim_tup (sim_cons sim_var (sim_cons sim_var sim_nil))))) sim_nil) s_extend))
 (sim_ifS (sim_tTest (sim_op s_eq sim_var sim_ci))
 (sim_drop (sim_mtN (T := "list") (i := 3) (sim_cons (sim_frz (sim_lcF (sim_iRng1 (sim_cons sim_var sim_nil) ((na_cons na_nil)).l) simG_name (by decide) (sim_tTest (sim_op s_gt (sim_op s_mod (sim_frz (sim_callR (sim_bRef sim_bNil) rfl rfl)) sim_ci) sim_ci)) (sim_tup (sim_cons sim_var (sim_cons sim_var sim_nil))))) sim_nil) s_extend))
 (sim_ifS (sim_tTest (sim_op s_lt sim_var sim_ci))
 (sim_drop (sim_mtN (T := "list") (i := 3) (sim_cons (sim_frz (sim_lcF (sim_iRng1 (sim_cons sim_var sim_nil) ((na_cons na_nil)).l) simG_name (by decide) (sim_tTest (sim_op s_lt (sim_op s_mod (sim_op s_mul (sim_frz (sim_callR (sim_bRef sim_bNil) rfl rfl)) sim_ci) (sim_op s_mul sim_ci sim_var)) sim_ci)) (sim_tup (sim_cons sim_var (sim_cons sim_var sim_nil))))) sim_nil) s_extend))
 sim_next)))))))))
 (sim_seq (sim_ifS (sim_and (sim_tTest (sim_op s_eq sim_var sim_ci)) (sim_and (sim_tTest (sim_op s_gt sim_var sim_ci)) (sim_tTest (sim_op s_eq (sim_op s_mod (sim_frz (sim_callR (sim_bRef sim_bNil) rfl rfl)) sim_ci) sim_ci))))
 (sim_drop (sim_mtN (T := "list") (i := 3) (sim_cons (sim_tup (sim_cons sim_ci (sim_cons (sim_op s_sub sim_var sim_ci) sim_nil))) sim_nil) s_append))
 sim_next)
 (sim_seq (sim_for (sim_iRng1 (sim_cons (sim_op s_mod (sim_frz (sim_callR (sim_bRef sim_bNil) rfl rfl)) sim_ci) sim_nil) ((na_cons na_nil)).l) simG_name
 (sim_tidy (sim_tidy (sim_ifS (sim_tTest (sim_op s_gt sim_var sim_ci))
 (sim_seq (sim_asg (sim_op s_mod (sim_frz (sim_callR (sim_bRef sim_bNil) rfl rfl)) sim_var) simG_name)
 (sim_seq (sim_asg (sim_op s_mod (sim_op s_add (sim_op s_add sim_var sim_ci) (sim_op s_mod (sim_frz (sim_callR (sim_bRef sim_bNil) rfl rfl)) (sim_op s_sub sim_var sim_ci))) sim_var) simG_name)
 (sim_drop (sim_mtN (T := "list") (i := 3) (sim_cons (sim_tup (sim_cons (sim_cb s_2I (sim_cons sim_var (sim_cons sim_var sim_nil))) (sim_cons (sim_cb s_2I (sim_cons sim_var (sim_cons sim_var sim_nil))) sim_nil))) sim_nil) s_append))))
 sim_next))))
 sim_retMv)))))
abbrev N_law_edges : List Str := ["_law_draws", "_law_nodes"]
theorem sc_law_edges : FnScope N_law_edges ["_law_draws", "_law_nodes"] (defScope s_law_edges) := ⟨rfl, rfl, rfl, by decide +kernel, rfl, by decide +kernel, by decide +kernel⟩
theorem ok_law_edges (T : Txt K mg) : OkF P w K mg base (4) (He.ga K "_law_edges") ["_law_draws", "_law_nodes"] (SpOf K [true, false] (m_law_edges)) := by
  rw [mq_law_edges]
  obtain ⟨fd, F, bF⟩ := T.d_law_edges
  obtain ⟨⟨fd_law_turned, G_law_turned, b_law_turned_⟩, k_law_turned⟩ := ok_law_turned (P := P) (w := w) (base := base) T
  obtain ⟨⟨fd_law_some_pairs, G_law_some_pairs, b_law_some_pairs_⟩, k_law_some_pairs⟩ := ok_law_some_pairs (P := P) (w := w) (base := base) T
  refine ⟨⟨fd, fnV (k := 3) F sc_law_edges rfl fun cdv A outer s H E hr => ?_, bF⟩, F.kp⟩
  have nd := sc_law_edges.nd
  have hu := hr.units
  have hu1 := hr.units1
  have hu0 := hr.units0
  have hu5 := hr.units5
  refine ⟨_, (pss_one (ps_ret (pe_callS G_law_turned (hr.mono (by omega)) rfl T.g_law_turned k_law_turned b_law_turned_ (fun σ => passAt (takes_of rfl rfl rfl rfl) σ) (pa_cons (pv 0) (pa_cons (pv 1) (pa_cons (pe_callS G_law_some_pairs (hr.mono (by omega)) rfl T.g_law_some_pairs k_law_some_pairs b_law_some_pairs_ (fun σ => passAt (takes_of rfl rfl rfl rfl) σ) (pa_cons (pv 0) (pa_cons (pv 1) pa_nil))) pa_nil)))))), ?_⟩
  unfold b_law_edges
  exact (sim_retF (sim_callR (sim_bRef (sim_bCons sim_var (sim_bCons (sim_frz (sim_callR (sim_bRef (sim_bCons sim_var sim_bNil)) rfl rfl)) sim_bNil))) rfl rfl))
abbrev N_is_integer : List Str := ["value"]
theorem sc_is_integer : FnScope N_is_integer ["value"] (defScope s_is_integer) := ⟨rfl, rfl, rfl, by decide +kernel, rfl, by decide +kernel, by decide +kernel⟩
theorem ok_is_integer (T : Txt K mg) : OkF P w K mg base (1) (He.ga K "is_integer") ["value"] (SpOf K (List.replicate 1 false) (m_is_integer)) := by
  rw [mq_is_integer]
  obtain ⟨fd, F, bF⟩ := T.d_is_integer
  refine ⟨⟨fd, fnV (k := 0) F sc_is_integer rfl fun cdv A outer s H E hr => ?_, bF⟩, F.kp⟩
  have nd := sc_is_integer.nd
  have hu := hr.units
  have hu1 := hr.units1
  have hu0 := hr.units0
  have hu5 := hr.units5
  refine ⟨_, (pss_one (ps_ret (pe_and (pe_callB (call_isiU (K := K) (by rfl)) rfl T.z_isinstance bi_isinstance (pa_cons (pv 0) (pa_cons (pe_bltn rfl T.z_int bi_int tyR) pa_nil))) (pe_one (pe_notTK (K := K) (by rfl) (pe_callB (call_isiU (K := K) (by rfl)) rfl T.z_isinstance bi_isinstance (pa_cons (pv 0) (pa_cons (pe_bltn rfl T.z_bool bi_bool tyR) pa_nil)))))))), ?_⟩
  unfold b_is_integer
  exact (sim_ret (sim_andV (sim_cb s_isi (sim_cons sim_var (sim_cons sim_tyN sim_nil))) (sim_notT (sim_cb s_isi (sim_cons sim_var (sim_cons sim_tyN sim_nil))))))
abbrev N_is_index : List Str := ["value", "bound"]
theorem sc_is_index : FnScope N_is_index ["value", "bound"] (defScope s_is_index) := ⟨rfl, rfl, rfl, by decide +kernel, rfl, by decide +kernel, by decide +kernel⟩
theorem ok_is_index (T : Txt K mg) : OkF P w K mg base (2) (He.ga K "is_index") ["value", "bound"] (SpOf K (List.replicate 2 false) (m_is_index)) := by
  rw [mq_is_index]
  obtain ⟨fd, F, bF⟩ := T.d_is_index
  obtain ⟨⟨fd_is_integer, G_is_integer, b_is_integer_⟩, k_is_integer⟩ := ok_is_integer (P := P) (w := w) (base := base) T
  refine ⟨⟨fd, fnV (k := 1) F sc_is_index rfl fun cdv A outer s H E hr => ?_, bF⟩, F.kp⟩
  have nd := sc_is_index.nd
  have hu := hr.units
  have hu1 := hr.units1
  have hu0 := hr.units0
  have hu5 := hr.units5
  refine ⟨_, (pss_one (ps_ret (pe_and (pe_callS G_is_integer (hr.mono (by omega)) rfl T.g_is_integer k_is_integer b_is_integer_ (fun σ => passAt (takes_of rfl rfl rfl rfl) σ) (pa_cons (pv 0) pa_nil)) (pe_one (pe_chain (op_leUK (K := K) (by rfl) hu0) (op_ltUK (K := K) (by rfl) hu0) pe_int (pv 0) (pv 1)))))), ?_⟩
  unfold b_is_index
  exact (sim_ret (sim_andV (sim_frz (sim_callF (sim_cons sim_var sim_nil) (na_cons na_nil))) (sim_chain s_le s_lt sim_ci sim_var sim_var)))
abbrev N_check_edges : List Str := ["nodes", "edges", "last", "edge"]
theorem sc_check_edges : FnScope N_check_edges ["nodes", "edges"] (defScope s_check_edges) := ⟨rfl, rfl, rfl, by decide +kernel, rfl, by decide +kernel, by decide +kernel⟩
theorem ok_check_edges (T : Txt K mg) : OkF P w K mg base (3) (He.ga K "check_edges") ["nodes", "edges"] (SpOf K (List.replicate 2 false) (m_check_edges)) := by
  rw [mq_check_edges]
  obtain ⟨fd, F, bF⟩ := T.d_check_edges
  obtain ⟨⟨fd_is_integer, G_is_integer, b_is_integer_⟩, k_is_integer⟩ := ok_is_integer (P := P) (w := w) (base := base) T
  obtain ⟨⟨fd_is_index, G_is_index, b_is_index_⟩, k_is_index⟩ := ok_is_index (P := P) (w := w) (base := base) T
  refine ⟨⟨fd, fnV (k := 2) F sc_check_edges rfl fun cdv A outer s H E hr => ?_, bF⟩, F.kp⟩
  have nd := sc_check_edges.nd
  have hu := hr.units
  have hu1 := hr.units1
  have hu0 := hr.units0
  have hu5 := hr.units5
  refine ⟨_, (pss_cons (ps_if (PW.pt (pw_or (pt_not (pt_truthK (K := K) (by rfl) (pe_callS G_is_integer (hr.mono (by omega)) rfl T.g_is_integer k_is_integer b_is_integer_ (fun σ => passAt (takes_of rfl rfl rfl rfl) σ) (pa_cons (pv 0) pa_nil)))) (pw_or1 (pt_not (pt_chain (op_leUK (K := K) (by rfl) hu0) (op_leUK (K := K) (by rfl) hu0) pe_int (pv 0) (pe_glob (v := .int 40) rfl T.i_MOST.choose_spec ⟨_, rfl⟩))))))
 (pss_one (ps_raise rfl (takes_of rfl rfl rfl rfl) (pmk_own PySem.F.excBase_ValueError T.x_BadGraph.x T.g_BadGraph T.x_BadGraph.k (raises_own T.x_BadGraph.b T.x_BadGraph.t) rfl)))
 pss_nil)
 (pss_cons (ps_if (pt_not (pt_truthK (K := K) (by rfl) (pe_callB (call_isiU (K := K) (by rfl)) rfl T.z_isinstance bi_isinstance (pa_cons (pv 1) (pa_cons (pe_bltn rfl T.z_list bi_list tyR) pa_nil)))))
 (pss_one (ps_raise rfl (takes_of rfl rfl rfl rfl) (pmk_own PySem.F.excBase_ValueError T.x_BadGraph.x T.g_BadGraph T.x_BadGraph.k (raises_own T.x_BadGraph.b T.x_BadGraph.t) rfl)))
 pss_nil)
 (pss_cons (ps_set (i := 2) nd rfl (by first | exact Or.inl rfl | exact Or.inr rfl) (pe_tup (pa_cons (pe_un un_neg pe_int) (pa_cons (pe_un un_neg pe_int) pa_nil))))
 (pss_one (ps_for (passes_of rfl) rfl (pi_seqK (K := K) (by rfl) (pv 1)) (pg_name (i := 3) nd rfl (by first | exact Or.inl rfl | exact Or.inr rfl))
 (pss_cons (ps_if (PW.pt (pw_or (pt_not (pt_truthK (K := K) (by rfl) (pe_callB (call_isiU (K := K) (by rfl)) rfl T.z_isinstance bi_isinstance (pa_cons (pv 3) (pa_cons (pe_bltn rfl T.z_tuple bi_tuple tyR) pa_nil))))) (pw_or1 (pt_cmpR (op_neDK (K := K) (by rfl) hu) (pe_callB (call_lenK (K := K) (by rfl)) rfl T.z_len bi_len (pa_cons (pv 3) pa_nil)) pe_int (nomark _)))))
 (pss_one (ps_raise rfl (takes_of rfl rfl rfl rfl) (pmk_own PySem.F.excBase_ValueError T.x_BadGraph.x T.g_BadGraph T.x_BadGraph.k (raises_own T.x_BadGraph.b T.x_BadGraph.t) rfl)))
 pss_nil)
 (pss_cons (ps_if (PW.pt (pw_or (pt_not (pt_truthK (K := K) (by rfl) (pe_callS G_is_index (hr.mono (by omega)) rfl T.g_is_index k_is_index b_is_index_ (fun σ => passAt (takes_of rfl rfl rfl rfl) σ) (pa_cons (pe_ix (ix_seqK (K := K) (by rfl)) (pv 3) pe_int (fun _ _ => rfl)) (pa_cons (pv 0) pa_nil))))) (pw_or1 (pt_not (pt_truthK (K := K) (by rfl) (pe_callS G_is_index (hr.mono (by omega)) rfl T.g_is_index k_is_index b_is_index_ (fun σ => passAt (takes_of rfl rfl rfl rfl) σ) (pa_cons (pe_ix (ix_seqK (K := K) (by rfl)) (pv 3) pe_int (fun _ _ => rfl)) (pa_cons (pv 0) pa_nil))))))))
 (pss_one (ps_raise rfl (takes_of rfl rfl rfl rfl) (pmk_own PySem.F.excBase_ValueError T.x_BadGraph.x T.g_BadGraph T.x_BadGraph.k (raises_own T.x_BadGraph.b T.x_BadGraph.t) rfl)))
 pss_nil)
 (pss_cons (ps_if (PW.pt (pw_or (pt_cmpR op_ge (pe_ix (ix_seqK (K := K) (by rfl)) (pv 3) pe_int (fun _ _ => rfl)) (pe_ix (ix_seqK (K := K) (by rfl)) (pv 3) pe_int (fun _ _ => rfl)) (nomark _)) (pw_or1 (pt_cmpR (op_leUK (K := K) (by rfl) hu0) (pv 3) (pv 2) (nomark _)))))
 (pss_one (ps_raise rfl (takes_of rfl rfl rfl rfl) (pmk_own PySem.F.excBase_ValueError T.x_BadGraph.x T.g_BadGraph T.x_BadGraph.k (raises_own T.x_BadGraph.b T.x_BadGraph.t) rfl)))
 pss_nil)
 (pss_one (ps_set (i := 2) nd rfl (by first | exact Or.inl rfl | exact Or.inr rfl) (pv 3))))))))))), ?_⟩
  unfold b_check_edges
  rw [l1_check_edges_q]
  exact (sim_seq (sim_ifS (sim_or (sim_not (sim_tru (sim_frz (sim_callF (sim_cons sim_var sim_nil) (na_cons na_nil))))) (sim_not (sim_tTest (sim_chain s_le s_le sim_ci sim_var sim_ci))))
 sim_raise
 sim_next)
 (sim_seq (sim_ifS (sim_not (sim_tru (sim_cb s_isi (sim_cons sim_var (sim_cons sim_tyN sim_nil)))))
 sim_raise
 sim_next)
 (sim_seq (sim_asg (sim_tup (sim_cons (sim_un s_neg sim_ci) (sim_cons (sim_un s_neg sim_ci) sim_nil))) simG_name)
 (sim_tidy (sim_for (sim_iSeq sim_var) simG_name
 (sim_tidy (sim_seq (sim_ifS (sim_or (sim_not (sim_tru (sim_cb s_isi (sim_cons sim_var (sim_cons sim_tyN sim_nil))))) (sim_tTest (sim_op s_ne (sim_cb s_len (sim_cons sim_var sim_nil)) sim_ci)))
 sim_raise
 sim_next)
 (sim_seq (sim_ifS (sim_or (sim_not (sim_tru (sim_frz (sim_callF (sim_cons (sim_op s_ix sim_var sim_ci) (sim_cons sim_var sim_nil)) (na_cons (na_cons na_nil)))))) (sim_not (sim_tru (sim_frz (sim_callF (sim_cons (sim_op s_ix sim_var sim_ci) (sim_cons sim_var sim_nil)) (na_cons (na_cons na_nil)))))))
 sim_raise
 sim_next)
 (sim_seq (sim_ifS (sim_or (sim_tTest (sim_op s_ge (sim_op s_ix sim_var sim_ci) (sim_op s_ix sim_var sim_ci))) (sim_tTest (sim_op s_le sim_var sim_var)))
 sim_raise
 sim_next)
 (sim_asg sim_var simG_name))))))))))
abbrev N_Graph__init : List Str := ["self", "nodes", "edges", "_", "first", "second", "row"]
theorem sc_Graph__init : FnScope N_Graph__init ["self", "nodes", "edges"] (defScope s_Graph__init) := ⟨rfl, rfl, rfl, by decide +kernel, rfl, by decide +kernel, by decide +kernel⟩
theorem ok_Graph__init (T : Txt K mg) : OkF P w K mg base (4) (He.ma K (He.ga K "Graph") "__init__") ["self", "nodes", "edges"] (SpOf K [true, false, false] (m_Graph__init)) := by
  rw [mq_Graph__init]
  obtain ⟨fd, F, bF⟩ := T.d_Graph__init
  obtain ⟨⟨fd_check_edges, G_check_edges, b_check_edges_⟩, k_check_edges⟩ := ok_check_edges (P := P) (w := w) (base := base) T
  refine ⟨⟨fd, fnV (k := 3) F sc_Graph__init rfl fun cdv A outer s H E hr => ?_, bF⟩, F.kp⟩
  have nd := sc_Graph__init.nd
  have hu := hr.units
  have hu1 := hr.units1
  have hu0 := hr.units0
  have hu5 := hr.units5
  refine ⟨_, (pss_cons (ps_expr (pe_callS G_check_edges (hr.mono (by omega)) rfl T.g_check_edges k_check_edges b_check_edges_ (fun σ => passAt (takes_of rfl rfl rfl rfl) σ) (pa_cons (pv 1) (pa_cons (pv 2) pa_nil))))
 (pss_cons (ps_fld (pv 0) (pv 1) rfl)
 (pss_cons (ps_fld (pv 0) (pe_callTy (call_list_ofK (K := K) (by rfl)) rfl T.z_list bi_list (pa_cons (pv 2) pa_nil)) rfl)
 (pss_cons (ps_fld (pv 0) (pe_lc (own := [("_", 3)]) rfl nd (pi_range1 rfl T.z_range (pa_cons (pv 1) pa_nil)) (blkOk_by (N := N_Graph__init) (sc := defScope s_Graph__init) (by decide +kernel)) (fun _ _ _ _ _ => (pg_name (i := 3) nd rfl (by first | exact Or.inl rfl | exact Or.inr rfl))) (fun _ _ _ _ _ => pts_nil) (fun _ _ _ _ _ => (pe_lst pa_nil))) rfl)
 (pss_cons (ps_for (passes_of rfl) rfl (pi_seqK (K := K) (by rfl) (pv 2)) (pg_tupK (n := 2) (K := K) (by rfl) rfl (pgs_cons (pg_name (i := 4) nd rfl (by first | exact Or.inl rfl | exact Or.inr rfl)) (pgs_cons (pg_name (i := 5) nd rfl (by first | exact Or.inl rfl | exact Or.inr rfl)) pgs_nil)))
 (pss_cons (ps_expr (pe_bmK' (K := K) (by rfl) PySem.F.plainAttrs_list PySem.F.slot_list_append PySem.F.type_list_append mt_append (pe_ix (ix_seqK (K := K) (by rfl)) (pe_fldK (K := K) (by rfl) (pv 0)) (pv 4) (fun _ _ => rfl)) (pa_cons (pv 5) pa_nil)))
 (pss_one (ps_expr (pe_bmK' (K := K) (by rfl) PySem.F.plainAttrs_list PySem.F.slot_list_append PySem.F.type_list_append mt_append (pe_ix (ix_seqK (K := K) (by rfl)) (pe_fldK (K := K) (by rfl) (pv 0)) (pv 5) (fun _ _ => rfl)) (pa_cons (pv 4) pa_nil))))))
 (pss_one (ps_fld (pv 0) (pe_lc (own := [("row", 6)]) rfl nd (pi_seqK (K := K) (by rfl) (pe_fldK (K := K) (by rfl) (pv 0))) (blkOk_by (N := N_Graph__init) (sc := defScope s_Graph__init) (by decide +kernel)) (fun _ _ _ _ _ => (pg_name (i := 6) nd rfl (by first | exact Or.inl rfl | exact Or.inr rfl))) (fun _ _ _ _ _ => pts_nil) (fun _ _ _ _ _ => (pe_callB (cr_sortUK (K := K) (by rfl)) rfl T.z_sorted bi_sorted (pa_cons (pv 6) pa_nil)))) rfl))))))), ?_⟩
  unfold b_Graph__init
  rw [x2_Graph__init_q, l1_Graph__init_q, x1_Graph__init_q]
  exact (sim_seq (sim_drop (sim_frz (sim_callF (sim_cons sim_var (sim_cons sim_var sim_nil)) (na_cons (na_cons na_nil)))))
 (sim_seq (sim_fldF (ClsA.mk T.c_Graph T.n_Graph_nodes) (sim_val sim_var) sim_lN)
 (sim_seq (sim_fldF (ClsA.mk T.c_Graph T.n_Graph_edges) (sim_val (sim_frz (sim_appF (sim_cons sim_var sim_nil) s_listF))) sim_lN)
 (sim_seq (sim_fldF (ClsA.mk T.c_Graph T.n_Graph_links) (sim_lcN (sim_iRng1 (sim_cons sim_var sim_nil) ((na_cons na_nil)).l) simG_name (by decide) sim_yes (sim_lstF sim_nil)) sim_lN)
 (sim_seq (sim_for (sim_iSeq sim_var) (simG_tup rfl (simGs_cons simG_name (simGs_cons simG_name simGs_nil)))
 (sim_tidy (sim_seq (sim_drop (sim_mt (T := "list") (sim_lIx (sim_lFd (ClsA.mk T.c_Graph T.n_Graph_links) sim_lN) sim_var) (sim_cons sim_var sim_nil) s_append))
 (sim_drop (sim_mt (T := "list") (sim_lIx (sim_lFd (ClsA.mk T.c_Graph T.n_Graph_links) sim_lN) sim_var) (sim_cons sim_var sim_nil) s_append)))))
 (sim_gh simH_frP (sim_fldF (ClsA.mk T.c_Graph T.n_Graph_links) (sim_val (sim_frz (sim_lcF (sim_iSeq (sim_un (s_fld (ClsA.mk T.c_Graph T.n_Graph_links)) sim_var)) simG_name (by decide) sim_yes (sim_frz (sim_appF (sim_cons sim_var sim_nil) s_sortF))))) sim_lN)))))))
abbrev N_law_all_equal : List Str := ["_law_actual", "_law_due", "_law_k"]
theorem sc_law_all_equal : FnScope N_law_all_equal ["_law_actual", "_law_due"] (defScope s_law_all_equal) := ⟨rfl, rfl, rfl, by decide +kernel, rfl, by decide +kernel, by decide +kernel⟩
theorem ok_law_all_equal (T : Txt K mg) {kr : Nat} {rec : FS} (R : OkF P w K mg base kr (He.ga K "_law_equal") ["_law_actual", "_law_due"] (SpOf K (List.replicate 2 false) rec)) : OkF P w K mg base (kr + 1) (He.ga K "_law_all_equal") ["_law_actual", "_law_due"] (SpOf K (List.replicate 2 false) (m_law_all_equal rec)) := by
  rw [mq_law_all_equal]
  obtain ⟨fd, F, bF⟩ := T.d_law_all_equal
  obtain ⟨⟨fd_law_equal, G_law_equal, b_law_equal_⟩, k_law_equal⟩ := R
  refine ⟨⟨fd, fnV (k := kr + 0) F sc_law_all_equal rfl fun cdv A outer s H E hr => ?_, bF⟩, F.kp⟩
  have nd := sc_law_all_equal.nd
  have hu := hr.units
  have hu1 := hr.units1
  have hu0 := hr.units0
  have hu5 := hr.units5
  refine ⟨_, (pss_cons (ps_for (passes_of rfl) rfl (pi_range1 rfl T.z_range (pa_cons (pe_callB (call_lenK (K := K) (by rfl)) rfl T.z_len bi_len (pa_cons (pv 1) pa_nil)) pa_nil)) (pg_name (i := 2) nd rfl (by first | exact Or.inl rfl | exact Or.inr rfl))
 (pss_one (ps_if (pt_not (pt_truthK (K := K) (by rfl) (pe_callS G_law_equal (hr.mono (by omega)) rfl T.g_law_equal k_law_equal b_law_equal_ (fun σ => passAt (takes_of rfl rfl rfl rfl) σ) (pa_cons (pe_ix (ix_seqK (K := K) (by rfl)) (pv 0) (pv 2) (fun _ _ => rfl)) (pa_cons (pe_ix (ix_seqK (K := K) (by rfl)) (pv 1) (pv 2) (fun _ _ => rfl)) pa_nil)))))
 (pss_one (ps_ret pe_bl))
 pss_nil)))
 (pss_one (ps_ret pe_bl))), ?_⟩
  unfold b_law_all_equal
  rw [l1_law_all_equal_q]
  exact (sim_seq (sim_for (sim_iRng1 (sim_cons (sim_cb s_len (sim_cons sim_var sim_nil)) sim_nil) ((na_cons na_nil)).l) simG_name
 (sim_tidy (sim_ifS (sim_not (sim_tru (sim_frz (sim_callF (sim_cons (sim_op s_ix sim_var sim_var) (sim_cons (sim_op s_ix sim_var sim_var) sim_nil)) (na_cons (na_cons na_nil))))))
 (sim_ret sim_cb')
 sim_next)))
 (sim_ret sim_cb'))
abbrev N_law_equal : List Str := ["_law_actual", "_law_due"]
theorem sc_law_equal : FnScope N_law_equal ["_law_actual", "_law_due"] (defScope s_law_equal) := ⟨rfl, rfl, rfl, by decide +kernel, rfl, by decide +kernel, by decide +kernel⟩
theorem ok_law_equal_step (T : Txt K mg) {kr : Nat} {rec : FS} (R : OkF P w K mg base kr (He.ga K "_law_equal") ["_law_actual", "_law_due"] (SpOf K (List.replicate 2 false) rec)) : OkF P w K mg base (kr + 2) (He.ga K "_law_equal") ["_law_actual", "_law_due"] (SpOf K (List.replicate 2 false) (m_law_equal_step rec)) := by
  rw [mq_law_equal_step]
  obtain ⟨fd, F, bF⟩ := T.d_law_equal
  obtain ⟨⟨fd_law_all_equal, G_law_all_equal, b_law_all_equal_⟩, k_law_all_equal⟩ := ok_law_all_equal T R
  refine ⟨⟨fd, fnV (k := kr + 1) F sc_law_equal rfl fun cdv A outer s H E hr => ?_, bF⟩, F.kp⟩
  have nd := sc_law_equal.nd
  have hu := hr.units
  have hu1 := hr.units1
  have hu0 := hr.units0
  have hu5 := hr.units5
  refine ⟨_, (pss_cons (ps_if (pt_truthK (K := K) (by rfl) (pe_callB (call_isiU (K := K) (by rfl)) rfl T.z_isinstance bi_isinstance (pa_cons (pv 1) (pa_cons (pe_bltn rfl T.z_list bi_list tyR) pa_nil))))
 (pss_cons (ps_if (PW.pt (pw_or (pt_not (pt_truthK (K := K) (by rfl) (pe_callB (call_isiU (K := K) (by rfl)) rfl T.z_isinstance bi_isinstance (pa_cons (pv 0) (pa_cons (pe_bltn rfl T.z_list bi_list tyR) pa_nil))))) (pw_or1 (pt_cmpR (op_neDK (K := K) (by rfl) hu) (pe_callB (call_lenK (K := K) (by rfl)) rfl T.z_len bi_len (pa_cons (pv 0) pa_nil)) (pe_callB (call_lenK (K := K) (by rfl)) rfl T.z_len bi_len (pa_cons (pv 1) pa_nil)) (nomark _)))))
 (pss_one (ps_ret pe_bl))
 pss_nil)
 (pss_one (ps_ret (pe_callS G_law_all_equal (hr.mono (by omega)) rfl T.g_law_all_equal k_law_all_equal b_law_all_equal_ (fun σ => passAt (takes_of rfl rfl rfl rfl) σ) (pa_cons (pv 0) (pa_cons (pv 1) pa_nil))))))
 pss_nil)
 (pss_cons (ps_if (pt_truthK (K := K) (by rfl) (pe_callB (call_isiU (K := K) (by rfl)) rfl T.z_isinstance bi_isinstance (pa_cons (pv 1) (pa_cons (pe_bltn rfl T.z_tuple bi_tuple tyR) pa_nil))))
 (pss_cons (ps_if (PW.pt (pw_or (pt_not (pt_truthK (K := K) (by rfl) (pe_callB (call_isiU (K := K) (by rfl)) rfl T.z_isinstance bi_isinstance (pa_cons (pv 0) (pa_cons (pe_bltn rfl T.z_tuple bi_tuple tyR) pa_nil))))) (pw_or1 (pt_cmpR (op_neDK (K := K) (by rfl) hu) (pe_callB (call_lenK (K := K) (by rfl)) rfl T.z_len bi_len (pa_cons (pv 0) pa_nil)) (pe_callB (call_lenK (K := K) (by rfl)) rfl T.z_len bi_len (pa_cons (pv 1) pa_nil)) (nomark _)))))
 (pss_one (ps_ret pe_bl))
 pss_nil)
 (pss_one (ps_ret (pe_callS G_law_all_equal (hr.mono (by omega)) rfl T.g_law_all_equal k_law_all_equal b_law_all_equal_ (fun σ => passAt (takes_of rfl rfl rfl rfl) σ) (pa_cons (pv 0) (pa_cons (pv 1) pa_nil))))))
 pss_nil)
 (pss_cons (ps_if (pt_truthK (K := K) (by rfl) (pe_callB (call_isiU (K := K) (by rfl)) rfl T.z_isinstance bi_isinstance (pa_cons (pv 1) (pa_cons (pe_bltn rfl T.z_bool bi_bool tyR) pa_nil))))
 (pss_one (ps_ret (pe_and (pe_callB (call_isiU (K := K) (by rfl)) rfl T.z_isinstance bi_isinstance (pa_cons (pv 0) (pa_cons (pe_bltn rfl T.z_bool bi_bool tyR) pa_nil))) (pe_one (pe_cmpR (op_eqDK (K := K) (by rfl) hu) (pv 0) (pv 1) (nomark _))))))
 pss_nil)
 (pss_cons (ps_if (pt_truthK (K := K) (by rfl) (pe_callB (call_isiU (K := K) (by rfl)) rfl T.z_isinstance bi_isinstance (pa_cons (pv 1) (pa_cons (pe_bltn rfl T.z_int bi_int tyR) pa_nil))))
 (pss_one (ps_ret (pe_and (pe_callB (call_isiU (K := K) (by rfl)) rfl T.z_isinstance bi_isinstance (pa_cons (pv 0) (pa_cons (pe_bltn rfl T.z_int bi_int tyR) pa_nil))) (pe_and (pe_notTK (K := K) (by rfl) (pe_callB (call_isiU (K := K) (by rfl)) rfl T.z_isinstance bi_isinstance (pa_cons (pv 0) (pa_cons (pe_bltn rfl T.z_bool bi_bool tyR) pa_nil)))) (pe_one (pe_cmpR (op_eqDK (K := K) (by rfl) hu) (pv 0) (pv 1) (nomark _)))))))
 pss_nil)
 (pss_cons (ps_if (pt_truthK (K := K) (by rfl) (pe_callB (call_isiU (K := K) (by rfl)) rfl T.z_isinstance bi_isinstance (pa_cons (pv 1) (pa_cons (pe_bltn rfl T.z_str bi_str tyR) pa_nil))))
 (pss_one (ps_ret (pe_and (pe_callB (call_isiU (K := K) (by rfl)) rfl T.z_isinstance bi_isinstance (pa_cons (pv 0) (pa_cons (pe_bltn rfl T.z_str bi_str tyR) pa_nil))) (pe_one (pe_cmpR (op_eqDK (K := K) (by rfl) hu) (pv 0) (pv 1) (nomark _))))))
 pss_nil)
 (pss_one (ps_ret (pe_cmpR op_isN (pv 0) pe_non (nomark _))))))))), ?_⟩
  unfold b_law_equal
  exact (sim_seq (sim_ifS (sim_tru (sim_cb s_isi (sim_cons sim_var (sim_cons sim_tyN sim_nil))))
 (sim_seq (sim_ifS (sim_or (sim_not (sim_tru (sim_cb s_isi (sim_cons sim_var (sim_cons sim_tyN sim_nil))))) (sim_tTest (sim_op s_ne (sim_cb s_len (sim_cons sim_var sim_nil)) (sim_cb s_len (sim_cons sim_var sim_nil)))))
 (sim_ret sim_cb')
 sim_next)
 (sim_retF (sim_callF (sim_cons sim_var (sim_cons sim_var sim_nil)) (na_cons (na_cons na_nil)))))
 sim_next)
 (sim_seq (sim_ifS (sim_tru (sim_cb s_isi (sim_cons sim_var (sim_cons sim_tyN sim_nil))))
 (sim_seq (sim_ifS (sim_or (sim_not (sim_tru (sim_cb s_isi (sim_cons sim_var (sim_cons sim_tyN sim_nil))))) (sim_tTest (sim_op s_ne (sim_cb s_len (sim_cons sim_var sim_nil)) (sim_cb s_len (sim_cons sim_var sim_nil)))))
 (sim_ret sim_cb')
 sim_next)
 (sim_retF (sim_callF (sim_cons sim_var (sim_cons sim_var sim_nil)) (na_cons (na_cons na_nil)))))
 sim_next)
 (sim_seq (sim_ifS (sim_tru (sim_cb s_isi (sim_cons sim_var (sim_cons sim_tyN sim_nil))))
 (sim_ret (sim_andV (sim_cb s_isi (sim_cons sim_var (sim_cons sim_tyN sim_nil))) (sim_op s_eq sim_var sim_var)))
 sim_next)
 (sim_seq (sim_ifS (sim_tru (sim_cb s_isi (sim_cons sim_var (sim_cons sim_tyN sim_nil))))
 (sim_ret (sim_andV (sim_cb s_isi (sim_cons sim_var (sim_cons sim_tyN sim_nil))) (sim_andV (sim_notT (sim_cb s_isi (sim_cons sim_var (sim_cons sim_tyN sim_nil)))) (sim_op s_eq sim_var sim_var))))
 sim_next)
 (sim_seq (sim_ifS (sim_tru (sim_cb s_isi (sim_cons sim_var (sim_cons sim_tyN sim_nil))))
 (sim_ret (sim_andV (sim_cb s_isi (sim_cons sim_var (sim_cons sim_tyN sim_nil))) (sim_op s_eq sim_var sim_var)))
 sim_next)
 (sim_ret (sim_op s_isN sim_var sim_cn)))))))
theorem ok_law_equal (T : Txt K mg) : ∀ n, OkF P w K mg base (2 * n + 1) (He.ga K "_law_equal") ["_law_actual", "_law_due"] (SpOf K (List.replicate 2 false) (m_law_equal n))
  | 0 => by
    obtain ⟨fd, F, bF⟩ := T.d_law_equal
    exact ⟨⟨fd, fnV (k := 0) F sc_law_equal rfl fun cdv A outer s H E hr => ⟨_, pss_never, sim_never⟩, bF⟩, F.kp⟩
  | n + 1 => (ok_law_equal_step T (ok_law_equal T n)).mono (by omega)
abbrev N_format_graph : List Str := ["graph", "words", "first", "second"]
theorem sc_format_graph : FnScope N_format_graph ["graph"] (defScope s_format_graph) := ⟨rfl, rfl, rfl, by decide +kernel, rfl, by decide +kernel, by decide +kernel⟩
theorem ok_format_graph (T : Txt K mg) : OkF P w K mg base (1) (He.ga K "format_graph") ["graph"] (SpOf K (List.replicate 1 false) (m_format_graph)) := by
  rw [mq_format_graph]
  obtain ⟨fd, F, bF⟩ := T.d_format_graph
  refine ⟨⟨fd, fnV (k := 0) F sc_format_graph rfl fun cdv A outer s H E hr => ?_, bF⟩, F.kp⟩
  have nd := sc_format_graph.nd
  have hu := hr.units
  have hu1 := hr.units1
  have hu0 := hr.units0
  have hu5 := hr.units5
  refine ⟨_, (pss_cons (ps_set (i := 1) nd rfl (by first | exact Or.inl rfl | exact Or.inr rfl) (pe_op (op_addUK (K := K) (by rfl)) (pe_lst (pa_cons (pe_joined (PJ.cons (pe_fmt (pe_fldK (K := K) (by rfl) (pv 0))) (PJ.cons pe_str PJ.nil))) pa_nil)) (pe_lc (own := [("first", 2), ("second", 3)]) rfl nd (pi_seqK (K := K) (by rfl) (pe_fldK (K := K) (by rfl) (pv 0))) (blkOk_by (N := N_format_graph) (sc := defScope s_format_graph) (by decide +kernel)) (fun _ _ _ _ _ => (pg_tupK (n := 2) (K := K) (by rfl) rfl (pgs_cons (pg_name (i := 2) nd rfl (by first | exact Or.inl rfl | exact Or.inr rfl)) (pgs_cons (pg_name (i := 3) nd rfl (by first | exact Or.inl rfl | exact Or.inr rfl)) pgs_nil)))) (fun _ _ _ _ _ => pts_nil) (fun _ _ _ _ _ => (pe_joined (PJ.cons (pe_fmt (pv 2)) (PJ.cons pe_str (PJ.cons (pe_fmt (pv 3)) PJ.nil))))))))
 (pss_one (ps_ret (pe_joinK (K := K) (by rfl) pe_str (pv 1))))), ?_⟩
  unfold b_format_graph
  rw [x1_format_graph_q]
  exact (sim_seq (sim_asg (sim_op s_add (sim_frz (sim_lstF (sim_cons (sim_js (SimJ.cons (sim_fmt (sim_un (s_fld (ClsA.mk T.c_Graph T.n_Graph_nodes)) sim_var)) (SimJ.cons sim_cs SimJ.nil))) sim_nil))) (sim_frz (sim_lcF (sim_iSeq (sim_un (s_fld (ClsA.mk T.c_Graph T.n_Graph_edges)) sim_var)) (simG_tup rfl (simGs_cons simG_name (simGs_cons simG_name simGs_nil))) (by decide) sim_yes (sim_js (SimJ.cons (sim_fmt sim_var) (SimJ.cons sim_cs (SimJ.cons (sim_fmt sim_var) SimJ.nil))))))) simG_name)
 (sim_ret (sim_tx s_join sim_cs sim_var)))
abbrev N_parse_number : List Str := ["text", "sign"]
theorem sc_parse_number : FnScope N_parse_number ["text"] (defScope s_parse_number) := ⟨rfl, rfl, rfl, by decide +kernel, rfl, by decide +kernel, by decide +kernel⟩
theorem ok_parse_number (T : Txt K mg) : OkF P w K mg base (1) (He.ga K "parse_number") ["text"] (SpOf K (List.replicate 1 false) (m_parse_number)) := by
  rw [mq_parse_number]
  obtain ⟨fd, F, bF⟩ := T.d_parse_number
  refine ⟨⟨fd, fnV (k := 0) F sc_parse_number rfl fun cdv A outer s H E hr => ?_, bF⟩, F.kp⟩
  have nd := sc_parse_number.nd
  have hu := hr.units
  have hu1 := hr.units1
  have hu0 := hr.units0
  have hu5 := hr.units5
  refine ⟨_, (pss_cons (ps_if (pt_not (pt_chain (op_leUK (K := K) (by rfl) hu0) (op_leUK (K := K) (by rfl) hu0) pe_int (pe_callB (call_lenK (K := K) (by rfl)) rfl T.z_len bi_len (pa_cons (pv 0) pa_nil)) pe_int))
 (pss_one (ps_raise rfl (takes_of rfl rfl rfl rfl) (pmk_own PySem.F.excBase_ValueError T.x_BadText.x T.g_BadText T.x_BadText.k (raises_own T.x_BadText.b T.x_BadText.t) rfl)))
 pss_nil)
 (pss_cons (ps_for (passes_of rfl) rfl (pi_str (pv 0)) (pg_name (i := 1) nd rfl (by first | exact Or.inl rfl | exact Or.inr rfl))
 (pss_one (ps_if (pt_cmpR (op_niUK (K := K) (by rfl) hu5) (pv 1) pe_str rfl)
 (pss_one (ps_raise rfl (takes_of rfl rfl rfl rfl) (pmk_own PySem.F.excBase_ValueError T.x_BadText.x T.g_BadText T.x_BadText.k (raises_own T.x_BadText.b T.x_BadText.t) rfl)))
 pss_nil)))
 (pss_cons (ps_if (PW.pt (pw_and (pt_cmpR op_eq (pe_ix (ix_seqK (K := K) (by rfl)) (pv 0) pe_int (fun _ _ => rfl)) pe_str (nomark _)) (pw_and1 (pt_cmpR op_gt (pe_callB (call_lenK (K := K) (by rfl)) rfl T.z_len bi_len (pa_cons (pv 0) pa_nil)) pe_int (nomark _)))))
 (pss_one (ps_raise rfl (takes_of rfl rfl rfl rfl) (pmk_own PySem.F.excBase_ValueError T.x_BadText.x T.g_BadText T.x_BadText.k (raises_own T.x_BadText.b T.x_BadText.t) rfl)))
 pss_nil)
 (pss_one (ps_ret (pe_callTy call_int_str rfl T.z_int bi_int (pa_cons (pv 0) pa_nil))))))), ?_⟩
  unfold b_parse_number
  rw [l1_parse_number_q]
  exact (sim_seq (sim_ifS (sim_not (sim_tTest (sim_chain s_le s_le sim_ci (sim_cb s_len (sim_cons sim_var sim_nil)) sim_ci)))
 sim_raise
 sim_next)
 (sim_seq (sim_for (sim_iStr sim_var) simG_name
 (sim_tidy (sim_ifS (sim_tTest (sim_op s_in sim_var sim_cs))
 sim_raise
 sim_next)))
 (sim_seq (sim_ifS (sim_and (sim_tTest (sim_op s_eqS (sim_op s_ix sim_var sim_ci) sim_cs)) (sim_tTest (sim_op s_gt (sim_cb s_len (sim_cons sim_var sim_nil)) sim_ci)))
 sim_raise
 sim_next)
 (sim_ret (sim_cb s_intT (sim_cons sim_var sim_nil))))))
abbrev N_parse_graph : List Str := ["text", "words", "nodes", "edges", "word", "ends", "graph"]
theorem sc_parse_graph : FnScope N_parse_graph ["text"] (defScope s_parse_graph) := ⟨rfl, rfl, rfl, by decide +kernel, rfl, by decide +kernel, by decide +kernel⟩
theorem ok_parse_graph (T : Txt K mg) : OkF P w K mg base (6) (He.ga K "parse_graph") ["text"] (SpOf K (List.replicate 1 false) (m_parse_graph)) := by
  rw [mq_parse_graph]
  obtain ⟨fd, F, bF⟩ := T.d_parse_graph
  obtain ⟨⟨fd_parse_number, G_parse_number, b_parse_number_⟩, k_parse_number⟩ := ok_parse_number (P := P) (w := w) (base := base) T
  obtain ⟨⟨fd_Graph__init, G_Graph__init, b_Graph__init_⟩, k_Graph__init⟩ := ok_Graph__init (P := P) (w := w) (base := base) T
  refine ⟨⟨fd, fnV (k := 5) F sc_parse_graph rfl fun cdv A outer s H E hr => ?_, bF⟩, F.kp⟩
  have nd := sc_parse_graph.nd
  have hu := hr.units
  have hu1 := hr.units1
  have hu0 := hr.units0
  have hu5 := hr.units5
  refine ⟨_, (pss_cons (ps_if (pt_not (pt_truthK (K := K) (by rfl) (pe_callB (call_isiU (K := K) (by rfl)) rfl T.z_isinstance bi_isinstance (pa_cons (pv 0) (pa_cons (pe_bltn rfl T.z_str bi_str tyR) pa_nil)))))
 (pss_one (ps_raise rfl (takes_of rfl rfl rfl rfl) (pmk_own PySem.F.excBase_ValueError T.x_BadText.x T.g_BadText T.x_BadText.k (raises_own T.x_BadText.b T.x_BadText.t) rfl)))
 pss_nil)
 (pss_cons (ps_set (i := 1) nd rfl (by first | exact Or.inl rfl | exact Or.inr rfl) (pe_splitT (pv 0) pe_str))
 (pss_cons (ps_if (pt_cmpR op_ne (pe_slice C8.sl_txt (pe_ix (ix_seqK (K := K) (by rfl)) (pv 1) pe_int (fun _ _ => rfl)) (po_some (pe_un un_neg pe_int)) po_none) pe_str (nomark _))
 (pss_one (ps_raise rfl (takes_of rfl rfl rfl rfl) (pmk_own PySem.F.excBase_ValueError T.x_BadText.x T.g_BadText T.x_BadText.k (raises_own T.x_BadText.b T.x_BadText.t) rfl)))
 pss_nil)
 (pss_cons (ps_set (i := 2) nd rfl (by first | exact Or.inl rfl | exact Or.inr rfl) (pe_callS G_parse_number (hr.mono (by omega)) rfl T.g_parse_number k_parse_number b_parse_number_ (fun σ => passAt (takes_of rfl rfl rfl rfl) σ) (pa_cons (pe_slice C8.sl_txt (pe_ix (ix_seqK (K := K) (by rfl)) (pv 1) pe_int (fun _ _ => rfl)) po_none (po_some (pe_un un_neg pe_int))) pa_nil)))
 (pss_cons (ps_set (i := 3) nd rfl (by first | exact Or.inl rfl | exact Or.inr rfl) (pe_lst pa_nil))
 (pss_cons (ps_for (passes_of rfl) rfl (pi_seqK (K := K) (by rfl) (pe_slice (sl_UK (K := K) (by rfl)) (pv 1) (po_some pe_int) po_none)) (pg_name (i := 4) nd rfl (by first | exact Or.inl rfl | exact Or.inr rfl))
 (pss_cons (ps_set (i := 5) nd rfl (by first | exact Or.inl rfl | exact Or.inr rfl) (pe_splitT (pv 4) pe_str))
 (pss_cons (ps_if (pt_cmpR (op_neDK (K := K) (by rfl) hu) (pe_callB (call_lenK (K := K) (by rfl)) rfl T.z_len bi_len (pa_cons (pv 5) pa_nil)) pe_int (nomark _))
 (pss_one (ps_raise rfl (takes_of rfl rfl rfl rfl) (pmk_own PySem.F.excBase_ValueError T.x_BadText.x T.g_BadText T.x_BadText.k (raises_own T.x_BadText.b T.x_BadText.t) rfl)))
 pss_nil)
 (pss_one (ps_expr (pe_bmK' (K := K) (by rfl) PySem.F.plainAttrs_list PySem.F.slot_list_append PySem.F.type_list_append mt_append (pv 3) (pa_cons (pe_tup (pa_cons (pe_callS G_parse_number (hr.mono (by omega)) rfl T.g_parse_number k_parse_number b_parse_number_ (fun σ => passAt (takes_of rfl rfl rfl rfl) σ) (pa_cons (pe_ix (ix_seqK (K := K) (by rfl)) (pv 5) pe_int (fun _ _ => rfl)) pa_nil)) (pa_cons (pe_callS G_parse_number (hr.mono (by omega)) rfl T.g_parse_number k_parse_number b_parse_number_ (fun σ => passAt (takes_of rfl rfl rfl rfl) σ) (pa_cons (pe_ix (ix_seqK (K := K) (by rfl)) (pv 5) pe_int (fun _ _ => rfl)) pa_nil)) pa_nil))) pa_nil)))))))
 (pss_cons (ps_try_only rfl rfl ⟨rfl, by decide, .inl T.g_BadGraph⟩ (takes_of rfl rfl rfl rfl) (fun W1 pn1 xe1 tk1 po1 =>
 (pss_one (ps_set (i := 6) nd rfl (by first | exact Or.inl rfl | exact Or.inr rfl) (pe_makeV T.k_Graph G_Graph__init (hr.mono (by omega)) rfl T.g_Graph b_Graph__init_ (fun σ => passAt tk1 σ) (pa_cons (pv 2) (pa_cons (pv 3) pa_nil))))))
 (fun a1 oe1 cls1 d1 pn1 hz1 hf1 => pss_never))
 (pss_one (ps_ret (pv 6)))))))))), ?_⟩
  unfold b_parse_graph
  rw [l1_parse_graph_q]
  exact (sim_seq (sim_ifS (sim_not (sim_tru (sim_cb s_isi (sim_cons sim_var (sim_cons sim_tyN sim_nil)))))
 sim_raise
 sim_next)
 (sim_seq (sim_asg (sim_frz (sim_txF s_split sim_var sim_cs)) simG_name)
 (sim_seq (sim_ifS (sim_tTest (sim_op s_neS (sim_slS (sim_op s_ix sim_var sim_ci) (sim_oPart (sim_un s_neg sim_ci)) sim_oNo) sim_cs))
 sim_raise
 sim_next)
 (sim_seq (sim_asg (sim_frz (sim_callF (sim_cons (sim_slS (sim_op s_ix sim_var sim_ci) sim_oNo (sim_oPart (sim_un s_neg sim_ci))) sim_nil) (na_cons na_nil))) simG_name)
 (sim_seq (sim_asgF (sim_lstF sim_nil))
 (sim_seq (sim_for (sim_iSeq (sim_frz (sim_sl sim_var (sim_oPart sim_ci) sim_oNo))) simG_name
 (sim_tidy (sim_seq (sim_asg (sim_frz (sim_txF s_split sim_var sim_cs)) simG_name)
 (sim_seq (sim_ifS (sim_tTest (sim_op s_ne (sim_cb s_len (sim_cons sim_var sim_nil)) sim_ci))
 sim_raise
 sim_next)
 (sim_drop (sim_mtN (T := "list") (i := 3) (sim_cons (sim_tup (sim_cons (sim_frz (sim_callF (sim_cons (sim_op s_ix sim_var sim_ci) sim_nil) (na_cons na_nil))) (sim_cons (sim_frz (sim_callF (sim_cons (sim_op s_ix sim_var sim_ci) sim_nil) (na_cons na_nil))) sim_nil))) sim_nil) s_append))))))
 (sim_seq (sim_try (tbl := [("CherrystoneError", false), ("BadGraph", true), ("BadText", false)]) (fc (a := (("CherrystoneError" : Str), false)) T.e_CherrystoneError_BadGraph (fc (a := (("BadGraph" : Str), true)) T.e_BadGraph_BadGraph (fc (a := (("BadText" : Str), false)) T.e_BadText_BadGraph f0))) (fun W1 => (sim_gh simH_fr (sim_asg (sim_frz (sim_make (n := 2) rfl (sim_cons sim_var (sim_cons sim_var sim_nil)) (na_cons (na_cons na_nil)))) simG_name)))
 (fun a1 c1 => sim_never))
 (sim_ret sim_var))))))))
abbrev N_Graph__eq : List Str := ["self", "other"]
theorem sc_Graph__eq : FnScope N_Graph__eq ["self", "other"] (defScope s_Graph__eq) := ⟨rfl, rfl, rfl, by decide +kernel, rfl, by decide +kernel, by decide +kernel⟩
theorem ok_Graph__eq (T : Txt K mg) : OkF P w K mg base (1) (He.ma K (He.ga K "Graph") "__eq__") ["self", "other"] (SpOf K (List.replicate 2 false) (m_Graph__eq)) := by
  rw [mq_Graph__eq]
  obtain ⟨fd, F, bF⟩ := T.d_Graph__eq
  refine ⟨⟨fd, fnV (k := 0) F sc_Graph__eq rfl fun cdv A outer s H E hr => ?_, bF⟩, F.kp⟩
  have nd := sc_Graph__eq.nd
  have hu := hr.units
  have hu1 := hr.units1
  have hu0 := hr.units0
  have hu5 := hr.units5
  refine ⟨_, (pss_one (ps_ret (pe_and (pe_callB (call_isiU (K := K) (by rfl)) rfl T.z_isinstance bi_isinstance (pa_cons (pv 1) (pa_cons (pe_glob (v := .ref (He.ga K "Graph")) rfl T.g_Graph rfl) pa_nil))) (pe_and (pe_cmpR (op_eqDK (K := K) (by rfl) hu) (pe_fldK (K := K) (by rfl) (pv 0)) (pe_fldK (K := K) (by rfl) (pv 1)) (nomark _)) (pe_one (pe_cmpR (op_eqDK (K := K) (by rfl) hu) (pe_fldK (K := K) (by rfl) (pv 0)) (pe_fldK (K := K) (by rfl) (pv 1)) (nomark _))))))), ?_⟩
  unfold b_Graph__eq
  exact (sim_ret (sim_andV (sim_isC T.c_Graph T.is_Graph sim_var) (sim_andV (sim_op s_eq (sim_un (s_fld (ClsA.mk T.c_Graph T.n_Graph_nodes)) sim_var) (sim_un (s_fld (ClsA.mk T.c_Graph T.n_Graph_nodes)) sim_var)) (sim_op s_eq (sim_un (s_fld (ClsA.mk T.c_Graph T.n_Graph_edges)) sim_var) (sim_un (s_fld (ClsA.mk T.c_Graph T.n_Graph_edges)) sim_var)))))
abbrev N_law : List Str := ["_law_script", "_law_draws", "_law_nodes", "_law_edges_here", "_law_graph", "_law_due", "_law_u", "_law_v", "_law_back"]
theorem sc_law : FnScope N_law ["_law_script"] (defScope s_law) := ⟨rfl, rfl, rfl, by decide +kernel, rfl, by decide +kernel, by decide +kernel⟩
theorem ok_law_at (T : Txt K mg) {fd : FuncData} (F : FunD K "law" "law" (defArgs s_law) (defBody s_law) (defScope s_law) [] [] (He.ga K "law") fd) : FnOk P w K mg base (L2.CX P w) (10) (He.ga K "law") fd ["_law_script"] (SpOf K (List.replicate 1 false) (m_law)) := by
  rw [mq_law]
  obtain ⟨⟨fd_law_numbers, G_law_numbers, b_law_numbers_⟩, k_law_numbers⟩ := ok_law_numbers (P := P) (w := w) (base := base) T
  obtain ⟨⟨fd_law_draw, G_law_draw, b_law_draw_⟩, k_law_draw⟩ := ok_law_draw (P := P) (w := w) (base := base) T
  obtain ⟨⟨fd_law_edges, G_law_edges, b_law_edges_⟩, k_law_edges⟩ := ok_law_edges (P := P) (w := w) (base := base) T
  obtain ⟨⟨fd_Graph__init, G_Graph__init, b_Graph__init_⟩, k_Graph__init⟩ := ok_Graph__init (P := P) (w := w) (base := base) T
  obtain ⟨⟨fd_law_equal, G_law_equal, b_law_equal_⟩, k_law_equal⟩ := ok_law_equal (P := P) (w := w) (base := base) T 4
  obtain ⟨⟨fd_format_graph, G_format_graph, b_format_graph_⟩, k_format_graph⟩ := ok_format_graph (P := P) (w := w) (base := base) T
  obtain ⟨⟨fd_parse_graph, G_parse_graph, b_parse_graph_⟩, k_parse_graph⟩ := ok_parse_graph (P := P) (w := w) (base := base) T
  obtain ⟨⟨fd_Graph__eq, G_Graph__eq, b_Graph__eq_⟩, k_Graph__eq⟩ := ok_Graph__eq (P := P) (w := w) (base := base) T
  refine fnV (k := 9) F sc_law rfl fun cdv A outer s H E hr => ?_
  have nd := sc_law.nd
  have hu := hr.units
  have hu1 := hr.units1
  have hu0 := hr.units0
  have hu5 := hr.units5
  refine ⟨_, (pss_cons (ps_set (i := 1) nd rfl (by first | exact Or.inl rfl | exact Or.inr rfl) (pe_lst (pa_cons (pe_callS G_law_numbers (hr.mono (by omega)) rfl T.g_law_numbers k_law_numbers b_law_numbers_ (fun σ => passAt (takes_of rfl rfl rfl rfl) σ) (pa_cons (pv 0) pa_nil)) (pa_cons pe_int pa_nil))))
 (pss_cons (ps_set (i := 2) nd rfl (by first | exact Or.inl rfl | exact Or.inr rfl) (pe_ix (ix_seqK (K := K) (by rfl)) (pe_lst (pa_cons (pe_op op_mod (pe_callS G_law_draw (hr.mono (by omega)) rfl T.g_law_draw k_law_draw b_law_draw_ (fun σ => passAt (takes_of rfl rfl rfl rfl) σ) (pa_cons (pv 1) pa_nil)) pe_int) (pa_cons (pe_op op_mod (pe_callS G_law_draw (hr.mono (by omega)) rfl T.g_law_draw k_law_draw b_law_draw_ (fun σ => passAt (takes_of rfl rfl rfl rfl) σ) (pa_cons (pv 1) pa_nil)) pe_int) (pa_cons pe_int pa_nil)))) (pe_op op_mod (pe_callS G_law_draw (hr.mono (by omega)) rfl T.g_law_draw k_law_draw b_law_draw_ (fun σ => passAt (takes_of rfl rfl rfl rfl) σ) (pa_cons (pv 1) pa_nil)) pe_int) (fun _ _ => rfl)))
 (pss_cons (ps_set (i := 3) nd rfl (by first | exact Or.inl rfl | exact Or.inr rfl) (pe_callS G_law_edges (hr.mono (by omega)) rfl T.g_law_edges k_law_edges b_law_edges_ (fun σ => passAt (takes_of rfl rfl rfl rfl) σ) (pa_cons (pv 1) (pa_cons (pv 2) pa_nil))))
 (pss_cons (ps_set (i := 4) nd rfl (by first | exact Or.inl rfl | exact Or.inr rfl) (pe_makeV T.k_Graph G_Graph__init (hr.mono (by omega)) rfl T.g_Graph b_Graph__init_ (fun σ => passAt (takes_of rfl rfl rfl rfl) σ) (pa_cons (pv 2) (pa_cons (pe_callTy (call_list_ofK (K := K) (by rfl)) rfl T.z_list bi_list (pa_cons (pv 3) pa_nil)) pa_nil))))
 (pss_cons (ps_set (i := 5) nd rfl (by first | exact Or.inl rfl | exact Or.inr rfl) (pe_op (op_addUK (K := K) (by rfl)) (pe_op (op_addUK (K := K) (by rfl)) (pe_callTy call_str_int rfl T.z_str bi_str (pa_cons (pv 2) pa_nil)) pe_str) (pe_joinK (K := K) (by rfl) pe_str (pe_lc (own := [("_law_u", 6), ("_law_v", 7)]) rfl nd (pi_seqK (K := K) (by rfl) (pv 3)) (blkOk_by (N := N_law) (sc := defScope s_law) (by decide +kernel)) (fun _ _ _ _ _ => (pg_tupK (n := 2) (K := K) (by rfl) rfl (pgs_cons (pg_name (i := 6) nd rfl (by first | exact Or.inl rfl | exact Or.inr rfl)) (pgs_cons (pg_name (i := 7) nd rfl (by first | exact Or.inl rfl | exact Or.inr rfl)) pgs_nil)))) (fun _ _ _ _ _ => pts_nil) (fun _ _ _ _ _ => (pe_op (op_addUK (K := K) (by rfl)) (pe_op (op_addUK (K := K) (by rfl)) (pe_op (op_addUK (K := K) (by rfl)) pe_str (pe_callTy call_str_int rfl T.z_str bi_str (pa_cons (pv 6) pa_nil))) pe_str) (pe_callTy call_str_int rfl T.z_str bi_str (pa_cons (pv 7) pa_nil))))))))
 (pss_cons (ps_if (pt_not (pt_truthK (K := K) (by rfl) (pe_callS G_law_equal (hr.mono (by omega)) rfl T.g_law_equal k_law_equal b_law_equal_ (fun σ => passAt (takes_of rfl rfl rfl rfl) σ) (pa_cons (pe_callS G_format_graph (hr.mono (by omega)) rfl T.g_format_graph k_format_graph b_format_graph_ (fun σ => passAt (takes_of rfl rfl rfl rfl) σ) (pa_cons (pv 4) pa_nil)) (pa_cons (pv 5) pa_nil)))))
 (pss_one (ps_ret pe_bl))
 pss_nil)
 (pss_cons (ps_set (i := 8) nd rfl (by first | exact Or.inl rfl | exact Or.inr rfl) (pe_callS G_parse_graph (hr.mono (by omega)) rfl T.g_parse_graph k_parse_graph b_parse_graph_ (fun σ => passAt (takes_of rfl rfl rfl rfl) σ) (pa_cons (pv 5) pa_nil)))
 (pss_one (ps_ret (pe_and (pe_callS G_law_equal (hr.mono (by omega)) rfl T.g_law_equal k_law_equal b_law_equal_ (fun σ => passAt (takes_of rfl rfl rfl rfl) σ) (pa_cons (pe_lst (pa_cons (pe_fldK (K := K) (by rfl) (pv 8)) (pa_cons (pe_fldK (K := K) (by rfl) (pv 8)) pa_nil))) (pa_cons (pe_lst (pa_cons (pv 2) (pa_cons (pv 3) pa_nil))) pa_nil))) (pe_one (pe_callS G_law_equal (hr.mono (by omega)) rfl T.g_law_equal k_law_equal b_law_equal_ (fun σ => passAt (takes_of rfl rfl rfl rfl) σ) (pa_cons (pe_cmpR (op_ownEqK (K := K) (by rfl) G_Graph__eq T.m_Graph_eq b_Graph__eq_ (hr.mono (by omega))) (pv 8) (pv 4) (nomark _)) (pa_cons pe_bl pa_nil)))))))))))))), ?_⟩
  unfold b_law
  rw [x1_law_q]
  exact (sim_seq (sim_asgF (sim_lstF (sim_cons (sim_frz (sim_callF (sim_cons sim_var sim_nil) (na_cons na_nil))) (sim_cons sim_ci sim_nil))))
 (sim_seq (sim_asg (sim_op s_ix (sim_frz (sim_lstF (sim_cons (sim_op s_mod (sim_frz (sim_callR (sim_bRef sim_bNil) rfl rfl)) sim_ci) (sim_cons (sim_op s_mod (sim_frz (sim_callR (sim_bRef sim_bNil) rfl rfl)) sim_ci) (sim_cons sim_ci sim_nil))))) (sim_op s_mod (sim_frz (sim_callR (sim_bRef sim_bNil) rfl rfl)) sim_ci)) simG_name)
 (sim_seq (sim_asg (sim_frz (sim_callR (sim_bRef (sim_bCons sim_var sim_bNil)) rfl rfl)) simG_name)
 (sim_seq (sim_asg (sim_frz (sim_make (n := 2) rfl (sim_cons sim_var (sim_cons (sim_frz (sim_appF (sim_cons sim_var sim_nil) s_listF)) sim_nil)) (na_cons (na_cons na_nil)))) simG_name)
 (sim_seq (sim_asg (sim_op s_add (sim_op s_add (sim_cb s_strI (sim_cons sim_var sim_nil)) sim_cs) (sim_tx s_join sim_cs (sim_frz (sim_lcF (sim_iSeq sim_var) (simG_tup rfl (simGs_cons simG_name (simGs_cons simG_name simGs_nil))) (by decide) sim_yes (sim_op s_add (sim_op s_add (sim_op s_add sim_cs (sim_cb s_strI (sim_cons sim_var sim_nil))) sim_cs) (sim_cb s_strI (sim_cons sim_var sim_nil))))))) simG_name)
 (sim_seq (sim_ifS (sim_not (sim_tru (sim_frz (sim_callF (sim_cons (sim_frz (sim_callF (sim_cons sim_var sim_nil) (na_cons na_nil))) (sim_cons sim_var sim_nil)) (na_cons (na_cons na_nil))))))
 (sim_ret sim_cb')
 sim_next)
 (sim_seq (sim_asg (sim_frz (sim_callF (sim_cons sim_var sim_nil) (na_cons na_nil))) simG_name)
 (sim_ret (sim_andV (sim_frz (sim_callF (sim_cons (sim_frz (sim_lstF (sim_cons (sim_un (s_fld (ClsA.mk T.c_Graph T.n_Graph_nodes)) sim_var) (sim_cons (sim_un (s_fld (ClsA.mk T.c_Graph T.n_Graph_edges)) sim_var) sim_nil)))) (sim_cons (sim_frz (sim_lstF (sim_cons sim_var (sim_cons sim_var sim_nil)))) sim_nil)) (na_cons (na_cons na_nil)))) (sim_frz (sim_callF (sim_cons (sim_op s_eqO sim_var sim_var) (sim_cons sim_cb' sim_nil)) (na_cons (na_cons na_nil)))))))))))))
end
end LW
set_option maxRecDepth 100000
set_option maxHeartbeats 4000000
namespace LW
open PySem L2 VL CM CA SX TL TS
/-! k09: graphs written and read -/
theorem number_lp : ∀ (w : List Nat) (t : SV), w.all dig = true → forL (gN 1) l1_parse_number (w.map sgD) [t, .un] = .nx [t, .un]
  | [], _, _ => rfl
  | c :: w, t, h => by
    rw [List.all_cons, Bool.and_eq_true] at h
    rw [List.map_cons, forL_one]
    have e : gb (gN 1) l1_parse_number (sgD c) [t, .un] = .nx [t, .un] := by
      have ed := ev_inDig (c := c)
      rw [h.1] at ed
      unfold gb
      rw [l1_parse_number_q]
      simp [ed]
    rw [e]
    exact number_lp w t h.2
theorem number_bad : ∀ (w : List Nat) (t : SV), w.all dig = false → ∃ σ, forL (gN 1) l1_parse_number (w.map sgD) [t, .un] = .err "BadText" σ
  | [], _, h => by cases h
  | c :: w, t, h => by
    rw [List.map_cons, forL_one]
    have ed := ev_inDig (c := c)
    cases hc : dig c with
    | true =>
      have e : gb (gN 1) l1_parse_number (sgD c) [t, .un] = .nx [t, .un] := by
        rw [hc] at ed
        unfold gb
        rw [l1_parse_number_q]
        simp [ed]
      rw [e]
      rw [List.all_cons, hc, Bool.true_and] at h
      exact number_bad w t h
    | false =>
      have e : gb (gN 1) l1_parse_number (sgD c) [t, .un] = .err "BadText" [t, .va (.val (sgD c))] := by
        rw [hc] at ed
        unfold gb
        rw [l1_parse_number_q]
        simp [ed]
      rw [e]
      exact ⟨_, rfl⟩
theorem number_ev {w : List Nat} (hl : w.length ≤ 100000) : hd (m_parse_number [.val (.str (S w))]) = match numW w with
  | some k => .ok (.val (.int (k : Int)))
  | none => .err "BadText" := by
  have el := ev_lenS hl
  have ec : (S w).cps.toList = w := rfl
  rw [mq_parse_number, hd_run]
  match w, hl with
  | [], hl => simp [b_parse_number, el, numW]
  | [a], hl =>
    have ei := ev_ixS hl
    have e0 := ev_eqZero (g := id) (c := a)
    cases hd1 : dig a with
    | true =>
      have hall : [a].all dig = true := by rw [List.all_cons, hd1]; rfl
      have lp := number_lp [a] (.va (.val (.str (S [a])))) hall
      have et := ev_intT hall (by simp) (by simp)
      have ev : ((NumText.digitsVal [a] : Nat) : Int) = ((a - 48 : Nat) : Int) := by unfold NumText.digitsVal; simp
      rw [ev] at et
      have en : numW [a] = some (a - 48) := if_pos hd1
      rw [en]
      dsimp only
      generalize S [a] = s at el ec ei lp et ⊢
      simp only [List.map_cons, List.map_nil] at lp
      simp [b_parse_number, el, ec, lp, ei, e0, et]
    | false =>
      have hall : [a].all dig = false := by rw [List.all_cons, hd1]; rfl
      obtain ⟨σ, lp⟩ := number_bad [a] (.va (.val (.str (S [a])))) hall
      have en : numW [a] = none := if_neg (by rw [hd1]; simp)
      rw [en]
      dsimp only
      generalize S [a] = s at el ec lp ⊢
      simp only [List.map_cons, List.map_nil] at lp
      simp [b_parse_number, el, ec, lp]
  | [a, b], hl =>
    have ei := ev_ixS hl
    have e0 := ev_eqZero (g := id) (c := a)
    cases hall : [a, b].all dig with
    | true =>
      have lp := number_lp [a, b] (.va (.val (.str (S [a, b])))) hall
      have et := ev_intT hall (by simp) (by simp)
      have hab : dig a = true ∧ dig b = true := by
        rw [List.all_cons, List.all_cons, Bool.and_eq_true, Bool.and_eq_true] at hall
        exact ⟨hall.1, hall.2.1⟩
      have ev : ((NumText.digitsVal [a, b] : Nat) : Int) = ((10 * (a - 48) + (b - 48) : Nat) : Int) := by
        unfold NumText.digitsVal
        simp
        omega
      rw [ev] at et
      by_cases ha : a = 48
      · have en : numW [a, b] = none := if_neg fun z => z.2.2 ha
        rw [en]
        dsimp only
        rw [decide_eq_true ha] at e0
        generalize S [a, b] = s at el ec ei lp et ⊢
        simp only [List.map_cons, List.map_nil] at lp
        simp [b_parse_number, el, ec, lp, ei, e0]
      · have en : numW [a, b] = some (10 * (a - 48) + (b - 48)) := if_pos ⟨hab.1, hab.2, ha⟩
        rw [en]
        dsimp only
        generalize S [a, b] = s at el ec ei lp et ⊢
        simp only [List.map_cons, List.map_nil] at lp
        generalize 10 * (a - 48) + (b - 48) = k at et ⊢
        simp [b_parse_number, el, ec, lp, ei, e0, ha, et]
    | false =>
      obtain ⟨σ, lp⟩ := number_bad [a, b] (.va (.val (.str (S [a, b])))) hall
      have en : numW [a, b] = none := if_neg fun z => by
        rw [List.all_cons, List.all_cons, z.1, z.2.1] at hall
        cases hall
      rw [en]
      dsimp only
      generalize S [a, b] = s at el ec lp ⊢
      simp only [List.map_cons, List.map_nil] at lp
      simp [b_parse_number, el, ec, lp]
  | a :: b :: c :: r, hl =>
    have h2 : ¬ (((a :: b :: c :: r).length : Int) ≤ 2) := by simp only [List.length_cons]; omega
    generalize ((a :: b :: c :: r).length : Int) = n at el h2
    have en : numW (a :: b :: c :: r) = none := rfl
    rw [en]
    dsimp only
    generalize S (a :: b :: c :: r) = s at el ⊢
    simp [b_parse_number, el, h2]
end LW
namespace LW
open PySem L2 VL CM CA SX TL TS
theorem nat_of {i : Int} (h : 0 ≤ i) : ((i.toNat : Nat) : Int) = i := Int.toNat_of_nonneg h
def wD (p : Int × Int) : D := .str (S (wrd p))
theorem num_ok {i : Int} (h : 0 ≤ i ∧ i < 100) : hd (m_parse_number [.val (.str (S (numL i.toNat)))]) = .ok (.val (.int i)) := by
  have hl := numL_l2 (n := i.toNat) (by omega)
  rw [number_ev (by omega), numW_num (by omega)]
  dsimp only
  rw [nat_of h.1]
theorem word_ev {p : Int × Int} (h1 : 0 ≤ p.1 ∧ p.1 < 100) (h2 : 0 ≤ p.2 ∧ p.2 < 100) (acc : List D) (hz : acc.length ≤ 10000) (t ws nd : SV) :
    gb (gN 4) l1_parse_graph (wD p) [t, ws, nd, .va (.ol acc), .un, .un, .un] = .nx [t, ws, nd, .va (.ol (acc ++ [pairD p])), .un, .un, .un] := by
  have hwl : (wrd p).length ≤ 5 := wrd_len (by omega) (by omega)
  have es : fSplit (S (wrd p)) (.val (.str "-")) = .ok (.ol [.str (S (numL p.1.toNat)), .str (S (numL p.2.toNat))]) := by
    have e1 := ev_splitS (a := wrd p) (b := [45]) (by simp) (by decide) (by omega)
    have e2 : TL.spl [45] 0 [] (wrd p) = [numL p.1.toNat, numL p.2.toNat] := by
      have := TL.spl_join (s := 45) (S := []) (parts := [numL p.1.toNat, numL p.2.toNat]) (by simp) (by
        intro w hw
        simp only [List.mem_cons, List.not_mem_nil, or_false] at hw
        rcases hw with rfl | rfl
        · exact numL_free (.inl (by decide))
        · exact numL_free (.inl (by decide)))
      exact this
    rw [e2] at e1
    exact e1
  have n1 := num_ok h1
  have n2 := num_ok h2
  have hs : acc.length < sizeLine := sz_lt (by omega)
  unfold gb
  rw [l1_parse_graph_q]
  unfold wD
  generalize S (wrd p) = s at es ⊢
  generalize S (numL p.1.toNat) = a at es n1
  generalize S (numL p.2.toNat) = b at es n2
  simp [es, n1, n2, hs, pairD]
theorem words_lp (t ws nd : SV) : ∀ (E : List (Int × Int)) (acc : List D), (∀ p ∈ E, (0 ≤ p.1 ∧ p.1 < 100) ∧ (0 ≤ p.2 ∧ p.2 < 100)) → acc.length + E.length ≤ 10000 →
    forL (gN 4) l1_parse_graph (E.map wD) [t, ws, nd, .va (.ol acc), .un, .un, .un] = .nx [t, ws, nd, .va (.ol (acc ++ E.map pairD)), .un, .un, .un]
  | [], acc, _, _ => by rw [List.map_nil, List.map_nil, List.append_nil]; rfl
  | p :: E, acc, h, hl => by
    have hp := h p List.mem_cons_self
    simp only [List.length_cons] at hl
    rw [List.map_cons, forL_one, word_ev hp.1 hp.2 acc (by omega)]
    dsimp only [toNx]
    rw [words_lp t ws nd E (acc ++ [pairD p]) (fun q hq => h q (List.mem_cons_of_mem _ hq)) (by simp; omega), List.append_assoc]
    rfl
section
variable {n : Nat} {E : List (Int × Int)}
theorem gr_small (g : Gr n E) : ∀ p ∈ E, (0 ≤ p.1 ∧ p.1 < 100) ∧ (0 ≤ p.2 ∧ p.2 < 100) := fun p hp => by
  have h := g.ok p hp
  have := g.le
  obtain ⟨h1, h2, h3⟩ := h
  omega
theorem gr_small2 (g : Gr n E) : ∀ p ∈ E, p.1.toNat < 100 ∧ p.2.toNat < 100 := fun p hp => by
  have h := gr_small g p hp
  omega
theorem cut1 (a : D) (L : List D) : cutO (.val (.lst (a :: L))) (some 1) none = .ok (.ol L) := by
  show QR.ok (O.ol (cutD (a :: L) (some 1) none)) = _
  congr 2
  unfold cutD
  have e1 : HT.sIx (a :: L).length 0 (some 1) = 1 := by
    have := HT.sIx_nat (a :: L).length 0 1
    rw [show ((1 : Nat) : Int) = 1 from rfl] at this
    rw [this, List.length_cons]; omega
  rw [e1, HT.sIx_none]
  show L.take ((a :: L).length - 1) = L
  rw [List.length_cons]
  exact List.take_of_length_le (by omega)
theorem parse_ev (g : Gr n E) : hd (m_parse_graph [.val (.str (S (fmt n E)))]) = .ok (.val (grD n E)) := by
  have h40 := g.le
  have hE := g.len
  have hfl : (fmt n E).length ≤ 3 + 6 * E.length := fmt_len (by omega) (gr_small2 g)
  have es : fSplit (S (fmt n E)) (.val (.str " ")) = .ok (.ol (.str (S (numL n ++ [59])) :: E.map wD)) := by
    have e1 := ev_splitS (a := fmt n E) (b := [32]) (by simp) (by decide) (by omega)
    have e2 : TL.spl [32] 0 [] (fmt n E) = (numL n ++ [59]) :: E.map wrd := TL.spl_join (s := 32) (S := []) (by simp) (by
      intro w hw
      rcases List.mem_cons.mp hw with rfl | hw
      · rw [List.mem_append, not_or]
        exact ⟨numL_free (.inl (by decide)), by decide⟩
      · obtain ⟨p, _, rfl⟩ := List.mem_map.mp hw
        exact wrd_no (.inl (by decide)) (by decide))
    rw [e2, List.map_cons, List.map_map] at e1
    exact e1
  have hnl := numL_l2 (n := n) (by omega)
  have s1 : Txt.slice (S (numL n ++ [59])) (some (-1)) none = (";" : Str) := by
    rw [TS.slice_last]
    have : (numL n ++ [59]).drop ((numL n ++ [59]).length - 1) = [59] := by
      rw [List.length_append]
      show (numL n ++ [59]).drop ((numL n).length + 1 - 1) = _
      rw [Nat.add_sub_cancel, List.drop_left]
    rw [this]; rfl
  have s2 : Txt.slice (S (numL n ++ [59])) none (some (-1)) = S (numL n) := by
    rw [TS.slice_init]
    have : (numL n ++ [59]).take ((numL n ++ [59]).length - 1) = numL n := by
      rw [List.length_append]
      show (numL n ++ [59]).take ((numL n).length + 1 - 1) = _
      rw [Nat.add_sub_cancel, List.take_left]
    rw [this]
  have hz : (S (numL n ++ [59])).length ≤ sizeLine := by rw [S_len]; exact sz_of (by simp; omega)
  have eq : fEqS not [.val (.str (";" : Str)), .val (.str (";" : Str))] = .ok (.val (.bl false)) := by
    show QR.ok (O.val (D.bl (!decide ((";" : Str) = (";" : Str))))) = _
    rw [decide_eq_true rfl]; rfl
  have nn := num_ok (i := (n : Int)) (by omega)
  rw [Int.toNat_natCast] at nn
  have lp := words_lp (.va (.val (.str (S (fmt n E))))) (.va (.val (.lst (.str (S (numL n ++ [59])) :: E.map wD)))) (.va (.val (.int n))) E [] (gr_small g) (by simp; omega)
  have c1 := cut1 (.str (S (numL n ++ [59]))) (E.map wD)
  have ini := ini_ev g
  rw [mq_parse_graph, hd_run]
  rw [List.nil_append] at lp
  generalize S (numL n ++ [59]) = f at *
  generalize S (numL n) = f2 at *
  generalize S (fmt n E) = t at *
  generalize E.map wD = L at *
  generalize E.map pairD = M at ini lp ⊢
  simp [b_parse_graph, es, hz, s1, s2, eq, nn, c1, lp, ini, ev_try]
end
end LW
namespace LW
open PySem L2 VL CM CA SX TL TS
section
variable {n : Nat} {E : List (Int × Int)}
theorem lenS {w : List Nat} (h : w.length ≤ 100000) : (S w).length ≤ sizeLine := by rw [S_len]; exact sz_of (by omega)
theorem fx_ev {u v : Nat} (hu : u < 100) (hv : v < 100) (G : SV) : x1_format_graph.f [G, .un, .va (.val (.int (u : Int))), .va (.val (.int (v : Int)))] = .ok (.val (.str (S (numL u ++ 45 :: numL v)))) [G, .un, .va (.val (.int (u : Int))), .va (.val (.int (v : Int)))] := by
  have l1 := numL_l2 hu
  have l2 := numL_l2 hv
  have b1 := log_n (n := u) (by omega)
  have b2 := log_n (n := v) (by omega)
  have c1 : Str.empty ++ S (numL u) = S (numL u) := by rw [e_empty, S_cat]; rfl
  have c2 : S (numL u) ++ ("-" : Str) = S (numL u ++ [45]) := by rw [c_dash, S_cat]
  have c3 : S (numL u ++ [45]) ++ S (numL v) = S (numL u ++ 45 :: numL v) := by rw [S_cat, List.append_assoc]; rfl
  have z1 := lenS (w := numL u) (by omega)
  have z2 := lenS (w := numL u ++ [45]) (by simp; omega)
  have z3 := lenS (w := numL u ++ 45 :: numL v) (by simp; omega)
  rw [x1_format_graph_q]
  simp [b1, b2, of_num, c1, c2, c3, z1, z2, z3]
theorem e_fmt (g : Gr n E) : hd (m_format_graph [.val (grD n E)]) = .ok (.val (.str (S (fmt n E)))) := by
  have h40 := g.le
  have hE := g.len
  have f1 : fFld "Graph" "nodes" [.val (grD n E)] = .ok (.val (.int n)) := by simp
  have f2 : fFld "Graph" "edges" [.val (grD n E)] = .ok (.val (.lst (E.map pairD))) := by simp
  have lc : ∀ G : SV, lcL [2, 3] (gT [(gN 2), (gN 3)]) tvYes x1_format_graph (E.map pairD) [G, .un, .un, .un] [] = .ok (E.map wD) [G, .un, .un, .un] := fun G => by
    have := lcL_map (vs := [2, 3]) (g := gT [(gN 2), (gN 3)]) (t := tvYes) (x := x1_format_graph) pairD [G, .un, .un, .un] (fun p => some (wD p)) E [] (by simp; omega) fun p hp => by
      have h := gr_small g p hp
      have e1 : (p.1.toNat : Int) = p.1 := nat_of h.1.1
      have e2 : (p.2.toNat : Int) = p.2 := nat_of h.2.1
      have fx := fx_ev (u := p.1.toNat) (v := p.2.toNat) (by omega) (by omega) G
      rw [e1, e2] at fx
      unfold lcE pairD
      simp [fx]
      rfl
    rw [this]
    simp
  have hl := flat_len E (gr_small2 g)
  have ln := numL_l2 (n := n) (by omega)
  have b1 := log_n (n := n) (by omega)
  have c1 : Str.empty ++ S (numL n) = S (numL n) := by rw [e_empty, S_cat]; rfl
  have c2 : S (numL n) ++ (";" : Str) = S (numL n ++ [59]) := by rw [c_semi, S_cat]
  have z1 := lenS (w := numL n) (by omega)
  have z2 := lenS (w := numL n ++ [59]) (by simp; omega)
  have hfl : ((numL n ++ [59]) :: E.map wrd).flatten.length + ((numL n ++ [59]) :: E.map wrd).length * 1 ≤ 1000000 := by
    have := flat_len2 E (gr_small2 g)
    simp only [List.flatten_cons, List.length_append, List.length_cons, List.length_nil, List.length_map]
    omega
  have ej := ev_joinS (a := [32]) (L := (numL n ++ [59]) :: E.map wrd) hfl
  have ej2 : fJoin (" " : Str) (.val (.lst (.str (S (numL n ++ [59])) :: E.map wD))) = .ok (.val (.str (S (fmt n E)))) := by
    rw [List.map_cons, List.map_map] at ej
    exact ej
  have ea : fAdd [.val (.lst [.str (S (numL n ++ [59]))]), .val (.lst (E.map wD))] = .ok (.val (.lst (.str (S (numL n ++ [59])) :: E.map wD))) := by rw [ev_addL (sz_of (by simp; omega))]; rfl
  rw [mq_format_graph, hd_run]
  generalize grD n E = G at f1 f2 ⊢
  have lcG := lc (.va (.val G))
  generalize E.map pairD = M at f2 lcG
  generalize E.map wD = L at lcG ej2 ea
  generalize S (fmt n E) = t at ej2 ⊢
  generalize S (numL n ++ [59]) = a at *
  simp [b_format_graph, f1, f2, lcG, of_num, b1, c1, c2, z1, z2, ej2, ea]
/-! ### the text that is due -/
def bD (p : Int × Int) : D := .str (S (32 :: wrd p))
theorem lx_ev {u v : Nat} (hu : u < 100) (hv : v < 100) (s0 s1 s2 s3 s4 s5 s8 : SV) :
    x1_law.f [s0, s1, s2, s3, s4, s5, .va (.val (.int (u : Int))), .va (.val (.int (v : Int))), s8] = .ok (.val (.str (S (32 :: (numL u ++ 45 :: numL v))))) [s0, s1, s2, s3, s4, s5, .va (.val (.int (u : Int))), .va (.val (.int (v : Int))), s8] := by
  have l1 := numL_l2 hu
  have l2 := numL_l2 hv
  have i1 := ev_strI (n := u) (by omega)
  have i2 := ev_strI (n := v) (by omega)
  have a1 : fAdd [.val (.str (" " : Str)), .val (.str (S (numL u)))] = .ok (.val (.str (S ([32] ++ numL u)))) := ev_catS (a := [32]) (by simp; omega)
  have a2 : fAdd [.val (.str (S ([32] ++ numL u))), .val (.str ("-" : Str))] = .ok (.val (.str (S (([32] ++ numL u) ++ [45])))) := ev_catS (b := [45]) (by simp; omega)
  have a3 : fAdd [.val (.str (S (([32] ++ numL u) ++ [45]))), .val (.str (S (numL v)))] = .ok (.val (.str (S (32 :: (numL u ++ 45 :: numL v))))) := by
    rw [ev_catS (by simp; omega)]
    simp
  rw [x1_law_q]
  generalize S ([32] ++ numL u) = t1 at a1 a2
  generalize S (([32] ++ numL u) ++ [45]) = t2 at a2 a3
  simp [i1, i2, a1, a2, a3]
theorem due_lc (g : Gr n E) (s0 s1 s2 s3 s4 s5 s8 : SV) : lcL [6, 7] (gT [(gN 6), (gN 7)]) tvYes x1_law (E.map pairD) [s0, s1, s2, s3, s4, s5, .un, .un, s8] [] = .ok (E.map bD) [s0, s1, s2, s3, s4, s5, .un, .un, s8] := by
  have hE := g.len
  have := lcL_map (vs := [6, 7]) (g := gT [(gN 6), (gN 7)]) (t := tvYes) (x := x1_law) pairD [s0, s1, s2, s3, s4, s5, .un, .un, s8] (fun p => some (bD p)) E [] (by simp; omega) fun p hp => by
    have h := gr_small g p hp
    have e1 : (p.1.toNat : Int) = p.1 := nat_of h.1.1
    have e2 : (p.2.toNat : Int) = p.2 := nat_of h.2.1
    have fx := lx_ev (u := p.1.toNat) (v := p.2.toNat) (by omega) (by omega) s0 s1 s2 s3 s4 s5 s8
    rw [e1, e2] at fx
    unfold lcE pairD
    simp [fx]
    rfl
  rw [this]
  simp
theorem due_join (g : Gr n E) : fJoin ("" : Str) (.val (.lst (E.map bD))) = .ok (.val (.str (S (E.map fun p => 32 :: wrd p).flatten))) := by
  have hE := g.len
  have hl := flat_len E (gr_small2 g)
  have ej := ev_joinS (a := []) (L := E.map fun p => 32 :: wrd p) (by simp only [List.length_nil, Nat.mul_zero]; omega)
  rw [List.map_map, joinL_nil] at ej
  exact ej
/-! ### == of graphs -/
theorem eqL_ev {g : Bool → Bool} (E F : List (Int × Int)) : fEq g [.val (.lst (E.map pairD)), .val (.lst (F.map pairD))] = .ok (.val (.bl (g (decide (E = F))))) := ev_eq (α := List (Int × Int)) (by decide) E F
theorem isC_gr : fIsC "Graph" [.val (grD n E)] = .ok (.val (.bl true)) := rfl
theorem eq_ev : hd (m_Graph__eq [.val (grD n E), .val (grD n E)]) = .ok (.val (.bl true)) := by
  have f1 : fFld "Graph" "nodes" [.val (grD n E)] = .ok (.val (.int n)) := by simp
  have f2 : fFld "Graph" "edges" [.val (grD n E)] = .ok (.val (.lst (E.map pairD))) := by simp
  have i2 := isC_gr (n := n) (E := E)
  have e := eqL_ev (g := id) E E
  rw [decide_eq_true rfl] at e
  rw [mq_Graph__eq, hd_run]
  generalize grD n E = G at f1 f2 i2 ⊢
  generalize E.map pairD = M at e f2
  simp [b_Graph__eq, f1, f2, i2, e]
theorem fEqO_of {d : D} {b : Bool} (hy : okY "Graph" d = true) (h : hd (m_Graph__eq [.val (grD n E), .val d]) = .ok (.val (.bl b))) : fEqO "Graph" m_Graph__eq [.val (grD n E), .val d] = .ok (.val (.bl b)) := by
  unfold grD at h ⊢
  unfold fEqO
  dsimp only
  rw [if_pos ⟨rfl, hy⟩]
  generalize m_Graph__eq [.val (.obj "Graph" ["nodes", "edges", "links"] [.int n, .lst (E.map pairD), .lst (rowsD n E)]), .val d] = r at h ⊢
  cases r with
  | ok o outs =>
    have : o = .val (.bl b) := by
      cases h; rfl
    subst this; rfl
  | err c outs => cases h
  | bad => cases h
theorem eqo_gr : fEqO "Graph" m_Graph__eq [.val (grD n E), .val (grD n E)] = .ok (.val (.bl true)) := fEqO_of (by rfl) eq_ev
theorem eqB_str {k : Nat} : eqB (k + 1) (.str (S (fmt n E))) = true := by
  unfold eqB
  exact small fmt_small
theorem eqB_prs {k : Nat} (h : E.length ≤ 1000000) : eqB (k + 3) (.lst (E.map pairD)) = true := by
  unfold eqB
  rw [Bool.and_eq_true]
  refine ⟨by simpa using h, eqBL_of fun d hd => ?_⟩
  obtain ⟨p, _, rfl⟩ := List.mem_map.mp hd
  unfold pairD eqB
  rw [Bool.and_eq_true]
  refine ⟨rfl, eqBL_of fun d hd => ?_⟩
  simp only [List.mem_cons, List.not_mem_nil, or_false] at hd
  rcases hd with rfl | rfl <;> · unfold eqB; rfl
end
theorem law_ok : LawOk m_law := fun ns hl => by
  obtain ⟨ms, e⟩ := numbers_ev ns hl
  obtain ⟨n, hn, h9⟩ : ∃ n : Nat, L2.atI [D.int (dv ms 0 % 13), .int (dv ms 1 % 13), .int 40] (dv ms 2 % 3) = some (.int n) ∧ n ≤ 40 := by
    have m1 := Int.emod_nonneg (dv ms 2) (show (3 : Int) ≠ 0 by decide)
    have m2 := Int.emod_lt_of_pos (dv ms 2) (show (0 : Int) < 3 by decide)
    obtain ⟨x, ex, hx⟩ := at_int (l := [D.int (dv ms 0 % 13), .int (dv ms 1 % 13), .int 40]) m1 m2
    simp at hx
    rcases hx with rfl | rfl | rfl
    · exact ⟨(dv ms 0 % 13).toNat, by rw [ex]; congr 2; omega, by omega⟩
    · exact ⟨(dv ms 1 % 13).toNat, by rw [ex]; congr 2; omega, by omega⟩
    · exact ⟨40, ex, by omega⟩
  obtain ⟨k1, E, e1, g⟩ := edges_ev ms n h9 3
  have hd0 : O.ol [.lst (ms.map D.int), .int 0] = dr ms 0 := rfl
  have hE := g.len
  refine hd_of ?_
  rw [mq_law, hd_run]
  unfold b_law
  refine seqP (G := fun r => brO r = .ok (.val (.bl true))) (fun σ => σ = [.va (.val (.rd (ns.map D.int))), .va (dr ms 0), .un, .un, .un, .un, .un, .un, .un]) ⟨_, by simp [e, hd0], rfl⟩ ?_
  rintro σ rfl
  refine seqP (G := fun r => brO r = .ok (.val (.bl true))) (fun σ => σ = [.va (.val (.rd (ns.map D.int))), .va (dr ms 3), .va (.val (.int n)), .un, .un, .un, .un, .un, .un]) ⟨_, by simp [hn], rfl⟩ ?_
  rintro σ rfl
  refine seqP (G := fun r => brO r = .ok (.val (.bl true))) (fun σ => σ = [.va (.val (.rd (ns.map D.int))), .va (dr ms k1), .va (.val (.int n)), .va (.val (.lst (E.map pairD))), .un, .un, .un, .un, .un]) ⟨_, by simp [e1], rfl⟩ ?_
  rintro σ rfl
  refine seqP (G := fun r => brO r = .ok (.val (.bl true))) (fun σ => σ = [.va (.val (.rd (ns.map D.int))), .va (dr ms k1), .va (.val (.int n)), .va (.val (.lst (E.map pairD))), .va (.val (grD n E)), .un, .un, .un, .un]) ⟨_, by simp [ini_ev g], rfl⟩ ?_
  rintro σ rfl
  have ln := numL_l2 (n := n) (by omega)
  have hfl := flat_len E (gr_small2 g)
  have i1 := ev_strI (n := n) (by omega)
  have a1 : fAdd [.val (.str (S (numL n))), .val (.str (";" : Str))] = .ok (.val (.str (S (numL n ++ [59])))) := ev_catS (b := [59]) (by simp; omega)
  have a2 : fAdd [.val (.str (S (numL n ++ [59]))), .val (.str (S (E.map fun p => 32 :: wrd p).flatten))] = .ok (.val (.str (S (fmt n E)))) := by
    rw [ev_catS (by rw [List.length_append]; simp only [List.length_cons, List.length_nil]; omega), fmt_eq]
    simp
  have lc := due_lc g (.va (.val (.rd (ns.map D.int)))) (.va (dr ms k1)) (.va (.val (.int n))) (.va (.val (.lst (E.map pairD)))) (.va (.val (grD n E))) .un .un
  have ej := due_join g
  refine seqP (G := fun r => brO r = .ok (.val (.bl true))) (fun σ => σ = [.va (.val (.rd (ns.map D.int))), .va (dr ms k1), .va (.val (.int n)), .va (.val (.lst (E.map pairD))), .va (.val (grD n E)), .va (.val (.str (S (fmt n E)))), .un, .un, .un]) ⟨_, by
    generalize grD n E = G at lc ⊢
    generalize E.map pairD = M at lc ⊢
    generalize ns.map D.int = N at lc ⊢
    generalize E.map bD = B at lc ej
    generalize S (E.map fun p => 32 :: wrd p).flatten = t1 at a2 ej
    generalize S (numL n ++ [59]) = t2 at a1 a2
    generalize S (numL n) = t3 at a1 i1
    generalize S (fmt n E) = t4 at a2 ⊢
    simp [i1, a1, a2, lc, ej], rfl⟩ ?_
  rintro σ rfl
  have ef := e_fmt g
  have ep := parse_ev g
  have q1 : hd (m_law_equal 4 [.val (.str (S (fmt n E))), .val (.str (S (fmt n E)))]) = .ok (.val (.bl true)) := equal_ev _ _ eqB_str
  have q2 : hd (m_law_equal 4 [.val (.lst [.int n, .lst (E.map pairD)]), .val (.lst [.int n, .lst (E.map pairD)])]) = .ok (.val (.bl true)) := equal_ev _ _ (by
    have h1 : eqB 3 (.lst (E.map pairD)) = true := eqB_prs (by omega)
    unfold eqB
    rw [Bool.and_eq_true]
    refine ⟨rfl, eqBL_of fun d hd => ?_⟩
    simp only [List.mem_cons, List.not_mem_nil, or_false] at hd
    rcases hd with rfl | rfl
    · unfold eqB; rfl
    · exact h1)
  have q3 : hd (m_law_equal 4 [.val (.bl true), .val (.bl true)]) = .ok (.val (.bl true)) := equal_ev _ _ (by unfold eqB; rfl)
  have f1 : fFld "Graph" "nodes" [.val (grD n E)] = .ok (.val (.int n)) := by simp
  have f2 : fFld "Graph" "edges" [.val (grD n E)] = .ok (.val (.lst (E.map pairD))) := by simp
  have eo := eqo_gr (n := n) (E := E)
  generalize grD n E = G at ef ep f1 f2 eo ⊢
  generalize E.map pairD = M at q2 f2 ⊢
  generalize ns.map D.int = N
  generalize S (fmt n E) = t at ef ep q1 ⊢
  simp [ef, ep, q1, q2, q3, f1, f2, eo]
end LW
set_option maxRecDepth 100000
set_option maxHeartbeats 0
namespace LW
open PySem PySem.Spec PyProof.Rows L2 VL CM CA
def dd_law_mixed : He5.DefA := ⟨fun K => (He.ga K "_law_mixed"), "_law_mixed", "_law_mixed", defArgs s_law_mixed, defBody s_law_mixed, defScope s_law_mixed, [], []⟩
def dd_law_numbers : He5.DefA := ⟨fun K => (He.ga K "_law_numbers"), "_law_numbers", "_law_numbers", defArgs s_law_numbers, defBody s_law_numbers, defScope s_law_numbers, [], []⟩
def dd_law_draw : He5.DefA := ⟨fun K => (He.ga K "_law_draw"), "_law_draw", "_law_draw", defArgs s_law_draw, defBody s_law_draw, defScope s_law_draw, [], []⟩
def dd_law_turned : He5.DefA := ⟨fun K => (He.ga K "_law_turned"), "_law_turned", "_law_turned", defArgs s_law_turned, defBody s_law_turned, defScope s_law_turned, [], []⟩
def dd_law_some_pairs : He5.DefA := ⟨fun K => (He.ga K "_law_some_pairs"), "_law_some_pairs", "_law_some_pairs", defArgs s_law_some_pairs, defBody s_law_some_pairs, defScope s_law_some_pairs, [], []⟩
def dd_law_edges : He5.DefA := ⟨fun K => (He.ga K "_law_edges"), "_law_edges", "_law_edges", defArgs s_law_edges, defBody s_law_edges, defScope s_law_edges, [], []⟩
def dd_is_integer : He5.DefA := ⟨fun K => (He.ga K "is_integer"), "is_integer", "is_integer", defArgs s_is_integer, defBody s_is_integer, defScope s_is_integer, [], []⟩
def dd_is_index : He5.DefA := ⟨fun K => (He.ga K "is_index"), "is_index", "is_index", defArgs s_is_index, defBody s_is_index, defScope s_is_index, [], []⟩
def dd_check_edges : He5.DefA := ⟨fun K => (He.ga K "check_edges"), "check_edges", "check_edges", defArgs s_check_edges, defBody s_check_edges, defScope s_check_edges, [], []⟩
def dd_Graph__init : He5.DefA := ⟨fun K => (He.ma K (He.ga K "Graph") "__init__"), "__init__", "Graph.__init__", defArgs s_Graph__init, defBody s_Graph__init, defScope s_Graph__init, [], []⟩
def dd_law_all_equal : He5.DefA := ⟨fun K => (He.ga K "_law_all_equal"), "_law_all_equal", "_law_all_equal", defArgs s_law_all_equal, defBody s_law_all_equal, defScope s_law_all_equal, [], []⟩
def dd_law_equal : He5.DefA := ⟨fun K => (He.ga K "_law_equal"), "_law_equal", "_law_equal", defArgs s_law_equal, defBody s_law_equal, defScope s_law_equal, [], []⟩
def dd_format_graph : He5.DefA := ⟨fun K => (He.ga K "format_graph"), "format_graph", "format_graph", defArgs s_format_graph, defBody s_format_graph, defScope s_format_graph, [], []⟩
def dd_parse_number : He5.DefA := ⟨fun K => (He.ga K "parse_number"), "parse_number", "parse_number", defArgs s_parse_number, defBody s_parse_number, defScope s_parse_number, [], []⟩
def dd_parse_graph : He5.DefA := ⟨fun K => (He.ga K "parse_graph"), "parse_graph", "parse_graph", defArgs s_parse_graph, defBody s_parse_graph, defScope s_parse_graph, [], []⟩
def dd_Graph__eq : He5.DefA := ⟨fun K => (He.ma K (He.ga K "Graph") "__eq__"), "__eq__", "Graph.__eq__", defArgs s_Graph__eq, defBody s_Graph__eq, defScope s_Graph__eq, [], []⟩
def dd_law : He5.DefA := ⟨fun K => (He.ga K "law"), "law", "law", defArgs s_law, defBody s_law, defScope s_law, [], []⟩
def fn : List He5.DefA := ([dd_law_mixed, dd_law_numbers, dd_law_draw, dd_law_turned, dd_law_some_pairs, dd_law_edges, dd_is_integer, dd_is_index, dd_check_edges, dd_Graph__init, dd_law_all_equal, dd_law_equal, dd_format_graph, dd_parse_number, dd_parse_graph, dd_Graph__eq, dd_law] : List He5.DefA)
def fa : List He.Fa := ([.free "range", .glo "_law_mixed", .glo "_law_numbers", .free "len", .glo "_law_draw", .free "max", .free "min", .free "sorted", .glo "_law_turned", .glo "_law_some_pairs", .glo "_law_edges", .free "isinstance", .free "int", .free "bool", .glo "is_integer", .int "MOST" 40, .exc "BadGraph", .glo "BadGraph", .free "list", .free "tuple", .glo "is_index", .glo "check_edges", .cls "Graph", .noat "Graph" "nodes", .noat "Graph" "edges", .noat "Graph" "links", .glo "Graph", .mkr "Graph", .free "str", .glo "_law_equal"] : List He.Fa) ++ ([.glo "_law_all_equal", .glo "format_graph", .exc "BadText", .glo "BadText", .glo "parse_number", .exm "BadText" "BadGraph" false, .exm "BadGraph" "BadGraph" true, .exm "CherrystoneError" "BadGraph" false, .glo "parse_graph", .meth "Graph" "__eq__", .glo "law"] : List He.Fa)
def fb : List He.FaX := []
def fc : List He.FaY := ([.isc "Graph"] : List He.FaY)
abbrev R : PySem.W.OpenRow := PySem.W.OpenLaw.row PySem.Challenge.rw_cherrystone_k09_graphs_are_written
abbrev hk : PySem.W.Hook := He.hookY 5 fa fb fc fn
def ob (s : PySem.W.SharedT) : He.AlD := He.obsYG 5 fa fb fc fn (HandSHeadRun.getT s)
theorem ob_eq (s : PySem.W.SharedT) : ob s = hk.obs s.abs := He.obsYG_eq (HandSHeadRun.getT_eq s)
def loose : List PySem.Str := (["_wall", "__name__", "CherrystoneError", "BadGraph", "BadText", "MOST", "is_integer", "is_index", "check_edges", "Graph", "format_graph", "parse_number", "parse_graph", "_law_mixed", "_law_numbers", "_law_draw", "_law_equal", "_law_all_equal", "_law_some_pairs", "_law_turned", "_law_edges"] : List PySem.Str)
theorem run (w : World) : HandSHeadRun.RunEq R (PySem.W.view R.prog [23]) hk ob 20000 loose w := by
  intro os
  kernel_rfl
theorem txt {K : PySem.W.Frag} {h : Heap} {mg : Str → Option Value} (X : K.In h) (G : h.Ns mainGlobals mg) (c : He.SaysY fa fb fc fn K) : Txt K mg := by
  constructor
  · exact He.free_ok X G (c.fact 0 (f := .free "range") rfl)
  · exact He.glo_ok X G (c.fact 1 (f := .glo "_law_mixed") rfl)
  · exact He.glo_ok X G (c.fact 2 (f := .glo "_law_numbers") rfl)
  · exact He.free_ok X G (c.fact 3 (f := .free "len") rfl)
  · exact He.glo_ok X G (c.fact 4 (f := .glo "_law_draw") rfl)
  · exact He.free_ok X G (c.fact 5 (f := .free "max") rfl)
  · exact He.free_ok X G (c.fact 6 (f := .free "min") rfl)
  · exact He.free_ok X G (c.fact 7 (f := .free "sorted") rfl)
  · exact He.glo_ok X G (c.fact 8 (f := .glo "_law_turned") rfl)
  · exact He.glo_ok X G (c.fact 9 (f := .glo "_law_some_pairs") rfl)
  · exact He.glo_ok X G (c.fact 10 (f := .glo "_law_edges") rfl)
  · exact He.free_ok X G (c.fact 11 (f := .free "isinstance") rfl)
  · exact He.free_ok X G (c.fact 12 (f := .free "int") rfl)
  · exact He.free_ok X G (c.fact 13 (f := .free "bool") rfl)
  · exact He.glo_ok X G (c.fact 14 (f := .glo "is_integer") rfl)
  · exact He.int_ok X G (c.fact 15 (f := .int "MOST" 40) rfl)
  · exact He.excF_ok (c.fact 16 (f := .exc "BadGraph") rfl)
  · exact He.glo_ok X G (c.fact 17 (f := .glo "BadGraph") rfl)
  · exact He.free_ok X G (c.fact 18 (f := .free "list") rfl)
  · exact He.free_ok X G (c.fact 19 (f := .free "tuple") rfl)
  · exact He.glo_ok X G (c.fact 20 (f := .glo "is_index") rfl)
  · exact He.glo_ok X G (c.fact 21 (f := .glo "check_edges") rfl)
  · exact He.cls_ok (c.fact 22 (f := .cls "Graph") rfl)
  · exact He.noat_ok (c.fact 23 (f := .noat "Graph" "nodes") rfl)
  · exact He.noat_ok (c.fact 24 (f := .noat "Graph" "edges") rfl)
  · exact He.noat_ok (c.fact 25 (f := .noat "Graph" "links") rfl)
  · exact He.glo_ok X G (c.fact 26 (f := .glo "Graph") rfl)
  · exact He.mkr_ok (c.fact 27 (f := .mkr "Graph") rfl)
  · exact He.free_ok X G (c.fact 28 (f := .free "str") rfl)
  · exact He.glo_ok X G (c.fact 29 (f := .glo "_law_equal") rfl)
  · exact He.glo_ok X G (c.fact 30 (f := .glo "_law_all_equal") rfl)
  · exact He.glo_ok X G (c.fact 31 (f := .glo "format_graph") rfl)
  · exact He.excF_ok (c.fact 32 (f := .exc "BadText") rfl)
  · exact He.glo_ok X G (c.fact 33 (f := .glo "BadText") rfl)
  · exact He.glo_ok X G (c.fact 34 (f := .glo "parse_number") rfl)
  · exact He.exm_ok (c.fact 35 (f := .exm "BadText" "BadGraph" false) rfl)
  · exact He.exm_ok (c.fact 36 (f := .exm "BadGraph" "BadGraph" true) rfl)
  · exact He.exm_ok (c.fact 37 (f := .exm "CherrystoneError" "BadGraph" false) rfl)
  · exact He.glo_ok X G (c.fact 38 (f := .glo "parse_graph") rfl)
  · exact He.isc_ok (c.factY 0 (f := .isc "Graph") rfl)
  · exact He.meth_ok (c.fact 39 (f := .meth "Graph" "__eq__") rfl)
  · obtain ⟨fd, F⟩ := c.def_ 0 (d := dd_law_mixed) rfl
    exact ⟨fd, F, F.bindsN fun _ _ _ _ _ _ us hl => match us, hl with | [_, _], _ => rfl⟩
  · obtain ⟨fd, F⟩ := c.def_ 1 (d := dd_law_numbers) rfl
    exact ⟨fd, F, F.bindsN fun _ _ _ _ _ _ us hl => match us, hl with | [_], _ => rfl⟩
  · obtain ⟨fd, F⟩ := c.def_ 2 (d := dd_law_draw) rfl
    exact ⟨fd, F, F.bindsN fun _ _ _ _ _ _ us hl => match us, hl with | [_], _ => rfl⟩
  · obtain ⟨fd, F⟩ := c.def_ 3 (d := dd_law_turned) rfl
    exact ⟨fd, F, F.bindsN fun _ _ _ _ _ _ us hl => match us, hl with | [_, _, _], _ => rfl⟩
  · obtain ⟨fd, F⟩ := c.def_ 4 (d := dd_law_some_pairs) rfl
    exact ⟨fd, F, F.bindsN fun _ _ _ _ _ _ us hl => match us, hl with | [_, _], _ => rfl⟩
  · obtain ⟨fd, F⟩ := c.def_ 5 (d := dd_law_edges) rfl
    exact ⟨fd, F, F.bindsN fun _ _ _ _ _ _ us hl => match us, hl with | [_, _], _ => rfl⟩
  · obtain ⟨fd, F⟩ := c.def_ 6 (d := dd_is_integer) rfl
    exact ⟨fd, F, F.bindsN fun _ _ _ _ _ _ us hl => match us, hl with | [_], _ => rfl⟩
  · obtain ⟨fd, F⟩ := c.def_ 7 (d := dd_is_index) rfl
    exact ⟨fd, F, F.bindsN fun _ _ _ _ _ _ us hl => match us, hl with | [_, _], _ => rfl⟩
  · obtain ⟨fd, F⟩ := c.def_ 8 (d := dd_check_edges) rfl
    exact ⟨fd, F, F.bindsN fun _ _ _ _ _ _ us hl => match us, hl with | [_, _], _ => rfl⟩
  · obtain ⟨fd, F⟩ := c.def_ 9 (d := dd_Graph__init) rfl
    exact ⟨fd, F, F.bindsN fun _ _ _ _ _ _ us hl => match us, hl with | [_, _, _], _ => rfl⟩
  · obtain ⟨fd, F⟩ := c.def_ 10 (d := dd_law_all_equal) rfl
    exact ⟨fd, F, F.bindsN fun _ _ _ _ _ _ us hl => match us, hl with | [_, _], _ => rfl⟩
  · obtain ⟨fd, F⟩ := c.def_ 11 (d := dd_law_equal) rfl
    exact ⟨fd, F, F.bindsN fun _ _ _ _ _ _ us hl => match us, hl with | [_, _], _ => rfl⟩
  · obtain ⟨fd, F⟩ := c.def_ 12 (d := dd_format_graph) rfl
    exact ⟨fd, F, F.bindsN fun _ _ _ _ _ _ us hl => match us, hl with | [_], _ => rfl⟩
  · obtain ⟨fd, F⟩ := c.def_ 13 (d := dd_parse_number) rfl
    exact ⟨fd, F, F.bindsN fun _ _ _ _ _ _ us hl => match us, hl with | [_], _ => rfl⟩
  · obtain ⟨fd, F⟩ := c.def_ 14 (d := dd_parse_graph) rfl
    exact ⟨fd, F, F.bindsN fun _ _ _ _ _ _ us hl => match us, hl with | [_], _ => rfl⟩
  · obtain ⟨fd, F⟩ := c.def_ 15 (d := dd_Graph__eq) rfl
    exact ⟨fd, F, F.bindsN fun _ _ _ _ _ _ us hl => match us, hl with | [_, _], _ => rfl⟩
  · obtain ⟨fd, F⟩ := c.def_ 16 (d := dd_law) rfl
    exact ⟨fd, F, F.bindsN fun _ _ _ _ _ _ us hl => match us, hl with | [_], _ => rfl⟩
theorem last {P : Program} {w : World} {K : PySem.W.Frag} {mg : Str → Option Value} (T : Txt K mg) (c : He.SaysY fa fb fc fn K) : ∃ fd : FuncData, (∀ (s : Shared) (v : Value), BindsTo s fd ⟨[v], []⟩ [("_law_script", v)]) ∧ ∀ base : Heap, FnOk P w K mg base (L2.CX P w) 10 (He.ga K "law") fd ["_law_script"] (SpOf K (List.replicate 1 false) m_law) := by
  obtain ⟨fd, F⟩ := c.def_ 16 (d := dd_law) rfl
  have b := FunD.bindsA (ps := ["_law_script"]) F fun _ _ _ _ _ _ us hl => match us, hl with | [_], _ => rfl
  exact ⟨fd, fun s v => b s [v] rfl, fun base => ok_law_at T F⟩
end LW
open PySem PySem.W PySem.Calls PyProof.Rows L2 VL in
theorem LW.main (hlaw : LawOk LW.m_law) : PySem.Challenge.rw_cherrystone_k09_graphs_are_written.Holds := by
  w_on; o_law
  refine HandSHeadRun.head_any (r := OpenLaw.row PySem.Challenge.rw_cherrystone_k09_graphs_are_written) (q := view (OpenLaw.row PySem.Challenge.rw_cherrystone_k09_graphs_are_written).prog [23]) (H := LW.hk) (ob := LW.ob) (M := 20000) (loose := LW.loose) (d := HandSHeadRun.topDef (OpenLaw.row PySem.Challenge.rw_cherrystone_k09_graphs_are_written).prog 23) (kwd := []) LW.ob_eq
    (by kernel_rfl) (fun s => by kernel_rfl) LW.run (by kernel_rfl) (by kernel_rfl) (by kernel_rfl) (by rfl) (by first | assumption | decide +kernel) (by decide +kernel) ⟨rfl, rfl, rfl, rfl, rfl, by decide +kernel⟩ ?hw ?hc
  case hw => w_witness2
  case hc =>
    refine L2.walk_ofE (l := PySem.Challenge.rw_cherrystone_k09_graphs_are_written) (n := 63) (k := 10) (x := "_law_script") (CX := L2.CX0) rfl (by decide) (by kernel_rfl) ⟨rfl, by decide, by decide⟩ ?F (fun _ _ _ _ z => z)
    intro w mg fa h Y G hmg0
    obtain ⟨K, KX, c⟩ := Y
    have hmg : mg ("law" : PySem.Str) = some (.ref fa) := by
      have e : (HandSHeadRun.topDef (OpenLaw.row PySem.Challenge.rw_cherrystone_k09_graphs_are_written).prog 23).name = ("law" : PySem.Str) := by kernel_rfl
      rw [← e]
      exact hmg0
    have e := hmg.symm.trans (He.glo_ok KX G (c.fact 40 (f := .glo "law") rfl))
    cases e
    have T := LW.txt KX G c
    obtain ⟨fd, hb, hF⟩ := LW.last (P := (PySem.Challenge.rw_cherrystone_k09_graphs_are_written).prog) (w := w) T c
    exact ⟨K, fd, (fun vs H Q _ => SpOf K (List.replicate 1 false) LW.m_law vs H Q fun _ _ _ => False), KX, hb, fun H a ns hl _ hS => sp_law hlaw hl hS, fun base _ _ => (hF base).noE⟩
theorem PySem.Challenge.cw_cherrystone_k09_graphs_are_written_holds : PySem.Challenge.rw_cherrystone_k09_graphs_are_written.Holds := by
  exact LW.main LW.law_ok
