import PyProof.Rows.All
import HandS.AnyAll
import HandS.Comp
import HandS.Deep
import HandS.Flow
import HandS.ForMost
import HandS.Gcd
import HandS.IsInst
import HandS.Rev
import HandS.SetFor
import HandS.SortInts
import HandS.Strs
import HandS.TupAny
import HandS.TupLe
import HandS.TupMul
import HandS.Walk
import HandS.Words
import KE.GoesNew
import PySem.Challenge.RW_designweave_k79_whole_answers_of_the_equ
set_option Elab.async false
set_option linter.all false
set_option maxRecDepth 100000
set_option maxHeartbeats 4000000
/-! Pv1: values as data, what denotes them in the abstract heap, slots with owned lists. -/
namespace Pv
open PySem PySem.Spec PyProof.Rows L2 GxR

/-! ### data in a heap -/
def keyD : Key → PyData
  | .inl i => .int i
  | .inr s => .str s
mutual
inductive Dn (K : PySem.W.Frag) (M : Hp) : V → PyData → Prop
  | non : Dn K M .non .none
  | bl (b : Bool) : Dn K M (.bl b) (.bool b)
  | int (i : Int) : Dn K M (.int i) (.int i)
  | str (x : Str) : Dn K M (.str x) (.str x)
  | lst {a : Addr} {xs : List V} {ds : List PyData} : M a = some (.lst xs) → DnA K M xs ds → Dn K M (.ref a) (.list ds)
  | tup {a : Addr} {xs : List V} {ds : List PyData} : SqT K M a xs → DnA K M xs ds → Dn K M (.ref a) (.tuple ds)
  | dK {a : Addr} {kvs : List (Key × V)} {ds : List PyData} : M a = some (.dK kvs) → DnA K M (kvs.map (·.2)) ds →
      Dn K M (.ref a) (.dict ((kvs.map fun p => keyD p.1).zip ds))
  | dT {a : Addr} {kvs : List (List Key × V)} {ds : List PyData} : M a = some (.dT kvs) → DnA K M (kvs.map (·.2)) ds →
      Dn K M (.ref a) (.dict ((kvs.map fun p => PyData.tuple (p.1.map keyD)).zip ds))
inductive DnA (K : PySem.W.Frag) (M : Hp) : List V → List PyData → Prop
  | nil : DnA K M [] []
  | cons {v : V} {vs : List V} {d : PyData} {ds : List PyData} : Dn K M v d → DnA K M vs ds → DnA K M (v :: vs) (d :: ds)
end

/-- all but tables stays -/
def Sm (H H' : Hp) : Prop := ∀ a o, H a = some o → (∀ ps, o ≠ .tbl ps) → H' a = some o
theorem Sm.rfl {H : Hp} : Sm H H := fun _ _ e _ => e
theorem Sm.trans {H H' H'' : Hp} (a : Sm H H') (b : Sm H' H'') : Sm H H'' := fun x o e n => b x o (a x o e n) n
theorem Sm.rd {H H' : Hp} {a : Addr} {u : HO} (s : Sm H H') (n : ∀ ps, u ≠ .tbl ps) (h : Rd H a u) : Rd H' a u := by
  rcases h with h | ⟨o, h⟩
  · exact .inl (s a _ h n)
  · exact .inr ⟨o, s a _ h (fun ps e => by cases e)⟩
theorem Sm.sqL {K : PySem.W.Frag} {H H' : Hp} {a : Addr} {xs : List V} (s : Sm H H') (h : SqL K H a xs) : SqL K H' a xs := by
  rcases h with h | h
  · exact .inl (s.rd (fun ps e => by cases e) h)
  · exact .inr h
theorem Sm.sqT {K : PySem.W.Frag} {H H' : Hp} {a : Addr} {xs : List V} (s : Sm H H') (h : SqT K H a xs) : SqT K H' a xs := by
  rcases h with h | h
  · exact .inl (s.rd (fun ps e => by cases e) h)
  · exact .inr h
mutual
theorem Dn.sm {K : PySem.W.Frag} {M M' : Hp} (s : Sm M M') : ∀ {v : V} {d : PyData}, Dn K M v d → Dn K M' v d
  | _, _, .non => .non
  | _, _, .bl b => .bl b
  | _, _, .int i => .int i
  | _, _, .str x => .str x
  | _, _, .lst h hs => .lst (s _ _ h (fun ps e => by cases e)) (DnA.sm s hs)
  | _, _, .tup h hs => .tup (s.sqT h) (DnA.sm s hs)
  | _, _, .dK h hs => .dK (s _ _ h (fun ps e => by cases e)) (DnA.sm s hs)
  | _, _, .dT h hs => .dT (s _ _ h (fun ps e => by cases e)) (DnA.sm s hs)
theorem DnA.sm {K : PySem.W.Frag} {M M' : Hp} (s : Sm M M') : ∀ {vs : List V} {ds : List PyData}, DnA K M vs ds → DnA K M' vs ds
  | _, _, .nil => .nil
  | _, _, .cons h hs => .cons (Dn.sm s h) (DnA.sm s hs)
end
theorem DnA.length {K : PySem.W.Frag} {M : Hp} : ∀ {vs : List V} {ds : List PyData}, DnA K M vs ds → vs.length = ds.length
  | _, _, .nil => rfl
  | _, _, .cons _ t => by rw [List.length_cons, List.length_cons, DnA.length t]
theorem DnA.get {K : PySem.W.Frag} {M : Hp} : ∀ {vs : List V} {ds : List PyData} {i : Nat} {d : PyData}, DnA K M vs ds → ds[i]? = some d → ∃ v, vs[i]? = some v ∧ Dn K M v d
  | _, _, _, _, .nil, e => by simp at e
  | _, _, 0, _, .cons h _, e => by simp at e; subst e; exact ⟨_, rfl, h⟩
  | _, _, i + 1, d, .cons _ t, e => by
    obtain ⟨v, h1, h2⟩ := DnA.get (i := i) (d := d) t (by simpa using e)
    exact ⟨v, by simpa using h1, h2⟩
theorem DnA.getV {K : PySem.W.Frag} {M : Hp} : ∀ {vs : List V} {ds : List PyData} {i : Nat} {v : V}, DnA K M vs ds → vs[i]? = some v → ∃ d, ds[i]? = some d ∧ Dn K M v d
  | _, _, _, _, .nil, e => by simp at e
  | _, _, 0, _, .cons h _, e => by simp at e; subst e; exact ⟨_, rfl, h⟩
  | _, _, i + 1, v, .cons _ t, e => by
    obtain ⟨d, h1, h2⟩ := DnA.getV (i := i) (v := v) t (by simpa using e)
    exact ⟨d, by simpa using h1, h2⟩
theorem DnA.append {K : PySem.W.Frag} {M : Hp} : ∀ {vs ws : List V} {ds es : List PyData}, DnA K M vs ds → DnA K M ws es → DnA K M (vs ++ ws) (ds ++ es)
  | _, _, _, _, .nil, h => h
  | _, _, _, _, .cons h t, h2 => .cons h (DnA.append t h2)
theorem DnA.take {K : PySem.W.Frag} {M : Hp} : ∀ {vs : List V} {ds : List PyData} (n : Nat), DnA K M vs ds → DnA K M (vs.take n) (ds.take n)
  | _, _, 0, _ => by simp; exact .nil
  | _, _, n + 1, .nil => by simp; exact .nil
  | _, _, n + 1, .cons h t => .cons h (DnA.take n t)
theorem DnA.drop {K : PySem.W.Frag} {M : Hp} : ∀ {vs : List V} {ds : List PyData} (n : Nat), DnA K M vs ds → DnA K M (vs.drop n) (ds.drop n)
  | _, _, 0, h => by simpa using h
  | _, _, n + 1, .nil => by simp; exact .nil
  | _, _, n + 1, .cons h t => by simpa using DnA.drop n t
theorem DnA.set {K : PySem.W.Frag} {M : Hp} {v : V} {d : PyData} (h : Dn K M v d) : ∀ {vs : List V} {ds : List PyData} (n : Nat), DnA K M vs ds → DnA K M (vs.set n v) (ds.set n d)
  | _, _, _, .nil => .nil
  | _, _, 0, .cons _ t => .cons h t
  | _, _, n + 1, .cons h0 t => .cons h0 (DnA.set h n t)
theorem DnA.eraseIdx {K : PySem.W.Frag} {M : Hp} : ∀ {vs : List V} {ds : List PyData} (n : Nat), DnA K M vs ds → DnA K M (vs.eraseIdx n) (ds.eraseIdx n)
  | _, _, _, .nil => .nil
  | _, _, 0, .cons _ t => t
  | _, _, n + 1, .cons h0 t => .cons h0 (DnA.eraseIdx n t)
theorem DnA.rep {K : PySem.W.Frag} {M : Hp} {v : V} {d : PyData} (h : Dn K M v d) : ∀ n : Nat, DnA K M (List.replicate n v) (List.replicate n d)
  | 0 => .nil
  | n + 1 => .cons h (DnA.rep h n)
theorem DnA.dropLast {K : PySem.W.Frag} {M : Hp} {vs : List V} {ds : List PyData} (h : DnA K M vs ds) : DnA K M vs.dropLast ds.dropLast := by
  rw [List.dropLast_eq_take, List.dropLast_eq_take, h.length]; exact h.take _
theorem DnA.reverse {K : PySem.W.Frag} {M : Hp} : ∀ {vs : List V} {ds : List PyData}, DnA K M vs ds → DnA K M vs.reverse ds.reverse
  | _, _, .nil => .nil
  | _, _, .cons h t => by rw [List.reverse_cons, List.reverse_cons]; exact (DnA.reverse t).append (.cons h .nil)
/-- ints alone -/
theorem DnA.ints {K : PySem.W.Frag} {M : Hp} : ∀ {vs : List V} {ns : List Int}, DnA K M vs (ns.map PyData.int) → vs = ns.map V.int
  | _, [], .nil => rfl
  | _, n :: ns, .cons h t => by cases h; rw [List.map_cons, DnA.ints t]
theorem DnA.ofInts {K : PySem.W.Frag} {M : Hp} : ∀ ns : List Int, DnA K M (ns.map V.int) (ns.map PyData.int)
  | [] => .nil
  | n :: ns => .cons (.int n) (DnA.ofInts ns)
theorem DnA.bls {K : PySem.W.Frag} {M : Hp} : ∀ {vs : List V} {ns : List Bool}, DnA K M vs (ns.map PyData.bool) → vs = ns.map V.bl
  | _, [], .nil => rfl
  | _, n :: ns, .cons h t => by cases h; rw [List.map_cons, DnA.bls t]

/-! ### owned lists -/
def mask (H : Hp) (L : List Addr) : Hp := fun b => if b ∈ L then none else H b
theorem mask_in {H : Hp} {L : List Addr} {b : Addr} (h : b ∈ L) : mask H L b = none := by unfold mask; rw [if_pos h]
theorem mask_out {H : Hp} {L : List Addr} {b : Addr} (h : b ∉ L) : mask H L b = H b := by unfold mask; rw [if_neg h]
theorem mask_some {H : Hp} {L : List Addr} {b : Addr} {o : HO} (h : mask H L b = some o) : b ∉ L ∧ H b = some o := by
  unfold mask at h
  split at h
  · cases h
  · rename_i q; exact ⟨q, h⟩
theorem mask_sub {H : Hp} {L : List Addr} : Sm (mask H L) H := fun _ _ e _ => (mask_some e).2
theorem mask_sm {H H' : Hp} {L : List Addr} (s : Sm H H') : Sm (mask H L) (mask H' L) := fun a o e n => by
  obtain ⟨q, e⟩ := mask_some e
  rw [mask_out q]; exact s a o e n
theorem mask_less {H : Hp} {L L' : List Addr} (h : ∀ b ∈ L', b ∈ L) : Sm (mask H L) (mask H L') := fun a o e n => by
  obtain ⟨q, e⟩ := mask_some e
  rw [mask_out (fun z => q (h a z))]; exact e
/-- an owned thing: a list, a dict or an instance of the call's own -/
def isOwn : HO → Bool
  | .lst _ => true
  | .dK _ => true
  | .dT _ => true
  | .ins _ _ _ => true
  | _ => false
def Trk (H : Hp) (L : List Addr) : Prop := ∀ b ∈ L, ∃ o, H b = some o ∧ isOwn o = true
theorem isOwn_nt {o : HO} (h : isOwn o = true) : ∀ ps, o ≠ .tbl ps := fun ps e => by subst e; cases h
theorem Trk.sm {H H' : Hp} {L : List Addr} (t : Trk H L) (s : Sm H H') : Trk H' L := fun b hb => by
  obtain ⟨o, e, h⟩ := t b hb
  exact ⟨o, s b o e (isOwn_nt h), h⟩
theorem Trk.new {H : Hp} {L : List Addr} {p : Addr} (t : Trk H L) (h : H p = none) : p ∉ L := fun hp => by
  obtain ⟨o, e, _⟩ := t p hp
  rw [h] at e; cases e
theorem mask_upd {H : Hp} {L : List Addr} {p : Addr} {o : HO} (h : p ∉ L) : mask (upd H p o) L = upd (mask H L) p o := by
  funext b
  unfold mask upd
  by_cases hb : b = p
  · subst hb; simp [h]
  · simp [hb]
theorem mask_updIn {H : Hp} {L : List Addr} {p : Addr} {o : HO} (h : p ∈ L) : mask (upd H p o) L = mask H L := by
  funext b
  unfold mask upd
  by_cases hb : b = p
  · subst hb; simp [h]
  · simp [hb]
theorem sm_upd {H : Hp} {p : Addr} {o : HO} (h : H p = none) : Sm H (upd H p o) := fun b x e _ => by
  rw [upd_ne (ne_of_none e h)]; exact e
theorem sm_updM {H : Hp} {L : List Addr} {p : Addr} {o : HO} (t : Trk H L) (h : H p = none) : Sm (mask H L) (mask (upd H p o) L) := mask_sm (sm_upd h)

mutual
inductive Pk (K : PySem.W.Frag) (M H : Hp) : Nat → V → PyData → Prop
  | sh {n : Nat} {v : V} {d : PyData} : Dn K M v d → Pk K M H n v d
  | ow {n : Nat} {a : Addr} {xs : List V} {ds : List PyData} : H a = some (.lst xs) → PkA K M H n xs ds → Pk K M H (n + 1) (.ref a) (.list ds)
  | odK {n : Nat} {a : Addr} {kvs : List (Key × V)} {ds : List PyData} : H a = some (.dK kvs) → DnA K M (kvs.map (·.2)) ds → Pk K M H (n + 1) (.ref a) (.dict ((kvs.map fun p => keyD p.1).zip ds))
  | odT {n : Nat} {a : Addr} {kvs : List (List Key × V)} {ds : List PyData} : H a = some (.dT kvs) → DnA K M (kvs.map (·.2)) ds → Pk K M H (n + 1) (.ref a) (.dict ((kvs.map fun p => PyData.tuple (p.1.map keyD)).zip ds))
inductive PkA (K : PySem.W.Frag) (M H : Hp) : Nat → List V → List PyData → Prop
  | nil {n : Nat} : PkA K M H n [] []
  | cons {n : Nat} {v : V} {vs : List V} {d : PyData} {ds : List PyData} : Pk K M H n v d → PkA K M H n vs ds → PkA K M H n (v :: vs) (d :: ds)
end
mutual
theorem Pk.dn {K : PySem.W.Frag} {M H : Hp} (s : Sm M H) : ∀ {n : Nat} {v : V} {d : PyData}, Pk K M H n v d → Dn K H v d
  | _, _, _, .sh h => h.sm s
  | _, _, _, .ow h hs => .lst h (PkA.dn s hs)
  | _, _, _, .odK h hs => .dK h (hs.sm s)
  | _, _, _, .odT h hs => .dT h (hs.sm s)
theorem PkA.dn {K : PySem.W.Frag} {M H : Hp} (s : Sm M H) : ∀ {n : Nat} {v : List V} {d : List PyData}, PkA K M H n v d → DnA K H v d
  | _, _, _, .nil => .nil
  | _, _, _, .cons h hs => .cons (Pk.dn s h) (PkA.dn s hs)
end
mutual
theorem Pk.sm {K : PySem.W.Frag} {M H M' H' : Hp} (s : Sm M M') (s' : Sm H H') : ∀ {n : Nat} {v : V} {d : PyData}, Pk K M H n v d → Pk K M' H' n v d
  | _, _, _, .sh h => .sh (h.sm s)
  | _, _, _, .ow h hs => .ow (s' _ _ h (fun ps e => by cases e)) (PkA.sm s s' hs)
  | _, _, _, .odK h hs => .odK (s' _ _ h (fun ps e => by cases e)) (hs.sm s)
  | _, _, _, .odT h hs => .odT (s' _ _ h (fun ps e => by cases e)) (hs.sm s)
theorem PkA.sm {K : PySem.W.Frag} {M H M' H' : Hp} (s : Sm M M') (s' : Sm H H') : ∀ {n : Nat} {v : List V} {d : List PyData}, PkA K M H n v d → PkA K M' H' n v d
  | _, _, _, .nil => .nil
  | _, _, _, .cons h hs => .cons (Pk.sm s s' h) (PkA.sm s s' hs)
end
theorem Pk.zero {K : PySem.W.Frag} {M H : Hp} {v : V} {d : PyData} (h : Pk K M H 0 v d) : Dn K M v d := by
  cases h; assumption
theorem PkA.zero {K : PySem.W.Frag} {M H : Hp} : ∀ {v : List V} {d : List PyData}, PkA K M H 0 v d → DnA K M v d
  | _, _, .nil => .nil
  | _, _, .cons h t => .cons h.zero (PkA.zero t)
theorem PkA.of {K : PySem.W.Frag} {M H : Hp} {n : Nat} : ∀ {v : List V} {d : List PyData}, DnA K M v d → PkA K M H n v d
  | _, _, .nil => .nil
  | _, _, .cons h t => .cons (.sh h) (PkA.of t)
theorem PkA.get {K : PySem.W.Frag} {M H : Hp} {n : Nat} : ∀ {vs : List V} {ds : List PyData} {i : Nat} {d : PyData}, PkA K M H n vs ds → ds[i]? = some d → ∃ v, vs[i]? = some v ∧ Pk K M H n v d
  | _, _, _, _, .nil, e => by simp at e
  | _, _, 0, _, .cons h _, e => by simp at e; subst e; exact ⟨_, rfl, h⟩
  | _, _, i + 1, d, .cons _ t, e => by
    obtain ⟨v, h1, h2⟩ := PkA.get (i := i) (d := d) t (by simpa using e)
    exact ⟨v, by simpa using h1, h2⟩
theorem PkA.length {K : PySem.W.Frag} {M H : Hp} {n : Nat} : ∀ {vs : List V} {ds : List PyData}, PkA K M H n vs ds → vs.length = ds.length
  | _, _, .nil => rfl
  | _, _, .cons _ t => by rw [List.length_cons, List.length_cons, PkA.length t]
/-! reading by shape -/
theorem Pk.int {K : PySem.W.Frag} {M H : Hp} {n : Nat} {v : V} {i : Int} (h : Pk K M H n v (.int i)) : v = .int i := by
  cases h with | sh h => cases h; rfl
theorem Pk.bool {K : PySem.W.Frag} {M H : Hp} {n : Nat} {v : V} {b : Bool} (h : Pk K M H n v (.bool b)) : v = .bl b := by
  cases h with | sh h => cases h; rfl
theorem Pk.str {K : PySem.W.Frag} {M H : Hp} {n : Nat} {v : V} {b : Str} (h : Pk K M H n v (.str b)) : v = .str b := by
  cases h with | sh h => cases h; rfl
theorem Pk.none {K : PySem.W.Frag} {M H : Hp} {n : Nat} {v : V} (h : Pk K M H n v .none) : v = .non := by
  cases h with | sh h => cases h; rfl
theorem Pk.list {K : PySem.W.Frag} {M H : Hp} {n : Nat} {v : V} {ds : List PyData} (s : Sm M H) (h : Pk K M H (n + 1) v (.list ds)) : ∃ a xs, v = .ref a ∧ H a = some (.lst xs) ∧ PkA K M H n xs ds := by
  cases h with
  | sh h => cases h with | lst h hs => exact ⟨_, _, rfl, s _ _ h (fun ps e => by cases e), PkA.of hs⟩
  | ow h hs => exact ⟨_, _, rfl, h, hs⟩
theorem Dn.list {K : PySem.W.Frag} {M : Hp} {v : V} {ds : List PyData} (h : Dn K M v (.list ds)) : ∃ a xs, v = .ref a ∧ M a = some (.lst xs) ∧ DnA K M xs ds := by
  cases h with | lst h hs => exact ⟨_, _, rfl, h, hs⟩
theorem Dn.tuple {K : PySem.W.Frag} {M : Hp} {v : V} {ds : List PyData} (h : Dn K M v (.tuple ds)) : ∃ a xs, v = .ref a ∧ SqT K M a xs ∧ DnA K M xs ds := by
  cases h with | tup h hs => exact ⟨_, _, rfl, h, hs⟩
theorem Pk.tuple {K : PySem.W.Frag} {M H : Hp} {n : Nat} {v : V} {ds : List PyData} (h : Pk K M H n v (.tuple ds)) : ∃ a xs, v = .ref a ∧ SqT K M a xs ∧ DnA K M xs ds := by
  cases h with | sh h => exact h.tuple
theorem Pk.mono {K : PySem.W.Frag} {M H : Hp} {v : V} {d : PyData} {n : Nat} (h : Pk K M H 0 v d) : Pk K M H n v d := .sh h.zero
end Pv
set_option Elab.async false
set_option linter.all false
set_option maxRecDepth 100000
set_option maxHeartbeats 4000000
/-! Pv2: slots, states, readings as plain functions. -/
namespace Pv
open PySem PySem.Spec PyProof.Rows L2 GxR

structure Cfg where
  K : PySem.W.Frag
  tabs : List Addr
  cls : Str → Addr
  stab : Str → Bool

/-- a slot: data at a level (0 to be shared, k + 1 owned to that depth), or an instance (owned or to be shared) with its attributes -/
inductive SV where
  | d (k : Nat) (x : PyData)
  | o (c : Str) (m : Bool) (fs : List (Str × Nat × PyData))
  | scr (ns : List Int)
abbrev PE' := List (Option SV)

mutual
/-- v is data d at level k, its owned addresses -/
inductive Ow (K : PySem.W.Frag) (M H : Hp) : Nat → V → PyData → List Addr → Prop
  | sh {v : V} {d : PyData} : Dn K M v d → Ow K M H 0 v d []
  | ow {n : Nat} {a : Addr} {xs : List V} {ds : List PyData} {F : List Addr} : H a = some (.lst xs) → OwA K M H n xs ds F → Ow K M H (n + 1) (.ref a) (.list ds) (a :: F)
  | odK {n : Nat} {a : Addr} {kvs : List (Key × V)} {ds : List PyData} : H a = some (.dK kvs) → DnA K M (kvs.map (·.2)) ds → Ow K M H (n + 1) (.ref a) (.dict ((kvs.map fun p => keyD p.1).zip ds)) [a]
  | odT {n : Nat} {a : Addr} {kvs : List (List Key × V)} {ds : List PyData} : H a = some (.dT kvs) → DnA K M (kvs.map (·.2)) ds → Ow K M H (n + 1) (.ref a) (.dict ((kvs.map fun p => PyData.tuple (p.1.map keyD)).zip ds)) [a]
inductive OwA (K : PySem.W.Frag) (M H : Hp) : Nat → List V → List PyData → List Addr → Prop
  | nil {n : Nat} : OwA K M H n [] [] []
  | cons {n : Nat} {v : V} {vs : List V} {d : PyData} {ds : List PyData} {F G : List Addr} : Ow K M H n v d F → OwA K M H n vs ds G → OwA K M H n (v :: vs) (d :: ds) (F ++ G)
end
/-- an instance's attributes -/
inductive FlO (K : PySem.W.Frag) (M H : Hp) : List (Str × Nat × PyData) → List (Str × V) → List Addr → Prop
  | nil : FlO K M H [] [] []
  | cons {f : Str} {k : Nat} {d : PyData} {v : V} {fs : List (Str × Nat × PyData)} {gs : List (Str × V)} {F G : List Addr} : Ow K M H k v d F → FlO K M H fs gs G → FlO K M H ((f, k, d) :: fs) ((f, v) :: gs) (F ++ G)
inductive SvO (C : Cfg) (M H : Hp) : SV → V → List Addr → Prop
  | d {k : Nat} {v : V} {x : PyData} {F : List Addr} : Ow C.K M H k v x F → SvO C M H (.d k x) v F
  | of {c : Str} {a dx : Addr} {fs : List (Str × Nat × PyData)} {gs : List (Str × V)} : M a = some (.ins (C.cls c) dx gs) → FlO C.K M M fs gs [] → (∀ p ∈ fs, p.2.1 = 0) → SvO C M H (.o c false fs) (.ref a) []
  | om {c : Str} {a dx : Addr} {fs : List (Str × Nat × PyData)} {gs : List (Str × V)} {F : List Addr} : H a = some (.ins (C.cls c) dx gs) → FlO C.K M H fs gs F → SvO C M H (.o c true fs) (.ref a) (a :: F)
  | scr {ns : List Int} {a : Addr} : SqL C.K M a (ns.map V.int) → SvO C M H (.scr ns) (.ref a) []
inductive Sl (C : Cfg) (M H : Hp) : PE' → L2.St → List (List Addr) → Prop
  | nil : Sl C M H [] [] []
  | no {v : Option V} {ps : PE'} {σ : L2.St} {As : List (List Addr)} : Sl C M H ps σ As → Sl C M H (none :: ps) (v :: σ) ([] :: As)
  | so {sv : SV} {v : V} {F : List Addr} {ps : PE'} {σ : L2.St} {As : List (List Addr)} : SvO C M H sv v F → Sl C M H ps σ As → Sl C M H (some sv :: ps) (some v :: σ) (F :: As)

section
variable {K : PySem.W.Frag} {C : Cfg} {M H M' H' : Hp}
mutual
theorem Ow.sm (s : Sm M M') : ∀ {k : Nat} {v : V} {d : PyData} {F : List Addr}, Ow K M H k v d F → (∀ a ∈ F, H' a = H a) → Ow K M' H' k v d F
  | _, _, _, _, .sh h, _ => .sh (h.sm s)
  | _, _, _, _, .ow h hs, e => .ow ((e _ List.mem_cons_self).trans h) (OwA.sm s hs fun a ha => e a (List.mem_cons_of_mem _ ha))
  | _, _, _, _, .odK h hs, e => .odK ((e _ List.mem_cons_self).trans h) (hs.sm s)
  | _, _, _, _, .odT h hs, e => .odT ((e _ List.mem_cons_self).trans h) (hs.sm s)
theorem OwA.sm (s : Sm M M') : ∀ {k : Nat} {v : List V} {d : List PyData} {F : List Addr}, OwA K M H k v d F → (∀ a ∈ F, H' a = H a) → OwA K M' H' k v d F
  | _, _, _, _, .nil, _ => .nil
  | _, _, _, _, .cons h hs, e => .cons (Ow.sm s h fun a ha => e a (List.mem_append_left _ ha)) (OwA.sm s hs fun a ha => e a (List.mem_append_right _ ha))
end
theorem FlO.sm (s : Sm M M') : ∀ {fs : List (Str × Nat × PyData)} {gs : List (Str × V)} {F : List Addr}, FlO K M H fs gs F → (∀ a ∈ F, H' a = H a) → FlO K M' H' fs gs F
  | _, _, _, .nil, _ => .nil
  | _, _, _, .cons h hs, e => .cons (Ow.sm s h fun a ha => e a (List.mem_append_left _ ha)) (FlO.sm s hs fun a ha => e a (List.mem_append_right _ ha))
theorem SvO.sm (s : Sm M M') {sv : SV} {v : V} {F : List Addr} (h : SvO C M H sv v F) (e : ∀ a ∈ F, H' a = H a) : SvO C M' H' sv v F := by
  cases h with
  | d h => exact .d (h.sm s e)
  | of h hs hz => exact .of (s _ _ h (fun ps e => by cases e)) (hs.sm s fun _ z => nomatch z) hz
  | om h hs => exact .om ((e _ List.mem_cons_self).trans h) (hs.sm s fun a ha => e a (List.mem_cons_of_mem _ ha))
  | scr h => exact .scr (s.sqL h)
theorem Sl.sm (s : Sm M M') : ∀ {ps : PE'} {σ : L2.St} {As : List (List Addr)}, Sl C M H ps σ As → (∀ a ∈ As.flatten, H' a = H a) → Sl C M' H' ps σ As
  | _, _, _, .nil, _ => .nil
  | _, _, _, .no h, e => .no (Sl.sm s h fun a ha => e a (by simpa using ha))
  | _, _, _, .so h hs, e => .so (h.sm s fun a ha => e a (by simp [ha])) (Sl.sm s hs fun a ha => e a (by
      rw [List.flatten_cons]; exact List.mem_append_right _ ha))
theorem Sl.get : ∀ {ps : PE'} {σ : L2.St} {As : List (List Addr)} {i : Nat} {sv : SV}, Sl C M H ps σ As → ps[i]? = some (some sv) → ∃ v F, σ[i]? = some (some v) ∧ As[i]? = some F ∧ SvO C M H sv v F
  | _, _, _, _, _, .nil, e => by simp at e
  | _, _, _, 0, _, .no _, e => by simp at e
  | _, _, _, i + 1, sv, .no h, e => by
    obtain ⟨v, F, h1, h2, h3⟩ := Sl.get (i := i) (sv := sv) h (by simpa using e)
    exact ⟨v, F, by simpa using h1, by simpa using h2, h3⟩
  | _, _, _, 0, _, .so h _, e => by simp at e; subst e; exact ⟨_, _, rfl, rfl, h⟩
  | _, _, _, i + 1, sv, .so _ h, e => by
    obtain ⟨v, F, h1, h2, h3⟩ := Sl.get (i := i) (sv := sv) h (by simpa using e)
    exact ⟨v, F, by simpa using h1, by simpa using h2, h3⟩
theorem Sl.set {sv : SV} {v : V} {F : List Addr} (x : SvO C M H sv v F) : ∀ {ps : PE'} {σ : L2.St} {As : List (List Addr)} (i : Nat), Sl C M H ps σ As → Sl C M H (ps.set i (some sv)) (σ.set i (some v)) (As.set i F)
  | _, _, _, _, .nil => .nil
  | _, _, _, 0, .no h => .so x h
  | _, _, _, i + 1, .no h => .no (Sl.set x i h)
  | _, _, _, 0, .so _ h => .so x h
  | _, _, _, i + 1, .so h0 h => .so h0 (Sl.set x i h)
/-- a slot told anew, its value as it is -/
theorem Sl.retell {sv : SV} {v : V} {F : List Addr} (x : SvO C M H sv v F) : ∀ {ps : PE'} {σ : L2.St} {As : List (List Addr)} (i : Nat), Sl C M H ps σ As → σ[i]? = some (some v) → Sl C M H (ps.set i (some sv)) σ (As.set i F)
  | _, _, _, i, .nil, e => by simp at e
  | _, _, _, 0, .no h, e => by simp at e; subst e; exact .so x h
  | _, _, _, i + 1, .no h, e => .no (Sl.retell x i h (by simpa using e))
  | _, _, _, 0, .so _ h, e => by simp at e; subst e; exact .so x h
  | _, _, _, i + 1, .so h0 h, e => .so h0 (Sl.retell x i h (by simpa using e))
theorem Sl.drop : ∀ {ps : PE'} {σ : L2.St} {As : List (List Addr)} (i : Nat) (v : Option V), Sl C M H ps σ As → Sl C M H (ps.set i none) (σ.set i v) (As.set i [])
  | _, _, _, _, _, .nil => .nil
  | _, _, _, 0, _, .no h => .no h
  | _, _, _, i + 1, _, .no h => .no (Sl.drop i _ h)
  | _, _, _, 0, _, .so _ h => .no h
  | _, _, _, i + 1, _, .so h0 h => .so h0 (Sl.drop i _ h)
theorem Sl.len : ∀ {ps : PE'} {σ : L2.St} {As : List (List Addr)}, Sl C M H ps σ As → ps.length = σ.length ∧ As.length = σ.length
  | _, _, _, .nil => ⟨rfl, rfl⟩
  | _, _, _, .no h => ⟨by simp [(Sl.len h).1], by simp [(Sl.len h).2]⟩
  | _, _, _, .so _ h => ⟨by simp [(Sl.len h).1], by simp [(Sl.len h).2]⟩
end

/-! ### lists of owned addresses -/
theorem flat_get {As : List (List Addr)} {i : Nat} {F : List Addr} (h : As[i]? = some F) {a : Addr} (ha : a ∈ F) : a ∈ As.flatten :=
  List.mem_flatten.mpr ⟨F, List.mem_of_getElem? h, ha⟩
theorem flat_set_mem {As : List (List Addr)} {i : Nat} {F : List Addr} {a : Addr} (h : a ∈ (As.set i F).flatten) : a ∈ F ∨ a ∈ (As.set i []).flatten := by
  induction As generalizing i with
  | nil => simp at h
  | cons G r ih =>
    cases i with
    | zero => simp only [List.set_cons_zero, List.flatten_cons, List.mem_append] at h ⊢; rcases h with h | h
              · exact .inl h
              · exact .inr (.inr h)
    | succ i =>
      simp only [List.set_cons_succ, List.flatten_cons, List.mem_append] at h ⊢
      rcases h with h | h
      · exact .inr (.inl h)
      · rcases ih h with h | h
        · exact .inl h
        · exact .inr (.inr h)
theorem flat_set_sub {As : List (List Addr)} {i : Nat} {a : Addr} (h : a ∈ (As.set i []).flatten) : a ∈ As.flatten := by
  induction As generalizing i with
  | nil => simp at h
  | cons G r ih =>
    cases i with
    | zero => simp only [List.set_cons_zero, List.flatten_cons, List.mem_append] at h ⊢; rcases h with h | h
              · cases h
              · exact .inr h
    | succ i =>
      simp only [List.set_cons_succ, List.flatten_cons, List.mem_append] at h ⊢
      rcases h with h | h
      · exact .inl h
      · exact .inr (ih h)
/-- the flattening, up to order, with one slot in front -/
theorem flat_perm {As : List (List Addr)} {i : Nat} {F : List Addr} (h : i < As.length) : (As.set i F).flatten.Perm (F ++ (As.set i []).flatten) := by
  induction As generalizing i with
  | nil => simp at h
  | cons G r ih =>
    cases i with
    | zero => simp
    | succ i =>
      simp only [List.set_cons_succ, List.flatten_cons]
      have := ih (i := i) (by simpa using h)
      refine (List.Perm.append_left G this).trans ?_
      rw [← List.append_assoc, ← List.append_assoc]
      exact List.Perm.append_right _ List.perm_append_comm
theorem set_self {α : Type} {l : List α} {i : Nat} {x : α} (h : l[i]? = some x) : l.set i x = l := by
  induction l generalizing i with
  | nil => rfl
  | cons y r ih => cases i with
    | zero => simp at h; subst h; rfl
    | succ i => simp only [List.set_cons_succ]; rw [ih (by simpa using h)]

/-! ### states -/
structure St (C : Cfg) (ps : PE') (σ : L2.St) (H : Hp) (As : List (List Addr)) (B : List Addr) : Prop where
  sl : Sl C (mask H (As.flatten ++ B)) H ps σ As
  nd : (As.flatten ++ B).Nodup
  trk : Trk H (As.flatten ++ B)
  tab : ∀ P ∈ C.tabs, TabG H P
/-- pure: all tracked things but tables stay -/
structure Gr (C : Cfg) (H H' : Hp) : Prop where
  sm : Sm H H'
  tab : (∀ P ∈ C.tabs, TabG H P) → ∀ P ∈ C.tabs, TabG H' P
  th : ∀ a, H a ≠ none → H' a ≠ none
theorem Gr.rfl {C : Cfg} {H : Hp} : Gr C H H := ⟨.rfl, fun h => h, fun _ h => h⟩
theorem Gr.trans {C : Cfg} {H H' H'' : Hp} (a : Gr C H H') (b : Gr C H' H'') : Gr C H H'' := ⟨a.sm.trans b.sm, fun h => b.tab (a.tab h), fun x h => b.th x (a.th x h)⟩
theorem tab_upd {H : Hp} {p P : Addr} {o : HO} (h : H p = none) (t : TabG H P) : TabG (upd H p o) P := by
  obtain ⟨ps, e, r⟩ := t
  exact ⟨ps, by rw [upd_ne (ne_of_none e h)]; exact e, r⟩
theorem upd_th {H : Hp} {p : Addr} {o : HO} : ∀ a, H a ≠ none → upd H p o a ≠ none := fun a h => by
  unfold upd
  split
  · exact fun z => nomatch z
  · exact h
theorem Gr.upd {C : Cfg} {H : Hp} {p : Addr} {o : HO} (h : H p = none) : Gr C H (upd H p o) := ⟨sm_upd h, fun t P hP => tab_upd h (t P hP), upd_th⟩
section
variable {C : Cfg} {ps : PE'} {σ : L2.St} {H H' : Hp} {As : List (List Addr)} {B : List Addr}
abbrev msk (H : Hp) (As : List (List Addr)) (B : List Addr) : Hp := mask H (As.flatten ++ B)
theorem St.own (S : St C ps σ H As B) (s : Sm H H') : ∀ a ∈ As.flatten ++ B, H' a = H a := fun a ha => by
  obtain ⟨o, e, h⟩ := S.trk a ha
  rw [e]; exact s a o e (isOwn_nt h)
theorem St.gr (S : St C ps σ H As B) (g : Gr C H H') : St C ps σ H' As B :=
  ⟨S.sl.sm (mask_sm g.sm) fun a ha => S.own g.sm a (List.mem_append_left _ ha), S.nd, S.trk.sm g.sm, g.tab S.tab⟩
end
/-- an owned thing read at its level -/
theorem Ow.pk {K : PySem.W.Frag} {M H : Hp} : ∀ {k : Nat} {v : V} {d : PyData} {F : List Addr}, Ow K M H k v d F → Pk K M H k v d := by
  intro k
  induction k with
  | zero => intro v d F h; cases h with | sh h => exact .sh h
  | succ k ih =>
    intro v d F h
    cases h with
    | ow h hs =>
      refine .ow h ?_
      clear h
      induction hs using OwA.rec (motive_1 := fun _ _ _ _ _ => True) with
      | sh => trivial
      | ow => trivial
      | odK => trivial
      | odT => trivial
      | nil => exact .nil
      | cons h _ _ ih2 => exact .cons (ih h) (ih2 ih)
    | odK h hs => exact .odK h hs
    | odT h hs => exact .odT h hs
theorem Pk.up {K : PySem.W.Frag} {M H : Hp} : ∀ {k n : Nat} {v : V} {d : PyData}, Pk K M H k v d → k ≤ n → Pk K M H n v d := by
  intro k
  induction k with
  | zero => intro n v d h _; exact .sh h.zero
  | succ k ih =>
    intro n v d h hn
    obtain ⟨n, rfl⟩ : ∃ m, n = m + 1 := ⟨n - 1, by omega⟩
    cases h with
    | sh h => exact .sh h
    | ow h hs =>
      refine .ow h ?_
      have hk : k ≤ n := by omega
      clear h hn
      induction hs using PkA.rec (motive_1 := fun _ _ _ _ => True) with
      | sh => trivial
      | ow => trivial
      | odK => trivial
      | odT => trivial
      | nil => exact .nil
      | cons h _ _ ih2 => exact .cons (ih h hk) (ih2 ih hk)
    | odK h hs => exact .odK h hs
    | odT h hs => exact .odT h hs

/-! ### readings -/
/-- an expression computes g; nothing that stood is changed; n: the level at which the value is read -/
def tP (C : Cfg) (n : Nat) (g : PE' → Option PyData) : TE := fun σ H Q => ∃ ps As B, St C ps σ H As B ∧ ∃ d, g ps = some d ∧ ∀ v H', Gr C H H' → Pk C.K (msk H' As B) H' n v d → Q v H'
/-- a test -/
def tT (C : Cfg) (g : PE' → Option Bool) : TT := fun σ H Q => ∃ ps As B, St C ps σ H As B ∧ ∃ b, g ps = some b ∧ ∀ H', Gr C H H' → Q b H'
/-- arguments -/
def tA (C : Cfg) (n : Nat) (g : PE' → Option (List PyData)) : TA := fun σ H Q => ∃ ps As B, St C ps σ H As B ∧ ∃ ds, g ps = some ds ∧ ∀ vs H', Gr C H H' → PkA C.K (msk H' As B) H' n vs ds → Q vs H'
theorem pe_weak {X : Cx} {e : Expr} {t t' : TE} (h : PE X e t) (w : ∀ σ H Q, t' σ H Q → t σ H Q) : PE X e t' := ⟨fun pins s σ H Q I q => h.run pins s σ H Q I (w σ H Q q)⟩
theorem pt_weak {X : Cx} {e : Expr} {t t' : TT} (h : PT X e t) (w : ∀ σ H Q, t' σ H Q → t σ H Q) : PT X e t' := ⟨fun pins s σ H Q I q => h.run pins s σ H Q I (w σ H Q q)⟩
theorem pw_weak {X : Cx} {e : Expr} {t t' : TT} (h : PW X e t) (w : ∀ σ H Q, t' σ H Q → t σ H Q) : PW X e t' := ⟨fun wh pins s σ H Q I q => h.run wh pins s σ H Q I (w σ H Q q)⟩
theorem pa_weak {X : Cx} {e : List Expr} {t t' : TA} (h : PA X e t) (w : ∀ σ H Q, t' σ H Q → t σ H Q) : PA X e t' := ⟨fun pos pins s σ H Q I q => h.run pos pins s σ H Q I (w σ H Q q)⟩
theorem ps_weak {X : Cx} {e : Stmt} {t t' : TS} (h : PS X e t) (w : ∀ D σ H, t' D σ H → t D σ H) : PS X e t' := ⟨fun pins s σ H D I q => h.run pins s σ H D I (w D σ H q)⟩
theorem pss_weak {X : Cx} {e : List Stmt} {t t' : TS} (h : PSs X e t) (w : ∀ D σ H, t' D σ H → t D σ H) : PSs X e t' := ⟨fun pins s σ H D I q => h.run pins s σ H D I (w D σ H q)⟩

section
variable {X : Cx} {C : Cfg}
/-! names, constants -/
def fVar (n i : Nat) : PE' → Option PyData := fun ps => match ps[i]? with
  | some (some (.d k x)) => if k ≤ n then some x else none
  | _ => none
theorem pVar {n i : Nat} {x : Str} {pos : Pos} (hN : X.N[i]? = some x) (hv : Vis X.env.scope x) (hd : (x == ("__debug__" : Str)) = false := by kernel_rfl) (hcd : (x == ("__classdict__" : Str)) = false := by kernel_rfl) : PE X (.Name x pos) (tP C n (fVar n i)) := by
  refine pe_weak (pe_var hN hv hd hcd) fun σ H Q h => ?_
  obtain ⟨ps, As, B, S, d, e, q⟩ := h
  unfold fVar at e
  split at e
  · rename_i k x hp
    split at e
    · rename_i hk
      cases e
      obtain ⟨v, F, h1, h2, h3⟩ := S.sl.get hp
      cases h3 with
      | d h => exact ⟨v, h1, q v H .rfl (h.pk.up hk)⟩
    · cases e
  · cases e
def fC (d : PyData) : PE' → Option PyData := fun _ => some d
theorem pInt {n : Nat} {i j pos} : PE X (.Constant (.int i) j pos) (tP C n (fC (.int i))) := pe_weak pe_int fun σ H Q h => by
  obtain ⟨ps, As, B, S, d, e, q⟩ := h
  cases e
  exact q _ _ .rfl (.sh (.int i))
theorem pBool {n : Nat} {i j pos} : PE X (.Constant (.bool i) j pos) (tP C n (fC (.bool i))) := pe_weak pe_bl fun σ H Q h => by
  obtain ⟨ps, As, B, S, d, e, q⟩ := h
  cases e
  exact q _ _ .rfl (.sh (.bl i))
theorem pNone {n : Nat} {j pos} : PE X (.Constant .none j pos) (tP C n (fC .none)) := pe_weak pe_non fun σ H Q h => by
  obtain ⟨ps, As, B, S, d, e, q⟩ := h
  cases e
  exact q _ _ .rfl (.sh .non)
theorem pStr {n : Nat} {i j pos} : PE X (.Constant (.str i) j pos) (tP C n (fC (.str i))) := pe_weak pe_str fun σ H Q h => by
  obtain ⟨ps, As, B, S, d, e, q⟩ := h
  cases e
  exact q _ _ .rfl (.sh (.str i))

/-! operators by values -/
def VOp2 (C : Cfg) (m n : Nat) (r : R2) (f : PyData → PyData → Option PyData) : Prop :=
  ∀ (H : Hp) (L : List Addr) (x y : V) (d e z : PyData) (Q : VK), Trk H L → Pk C.K (mask H L) H m x d → Pk C.K (mask H L) H m y e → f d e = some z → (∀ v H', Gr C H H' → Pk C.K (mask H' L) H' n v z → Q v H') → r x y H Q
def f2 (f : PyData → PyData → Option PyData) (a b : PE' → Option PyData) : PE' → Option PyData := fun ps => match a ps with
  | some d => match b ps with
    | some e => f d e
    | none => none
  | none => none
theorem f2_some {f : PyData → PyData → Option PyData} {a b : PE' → Option PyData} {ps : PE'} {z : PyData} (h : f2 f a b ps = some z) : ∃ d e, a ps = some d ∧ b ps = some e ∧ f d e = some z := by
  unfold f2 at h
  split at h
  · rename_i d hd
    split at h
    · rename_i e he; exact ⟨d, e, hd, he, h⟩
    · cases h
  · cases h
theorem tOp_tP {m n : Nat} {r : R2} {f : PyData → PyData → Option PyData} {ga gb : PE' → Option PyData} (v : VOp2 C m n r f) : ∀ σ H Q, tP C n (f2 f ga gb) σ H Q → tOp r (tP C m ga) (tP C m gb) σ H Q := fun σ H Q h => by
  obtain ⟨ps, As, B, S, z, e, q⟩ := h
  obtain ⟨d, e', h1, h2, h3⟩ := f2_some e
  refine ⟨ps, As, B, S, d, h1, fun x H1 g1 p1 => ⟨ps, As, B, S.gr g1, e', h2, fun y H2 g2 p2 => ?_⟩⟩
  exact v H2 (As.flatten ++ B) x y d e' z Q ((S.gr g1).gr g2).trk (p1.sm (mask_sm g2.sm) g2.sm) p2 h3 fun v H3 g3 p3 => q v H3 ((g1.trans g2).trans g3) p3
theorem pOp {m n : Nat} {op : Operator} {r : R2} {f : PyData → PyData → Option PyData} {a b : Expr} {ga gb : PE' → Option PyData} {pos : Pos} (ho : OpR X (binaryOp op) r) (v : VOp2 C m n r f) (ha : PE X a (tP C m ga)) (hb : PE X b (tP C m gb)) :
    PE X (.BinOp a op b pos) (tP C n (f2 f ga gb)) := pe_weak (pe_op ho ha hb) (tOp_tP v)
theorem pCmp {m n : Nat} {op : CmpOp} {r : R2} {f : PyData → PyData → Option PyData} {a b : Expr} {ga gb : PE' → Option PyData} {pos : Pos} (ho : OpR X (compareOp op) r) (v : VOp2 C m n r f) (ha : PE X a (tP C m ga)) (hb : PE X b (tP C m gb)) (hm : behindInMarks op b = false) :
    PE X (.Compare a [op] [b] pos) (tP C n (f2 f ga gb)) := pe_weak (pe_cmpR ho ha hb hm) (tOp_tP v)
end
end Pv
set_option Elab.async false
set_option linter.all false
set_option maxRecDepth 100000
set_option maxHeartbeats 4000000
/-! Pv3: operators. -/
namespace Pv
open PySem PySem.Spec PyProof.Rows L2 GxR

def LIM : Nat := 16777216
theorem lim_eq : LIM = sizeLine := by decide

section
variable {C : Cfg}
/-- a new tracked object is the answer -/
theorem new_lst {H : Hp} {L : List Addr} {xs : List V} {ds : List PyData} {p : Addr} {n : Nat} (t : Trk H L) (hp : H p = none) (h : DnA C.K (mask H L) xs ds) :
    Gr C H (upd H p (.lst xs)) ∧ Pk C.K (mask (upd H p (.lst xs)) L) (upd H p (.lst xs)) n (.ref p) (.list ds) := by
  refine ⟨Gr.upd hp, .sh (.lst ?_ (h.sm (sm_updM t hp)))⟩
  rw [mask_out (t.new hp), upd_same]
theorem new_tup {H : Hp} {L : List Addr} {xs : List V} {ds : List PyData} {p : Addr} {n : Nat} (t : Trk H L) (hp : H p = none) (h : DnA C.K (mask H L) xs ds) :
    Gr C H (upd H p (.tup xs)) ∧ Pk C.K (mask (upd H p (.tup xs)) L) (upd H p (.tup xs)) n (.ref p) (.tuple ds) := by
  refine ⟨Gr.upd hp, .sh (.tup (.inl (.inl ?_)) (h.sm (sm_updM t hp)))⟩
  rw [mask_out (t.new hp), upd_same]

def addD : PyData → PyData → Option PyData
  | .int i, .int j => some (.int (i + j))
  | .list xs, .list ys => if xs.length + ys.length ≤ LIM then some (.list (xs ++ ys)) else none
  | .tuple xs, .tuple ys => if xs.length + ys.length ≤ LIM then some (.tuple (xs ++ ys)) else none
  | .str x, .str y => if x.length + y.length ≤ LIM then some (.str (x ++ y)) else none
  | _, _ => none
abbrev rAddA (K : PySem.W.Frag) : R2 := fun x y H Q => rI0 (fun i j => .int (i + j)) x y H Q ∨ rCat x y H Q ∨ rCatA K x y H Q ∨ (∃ i j, x = .str i ∧ y = .str j ∧ i.length + j.length ≤ sizeLine ∧ Q (.str (i ++ j)) H)
theorem vAdd {n : Nat} : VOp2 C 1 n (rAddA C.K) addD := by
  intro H L x y d e z Q t hx hy hf q
  unfold addD at hf
  split at hf
  · cases hf
    exact .inl ⟨_, _, hx.int, hy.int, q _ H .rfl (.sh (.int _))⟩
  · split at hf
    · rename_i hl
      cases hf
      obtain ⟨a, xs, rfl, h1, h2⟩ := hx.list mask_sub
      obtain ⟨b, ys, rfl, h3, h4⟩ := hy.list mask_sub
      refine .inr (.inl ⟨a, b, xs, ys, rfl, rfl, h1, h3, by rw [h2.length, h4.length, ← lim_eq]; exact hl, fun p hp => ?_⟩)
      obtain ⟨g, k⟩ := new_lst (C := C) (n := n) t hp (h2.zero.append h4.zero)
      exact q _ _ g k
    · cases hf
  · split at hf
    · rename_i hl
      cases hf
      obtain ⟨a, xs, rfl, h1, h2⟩ := hx.tuple
      obtain ⟨b, ys, rfl, h3, h4⟩ := hy.tuple
      refine .inr (.inr (.inl ⟨a, b, xs, ys, rfl, rfl, mask_sub.sqT h1, mask_sub.sqT h3, by rw [h2.length, h4.length, ← lim_eq]; exact hl, fun e => ?_, fun _ e => ?_, fun _ _ p hp => ?_⟩))
      · subst e; cases h2
        exact q _ H .rfl (.sh (.tup h3 (by simpa using h4)))
      · subst e; cases h4
        exact q _ H .rfl (.sh (.tup h1 (by simpa using h2)))
      · obtain ⟨g, k⟩ := new_tup (C := C) (n := n) t hp (h2.append h4)
        exact q _ _ g k
    · cases hf
  · split at hf
    · rename_i hl
      cases hf
      exact .inr (.inr (.inr ⟨_, _, hx.str, hy.str, by rw [← lim_eq]; exact hl, q _ H .rfl (.sh (.str _))⟩))
    · cases hf
  · cases hf

/-- two ints under a check -/
def intD (c : Int → Int → Bool) (g : Int → Int → Int) : PyData → PyData → Option PyData
  | .int i, .int j => if c i j = true then some (.int (g i j)) else none
  | _, _ => none
theorem vInt {m n : Nat} {c : Int → Int → Bool} {g : Int → Int → Int} {CC : Int → Int → Prop} (hc : ∀ i j, c i j = true → CC i j) : VOp2 C m n (rI CC fun i j => .int (g i j)) (intD c g) := by
  intro H L x y d e z Q t hx hy hf q
  unfold intD at hf
  split at hf
  · split at hf
    · rename_i h
      cases hf
      exact ⟨_, _, hx.int, hy.int, hc _ _ h, q _ H .rfl (.sh (.int _))⟩
    · cases hf
  · cases hf
def subD : PyData → PyData → Option PyData
  | .int i, .int j => some (.int (i - j))
  | _, _ => none
theorem vSub {m n : Nat} : VOp2 C m n (rI0 fun i j => .int (i - j)) subD := by
  intro H L x y d e z Q t hx hy hf q
  unfold subD at hf
  split at hf
  · cases hf
    exact ⟨_, _, hx.int, hy.int, q _ H .rfl (.sh (.int _))⟩
  · cases hf
def xorD : PyData → PyData → Option PyData
  | .int i, .int j => some (.int (Builtin.bitXor i j))
  | _, _ => none
theorem vXor {m n : Nat} : VOp2 C m n (rI0 fun i j => .int (Builtin.bitXor i j)) xorD := by
  intro H L x y d e z Q t hx hy hf q
  unfold xorD at hf
  split at hf
  · cases hf
    exact ⟨_, _, hx.int, hy.int, q _ H .rfl (.sh (.int _))⟩
  · cases hf
def cMul (i j : Int) : Bool := decide (i.natAbs < 18446744073709551616) || decide (j.natAbs < 18446744073709551616)
theorem cMul_ok (i j : Int) (h : cMul i j = true) : CMul i j := by
  unfold cMul at h
  simp only [Bool.or_eq_true, decide_eq_true_eq] at h
  unfold CMul
  omega
def cDiv (i j : Int) : Bool := decide (j ≠ 0) && decide (j.natAbs < 1073741824)
theorem cDiv_ok (i j : Int) (h : cDiv i j = true) : CDivN i j := by
  unfold cDiv at h
  simp only [Bool.and_eq_true, decide_eq_true_eq] at h
  exact h
def cMod (i j : Int) : Bool := decide (j ≠ 0)
theorem cMod_ok (i j : Int) (h : cMod i j = true) : j ≠ 0 := by
  unfold cMod at h
  simpa using h
def cPow (i j : Int) : Bool := decide (0 ≤ j) && (decide (j ≤ 1000000) && decide (i.natAbs < 18446744073709551616))
theorem cPow_ok (i j : Int) (h : cPow i j = true) : CPow i j := by
  unfold cPow at h
  simp only [Bool.and_eq_true, decide_eq_true_eq] at h
  exact ⟨h.1, h.2.1, h.2.2⟩
/-- x * y: ints; a list or a tuple so often -/
def repL {α : Type} (n : Nat) (xs : List α) : List α := (List.replicate n xs).flatten
def mulD : PyData → PyData → Option PyData
  | .int i, .int j => if cMul i j = true then some (.int (i * j)) else none
  | .list xs, .int k => if k ≤ 16777216 ∧ xs.length * k.toNat ≤ LIM ∧ -16777216 ≤ k then some (.list (repL k.toNat xs)) else none
  | .tuple xs, .int k => if xs ≠ [] ∧ 2 ≤ k ∧ k ≤ 1000 ∧ xs.length ≤ 1000 then some (.tuple (repL k.toNat xs)) else none
  | _, _ => none
theorem DnA.repL {K : PySem.W.Frag} {M : Hp} {vs : List V} {ds : List PyData} (h : DnA K M vs ds) : ∀ n, DnA K M (List.replicate n vs).flatten (repL n ds)
  | 0 => .nil
  | n + 1 => h.append (DnA.repL h n)
abbrev rMulA (K : PySem.W.Frag) : R2 := fun x y H Q => rI CMul (fun i j => .int (i * j)) x y H Q ∨ rRep x y H Q ∨ rRepT K x y H Q
theorem vMul {n : Nat} : VOp2 C 1 n (rMulA C.K) mulD := by
  intro H L x y d e z Q t hx hy hf q
  unfold mulD at hf
  split at hf
  · split at hf
    · rename_i h
      cases hf
      exact .inl ⟨_, _, hx.int, hy.int, cMul_ok _ _ h, q _ H .rfl (.sh (.int _))⟩
    · cases hf
  · split at hf
    · rename_i h
      cases hf
      obtain ⟨a, xs, rfl, h1, h2⟩ := hx.list mask_sub
      refine .inr (.inl ⟨a, _, xs, rfl, hy.int, h1, by omega, by omega, by rw [h2.length, ← lim_eq]; exact h.2.1, fun p hp => ?_⟩)
      obtain ⟨g, k⟩ := new_lst (C := C) (n := n) t hp (DnA.repL h2.zero _)
      exact q _ _ g k
    · cases hf
  · split at hf
    · rename_i h
      cases hf
      obtain ⟨a, xs, rfl, h1, h2⟩ := hx.tuple
      refine .inr (.inr ⟨a, _, xs, rfl, hy.int, mask_sub.sqT h1, fun e => h.1 (by subst e; cases h2; rfl), h.2.1, h.2.2.1, by rw [h2.length]; exact h.2.2.2, fun p hp => ?_⟩)
      obtain ⟨g, k⟩ := new_tup (C := C) (n := n) t hp (DnA.repL h2 _)
      exact q _ _ g k
    · cases hf
  · cases hf

/-! ### data without dicts, as the kit's own reading of it -/
mutual
theorem Dn.dp {K : PySem.W.Frag} {H : Hp} : ∀ {v : V} {d : PyData}, Dn K H v d → d.canLay0 = true → Dp K H v d
  | _, _, .non, _ => .non
  | _, _, .bl b, _ => .bl b
  | _, _, .int i, _ => .int i
  | _, _, .str x, _ => .str x
  | _, _, .lst h hs, c => .lst (SqL.of h) (DnA.dp hs (by simpa [PyData.canLay0] using c))
  | _, _, .tup h hs, c => .tup h (DnA.dp hs (by simpa [PyData.canLay0] using c))
  | _, _, .dK _ _, c => by simp [PyData.canLay0] at c
  | _, _, .dT _ _, c => by simp [PyData.canLay0] at c
theorem DnA.dp {K : PySem.W.Frag} {H : Hp} : ∀ {v : List V} {d : List PyData}, DnA K H v d → PyData.canLayAll0 d = true → DpAll K H v d
  | _, _, .nil, _ => .nil
  | _, _, .cons h hs, c => by
    simp only [PyData.canLayAll0, Bool.and_eq_true] at c
    exact .cons (Dn.dp h c.1) (DnA.dp hs c.2)
end
theorem Dn.dpS {K : PySem.W.Frag} {H : Hp} {v : V} {d : PyData} (h : Dn K H v d) (s : SeqAt.shaped d = true) : Dp K H v d := h.dp (SeqAt.canLay_of_shaped s)

theorem shaped_int (i : Int) : SeqAt.shaped (.int i) = true := by
  unfold SeqAt.shaped PyData.canLay0 PyData.depth
  decide
def eqD : PyData → PyData → Option PyData
  | .int i, .int j => some (.bool (i == j))
  | d, e => if SeqAt.shaped d = true ∧ SeqAt.shaped e = true then some (.bool (PyData.eqv d e)) else none
def neD : PyData → PyData → Option PyData
  | .int i, .int j => some (.bool (!(i == j)))
  | d, e => if SeqAt.shaped d = true ∧ SeqAt.shaped e = true then some (.bool (!(PyData.eqv d e))) else none
theorem vEq {m n : Nat} : VOp2 C m n (rEqD C.K) eqD := by
  intro H L x y d e z Q t hx hy hf q
  unfold eqD at hf
  split at hf
  · cases hf
    refine ⟨_, _, (hx.dn mask_sub).dpS (shaped_int _), (hy.dn mask_sub).dpS (shaped_int _), shaped_int _, shaped_int _, ?_⟩
    exact q _ H .rfl (.sh (.bl _))
  · split at hf
    · rename_i h
      cases hf
      exact ⟨_, _, (hx.dn mask_sub).dpS h.1, (hy.dn mask_sub).dpS h.2, h.1, h.2, q _ H .rfl (.sh (.bl _))⟩
    · cases hf
theorem vNe {m n : Nat} : VOp2 C m n (rNeD C.K) neD := by
  intro H L x y d e z Q t hx hy hf q
  unfold neD at hf
  split at hf
  · cases hf
    refine ⟨_, _, (hx.dn mask_sub).dpS (shaped_int _), (hy.dn mask_sub).dpS (shaped_int _), shaped_int _, shaped_int _, ?_⟩
    exact q _ H .rfl (.sh (.bl _))
  · split at hf
    · rename_i h
      cases hf
      exact ⟨_, _, (hx.dn mask_sub).dpS h.1, (hy.dn mask_sub).dpS h.2, h.1, h.2, q _ H .rfl (.sh (.bl _))⟩
    · cases hf
/-- ints -/
def cmpI (p : Int → Int → Bool) : PyData → PyData → Option PyData
  | .int i, .int j => some (.bool (p i j))
  | _, _ => none
theorem vCmpI {m n : Nat} {p : Int → Int → Bool} : VOp2 C m n (rI0 fun i j => .bl (p i j)) (cmpI p) := by
  intro H L x y d e z Q t hx hy hf q
  unfold cmpI at hf
  split at hf
  · cases hf
    exact ⟨_, _, hx.int, hy.int, q _ H .rfl (.sh (.bl _))⟩
  · cases hf
def isN : PyData → Bool
  | .none => true
  | _ => false
def isND : PyData → PyData → Option PyData
  | d, .none => some (.bool (isN d))
  | _, _ => none
def notND : PyData → PyData → Option PyData
  | d, .none => some (.bool (!isN d))
  | _, _ => none
theorem Dn.isN {K : PySem.W.Frag} {H : Hp} {v : V} {d : PyData} (h : Dn K H v d) : decide (v = .non) = Pv.isN d := by
  cases h <;> simp [Pv.isN]
theorem vIsN {m n : Nat} : VOp2 C m n (fun x y H Q => y = .non ∧ Q (.bl (decide (x = .non))) H) isND := by
  intro H L x y d e z Q t hx hy hf q
  unfold isND at hf
  split at hf
  · cases hf
    refine ⟨hy.none, ?_⟩
    rw [(hx.dn mask_sub).isN]
    exact q _ H .rfl (.sh (.bl _))
  · cases hf
theorem vNotN {m n : Nat} : VOp2 C m n (fun x y H Q => y = .non ∧ Q (.bl (!decide (x = .non))) H) notND := by
  intro H L x y d e z Q t hx hy hf q
  unfold notND at hf
  split at hf
  · cases hf
    refine ⟨hy.none, ?_⟩
    rw [(hx.dn mask_sub).isN]
    exact q _ H .rfl (.sh (.bl _))
  · cases hf
/-- in a list -/
def inL (d : PyData) : List PyData → Bool
  | [] => false
  | z :: r => if PyData.eqv z d = true then true else inL d r
theorem inL_any (d : PyData) : ∀ ds : List PyData, inL d ds = ds.any fun z => PyData.eqv z d
  | [] => rfl
  | z :: r => by
    unfold inL
    rw [List.any_cons, inL_any d r]
    cases PyData.eqv z d <;> simp
/-- flat things -/
def flatD : PyData → Bool
  | .none => true
  | .bool _ => true
  | .int _ => true
  | .str _ => true
  | _ => false
theorem Dn.flat {K : PySem.W.Frag} {H : Hp} {v : V} {d : PyData} (h : Dn K H v d) (f : flatD d = true) : flatV v = true := by
  cases h <;> first | rfl | cases f
theorem Dn.eqV {K : PySem.W.Frag} {H : Hp} {v u : V} {d e : PyData} (h : Dn K H v d) (h2 : Dn K H u e) (f : flatD d = true) (f2 : flatD e = true) : L2.eqV v u = PyData.eqv d e := by
  cases h <;> cases h2 <;> first | rfl | (cases f; done) | (cases f2; done) | simp [L2.eqV, PyData.eqv]
theorem DnA.flats {K : PySem.W.Frag} {H : Hp} {v : V} {d : PyData} (h : Dn K H v d) (f : flatD d = true) : ∀ {vs : List V} {ds : List PyData}, DnA K H vs ds → ds.all flatD = true → vs.all flatV = true ∧ inV v vs = inL d ds
  | _, _, .nil, _ => ⟨rfl, rfl⟩
  | _, _, .cons h0 hs, c => by
    simp only [List.all_cons, Bool.and_eq_true] at c
    obtain ⟨h1, h2⟩ := DnA.flats h f hs c.2
    refine ⟨by simp only [List.all_cons, Bool.and_eq_true]; exact ⟨h0.flat c.1, h1⟩, ?_⟩
    unfold inL
    unfold inV at h2 ⊢
    rw [List.any_cons, h2, h0.eqV h c.1 f]
    cases PyData.eqv _ d <;> simp
def inLD (neg : Bool) : PyData → PyData → Option PyData
  | d, .list ds => if SeqAt.shaped d = true ∧ SeqAt.shaped (.list ds) = true then some (.bool (if neg then !inL d ds else inL d ds)) else none
  | d, .tuple ds => if flatD d = true ∧ ds.all flatD = true then some (.bool (if neg then !inL d ds else inL d ds)) else none
  | _, _ => none
abbrev rInA (K : PySem.W.Frag) : R2 := fun x y H Q => rInD K x y H Q ∨ rIn K false x y H Q
abbrev rNotInA (K : PySem.W.Frag) : R2 := fun x y H Q => rNotInD K x y H Q ∨ rIn K true x y H Q
theorem vInL {m n : Nat} : VOp2 C m n (rInA C.K) (inLD false) := by
  intro H L x y d e z Q t hx hy hf q
  unfold inLD at hf
  split at hf
  · split at hf
    · rename_i h
      cases hf
      refine .inl ⟨_, _, (hx.dn mask_sub).dpS h.1, (hy.dn mask_sub).dpS h.2, h.1, h.2, ?_⟩
      rw [← inL_any]
      exact q _ H .rfl (.sh (.bl _))
    · cases hf
  · split at hf
    · rename_i h
      cases hf
      obtain ⟨a, xs, rfl, h1, h2⟩ := hy.tuple
      obtain ⟨k1, k2⟩ := DnA.flats (hx.dn mask_sub) h.1 (h2.sm mask_sub) h.2
      refine .inr ⟨a, xs, rfl, .inr (mask_sub.sqT h1), (hx.dn mask_sub).flat h.1, k1, ?_⟩
      rw [k2]
      exact q _ H .rfl (.sh (.bl _))
    · cases hf
  · cases hf
theorem vNotInL {m n : Nat} : VOp2 C m n (rNotInA C.K) (inLD true) := by
  intro H L x y d e z Q t hx hy hf q
  unfold inLD at hf
  split at hf
  · split at hf
    · rename_i h
      cases hf
      refine .inl ⟨_, _, (hx.dn mask_sub).dpS h.1, (hy.dn mask_sub).dpS h.2, h.1, h.2, ?_⟩
      rw [← inL_any]
      exact q _ H .rfl (.sh (.bl _))
    · cases hf
  · split at hf
    · rename_i h
      cases hf
      obtain ⟨a, xs, rfl, h1, h2⟩ := hy.tuple
      obtain ⟨k1, k2⟩ := DnA.flats (hx.dn mask_sub) h.1 (h2.sm mask_sub) h.2
      refine .inr ⟨a, xs, rfl, .inr (mask_sub.sqT h1), (hx.dn mask_sub).flat h.1, k1, ?_⟩
      rw [k2]
      exact q _ H .rfl (.sh (.bl _))
    · cases hf
  · cases hf
end

/-! ### rules -/
section
variable {X : Cx} {C : Cfg} {a b : Expr} {ga gb : PE' → Option PyData} {pos : Pos} {n m : Nat}
theorem pAdd (hK : X.K = C.K) (ha : PE X a (tP C 1 ga)) (hb : PE X b (tP C 1 gb)) : PE X (.BinOp a .Add b pos) (tP C n (f2 addD ga gb)) :=
  pOp (OpR.or op_add (OpR.or op_cat (OpR.or op_catA op_add_str))) (by rw [hK]; exact vAdd) ha hb
theorem pSub (ha : PE X a (tP C m ga)) (hb : PE X b (tP C m gb)) : PE X (.BinOp a .Sub b pos) (tP C n (f2 subD ga gb)) := pOp op_sub vSub ha hb
theorem pXor (ha : PE X a (tP C m ga)) (hb : PE X b (tP C m gb)) : PE X (.BinOp a .BitXor b pos) (tP C n (f2 xorD ga gb)) := pOp op_xor vXor ha hb
theorem pMul (hK : X.K = C.K) (ha : PE X a (tP C 1 ga)) (hb : PE X b (tP C 1 gb)) : PE X (.BinOp a .Mult b pos) (tP C n (f2 mulD ga gb)) :=
  pOp (OpR.or op_mul (OpR.or op_rep op_repT)) (by rw [hK]; exact vMul) ha hb
abbrev divD := intD cDiv Int.fdiv
abbrev modD := intD cMod Int.fmod
abbrev powD := intD cPow fun i j => i ^ j.toNat
theorem pDiv (ha : PE X a (tP C m ga)) (hb : PE X b (tP C m gb)) : PE X (.BinOp a .FloorDiv b pos) (tP C n (f2 divD ga gb)) := pOp op_fdivN (vInt cDiv_ok) ha hb
theorem pMod (ha : PE X a (tP C m ga)) (hb : PE X b (tP C m gb)) : PE X (.BinOp a .Mod b pos) (tP C n (f2 modD ga gb)) := pOp op_modN (vInt cMod_ok) ha hb
theorem pPow (ha : PE X a (tP C m ga)) (hb : PE X b (tP C m gb)) : PE X (.BinOp a .Pow b pos) (tP C n (f2 powD ga gb)) := pOp op_pow (vInt cPow_ok) ha hb
abbrev ltD := cmpI fun i j => decide (i < j)
abbrev leD := cmpI fun i j => decide (i ≤ j)
abbrev gtD := cmpI fun i j => decide (j < i)
abbrev geD := cmpI fun i j => decide (j ≤ i)
theorem pEq (hK : X.K = C.K) (hu : X.A.units + 64 < cLine) (ha : PE X a (tP C m ga)) (hb : PE X b (tP C m gb)) : PE X (.Compare a [.Eq] [b] pos) (tP C n (f2 eqD ga gb)) := pCmp (op_eqD hu) (by rw [hK]; exact vEq) ha hb (nomark _)
theorem pNe (hK : X.K = C.K) (hu : X.A.units + 64 < cLine) (ha : PE X a (tP C m ga)) (hb : PE X b (tP C m gb)) : PE X (.Compare a [.NotEq] [b] pos) (tP C n (f2 neD ga gb)) := pCmp (op_neD hu) (by rw [hK]; exact vNe) ha hb (nomark _)
theorem pLt (ha : PE X a (tP C m ga)) (hb : PE X b (tP C m gb)) : PE X (.Compare a [.Lt] [b] pos) (tP C n (f2 ltD ga gb)) := pCmp op_lt vCmpI ha hb (nomark _)
theorem pLe (ha : PE X a (tP C m ga)) (hb : PE X b (tP C m gb)) : PE X (.Compare a [.LtE] [b] pos) (tP C n (f2 leD ga gb)) := pCmp op_le vCmpI ha hb (nomark _)
theorem pGt (ha : PE X a (tP C m ga)) (hb : PE X b (tP C m gb)) : PE X (.Compare a [.Gt] [b] pos) (tP C n (f2 gtD ga gb)) := pCmp op_gt vCmpI ha hb (nomark _)
theorem pGe (ha : PE X a (tP C m ga)) (hb : PE X b (tP C m gb)) : PE X (.Compare a [.GtE] [b] pos) (tP C n (f2 geD ga gb)) := pCmp op_ge vCmpI ha hb (nomark _)
theorem pIsN (ha : PE X a (tP C m ga)) (hb : PE X b (tP C m gb)) : PE X (.Compare a [.Is] [b] pos) (tP C n (f2 isND ga gb)) := pCmp op_isN vIsN ha hb (nomark _)
theorem pNotN (ha : PE X a (tP C m ga)) (hb : PE X b (tP C m gb)) : PE X (.Compare a [.IsNot] [b] pos) (tP C n (f2 notND ga gb)) := pCmp op_notN vNotN ha hb (nomark _)
theorem pInL (hK : X.K = C.K) (hu : X.A.units + 65 < cLine) (ha : PE X a (tP C m ga)) (hb : PE X b (tP C m gb)) (hm : behindInMarks .In b = false) : PE X (.Compare a [.In] [b] pos) (tP C n (f2 (inLD false) ga gb)) := pCmp (OpR.or (op_inD hu) op_in_seq) (by rw [hK]; exact vInL) ha hb hm
theorem pNotInL (hK : X.K = C.K) (hu : X.A.units + 65 < cLine) (ha : PE X a (tP C m ga)) (hb : PE X b (tP C m gb)) (hm : behindInMarks .NotIn b = false) : PE X (.Compare a [.NotIn] [b] pos) (tP C n (f2 (inLD true) ga gb)) := pCmp (OpR.or (op_notInD hu) op_notIn_seq) (by rw [hK]; exact vNotInL) ha hb hm
/-! one place -/
def negD : PyData → Option PyData
  | .int i => some (.int (-i))
  | _ => none
def f1 (f : PyData → Option PyData) (a : PE' → Option PyData) : PE' → Option PyData := fun ps => match a ps with
  | some d => f d
  | none => none
theorem f1_some {f : PyData → Option PyData} {a : PE' → Option PyData} {ps : PE'} {z : PyData} (h : f1 f a ps = some z) : ∃ d, a ps = some d ∧ f d = some z := by
  unfold f1 at h
  split at h
  · rename_i d hd; exact ⟨d, hd, h⟩
  · cases h
theorem pNeg (ha : PE X a (tP C m ga)) : PE X (.UnaryOp .USub a pos) (tP C n (f1 negD ga)) := pe_weak (pe_un un_neg ha) fun σ H Q h => by
  obtain ⟨ps, As, B, S, z, e, q⟩ := h
  obtain ⟨d, h1, h2⟩ := f1_some e
  refine ⟨ps, As, B, S, d, h1, fun x H1 g1 p1 => ?_⟩
  unfold negD at h2
  split at h2
  · cases h2
    exact ⟨_, p1.int, q _ H1 g1 (.sh (.int _))⟩
  · cases h2
end
end Pv
set_option Elab.async false
set_option linter.all false
set_option maxRecDepth 100000
set_option maxHeartbeats 4000000
/-! Pv4: tests, displays, subscripts, calls of built-ins. -/
namespace Pv
open PySem PySem.Spec PyProof.Rows L2 GxR

/-! ### tests -/
def boolOf : Option PyData → Option Bool
  | some (.bool b) => some b
  | _ => none
theorem boolOf_some {o : Option PyData} {b : Bool} (h : boolOf o = some b) : o = some (.bool b) := by
  unfold boolOf at h
  split at h
  · cases h; rfl
  · cases h
def fB (g : PE' → Option PyData) : PE' → Option Bool := fun ps => boolOf (g ps)
def truD : PyData → Option Bool
  | .none => some false
  | .bool b => some b
  | .int i => some (i != 0)
  | .str x => if x.length ≤ LIM then some ((x.length : Int) != 0) else none
  | .list xs => some (!xs.isEmpty)
  | .tuple xs => some (!xs.isEmpty)
  | _ => none
def fT (g : PE' → Option PyData) : PE' → Option Bool := fun ps => match g ps with
  | some d => truD d
  | none => none
theorem DnA.emp {K : PySem.W.Frag} {M : Hp} {vs : List V} {ds : List PyData} (h : DnA K M vs ds) : vs.isEmpty = ds.isEmpty := by cases h <;> rfl
theorem PkA.emp {K : PySem.W.Frag} {M H : Hp} {n : Nat} {vs : List V} {ds : List PyData} (h : PkA K M H n vs ds) : vs.isEmpty = ds.isEmpty := by cases h <;> rfl
theorem Pk.tru {K : PySem.W.Frag} {M H : Hp} {v : V} {d : PyData} {b : Bool} (s : Sm M H) (h : Pk K M H 1 v d) (e : truD d = some b) : TruV K v H b := by
  unfold truD at e
  split at e
  · cases e; rw [h.none]; rfl
  · cases e; rw [h.bool]; rfl
  · cases e; rw [h.int]; rfl
  · split at e
    · cases e; rw [h.str]; exact ⟨by rw [← lim_eq]; assumption, rfl⟩
    · cases e
  · cases e
    obtain ⟨a, xs, rfl, h1, h2⟩ := h.list s
    exact .inl ⟨xs, SqL.of h1, by rw [h2.emp]⟩
  · cases e
    obtain ⟨a, xs, rfl, h1, h2⟩ := h.tuple
    exact .inr (.inl ⟨xs, s.sqT h1, by rw [h2.emp]⟩)
  · cases e
section
variable {X : Cx} {C : Cfg} {a b c : Expr} {ga gb gc : PE' → Option PyData} {ta tb : PE' → Option Bool} {pos : Pos} {n m : Nat} {rest : List Expr}
/-- a comparison's rule -/
structure CmpOk (X : Cx) (C : Cfg) (op : CmpOp) (f : PyData → PyData → Option PyData) : Prop where
  ok : ∃ r, OpR X (compareOp op) r ∧ ∀ n, VOp2 C 1 n r f
theorem kEq (hK : X.K = C.K) (hu : X.A.units + 64 < cLine) : CmpOk X C .Eq eqD := ⟨_, op_eqD hu, fun _ => by rw [hK]; exact vEq⟩
theorem kNe (hK : X.K = C.K) (hu : X.A.units + 64 < cLine) : CmpOk X C .NotEq neD := ⟨_, op_neD hu, fun _ => by rw [hK]; exact vNe⟩
theorem kLt : CmpOk X C .Lt ltD := ⟨_, op_lt, fun _ => vCmpI⟩
theorem kLe : CmpOk X C .LtE leD := ⟨_, op_le, fun _ => vCmpI⟩
theorem kGt : CmpOk X C .Gt gtD := ⟨_, op_gt, fun _ => vCmpI⟩
theorem kGe : CmpOk X C .GtE geD := ⟨_, op_ge, fun _ => vCmpI⟩
theorem kIs : CmpOk X C .Is isND := ⟨_, op_isN, fun _ => vIsN⟩
theorem kIsNot : CmpOk X C .IsNot notND := ⟨_, op_notN, fun _ => vNotN⟩
theorem kIn (hK : X.K = C.K) (hu : X.A.units + 65 < cLine) : CmpOk X C .In (inLD false) := ⟨_, OpR.or (op_inD hu) op_in_seq, fun _ => by rw [hK]; exact vInL⟩
theorem kNotIn (hK : X.K = C.K) (hu : X.A.units + 65 < cLine) : CmpOk X C .NotIn (inLD true) := ⟨_, OpR.or (op_notInD hu) op_notIn_seq, fun _ => by rw [hK]; exact vNotInL⟩
theorem eCmp {op : CmpOp} {f : PyData → PyData → Option PyData} (k : CmpOk X C op f) (ha : PE X a (tP C 1 ga)) (hb : PE X b (tP C 1 gb)) (hm : behindInMarks op b = false) : PE X (.Compare a [op] [b] pos) (tP C n (f2 f ga gb)) := by
  obtain ⟨r, h1, h2⟩ := k.ok
  exact pCmp h1 (h2 n) ha hb hm
theorem tCmp {op : CmpOp} {f : PyData → PyData → Option PyData} (k : CmpOk X C op f) (ha : PE X a (tP C 1 ga)) (hb : PE X b (tP C 1 gb)) (hm : behindInMarks op b = false) : PT X (.Compare a [op] [b] pos) (tT C (fB (f2 f ga gb))) := by
  obtain ⟨r, h1, h2⟩ := k.ok
  refine pt_weak (pt_cmpR h1 ha hb hm) fun σ H Q h => ?_
  obtain ⟨ps, As, B, S, z, e, q⟩ := h
  exact tOp_tP (n := 0) (h2 0) σ H _ ⟨ps, As, B, S, .bool z, boolOf_some e, fun v H' g p => ⟨z, p.bool, q H' g⟩⟩
def chD (f f' : PyData → PyData → Option PyData) (ga gb gc : PE' → Option PyData) : PE' → Option PyData := fun ps => match ga ps with
  | some d => match gb ps with
    | some e => match f d e with
      | some (.bool true) => match gc ps with
        | some k => match f' e k with
          | some (.bool b) => some (.bool b)
          | _ => none
        | none => none
      | some (.bool false) => some (.bool false)
      | _ => none
    | none => none
  | none => none
theorem chain_tP {op op' : CmpOp} {f f' : PyData → PyData → Option PyData} {r r' : R2} (h2 : VOp2 C 1 0 r f) (h2' : VOp2 C 1 0 r' f') : ∀ σ H Q, tP C n (chD f f' ga gb gc) σ H Q → tChain r r' (tP C 1 ga) (tP C 1 gb) (tP C 1 gc) σ H Q := fun σ H Q h => by
  obtain ⟨ps, As, B, S, z, e, q⟩ := h
  unfold chD at e
  split at e
  · rename_i d hd
    split at e
    · rename_i d2 hd2
      refine ⟨ps, As, B, S, d, hd, fun x H1 g1 p1 => ⟨ps, As, B, S.gr g1, d2, hd2, fun y H2 g2 p2 => ?_⟩⟩
      have S2 := (S.gr g1).gr g2
      split at e
      · rename_i hf
        refine h2 H2 _ x y d d2 _ _ S2.trk (p1.sm (mask_sm g2.sm) g2.sm) p2 hf fun v H3 g3 p3 => ⟨true, p3.bool, ?_⟩
        split at e
        · rename_i k hk
          rw [if_pos rfl]
          refine ⟨ps, As, B, S2.gr g3, k, hk, fun u H4 g4 p4 => ?_⟩
          split at e
          · rename_i bb hf'
            cases e
            refine h2' H4 _ y u d2 k _ _ ((S2.gr g3).gr g4).trk ((p2.sm (mask_sm g3.sm) g3.sm).sm (mask_sm g4.sm) g4.sm) p4 hf' fun w H5 g5 p5 => ?_
            exact q w H5 ((((g1.trans g2).trans g3).trans g4).trans g5) (.sh p5.zero)
          · cases e
        · cases e
      · rename_i hf
        cases e
        refine h2 H2 _ x y d d2 _ _ S2.trk (p1.sm (mask_sm g2.sm) g2.sm) p2 hf fun v H3 g3 p3 => ⟨false, p3.bool, ?_⟩
        rw [if_neg Bool.false_ne_true]
        exact q _ H3 ((g1.trans g2).trans g3) (.sh (.bl false))
      · cases e
    · cases e
  · cases e
theorem eChain {op op' : CmpOp} {f f' : PyData → PyData → Option PyData} (k : CmpOk X C op f) (k' : CmpOk X C op' f') (ha : PE X a (tP C 1 ga)) (hb : PE X b (tP C 1 gb)) (hc : PE X c (tP C 1 gc)) (hm : lastMarks [op, op'] [b, c] = false) :
    PE X (.Compare a [op, op'] [b, c] pos) (tP C n (chD f f' ga gb gc)) := by
  obtain ⟨r, h1, h2⟩ := k.ok
  obtain ⟨r', h1', h2'⟩ := k'.ok
  exact pe_weak (pe_chain h1 h1' ha hb hc hm) (chain_tP (op := op) (op' := op') (h2 0) (h2' 0))
theorem tChain' {op op' : CmpOp} {f f' : PyData → PyData → Option PyData} (k : CmpOk X C op f) (k' : CmpOk X C op' f') (ha : PE X a (tP C 1 ga)) (hb : PE X b (tP C 1 gb)) (hc : PE X c (tP C 1 gc)) (hm : lastMarks [op, op'] [b, c] = false) :
    PT X (.Compare a [op, op'] [b, c] pos) (tT C (fB (chD f f' ga gb gc))) := by
  obtain ⟨r, h1, h2⟩ := k.ok
  obtain ⟨r', h1', h2'⟩ := k'.ok
  refine pt_weak (pt_chain h1 h1' ha hb hc hm) fun σ H Q h => ?_
  obtain ⟨ps, As, B, S, z, e, q⟩ := h
  exact chain_tP (n := 0) (op := op) (op' := op') (h2 0) (h2' 0) σ H _ ⟨ps, As, B, S, .bool z, boolOf_some e, fun v H' g p => ⟨z, p.bool, q H' g⟩⟩
/-- an expression's truth -/
theorem tTru (hK : X.K = C.K) (ha : PE X a (tP C 1 ga)) (he : ∀ whole, isTrue a X.env whole = (do let v ← whole; standAt a.pos; holding [v] (truthy v)) := by intro _; rfl) : PT X a (tT C (fT ga)) := by
  refine pt_weak (pt_truth ha he) fun σ H Q h => ?_
  obtain ⟨ps, As, B, S, z, e, q⟩ := h
  unfold fT at e
  split at e
  · rename_i d hd
    refine ⟨ps, As, B, S, d, hd, fun v H' g p => ⟨z, ?_, q H' g⟩⟩
    rw [hK]
    exact p.tru mask_sub e
  · cases e
def fNot (t : PE' → Option Bool) : PE' → Option Bool := fun ps => match t ps with
  | some b => some (!b)
  | none => none
def fAnd (t u : PE' → Option Bool) : PE' → Option Bool := fun ps => match t ps with
  | some true => u ps
  | some false => some false
  | none => none
def fOr (t u : PE' → Option Bool) : PE' → Option Bool := fun ps => match t ps with
  | some true => some true
  | some false => u ps
  | none => none
theorem tNot' (ha : PT X a (tT C ta)) : PT X (.UnaryOp .Not a pos) (tT C (fNot ta)) := pt_weak (pt_not ha) fun σ H Q h => by
  obtain ⟨ps, As, B, S, z, e, q⟩ := h
  unfold fNot at e
  split at e
  · rename_i b hb
    cases e
    exact ⟨ps, As, B, S, b, hb, q⟩
  · cases e
theorem and_tT {u : PE' → Option Bool} : ∀ σ H Q, tT C (fAnd ta u) σ H Q → L2.tAnd (tT C ta) (tT C u) σ H Q := fun σ H Q h => by
  obtain ⟨ps, As, B, S, z, e, q⟩ := h
  unfold fAnd at e
  split at e
  · rename_i h1
    refine ⟨ps, As, B, S, true, h1, fun H1 g1 => ?_⟩
    dsimp only
    rw [if_pos rfl]
    exact ⟨ps, As, B, S.gr g1, z, e, fun H2 g2 => q H2 (g1.trans g2)⟩
  · rename_i h1
    cases e
    refine ⟨ps, As, B, S, false, h1, fun H1 g1 => ?_⟩
    dsimp only
    rw [if_neg Bool.false_ne_true]
    exact q H1 g1
  · cases e
theorem or_tT {u : PE' → Option Bool} : ∀ σ H Q, tT C (fOr ta u) σ H Q → L2.tOr (tT C ta) (tT C u) σ H Q := fun σ H Q h => by
  obtain ⟨ps, As, B, S, z, e, q⟩ := h
  unfold fOr at e
  split at e
  · rename_i h1
    cases e
    refine ⟨ps, As, B, S, true, h1, fun H1 g1 => ?_⟩
    dsimp only
    rw [if_pos rfl]
    exact q H1 g1
  · rename_i h1
    refine ⟨ps, As, B, S, false, h1, fun H1 g1 => ?_⟩
    dsimp only
    rw [if_neg Bool.false_ne_true]
    exact ⟨ps, As, B, S.gr g1, z, e, fun H2 g2 => q H2 (g1.trans g2)⟩
  · cases e
theorem wAnd1 (ha : PT X a (tT C ta)) : PW X (.BoolOp .And [a] pos) (tT C ta) := pw_and1 ha
theorem wOr1 (ha : PT X a (tT C ta)) : PW X (.BoolOp .Or [a] pos) (tT C ta) := pw_or1 ha
theorem wAnd {u : PE' → Option Bool} (ha : PT X a (tT C ta)) (hb : PW X (.BoolOp .And (b :: rest) pos) (tT C u)) : PW X (.BoolOp .And (a :: b :: rest) pos) (tT C (fAnd ta u)) := pw_weak (pw_and ha hb) and_tT
theorem wOr {u : PE' → Option Bool} (ha : PT X a (tT C ta)) (hb : PW X (.BoolOp .Or (b :: rest) pos) (tT C u)) : PW X (.BoolOp .Or (a :: b :: rest) pos) (tT C (fOr ta u)) := pw_weak (pw_or ha hb) or_tT
/-! as values: by truth -/
def fAndV (ga gb : PE' → Option PyData) : PE' → Option PyData := fun ps => match ga ps with
  | some d => match truD d with
    | some true => gb ps
    | some false => some d
    | none => none
  | none => none
def fOrV (ga gb : PE' → Option PyData) : PE' → Option PyData := fun ps => match ga ps with
  | some d => match truD d with
    | some true => some d
    | some false => gb ps
    | none => none
  | none => none
theorem eOne {op} (h : PE X a (tP C n ga)) : PE X (.BoolOp op [a] pos) (tP C n ga) := pe_one h
theorem eAnd (hK : X.K = C.K) (ha : PE X a (tP C 0 ga)) (hb : PE X (.BoolOp .And (b :: rest) pos) (tP C n gb)) : PE X (.BoolOp .And (a :: b :: rest) pos) (tP C n (fAndV ga gb)) := by
  refine pe_weak (pe_andT ha hb) fun σ H Q h => ?_
  obtain ⟨ps, As, B, S, z, e, q⟩ := h
  unfold fAndV at e
  split at e
  · rename_i d hd
    refine ⟨ps, As, B, S, d, hd, fun v H1 g1 p1 => ?_⟩
    split at e
    · rename_i ht
      refine ⟨true, by rw [hK]; exact (p1.up (Nat.zero_le 1)).tru mask_sub ht, ?_⟩
      rw [if_pos rfl]
      exact ⟨ps, As, B, S.gr g1, z, e, fun v2 H2 g2 p2 => q v2 H2 (g1.trans g2) p2⟩
    · rename_i ht
      cases e
      refine ⟨false, by rw [hK]; exact (p1.up (Nat.zero_le 1)).tru mask_sub ht, ?_⟩
      rw [if_neg Bool.false_ne_true]
      exact q v H1 g1 (p1.up (Nat.zero_le n))
    · cases e
  · cases e
theorem eOr (hK : X.K = C.K) (ha : PE X a (tP C 0 ga)) (hb : PE X (.BoolOp .Or (b :: rest) pos) (tP C n gb)) : PE X (.BoolOp .Or (a :: b :: rest) pos) (tP C n (fOrV ga gb)) := by
  refine pe_weak (pe_orT ha hb) fun σ H Q h => ?_
  obtain ⟨ps, As, B, S, z, e, q⟩ := h
  unfold fOrV at e
  split at e
  · rename_i d hd
    refine ⟨ps, As, B, S, d, hd, fun v H1 g1 p1 => ?_⟩
    split at e
    · rename_i ht
      cases e
      refine ⟨true, by rw [hK]; exact (p1.up (Nat.zero_le 1)).tru mask_sub ht, ?_⟩
      rw [if_pos rfl]
      exact q v H1 g1 (p1.up (Nat.zero_le n))
    · rename_i ht
      refine ⟨false, by rw [hK]; exact (p1.up (Nat.zero_le 1)).tru mask_sub ht, ?_⟩
      rw [if_neg Bool.false_ne_true]
      exact ⟨ps, As, B, S.gr g1, z, e, fun v2 H2 g2 p2 => q v2 H2 (g1.trans g2) p2⟩
    · cases e
  · cases e
def fNotV (ga : PE' → Option PyData) : PE' → Option PyData := fun ps => match ga ps with
  | some d => match truD d with
    | some b => some (.bool (!b))
    | none => none
  | none => none
theorem eNot (hK : X.K = C.K) (ha : PE X a (tP C 1 ga)) : PE X (.UnaryOp .Not a pos) (tP C n (fNotV ga)) := by
  refine pe_weak (pe_notT ha) fun σ H Q h => ?_
  obtain ⟨ps, As, B, S, z, e, q⟩ := h
  unfold fNotV at e
  split at e
  · rename_i d hd
    split at e
    · rename_i b ht
      cases e
      refine ⟨ps, As, B, S, d, hd, fun v H1 g1 p1 => ⟨b, by rw [hK]; exact p1.tru mask_sub ht, ?_⟩⟩
      exact q _ H1 g1 (.sh (.bl _))
    · cases e
  · cases e
def fIf {α : Type} (t : PE' → Option Bool) (ga gb : PE' → Option α) : PE' → Option α := fun ps => match t ps with
  | some true => ga ps
  | some false => gb ps
  | none => none
theorem eIf (hc : PT X c (tT C ta)) (ha : PE X a (tP C n ga)) (hb : PE X b (tP C n gb)) : PE X (.IfExp c a b pos) (tP C n (fIf ta ga gb)) := by
  refine pe_weak (pe_ifExp hc ha hb) fun σ H Q h => ?_
  obtain ⟨ps, As, B, S, z, e, q⟩ := h
  unfold fIf at e
  split at e
  · rename_i ht
    refine ⟨ps, As, B, S, true, ht, fun H1 g1 => ?_⟩
    dsimp only
    rw [if_pos rfl]
    exact ⟨ps, As, B, S.gr g1, z, e, fun v2 H2 g2 p2 => q v2 H2 (g1.trans g2) p2⟩
  · rename_i ht
    refine ⟨ps, As, B, S, false, ht, fun H1 g1 => ?_⟩
    dsimp only
    rw [if_neg Bool.false_ne_true]
    exact ⟨ps, As, B, S.gr g1, z, e, fun v2 H2 g2 p2 => q v2 H2 (g1.trans g2) p2⟩
  · cases e

/-! ### argument lists, displays -/
structure PAg (X : Cx) (C : Cfg) (n : Nat) (es : List Expr) (g : PE' → Option (List PyData)) : Prop where
  pa : PA X es (tA C n g)
  len : ∀ ps ds, g ps = some ds → ds.length = es.length
def fNil : PE' → Option (List PyData) := fun _ => some []
def fCons (a : PE' → Option PyData) (r : PE' → Option (List PyData)) : PE' → Option (List PyData) := fun ps => match a ps with
  | some d => match r ps with
    | some ds => some (d :: ds)
    | none => none
  | none => none
theorem aNil : PAg X C n [] fNil := ⟨pa_weak pa_nil fun σ H Q h => by
  obtain ⟨ps, As, B, S, z, e, q⟩ := h
  cases e
  exact q [] H .rfl .nil, fun ps ds h => by cases h; rfl⟩
theorem aCons {es : List Expr} {g : PE' → Option (List PyData)} (ha : PE X a (tP C n ga)) (hr : PAg X C n es g) (hs : starEach (a :: es) X.env = (false, eval a X.env) :: starEach es X.env := by rfl) : PAg X C n (a :: es) (fCons ga g) := by
  refine ⟨pa_weak (pa_cons ha hr.pa hs) fun σ H Q h => ?_, fun ps ds h => ?_⟩
  · obtain ⟨ps, As, B, S, z, e, q⟩ := h
    unfold fCons at e
    split at e
    · rename_i d hd
      split at e
      · rename_i ds hds
        cases e
        refine ⟨ps, As, B, S, d, hd, fun v H1 g1 p1 => ⟨ps, As, B, S.gr g1, ds, hds, fun vs H2 g2 p2 => ?_⟩⟩
        exact q _ H2 (g1.trans g2) (.cons (p1.sm (mask_sm g2.sm) g2.sm) p2)
      · cases e
    · cases e
  · unfold fCons at h
    split at h
    · split at h
      · rename_i hds
        cases h
        rw [List.length_cons, List.length_cons, hr.len _ _ hds]
      · cases h
    · cases h
def fMap {α : Type} (k : α → PyData) (g : PE' → Option α) : PE' → Option PyData := fun ps => match g ps with
  | some a => some (k a)
  | none => none
theorem eTup {es : List Expr} {g : PE' → Option (List PyData)} {x1} (h : PAg X C 0 es g) (hl : es.length ≤ LIM := by decide) : PE X (.Tuple es x1 pos) (tP C n (fMap .tuple g)) := by
  refine pe_weak (pe_tup h.pa) fun σ H Q q => ?_
  obtain ⟨ps, As, B, S, z, e, q⟩ := q
  unfold fMap at e
  split at e
  · rename_i ds hds
    cases e
    refine ⟨ps, As, B, S, ds, hds, fun vs H1 g1 p1 => ⟨by rw [p1.length, h.len _ _ hds, ← lim_eq]; exact hl, fun p hp => ?_⟩⟩
    obtain ⟨g2, k⟩ := new_tup (C := C) (n := n) (S.gr g1).trk hp p1.zero
    exact q _ _ (g1.trans g2) k
  · cases e
theorem eLst {es : List Expr} {g : PE' → Option (List PyData)} (h : PAg X C 0 es g) (hl : es.length ≤ LIM := by decide) : PE X (.List es pos) (tP C n (fMap .list g)) := by
  refine pe_weak (pe_lst h.pa) fun σ H Q q => ?_
  obtain ⟨ps, As, B, S, z, e, q⟩ := q
  unfold fMap at e
  split at e
  · rename_i ds hds
    cases e
    refine ⟨ps, As, B, S, ds, hds, fun vs H1 g1 p1 => ⟨by rw [p1.length, h.len _ _ hds, ← lim_eq]; exact hl, fun p hp => ?_⟩⟩
    obtain ⟨g2, k⟩ := new_lst (C := C) (n := n) (S.gr g1).trk hp p1.zero
    exact q _ _ (g1.trans g2) k
  · cases e

/-! ### subscripts -/
def ixD : PyData → PyData → Option PyData
  | .list ds, .int i => atI ds i
  | .tuple ds, .int i => atI ds i
  | .str z, .int i => if z.length ≤ LIM then (match atI z.cps.toList i with | some c => some (.str ⟨#[c]⟩) | none => none) else none
  | _, _ => none
theorem atI_rel {α β : Type} {xs : List α} {ys : List β} {i : Int} {y : β} (hl : xs.length = ys.length) (e : atI ys i = some y) : ∃ j : Nat, ys[j]? = some y ∧ ∀ x, xs[j]? = some x → atI xs i = some x := by
  unfold atI at e ⊢
  rw [hl]
  cases h : ixN ys.length i with
  | none => rw [h] at e; cases e
  | some j => rw [h] at e; exact ⟨j, e, fun x hx => hx⟩
theorem PkA.atI {K : PySem.W.Frag} {M H : Hp} {n : Nat} {vs : List V} {ds : List PyData} {i : Int} {d : PyData} (h : PkA K M H n vs ds) (e : L2.atI ds i = some d) : ∃ v, L2.atI vs i = some v ∧ Pk K M H n v d := by
  obtain ⟨j, h1, h2⟩ := atI_rel h.length e
  obtain ⟨v, h3, h4⟩ := h.get h1
  exact ⟨v, h2 v h3, h4⟩
theorem DnA.atI {K : PySem.W.Frag} {M : Hp} {vs : List V} {ds : List PyData} {i : Int} {d : PyData} (h : DnA K M vs ds) (e : L2.atI ds i = some d) : ∃ v, L2.atI vs i = some v ∧ Dn K M v d := by
  obtain ⟨j, h1, h2⟩ := atI_rel h.length e
  obtain ⟨v, h3, h4⟩ := h.get h1
  exact ⟨v, h2 v h3, h4⟩
theorem vIx {m : Nat} : ∀ (H : Hp) (L : List Addr) (x y : V) (d e z : PyData) (Q : VK), Trk H L → Pk C.K (mask H L) H (m + 1) x d → Pk C.K (mask H L) H 1 y e → ixD d e = some z → (∀ v H', Gr C H H' → Pk C.K (mask H' L) H' m v z → Q v H') → rIx C.K x y H Q := by
  intro H L x y d e z Q t hx hy hf q
  unfold ixD at hf
  split at hf
  · obtain ⟨a, xs, rfl, h1, h2⟩ := hx.list mask_sub
    obtain ⟨v, h3, h4⟩ := h2.atI hf
    exact .inl ⟨a, xs, _, v, rfl, hy.int, SqL.of h1, h3, q v H .rfl h4⟩
  · obtain ⟨a, xs, rfl, h1, h2⟩ := hx.tuple
    obtain ⟨v, h3, h4⟩ := h2.atI hf
    exact .inr (.inl ⟨a, xs, _, v, rfl, hy.int, mask_sub.sqT h1, h3, q v H .rfl (.sh h4)⟩)
  · split at hf
    · split at hf
      · rename_i hc
        cases hf
        exact .inr (.inr ⟨_, _, _, hx.str, hy.int, by rw [← lim_eq]; assumption, hc, q _ H .rfl (.sh (.str _))⟩)
      · cases hf
    · cases hf
  · cases hf
theorem eIx (hK : X.K = C.K) (ha : PE X a (tP C (n + 1) ga)) (hb : PE X b (tP C 1 gb)) (hs : PlainIx b := by exact fun _ _ => rfl) : PE X (.Subscript a b pos) (tP C n (f2 ixD ga gb)) := by
  refine pe_weak (pe_ix (IxR.or ix_list (IxR.or ix_tup ix_str)) ha hb hs) fun σ H Q h => ?_
  obtain ⟨ps, As, B, S, z, e, q⟩ := h
  obtain ⟨d, e', h1, h2, h3⟩ := f2_some e
  refine ⟨ps, As, B, S, d, h1, fun x H1 g1 p1 => ⟨ps, As, B, S.gr g1, e', h2, fun y H2 g2 p2 => ?_⟩⟩
  rw [hK]
  exact vIx H2 (As.flatten ++ B) x y d e' z Q ((S.gr g1).gr g2).trk (p1.sm (mask_sm g2.sm) g2.sm) p2 h3 fun v H3 g3 p3 => q v H3 ((g1.trans g2).trans g3) p3

/-! ### slices -/
def cutD (xs : List PyData) (lo hi : Option Int) : List PyData := (xs.drop (HT.sIx xs.length 0 lo)).take (HT.sIx xs.length xs.length hi - HT.sIx xs.length 0 lo)
theorem DnA.cut {K : PySem.W.Frag} {M : Hp} {vs : List V} {ds : List PyData} (h : DnA K M vs ds) (lo hi : Option Int) : DnA K M (cutV vs lo hi) (cutD ds lo hi) := by
  unfold cutV cutD
  rw [h.length]
  exact (h.drop _).take _
def slD (d : PyData) (lo hi : Option Int) : Option PyData := match d with
  | .list ds => some (.list (cutD ds lo hi))
  | .tuple ds => some (.tuple (cutD ds lo hi))
  | _ => none
def tO (C : Cfg) (g : PE' → Option (Option Int)) : TO := fun σ H Q => ∃ ps As B, St C ps σ H As B ∧ ∃ o, g ps = some o ∧ ∀ H', Gr C H H' → Q o H'
theorem po_weak {X : Cx} {e : Option Expr} {t t' : TO} (h : PO X e t) (w : ∀ σ H Q, t' σ H Q → t σ H Q) : PO X e t' := ⟨fun pins s σ H Q I q => h.run pins s σ H Q I (w σ H Q q)⟩
def fNoPart : PE' → Option (Option Int) := fun _ => some none
def fPart (g : PE' → Option PyData) : PE' → Option (Option Int) := fun ps => match g ps with
  | some (.int i) => some (some i)
  | _ => none
theorem oNone : PO X none (tO C fNoPart) := po_weak po_none fun σ H Q h => by
  obtain ⟨ps, As, B, S, z, e, q⟩ := h
  cases e
  exact q H .rfl
theorem oSome (ha : PE X a (tP C 1 ga)) : PO X (some a) (tO C (fPart ga)) := po_weak (po_some ha) fun σ H Q h => by
  obtain ⟨ps, As, B, S, z, e, q⟩ := h
  unfold fPart at e
  split at e
  · rename_i i hi
    cases e
    exact ⟨ps, As, B, S, _, hi, fun v H' g p => ⟨i, p.int, q H' g⟩⟩
  · cases e
def fSl (g : PE' → Option PyData) (l u : PE' → Option (Option Int)) : PE' → Option PyData := fun ps => match g ps with
  | some d => match l ps with
    | some lo => match u ps with
      | some hi => slD d lo hi
      | none => none
    | none => none
  | none => none
theorem eSl {lo hi : Option Expr} {gl gh : PE' → Option (Option Int)} {p2 : Pos} (hK : X.K = C.K) (ha : PE X a (tP C 1 ga)) (hl : PO X lo (tO C gl)) (hh : PO X hi (tO C gh)) : PE X (.Subscript a (.Slice lo hi none p2) pos) (tP C n (fSl ga gl gh)) := by
  refine pe_weak (pe_slice (SlR.or sl_list sl_tupA) ha hl hh) fun σ H Q h => ?_
  obtain ⟨ps, As, B, S, z, e, q⟩ := h
  unfold fSl at e
  split at e
  · rename_i d hd
    split at e
    · rename_i l hlo
      split at e
      · rename_i u hhi
        refine ⟨ps, As, B, S, d, hd, fun x H1 g1 p1 => ⟨ps, As, B, S.gr g1, l, hlo, fun H2 g2 => ⟨ps, As, B, (S.gr g1).gr g2, u, hhi, fun H3 g3 => ?_⟩⟩⟩
        have S3 := ((S.gr g1).gr g2).gr g3
        have p3 := (p1.sm (mask_sm g2.sm) g2.sm).sm (mask_sm g3.sm) g3.sm
        have g123 := (g1.trans g2).trans g3
        unfold slD at e
        split at e
        · cases e
          obtain ⟨a, xs, rfl, h1, h2⟩ := p3.list mask_sub
          refine .inl ⟨a, xs, rfl, SqL.of h1, fun p hp => ?_⟩
          obtain ⟨g4, k⟩ := new_lst (C := C) (n := n) S3.trk hp (h2.zero.cut l u)
          exact q _ _ (g123.trans g4) k
        · cases e
          obtain ⟨a, xs, rfl, h1, h2⟩ := p3.tuple
          refine .inr ⟨a, xs, rfl, by rw [hK]; exact mask_sub.sqT h1, fun hw => ?_, fun _ p hp => ?_⟩
          · refine q _ _ g123 (.sh (.tup h1 ?_))
            have e2 : ∀ ds : List PyData, DnA C.K (mask H3 (As.flatten ++ B)) xs ds → cutD ds l u = ds := fun ds hds => by
              unfold cutD
              rw [← hds.length, hw.1, hw.2]
              simp [hds.length]
            rw [e2 _ h2]
            exact h2
          · obtain ⟨g4, k⟩ := new_tup (C := C) (n := n) S3.trk hp (h2.cut l u)
            exact q _ _ (g123.trans g4) k
        · cases e
      · cases e
    · cases e
  · cases e

/-! ### built-ins by values -/
def VCall (C : Cfg) (m n : Nat) (r : List V → Hp → VK → Prop) (f : List PyData → Option PyData) : Prop :=
  ∀ (H : Hp) (L : List Addr) (xs : List V) (ds : List PyData) (z : PyData) (Q : VK), Trk H L → PkA C.K (mask H L) H m xs ds → f ds = some z → (∀ v H', Gr C H H' → Pk C.K (mask H' L) H' n v z → Q v H') → r xs H Q
def fCall (f : List PyData → Option PyData) (g : PE' → Option (List PyData)) : PE' → Option PyData := fun ps => match g ps with
  | some ds => f ds
  | none => none
theorem tCB_tP {m n : Nat} {r : List V → Hp → VK → Prop} {f : List PyData → Option PyData} {g : PE' → Option (List PyData)} (v : VCall C m n r f) : ∀ σ H Q, tP C n (fCall f g) σ H Q → tCB r (tA C m g) σ H Q := fun σ H Q h => by
  obtain ⟨ps, As, B, S, z, e, q⟩ := h
  unfold fCall at e
  split at e
  · rename_i ds hds
    exact ⟨ps, As, B, S, ds, hds, fun vs H1 g1 p1 => v H1 _ vs ds z Q (S.gr g1).trk p1 e fun v H2 g2 p2 => q v H2 (g1.trans g2) p2⟩
  · cases e
theorem CallR.or' {f : Value} {r r' : List V → Hp → VK → Prop} (h : CallR X f r) (h' : CallR X f r') : CallR X f (fun xs H Q => r xs H Q ∨ r' xs H Q) := fun pins s σ H xs us Q I rv q => by
  rcases q with q | q
  · exact h pins s σ H xs us Q I rv q
  · exact h' pins s σ H xs us Q I rv q
theorem eCallB {x : Str} {p : Pos} {es : List Expr} {id : String} {r : List V → Hp → VK → Prop} {f : List PyData → Option PyData} {g : PE' → Option (List PyData)} (hc : CallR X (.builtin id) r) (v : VCall C m n r f) (hg : Gl X x) (hm : X.mg x = none) (hv : bootBuiltins x = some (.builtin id)) (ha : PAg X C m (a :: es) g)
    (hn : x ≠ "__name__" := by decide) (hdb : (x == ("__debug__" : Str)) = false := by kernel_rfl)
    (he : starEach (a :: es) X.env = (false, eval a X.env) :: starEach es X.env := by rfl) (hpl : (backTo pos (starEach es X.env)).any (·.1) = false := by rfl) : PE X (.Call (.Name x p) (a :: es) [] pos) (tP C n (fCall f g)) :=
  pe_weak (pe_callB hc hg hm hv ha.pa hn hdb he hpl) (tCB_tP v)
theorem eCallT {x : Str} {p : Pos} {es : List Expr} {id : String} {r : List V → Hp → VK → Prop} {f : List PyData → Option PyData} {g : PE' → Option (List PyData)} (hc : CallR X (.type id) r) (v : VCall C m n r f) (hg : Gl X x) (hm : X.mg x = none) (hv : bootBuiltins x = some (.type id)) (ha : PAg X C m (a :: es) g)
    (hn : x ≠ "__name__" := by decide) (hdb : (x == ("__debug__" : Str)) = false := by kernel_rfl)
    (he : starEach (a :: es) X.env = (false, eval a X.env) :: starEach es X.env := by rfl) (hpl : (backTo pos (starEach es X.env)).any (·.1) = false := by rfl) : PE X (.Call (.Name x p) (a :: es) [] pos) (tP C n (fCall f g)) :=
  pe_weak (pe_callTy hc hg hm hv ha.pa hn hdb he hpl) (tCB_tP v)
end
theorem PkA.one {K : PySem.W.Frag} {M H : Hp} {n : Nat} {vs : List V} {d : PyData} (h : PkA K M H n vs [d]) : ∃ v, vs = [v] ∧ Pk K M H n v d := by
  cases h with | cons h t => cases t; exact ⟨_, rfl, h⟩
theorem PkA.two {K : PySem.W.Frag} {M H : Hp} {n : Nat} {vs : List V} {d e : PyData} (h : PkA K M H n vs [d, e]) : ∃ v u, vs = [v, u] ∧ Pk K M H n v d ∧ Pk K M H n u e := by
  cases h with | cons h t => cases t with | cons h2 t => cases t; exact ⟨_, _, rfl, h, h2⟩
section
variable {C : Cfg} {n : Nat}
def lenD : List PyData → Option PyData
  | [.list xs] => some (.int xs.length)
  | [.tuple xs] => some (.int xs.length)
  | [.str x] => if x.length ≤ LIM then some (.int x.length) else none
  | _ => none
theorem vLen {n : Nat} : VCall C 1 n (fun xs H Q => ∃ x n, xs = [x] ∧ LenV C.K x H n ∧ Q (.int n) H) lenD := by
  intro H L vs ds z Q t hx hf q
  unfold lenD at hf
  split at hf
  · cases hf
    obtain ⟨v, rfl, h⟩ := hx.one
    obtain ⟨a, xs, rfl, h1, h2⟩ := h.list mask_sub
    exact ⟨_, _, rfl, .inl ⟨xs, SqL.of h1, by rw [h2.length]⟩, q _ H .rfl (.sh (.int _))⟩
  · cases hf
    obtain ⟨v, rfl, h⟩ := hx.one
    obtain ⟨a, xs, rfl, h1, h2⟩ := h.tuple
    exact ⟨_, _, rfl, .inr ⟨xs, mask_sub.sqT h1, by rw [h2.length]⟩, q _ H .rfl (.sh (.int _))⟩
  · split at hf
    · cases hf
      obtain ⟨v, rfl, h⟩ := hx.one
      rw [h.str]
      exact ⟨_, _, rfl, ⟨by rw [← lim_eq]; assumption, rfl⟩, q _ H .rfl (.sh (.int _))⟩
    · cases hf
  · cases hf
def absD : List PyData → Option PyData
  | [.int i] => some (.int (if i < 0 then -i else i))
  | _ => none
theorem vAbs {m n : Nat} : VCall C m n (fun xs H Q => ∃ i, xs = [.int i] ∧ Q (.int (if i < 0 then -i else i)) H) absD := by
  intro H L vs ds z Q t hx hf q
  unfold absD at hf
  split at hf
  · cases hf
    obtain ⟨v, rfl, h⟩ := hx.one
    rw [h.int]
    exact ⟨_, rfl, q _ H .rfl (.sh (.int _))⟩
  · cases hf
def int1D : List PyData → Option PyData
  | [.int i] => some (.int i)
  | [.bool b] => some (.int (if b then 1 else 0))
  | _ => none
theorem vInt1 {m n : Nat} : VCall C m n (fun xs H Q => (∃ i, xs = [.int i] ∧ Q (.int i) H) ∨ ∃ k, xs = [.bl k] ∧ Q (.int (if k then 1 else 0)) H) int1D := by
  intro H L vs ds z Q t hx hf q
  unfold int1D at hf
  split at hf
  · cases hf
    obtain ⟨v, rfl, h⟩ := hx.one
    rw [h.int]
    exact .inl ⟨_, rfl, q _ H .rfl (.sh (.int _))⟩
  · cases hf
    obtain ⟨v, rfl, h⟩ := hx.one
    rw [h.bool]
    exact .inr ⟨_, rfl, q _ H .rfl (.sh (.int _))⟩
  · cases hf
def listD : List PyData → Option PyData
  | [.list xs] => some (.list xs)
  | [.tuple xs] => some (.list xs)
  | _ => none
theorem vList {n : Nat} : VCall C 1 n (fun xs H Q => ∃ p ys, xs = [.ref p] ∧ (SqL C.K H p ys ∨ SqT C.K H p ys) ∧ ∀ l, H l = none → Q (.ref l) (upd H l (.lst ys))) listD := by
  intro H L vs ds z Q t hx hf q
  unfold listD at hf
  split at hf
  · cases hf
    obtain ⟨v, rfl, h⟩ := hx.one
    obtain ⟨a, xs, rfl, h1, h2⟩ := h.list mask_sub
    refine ⟨a, xs, rfl, .inl (SqL.of h1), fun l hl => ?_⟩
    obtain ⟨g, k⟩ := new_lst (C := C) (n := n) t hl h2.zero
    exact q _ _ g k
  · cases hf
    obtain ⟨v, rfl, h⟩ := hx.one
    obtain ⟨a, xs, rfl, h1, h2⟩ := h.tuple
    refine ⟨a, xs, rfl, .inr (mask_sub.sqT h1), fun l hl => ?_⟩
    obtain ⟨g, k⟩ := new_lst (C := C) (n := n) t hl h2
    exact q _ _ g k
  · cases hf
def tupleD : List PyData → Option PyData
  | [.list xs] => some (.tuple xs)
  | [.tuple xs] => some (.tuple xs)
  | _ => none
theorem vTuple {n : Nat} : VCall C 1 n (fun xs H Q => ∃ p ys, xs = [.ref p] ∧ ((SqL C.K H p ys ∧ ∀ l, H l = none → Q (.ref l) (upd H l (.tup ys))) ∨ (SqT C.K H p ys ∧ Q (.ref p) H))) tupleD := by
  intro H L vs ds z Q t hx hf q
  unfold tupleD at hf
  split at hf
  · cases hf
    obtain ⟨v, rfl, h⟩ := hx.one
    obtain ⟨a, xs, rfl, h1, h2⟩ := h.list mask_sub
    refine ⟨a, xs, rfl, .inl ⟨SqL.of h1, fun l hl => ?_⟩⟩
    obtain ⟨g, k⟩ := new_tup (C := C) (n := n) t hl h2.zero
    exact q _ _ g k
  · cases hf
    obtain ⟨v, rfl, h⟩ := hx.one
    obtain ⟨a, xs, rfl, h1, h2⟩ := h.tuple
    exact ⟨a, xs, rfl, .inr ⟨mask_sub.sqT h1, q _ H .rfl (.sh (.tup h1 h2))⟩⟩
  · cases hf
/-- ints of a list of data -/
def intsOf : List PyData → Option (List Int)
  | [] => some []
  | .int i :: r => match intsOf r with
    | some is => some (i :: is)
    | none => none
  | _ => none
theorem intsOf_eq : ∀ {ds : List PyData} {ns : List Int}, intsOf ds = some ns → ds = ns.map PyData.int
  | [], _, h => by cases h; rfl
  | .int i :: r, ns, h => by
    unfold intsOf at h
    split at h
    · rename_i is hi
      cases h
      rw [List.map_cons, ← intsOf_eq hi]
    · cases h
  | .none :: _, _, h => by cases h
  | .bool _ :: _, _, h => by cases h
  | .str _ :: _, _, h => by cases h
  | .list _ :: _, _, h => by cases h
  | .tuple _ :: _, _, h => by cases h
  | .dict _ :: _, _, h => by cases h
theorem intsOf_map : ∀ ns : List Int, intsOf (ns.map PyData.int) = some ns
  | [] => rfl
  | n :: r => by rw [List.map_cons]; unfold intsOf; rw [intsOf_map r]
def onInts (f : List Int → Option PyData) : List PyData → Option PyData
  | [.list xs] => match intsOf xs with
    | some ns => f ns
    | none => none
  | _ => none
theorem onInts_list {f : List Int → Option PyData} {K : PySem.W.Frag} {M H : Hp} {ds : List PyData} {z : PyData} {vs : List V} (s : Sm M H) (h : PkA K M H 1 vs ds) (e : onInts f ds = some z) : ∃ a ns, vs = [.ref a] ∧ H a = some (.lst (ns.map V.int)) ∧ f ns = some z := by
  unfold onInts at e
  split at e
  · split at e
    · rename_i ns hns
      obtain ⟨v, rfl, h'⟩ := h.one
      rw [intsOf_eq hns] at h'
      obtain ⟨a, xs, rfl, h1, h2⟩ := h'.list s
      have := h2.zero.ints
      subst this
      exact ⟨a, ns, rfl, h1, e⟩
    · cases e
  · cases e
/-- the tuple's case goes by list(t) in the program -/
def sumD : List PyData → Option PyData := onInts fun ns => some (.int ns.sum)
theorem vSum {n : Nat} : VCall C 1 n (rSum C.K) sumD := by
  intro H L vs ds z Q t hx hf q
  obtain ⟨a, ns, rfl, h1, h2⟩ := onInts_list mask_sub hx hf
  cases h2
  exact ⟨a, ns, rfl, SqL.of h1, q _ H .rfl (.sh (.int _))⟩
def maxI : List Int → Option Int
  | [] => none
  | x :: r => some (r.foldl (fun m y => if m < y then y else m) x)
def minI : List Int → Option Int
  | [] => none
  | x :: r => some (r.foldl (fun m y => if y < m then y else m) x)
theorem foldl_max : ∀ (r : List Int) (x : Int), (r.foldl (fun m y => if m < y then y else m) x = x ∨ r.foldl (fun m y => if m < y then y else m) x ∈ r) ∧ x ≤ r.foldl (fun m y => if m < y then y else m) x ∧ ∀ y ∈ r, y ≤ r.foldl (fun m y => if m < y then y else m) x
  | [], x => ⟨.inl rfl, Int.le_refl _, fun y h => nomatch h⟩
  | y :: r, x => by
    rw [List.foldl_cons]
    obtain ⟨h1, h2, h3⟩ := foldl_max r (if x < y then y else x)
    refine ⟨?_, ?_, ?_⟩
    · rcases h1 with h1 | h1
      · rw [h1]; split
        · exact .inr List.mem_cons_self
        · exact .inl rfl
      · exact .inr (List.mem_cons_of_mem _ h1)
    · refine Int.le_trans ?_ h2; split <;> omega
    · intro w hw
      rcases List.mem_cons.mp hw with e | hw
      · subst e; refine Int.le_trans ?_ h2; split <;> omega
      · exact h3 w hw
theorem foldl_min : ∀ (r : List Int) (x : Int), (r.foldl (fun m y => if y < m then y else m) x = x ∨ r.foldl (fun m y => if y < m then y else m) x ∈ r) ∧ r.foldl (fun m y => if y < m then y else m) x ≤ x ∧ ∀ y ∈ r, r.foldl (fun m y => if y < m then y else m) x ≤ y
  | [], x => ⟨.inl rfl, Int.le_refl _, fun y h => nomatch h⟩
  | y :: r, x => by
    rw [List.foldl_cons]
    obtain ⟨h1, h2, h3⟩ := foldl_min r (if y < x then y else x)
    refine ⟨?_, ?_, ?_⟩
    · rcases h1 with h1 | h1
      · rw [h1]; split
        · exact .inr List.mem_cons_self
        · exact .inl rfl
      · exact .inr (List.mem_cons_of_mem _ h1)
    · refine Int.le_trans h2 ?_; split <;> omega
    · intro w hw
      rcases List.mem_cons.mp hw with e | hw
      · subst e; refine Int.le_trans h2 ?_; split <;> omega
      · exact h3 w hw
def maxLD : List PyData → Option PyData := onInts fun ns => (maxI ns).map PyData.int
def minLD : List PyData → Option PyData := onInts fun ns => (minI ns).map PyData.int
theorem vMaxL {n : Nat} : VCall C 1 n (rMax C.K) maxLD := by
  intro H L vs ds z Q t hx hf q
  obtain ⟨a, ns, rfl, h1, h2⟩ := onInts_list mask_sub hx hf
  cases ns with
  | nil => cases h2
  | cons x r =>
    cases h2
    refine ⟨a, _, rfl, SqL.of h1, Nat.zero_lt_succ _, fun m hm hle => ?_⟩
    obtain ⟨k1, k2, k3⟩ := foldl_max r x
    have hin : r.foldl (fun m y => if m < y then y else m) x ∈ x :: r := by
      rcases k1 with e | e
      · rw [e]; exact List.mem_cons_self
      · exact List.mem_cons_of_mem _ e
    have e : m = r.foldl (fun m y => if m < y then y else m) x := by
      have a1 := hle _ hin
      have a2 : m ≤ r.foldl (fun m y => if m < y then y else m) x := by
        rcases List.mem_cons.mp hm with e | e
        · rw [e]; exact k2
        · exact k3 m e
      omega
    rw [e]
    exact q _ H .rfl (.sh (.int _))
theorem vMinL {n : Nat} : VCall C 1 n (rMin C.K) minLD := by
  intro H L vs ds z Q t hx hf q
  obtain ⟨a, ns, rfl, h1, h2⟩ := onInts_list mask_sub hx hf
  cases ns with
  | nil => cases h2
  | cons x r =>
    cases h2
    refine ⟨a, _, rfl, SqL.of h1, Nat.zero_lt_succ _, fun m hm hle => ?_⟩
    obtain ⟨k1, k2, k3⟩ := foldl_min r x
    have hin : r.foldl (fun m y => if y < m then y else m) x ∈ x :: r := by
      rcases k1 with e | e
      · rw [e]; exact List.mem_cons_self
      · exact List.mem_cons_of_mem _ e
    have e : m = r.foldl (fun m y => if y < m then y else m) x := by
      have a1 := hle _ hin
      have a2 : r.foldl (fun m y => if y < m then y else m) x ≤ m := by
        rcases List.mem_cons.mp hm with e | e
        · rw [e]; exact k2
        · exact k3 m e
      omega
    rw [e]
    exact q _ H .rfl (.sh (.int _))
/-- sorted ints -/
def insI (x : Int) : List Int → List Int
  | [] => [x]
  | y :: r => if x ≤ y then x :: y :: r else y :: insI x r
def sortI : List Int → List Int
  | [] => []
  | x :: r => insI x (sortI r)
theorem insI_perm (x : Int) : ∀ l : List Int, (insI x l).Perm (x :: l)
  | [] => .refl _
  | y :: r => by
    unfold insI
    split
    · exact .refl _
    · exact ((insI_perm x r).cons y).trans (.swap x y r)
theorem sortI_perm : ∀ l : List Int, (sortI l).Perm l
  | [] => .refl _
  | x :: r => (insI_perm x (sortI r)).trans ((sortI_perm r).cons x)
theorem insI_sorted (x : Int) : ∀ {l : List Int}, l.Pairwise (· ≤ ·) → (insI x l).Pairwise (· ≤ ·)
  | [], _ => by unfold insI; exact List.pairwise_singleton _ _
  | y :: r, h => by
    unfold insI
    rw [List.pairwise_cons] at h
    split
    · rename_i hxy
      refine List.pairwise_cons.mpr ⟨fun z hz => ?_, List.pairwise_cons.mpr h⟩
      rcases List.mem_cons.mp hz with e | hz
      · rw [e]; exact hxy
      · exact Int.le_trans hxy (h.1 z hz)
    · rename_i hxy
      refine List.pairwise_cons.mpr ⟨fun z hz => ?_, insI_sorted x h.2⟩
      rcases List.mem_cons.mp ((insI_perm x r).mem_iff.mp hz) with e | hz
      · rw [e]; omega
      · exact h.1 z hz
theorem sortI_sorted : ∀ l : List Int, (sortI l).Pairwise (· ≤ ·)
  | [] => .nil
  | x :: r => insI_sorted x (sortI_sorted r)
theorem sorted_one : ∀ {a b : List Int}, a.Perm b → a.Pairwise (· ≤ ·) → b.Pairwise (· ≤ ·) → a = b := fun {a b} p ha hb =>
  p.eq_of_pairwise (fun x y _ _ h1 h2 => Int.le_antisymm h1 h2) ha hb
def sortedID : List PyData → Option PyData := onInts fun ns => some (.list ((sortI ns).map PyData.int))
theorem vSortedI {n : Nat} : VCall C 1 n (rSortedI C.K) sortedID := by
  intro H L vs ds z Q t hx hf q
  obtain ⟨a, ns, rfl, h1, h2⟩ := onInts_list mask_sub hx hf
  cases h2
  refine ⟨a, ns, rfl, SqL.of h1, fun ns' p hp hs hn => ?_⟩
  have e : ns' = sortI ns := sorted_one (hp.trans (sortI_perm ns).symm) hs (sortI_sorted ns)
  subst e
  obtain ⟨g, k⟩ := new_lst (C := C) (n := n) t hn (DnA.ofInts (K := C.K) (M := mask H L) (sortI ns))
  exact q _ _ g k
def bools : List PyData → Option (List Bool)
  | [] => some []
  | .bool b :: r => match bools r with
    | some bs => some (b :: bs)
    | none => none
  | _ => none
theorem bools_eq : ∀ {ds : List PyData} {ns : List Bool}, bools ds = some ns → ds = ns.map PyData.bool
  | [], _, h => by cases h; rfl
  | .bool i :: r, ns, h => by
    unfold bools at h
    split at h
    · rename_i is hi
      cases h
      rw [List.map_cons, ← bools_eq hi]
    · cases h
  | .none :: _, _, h => by cases h
  | .int _ :: _, _, h => by cases h
  | .str _ :: _, _, h => by cases h
  | .list _ :: _, _, h => by cases h
  | .tuple _ :: _, _, h => by cases h
  | .dict _ :: _, _, h => by cases h
def onBools (f : List Bool → Bool) : List PyData → Option PyData
  | [.list xs] => match bools xs with
    | some bs => some (.bool (f bs))
    | none => none
  | _ => none
theorem onBools_list {f : List Bool → Bool} {K : PySem.W.Frag} {M H : Hp} {ds : List PyData} {z : PyData} {vs : List V} (s : Sm M H) (h : PkA K M H 1 vs ds) (e : onBools f ds = some z) : ∃ a bs, vs = [.ref a] ∧ H a = some (.lst (bs.map V.bl)) ∧ z = .bool (f bs) := by
  unfold onBools at e
  split at e
  · split at e
    · rename_i ns hns
      cases e
      obtain ⟨v, rfl, h'⟩ := h.one
      rw [bools_eq hns] at h'
      obtain ⟨a, xs, rfl, h1, h2⟩ := h'.list s
      have := h2.zero.bls
      subst this
      exact ⟨a, ns, rfl, h1, rfl⟩
    · cases e
  · cases e
def allD : List PyData → Option PyData := onBools fun bs => bs.all id
def anyD : List PyData → Option PyData := onBools fun bs => bs.any id
theorem vAll {n : Nat} : VCall C 1 n (rAll C.K) allD := by
  intro H L vs ds z Q t hx hf q
  obtain ⟨a, bs, rfl, h1, rfl⟩ := onBools_list mask_sub hx hf
  exact ⟨a, bs, rfl, SqL.of h1, q _ H .rfl (.sh (.bl _))⟩
theorem vAny {n : Nat} : VCall C 1 n (rAny C.K) anyD := by
  intro H L vs ds z Q t hx hf q
  obtain ⟨a, bs, rfl, h1, rfl⟩ := onBools_list mask_sub hx hf
  exact ⟨a, bs, rfl, SqL.of h1, q _ H .rfl (.sh (.bl _))⟩
def max2D : List PyData → Option PyData
  | [.int i, .int j] => some (.int (if j > i then j else i))
  | _ => none
def min2D : List PyData → Option PyData
  | [.int i, .int j] => some (.int (if j < i then j else i))
  | _ => none
theorem vMax2 {m n : Nat} : VCall C m n (fun xs H Q => ∃ i j, xs = [.int i, .int j] ∧ Q (.int (if j > i then j else i)) H) max2D := by
  intro H L vs ds z Q t hx hf q
  unfold max2D at hf
  split at hf
  · cases hf
    obtain ⟨v, u, rfl, h, h2⟩ := hx.two
    rw [h.int, h2.int]
    exact ⟨_, _, rfl, q _ H .rfl (.sh (.int _))⟩
  · cases hf
theorem vMin2 {m n : Nat} : VCall C m n (fun xs H Q => ∃ i j, xs = [.int i, .int j] ∧ Q (.int (if j < i then j else i)) H) min2D := by
  intro H L vs ds z Q t hx hf q
  unfold min2D at hf
  split at hf
  · cases hf
    obtain ⟨v, u, rfl, h, h2⟩ := hx.two
    rw [h.int, h2.int]
    exact ⟨_, _, rfl, q _ H .rfl (.sh (.int _))⟩
  · cases hf
end
end Pv
set_option Elab.async false
set_option linter.all false
set_option maxRecDepth 100000
set_option maxHeartbeats 4000000
/-! Pv5: how states change; effects; statements. -/
namespace Pv
open PySem PySem.Spec PyProof.Rows L2 GxR

inductive Fl where
  | nx | bk | ct
  | rt (d : PyData)

/-- how a state may change -/
def Fx (C : Cfg) (H H' : Hp) : Prop := ∀ a c dx gs, H a = some (.ins c dx gs) → ∃ gs', H' a = some (.ins c dx gs') ∧ ∀ f v, C.stab f = true → gs.lookup f = some v → gs'.lookup f = some v
theorem Fx.of {C : Cfg} {H H' : Hp} (s : Sm H H') : Fx C H H' := fun a c dx gs e => ⟨gs, s a _ e (fun ps e => by cases e), fun _ _ _ h => h⟩
theorem Fx.trans {C : Cfg} {H H' H'' : Hp} (x : Fx C H H') (y : Fx C H' H'') : Fx C H H'' := fun a c dx gs e => by
  obtain ⟨g1, e1, k1⟩ := x a c dx gs e
  obtain ⟨g2, e2, k2⟩ := y a c dx g1 e1
  exact ⟨g2, e2, fun f v hf h => k2 f v hf (k1 f v hf h)⟩
theorem Fx.rfl {C : Cfg} {H : Hp} : Fx C H H := .of .rfl
/-- a list is written -/
theorem Fx.upd {C : Cfg} {H : Hp} {a : Addr} {xs : List V} {o : HO} (h : H a = some (.lst xs)) : Fx C H (upd H a o) := fun b c dx gs e => ⟨gs, by
  rw [upd_ne (fun z => by rw [z, h] at e; cases e)]; exact e, fun _ _ _ h => h⟩
structure Ext (C : Cfg) (H : Hp) (As : List (List Addr)) (B : List Addr) (H' : Hp) (As' : List (List Addr)) : Prop where
  sm : Sm (msk H As B) (msk H' As' B)
  ow : ∀ a ∈ As'.flatten, a ∈ As.flatten ∨ H a = none
  fr : ∀ b ∈ B, H' b = H b
  th : ∀ a, H a ≠ none → H' a ≠ none
  fx : Fx C H H'
section
variable {C : Cfg} {H H' H'' : Hp} {As As' As'' : List (List Addr)} {B : List Addr} {ps ps' : PE'} {σ σ' : L2.St}
theorem Ext.rfl : Ext C H As B H As := ⟨.rfl, fun _ h => .inl h, fun _ _ => Eq.refl _, fun _ h => h, .rfl⟩
theorem Ext.trans (a : Ext C H As B H' As') (b : Ext C H' As' B H'' As'') : Ext C H As B H'' As'' := by
  refine ⟨a.sm.trans b.sm, fun x hx => ?_, fun x hx => (b.fr x hx).trans (a.fr x hx), fun x hx => b.th x (a.th x hx), a.fx.trans b.fx⟩
  rcases b.ow x hx with h | h
  · exact a.ow x h
  · by_cases e : H x = none
    · exact .inr e
    · exact absurd h (a.th x e)
theorem St.gext (S : St C ps σ H As B) (g : Gr C H H') : Ext C H As B H' As :=
  ⟨mask_sm g.sm, fun _ h => .inl h, fun b hb => S.own g.sm b (List.mem_append_right _ hb), g.th, .of g.sm⟩
theorem flat_split {i : Nat} {Fi : List Addr} (h : As[i]? = some Fi) (F : List Addr) : ∀ a, a ∈ (As.set i F).flatten ↔ a ∈ F ∨ a ∈ (As.set i []).flatten := by
  have hi : i < As.length := (List.getElem?_eq_some_iff.mp h).1
  intro a
  rw [(flat_perm (F := F) hi).mem_iff, List.mem_append]
theorem flat_sub : ∀ {As : List (List Addr)} {i : Nat}, (As.set i []).flatten.Sublist As.flatten
  | [], _ => by simp
  | F :: r, 0 => by simp
  | F :: r, i + 1 => by
    simp only [List.set_cons_succ, List.flatten_cons]
    exact (List.Sublist.refl F).append flat_sub
/-- one slot's owned part changes -/
theorem St.slot {i : Nat} {Fi F : List Addr} {sv : SV} {v : V} (S : St C ps σ H As B) (hi : As[i]? = some Fi) (k : ∀ b o, H b = some o → b ∉ Fi → (∀ ps, o ≠ .tbl ps) → H' b = some o)
    (tab : ∀ P ∈ C.tabs, TabG H' P) (th : ∀ a, H a ≠ none → H' a ≠ none) (fx : Fx C H H') (hF : ∀ a ∈ F, H a = none ∨ a ∈ Fi) (hn : F.Nodup) (ht : Trk H' F) (x : SvO C (mask H' ((As.set i F).flatten ++ B)) H' sv v F) :
    St C (ps.set i (some sv)) (σ.set i (some v)) H' (As.set i F) B ∧ Ext C H As B H' (As.set i F) := by
  have hlt : i < As.length := (List.getElem?_eq_some_iff.mp hi).1
  have self : As.set i Fi = As := set_self hi
  have memL : ∀ a, a ∈ As.flatten ↔ a ∈ Fi ∨ a ∈ (As.set i []).flatten := fun a => by
    have := flat_split hi Fi a
    rwa [self] at this
  have memL' := flat_split hi F
  have nd := S.nd
  have p0 : (As.flatten ++ B).Perm (Fi ++ ((As.set i []).flatten ++ B)) := by
    have := (flat_perm (F := Fi) hlt).append_right B
    rw [self, List.append_assoc] at this
    exact this
  have nd2 := p0.nodup_iff.mp nd
  have dis : ∀ a ∈ Fi, a ∉ (As.set i []).flatten ++ B := fun a ha hb => (List.nodup_append.mp nd2).2.2 a ha a hb rfl
  have hR : ∀ a ∈ (As.set i []).flatten ++ B, a ∈ As.flatten ++ B := fun a ha => by
    rcases List.mem_append.mp ha with h | h
    · exact List.mem_append_left _ ((memL a).mpr (.inr h))
    · exact List.mem_append_right _ h
  have keepR : ∀ a ∈ (As.set i []).flatten ++ B, H' a = H a := fun a ha => by
    obtain ⟨o, e, ho⟩ := S.trk a (hR a ha)
    rw [e]
    exact k a o e (fun z => dis a z ha) (isOwn_nt ho)
  have sm : Sm (msk H As B) (mask H' ((As.set i F).flatten ++ B)) := fun a o e n => by
    obtain ⟨h1, h2⟩ := mask_some e
    rw [mask_out]
    · exact k a o h2 (fun z => h1 (List.mem_append_left _ ((memL a).mpr (.inl z)))) n
    · intro z
      rcases List.mem_append.mp z with z | z
      · rcases (memL' a).mp z with z | z
        · rcases hF a z with w | w
          · rw [w] at h2; cases h2
          · exact h1 (List.mem_append_left _ ((memL a).mpr (.inl w)))
        · exact h1 (List.mem_append_left _ ((memL a).mpr (.inr z)))
      · exact h1 (List.mem_append_right _ z)
  refine ⟨⟨?_, ?_, ?_, tab⟩, ⟨sm, fun a ha => ?_, fun b hb => keepR b (List.mem_append_right _ hb), th, fx⟩⟩
  · have d := (S.sl.drop i (some v)).sm sm fun a ha => keepR a (List.mem_append_left _ ha)
    have e := d.set x i
    rw [List.set_set, List.set_set, List.set_set] at e
    exact e
  · have p1 : ((As.set i F).flatten ++ B).Perm (F ++ ((As.set i []).flatten ++ B)) := by
      have := (flat_perm (F := F) hlt).append_right B
      rw [List.append_assoc] at this
      exact this
    refine p1.nodup_iff.mpr (List.nodup_append.mpr ⟨hn, (List.nodup_append.mp nd2).2.1, fun a ha b hb e => ?_⟩)
    subst e
    rcases hF a ha with w | w
    · obtain ⟨o, q, _⟩ := S.trk a (hR a hb)
      rw [w] at q; cases q
    · exact dis a w hb
  · intro a ha
    rcases List.mem_append.mp ha with h | h
    · rcases (memL' a).mp h with h | h
      · exact ht a h
      · obtain ⟨o, e, ho⟩ := S.trk a (hR a (List.mem_append_left _ h))
        exact ⟨o, by rw [keepR a (List.mem_append_left _ h)]; exact e, ho⟩
    · obtain ⟨o, e, ho⟩ := S.trk a (List.mem_append_right _ h)
      exact ⟨o, by rw [keepR a (List.mem_append_right _ h)]; exact e, ho⟩
  · rcases (memL' a).mp ha with h | h
    · rcases hF a h with w | w
      · exact .inr w
      · exact .inl ((memL a).mpr (.inl w))
    · exact .inl ((memL a).mpr (.inr h))
/-- a slot's place -/
theorem St.at (S : St C ps σ H As B) {i : Nat} (h : i < ps.length) : ∃ Fi, As[i]? = some Fi := by
  obtain ⟨h1, h2⟩ := S.sl.len
  exact ⟨_, List.getElem?_eq_getElem (by rw [h2, ← h1]; exact h)⟩
theorem St.put0 (S : St C ps σ H As B) (g : Gr C H H') {i : Nat} (hi : i < ps.length) {v : V} {d : PyData} (x : Dn C.K (msk H' As B) v d) :
    St C (ps.set i (some (.d 0 d))) (σ.set i (some v)) H' (As.set i []) B ∧ Ext C H As B H' (As.set i []) := by
  obtain ⟨Fi, hFi⟩ := S.at hi
  refine S.slot hFi (fun b o e _ n => g.sm b o e n) (g.tab S.tab) g.th (.of g.sm) (fun _ h => nomatch h) .nil (fun _ h => nomatch h) (.d (.sh (x.sm (mask_less fun b hb => ?_))))
  rcases List.mem_append.mp hb with h | h
  · exact List.mem_append_left _ (flat_set_sub h)
  · exact List.mem_append_right _ h
/-- owned data, once its addresses are let go -/
theorem Ow.dnx {K : PySem.W.Frag} {M M' H : Hp} (s : Sm M M') : ∀ {k : Nat} {v : V} {d : PyData} {F : List Addr}, Ow K M H k v d F → (∀ a ∈ F, M' a = H a) → Dn K M' v d := by
  intro k
  induction k with
  | zero => intro v d F h _; cases h with | sh h => exact h.sm s
  | succ k ih =>
    intro v d F h e
    cases h with
    | ow h hs =>
      refine .lst ((e _ List.mem_cons_self).trans h) ?_
      have e2 := fun a ha => e a (List.mem_cons_of_mem _ ha)
      clear h e
      induction hs using OwA.rec (motive_1 := fun _ _ _ _ _ => True) with
      | sh => trivial
      | ow => trivial
      | odK => trivial
      | odT => trivial
      | nil => exact .nil
      | cons h _ _ ih2 => exact .cons (ih h fun a ha => e2 a (List.mem_append_left _ ha)) (ih2 ih fun a ha => e2 a (List.mem_append_right _ ha))
    | odK h hs => exact .dK ((e _ List.mem_cons_self).trans h) (hs.sm s)
    | odT h hs => exact .dT ((e _ List.mem_cons_self).trans h) (hs.sm s)
def frz (i : Nat) (ps : PE') : PE' := match ps[i]? with
  | some (some (.d k x)) => ps.set i (some (.d 0 x))
  | _ => ps
theorem St.frz (S : St C ps σ H As B) (i : Nat) : ∃ As', St C (Pv.frz i ps) σ H As' B ∧ Ext C H As B H As' := by
  unfold Pv.frz
  split
  · rename_i k x hp
    obtain ⟨v, F, h1, h2, h3⟩ := S.sl.get hp
    cases h3 with
    | d h =>
      have hlt : i < As.length := (List.getElem?_eq_some_iff.mp h2).1
      have self : As.set i F = As := set_self h2
      have p0 : (As.flatten ++ B).Perm (F ++ ((As.set i []).flatten ++ B)) := by
        have := (flat_perm (F := F) hlt).append_right B
        rw [self, List.append_assoc] at this
        exact this
      have nd2 := p0.nodup_iff.mp S.nd
      obtain ⟨r1, r2⟩ := S.slot (F := []) (sv := .d 0 x) (v := v) h2 (fun b o e _ _ => e) S.tab (fun _ h => h) .rfl (fun _ h => nomatch h) .nil (fun _ h => nomatch h)
        (.d (.sh (h.dnx (mask_less fun b hb => p0.mem_iff.mpr (List.mem_append_right _ hb)) fun a ha => mask_out fun hb => (List.nodup_append.mp nd2).2.2 a ha a hb rfl)))
      rw [set_self h1] at r1
      exact ⟨_, r1, r2⟩
  · exact ⟨As, S, .rfl⟩
end

/-! ### effects -/
def tX (C : Cfg) (f : PE' → Option (PyData × PE')) : TE := fun σ H Q => ∃ ps As B, St C ps σ H As B ∧ ∃ d ps', f ps = some (d, ps') ∧ ∀ v H' As', St C ps' σ H' As' B → Ext C H As B H' As' → Dn C.K (msk H' As' B) v d → Q v H'
def tTX (C : Cfg) (f : PE' → Option (Bool × PE')) : TT := fun σ H Q => ∃ ps As B, St C ps σ H As B ∧ ∃ d ps', f ps = some (d, ps') ∧ ∀ H' As', St C ps' σ H' As' B → Ext C H As B H' As' → Q d H'
def tAX (C : Cfg) (f : PE' → Option (List PyData × PE')) : TA := fun σ H Q => ∃ ps As B, St C ps σ H As B ∧ ∃ ds ps', f ps = some (ds, ps') ∧ ∀ vs H' As', St C ps' σ H' As' B → Ext C H As B H' As' → DnA C.K (msk H' As' B) vs ds → Q vs H'
/-- with the state as it is -/
def fX {α : Type} (g : PE' → Option α) : PE' → Option (α × PE') := fun ps => match g ps with
  | some d => some (d, ps)
  | none => none
theorem fX_some {α : Type} {g : PE' → Option α} {ps ps' : PE'} {d : α} (h : fX g ps = some (d, ps')) : g ps = some d ∧ ps' = ps := by
  unfold fX at h
  split at h
  · cases h; exact ⟨by assumption, rfl⟩
  · cases h
/-- a new list: g its items -/
def tN (C : Cfg) (g : PE' → Option (List PyData)) : TE := fun σ H Q => ∃ ps As B, St C ps σ H As B ∧ ∃ ds, g ps = some ds ∧ ∀ p xs H', Gr C H H' → H' p = none → DnA C.K (msk H' As B) xs ds → Q (.ref p) (upd H' p (.lst xs))
/-- .. with effects -/
def tNX (C : Cfg) (f : PE' → Option (List PyData × PE')) : TE := fun σ H Q => ∃ ps As B, St C ps σ H As B ∧ ∃ ds ps', f ps = some (ds, ps') ∧ ∀ p xs H' As', St C ps' σ H' As' B → Ext C H As B H' As' → H' p = none → DnA C.K (msk H' As' B) xs ds → Q (.ref p) (upd H' p (.lst xs))
section
variable {X : Cx} {C : Cfg} {a b c : Expr} {ga gb gc : PE' → Option PyData} {ta tb : PE' → Option Bool} {pos : Pos} {n m : Nat} {es : List Expr}
theorem tX_tP : ∀ σ H Q, tX C (fX ga) σ H Q → tP C 0 ga σ H Q := fun σ H Q h => by
  obtain ⟨ps, As, B, S, d, ps', e, q⟩ := h
  obtain ⟨e1, rfl⟩ := fX_some e
  exact ⟨_, As, B, S, d, e1, fun v H' g p => q v H' As (S.gr g) (S.gext g) p.zero⟩
theorem xE (h : PE X a (tP C 0 ga)) : PE X a (tX C (fX ga)) := pe_weak h tX_tP
theorem xT (h : PT X a (tT C ta)) : PT X a (tTX C (fX ta)) := pt_weak h fun σ H Q h => by
  obtain ⟨ps, As, B, S, d, ps', e, q⟩ := h
  obtain ⟨e1, rfl⟩ := fX_some e
  exact ⟨_, As, B, S, d, e1, fun H' g => q H' As (S.gr g) (S.gext g)⟩
theorem tN_tP {g : PE' → Option (List PyData)} : ∀ σ H Q, tP C n (fMap .list g) σ H Q → tN C g σ H Q := fun σ H Q h => by
  obtain ⟨ps, As, B, S, z, e, q⟩ := h
  unfold fMap at e
  split at e
  · rename_i ds hds
    cases e
    refine ⟨ps, As, B, S, ds, hds, fun p xs H' g hp hx => ?_⟩
    obtain ⟨g2, k⟩ := new_lst (C := C) (n := n) (S.gr g).trk hp hx
    exact q _ _ (g.trans g2) k
  · cases e
theorem eN {g : PE' → Option (List PyData)} (h : PE X a (tN C g)) : PE X a (tP C n (fMap .list g)) := pe_weak h tN_tP
theorem tNX_tN {g : PE' → Option (List PyData)} : ∀ σ H Q, tNX C (fX g) σ H Q → tN C g σ H Q := fun σ H Q h => by
  obtain ⟨ps, As, B, S, d, ps', e, q⟩ := h
  obtain ⟨e1, rfl⟩ := fX_some e
  exact ⟨_, As, B, S, d, e1, fun p xs H' g hp hx => q p xs H' As (S.gr g) (S.gext g) hp hx⟩
theorem xN {g : PE' → Option (List PyData)} (h : PE X a (tN C g)) : PE X a (tNX C (fX g)) := pe_weak h tNX_tN
def fMapX {α : Type} (k : α → PyData) (g : PE' → Option (α × PE')) : PE' → Option (PyData × PE') := fun ps => match g ps with
  | some (a, ps') => some (k a, ps')
  | none => none
theorem tNX_tX {f : PE' → Option (List PyData × PE')} : ∀ σ H Q, tX C (fMapX .list f) σ H Q → tNX C f σ H Q := fun σ H Q h => by
  obtain ⟨ps, As, B, S, d, ps', e, q⟩ := h
  unfold fMapX at e
  split at e
  · rename_i ds ps1 hds
    cases e
    refine ⟨ps, As, B, S, ds, _, hds, fun p xs H' As' S' x hp hx => ?_⟩
    obtain ⟨g2, k⟩ := new_lst (C := C) (n := 0) S'.trk hp hx
    exact q _ _ As' (S'.gr g2) (x.trans (S'.gext g2)) k.zero
  · cases e
theorem xNE {f : PE' → Option (List PyData × PE')} (h : PE X a (tNX C f)) : PE X a (tX C (fMapX .list f)) := pe_weak h tNX_tX
/-! new lists -/
theorem nLst {g : PE' → Option (List PyData)} (h : PAg X C 0 es g) (hl : es.length ≤ LIM := by decide) : PE X (.List es pos) (tN C g) := by
  refine pe_weak (pe_lst h.pa) fun σ H Q q => ?_
  obtain ⟨ps, As, B, S, ds, e, q⟩ := q
  exact ⟨ps, As, B, S, ds, e, fun vs H1 g1 p1 => ⟨by rw [p1.length, h.len _ _ e, ← lim_eq]; exact hl, fun p hp => q p vs H1 g1 hp p1.zero⟩⟩
def catL : PyData → PyData → Option (List PyData)
  | .list xs, .list ys => if xs.length + ys.length ≤ LIM then some (xs ++ ys) else none
  | _, _ => none
def f2' {α : Type} (f : PyData → PyData → Option α) (a b : PE' → Option PyData) : PE' → Option α := fun ps => match a ps with
  | some d => match b ps with
    | some e => f d e
    | none => none
  | none => none
theorem f2'_some {α : Type} {f : PyData → PyData → Option α} {a b : PE' → Option PyData} {ps : PE'} {z : α} (h : f2' f a b ps = some z) : ∃ d e, a ps = some d ∧ b ps = some e ∧ f d e = some z := by
  unfold f2' at h
  split at h
  · rename_i d hd
    split at h
    · rename_i e he; exact ⟨d, e, hd, he, h⟩
    · cases h
  · cases h
theorem nCat (ha : PE X a (tP C 1 ga)) (hb : PE X b (tP C 1 gb)) : PE X (.BinOp a .Add b pos) (tN C (f2' catL ga gb)) := by
  refine pe_weak (pe_op op_cat ha hb) fun σ H Q h => ?_
  obtain ⟨ps, As, B, S, z, e, q⟩ := h
  obtain ⟨d, e', h1, h2, h3⟩ := f2'_some e
  refine ⟨ps, As, B, S, d, h1, fun x H1 g1 p1 => ⟨ps, As, B, S.gr g1, e', h2, fun y H2 g2 p2 => ?_⟩⟩
  unfold catL at h3
  split at h3
  · split at h3
    · rename_i hl
      cases h3
      obtain ⟨a, xs, rfl, k1, k2⟩ := (p1.sm (mask_sm g2.sm) g2.sm).list mask_sub
      obtain ⟨b, ys, rfl, k3, k4⟩ := p2.list mask_sub
      exact ⟨a, b, xs, ys, rfl, rfl, k1, k3, by rw [k2.length, k4.length, ← lim_eq]; exact hl, fun p hp => q p _ H2 (g1.trans g2) hp (k2.zero.append k4.zero)⟩
    · cases h3
  · cases h3
def repLD : PyData → PyData → Option (List PyData)
  | .list xs, .int k => if k ≤ 16777216 ∧ xs.length * k.toNat ≤ LIM ∧ -16777216 ≤ k then some (repL k.toNat xs) else none
  | _, _ => none
theorem nRep (ha : PE X a (tP C 1 ga)) (hb : PE X b (tP C 1 gb)) : PE X (.BinOp a .Mult b pos) (tN C (f2' repLD ga gb)) := by
  refine pe_weak (pe_op op_rep ha hb) fun σ H Q h => ?_
  obtain ⟨ps, As, B, S, z, e, q⟩ := h
  obtain ⟨d, e', h1, h2, h3⟩ := f2'_some e
  refine ⟨ps, As, B, S, d, h1, fun x H1 g1 p1 => ⟨ps, As, B, S.gr g1, e', h2, fun y H2 g2 p2 => ?_⟩⟩
  unfold repLD at h3
  split at h3
  · split at h3
    · rename_i hl
      cases h3
      obtain ⟨a, xs, rfl, k1, k2⟩ := (p1.sm (mask_sm g2.sm) g2.sm).list mask_sub
      exact ⟨a, _, xs, rfl, p2.int, k1, by omega, by omega, by rw [k2.length, ← lim_eq]; exact hl.2.1, fun p hp => q p _ H2 (g1.trans g2) hp (DnA.repL k2.zero _)⟩
    · cases h3
  · cases h3
def listLD : List PyData → Option (List PyData)
  | [.list xs] => some xs
  | [.tuple xs] => some xs
  | _ => none
def fCall' {α : Type} (f : List PyData → Option α) (g : PE' → Option (List PyData)) : PE' → Option α := fun ps => match g ps with
  | some ds => f ds
  | none => none
theorem nList {x : Str} {p : Pos} {g : PE' → Option (List PyData)} (hK : X.K = C.K) (hg : Gl X x) (hm : X.mg x = none) (hv : bootBuiltins x = some (.type "list")) (ha : PAg X C 1 [a] g) (hn : x ≠ "__name__" := by decide) (hdb : (x == ("__debug__" : Str)) = false := by kernel_rfl)
    (he : starEach [a] X.env = (false, eval a X.env) :: starEach [] X.env := by rfl) (hpl : (backTo pos (starEach [] X.env)).any (·.1) = false := by rfl) : PE X (.Call (.Name x p) [a] [] pos) (tN C (fCall' listLD g)) := by
  refine pe_weak (pe_callTy call_list_of hg hm hv ha.pa hn hdb he hpl) fun σ H Q h => ?_
  obtain ⟨ps, As, B, S, z, e, q⟩ := h
  unfold fCall' at e
  split at e
  · rename_i ds hds
    refine ⟨ps, As, B, S, ds, hds, fun vs H1 g1 p1 => ?_⟩
    unfold listLD at e
    split at e
    · cases e
      obtain ⟨v, rfl, h⟩ := p1.one
      obtain ⟨a, xs, rfl, h1, h2⟩ := h.list mask_sub
      exact ⟨a, xs, rfl, .inl (SqL.of h1), fun l hl => q l xs H1 g1 hl h2.zero⟩
    · cases e
      obtain ⟨v, rfl, h⟩ := p1.one
      obtain ⟨a, xs, rfl, h1, h2⟩ := h.tuple
      exact ⟨a, xs, rfl, .inr (by rw [hK]; exact mask_sub.sqT h1), fun l hl => q l xs H1 g1 hl h2⟩
    · cases e
  · cases e
/-! effects in operands -/
def x2 {α : Type} (f : PyData → PyData → Option α) (a b : PE' → Option (PyData × PE')) : PE' → Option (α × PE') := fun ps => match a ps with
  | some (d, ps1) => match b ps1 with
    | some (e, ps2) => match f d e with
      | some z => some (z, ps2)
      | none => none
    | none => none
  | none => none
theorem x2_some {α : Type} {f : PyData → PyData → Option α} {a b : PE' → Option (PyData × PE')} {ps ps2 : PE'} {z : α} (h : x2 f a b ps = some (z, ps2)) : ∃ d ps1 e, a ps = some (d, ps1) ∧ b ps1 = some (e, ps2) ∧ f d e = some z := by
  unfold x2 at h
  split at h
  · rename_i d ps1 hd
    split at h
    · rename_i e ps3 he
      split at h
      · rename_i z' hz
        cases h
        exact ⟨d, ps1, e, hd, he, hz⟩
      · cases h
    · cases h
  · cases h
theorem tOp_tX {r : R2} {f : PyData → PyData → Option PyData} {fa fb : PE' → Option (PyData × PE')} (v : VOp2 C 1 0 r f) : ∀ σ H Q, tX C (x2 f fa fb) σ H Q → tOp r (tX C fa) (tX C fb) σ H Q := fun σ H Q h => by
  obtain ⟨ps, As, B, S, z, ps2, e, q⟩ := h
  obtain ⟨d, ps1, e', h1, h2, h3⟩ := x2_some e
  refine ⟨ps, As, B, S, d, ps1, h1, fun x H1 A1 S1 x1 p1 => ⟨ps1, A1, B, S1, e', ps2, h2, fun y H2 A2 S2 x2 p2 => ?_⟩⟩
  exact v H2 _ x y d e' z Q S2.trk (.sh (p1.sm x2.sm)) (.sh p2) h3 fun w H3 g3 p3 => q w H3 A2 (S2.gr g3) ((x1.trans x2).trans (S2.gext g3)) p3.zero
theorem xOp {op : Operator} {r : R2} {f : PyData → PyData → Option PyData} {fa fb : PE' → Option (PyData × PE')} (ho : OpR X (binaryOp op) r) (v : VOp2 C 1 0 r f) (ha : PE X a (tX C fa)) (hb : PE X b (tX C fb)) : PE X (.BinOp a op b pos) (tX C (x2 f fa fb)) :=
  pe_weak (pe_op ho ha hb) (tOp_tX v)
theorem xAdd {fa fb : PE' → Option (PyData × PE')} (hK : X.K = C.K) (ha : PE X a (tX C fa)) (hb : PE X b (tX C fb)) : PE X (.BinOp a .Add b pos) (tX C (x2 addD fa fb)) := xOp (OpR.or op_add (OpR.or op_cat (OpR.or op_catA op_add_str))) (by rw [hK]; exact vAdd) ha hb
theorem xSub {fa fb : PE' → Option (PyData × PE')} (ha : PE X a (tX C fa)) (hb : PE X b (tX C fb)) : PE X (.BinOp a .Sub b pos) (tX C (x2 subD fa fb)) := xOp op_sub vSub ha hb
theorem xMul {fa fb : PE' → Option (PyData × PE')} (hK : X.K = C.K) (ha : PE X a (tX C fa)) (hb : PE X b (tX C fb)) : PE X (.BinOp a .Mult b pos) (tX C (x2 mulD fa fb)) := xOp (OpR.or op_mul (OpR.or op_rep op_repT)) (by rw [hK]; exact vMul) ha hb
theorem xDiv {fa fb : PE' → Option (PyData × PE')} (ha : PE X a (tX C fa)) (hb : PE X b (tX C fb)) : PE X (.BinOp a .FloorDiv b pos) (tX C (x2 divD fa fb)) := xOp op_fdivN (vInt cDiv_ok) ha hb
theorem xMod {fa fb : PE' → Option (PyData × PE')} (ha : PE X a (tX C fa)) (hb : PE X b (tX C fb)) : PE X (.BinOp a .Mod b pos) (tX C (x2 modD fa fb)) := xOp op_modN (vInt cMod_ok) ha hb
def x1 (f : PyData → Option PyData) (a : PE' → Option (PyData × PE')) : PE' → Option (PyData × PE') := fun ps => match a ps with
  | some (d, ps1) => match f d with
    | some z => some (z, ps1)
    | none => none
  | none => none
theorem x1_some {f : PyData → Option PyData} {a : PE' → Option (PyData × PE')} {ps ps1 : PE'} {z : PyData} (h : x1 f a ps = some (z, ps1)) : ∃ d, a ps = some (d, ps1) ∧ f d = some z := by
  unfold x1 at h
  split at h
  · rename_i d ps2 hd
    split at h
    · rename_i z' hz; cases h; exact ⟨d, hd, hz⟩
    · cases h
  · cases h
theorem xNeg {fa : PE' → Option (PyData × PE')} (ha : PE X a (tX C fa)) : PE X (.UnaryOp .USub a pos) (tX C (x1 negD fa)) := pe_weak (pe_un un_neg ha) fun σ H Q h => by
  obtain ⟨ps, As, B, S, z, ps2, e, q⟩ := h
  obtain ⟨d, h1, h2⟩ := x1_some e
  refine ⟨ps, As, B, S, d, _, h1, fun x H1 A1 S1 x1 p1 => ?_⟩
  unfold negD at h2
  split at h2
  · cases h2
    cases p1
    exact ⟨_, rfl, q _ H1 A1 S1 x1 (.int _)⟩
  · cases h2
theorem xCmp {op : CmpOp} {f : PyData → PyData → Option PyData} {fa fb : PE' → Option (PyData × PE')} (k : CmpOk X C op f) (ha : PE X a (tX C fa)) (hb : PE X b (tX C fb)) (hm : behindInMarks op b = false) : PE X (.Compare a [op] [b] pos) (tX C (x2 f fa fb)) := by
  obtain ⟨r, h1, h2⟩ := k.ok
  exact pe_weak (pe_cmpR h1 ha hb hm) (tOp_tX (h2 0))
def xB (f : PE' → Option (PyData × PE')) : PE' → Option (Bool × PE') := fun ps => match f ps with
  | some (.bool b, ps1) => some (b, ps1)
  | _ => none
theorem xB_some {f : PE' → Option (PyData × PE')} {ps ps1 : PE'} {b : Bool} (h : xB f ps = some (b, ps1)) : f ps = some (.bool b, ps1) := by
  unfold xB at h
  split at h
  · cases h; assumption
  · cases h
theorem xCmpT {op : CmpOp} {f : PyData → PyData → Option PyData} {fa fb : PE' → Option (PyData × PE')} (k : CmpOk X C op f) (ha : PE X a (tX C fa)) (hb : PE X b (tX C fb)) (hm : behindInMarks op b = false) : PT X (.Compare a [op] [b] pos) (tTX C (xB (x2 f fa fb))) := by
  obtain ⟨r, h1, h2⟩ := k.ok
  refine pt_weak (pt_cmpR h1 ha hb hm) fun σ H Q h => ?_
  obtain ⟨ps, As, B, S, z, ps1, e, q⟩ := h
  exact tOp_tX (h2 0) σ H _ ⟨ps, As, B, S, .bool z, ps1, xB_some e, fun v H' A' S' x' p => ⟨z, by cases p; rfl, q H' A' S' x'⟩⟩
def xTr (f : PE' → Option (PyData × PE')) : PE' → Option (Bool × PE') := fun ps => match f ps with
  | some (d, ps1) => match truD d with
    | some b => some (b, ps1)
    | none => none
  | none => none
theorem xTru {fa : PE' → Option (PyData × PE')} (hK : X.K = C.K) (ha : PE X a (tX C fa)) (he : ∀ whole, isTrue a X.env whole = (do let v ← whole; standAt a.pos; holding [v] (truthy v)) := by intro _; rfl) : PT X a (tTX C (xTr fa)) := by
  refine pt_weak (pt_truth ha he) fun σ H Q h => ?_
  obtain ⟨ps, As, B, S, z, ps1, e, q⟩ := h
  unfold xTr at e
  split at e
  · rename_i d ps2 hd
    split at e
    · rename_i b hb
      cases e
      refine ⟨ps, As, B, S, d, _, hd, fun v H' A' S' x' p => ⟨z, ?_, q H' A' S' x'⟩⟩
      rw [hK]
      exact (Pk.sh (n := 1) p).tru mask_sub hb
    · cases e
  · cases e
def xNo (f : PE' → Option (Bool × PE')) : PE' → Option (Bool × PE') := fun ps => match f ps with
  | some (b, ps1) => some (!b, ps1)
  | none => none
def xAn (f g : PE' → Option (Bool × PE')) : PE' → Option (Bool × PE') := fun ps => match f ps with
  | some (true, ps1) => g ps1
  | some (false, ps1) => some (false, ps1)
  | none => none
def xOr' (f g : PE' → Option (Bool × PE')) : PE' → Option (Bool × PE') := fun ps => match f ps with
  | some (true, ps1) => some (true, ps1)
  | some (false, ps1) => g ps1
  | none => none
theorem xNotT {f : PE' → Option (Bool × PE')} (ha : PT X a (tTX C f)) : PT X (.UnaryOp .Not a pos) (tTX C (xNo f)) := pt_weak (pt_not ha) fun σ H Q h => by
  obtain ⟨ps, As, B, S, z, ps1, e, q⟩ := h
  unfold xNo at e
  split at e
  · rename_i b ps2 hb
    cases e
    exact ⟨ps, As, B, S, b, _, hb, q⟩
  · cases e
theorem xAnd1 {f : PE' → Option (Bool × PE')} (ha : PT X a (tTX C f)) : PW X (.BoolOp .And [a] pos) (tTX C f) := pw_and1 ha
theorem xOr1 {f : PE' → Option (Bool × PE')} (ha : PT X a (tTX C f)) : PW X (.BoolOp .Or [a] pos) (tTX C f) := pw_or1 ha
theorem xAndT {f g : PE' → Option (Bool × PE')} {rest : List Expr} (ha : PT X a (tTX C f)) (hb : PW X (.BoolOp .And (b :: rest) pos) (tTX C g)) : PW X (.BoolOp .And (a :: b :: rest) pos) (tTX C (xAn f g)) := pw_weak (pw_and ha hb) fun σ H Q h => by
  obtain ⟨ps, As, B, S, z, ps1, e, q⟩ := h
  unfold xAn at e
  split at e
  · rename_i ps2 h1
    refine ⟨ps, As, B, S, true, ps2, h1, fun H1 A1 S1 x1 => ?_⟩
    dsimp only
    rw [if_pos rfl]
    exact ⟨ps2, A1, B, S1, z, ps1, e, fun H2 A2 S2 x2 => q H2 A2 S2 (x1.trans x2)⟩
  · rename_i ps2 h1
    cases e
    refine ⟨ps, As, B, S, false, _, h1, fun H1 A1 S1 x1 => ?_⟩
    dsimp only
    rw [if_neg Bool.false_ne_true]
    exact q H1 A1 S1 x1
  · cases e
theorem xOrT {f g : PE' → Option (Bool × PE')} {rest : List Expr} (ha : PT X a (tTX C f)) (hb : PW X (.BoolOp .Or (b :: rest) pos) (tTX C g)) : PW X (.BoolOp .Or (a :: b :: rest) pos) (tTX C (xOr' f g)) := pw_weak (pw_or ha hb) fun σ H Q h => by
  obtain ⟨ps, As, B, S, z, ps1, e, q⟩ := h
  unfold xOr' at e
  split at e
  · rename_i ps2 h1
    cases e
    refine ⟨ps, As, B, S, true, _, h1, fun H1 A1 S1 x1 => ?_⟩
    dsimp only
    rw [if_pos rfl]
    exact q H1 A1 S1 x1
  · rename_i ps2 h1
    refine ⟨ps, As, B, S, false, ps2, h1, fun H1 A1 S1 x1 => ?_⟩
    dsimp only
    rw [if_neg Bool.false_ne_true]
    exact ⟨ps2, A1, B, S1, z, ps1, e, fun H2 A2 S2 x2 => q H2 A2 S2 (x1.trans x2)⟩
  · cases e
def xIf {α : Type} (t : PE' → Option (Bool × PE')) (f g : PE' → Option (α × PE')) : PE' → Option (α × PE') := fun ps => match t ps with
  | some (true, ps1) => f ps1
  | some (false, ps1) => g ps1
  | none => none
theorem xIfE {t : PE' → Option (Bool × PE')} {f g : PE' → Option (PyData × PE')} (hc : PT X c (tTX C t)) (ha : PE X a (tX C f)) (hb : PE X b (tX C g)) : PE X (.IfExp c a b pos) (tX C (xIf t f g)) := by
  refine pe_weak (pe_ifExp hc ha hb) fun σ H Q h => ?_
  obtain ⟨ps, As, B, S, z, ps1, e, q⟩ := h
  unfold xIf at e
  split at e
  · rename_i ps2 h1
    refine ⟨ps, As, B, S, true, ps2, h1, fun H1 A1 S1 x1 => ?_⟩
    dsimp only
    rw [if_pos rfl]
    exact ⟨ps2, A1, B, S1, z, ps1, e, fun v H2 A2 S2 x2 => q v H2 A2 S2 (x1.trans x2)⟩
  · rename_i ps2 h1
    refine ⟨ps, As, B, S, false, ps2, h1, fun H1 A1 S1 x1 => ?_⟩
    dsimp only
    rw [if_neg Bool.false_ne_true]
    exact ⟨ps2, A1, B, S1, z, ps1, e, fun v H2 A2 S2 x2 => q v H2 A2 S2 (x1.trans x2)⟩
  · cases e
/-! arguments with effects -/
structure PAx (X : Cx) (C : Cfg) (es : List Expr) (f : PE' → Option (List PyData × PE')) : Prop where
  pa : PA X es (tAX C f)
  len : ∀ ps ds ps', f ps = some (ds, ps') → ds.length = es.length
def xNil : PE' → Option (List PyData × PE') := fun ps => some ([], ps)
def xCons (a : PE' → Option (PyData × PE')) (r : PE' → Option (List PyData × PE')) : PE' → Option (List PyData × PE') := fun ps => match a ps with
  | some (d, ps1) => match r ps1 with
    | some (ds, ps2) => some (d :: ds, ps2)
    | none => none
  | none => none
theorem axNil : PAx X C [] xNil := ⟨pa_weak pa_nil fun σ H Q h => by
  obtain ⟨ps, As, B, S, z, ps1, e, q⟩ := h
  cases e
  exact q [] H As S .rfl .nil, fun ps ds ps' h => by cases h; rfl⟩
theorem axCons {fa : PE' → Option (PyData × PE')} {f : PE' → Option (List PyData × PE')} (ha : PE X a (tX C fa)) (hr : PAx X C es f) (hs : starEach (a :: es) X.env = (false, eval a X.env) :: starEach es X.env := by rfl) : PAx X C (a :: es) (xCons fa f) := by
  refine ⟨pa_weak (pa_cons ha hr.pa hs) fun σ H Q h => ?_, fun ps ds ps' h => ?_⟩
  · obtain ⟨ps, As, B, S, z, ps2, e, q⟩ := h
    unfold xCons at e
    split at e
    · rename_i d ps1 hd
      split at e
      · rename_i ds ps3 hds
        cases e
        refine ⟨ps, As, B, S, d, ps1, hd, fun v H1 A1 S1 x1 p1 => ⟨ps1, A1, B, S1, ds, _, hds, fun vs H2 A2 S2 x2 p2 => ?_⟩⟩
        exact q _ H2 A2 S2 (x1.trans x2) (.cons (p1.sm x2.sm) p2)
      · cases e
    · cases e
  · unfold xCons at h
    split at h
    · split at h
      · rename_i hds
        cases h
        rw [List.length_cons, List.length_cons, hr.len _ _ _ hds]
      · cases h
    · cases h
theorem xTup {f : PE' → Option (List PyData × PE')} {x1} (h : PAx X C es f) (hl : es.length ≤ LIM := by decide) : PE X (.Tuple es x1 pos) (tX C (fMapX .tuple f)) := by
  refine pe_weak (pe_tup h.pa) fun σ H Q q => ?_
  obtain ⟨ps, As, B, S, z, ps1, e, q⟩ := q
  unfold fMapX at e
  split at e
  · rename_i ds ps2 hds
    cases e
    refine ⟨ps, As, B, S, ds, _, hds, fun vs H1 A1 S1 x1 p1 => ⟨by rw [p1.length, h.len _ _ _ hds, ← lim_eq]; exact hl, fun p hp => ?_⟩⟩
    obtain ⟨g2, k⟩ := new_tup (C := C) (n := 0) S1.trk hp p1
    exact q _ _ A1 (S1.gr g2) (x1.trans (S1.gext g2)) k.zero
  · cases e
theorem nxLst {f : PE' → Option (List PyData × PE')} (h : PAx X C es f) (hl : es.length ≤ LIM := by decide) : PE X (.List es pos) (tNX C f) := by
  refine pe_weak (pe_lst h.pa) fun σ H Q q => ?_
  obtain ⟨ps, As, B, S, ds, ps1, e, q⟩ := q
  exact ⟨ps, As, B, S, ds, ps1, e, fun vs H1 A1 S1 x1 p1 => ⟨by rw [p1.length, h.len _ _ _ e, ← lim_eq]; exact hl, fun p hp => q p vs H1 A1 S1 x1 hp p1⟩⟩
def xCall {α : Type} (f : List PyData → Option α) (g : PE' → Option (List PyData × PE')) : PE' → Option (α × PE') := fun ps => match g ps with
  | some (ds, ps1) => match f ds with
    | some z => some (z, ps1)
    | none => none
  | none => none
theorem xCall_some {α : Type} {f : List PyData → Option α} {g : PE' → Option (List PyData × PE')} {ps ps1 : PE'} {z : α} (h : xCall f g ps = some (z, ps1)) : ∃ ds, g ps = some (ds, ps1) ∧ f ds = some z := by
  unfold xCall at h
  split at h
  · rename_i ds ps2 hds
    split at h
    · rename_i z' hz; cases h; exact ⟨ds, hds, hz⟩
    · cases h
  · cases h
theorem DnA.pk {K : PySem.W.Frag} {M H : Hp} {n : Nat} {vs : List V} {ds : List PyData} (h : DnA K M vs ds) : PkA K M H n vs ds := PkA.of h
theorem tCB_tX {r : List V → Hp → VK → Prop} {f : List PyData → Option PyData} {g : PE' → Option (List PyData × PE')} (v : VCall C 1 0 r f) : ∀ σ H Q, tX C (Pv.xCall f g) σ H Q → tCB r (tAX C g) σ H Q := fun σ H Q h => by
  obtain ⟨ps, As, B, S, z, ps1, e, q⟩ := h
  obtain ⟨ds, h1, h2⟩ := xCall_some e
  exact ⟨ps, As, B, S, ds, ps1, h1, fun vs H1 A1 S1 x1 p1 => v H1 _ vs ds z Q S1.trk p1.pk h2 fun w H2 g2 p2 => q w H2 A1 (S1.gr g2) (x1.trans (S1.gext g2)) p2.zero⟩
theorem xCallB {x : Str} {p : Pos} {id : String} {r : List V → Hp → VK → Prop} {f : List PyData → Option PyData} {g : PE' → Option (List PyData × PE')} (hc : CallR X (.builtin id) r) (v : VCall C 1 0 r f) (hg : Gl X x) (hm : X.mg x = none) (hv : bootBuiltins x = some (.builtin id)) (ha : PAx X C (a :: es) g)
    (hn : x ≠ "__name__" := by decide) (hdb : (x == ("__debug__" : Str)) = false := by kernel_rfl)
    (he : starEach (a :: es) X.env = (false, eval a X.env) :: starEach es X.env := by rfl) (hpl : (backTo pos (starEach es X.env)).any (·.1) = false := by rfl) : PE X (.Call (.Name x p) (a :: es) [] pos) (tX C (Pv.xCall f g)) :=
  pe_weak (pe_callB hc hg hm hv ha.pa hn hdb he hpl) (tCB_tX v)
theorem xCallT {x : Str} {p : Pos} {id : String} {r : List V → Hp → VK → Prop} {f : List PyData → Option PyData} {g : PE' → Option (List PyData × PE')} (hc : CallR X (.type id) r) (v : VCall C 1 0 r f) (hg : Gl X x) (hm : X.mg x = none) (hv : bootBuiltins x = some (.type id)) (ha : PAx X C (a :: es) g)
    (hn : x ≠ "__name__" := by decide) (hdb : (x == ("__debug__" : Str)) = false := by kernel_rfl)
    (he : starEach (a :: es) X.env = (false, eval a X.env) :: starEach es X.env := by rfl) (hpl : (backTo pos (starEach es X.env)).any (·.1) = false := by rfl) : PE X (.Call (.Name x p) (a :: es) [] pos) (tX C (Pv.xCall f g)) :=
  pe_weak (pe_callTy hc hg hm hv ha.pa hn hdb he hpl) (tCB_tX v)
/-! subscripts with effects -/
theorem xIx {fa fb : PE' → Option (PyData × PE')} (hK : X.K = C.K) (ha : PE X a (tX C fa)) (hb : PE X b (tX C fb)) (hs : PlainIx b := by exact fun _ _ => rfl) : PE X (.Subscript a b pos) (tX C (x2 ixD fa fb)) := by
  refine pe_weak (pe_ix (IxR.or ix_list (IxR.or ix_tup ix_str)) ha hb hs) fun σ H Q h => ?_
  obtain ⟨ps, As, B, S, z, ps2, e, q⟩ := h
  obtain ⟨d, ps1, e', h1, h2, h3⟩ := x2_some e
  refine ⟨ps, As, B, S, d, ps1, h1, fun x H1 A1 S1 x1 p1 => ⟨ps1, A1, B, S1, e', ps2, h2, fun y H2 A2 S2 x2 p2 => ?_⟩⟩
  rw [hK]
  exact vIx (m := 0) H2 _ x y d e' z Q S2.trk (.sh (p1.sm x2.sm)) (.sh p2) h3 fun v H3 g3 p3 => q v H3 A2 (S2.gr g3) ((x1.trans x2).trans (S2.gext g3)) p3.zero
/-- x[e], x a name: its list is read when e is done -/
def xIxN (i : Nat) (fb : PE' → Option (PyData × PE')) : PE' → Option (PyData × PE') := fun ps => match ps[i]? with
  | some (some _) => match fb ps with
    | some (e, ps1) => match ps1[i]? with
      | some (some (.d k d)) => if k ≤ 1 then (match ixD d e with | some z => some (z, ps1) | none => none) else none
      | _ => none
    | none => none
  | _ => none
theorem xIxName {i : Nat} {x : Str} {fb : PE' → Option (PyData × PE')} {pos' : Pos} (hK : X.K = C.K) (hN : X.N[i]? = some x) (hv : Vis X.env.scope x) (hb : PE X b (tX C fb)) (hs : PlainIx b := by exact fun _ _ => rfl)
    (hd : (x == ("__debug__" : Str)) = false := by kernel_rfl) (hcd : (x == ("__classdict__" : Str)) = false := by kernel_rfl) : PE X (.Subscript (.Name x pos') b pos) (tX C (xIxN i fb)) := by
  refine pe_weak (pe_ix (IxR.or ix_list (IxR.or ix_tup ix_str)) (pe_var hN hv hd hcd) hb hs) fun σ H Q h => ?_
  obtain ⟨ps, As, B, S, z, ps2, e, q⟩ := h
  unfold xIxN at e
  split at e
  · rename_i sv0 hp0
    obtain ⟨v, F, h1, h2, h3⟩ := S.sl.get hp0
    split at e
    · rename_i e' ps1 hb1
      split at e
      · rename_i k d hp
        split at e
        · rename_i hk
          split at e
          · rename_i z' hz
            cases e
            refine ⟨v, h1, ps, As, B, S, e', _, hb1, fun y H2 A2 S2 x2 p2 => ?_⟩
            obtain ⟨v', F', k1, k2, k3⟩ := S2.sl.get hp
            rw [h1] at k1
            cases k1
            rw [hK]
            cases k3 with
            | d k3 => exact vIx (m := 0) H2 _ v y d e' z Q S2.trk (k3.pk.up hk) (.sh p2) hz fun w H3 g3 p3 => q w H3 A2 (S2.gr g3) (x2.trans (S2.gext g3)) p3.zero
          · cases e
        · cases e
      · cases e
    · cases e
  · cases e
end
end Pv
set_option Elab.async false
set_option linter.all false
set_option maxRecDepth 100000
set_option maxHeartbeats 4000000
/-! Pv6: all slots read at once; what is walked. -/
namespace Pv
open PySem PySem.Spec PyProof.Rows L2 GxR

/-! ### the whole state to be shared for one reading -/
def frzFs : List (Str × Nat × PyData) → List (Str × Nat × PyData)
  | [] => []
  | (f, _, d) :: r => (f, 0, d) :: frzFs r
def frzSv : Option SV → Option SV
  | some (.d _ x) => some (.d 0 x)
  | some (.o c _ fs) => some (.o c false (frzFs fs))
  | some (.scr ns) => some (.scr ns)
  | none => none
def frzAll (ps : PE') : PE' := ps.map frzSv
mutual
/-- no list within -/
def noList : PyData → Bool
  | .list _ => false
  | .dict _ => false
  | .tuple ds => noLists ds
  | _ => true
def noLists : List PyData → Bool
  | [] => true
  | d :: r => noList d && noLists r
end
section
variable {K : PySem.W.Frag} {C : Cfg} {M M' H H' : Hp} {ps : PE'} {σ : L2.St} {As : List (List Addr)} {B : List Addr}
theorem sqT_mask {L : List Addr} {a : Addr} {xs : List V} (t : Trk H L) (h : SqT K H a xs) : SqT K (mask H L) a xs := by
  rcases h with h | h
  · rcases h with h | ⟨o, h⟩
    · refine .inl (.inl ?_)
      rw [mask_out]
      · exact h
      · intro hb; obtain ⟨o, e, ho⟩ := t a hb; rw [h] at e; cases e; cases ho
    · refine .inl (.inr ⟨o, ?_⟩)
      rw [mask_out]
      · exact h
      · intro hb; obtain ⟨o', e, ho⟩ := t a hb; rw [h] at e; cases e; cases ho
  · exact .inr h
mutual
theorem Dn.nol {L : List Addr} (t : Trk H L) : ∀ {v : V} {d : PyData}, Dn K H v d → noList d = true → Dn K (mask H L) v d
  | _, _, .non, _ => .non
  | _, _, .bl b, _ => .bl b
  | _, _, .int i, _ => .int i
  | _, _, .str x, _ => .str x
  | _, _, .lst h hs, e => by cases e
  | _, _, .tup h hs, e => .tup (sqT_mask t h) (DnA.nol t hs (by unfold noList at e; exact e))
  | _, _, .dK h hs, e => by cases e
  | _, _, .dT h hs, e => by cases e
theorem DnA.nol {L : List Addr} (t : Trk H L) : ∀ {v : List V} {d : List PyData}, DnA K H v d → noLists d = true → DnA K (mask H L) v d
  | _, _, .nil, _ => .nil
  | _, _, .cons h hs, e => by
    unfold noLists at e
    rw [Bool.and_eq_true] at e
    exact .cons (Dn.nol t h e.1) (DnA.nol t hs e.2)
end
theorem Ow.dnH (s : Sm M H) {k : Nat} {v : V} {d : PyData} {F : List Addr} (h : Ow K M H k v d F) : Dn K H v d := h.dnx s fun _ _ => rfl
theorem FlO.frz (s : Sm M H) : ∀ {fs : List (Str × Nat × PyData)} {gs : List (Str × V)} {F : List Addr}, FlO K M H fs gs F → FlO K H H (frzFs fs) gs [] ∧ ∀ p ∈ frzFs fs, p.2.1 = 0
  | _, _, _, .nil => ⟨.nil, fun _ h => nomatch h⟩
  | _, _, _, .cons h hs => by
    obtain ⟨h1, h2⟩ := FlO.frz s hs
    refine ⟨FlO.cons (F := []) (G := []) (.sh (h.dnH s)) h1, fun p hp => ?_⟩
    rcases List.mem_cons.mp hp with e | hp
    · rw [e]
    · exact h2 p hp
theorem SvO.frz (s : Sm M H) {sv : SV} {v : V} {F : List Addr} (h : SvO C M H sv v F) : ∃ sv', frzSv (some sv) = some sv' ∧ SvO C H H sv' v [] := by
  cases h with
  | d h => exact ⟨_, rfl, .d (.sh (h.dnH s))⟩
  | of h hs hz => exact ⟨_, rfl, .of (s _ _ h (fun ps e => by cases e)) ((hs.sm (H' := H) s fun _ z => nomatch z).frz .rfl).1 ((hs.sm (H' := H) s fun _ z => nomatch z).frz .rfl).2⟩
  | om h hs => exact ⟨_, rfl, .of h (hs.frz s).1 (hs.frz s).2⟩
  | scr h => exact ⟨_, rfl, .scr (s.sqL h)⟩
theorem Sl.frz (s : Sm M H) : ∀ {ps : PE'} {σ : L2.St} {As : List (List Addr)}, Sl C M H ps σ As → Sl C H H (frzAll ps) σ (As.map fun _ => [])
  | _, _, _, .nil => .nil
  | _, _, _, .no h => .no (Sl.frz s h)
  | _, _, _, .so h hs => by
    obtain ⟨sv', e, h'⟩ := h.frz s
    have := Sl.so h' (Sl.frz s hs)
    show Sl C H H (frzSv _ :: _) _ _
    rw [e]; exact this
theorem flat_nils : ∀ As : List (List Addr), (As.map fun _ => ([] : List Addr)).flatten = []
  | [] => rfl
  | _ :: r => by rw [List.map_cons, List.flatten_cons, flat_nils r]; rfl
theorem mask_nil (H : Hp) : mask H [] = H := by funext b; exact mask_out (by simp)
theorem St.frzAll (S : St C ps σ H As B) : ∃ A0, St C (Pv.frzAll ps) σ H A0 [] ∧ A0.flatten = [] := by
  refine ⟨As.map fun _ => [], ⟨?_, ?_, ?_, S.tab⟩, flat_nils _⟩
  · rw [flat_nils, List.append_nil, mask_nil]; exact S.sl.frz mask_sub
  · rw [flat_nils]; exact .nil
  · rw [flat_nils]; exact fun _ h => nomatch h
end
def fFz (g : PE' → Option PyData) : PE' → Option PyData := fun ps => match g (frzAll ps) with
  | some d => if noList d then some d else none
  | none => none
def fFzT {α : Type} (g : PE' → Option α) : PE' → Option α := fun ps => g (frzAll ps)
section
variable {X : Cx} {C : Cfg} {a b c : Expr} {ga gb gc : PE' → Option PyData} {ta tb : PE' → Option Bool} {pos : Pos} {n m : Nat} {es : List Expr}
theorem eFz (h : PE X a (tP C 0 ga)) : PE X a (tP C n (fFz ga)) := pe_weak h fun σ H Q q => by
  obtain ⟨ps, As, B, S, z, e, q⟩ := q
  unfold fFz at e
  split at e
  · rename_i d hd
    split at e
    · rename_i hn
      cases e
      obtain ⟨A0, S0, f0⟩ := S.frzAll
      refine ⟨_, A0, [], S0, _, hd, fun v H' g p => q v H' g (.sh ?_)⟩
      have hp := p.zero
      unfold msk at hp
      rw [f0, List.append_nil, mask_nil] at hp
      exact hp.nol (S.gr g).trk hn
    · cases e
  · cases e
theorem tFz (h : PT X a (tT C ta)) : PT X a (tT C (fFzT ta)) := pt_weak h fun σ H Q q => by
  obtain ⟨ps, As, B, S, z, e, q⟩ := q
  obtain ⟨A0, S0, f0⟩ := S.frzAll
  exact ⟨_, A0, [], S0, _, e, q⟩
end

/-! ### what is walked -/
def WalkOk (C : Cfg) (G M : Hp) (J : It) (items : List PyData) : Prop :=
  Walk J items.length (fun H => Sm G H) (fun i H x H' => Gr C H H' ∧ ∀ d, items[i]? = some d → ∀ L, Trk H L → Sm M (mask H L) → Dn C.K (mask H' L) x d)
def gw (n : Nat) (H : Hp) (L : List Addr) : Hp := match n with
  | 0 => mask H L
  | _ + 1 => H
def tI (C : Cfg) (n : Nat) (g : PE' → Option (List PyData)) : TI := fun σ H R => ∃ ps As B, St C ps σ H As B ∧ ∃ ds, g ps = some ds ∧ ∀ J H1, Gr C H H1 → WalkOk C (gw n H1 (As.flatten ++ B)) (msk H1 As B) J ds → R J H1
def tIX (C : Cfg) (f : PE' → Option (List PyData × PE')) : TI := fun σ H R => ∃ ps As B, St C ps σ H As B ∧ ∃ ds ps', f ps = some (ds, ps') ∧ ∀ J H1 As', St C ps' σ H1 As' B → Ext C H As B H1 As' → WalkOk C (msk H1 As' B) (msk H1 As' B) J ds → R J H1
theorem pi_weak {X : Cx} {tg e : Expr} {t t' : TI} (h : PI X tg e t) (w : ∀ σ H R, t' σ H R → t σ H R) : PI X tg e t' := ⟨fun pins s σ H R I q => h.run pins s σ H R I (w σ H R q)⟩
section
variable {X : Cx} {C : Cfg} {tg a b c : Expr} {ga gb gc : PE' → Option PyData} {pos : Pos} {n m : Nat} {es : List Expr}
theorem iX {g : PE' → Option (List PyData)} (h : PI X tg a (tI C 0 g)) : PI X tg a (tIX C (fX g)) := pi_weak h fun σ H R q => by
  obtain ⟨ps, As, B, S, ds, ps', e, q⟩ := q
  obtain ⟨e1, rfl⟩ := fX_some e
  exact ⟨_, As, B, S, ds, e1, fun J H1 g w => q J H1 As (S.gr g) (S.gext g) w⟩
/-- a list's or a tuple's items -/
def seqD : PyData → Option (List PyData)
  | .list xs => some xs
  | .tuple xs => some xs
  | _ => none
def fSeq (g : PE' → Option PyData) : PE' → Option (List PyData) := fun ps => match g ps with
  | some d => seqD d
  | none => none
def fSeqX (g : PE' → Option (PyData × PE')) : PE' → Option (List PyData × PE') := x1' seqD g
where x1' {α : Type} (f : PyData → Option α) (a : PE' → Option (PyData × PE')) : PE' → Option (α × PE') := fun ps => match a ps with
  | some (d, ps1) => match f d with
    | some z => some (z, ps1)
    | none => none
  | none => none
theorem wok_list {K : PySem.W.Frag} (hK : K = C.K) {G M : Hp} {p : Addr} {xs : List V} {ds : List PyData} (h : SqL C.K G p xs) (hs : DnA C.K M xs ds) : WalkOk C G M (Itl K p) ds := by
  subst hK
  have w : Walk (Itl C.K p) xs.length (fun H => SqL C.K H p xs) (YAt xs) := walk_list
  rw [hs.length] at w
  refine w.mono (fun H s => s.sqL h) fun i H x H' hi s y => ?_
  obtain ⟨rfl, hx⟩ := y
  refine ⟨.rfl, fun d hd L t sm => ?_⟩
  obtain ⟨v, hv, hd'⟩ := hs.get hd
  rw [hx] at hv
  cases hv
  exact hd'.sm sm
theorem wok_tup {K : PySem.W.Frag} (hK : K = C.K) {G M : Hp} {p : Addr} {xs : List V} {ds : List PyData} (h : SqT C.K G p xs) (hs : DnA C.K M xs ds) : WalkOk C G M (Itt K p) ds := by
  subst hK
  have w : Walk (Itt C.K p) xs.length (fun H => SqT C.K H p xs) (YAt xs) := walk_tup
  rw [hs.length] at w
  refine w.mono (fun H s => s.sqT h) fun i H x H' hi s y => ?_
  obtain ⟨rfl, hx⟩ := y
  refine ⟨.rfl, fun d hd L t sm => ?_⟩
  obtain ⟨v, hv, hd'⟩ := hs.get hd
  rw [hx] at hv
  cases hv
  exact hd'.sm sm
theorem gw_sub {n : Nat} {H : Hp} {L : List Addr} : Sm (mask H L) (gw n H L) := by
  cases n with
  | zero => exact .rfl
  | succ n => exact mask_sub
theorem Pk.gw {K : PySem.W.Frag} {H : Hp} {L : List Addr} {n : Nat} (hn : n ≤ 1) {v : V} {ds : List PyData} (h : Pk K (mask H L) H n v (.list ds)) : ∃ p xs, v = .ref p ∧ SqL K (Pv.gw n H L) p xs ∧ DnA K (mask H L) xs ds := by
  cases n with
  | zero =>
    obtain ⟨p, xs, rfl, h1, h2⟩ := h.zero.list
    exact ⟨p, xs, rfl, SqL.of h1, h2⟩
  | succ n =>
    obtain rfl : n = 0 := by omega
    obtain ⟨p, xs, rfl, h1, h2⟩ := h.list mask_sub
    exact ⟨p, xs, rfl, SqL.of h1, h2.zero⟩
theorem iSeq (hK : X.K = C.K) (ha : PE X a (tP C n ga)) (hn : n ≤ 1 := by decide) : PI X tg a (tI C n (fSeq ga)) := by
  refine ⟨fun pins s σ H R I q => ?_⟩
  obtain ⟨ps, As, B, S, ds, e, q⟩ := q
  unfold fSeq at e
  split at e
  · rename_i d hd
    unfold seqD at e
    split at e
    · cases e
      refine (pi_list ha).run pins s σ H R I ⟨ps, As, B, S, _, hd, fun v H1 g p => ?_⟩
      obtain ⟨l, xs, rfl, h1, h2⟩ := p.gw hn
      exact ⟨l, rfl, ⟨xs, by rw [hK]; cases n with
        | zero => exact mask_sub.sqL h1
        | succ n => exact h1⟩, q _ H1 g (wok_list hK h1 h2)⟩
    · cases e
      refine (pi_tup ha).run pins s σ H R I ⟨ps, As, B, S, _, hd, fun v H1 g p => ?_⟩
      obtain ⟨l, xs, rfl, h1, h2⟩ := p.tuple
      exact ⟨l, rfl, ⟨xs, by rw [hK]; exact mask_sub.sqT h1⟩, q _ H1 g (wok_tup hK (gw_sub.sqT h1) h2)⟩
    · cases e
  · cases e
theorem iSeqX {f : PE' → Option (PyData × PE')} (hK : X.K = C.K) (ha : PE X a (tX C f)) : PI X tg a (tIX C (fSeqX f)) := by
  refine ⟨fun pins s σ H R I q => ?_⟩
  obtain ⟨ps, As, B, S, ds, ps', e, q⟩ := q
  unfold fSeqX fSeqX.x1' at e
  split at e
  · rename_i d ps1 hd
    split at e
    · rename_i z hz
      cases e
      unfold seqD at hz
      split at hz
      · cases hz
        refine (pi_list ha).run pins s σ H R I ⟨ps, As, B, S, _, _, hd, fun v H1 A1 S1 x1 p => ?_⟩
        obtain ⟨l, xs, rfl, h1, h2⟩ := p.list
        exact ⟨l, rfl, ⟨xs, by rw [hK]; exact SqL.of (mask_sub l _ h1 fun ps e => by cases e)⟩, q _ H1 A1 S1 x1 (wok_list hK (SqL.of h1) h2)⟩
      · cases hz
        refine (pi_tup ha).run pins s σ H R I ⟨ps, As, B, S, _, _, hd, fun v H1 A1 S1 x1 p => ?_⟩
        obtain ⟨l, xs, rfl, h1, h2⟩ := p.tuple
        exact ⟨l, rfl, ⟨xs, by rw [hK]; exact mask_sub.sqT h1⟩, q _ H1 A1 S1 x1 (wok_tup hK h1 h2)⟩
      · cases hz
    · cases e
  · cases e
/-! ranges -/
def rngL (lo : Int) (n : Nat) : List PyData := (List.range n).map fun i => .int (lo + (i : Nat))
def rngC (lo c : Int) (n : Nat) : List PyData := (List.range n).map fun i => .int (lo + (i : Nat) * c)
def smI (i : Int) : Bool := decide (-4611686018427387904 ≤ i) && decide (i < 4611686018427387904)
theorem smI_ok {i : Int} (h : smI i = true) : -(2 ^ 62) ≤ i ∧ i < 2 ^ 62 := by
  unfold smI at h
  rw [Bool.and_eq_true, decide_eq_true_eq, decide_eq_true_eq] at h
  omega
def rngD : List PyData → Option (List PyData)
  | [.int j] => if smI j then some (rngL 0 j.toNat) else none
  | [.int i, .int j] => if smI i && smI j then some (rngL i (j - i).toNat) else none
  | [.int i, .int j, .int c] => if smI i && smI j && decide (c = -1) then some (rngC i (-1) (i - j).toNat) else none
  | _ => none
theorem wok_range {G M : Hp} {lo : Int} {n : Nat} : WalkOk C G M (Itr lo n) (rngL lo n) := by
  have w : Walk (Itr lo n) n (fun _ => True) (YFn fun i => .int (lo + (i : Nat))) := walk_range
  have hl : (rngL lo n).length = n := by simp [rngL]
  unfold WalkOk
  rw [hl]
  refine w.mono (fun _ _ => trivial) fun i H x H' hi s y => ?_
  obtain ⟨rfl, rfl⟩ := y
  refine ⟨.rfl, fun d hd L t sm => ?_⟩
  simp [rngL, hi] at hd
  subst hd
  exact .int _
theorem wok_rangeC {G M : Hp} {lo c : Int} {n : Nat} : WalkOk C G M (Itc lo c n) (rngC lo c n) := by
  have w : Walk (Itc lo c n) n (fun _ => True) (YFn fun i => .int (lo + (i : Nat) * c)) := walk_rangeC
  have hl : (rngC lo c n).length = n := by simp [rngC]
  unfold WalkOk
  rw [hl]
  refine w.mono (fun _ _ => trivial) fun i H x H' hi s y => ?_
  obtain ⟨rfl, rfl⟩ := y
  refine ⟨.rfl, fun d hd L t sm => ?_⟩
  simp [rngC, hi] at hd
  subst hd
  exact .int _
theorem PkA.ints1 {K : PySem.W.Frag} {M H : Hp} {vs : List V} {i : Int} (h : PkA K M H n vs [.int i]) : vs = [.int i] := by
  obtain ⟨v, rfl, k⟩ := h.one; rw [k.int]
theorem PkA.ints2 {K : PySem.W.Frag} {M H : Hp} {vs : List V} {i j : Int} (h : PkA K M H n vs [.int i, .int j]) : vs = [.int i, .int j] := by
  obtain ⟨v, u, rfl, k, h2⟩ := h.two; rw [k.int, h2.int]
theorem PkA.ints3 {K : PySem.W.Frag} {M H : Hp} {vs : List V} {i j k : Int} (h : PkA K M H n vs [.int i, .int j, .int k]) : vs = [.int i, .int j, .int k] := by
  cases h with | cons k1 t => cases t with | cons h2 t => cases t with | cons h3 t => cases t; rw [k1.int, h2.int, h3.int]
theorem iRange1 {g : PE' → Option (List PyData)} {p : Pos} (hg : Gl X "range") (hm : X.mg "range" = none) (ha : PAg X C m [a] g) (hs : starEach [a] X.env = [(false, eval a X.env)] := by rfl) : PI X tg (.Call (.Name "range" p) [a] [] pos) (tI C n (fCall' rngD g)) :=
  pi_weak (pi_range1 hg hm ha.pa hs) fun σ H R q => by
    obtain ⟨ps, As, B, S, ds, e, q⟩ := q
    unfold fCall' at e
    split at e
    · rename_i vs hvs
      refine ⟨ps, As, B, S, vs, hvs, fun us H1 g1 p1 => ?_⟩
      have hl := ha.len _ _ hvs
      unfold rngD at e
      split at e
      · split at e
        · rename_i j hj
          cases e
          have h2 := smI_ok hj
          exact ⟨j, p1.ints1, h2.1, h2.2, q _ H1 g1 wok_range⟩
        · cases e
      · simp at hl
      · simp at hl
      · cases e
    · cases e
theorem iRange2 {g : PE' → Option (List PyData)} {p : Pos} (hg : Gl X "range") (hm : X.mg "range" = none) (ha : PAg X C m [a, b] g) (hs : starEach [a, b] X.env = [(false, eval a X.env), (false, eval b X.env)] := by rfl) (hs2 : starEach [b] X.env = [(false, eval b X.env)] := by rfl) :
    PI X tg (.Call (.Name "range" p) [a, b] [] pos) (tI C n (fCall' rngD g)) :=
  pi_weak (pi_range2 hg hm ha.pa hs hs2) fun σ H R q => by
    obtain ⟨ps, As, B, S, ds, e, q⟩ := q
    unfold fCall' at e
    split at e
    · rename_i vs hvs
      refine ⟨ps, As, B, S, vs, hvs, fun us H1 g1 p1 => ?_⟩
      have hl := ha.len _ _ hvs
      unfold rngD at e
      split at e
      · simp at hl
      · split at e
        · rename_i i j hj
          cases e
          rw [Bool.and_eq_true] at hj
          have h1 := smI_ok hj.1
          have h2 := smI_ok hj.2
          exact ⟨i, j, p1.ints2, ⟨h1.1, h1.2, h2.1, h2.2⟩, q _ H1 g1 wok_range⟩
        · cases e
      · simp at hl
      · cases e
    · cases e
theorem iRange3 {g : PE' → Option (List PyData)} {p : Pos} (hg : Gl X "range") (hm : X.mg "range" = none) (ha : PAg X C m [a, b, c] g)
    (hs : starEach [a, b, c] X.env = (false, eval a X.env) :: starEach [b, c] X.env := by rfl) (hpl : (backTo pos (starEach [b, c] X.env)).any (·.1) = false := by rfl) : PI X tg (.Call (.Name "range" p) [a, b, c] [] pos) (tI C n (fCall' rngD g)) :=
  pi_weak (pi_range3 hg hm ha.pa hs hpl) fun σ H R q => by
    obtain ⟨ps, As, B, S, ds, e, q⟩ := q
    unfold fCall' at e
    split at e
    · rename_i vs hvs
      refine ⟨ps, As, B, S, vs, hvs, fun us H1 g1 p1 => ?_⟩
      have hl := ha.len _ _ hvs
      unfold rngD at e
      split at e
      · simp at hl
      · simp at hl
      · split at e
        · rename_i i j c hj
          cases e
          rw [Bool.and_eq_true, Bool.and_eq_true, decide_eq_true_eq] at hj
          obtain ⟨⟨hi, hj⟩, rfl⟩ := hj
          have h1 := smI_ok hi
          have h2 := smI_ok hj
          exact ⟨i, j, -1, (i - j).toNat, p1.ints3, RgC.neg h1.1 h1.2 h2.1 h2.2, q _ H1 g1 wok_rangeC⟩
        · cases e
      · cases e
    · cases e
/-- ranges whose bounds have effects -/
theorem iRange1X {f : PE' → Option (List PyData × PE')} {p : Pos} (hg : Gl X "range") (hm : X.mg "range" = none) (ha : PAx X C [a] f) (hs : starEach [a] X.env = [(false, eval a X.env)] := by rfl) : PI X tg (.Call (.Name "range" p) [a] [] pos) (tIX C (xCall rngD f)) :=
  pi_weak (pi_range1 hg hm ha.pa hs) fun σ H R q => by
    obtain ⟨ps, As, B, S, ds, ps1, e, q⟩ := q
    obtain ⟨vs, hvs, e⟩ := xCall_some e
    refine ⟨ps, As, B, S, vs, ps1, hvs, fun us H1 A1 S1 x1 p1 => ?_⟩
    have hl := ha.len _ _ _ hvs
    unfold rngD at e
    split at e
    · split at e
      · rename_i j hj
        cases e
        have h2 := smI_ok hj
        exact ⟨j, (PkA.of (n := 0) (H := H1) p1).ints1, h2.1, h2.2, q _ H1 A1 S1 x1 wok_range⟩
      · cases e
    · simp at hl
    · simp at hl
    · cases e
end
end Pv
set_option Elab.async false
set_option linter.all false
set_option maxRecDepth 100000
set_option maxHeartbeats 4000000
/-! Pv7: places within slots, owned values. -/
namespace Pv
open PySem PySem.Spec PyProof.Rows L2 GxR

/-! ### places -/
def atD : Nat → PyData → List Nat → Option (Nat × PyData)
  | k, d, [] => some (k, d)
  | k + 1, .list xs, j :: r => match xs[j]? with
    | some y => atD k y r
    | none => none
  | _, _, _ => none
def putD : PyData → List Nat → PyData → PyData
  | _, [], e => e
  | .list xs, j :: r, e => match xs[j]? with
    | some y => .list (xs.set j (putD y r e))
    | none => .list xs
  | d, _, _ => d
def resV (H : Hp) : V → List Nat → Option V
  | v, [] => some v
  | .ref a, j :: r => match H a with
    | some (.lst xs) => match xs[j]? with
      | some u => resV H u r
      | none => none
    | _ => none
  | _, _ => none
section
variable {K : PySem.W.Frag} {C : Cfg} {M H : Hp}
theorem OwA.get : ∀ {n : Nat} {vs : List V} {ds : List PyData} {F : List Addr} {j : Nat} {d : PyData}, OwA K M H n vs ds F → ds[j]? = some d → ∃ v A F' Bf, vs[j]? = some v ∧ F = A ++ F' ++ Bf ∧ Ow K M H n v d F' ∧
    ∀ M2 H2 v2 d2 F2, Sm M M2 → (∀ a ∈ A ++ Bf, H2 a = H a) → Ow K M2 H2 n v2 d2 F2 → OwA K M2 H2 n (vs.set j v2) (ds.set j d2) (A ++ F2 ++ Bf)
  | _, _, _, _, _, _, .nil, e => by simp at e
  | _, _, _, _, 0, d, .cons (F := F) (G := G) h hs, e => by
    simp at e; subst e
    refine ⟨_, [], F, G, rfl, by simp, h, fun M2 H2 v2 d2 F2 s k x => ?_⟩
    have := OwA.cons x (hs.sm (H' := H2) s fun a ha => k a (by simpa using ha))
    simpa using this
  | _, _, _, _, j + 1, d, .cons (F := F) (G := G) h hs, e => by
    obtain ⟨v, A, F', Bf, h1, h2, h3, h4⟩ := OwA.get (j := j) (d := d) hs (by simpa using e)
    refine ⟨v, F ++ A, F', Bf, by simpa using h1, by rw [h2]; simp, h3, fun M2 H2 v2 d2 F2 s k x => ?_⟩
    have := OwA.cons (h.sm (H' := H2) s fun a ha => k a (by simp [ha])) (h4 M2 H2 v2 d2 F2 s (fun a ha => k a (by
      rcases List.mem_append.mp ha with z | z
      · simp [z]
      · simp [z])) x)
    simpa using this
theorem Ow.lens : ∀ {js : List Nat} {k : Nat} {v : V} {d : PyData} {F : List Addr} {k' : Nat} {d' : PyData}, Ow K M H k v d F → atD k d js = some (k', d') → ∃ v' A F' Bf, resV H v js = some v' ∧ F = A ++ F' ++ Bf ∧ Ow K M H k' v' d' F' ∧
    ∀ M2 H2 d2 F2, Sm M M2 → (∀ a ∈ A ++ Bf, H2 a = H a) → Ow K M2 H2 k' v' d2 F2 → Ow K M2 H2 k v (putD d js d2) (A ++ F2 ++ Bf)
  | [], k, v, d, F, k', d', h, e => by
    unfold atD at e
    cases e
    refine ⟨v, [], F, [], by unfold resV; rfl, by simp, h, fun M2 H2 d2 F2 s k x => ?_⟩
    unfold putD
    simpa using x
  | j :: r, k, v, d, F, k', d', h, e => by
    unfold atD at e
    split at e
    · rename_i heq; cases heq
    · rename_i k0 xs j0 r0 heq
      cases heq
      split at e
      · rename_i y hy
        cases h with
        | ow h hs =>
          obtain ⟨v1, A1, F1, B1, g1, g2, g3, g4⟩ := hs.get hy
          obtain ⟨v', A, F', Bf, r1, r2, r3, r4⟩ := Ow.lens (js := r) g3 e
          rename_i a vs F0
          refine ⟨v', a :: (A1 ++ A), F', Bf ++ B1, ?_, by rw [g2, r2]; simp, r3, fun M2 H2 d2 F2 s k x => ?_⟩
          · unfold resV
            rw [h]
            dsimp only
            rw [g1]
            exact r1
          · have x1 := r4 M2 H2 d2 F2 s (fun b hb => k b (by
              rcases List.mem_append.mp hb with z | z
              · simp [z]
              · simp [z])) x
            have x2 := g4 M2 H2 v1 _ _ s (fun b hb => k b (by
              rcases List.mem_append.mp hb with z | z
              · simp [z]
              · simp [z])) x1
            rw [set_self g1] at x2
            unfold putD
            rw [hy]
            dsimp only
            have := Ow.ow ((k a (by simp)).trans h) x2
            simpa using this
      · cases e
    · cases e
def setF (f : Str) (e : PyData) : List (Str × Nat × PyData) → List (Str × Nat × PyData)
  | [] => []
  | (g, k, d) :: r => if f == g then (g, k, e) :: r else (g, k, d) :: setF f e r
theorem FlO.lens {f : Str} : ∀ {fs : List (Str × Nat × PyData)} {gs : List (Str × V)} {F : List Addr} {k : Nat} {d : PyData}, FlO K M H fs gs F → fs.lookup f = some (k, d) → ∃ v A F' Bf, gs.lookup f = some v ∧ F = A ++ F' ++ Bf ∧ Ow K M H k v d F' ∧
    ∀ M2 H2 d2 F2, Sm M M2 → (∀ a ∈ A ++ Bf, H2 a = H a) → Ow K M2 H2 k v d2 F2 → FlO K M2 H2 (setF f d2 fs) gs (A ++ F2 ++ Bf)
  | _, _, _, _, _, .nil, e => by simp at e
  | _, _, _, _, _, .cons (f := g) (k := k0) (d := d0) (v := v0) (F := F) (G := G) h hs, e => by
    by_cases q : (f == g) = true
    · rw [List.lookup_cons, q] at e
      cases e
      refine ⟨v0, [], F, G, by rw [List.lookup_cons, q], by simp, h, fun M2 H2 d2 F2 s k x => ?_⟩
      have := FlO.cons (f := g) x (hs.sm (H' := H2) s fun a ha => k a (by simpa using ha))
      unfold setF
      rw [if_pos q]
      simpa using this
    · have q' : (f == g) = false := by simpa using q
      rw [List.lookup_cons, q'] at e
      obtain ⟨v, A, F', Bf, h1, h2, h3, h4⟩ := FlO.lens hs e
      refine ⟨v, F ++ A, F', Bf, by rw [List.lookup_cons, q']; exact h1, by rw [h2]; simp, h3, fun M2 H2 d2 F2 s k x => ?_⟩
      have := FlO.cons (f := g) (h.sm (H' := H2) s fun a ha => k a (by simp [ha])) (h4 M2 H2 d2 F2 s (fun a ha => k a (by
        rcases List.mem_append.mp ha with z | z
        · simp [z]
        · simp [z])) x)
      unfold setF
      rw [if_neg q]
      simpa using this
def getP : SV → Option Str → List Nat → Option (Nat × PyData)
  | .d k x, none, js => atD k x js
  | .o _ true fs, some f, js => match fs.lookup f with
    | some (k, x) => atD k x js
    | none => none
  | _, _, _ => none
def putP : SV → Option Str → List Nat → PyData → SV
  | .d k x, none, js, e => .d k (putD x js e)
  | .o c true fs, some f, js, e => match fs.lookup f with
    | some (_, x) => .o c true (setF f (putD x js e) fs)
    | none => .o c true fs
  | sv, _, _, _ => sv
def resP (H : Hp) (v : V) : Option Str → List Nat → Option V
  | none, js => resV H v js
  | some f, js => match v with
    | .ref a => match H a with
      | some (.ins _ _ gs) => match gs.lookup f with
        | some u => resV H u js
        | none => none
      | _ => none
    | _ => none
theorem SvO.lens {fo : Option Str} {js : List Nat} {sv : SV} {v : V} {F : List Addr} {k' : Nat} {d' : PyData} (h : SvO C M H sv v F) (e : getP sv fo js = some (k', d')) : ∃ v' A F' Bf, resP H v fo js = some v' ∧ F = A ++ F' ++ Bf ∧ Ow C.K M H k' v' d' F' ∧
    ∀ M2 H2 d2 F2, Sm M M2 → (∀ a ∈ A ++ Bf, H2 a = H a) → Ow C.K M2 H2 k' v' d2 F2 → SvO C M2 H2 (putP sv fo js d2) v (A ++ F2 ++ Bf) := by
  unfold getP at e
  split at e
  · cases h with
    | d h =>
      obtain ⟨v', A, F', Bf, h1, h2, h3, h4⟩ := h.lens e
      exact ⟨v', A, F', Bf, h1, h2, h3, fun M2 H2 d2 F2 s k x => .d (h4 M2 H2 d2 F2 s k x)⟩
  · rename_i c fs f
    split at e
    · rename_i k x hl
      cases h with
      | om h hs =>
        rename_i a dx gs F0
        obtain ⟨v1, A1, F1, B1, g1, g2, g3, g4⟩ := hs.lens hl
        obtain ⟨v', A, F', Bf, r1, r2, r3, r4⟩ := g3.lens e
        refine ⟨v', a :: (A1 ++ A), F', Bf ++ B1, ?_, by rw [g2, r2]; simp, r3, fun M2 H2 d2 F2 s k x => ?_⟩
        · unfold resP
          dsimp only
          rw [h]
          dsimp only
          rw [g1]
          exact r1
        · have x1 := r4 M2 H2 d2 F2 s (fun b hb => k b (by
            rcases List.mem_append.mp hb with z | z
            · simp [z]
            · simp [z])) x
          have x2 := g4 M2 H2 _ _ s (fun b hb => k b (by
            rcases List.mem_append.mp hb with z | z
            · simp [z]
            · simp [z])) x1
          simp only [putP, hl]
          have := SvO.om (C := C) (c := c) ((k a (by simp)).trans h) x2
          simpa using this
    · cases e
  · cases e
end
/-- one slot's owned part changes; G: what was made for it on the way -/
theorem St.slotX {C : Cfg} {ps : PE'} {σ : L2.St} {H0 H H' : Hp} {As0 As : List (List Addr)} {B G : List Addr} {i : Nat} {Fi F : List Addr} {sv : SV} {v : V} (x0 : Ext C H0 As0 B H As) (hG : ∀ a ∈ G, H0 a = none) (S : St C ps σ H As (G ++ B)) (hi : As[i]? = some Fi)
    (k : ∀ b o, H b = some o → b ∉ Fi → (∀ ps, o ≠ .tbl ps) → H' b = some o) (tab : ∀ P ∈ C.tabs, TabG H' P) (th : ∀ a, H a ≠ none → H' a ≠ none) (fx : Fx C H H') (hF : ∀ a ∈ F, H a = none ∨ a ∈ Fi ∨ a ∈ G) (hn : F.Nodup) (ht : Trk H' F) (x : SvO C (mask H' ((As.set i F).flatten ++ B)) H' sv v F) :
    St C (ps.set i (some sv)) (σ.set i (some v)) H' (As.set i F) B ∧ Ext C H0 As0 B H' (As.set i F) := by
  have hlt : i < As.length := (List.getElem?_eq_some_iff.mp hi).1
  have self : As.set i Fi = As := set_self hi
  have memL : ∀ a, a ∈ As.flatten ↔ a ∈ Fi ∨ a ∈ (As.set i []).flatten := fun a => by
    have := flat_split hi Fi a
    rwa [self] at this
  have memL' := flat_split hi F
  have p0 : (As.flatten ++ (G ++ B)).Perm (Fi ++ ((As.set i []).flatten ++ (G ++ B))) := by
    have := (flat_perm (F := Fi) hlt).append_right (G ++ B)
    rw [self, List.append_assoc] at this
    exact this
  have nd2 := p0.nodup_iff.mp S.nd
  have dis : ∀ a ∈ Fi, a ∉ (As.set i []).flatten ++ (G ++ B) := fun a ha hb => (List.nodup_append.mp nd2).2.2 a ha a hb rfl
  have hR : ∀ a ∈ (As.set i []).flatten ++ (G ++ B), a ∈ As.flatten ++ (G ++ B) := fun a ha => by
    rcases List.mem_append.mp ha with h | h
    · exact List.mem_append_left _ ((memL a).mpr (.inr h))
    · exact List.mem_append_right _ h
  have keepR : ∀ a ∈ (As.set i []).flatten ++ (G ++ B), H' a = H a := fun a ha => by
    obtain ⟨o, e, ho⟩ := S.trk a (hR a ha)
    rw [e]
    exact k a o e (fun z => dis a z ha) (isOwn_nt ho)
  have smd : Sm (msk H As (G ++ B)) (mask H' ((As.set i F).flatten ++ B)) := fun a o e n => by
    obtain ⟨h1, h2⟩ := mask_some e
    rw [mask_out]
    · exact k a o h2 (fun z => h1 (List.mem_append_left _ ((memL a).mpr (.inl z)))) n
    · intro z
      rcases List.mem_append.mp z with z | z
      · rcases (memL' a).mp z with z | z
        · rcases hF a z with w | w | w
          · rw [w] at h2; cases h2
          · exact h1 (List.mem_append_left _ ((memL a).mpr (.inl w)))
          · exact h1 (List.mem_append_right _ (List.mem_append_left _ w))
        · exact h1 (List.mem_append_left _ ((memL a).mpr (.inr z)))
      · exact h1 (List.mem_append_right _ (List.mem_append_right _ z))
  have sm0 : Sm (msk H0 As0 B) (msk H As (G ++ B)) := fun a o e n => by
    obtain ⟨h1, h2⟩ := mask_some e
    have h3 := x0.sm a o e n
    obtain ⟨h4, h5⟩ := mask_some h3
    unfold msk
    rw [mask_out]
    · exact h5
    · intro z
      rcases List.mem_append.mp z with z | z
      · exact h4 (List.mem_append_left _ z)
      · rcases List.mem_append.mp z with z | z
        · rw [hG a z] at h2; cases h2
        · exact h4 (List.mem_append_right _ z)
  have gB : ∀ b ∈ B, b ∈ (As.set i []).flatten ++ (G ++ B) := fun b hb => List.mem_append_right _ (List.mem_append_right _ hb)
  refine ⟨⟨?_, ?_, ?_, tab⟩, ⟨sm0.trans smd, fun a ha => ?_, fun b hb => (keepR b (gB b hb)).trans (x0.fr b hb), fun a h => th a (x0.th a h), x0.fx.trans fx⟩⟩
  · have d := (S.sl.drop i (some v)).sm smd fun a ha => keepR a (List.mem_append_left _ ha)
    have e := d.set x i
    rw [List.set_set, List.set_set, List.set_set] at e
    exact e
  · have p1 : ((As.set i F).flatten ++ B).Perm (F ++ ((As.set i []).flatten ++ B)) := by
      have := (flat_perm (F := F) hlt).append_right B
      rw [List.append_assoc] at this
      exact this
    have ndR := (List.nodup_append.mp nd2).2.1
    have ndR2 : ((As.set i []).flatten ++ B).Nodup := ndR.sublist ((List.Sublist.refl _).append (List.sublist_append_right G B))
    refine p1.nodup_iff.mpr (List.nodup_append.mpr ⟨hn, ndR2, fun a ha b hb e => ?_⟩)
    subst e
    have hb' : a ∈ (As.set i []).flatten ++ (G ++ B) := by
      rcases List.mem_append.mp hb with z | z
      · exact List.mem_append_left _ z
      · exact gB a z
    rcases hF a ha with w | w | w
    · obtain ⟨o, q, _⟩ := S.trk a (hR a hb')
      rw [w] at q; cases q
    · exact dis a w hb'
    · rcases List.mem_append.mp hb with z | z
      · exact (List.nodup_append.mp ndR).2.2 a z a (List.mem_append_left _ w) rfl
      · exact (List.nodup_append.mp (List.nodup_append.mp ndR).2.1).2.2 a w a z rfl
  · intro a ha
    rcases List.mem_append.mp ha with h | h
    · rcases (memL' a).mp h with h | h
      · exact ht a h
      · obtain ⟨o, e, ho⟩ := S.trk a (hR a (List.mem_append_left _ h))
        exact ⟨o, by rw [keepR a (List.mem_append_left _ h)]; exact e, ho⟩
    · obtain ⟨o, e, ho⟩ := S.trk a (hR a (gB a h))
      exact ⟨o, by rw [keepR a (gB a h)]; exact e, ho⟩
  · rcases (memL' a).mp ha with h | h
    · rcases hF a h with w | w | w
      · by_cases e : H0 a = none
        · exact .inr e
        · exact absurd w (x0.th a e)
      · exact x0.ow a ((memL a).mpr (.inl w))
      · exact .inr (hG a w)
    · exact x0.ow a ((memL a).mpr (.inr h))
/-- a place within a slot changes -/
theorem St.lens {C : Cfg} {ps : PE'} {σ : L2.St} {H0 H : Hp} {As0 As : List (List Addr)} {B G : List Addr} {i : Nat} {sv : SV} {fo : Option Str} {js : List Nat} {k' : Nat} {d' : PyData} (x0 : Ext C H0 As0 B H As) (hG : ∀ a ∈ G, H0 a = none) (S : St C ps σ H As (G ++ B))
    (hp : ps[i]? = some (some sv)) (hg : getP sv fo js = some (k', d')) : ∃ u v' F', σ[i]? = some (some u) ∧ resP H u fo js = some v' ∧ Ow C.K (msk H As (G ++ B)) H k' v' d' F' ∧ (∀ a ∈ F', a ∈ As.flatten) ∧ F'.Nodup ∧
    ∀ H2 d2 F2, (∀ b o, H b = some o → b ∉ F' → (∀ ps, o ≠ .tbl ps) → H2 b = some o) → (∀ P ∈ C.tabs, TabG H2 P) → (∀ a, H a ≠ none → H2 a ≠ none) → Fx C H H2 → (∀ a ∈ F2, H a = none ∨ a ∈ F' ∨ a ∈ G) → F2.Nodup → Trk H2 F2 →
      (∀ M2, Sm (msk H As (G ++ B)) M2 → Ow C.K M2 H2 k' v' d2 F2) → ∃ As', St C (ps.set i (some (putP sv fo js d2))) σ H2 As' B ∧ Ext C H0 As0 B H2 As' ∧ Sm (msk H As (G ++ B)) (msk H2 As' B) := by
  obtain ⟨u, Fi, h1, h2, h3⟩ := S.sl.get hp
  obtain ⟨v', A, F', Bf, g1, g2, g3, g4⟩ := h3.lens hg
  subst g2
  have hsub : ∀ a ∈ A ++ F' ++ Bf, a ∈ As.flatten := fun a ha => flat_get h2 ha
  have hlt : i < As.length := (List.getElem?_eq_some_iff.mp h2).1
  have self : As.set i (A ++ F' ++ Bf) = As := set_self h2
  have p0 : (As.flatten ++ (G ++ B)).Perm ((A ++ F' ++ Bf) ++ ((As.set i []).flatten ++ (G ++ B))) := by
    have := (flat_perm (F := A ++ F' ++ Bf) hlt).append_right (G ++ B)
    rw [self, List.append_assoc] at this
    exact this
  have nd2 := p0.nodup_iff.mp S.nd
  have ndF := (List.nodup_append.mp nd2).1
  have disG : ∀ a ∈ A ++ F' ++ Bf, a ∉ G := fun a ha hb => (List.nodup_append.mp nd2).2.2 a ha a (List.mem_append_right _ (List.mem_append_left _ hb)) rfl
  have ndAF := (List.nodup_append.mp ndF).1
  refine ⟨u, v', F', h1, g1, g3, fun a ha => hsub a (by simp [ha]), (List.nodup_append.mp ndAF).2.1, fun H2 d2 F2 k tab th fx hF hn ht x => ?_⟩
  have disA : ∀ a ∈ A, a ∉ F' := fun a ha hb => (List.nodup_append.mp ndAF).2.2 a ha a hb rfl
  have disB : ∀ a ∈ Bf, a ∉ A ++ F' := fun a ha hb => (List.nodup_append.mp ndF).2.2 a hb a ha rfl
  have keep : ∀ a ∈ A ++ Bf, H2 a = H a := fun a ha => by
    have ha' : a ∈ A ++ F' ++ Bf := by
      rcases List.mem_append.mp ha with z | z
      · simp [z]
      · simp [z]
    obtain ⟨o, e, ho⟩ := S.trk a (List.mem_append_left _ (hsub a ha'))
    rw [e]
    refine k a o e (fun z => ?_) (isOwn_nt ho)
    rcases List.mem_append.mp ha with w | w
    · exact disA a w z
    · exact disB a w (List.mem_append_right _ z)
  have hnone : ∀ a ∈ A ++ F' ++ Bf, H a ≠ none := fun a ha e => by
    obtain ⟨o, q, _⟩ := S.trk a (List.mem_append_left _ (hsub a ha))
    rw [e] at q; cases q
  have smd : Sm (msk H As (G ++ B)) (mask H2 ((As.set i (A ++ F2 ++ Bf)).flatten ++ B)) := fun a o e n => by
    obtain ⟨h1, h2'⟩ := mask_some e
    have nF : ∀ z ∈ A ++ F' ++ Bf, z ≠ a := fun z hz e => h1 (List.mem_append_left _ (e ▸ hsub z hz))
    rw [mask_out]
    · exact k a o h2' (fun z => nF a (by simp [z]) rfl) n
    · intro z
      rcases List.mem_append.mp z with z | z
      · rcases (flat_split h2 _ a).mp z with z | z
        · rcases List.mem_append.mp z with z | z
          · rcases List.mem_append.mp z with z | z
            · exact nF a (by simp [z]) rfl
            · rcases hF a z with w | w | w
              · rw [w] at h2'; cases h2'
              · exact nF a (by simp [w]) rfl
              · exact h1 (List.mem_append_right _ (List.mem_append_left _ w))
          · exact nF a (by simp [z]) rfl
        · exact h1 (List.mem_append_left _ (flat_set_sub z))
      · exact h1 (List.mem_append_right _ (List.mem_append_right _ z))
  have key := St.slotX (F := A ++ F2 ++ Bf) (sv := putP sv fo js d2) (v := u) x0 hG S h2 (fun b o e hb n => k b o e (fun z => hb (by simp [z])) n) tab th fx (fun a ha => ?_) ?_ (fun a ha => ?_) (g4 _ H2 d2 F2 smd keep (x _ smd))
  · rw [set_self h1] at key
    exact ⟨_, key.1, key.2, smd⟩
  · rcases List.mem_append.mp ha with z | z
    · rcases List.mem_append.mp z with z | z
      · exact .inr (.inl (by simp [z]))
      · rcases hF a z with w | w | w
        · exact .inl w
        · exact .inr (.inl (by simp [w]))
        · exact .inr (.inr w)
    · exact .inr (.inl (by simp [z]))
  · have nA := (List.nodup_append.mp ndAF).1
    have nB := (List.nodup_append.mp ndF).2.1
    refine List.nodup_append.mpr ⟨List.nodup_append.mpr ⟨nA, hn, fun a ha b hb e => ?_⟩, nB, fun a ha b hb e => ?_⟩
    · subst e
      rcases hF a hb with w | w | w
      · exact hnone a (by simp [ha]) w
      · exact disA a ha w
      · exact disG a (by simp [ha]) w
    · subst e
      rcases List.mem_append.mp ha with z | z
      · exact disB a hb (by simp [z])
      · rcases hF a z with w | w | w
        · exact hnone a (by simp [hb]) w
        · exact disB a hb (by simp [w])
        · exact disG a (by simp [hb]) w
  · rcases List.mem_append.mp ha with z | z
    · rcases List.mem_append.mp z with z | z
      · obtain ⟨o, e, ho⟩ := S.trk a (List.mem_append_left _ (hsub a (by simp [z])))
        exact ⟨o, by rw [keep a (by simp [z])]; exact e, ho⟩
      · exact ht a z
    · obtain ⟨o, e, ho⟩ := S.trk a (List.mem_append_left _ (hsub a (by simp [z])))
      exact ⟨o, by rw [keep a (by simp [z])]; exact e, ho⟩

/-! ### values that come with what they own -/
def tW (C : Cfg) (n : Nat) (f : PE' → Option (PyData × PE')) : TE := fun σ H Q => ∃ ps As B, St C ps σ H As B ∧ ∃ d ps', f ps = some (d, ps') ∧
  ∀ v H' As' F, St C ps' σ H' As' (F ++ B) → Ext C H As B H' As' → (∀ a ∈ F, H a = none) → Ow C.K (msk H' As' (F ++ B)) H' n v d F → Q v H'
section
variable {X : Cx} {C : Cfg} {a b c : Expr} {pos : Pos} {n m : Nat} {es : List Expr} {ps : PE'} {σ : L2.St} {H H' : Hp} {As : List (List Addr)} {B F : List Addr}
theorem wE {f : PE' → Option (PyData × PE')} (h : PE X a (tX C f)) : PE X a (tW C 0 f) := pe_weak h fun σ H Q q => by
  obtain ⟨ps, As, B, S, d, ps', e, q⟩ := q
  exact ⟨ps, As, B, S, d, ps', e, fun v H' As' S' x p => q v H' As' [] S' x (fun _ h => nomatch h) (.sh p)⟩
/-- a new thing is laid, to be owned -/
theorem St.grow {p : Addr} {o : HO} (S : St C ps σ H As B) (h : H p = none) (ho : isOwn o = true) : St C ps σ (upd H p o) As ([p] ++ B) ∧ Ext C H As B (upd H p o) As := by
  have hp := S.trk.new h
  have s1 : Sm (msk H As B) (mask (upd H p o) (As.flatten ++ ([p] ++ B))) := fun b x e n => by
    obtain ⟨h1, h2⟩ := mask_some e
    have hb : b ≠ p := fun z => by rw [z, h] at h2; cases h2
    rw [mask_out, upd_ne hb]
    · exact h2
    · intro z
      simp at z
      rcases z with z | z | z
      · exact h1 (by simp [z])
      · exact hb z
      · exact h1 (by simp [z])
  have keep : ∀ b ∈ As.flatten ++ B, upd H p o b = H b := fun b hb => upd_ne (fun z => hp (z ▸ hb))
  refine ⟨⟨S.sl.sm s1 fun b hb => keep b (List.mem_append_left _ hb), ?_, ?_, fun P hP => tab_upd h (S.tab P hP)⟩, ⟨sm_updM S.trk h, fun b hb => .inl hb, fun b hb => keep b (List.mem_append_right _ hb), upd_th, .of (sm_upd h)⟩⟩
  · have := S.nd
    rw [List.nodup_append] at this ⊢
    refine ⟨this.1, List.nodup_cons.mpr ⟨fun z => hp (List.mem_append_right _ z), this.2.1⟩, fun b hb c hc e => ?_⟩
    rcases List.mem_cons.mp hc with z | z
    · rw [z] at e; exact hp (e ▸ List.mem_append_left _ hb)
    · exact this.2.2 b hb c z e
  · intro b hb
    simp at hb
    by_cases e : b = p
    · subst e; exact ⟨o, upd_same, ho⟩
    · have hb' : b ∈ As.flatten ++ B := by
        rcases hb with z | z | z
        · simp [z]
        · exact absurd z e
        · simp [z]
      obtain ⟨x, q, hx⟩ := S.trk b hb'
      exact ⟨x, by rw [keep b hb']; exact q, hx⟩
theorem OwA.zero {K : PySem.W.Frag} {M H : Hp} : ∀ {vs : List V} {ds : List PyData}, DnA K M vs ds → OwA K M H 0 vs ds []
  | _, _, .nil => .nil
  | _, _, .cons h hs => OwA.cons (F := []) (G := []) (.sh h) (OwA.zero hs)
theorem OwA.zeroF {K : PySem.W.Frag} {M H : Hp} : ∀ {vs : List V} {ds : List PyData} {F : List Addr}, OwA K M H 0 vs ds F → F = [] ∧ DnA K M vs ds
  | _, _, _, .nil => ⟨rfl, .nil⟩
  | _, _, _, .cons h hs => by
    cases h with | sh h =>
      obtain ⟨e, k⟩ := OwA.zeroF hs
      exact ⟨by rw [e]; rfl, .cons h k⟩
theorem Sm.grow {p : Addr} {o : HO} (S : St C ps σ H As B) (h : H p = none) : Sm (msk H As B) (msk (upd H p o) As ([p] ++ B)) := fun b x e n => by
  obtain ⟨h1, h2⟩ := mask_some e
  have hb : b ≠ p := fun z => by rw [z, h] at h2; cases h2
  unfold msk
  rw [mask_out, upd_ne hb]
  · exact h2
  · intro z
    simp at z
    rcases z with z | z | z
    · exact h1 (by simp [z])
    · exact hb z
    · exact h1 (by simp [z])
theorem wN {f : PE' → Option (List PyData × PE')} (h : PE X a (tNX C f)) : PE X a (tW C 1 (fMapX .list f)) := pe_weak h fun σ H Q q => by
  obtain ⟨ps, As, B, S, d, ps', e, q⟩ := q
  unfold fMapX at e
  split at e
  · rename_i ds ps1 hds
    cases e
    refine ⟨ps, As, B, S, ds, _, hds, fun p xs H' As' S' x hp hx => ?_⟩
    obtain ⟨S2, x2⟩ := S'.grow (o := .lst xs) hp rfl
    refine q _ _ As' [p] S2 (x.trans x2) (fun a ha => ?_) (Ow.ow (F := []) upd_same (.zero (hx.sm (.grow S' hp))))
    rw [List.mem_singleton.mp ha]
    by_cases e : H p = none
    · exact e
    · exact absurd hp (x.th p e)
  · cases e
theorem St.unB (S : St C ps σ H As (F ++ B)) : St C ps σ H As B := by
  have hs : ∀ a ∈ As.flatten ++ B, a ∈ As.flatten ++ (F ++ B) := fun a ha => by
    rcases List.mem_append.mp ha with z | z
    · simp [z]
    · simp [z]
  exact ⟨S.sl.sm (mask_less hs) fun _ _ => rfl, S.nd.sublist ((List.Sublist.refl _).append (List.sublist_append_right F B)), fun a ha => S.trk a (hs a ha), S.tab⟩
theorem St.dnF {v : V} {d : PyData} (S : St C ps σ H As (F ++ B)) (h : Ow C.K (msk H As (F ++ B)) H n v d F) : Dn C.K (msk H As B) v d := by
  refine h.dnx (mask_less fun a ha => ?_) fun a ha => mask_out fun hb => ?_
  · rcases List.mem_append.mp ha with z | z
    · simp [z]
    · simp [z]
  · have nd := S.nd
    rw [List.nodup_append] at nd
    rcases List.mem_append.mp hb with z | z
    · exact nd.2.2 a z a (List.mem_append_left _ ha) rfl
    · exact (List.nodup_append.mp nd.2.1).2.2 a ha a z rfl
theorem wX {f : PE' → Option (PyData × PE')} (h : PE X a (tW C n f)) : PE X a (tX C f) := pe_weak h fun σ H Q q => by
  obtain ⟨ps, As, B, S, d, ps', e, q⟩ := q
  exact ⟨ps, As, B, S, d, ps', e, fun v H' As' F S' x hF o => q v H' As' S'.unB x (S'.dnF o)⟩
end
end Pv
set_option Elab.async false
set_option linter.all false
set_option maxRecDepth 100000
set_option maxHeartbeats 4000000
/-! Pv8: statements. -/
namespace Pv
open PySem PySem.Spec PyProof.Rows L2 GxR

abbrev FS := PE' → Option (Fl × PE')
/-- a statement does f; the slots of pin stay -/
def tS (C : Cfg) (pin : Nat → Bool) (f : FS) : TS := fun D σ H => ∃ ps As B, St C ps σ H As B ∧ ∃ fl ps', f ps = some (fl, ps') ∧
  ∀ σ' H' As', St C ps' σ' H' As' B → Ext C H As B H' As' → (∀ i, pin i = true → σ'[i]? = σ[i]?) → match fl with
    | .nx => D.nx σ' H'
    | .bk => D.bk σ' H'
    | .ct => D.ct σ' H'
    | .rt d => ∀ v, Dn C.K (msk H' As' B) v d → D.rt v H'
/-- a target takes a shared thing -/
def tG (C : Cfg) (pin : Nat → Bool) (ft : PyData → PE' → Option PE') : TG := fun v σ H Q => ∃ ps As B, St C ps σ H As B ∧ ∃ d ps', Dn C.K (msk H As B) v d ∧ ft d ps = some ps' ∧
  ∀ σ', St C ps' σ' H As B → (∀ i, pin i = true → σ'[i]? = σ[i]?) → Q σ' H
def tGs (C : Cfg) (pin : Nat → Bool) (ft : List PyData → PE' → Option PE') : TGs := fun vs σ H Q => ∃ ps As B, St C ps σ H As B ∧ ∃ ds ps', DnA C.K (msk H As B) vs ds ∧ ft ds ps = some ps' ∧
  ∀ σ', St C ps' σ' H As B → (∀ i, pin i = true → σ'[i]? = σ[i]?) → Q σ' H
theorem pg_weak {X : Cx} {e : Expr} {t t' : TG} (h : PG X e t) (w : ∀ v σ H Q, t' v σ H Q → t v σ H Q) : PG X e t' := ⟨fun pins s σ H v u Q I r q => h.run pins s σ H v u Q I r (w v σ H Q q)⟩
theorem pgs_weak {X : Cx} {e : List Expr} {t t' : TGs} (h : PGs X e t) (w : ∀ v σ H Q, t' v σ H Q → t v σ H Q) : PGs X e t' := ⟨fun pins s σ H v u Q I r q => h.run pins s σ H v u Q I r (w v σ H Q q)⟩
theorem pin_set {i : Nat} {pin : Nat → Bool} {σ : L2.St} {v : Option V} (h : pin i = false) : ∀ j, pin j = true → (σ.set i v)[j]? = σ[j]? := fun j hj => by
  have e : i ≠ j := fun e => by rw [e, hj] at h; cases h
  exact List.getElem?_set_ne e
/-- owns nothing -/
def low : Option SV → Bool
  | none => true
  | some (.d 0 _) => true
  | some (.scr _) => true
  | _ => false
def lowAt (ps : PE') (i : Nat) : Bool := match ps[i]? with
  | some p => low p
  | none => false
theorem Sl.low {C : Cfg} {M H : Hp} : ∀ {ps : PE'} {σ : L2.St} {As : List (List Addr)} {i : Nat}, Sl C M H ps σ As → lowAt ps i = true → As[i]? = some []
  | _, _, _, _, .nil, h => by simp [lowAt] at h
  | _, _, _, 0, .no _, _ => rfl
  | _, _, _, i + 1, .no hs, h => by simpa using Sl.low (i := i) hs (by simpa [lowAt] using h)
  | _, _, _, 0, .so (sv := sv) h _, hl => by
    simp only [lowAt, List.getElem?_cons_zero] at hl
    cases h with
    | d h => cases h with
      | sh => rfl
      | _ => cases hl
    | scr => rfl
    | _ => cases hl
  | _, _, _, i + 1, .so _ hs, h => by simpa using Sl.low (i := i) hs (by simpa [lowAt] using h)
def gN (i : Nat) (d : PyData) (ps : PE') : Option PE' := if lowAt ps i then some (ps.set i (some (.d 0 d))) else none
def gC (f : PyData → PE' → Option PE') (r : List PyData → PE' → Option PE') : List PyData → PE' → Option PE'
  | d :: ds, ps => match f d ps with
    | some ps1 => r ds ps1
    | none => none
  | [], _ => none
def g0 : List PyData → PE' → Option PE'
  | [], ps => some ps
  | _ :: _, _ => none
def gT (r : List PyData → PE' → Option PE') : PyData → PE' → Option PE'
  | .tuple ds, ps => r ds ps
  | _, _ => none
section
variable {X : Cx} {C : Cfg} {pin : Nat → Bool} {a b c e : Expr} {pos : Pos} {n m i : Nat} {es : List Expr} {x : Str} {pos' : Pos}
theorem gName' (hN : X.N.Nodup) (hi : X.N[i]? = some x) (hx : Loc X.env.scope x) (hpin : pin i = false) (hf : X.fn x = true ∨ X.env.scope.names.lookup x = some .local := by first | exact .inl rfl | exact .inr rfl | assumption) : PG X (.Name x pos) (tG C pin (gN i)) :=
  pg_weak (pg_name hN hi hx hf) fun v σ H Q q => by
    obtain ⟨ps, As, B, S, d, ps', h, e, q⟩ := q
    unfold gN at e
    split at e
    · rename_i hl
      cases e
      have hA := S.sl.low hl
      have hlt : i < ps.length := by
        have := (List.getElem?_eq_some_iff.mp hA).1
        rw [S.sl.len.1, ← S.sl.len.2]; exact this
      obtain ⟨S2, _⟩ := S.put0 .rfl hlt h
      rw [set_self hA] at S2
      exact q _ S2 (pin_set hpin)
    · cases e
theorem gsNil : PGs X [] (tGs C pin g0) := pgs_weak pgs_nil fun v σ H Q q => by
  obtain ⟨ps, As, B, S, ds, ps', h, e, q⟩ := q
  unfold g0 at e
  split at e
  · cases e
    cases h
    exact ⟨rfl, q σ S fun _ _ => rfl⟩
  · cases e
theorem gsCons {f : PyData → PE' → Option PE'} {r : List PyData → PE' → Option PE'} (h1 : PG X e (tG C pin f)) (h2 : PGs X es (tGs C pin r))
    (hs : (assignEach (e :: es) X.env).map (·.2) = assign e X.env :: (assignEach es X.env).map (·.2) := by rfl) : PGs X (e :: es) (tGs C pin (gC f r)) := pgs_weak (pgs_cons h1 h2 hs) fun v σ H Q q => by
  obtain ⟨ps, As, B, S, ds, ps', h, e, q⟩ := q
  unfold gC at e
  split at e
  · rename_i d ds
    split at e
    · rename_i ps1 h1
      cases h with
      | cons hd hr =>
        refine ⟨_, _, rfl, ps, As, B, S, d, ps1, hd, h1, fun σ1 S1 p1 => ⟨ps1, As, B, S1, ds, ps', hr, e, fun σ2 S2 p2 => ?_⟩⟩
        exact q σ2 S2 fun i hi => (p2 i hi).trans (p1 i hi)
    · cases e
  · cases e
theorem gTuple {r : List PyData → PE' → Option PE'} {k : Nat} (hc : X.calm = true) (hK : X.K = C.K) (h : PGs X es (tGs C pin r)) (hl : ∀ ds ps ps', r ds ps = some ps' → ds.length = n)
    (hn : (assignEach es X.env).length = n := by rfl) (hst : (assignEach es X.env).findIdx? (·.1) = none := by rfl) : PG X (.Tuple es k pos) (tG C pin (gT r)) := pg_weak (pg_tup hc h hn hst) fun v σ H Q q => by
  obtain ⟨ps, As, B, S, d, ps', h, e, q⟩ := q
  unfold gT at e
  split at e
  · rename_i ds
    obtain ⟨a, xs, rfl, h1, h2⟩ := h.tuple
    refine ⟨a, xs, rfl, by rw [hK]; exact mask_sub.sqT h1, by rw [h2.length]; exact hl _ _ _ e, ps, As, B, S, ds, ps', h2, e, q⟩
  · cases e
theorem g0_len (ds : List PyData) (ps ps' : PE') (h : g0 ds ps = some ps') : ds.length = 0 := by
  unfold g0 at h
  split at h
  · rfl
  · cases h
theorem gC_len {f : PyData → PE' → Option PE'} {r : List PyData → PE' → Option PE'} (hr : ∀ ds ps ps', r ds ps = some ps' → ds.length = n) (ds : List PyData) (ps ps' : PE') (h : gC f r ds ps = some ps') : ds.length = n + 1 := by
  unfold gC at h
  split at h
  · split at h
    · rw [List.length_cons, hr _ _ _ h]
    · cases h
  · cases h

/-! ### statements -/
def sNx : FS := fun ps => some (.nx, ps)
def sSeq (f g : FS) : FS := fun ps => match f ps with
  | some (.nx, ps1) => g ps1
  | r => r
def sBk : FS := fun ps => some (.bk, ps)
def sCt : FS := fun ps => some (.ct, ps)
def sIf (t : PE' → Option (Bool × PE')) (f g : FS) : FS := fun ps => match t ps with
  | some (true, ps1) => f ps1
  | some (false, ps1) => g ps1
  | none => none
def sRet (f : PE' → Option (PyData × PE')) : FS := fun ps => match f ps with
  | some (d, ps1) => some (.rt d, ps1)
  | none => none
def sRetN : FS := fun ps => some (.rt .none, ps)
def sDrop (f : PE' → Option (PyData × PE')) : FS := fun ps => match f ps with
  | some (_, ps1) => some (.nx, ps1)
  | none => none
def sSet (n i : Nat) (f : PE' → Option (PyData × PE')) : FS := fun ps => match f ps with
  | some (d, ps1) => if i < ps1.length then some (.nx, ps1.set i (some (.d n d))) else none
  | none => none
def sAsg (f : PE' → Option (PyData × PE')) (g : PyData → PE' → Option PE') : FS := fun ps => match f ps with
  | some (d, ps1) => match g d ps1 with
    | some ps2 => some (.nx, ps2)
    | none => none
  | none => none
def sFrz (i : Nat) (f : FS) : FS := fun ps => f (frz i ps)
def sPar (i j : Nat) (g : PE' → Option (List PyData × PE')) : FS := fun ps => match g ps with
  | some ([d, e], ps1) => if i < ps1.length ∧ j < ps1.length then some (.nx, (ps1.set i (some (.d 0 d))).set j (some (.d 0 e))) else none
  | _ => none
theorem zNil : PSs X [] (tS C pin sNx) := ⟨fun pins s σ H D I q => pss_nil.run pins s σ H D I (by
  obtain ⟨ps, As, B, S, fl, ps', e, q⟩ := q
  cases e
  exact q σ H As S .rfl fun _ _ => rfl)⟩
theorem tSeq_tS {f g : FS} : ∀ D σ H, tS C pin (sSeq f g) D σ H → tSeq (tS C pin f) (tS C pin g) D σ H := fun D σ H q => by
  obtain ⟨ps, As, B, S, fl, ps', e, q⟩ := q
  unfold sSeq at e
  split at e
  · rename_i ps1 h1
    exact ⟨ps, As, B, S, .nx, ps1, h1, fun σ1 H1 A1 S1 x1 p1 => ⟨ps1, A1, B, S1, fl, ps', e, fun σ2 H2 A2 S2 x2 p2 => q σ2 H2 A2 S2 (x1.trans x2) fun i hi => (p2 i hi).trans (p1 i hi)⟩⟩
  · rename_i r hr
    refine ⟨ps, As, B, S, fl, ps', e, fun σ1 H1 A1 S1 x1 p1 => ?_⟩
    have := q σ1 H1 A1 S1 x1 p1
    cases fl with
    | nx => exact absurd e (hr ps')
    | bk => exact this
    | ct => exact this
    | rt d => exact this
variable {st : Stmt} {rest : List Stmt} {f g : FS}
theorem zCons (h1 : PS X st (tS C pin f)) (h2 : PSs X rest (tS C pin g)) : PSs X (st :: rest) (tS C pin (sSeq f g)) := pss_weak (pss_cons h1 h2) tSeq_tS
theorem zOne (h1 : PS X st (tS C pin f)) : PSs X [st] (tS C pin f) := pss_one h1
theorem zPass : PS X (.Pass pos) (tS C pin sNx) := ps_weak ps_pass fun D σ H q => by
  obtain ⟨ps, As, B, S, fl, ps', e, q⟩ := q
  cases e
  exact q σ H As S .rfl fun _ _ => rfl
theorem zBk : PS X (.Break pos) (tS C pin sBk) := ps_weak ps_break fun D σ H q => by
  obtain ⟨ps, As, B, S, fl, ps', e, q⟩ := q
  cases e
  exact q σ H As S .rfl fun _ _ => rfl
theorem zCt : PS X (.Continue pos) (tS C pin sCt) := ps_weak ps_continue fun D σ H q => by
  obtain ⟨ps, As, B, S, fl, ps', e, q⟩ := q
  cases e
  exact q σ H As S .rfl fun _ _ => rfl
theorem zDoc {y j} : PS X (.Expr (.Constant (.str y) j pos) pos') (tS C pin sNx) := ps_weak ps_doc fun D σ H q => by
  obtain ⟨ps, As, B, S, fl, ps', e, q⟩ := q
  cases e
  exact q σ H As S .rfl fun _ _ => rfl
theorem zIf {t : PE' → Option (Bool × PE')} {p q : List Stmt} (hc : PT X c (tTX C t)) (ha : PSs X p (tS C pin f)) (hb : PSs X q (tS C pin g)) : PS X (.If c p q pos) (tS C pin (sIf t f g)) := ps_weak (ps_if hc ha hb) fun D σ H q => by
  obtain ⟨ps, As, B, S, fl, ps', e, q⟩ := q
  unfold sIf at e
  split at e
  · rename_i ps1 h1
    refine ⟨ps, As, B, S, true, ps1, h1, fun H1 A1 S1 x1 => ?_⟩
    dsimp only
    rw [if_pos rfl]
    exact ⟨ps1, A1, B, S1, fl, ps', e, fun σ2 H2 A2 S2 x2 p2 => q σ2 H2 A2 S2 (x1.trans x2) p2⟩
  · rename_i ps1 h1
    refine ⟨ps, As, B, S, false, ps1, h1, fun H1 A1 S1 x1 => ?_⟩
    dsimp only
    rw [if_neg Bool.false_ne_true]
    exact ⟨ps1, A1, B, S1, fl, ps', e, fun σ2 H2 A2 S2 x2 p2 => q σ2 H2 A2 S2 (x1.trans x2) p2⟩
  · cases e
theorem zRet {f : PE' → Option (PyData × PE')} (h : PE X a (tX C f)) : PS X (.Return (some a) pos) (tS C pin (sRet f)) := ps_weak (ps_ret h) fun D σ H q => by
  obtain ⟨ps, As, B, S, fl, ps', e, q⟩ := q
  unfold sRet at e
  split at e
  · rename_i d ps1 h1
    cases e
    exact ⟨ps, As, B, S, d, _, h1, fun v H1 A1 S1 x1 p1 => q σ H1 A1 S1 x1 (fun _ _ => rfl) v p1⟩
  · cases e
theorem zRetN : PS X (.Return none pos) (tS C pin sRetN) := ps_weak ps_retN fun D σ H q => by
  obtain ⟨ps, As, B, S, fl, ps', e, q⟩ := q
  cases e
  exact q σ H As S .rfl (fun _ _ => rfl) _ .non
theorem zDrop {f : PE' → Option (PyData × PE')} (h : PE X a (tX C f)) (hs : swapsWith a none pos.line X.env = pure false := by rfl) : PS X (.Expr a pos) (tS C pin (sDrop f)) := ps_weak (ps_expr h hs) fun D σ H q => by
  obtain ⟨ps, As, B, S, fl, ps', e, q⟩ := q
  unfold sDrop at e
  split at e
  · rename_i d ps1 h1
    cases e
    exact ⟨ps, As, B, S, d, _, h1, fun v H1 A1 S1 x1 p1 => q σ H1 A1 S1 x1 (fun _ _ => rfl)⟩
  · cases e
theorem zFrz (i : Nat) (h : PS X st (tS C pin f)) : PS X st (tS C pin (sFrz i f)) := ps_weak h fun D σ H q => by
  obtain ⟨ps, As, B, S, fl, ps', e, q⟩ := q
  obtain ⟨A1, S1, x1⟩ := S.frz i
  exact ⟨_, A1, B, S1, fl, ps', e, fun σ2 H2 A2 S2 x2 p2 => q σ2 H2 A2 S2 (x1.trans x2) p2⟩
/-- name = value, owned at level n -/
theorem tAsg_tS {f : PE' → Option (PyData × PE')} (hpin : pin i = false) : ∀ D σ H, tS C pin (sSet n i f) D σ H → tAsg (tW C n f) (gName i) D σ H := fun D σ H q => by
  obtain ⟨ps, As, B, S, fl, ps', e, q⟩ := q
  unfold sSet at e
  split at e
  · rename_i d ps1 h1
    split at e
    · rename_i hl
      cases e
      refine ⟨ps, As, B, S, d, ps1, h1, fun v H1 A1 F S1 x1 hF o1 => ?_⟩
      obtain ⟨Fi, hFi⟩ := S1.at hl
      have trkF : Trk H1 F := fun a ha => S1.trk a (by simp [ha])
      have ndF : F.Nodup := (List.nodup_append.mp (List.nodup_append.mp S1.nd).2.1).1
      obtain ⟨S2, x2⟩ := St.slotX (F := F) (sv := .d n d) (v := v) x1 hF S1 hFi (fun b o e _ _ => e) S1.tab (fun _ h => h) .rfl (fun a ha => .inr (.inr ha)) ndF trkF
        (.d (o1.sm (mask_less fun a ha => by
          rcases List.mem_append.mp ha with z | z
          · rcases (flat_split hFi F a).mp z with z | z
            · simp [z]
            · exact List.mem_append_left _ (flat_set_sub z)
          · simp [z]) fun _ _ => rfl))
      exact q _ H1 _ S2 x2 (pin_set hpin)
    · cases e
  · cases e
theorem zSet {f : PE' → Option (PyData × PE')} (hN : X.N.Nodup) (hi : X.N[i]? = some x) (hx : Loc X.env.scope x) (h : PE X a (tW C n f)) (hpin : pin i = false) (hs : swapsWith a (some (.Name x pos')) pos.line X.env = pure false := by rfl) (hf : X.fn x = true ∨ X.env.scope.names.lookup x = some .local := by first | exact .inl rfl | exact .inr rfl | assumption) :
    PS X (.Assign [.Name x pos'] a pos) (tS C pin (sSet n i f)) := ps_weak (ps_set hN hi hx h hs hf) (tAsg_tS hpin)
/-- target = a shared value -/
theorem tAsg_sAsg {f : PE' → Option (PyData × PE')} {gt : PyData → PE' → Option PE'} : ∀ D σ H, tS C pin (sAsg f gt) D σ H → tAsg (tX C f) (tG C pin gt) D σ H := fun D σ H q => by
  obtain ⟨ps, As, B, S, fl, ps', e, q⟩ := q
  unfold sAsg at e
  split at e
  · rename_i d ps1 h1
    split at e
    · rename_i ps2 h2
      cases e
      refine ⟨ps, As, B, S, d, ps1, h1, fun v H1 A1 S1 x1 p1 => ⟨ps1, A1, B, S1, d, _, p1, h2, fun σ2 S2 p2 => q σ2 H1 A1 S2 x1 p2⟩⟩
    · cases e
  · cases e
theorem zAsg {f : PE' → Option (PyData × PE')} {gt : PyData → PE' → Option PE'} (h : PE X a (tX C f)) (hg : PG X b (tG C pin gt)) (hs : swapsWithSole [b] a pos.line X.env = pure false := by rfl) (hw : swappedStores [b] a X.env = pure none := by rfl)
    (h1 : (assignEach [b] X.env).map (·.2) = [assign b X.env] := by rfl) : PS X (.Assign [b] a pos) (tS C pin (sAsg f gt)) := ps_weak (ps_asg h hg hs hw h1) tAsg_sAsg
theorem DnA.two {K : PySem.W.Frag} {M : Hp} {vs : List V} {d e : PyData} (h : DnA K M vs [d, e]) : ∃ v u, vs = [v, u] ∧ Dn K M v d ∧ Dn K M u e := by
  cases h with | cons h t => cases t with | cons h2 t => cases t; exact ⟨_, _, rfl, h, h2⟩
theorem zPar {j : Nat} {y : Str} {px py pt : Pos} {kt k2 pt2} {g : PE' → Option (List PyData × PE')} (hc : X.calm = true) (hN : X.N.Nodup) (hi : X.N[i]? = some x) (hj : X.N[j]? = some y) (hij : i ≠ j)
    (hx : X.env.scope.names.lookup x = some .local) (hy : X.env.scope.names.lookup y = some .local) (ha : PAx X C [a, b] g) (hpi : pin i = false) (hpj : pin j = false)
    (hw : swappedStores [.Tuple [.Name x px, .Name y py] kt pt] (.Tuple [a, b] k2 pt2) X.env = pure (some [x, y]))
    (hs : swapsWithSole [.Tuple [.Name x px, .Name y py] kt pt] (.Tuple [a, b] k2 pt2) pos.line X.env = pure false := by rfl) :
    PS X (.Assign [.Tuple [.Name x px, .Name y py] kt pt] (.Tuple [a, b] k2 pt2) pos) (tS C pin (sPar i j g)) := ps_weak (ps_par hc hN hi hj hij hx hy ha.pa hw hs) fun D σ H q => by
  obtain ⟨ps, As, B, S, fl, ps', e, q⟩ := q
  unfold sPar at e
  split at e
  · rename_i d d2 ps1 h1
    split at e
    · rename_i hl
      cases e
      refine ⟨ps, As, B, S, [d, d2], ps1, h1, fun vs H1 A1 S1 x1 p1 => ?_⟩
      obtain ⟨v, u, rfl, k1, k2⟩ := p1.two
      obtain ⟨S2, x2⟩ := S1.put0 .rfl hl.1 k1
      obtain ⟨S3, x3⟩ := S2.put0 .rfl (i := j) (by rw [List.length_set]; exact hl.2) (k2.sm x2.sm)
      exact ⟨v, u, rfl, q _ H1 _ S3 ((x1.trans x2).trans x3) fun i hi => (pin_set hpj i hi).trans (pin_set hpi i hi)⟩
    · cases e
  · cases e

/-! ### loops -/
def loopF (ft : PyData → PE' → Option PE') (fb : FS) : List PyData → FS
  | [], ps => some (.nx, ps)
  | d :: r, ps => match ft d ps with
    | some ps1 => match fb ps1 with
      | some (.nx, ps2) => loopF ft fb r ps2
      | some (.ct, ps2) => loopF ft fb r ps2
      | some (.bk, ps2) => some (.nx, ps2)
      | some (.rt z, ps2) => some (.rt z, ps2)
      | none => none
    | none => none
def sFor (gi : PE' → Option (List PyData × PE')) (ft : PyData → PE' → Option PE') (fb : FS) : FS := fun ps => match gi ps with
  | some (ds, ps1) => loopF ft fb ds ps1
  | none => none
theorem tFor_tS {gi : PE' → Option (List PyData × PE')} {ft : PyData → PE' → Option PE'} {fb : FS} : ∀ D σ H, tS C pin (sFor gi ft fb) D σ H → tFor (tIX C gi) (tG C pin ft) (tS C pin fb) D σ H := fun D σ0 H q => by
  obtain ⟨ps, As, B, S, fl, psE, e, q⟩ := q
  unfold sFor at e
  split at e
  · rename_i ds ps1 hds
    refine ⟨ps, As, B, S, ds, ps1, hds, fun J H1 A1 S1 x1 w => ?_⟩
    refine for_it w (fun i σ H => ∃ ps As, St C ps σ H As B ∧ Ext C H1 A1 B H As ∧ (∀ i, pin i = true → σ[i]? = σ0[i]?) ∧ loopF ft fb (ds.drop i) ps = some (fl, psE)) ⟨ps1, A1, S1, .rfl, fun _ _ => rfl, by simpa using e⟩ (fun i σ H _ ⟨ps, As, S, x, _⟩ => x.sm.trans mask_sub) (fun i v σ H H' hi hP hy => ?_) fun σ H hP => ?_
    · obtain ⟨ps, As, S, x, hp, e⟩ := hP
      have hdr : ds.drop i = ds[i] :: ds.drop (i + 1) := List.drop_eq_getElem_cons hi
      rw [hdr] at e
      have hdi : ds[i]? = some ds[i] := List.getElem?_eq_getElem hi
      obtain ⟨g, hy⟩ := hy
      have hv := hy _ hdi (As.flatten ++ B) S.trk x.sm
      unfold loopF at e
      split at e
      · rename_i ps2 h2
        have S' := S.gr g
        have x' := x.trans (S.gext g)
        refine ⟨ps, As, B, S', ds[i], ps2, hv, h2, fun σ2 S2 p2 => ?_⟩
        have xx := x'
        have pp : ∀ i, pin i = true → σ2[i]? = σ0[i]? := fun i hi => (p2 i hi).trans (hp i hi)
        split at e
        · rename_i ps3 h3
          exact ⟨ps2, As, B, S2, .nx, ps3, h3, fun σ3 H3 A3 S3 x3 p3 => ⟨ps3, A3, S3, xx.trans x3, fun i hi => (p3 i hi).trans (pp i hi), e⟩⟩
        · rename_i ps3 h3
          exact ⟨ps2, As, B, S2, .ct, ps3, h3, fun σ3 H3 A3 S3 x3 p3 => ⟨ps3, A3, S3, xx.trans x3, fun i hi => (p3 i hi).trans (pp i hi), e⟩⟩
        · rename_i ps3 h3
          cases e
          exact ⟨ps2, As, B, S2, .bk, _, h3, fun σ3 H3 A3 S3 x3 p3 => q σ3 H3 A3 S3 ((x1.trans xx).trans x3) fun i hi => (p3 i hi).trans (pp i hi)⟩
        · rename_i z ps3 h3
          cases e
          exact ⟨ps2, As, B, S2, .rt z, _, h3, fun σ3 H3 A3 S3 x3 p3 => q σ3 H3 A3 S3 ((x1.trans xx).trans x3) fun i hi => (p3 i hi).trans (pp i hi)⟩
        · cases e
      · cases e
    · obtain ⟨ps, As, S, x, hp, e⟩ := hP
      rw [List.drop_length] at e
      unfold loopF at e
      cases e
      exact q σ H As S (x1.trans x) hp
  · cases e
theorem zFor {iter tg : Expr} {body : List Stmt} {gi : PE' → Option (List PyData × PE')} {ft : PyData → PE' → Option PE'} {fb : FS} (hp : PassesOwn (model X.prog X.w) X.A X.env X.xe) (hc : X.calm = true) (hi : PI X tg iter (tIX C gi)) (hg : PG X tg (tG C pin ft)) (hb : PSs X body (tS C pin fb))
    (hs : ∀ x, foldedSetIterable iter X.env x = pure x := by intro _; rfl) : PS X (.For tg iter body [] pos) (tS C pin (sFor gi ft fb)) := ps_weak (ps_for hp hc hi hg hb hs) tFor_tS
def whF (t : PE' → Option (Bool × PE')) (fb : FS) : Nat → FS
  | 0, _ => none
  | n + 1, ps => match t ps with
    | some (true, ps1) => match fb ps1 with
      | some (.nx, ps2) => whF t fb n ps2
      | some (.ct, ps2) => whF t fb n ps2
      | some (.bk, ps2) => some (.nx, ps2)
      | some (.rt z, ps2) => some (.rt z, ps2)
      | none => none
    | some (false, ps1) => some (.nx, ps1)
    | none => none
theorem tWhile_tS {t : PE' → Option (Bool × PE')} {fb : FS} {k : Nat} : ∀ D σ H, tS C pin (whF t fb k) D σ H → tWhile (tTX C t) (tS C pin fb) D σ H := fun D σ0 H0 q => by
  obtain ⟨ps, As, B, S, fl, psE, e, q⟩ := q
  refine ⟨fun m σ H => ∃ ps A1, St C ps σ H A1 B ∧ Ext C H0 As B H A1 ∧ (∀ i, pin i = true → σ[i]? = σ0[i]?) ∧ whF t fb m ps = some (fl, psE), ⟨k, ps, As, S, .rfl, fun _ _ => rfl, e⟩, ?_⟩
  rintro m σ H ⟨ps, A1, S1, x1, p1, e⟩
  cases m with
  | zero => cases e
  | succ m =>
    unfold whF at e
    split at e
    · rename_i ps1 h1
      refine ⟨ps, A1, B, S1, true, ps1, h1, fun H2 A2 S2 x2 => ?_⟩
      dsimp only
      rw [if_pos rfl]
      refine ⟨fun σ H => ∃ ps A1, St C ps σ H A1 B ∧ Ext C H0 As B H A1 ∧ (∀ i, pin i = true → σ[i]? = σ0[i]?) ∧ whF t fb m ps = some (fl, psE), fun σ' H' h => ⟨m, Nat.lt_succ_self _, h⟩, ?_⟩
      have xx := x1.trans x2
      split at e
      · rename_i ps3 h3
        exact ⟨ps1, A2, B, S2, .nx, ps3, h3, fun σ3 H3 A3 S3 x3 p3 => ⟨ps3, A3, S3, xx.trans x3, fun i hi => (p3 i hi).trans (p1 i hi), e⟩⟩
      · rename_i ps3 h3
        exact ⟨ps1, A2, B, S2, .ct, ps3, h3, fun σ3 H3 A3 S3 x3 p3 => ⟨ps3, A3, S3, xx.trans x3, fun i hi => (p3 i hi).trans (p1 i hi), e⟩⟩
      · rename_i ps3 h3
        cases e
        exact ⟨ps1, A2, B, S2, .bk, _, h3, fun σ3 H3 A3 S3 x3 p3 => q σ3 H3 A3 S3 (xx.trans x3) fun i hi => (p3 i hi).trans (p1 i hi)⟩
      · rename_i z ps3 h3
        cases e
        exact ⟨ps1, A2, B, S2, .rt z, _, h3, fun σ3 H3 A3 S3 x3 p3 => q σ3 H3 A3 S3 (xx.trans x3) fun i hi => (p3 i hi).trans (p1 i hi)⟩
      · cases e
    · rename_i ps1 h1
      cases e
      refine ⟨ps, A1, B, S1, false, _, h1, fun H2 A2 S2 x2 => ?_⟩
      dsimp only
      rw [if_neg Bool.false_ne_true]
      exact q σ H2 A2 S2 (x1.trans x2) p1
    · cases e
theorem zWhile {body : List Stmt} {t : PE' → Option (Bool × PE')} {fb : FS} (k : Nat) (hp : PassesOwn (model X.prog X.w) X.A X.env X.xe) (hc : PT X c (tTX C t)) (hb : PSs X body (tS C pin fb)) : PS X (.While c body [] pos) (tS C pin (whF t fb k)) := ps_weak (ps_while hp hc hb) tWhile_tS
end
end Pv
set_option Elab.async false
set_option linter.all false
set_option maxRecDepth 100000
set_option maxHeartbeats 4000000
/-! Pv9: places in code: fields, append, pop, stores. -/
namespace Pv
open PySem PySem.Spec PyProof.Rows L2 GxR

abbrev Pth := Nat × Option Str × List Nat
def PlaceV (σ : L2.St) (H : Hp) (p : Pth) (v : V) : Prop := ∃ u, σ[p.1]? = some (some u) ∧ resP H u p.2.1 p.2.2 = some v
def tL (C : Cfg) (gp : PE' → Option Pth) : TE := fun σ H Q => ∃ ps As B, St C ps σ H As B ∧ ∃ p, gp ps = some p ∧ ∀ v H', Gr C H H' → PlaceV σ H' p v → Q v H'
theorem resV_cons {H : Hp} {v u : V} {j : Nat} {r : List Nat} : resV H v (j :: r) = some u ↔ ∃ a xs w, v = .ref a ∧ H a = some (.lst xs) ∧ xs[j]? = some w ∧ resV H w r = some u := by
  constructor
  · intro h
    cases v with
    | ref a =>
      rw [resV] at h
      split at h
      · rename_i xs hH
        split at h
        · rename_i w hw
          exact ⟨a, xs, w, rfl, hH, hw, h⟩
        · cases h
      · cases h
    | _ => rw [resV] at h; cases h; all_goals simp
  · rintro ⟨a, xs, w, rfl, h1, h2, h3⟩
    rw [resV]
    simp only [h1, h2]
    exact h3
theorem resV_sm {H H' : Hp} (s : Sm H H') : ∀ {js : List Nat} {v u : V}, resV H v js = some u → resV H' v js = some u
  | [], v, u, h => by unfold resV at h ⊢; exact h
  | j :: r, v, u, h => by
    obtain ⟨a, xs, w, rfl, h1, h2, h3⟩ := resV_cons.mp h
    exact resV_cons.mpr ⟨a, xs, w, rfl, s _ _ h1 (fun ps e => by cases e), h2, resV_sm s h3⟩
theorem resP_sm {H H' : Hp} (s : Sm H H') {fo : Option Str} {js : List Nat} {v u : V} (h : resP H v fo js = some u) : resP H' v fo js = some u := by
  cases fo with
  | none => exact resV_sm s h
  | some f =>
    unfold resP at h ⊢
    dsimp only at h ⊢
    split at h
    · split at h
      · rename_i _ _ gs hH
        rw [s _ _ hH (fun ps e => by cases e)]
        dsimp only
        split at h
        · exact resV_sm s h
        · cases h
      · cases h
    · cases h
theorem PlaceV.gr {C : Cfg} {σ : L2.St} {H H' : Hp} {p : Pth} {v : V} (h : PlaceV σ H p v) (g : Gr C H H') : PlaceV σ H' p v := by
  obtain ⟨u, h1, h2⟩ := h
  exact ⟨u, h1, resP_sm g.sm h2⟩
theorem resV_snoc {H : Hp} : ∀ {js : List Nat} {v : V} {a : Addr} {xs : List V} {j : Nat} {w : V}, resV H v js = some (.ref a) → H a = some (.lst xs) → xs[j]? = some w → resV H v (js ++ [j]) = some w
  | [], v, a, xs, j, w, h, h1, h2 => by
    unfold resV at h
    cases h
    exact resV_cons.mpr ⟨a, xs, w, rfl, h1, h2, by unfold resV; rfl⟩
  | i :: r, v, a, xs, j, w, h, h1, h2 => by
    obtain ⟨b, ys, u, rfl, k1, k2, k3⟩ := resV_cons.mp h
    exact resV_cons.mpr ⟨b, ys, u, rfl, k1, k2, resV_snoc k3 h1 h2⟩
theorem resP_snoc {H : Hp} {fo : Option Str} {js : List Nat} {v : V} {a : Addr} {xs : List V} {j : Nat} {w : V} (h : resP H v fo js = some (.ref a)) (h1 : H a = some (.lst xs)) (h2 : xs[j]? = some w) : resP H v fo (js ++ [j]) = some w := by
  cases fo with
  | none => exact resV_snoc h h1 h2
  | some f =>
    unfold resP at h ⊢
    dsimp only at h ⊢
    split at h
    · split at h
      · split at h
        · exact resV_snoc h h1 h2
        · cases h
      · cases h
    · cases h
theorem tab_upd2 {H : Hp} {a P : Addr} {u o : HO} (h : H a = some u) (hu : isOwn u = true) (t : TabG H P) : TabG (upd H a o) P := by
  obtain ⟨ps, e, r⟩ := t
  refine ⟨ps, ?_, r⟩
  rw [upd_ne]
  · exact e
  · intro z
    rw [z, h] at e
    cases e
    cases hu
theorem OwA.len {K : PySem.W.Frag} {M H : Hp} : ∀ {n : Nat} {vs : List V} {ds : List PyData} {F : List Addr}, OwA K M H n vs ds F → vs.length = ds.length
  | _, _, _, _, .nil => rfl
  | _, _, _, _, .cons _ h => by rw [List.length_cons, List.length_cons, OwA.len h]
section
variable {X : Cx} {C : Cfg} {pin : Nat → Bool} {a b c e o : Expr} {c' : Str} {pos : Pos} {n m i : Nat} {es : List Expr} {x : Str} {pos' : Pos}
def plN (i : Nat) : PE' → Option Pth := fun ps => match ps[i]? with
  | some (some _) => some (i, none, [])
  | _ => none
theorem lVar (hN : X.N[i]? = some x) (hv : Vis X.env.scope x) (hd : (x == ("__debug__" : Str)) = false := by kernel_rfl) (hcd : (x == ("__classdict__" : Str)) = false := by kernel_rfl) : PE X (.Name x pos) (tL C (plN i)) :=
  pe_weak (pe_var hN hv hd hcd) fun σ H Q q => by
    obtain ⟨ps, As, B, S, p, e, q⟩ := q
    unfold plN at e
    split at e
    · rename_i sv hp
      cases e
      obtain ⟨v, F, h1, h2, h3⟩ := S.sl.get hp
      exact ⟨v, h1, q v H .rfl ⟨v, h1, by unfold resP resV; rfl⟩⟩
    · cases e
/-- what a class of this program is known for -/
structure Kls (X : Cx) (C : Cfg) (c : Str) : Prop where
  cls : Cls X.K (C.cls c)
structure Att (K : PySem.W.Frag) (C : Cfg) (c f : Str) : Prop where
  cls : Cls K (C.cls c)
  no : NoAttr K (C.cls c) f
def plF (i : Nat) (c f : Str) : PE' → Option Pth := fun ps => match ps[i]? with
  | some (some (.o c' true fs)) => if c' = c then (match fs.lookup f with
    | some _ => some (i, some f, [])
    | none => none) else none
  | _ => none
theorem lFld {f : Str} (k : Att X.K C c' f) (hN : X.N[i]? = some x) (hv : Vis X.env.scope x) (hb : attributeBase (.Name x pos') f X.env (eval (.Name x pos') X.env) = eval (.Name x pos') X.env := by rfl) (hd : (x == ("__debug__" : Str)) = false := by kernel_rfl) (hcd : (x == ("__classdict__" : Str)) = false := by kernel_rfl) :
    PE X (.Attribute (.Name x pos') f pos) (tL C (plF i c' f)) := pe_weak (pe_fld (pe_var hN hv hd hcd) hb) fun σ H Q q => by
  obtain ⟨ps, As, B, S, p, e, q⟩ := q
  unfold plF at e
  split at e
  · rename_i c fs hp
    split at e
    · rename_i hc
      subst hc
      split at e
      · rename_i kd hl
        cases e
        obtain ⟨v, F, h1, h2, h3⟩ := S.sl.get hp
        cases h3 with
        | om h hs =>
          obtain ⟨w, A, F', Bf, g1, _⟩ := hs.lens hl
          refine ⟨_, h1, _, _, _, _, w, rfl, h, k.cls, k.no, g1, q w H .rfl ⟨_, h1, ?_⟩⟩
          unfold resP
          simp only [h, g1]
          unfold resV
          rfl
      · cases e
    · cases e
  · cases e
def fFld (n i : Nat) (c f : Str) : PE' → Option PyData := fun ps => match ps[i]? with
  | some (some (.o c' _ fs)) => if c' = c then (match fs.lookup f with
    | some (k, x) => if k ≤ n then some x else none
    | none => none) else none
  | _ => none
theorem eFld {f : Str} (k : Att X.K C c' f) (hN : X.N[i]? = some x) (hv : Vis X.env.scope x) (hb : attributeBase (.Name x pos') f X.env (eval (.Name x pos') X.env) = eval (.Name x pos') X.env := by rfl) (hd : (x == ("__debug__" : Str)) = false := by kernel_rfl) (hcd : (x == ("__classdict__" : Str)) = false := by kernel_rfl) :
    PE X (.Attribute (.Name x pos') f pos) (tP C n (fFld n i c' f)) := pe_weak (pe_fld (pe_var hN hv hd hcd) hb) fun σ H Q q => by
  obtain ⟨ps, As, B, S, p, e, q⟩ := q
  unfold fFld at e
  split at e
  · rename_i c mm fs hp
    split at e
    · rename_i hc
      subst hc
      split at e
      · rename_i k0 d0 hl
        split at e
        · rename_i hk
          cases e
          obtain ⟨v, F, h1, h2, h3⟩ := S.sl.get hp
          cases h3 with
          | om h hs =>
            obtain ⟨w, A, F', Bf, g1, g2, g3, _⟩ := hs.lens hl
            exact ⟨_, h1, _, _, _, _, w, rfl, h, k.cls, k.no, g1, q w H .rfl (g3.pk.up hk)⟩
          | of h hs hz =>
            obtain ⟨w, A, F', Bf, g1, g2, g3, _⟩ := hs.lens hl
            refine ⟨_, h1, _, _, _, _, w, rfl, mask_sub _ _ h (fun ps e => by cases e), k.cls, k.no, g1, q w H .rfl ?_⟩
            have hF : F' = [] := by
              have := g2.symm
              simp at this
              exact this.2.1
            subst hF
            exact ((g3.sm (H' := H) .rfl fun _ z => nomatch z).pk.up hk)
        · cases e
      · cases e
    · cases e
  · cases e
def plIx (gp : PE' → Option Pth) (gb : PE' → Option PyData) : PE' → Option Pth := fun ps => match gp ps with
  | some p => match gb ps with
    | some (.int k) => match ps[p.1]? with
      | some (some sv) => match getP sv p.2.1 p.2.2 with
        | some (_ + 1, .list ds) => match ixN ds.length k with
          | some j => if j < ds.length then some (p.1, p.2.1, p.2.2 ++ [j]) else none
          | none => none
        | _ => none
      | _ => none
    | _ => none
  | none => none
theorem St.place {ps : PE'} {σ : L2.St} {H : Hp} {As : List (List Addr)} {B : List Addr} {sv : SV} {fo : Option Str} {js : List Nat} {k : Nat} {d : PyData} {v : V} (S : St C ps σ H As B) (hp : ps[i]? = some (some sv)) (hg : getP sv fo js = some (k, d)) (hv : PlaceV σ H (i, fo, js) v) :
    ∃ F', Ow C.K (msk H As B) H k v d F' := by
  obtain ⟨u, F, h1, h2, h3⟩ := S.sl.get hp
  obtain ⟨v', A, F', Bf, g1, g2, g3, _⟩ := h3.lens hg
  obtain ⟨u', k1, k2⟩ := hv
  rw [h1] at k1
  cases k1
  rw [g1] at k2
  cases k2
  exact ⟨F', g3⟩
theorem lIx {gp : PE' → Option Pth} {gb : PE' → Option PyData} (hK : X.K = C.K) (ha : PE X a (tL C gp)) (hb : PE X b (tP C 1 gb)) (hs : PlainIx b := by exact fun _ _ => rfl) : PE X (.Subscript a b pos) (tL C (plIx gp gb)) := pe_weak (pe_ix ix_list ha hb hs) fun σ H Q q => by
  obtain ⟨ps, As, B, S, p, e, q⟩ := q
  unfold plIx at e
  split at e
  · rename_i p0 hp0
    split at e
    · rename_i k hk
      split at e
      · rename_i sv hsv
        split at e
        · rename_i kk ds hg
          split at e
          · rename_i j hj
            split at e
            · rename_i hlt
              cases e
              refine ⟨ps, As, B, S, p0, hp0, fun v H1 g1 pl => ⟨ps, As, B, S.gr g1, _, hk, fun y H2 g2 p2 => ?_⟩⟩
              have S2 := (S.gr g1).gr g2
              have pl2 := pl.gr g2
              obtain ⟨F', o⟩ := S2.place hsv hg pl2
              cases o with
              | ow h hs =>
                rename_i a0 xs F0
                obtain ⟨w, _, _, _, hw, _⟩ := hs.get (List.getElem?_eq_getElem hlt)
                have hl : xs.length = ds.length := hs.len
                refine ⟨a0, xs, k, w, rfl, p2.int, SqL.of h, ?_, q w H2 (g1.trans g2) ?_⟩
                · unfold atI
                  rw [hl, hj]
                  exact hw
                · obtain ⟨u, k1, k2⟩ := pl2
                  exact ⟨u, k1, resP_snoc k2 h hw⟩
            · cases e
          · cases e
        · cases e
      · cases e
    · cases e
  · cases e

end
end Pv
set_option Elab.async false
set_option linter.all false
set_option maxRecDepth 100000
set_option maxHeartbeats 4000000
/-! Pv10: append, pop, stores. -/
namespace Pv
open PySem PySem.Spec PyProof.Rows L2 GxR

theorem St.listUpd {C : Cfg} {ps : PE'} {σ : L2.St} {H0 H : Hp} {As0 As : List (List Addr)} {B G : List Addr} {i n : Nat} {sv : SV} {fo : Option Str} {js : List Nat} {ds : List PyData} {v : V} (x0 : Ext C H0 As0 B H As) (hG : ∀ a ∈ G, H0 a = none) (S : St C ps σ H As (G ++ B))
    (hp : ps[i]? = some (some sv)) (hg : getP sv fo js = some (n + 1, .list ds)) (pl : PlaceV σ H (i, fo, js) v) : ∃ a xs Fx, v = .ref a ∧ H a = some (.lst xs) ∧ OwA C.K (msk H As (G ++ B)) H n xs ds Fx ∧ Fx.Nodup ∧ (∀ b ∈ Fx, b ∉ G) ∧
    ∀ xs' ds' Fx', (∀ b ∈ Fx', b ∈ Fx ∨ b ∈ G) → Fx'.Nodup → OwA C.K (msk H As (G ++ B)) H n xs' ds' Fx' → ∃ As', St C (ps.set i (some (putP sv fo js (.list ds')))) σ (upd H a (.lst xs')) As' B ∧ Ext C H0 As0 B (upd H a (.lst xs')) As' ∧ Sm (msk H As (G ++ B)) (msk (upd H a (.lst xs')) As' B) := by
  obtain ⟨u, v', F', h1, h2, h3, h4, h5, h6⟩ := S.lens x0 hG hp hg
  obtain ⟨u', k1, k2⟩ := pl
  dsimp only at k1 k2
  rw [h1] at k1
  cases k1
  rw [h2] at k2
  cases k2
  cases h3 with
  | ow h hs =>
    rename_i a xs Fx
    have dG : ∀ b ∈ a :: Fx, b ∉ G := fun b hb hg => (List.nodup_append.mp S.nd).2.2 b (h4 b hb) b (List.mem_append_left _ hg) rfl
    rw [List.nodup_cons] at h5
    refine ⟨a, xs, Fx, rfl, h, hs, h5.2, fun b hb => dG b (List.mem_cons_of_mem _ hb), fun xs' ds' Fx' hF hn o => ?_⟩
    have ha : ∀ b ∈ Fx', b ≠ a := fun b hb e => by
      rcases hF b hb with z | z
      · exact h5.1 (e ▸ z)
      · exact dG a List.mem_cons_self (e ▸ z)
    refine h6 _ (.list ds') (a :: Fx') (fun b o e hb _ => ?_) (fun P hP => tab_upd2 h rfl (S.tab P hP)) upd_th (.upd h) (fun b hb => ?_) (List.nodup_cons.mpr ⟨fun z => ha a z rfl, hn⟩) (fun b hb => ?_) fun M2 s => .ow upd_same (o.sm s fun b hb => upd_ne (ha b hb))
    · rw [upd_ne (fun z => hb (by rw [z]; exact List.mem_cons_self))]
      exact e
    · rcases List.mem_cons.mp hb with z | z
      · exact .inr (.inl (by rw [z]; exact List.mem_cons_self))
      · rcases hF b z with w | w
        · exact .inr (.inl (List.mem_cons_of_mem _ w))
        · exact .inr (.inr w)
    · rcases List.mem_cons.mp hb with z | z
      · rw [z]; exact ⟨_, upd_same, rfl⟩
      · have : b ∈ As.flatten ++ (G ++ B) := by
          rcases hF b z with w | w
          · exact List.mem_append_left _ (h4 b (List.mem_cons_of_mem _ w))
          · simp [w]
        obtain ⟨x, q, hx⟩ := S.trk b this
        exact ⟨x, by rw [upd_ne (ha b z)]; exact q, hx⟩
/-- the list at a place by g -/
def modP {α : Type} (n : Nat) (p : Pth) (g : List PyData → Option (List PyData × α)) (ps : PE') : Option (PE' × α) := match ps[p.1]? with
  | some (some sv) => match getP sv p.2.1 p.2.2 with
    | some (k + 1, .list ds) => if k = n then (match g ds with
      | some (ds', z) => some (ps.set p.1 (some (putP sv p.2.1 p.2.2 (.list ds'))), z)
      | none => none) else none
    | _ => none
  | _ => none
theorem modP_some {α : Type} {n : Nat} {p : Pth} {g : List PyData → Option (List PyData × α)} {ps ps' : PE'} {z : α} (h : modP n p g ps = some (ps', z)) :
    ∃ sv ds ds', ps[p.1]? = some (some sv) ∧ getP sv p.2.1 p.2.2 = some (n + 1, .list ds) ∧ g ds = some (ds', z) ∧ ps' = ps.set p.1 (some (putP sv p.2.1 p.2.2 (.list ds'))) := by
  unfold modP at h
  split at h
  · rename_i sv hp
    split at h
    · rename_i k ds hg
      split at h
      · rename_i hk
        subst hk
        split at h
        · rename_i ds' z' hz
          cases h
          exact ⟨sv, ds, ds', hp, hg, hz, rfl⟩
        · cases h
      · cases h
    · cases h
  · cases h
theorem OwA.snoc {K : PySem.W.Frag} {M H : Hp} {n : Nat} : ∀ {vs : List V} {ds : List PyData} {F : List Addr} {v : V} {d : PyData} {G : List Addr}, OwA K M H n vs ds F → Ow K M H n v d G → OwA K M H n (vs ++ [v]) (ds ++ [d]) (F ++ G)
  | _, _, _, _, _, G, .nil, h => by
    have := OwA.cons h (.nil (K := K) (M := M) (H := H) (n := n))
    simpa using this
  | _, _, _, _, _, G, .cons (F := F) h0 hs, h => by
    have := OwA.cons h0 (OwA.snoc hs h)
    simpa using this
section
variable {X : Cx} {C : Cfg} {pin : Nat → Bool} {a b c e o : Expr} {pos apos cpos tpos : Pos} {n m i : Nat} {es : List Expr} {x : Str} {pos' : Pos}
def appG (d : PyData) (ds : List PyData) : Option (List PyData × Unit) := if ds.length < LIM then some (ds ++ [d], ()) else none
def xAppF (n : Nat) (gp : PE' → Option Pth) (f : PE' → Option (PyData × PE')) : PE' → Option (PyData × PE') := fun ps => match gp ps with
  | some p => match f ps with
    | some (d, ps1) => match modP n p (appG d) ps1 with
      | some (ps2, _) => some (.none, ps2)
      | none => none
    | none => none
  | none => none
theorem xAppF_some {gp : PE' → Option Pth} {f : PE' → Option (PyData × PE')} {ps ps' : PE'} {z : PyData} (h : xAppF n gp f ps = some (z, ps')) : ∃ p d ps1, gp ps = some p ∧ f ps = some (d, ps1) ∧ modP n p (appG d) ps1 = some (ps', ()) ∧ z = .none := by
  unfold xAppF at h
  split at h
  · rename_i p hp
    split at h
    · rename_i d ps1 h1
      split at h
      · rename_i ps2 u h2
        cases h
        exact ⟨p, d, ps1, hp, h1, h2, rfl⟩
      · cases h
    · cases h
  · cases h
/-- the step itself -/
theorem app_step {C : Cfg} {ps ps' : PE'} {σ : L2.St} {H0 H : Hp} {As0 As : List (List Addr)} {B F : List Addr} {p : Pth} {d : PyData} {v y : V} {Q : VK} (x0 : Ext C H0 As0 B H As) (hF : ∀ a ∈ F, H0 a = none) (S : St C ps σ H As (F ++ B)) (ho : Ow C.K (msk H As (F ++ B)) H n y d F)
    (pl : PlaceV σ H p v) (h : modP n p (appG d) ps = some (ps', ())) (q : ∀ v H' As', St C ps' σ H' As' B → Ext C H0 As0 B H' As' → Dn C.K (msk H' As' B) v .none → Q v H') : rAppend v [y] H Q := by
  obtain ⟨sv, ds, ds', h1, h2, h3, rfl⟩ := modP_some h
  unfold appG at h3
  split at h3
  · rename_i hl
    cases h3
    obtain ⟨p1, p2, p3⟩ := p
    obtain ⟨a, xs, Fx, rfl, k1, k2, k3, k4, k5⟩ := S.listUpd x0 hF h1 h2 pl
    have ndF : F.Nodup := (List.nodup_append.mp (List.nodup_append.mp S.nd).2.1).1
    obtain ⟨A', S', x', _⟩ := k5 (xs ++ [y]) (ds ++ [d]) (Fx ++ F) (fun b hb => List.mem_append.mp hb) (List.nodup_append.mpr ⟨k3, ndF, fun a ha b hb e => k4 a ha (e ▸ hb)⟩) (k2.snoc ho)
    exact ⟨a, xs, y, rfl, rfl, k1, by rw [k2.len, ← lim_eq]; exact hl, q _ _ A' S' x' .non⟩
  · cases h3
theorem xApp {gp : PE' → Option Pth} {g : PE' → Option PyData} (hK : X.K = C.K) (ho : PE X o (tL C gp)) (ha : PE X a (tP C 0 g)) (hbase : attributeBase o "append" X.env (eval o X.env) = eval o X.env := by rfl)
    (hfew : ((backTo cpos (starEach [a] X.env)).all (fun x => !x.1) && (backToKw cpos (keywordEach [] X.env)).all (fun x => x.1.isSome)
      && decide ([a].length + ([] : List Keyword).length + (if ([] : List Keyword).isEmpty then 0 else 1) < 30)) = true := by rfl)
    (hline : (apos.endLine == cpos.line) = true := by rfl) (hs : starEach [a] X.env = (false, eval a X.env) :: starEach [] X.env := by rfl) (hplain : (backTo cpos (starEach [] X.env)).any (·.1) = false := by rfl) :
    PE X (.Call (.Attribute o "append" apos) [a] [] cpos) (tX C (xAppF 0 gp (fX g))) :=
  pe_weak (pe_bm PySem.F.plainAttrs_list PySem.F.slot_list_append PySem.F.type_list_append mt_append ho (pa_cons ha pa_nil hs) hbase hfew hline hs hplain) fun σ H Q q => by
    obtain ⟨ps, As, B, S, z, ps', e, q⟩ := q
    obtain ⟨p, d, ps1, h1, h2, h3, rfl⟩ := xAppF_some e
    obtain ⟨h2, rfl⟩ := fX_some h2
    refine ⟨ps1, As, B, S, p, h1, fun v H1 g1 pl => ?_⟩
    have S1 := S.gr g1
    obtain ⟨sv, ds, ds', m1, m2, m3, _⟩ := modP_some h3
    obtain ⟨F', o⟩ := S1.place m1 m2 pl
    cases o with
    | ow hh hs =>
      refine ⟨.inl ⟨rfl, _, SqL.of hh⟩, ps1, As, B, S1, d, h2, fun y H2 g2 p2 => ?_⟩
      exact app_step (F := []) ((S.gext g1).trans (S1.gext g2)) (fun _ h => nomatch h) (S1.gr g2) (.sh p2.zero) (pl.gr g2) h3 q
def xAppN (n i : Nat) (f : PE' → Option (PyData × PE')) : PE' → Option (PyData × PE') := fun ps => match ps[i]? with
  | some (some (.d (_ + 1) (.list _))) => xAppF n (plN i) f ps
  | _ => none
/-- .. of what has effects or is owned, to a name's list -/
theorem xAppW {f : PE' → Option (PyData × PE')} (hK : X.K = C.K) (hN : X.N[i]? = some x) (hv : Vis X.env.scope x) (ha : PE X a (tW C n f)) (hd : (x == ("__debug__" : Str)) = false := by kernel_rfl) (hcd : (x == ("__classdict__" : Str)) = false := by kernel_rfl)
    (hbase : attributeBase (.Name x pos') "append" X.env (eval (.Name x pos') X.env) = eval (.Name x pos') X.env := by rfl)
    (hfew : ((backTo cpos (starEach [a] X.env)).all (fun x => !x.1) && (backToKw cpos (keywordEach [] X.env)).all (fun x => x.1.isSome)
      && decide ([a].length + ([] : List Keyword).length + (if ([] : List Keyword).isEmpty then 0 else 1) < 30)) = true := by rfl)
    (hline : (apos.endLine == cpos.line) = true := by rfl) (hs : starEach [a] X.env = (false, eval a X.env) :: starEach [] X.env := by rfl) (hplain : (backTo cpos (starEach [] X.env)).any (·.1) = false := by rfl) :
    PE X (.Call (.Attribute (.Name x pos') "append" apos) [a] [] cpos) (tX C (xAppN n i f)) :=
  pe_weak (pe_bm PySem.F.plainAttrs_list PySem.F.slot_list_append PySem.F.type_list_append mt_append (pe_var hN hv hd hcd) (pa_cons ha pa_nil hs) hbase hfew hline hs hplain) fun σ H Q q => by
    obtain ⟨ps, As, B, S, z, ps', e, q⟩ := q
    unfold xAppN at e
    split at e
    · rename_i kk dd hsl
      obtain ⟨p, d, ps1, h1, h2, h3, rfl⟩ := xAppF_some e
      obtain ⟨v, F, g1, g2, g3⟩ := S.sl.get hsl
      have hpp : p = (i, none, []) := by
        unfold plN at h1
        rw [hsl] at h1
        cases h1
        rfl
      subst hpp
      refine ⟨v, g1, ?_, ps, As, B, S, d, ps1, h2, fun y H2 A2 F2 S2 x2 hF2 o2 => ?_⟩
      · cases g3 with
        | d o => cases o with
          | ow hh hs => exact .inl ⟨rfl, _, SqL.of hh⟩
      · exact app_step x2 hF2 S2 o2 ⟨v, g1, by unfold resP resV; rfl⟩ h3 q
    · cases e
/-! pop -/
def popG (ds : List PyData) : Option (List PyData × PyData) := match ds[ds.length - 1]? with
  | some d => some (ds.dropLast, d)
  | none => none
def popAtG (k : Int) (ds : List PyData) : Option (List PyData × PyData) := if smI k then (match ixN ds.length k with
  | some j => match ds[j]? with
    | some d => some (ds.eraseIdx j, d)
    | none => none
  | none => none) else none
def xPopF (gp : PE' → Option Pth) : PE' → Option (PyData × PE') := fun ps => match gp ps with
  | some p => match modP 0 p popG ps with
    | some (ps2, d) => some (d, ps2)
    | none => none
  | none => none
def xPopAtF (gp : PE' → Option Pth) (g : PE' → Option PyData) : PE' → Option (PyData × PE') := fun ps => match gp ps with
  | some p => match g ps with
    | some (.int k) => match modP 0 p (popAtG k) ps with
      | some (ps2, d) => some (d, ps2)
      | none => none
    | _ => none
  | none => none
theorem upd_sm2 {H : Hp} {L : List Addr} {a : Addr} {o : HO} (h : a ∈ L) : mask (upd H a o) L = mask H L := mask_updIn h
theorem xPop {gp : PE' → Option Pth} (hK : X.K = C.K) (ho : PE X o (tL C gp)) (hbase : attributeBase o "pop" X.env (eval o X.env) = eval o X.env := by rfl) (hline : (apos.endLine == cpos.line) = true := by rfl) :
    PE X (.Call (.Attribute o "pop" apos) [] [] cpos) (tX C (xPopF gp)) :=
  pe_weak (pe_bm0 PySem.F.plainAttrs_list PySem.F.slot_list_pop PySem.F.type_list_pop mt_pop ho hbase hline) fun σ H Q q => by
    obtain ⟨ps, As, B, S, z, ps', e, q⟩ := q
    unfold xPopF at e
    split at e
    · rename_i p hp
      split at e
      · rename_i ps2 d h3
        cases e
        refine ⟨ps, As, B, S, p, hp, fun v H1 g1 pl => ?_⟩
        have S1 := S.gr g1
        obtain ⟨sv, ds, ds', h1, h2, h4, rfl⟩ := modP_some h3
        unfold popG at h4
        split at h4
        · rename_i d1 hd1
          cases h4
          obtain ⟨p1, p2, p3⟩ := p
          obtain ⟨a, xs, Fx, rfl, k1, k2, k3, k4, k5⟩ := St.listUpd (G := []) (S.gext g1) (fun _ h => nomatch h) S1 h1 h2 pl
          obtain ⟨rfl, k2'⟩ := k2.zeroF
          obtain ⟨A', S', x', sm'⟩ := k5 xs.dropLast ds.dropLast [] (fun _ h => nomatch h) .nil (.zero k2'.dropLast)
          obtain ⟨w, hw, hd⟩ := k2'.get hd1
          exact ⟨.inl ⟨rfl, _, SqL.of k1⟩, a, xs, w, rfl, rfl, k1, by rw [k2'.length]; exact hw, q w _ A' S' x' (hd.sm sm')⟩
        · cases h4
      · cases e
    · cases e
theorem xPopAt {gp : PE' → Option Pth} {g : PE' → Option PyData} (hK : X.K = C.K) (ho : PE X o (tL C gp)) (ha : PE X a (tP C 0 g)) (hbase : attributeBase o "pop" X.env (eval o X.env) = eval o X.env := by rfl)
    (hfew : ((backTo cpos (starEach [a] X.env)).all (fun x => !x.1) && (backToKw cpos (keywordEach [] X.env)).all (fun x => x.1.isSome)
      && decide ([a].length + ([] : List Keyword).length + (if ([] : List Keyword).isEmpty then 0 else 1) < 30)) = true := by rfl)
    (hline : (apos.endLine == cpos.line) = true := by rfl) (hs : starEach [a] X.env = (false, eval a X.env) :: starEach [] X.env := by rfl) (hplain : (backTo cpos (starEach [] X.env)).any (·.1) = false := by rfl) :
    PE X (.Call (.Attribute o "pop" apos) [a] [] cpos) (tX C (xPopAtF gp g)) :=
  pe_weak (pe_bm PySem.F.plainAttrs_list PySem.F.slot_list_pop PySem.F.type_list_pop mt_popAt ho (pa_cons ha pa_nil hs) hbase hfew hline hs hplain) fun σ H Q q => by
    obtain ⟨ps, As, B, S, z, ps', e, q⟩ := q
    unfold xPopAtF at e
    split at e
    · rename_i p hp
      split at e
      · rename_i k hk
        split at e
        · rename_i ps2 d h3
          cases e
          refine ⟨ps, As, B, S, p, hp, fun v H1 g1 pl => ?_⟩
          have S1 := S.gr g1
          obtain ⟨sv, ds, ds', h1, h2, h4, rfl⟩ := modP_some h3
          obtain ⟨p1, p2, p3⟩ := p
          obtain ⟨F', o⟩ := S1.place h1 h2 pl
          refine ⟨?_, ps, As, B, S1, _, hk, fun y H2 g2 py => ?_⟩
          · cases o with
            | ow hh hs => exact .inl ⟨rfl, _, SqL.of hh⟩
          unfold popAtG at h4
          split at h4
          · rename_i hsm
            split at h4
            · rename_i j hj
              split at h4
              · rename_i d1 hd1
                cases h4
                obtain ⟨a, xs, Fx, rfl, k1, k2, k3, k4, k5⟩ := St.listUpd (G := []) ((S.gext g1).trans (S1.gext g2)) (fun _ h => nomatch h) (S1.gr g2) h1 h2 (pl.gr g2)
                obtain ⟨rfl, k2'⟩ := k2.zeroF
                obtain ⟨A', S', x', sm'⟩ := k5 (xs.eraseIdx j) (ds.eraseIdx j) [] (fun _ h => nomatch h) .nil (.zero (k2'.eraseIdx j))
                obtain ⟨w, hw, hd⟩ := k2'.get hd1
                have h5 := smI_ok hsm
                have hj' := ixN_seq hj
                exact ⟨a, xs, k, j, w, rfl, by rw [py.int], k1, by omega, by omega, by rw [k2'.length]; exact hj'.1, hw, q w _ A' S' x' (hd.sm sm')⟩
              · cases h4
            · cases h4
          · cases h4
        · cases e
      · cases e
    · cases e
/-! stores -/
def setG (k : Int) (d : PyData) (ds : List PyData) : Option (List PyData × Unit) := match ixN ds.length k with
  | some j => if j < ds.length then some (ds.set j d, ()) else none
  | none => none
def sSub (n : Nat) (f : PE' → Option (PyData × PE')) (gp : PE' → Option Pth) (g : PE' → Option PyData) : FS := fun ps => match f ps with
  | some (d, ps1) => match gp ps1 with
    | some p => match g ps1 with
      | some (.int k) => match modP n p (setG k d) ps1 with
        | some (ps2, _) => some (.nx, ps2)
        | none => none
      | _ => none
    | none => none
  | none => none
theorem zSub {f : PE' → Option (PyData × PE')} {gp : PE' → Option Pth} {g : PE' → Option PyData} (hK : X.K = C.K) (hv : PE X e (tW C n f)) (ho : PE X o (tL C gp)) (ha : PE X a (tP C 1 g))
    (hsub : ∀ v, assign (.Subscript o a tpos) X.env v = (do
      let ov ← holding [v] (eval o X.env)
      let iv ← holding [v, ov] (eval a X.env)
      standAt tpos
      holding [v, ov, iv] (setItem ov iv v)
      release [v, ov, iv] []) := by intro _; rfl) (hs : swapsWithSole [.Subscript o a tpos] e pos.line X.env = pure false := by rfl) (hw : swappedStores [.Subscript o a tpos] e X.env = pure none := by rfl)
    (h1 : (assignEach [.Subscript o a tpos] X.env).map (·.2) = [assign (.Subscript o a tpos) X.env] := by rfl) : PS X (.Assign [.Subscript o a tpos] e pos) (tS C pin (sSub n f gp g)) :=
  ps_weak (ps_asg hv (pg_sub ho ha set_list hsub) hs hw h1) fun D σ H q => by
    obtain ⟨ps, As, B, S, fl, ps', e, q⟩ := q
    unfold sSub at e
    split at e
    · rename_i d ps1 hf
      split at e
      · rename_i p hp
        split at e
        · rename_i k hk
          split at e
          · rename_i ps2 u hm
            cases e
            refine ⟨ps, As, B, S, d, ps1, hf, fun v H1 A1 F S1 x1 hF o1 => ⟨ps1, A1, F ++ B, S1, p, hp, fun w H2 g2 pl => ⟨ps1, A1, F ++ B, S1.gr g2, _, hk, fun y H3 g3 py => ?_⟩⟩⟩
            have S3 := (S1.gr g2).gr g3
            obtain ⟨sv, ds, ds', h1, h2, h4, rfl⟩ := modP_some hm
            unfold setG at h4
            split at h4
            · rename_i j hj
              split at h4
              · rename_i hlt
                cases h4
                obtain ⟨p1, p2, p3⟩ := p
                have x3 := x1.trans ((S1.unB.gext g2).trans ((S1.gr g2).unB.gext g3))
                obtain ⟨a, xs, Fx, rfl, k1, k2, k3, k4, k5⟩ := S3.listUpd x3 hF h1 h2 (pl.gr g3)
                obtain ⟨v0, Aa, F', Bf, m1, rfl, m3, m4⟩ := k2.get (List.getElem?_eq_getElem hlt)
                have ndF : F.Nodup := (List.nodup_append.mp (List.nodup_append.mp S3.nd).2.1).1
                have o3 : Ow C.K (msk H3 A1 (F ++ B)) H3 n v d F := o1.sm ((mask_sm g2.sm).trans (mask_sm g3.sm)) fun a ha => (S1.gr g2).own g3.sm a (by simp [ha]) |>.trans (S1.own g2.sm a (by simp [ha]))
                have nd := List.nodup_append.mp k3
                have nd1 := List.nodup_append.mp nd.1
                obtain ⟨A', S', x', _⟩ := k5 (xs.set j v) (ds.set j d) (Aa ++ F ++ Bf) (fun b hb => by
                  rcases List.mem_append.mp hb with z | z
                  · rcases List.mem_append.mp z with z | z
                    · exact .inl (by simp [z])
                    · exact .inr z
                  · exact .inl (by simp [z])) (List.nodup_append.mpr ⟨List.nodup_append.mpr ⟨nd1.1, ndF, fun a ha b hb e => k4 a (by simp [ha]) (e ▸ hb)⟩, nd.2.1, fun a ha b hb e => by
                    rcases List.mem_append.mp ha with z | z
                    · exact nd.2.2 a (by simp [z]) b hb e
                    · exact k4 b (by simp [hb]) (e ▸ z)⟩) (m4 _ _ _ _ _ .rfl (fun _ _ => rfl) o3)
                exact ⟨a, xs, k, j, rfl, py.int, k1, by rw [k2.len]; exact hj, q σ _ A' S' x' fun _ _ => rfl⟩
              · cases h4
            · cases h4
          · cases e
        · cases e
      · cases e
    · cases e
end
end Pv
set_option Elab.async false
set_option linter.all false
set_option maxRecDepth 100000
set_option maxHeartbeats 4000000
/-! Pv11: list comprehensions. -/
namespace Pv
open PySem PySem.Spec PyProof.Rows L2 GxR

/-! ### slots one by one -/
def SlOk (C : Cfg) (M H : Hp) (p : Option SV) (s : Option V) (A : List Addr) : Prop := match p with
  | none => A = []
  | some sv => ∃ v, s = some v ∧ SvO C M H sv v A
section
variable {C : Cfg} {M H : Hp}
theorem Sl.ok : ∀ {ps : PE'} {σ : L2.St} {As : List (List Addr)} {i : Nat} {p : Option SV} {s : Option V} {A : List Addr}, Sl C M H ps σ As → ps[i]? = some p → σ[i]? = some s → As[i]? = some A → SlOk C M H p s A
  | _, _, _, _, _, _, _, .nil, h, _, _ => by simp at h
  | _, _, _, 0, _, _, _, .no _, h1, h2, h3 => by simp at h1 h3; subst h1 h3; rfl
  | _, _, _, 0, _, _, _, .so x _, h1, h2, h3 => by simp at h1 h2 h3; subst h1 h2 h3; exact ⟨_, rfl, x⟩
  | _, _, _, i + 1, _, _, _, .no hs, h1, h2, h3 => Sl.ok hs (by simpa using h1) (by simpa using h2) (by simpa using h3)
  | _, _, _, i + 1, _, _, _, .so _ hs, h1, h2, h3 => Sl.ok hs (by simpa using h1) (by simpa using h2) (by simpa using h3)
theorem Sl.ext : ∀ {ps : PE'} {σ : L2.St} {As : List (List Addr)}, ps.length = σ.length → As.length = σ.length → (∀ (i : Nat) (p : Option SV) (s : Option V) (A : List Addr), ps[i]? = some p → σ[i]? = some s → As[i]? = some A → SlOk C M H p s A) → Sl C M H ps σ As
  | [], [], [], _, _, _ => .nil
  | p :: ps, s :: σ, A :: As, h1, h2, h => by
    have hs : Sl C M H ps σ As := Sl.ext (by simpa using h1) (by simpa using h2) fun i p s A a b c => h (i + 1) p s A (by simpa using a) (by simpa using b) (by simpa using c)
    have h0 := h 0 p s A rfl rfl rfl
    cases p with
    | none => cases h0; exact .no hs
    | some sv => obtain ⟨v, rfl, x⟩ := h0; exact .so x hs
  | [], _ :: _, _, h1, _, _ => by simp at h1
  | _ :: _, [], _, h1, _, _ => by simp at h1
  | [], [], _ :: _, _, h2, _ => by simp at h2
  | _ :: _, _ :: _, [], _, h2, _ => by simp at h2
end
def wipeP : List Nat → PE' → PE'
  | [], ps => ps
  | v :: vs, ps => (wipeP vs ps).set v none
/-- the slots vs as they were in ps0 -/
def resto : List Nat → PE' → PE' → PE'
  | [], _, ps => ps
  | v :: vs, ps0, ps => (resto vs ps0 ps).set v (match ps0[v]? with
    | some p => p
    | none => none)
theorem wipe_at {σ : L2.St} {i : Nat} : ∀ {vs : List Nat}, i ∉ vs → (wipe σ vs)[i]? = σ[i]?
  | [], _ => rfl
  | v :: vs, h => by
    unfold wipe
    have h1 : v ≠ i := fun e => h (by rw [e]; exact List.mem_cons_self)
    rw [List.getElem?_set_ne h1]
    exact wipe_at fun z => h (List.mem_cons_of_mem _ z)
theorem wipe_in {σ : L2.St} {i : Nat} : ∀ {vs : List Nat}, i ∈ vs → i < σ.length → (wipe σ vs)[i]? = some none
  | v :: vs, h, hl => by
    unfold wipe
    by_cases e : v = i
    · subst e
      rw [List.getElem?_set_self (by rw [wipe_length]; exact hl)]
    · rw [List.getElem?_set_ne e]
      refine wipe_in ?_ hl
      rcases List.mem_cons.mp h with z | z
      · exact absurd z.symm e
      · exact z
theorem wipe_eq {a b : L2.St} {vs : List Nat} (hl : a.length = b.length) (h : ∀ i, i ∉ vs → a[i]? = b[i]?) : wipe a vs = wipe b vs := by
  apply List.ext_getElem?
  intro i
  by_cases hi : i ∈ vs
  · by_cases hlt : i < a.length
    · rw [wipe_in hi hlt, wipe_in hi (by omega)]
    · rw [List.getElem?_eq_none (by rw [wipe_length]; omega), List.getElem?_eq_none (by rw [wipe_length]; omega)]
  · rw [wipe_at hi, wipe_at hi, h i hi]
theorem wipe_wipe {a : L2.St} {vs : List Nat} : wipe (wipe a vs) vs = wipe a vs := wipe_eq (wipe_length _ _) fun _ h => wipe_at h
theorem wipeP_none {ps : PE'} {i : Nat} : ∀ {vs : List Nat}, i ∈ vs → i < ps.length → (wipeP vs ps)[i]? = some none
  | v :: vs, h, hl => by
    unfold wipeP
    have hlen : ∀ vs, (wipeP vs ps).length = ps.length := fun vs => by
      induction vs with
      | nil => rfl
      | cons v vs ih => unfold wipeP; rw [List.length_set]; exact ih
    by_cases e : v = i
    · subst e
      rw [List.getElem?_set_self (by rw [hlen]; exact hl)]
    · rw [List.getElem?_set_ne e]
      refine wipeP_none ?_ hl
      rcases List.mem_cons.mp h with z | z
      · exact absurd z.symm e
      · exact z
theorem resto_length (ps0 ps : PE') : ∀ vs, (resto vs ps0 ps).length = ps.length
  | [] => rfl
  | v :: vs => by unfold resto; rw [List.length_set]; exact resto_length ps0 ps vs
theorem resto_at {ps0 ps : PE'} {i : Nat} : ∀ {vs : List Nat}, i ∉ vs → (resto vs ps0 ps)[i]? = ps[i]?
  | [], _ => rfl
  | v :: vs, h => by
    unfold resto
    have h1 : v ≠ i := fun e => h (by rw [e]; exact List.mem_cons_self)
    rw [List.getElem?_set_ne h1]
    exact resto_at fun z => h (List.mem_cons_of_mem _ z)
theorem resto_in {ps0 ps : PE'} {i : Nat} (h0 : i < ps0.length) : ∀ {vs : List Nat}, i ∈ vs → i < ps.length → (resto vs ps0 ps)[i]? = ps0[i]?
  | v :: vs, h, hl => by
    unfold resto
    by_cases e : v = i
    · subst e
      rw [List.getElem?_set_self (by rw [resto_length]; exact hl), List.getElem?_eq_getElem h0]
    · rw [List.getElem?_set_ne e]
      refine resto_in h0 ?_ hl
      rcases List.mem_cons.mp h with z | z
      · exact absurd z.symm e
      · exact z
section
variable {C : Cfg} {ps ps0 psE : PE'} {σ : L2.St} {H H0 H' : Hp} {As As0 As' : List (List Addr)} {B G B' : List Addr} {vs : List Nat}
theorem St.wipe (S : St C ps σ H As B) (h : ∀ v ∈ vs, lowAt ps v = true) : St C (wipeP vs ps) (L2.wipe σ vs) H As B := by
  refine ⟨?_, S.nd, S.trk, S.tab⟩
  have sl := S.sl
  have hA : ∀ v ∈ vs, As[v]? = some [] := fun v hv => sl.low (h v hv)
  clear h
  induction vs with
  | nil => exact sl
  | cons v vs ih =>
    unfold wipeP L2.wipe
    have := (ih fun v hv => hA v (List.mem_cons_of_mem _ hv)).drop v none
    rw [set_self (hA v List.mem_cons_self)] at this
    exact this
theorem St.resto (S0 : St C ps0 σ H0 As0 B) (S : St C psE (L2.wipe σ vs) H As B') (hs : Sm (msk H0 As0 B) (msk H As B')) (h : ∀ v ∈ vs, lowAt ps0 v = true) (hE : ∀ v ∈ vs, psE[v]? = some none) : St C (Pv.resto vs ps0 psE) σ H As B' := by
  refine ⟨?_, S.nd, S.trk, S.tab⟩
  have l1 := S.sl.len
  have l0 := S0.sl.len
  rw [wipe_length] at l1
  refine Sl.ext (by rw [resto_length]; exact l1.1) l1.2 fun i p s A hp hsi hA => ?_
  have hlt : i < σ.length := (List.getElem?_eq_some_iff.mp hsi).1
  by_cases hi : i ∈ vs
  · rw [resto_in (by rw [l0.1]; exact hlt) hi (by rw [l1.1]; exact hlt)] at hp
    have hAn : A = [] := S.sl.ok (hE i hi) (wipe_in hi hlt) hA
    subst hAn
    have k := S0.sl.ok hp hsi (S0.sl.low (h i hi))
    cases p with
    | none => rfl
    | some sv =>
      obtain ⟨v, e, x⟩ := k
      exact ⟨v, e, x.sm hs fun _ z => nomatch z⟩
  · rw [resto_at hi] at hp
    exact S.sl.ok hp (by rw [wipe_at hi]; exact hsi) hA
theorem Ext.smG (x : Ext C H0 As0 B H As) (hG : ∀ a ∈ G, H0 a = none) : Sm (msk H0 As0 B) (msk H As (G ++ B)) := fun a o e n => by
  obtain ⟨h1, h2⟩ := mask_some e
  have h3 := x.sm a o e n
  obtain ⟨h4, h5⟩ := mask_some h3
  unfold msk
  rw [mask_out]
  · exact h5
  · intro z
    rcases List.mem_append.mp z with z | z
    · exact h4 (List.mem_append_left _ z)
    · rcases List.mem_append.mp z with z | z
      · rw [hG a z] at h2; cases h2
      · exact h4 (List.mem_append_right _ z)
theorem Ext.transG (x : Ext C H0 As0 B H As) (hG : ∀ a ∈ G, H0 a = none) (y : Ext C H As (G ++ B) H' As') : Ext C H0 As0 B H' As' := by
  refine ⟨((x.smG hG).trans y.sm).trans (mask_less fun b hb => ?_), fun a ha => ?_, fun b hb => (y.fr b (List.mem_append_right _ hb)).trans (x.fr b hb), fun a h => y.th a (x.th a h), x.fx.trans y.fx⟩
  · rcases List.mem_append.mp hb with z | z
    · exact List.mem_append_left _ z
    · exact List.mem_append_right _ (List.mem_append_right _ z)
  · rcases y.ow a ha with z | z
    · exact x.ow a z
    · by_cases e : H0 a = none
      · exact .inr e
      · exact absurd z (x.th a e)
theorem Ext.updFresh {p : Addr} {xs : List V} {o : HO} (x : Ext C H0 As0 B H As) (h : H0 p = none) (hl : H p = some (.lst xs)) (hB : p ∉ B) : Ext C H0 As0 B (upd H p o) As := by
  refine ⟨fun b u e n => ?_, x.ow, fun b hb => ?_, fun a e => upd_th a (x.th a e), x.fx.trans (.upd hl)⟩
  · obtain ⟨h1, h2⟩ := mask_some e
    have hb : b ≠ p := fun z => by rw [z, h] at h2; cases h2
    obtain ⟨h3, h4⟩ := mask_some (x.sm b u e n)
    unfold msk
    rw [mask_out h3, upd_ne hb]
    exact h4
  · rw [upd_ne fun e => hB (by rw [← e]; exact hb)]
    exact x.fr b hb
theorem St.permB (S : St C ps σ H As B) (p : B.Perm B') : St C ps σ H As B' := by
  have hm : ∀ a, a ∈ As.flatten ++ B' ↔ a ∈ As.flatten ++ B := fun a => ((List.Perm.append_left As.flatten p).mem_iff).symm
  have e : mask H (As.flatten ++ B') = mask H (As.flatten ++ B) := by
    funext a
    unfold mask
    by_cases h : a ∈ As.flatten ++ B
    · rw [if_pos h, if_pos ((hm a).mpr h)]
    · rw [if_neg h, if_neg fun z => h ((hm a).mp z)]
  exact ⟨by rw [e]; exact S.sl, (List.Perm.append_left As.flatten p).nodup_iff.mp S.nd, fun a ha => S.trk a ((hm a).mp ha), S.tab⟩
theorem msk_perm (p : B.Perm B') : msk H As B' = msk H As B := by
  have hm : ∀ a, a ∈ As.flatten ++ B' ↔ a ∈ As.flatten ++ B := fun a => ((List.Perm.append_left As.flatten p).mem_iff).symm
  funext a
  unfold msk mask
  by_cases h : a ∈ As.flatten ++ B
  · rw [if_pos h, if_pos ((hm a).mpr h)]
  · rw [if_neg h, if_neg fun z => h ((hm a).mp z)]
/-- a frame's thing is written -/
theorem St.updB {p : Addr} {o : HO} (S : St C ps σ H As B) (hp : p ∈ B) (ho : isOwn o = true) : St C ps σ (upd H p o) As B := by
  have hin : p ∈ As.flatten ++ B := List.mem_append_right _ hp
  have hne : ∀ a ∈ As.flatten, a ≠ p := fun a ha e => (List.nodup_append.mp S.nd).2.2 a ha p hp e
  obtain ⟨o', e, ho'⟩ := S.trk p hin
  refine ⟨?_, S.nd, fun a ha => ?_, fun P hP => tab_upd2 e ho' (S.tab P hP)⟩
  · rw [mask_updIn hin]
    exact S.sl.sm .rfl fun a ha => upd_ne (hne a ha)
  · by_cases e : a = p
    · subst e; exact ⟨o, upd_same, ho⟩
    · obtain ⟨x, q, hx⟩ := S.trk a ha
      exact ⟨x, by rw [upd_ne e]; exact q, hx⟩
/-! ### with effects -/
def compX (vs : List Nat) (ft : PyData → PE' → Option PE') (tt : PE' → Option (Bool × PE')) (fe : PE' → Option (PyData × PE')) : List PyData → PE' → Option (List PyData × PE')
  | [], ps => some ([], ps)
  | d :: r, ps => match ft d ps with
    | some ps1 => match tt ps1 with
      | some (true, ps2) => match fe ps2 with
        | some (z, ps3) => if vs.all (lowAt ps3) then (match compX vs ft tt fe r (wipeP vs ps3) with
          | some (zs, ps4) => some (z :: zs, ps4)
          | none => none) else none
        | none => none
      | some (false, ps2) => if vs.all (lowAt ps2) then compX vs ft tt fe r (wipeP vs ps2) else none
      | none => none
    | none => none
def lcX (vs : List Nat) (gi : PE' → Option (List PyData × PE')) (ft : PyData → PE' → Option PE') (tt : PE' → Option (Bool × PE')) (fe : PE' → Option (PyData × PE')) : PE' → Option (List PyData × PE') := fun ps => match gi ps with
  | some (ds, ps1) => if vs.all (lowAt ps1) && decide (ds.length ≤ LIM) then (match compX vs ft tt fe ds (wipeP vs ps1) with
    | some (zs, ps2) => if vs.all (fun v => match ps2[v]? with
      | some none => true
      | _ => false) then some (zs, resto vs ps1 ps2) else none
    | none => none) else none
  | none => none
def offV (vs : List Nat) : Nat → Bool := fun i => !vs.contains i
theorem offV_pin {vs : List Nat} {σ σ2 : L2.St} (hl : σ2.length = σ.length) (h : ∀ i, offV vs i = true → σ2[i]? = (L2.wipe σ vs)[i]?) : L2.wipe σ2 vs = L2.wipe σ vs := by
  refine wipe_eq hl fun i hi => ?_
  rw [h i (by unfold offV; simp [hi]), wipe_at hi]
section
variable {X : Cx} {C : Cfg} {a b c e o : Expr} {pos : Pos} {n m i : Nat} {vs : List Nat} {gi : PE' → Option (List PyData × PE')} {ft : PyData → PE' → Option PE'} {tt : PE' → Option (Bool × PE')} {fe : PE' → Option (PyData × PE')}
theorem tLc_tW : ∀ σ H_0 Q, tW C (n + 1) (fMapX .list (lcX vs gi ft tt fe)) σ H_0 Q → tLc (tIX C gi) (tG C (offV vs) ft) (tTX C tt) (tW C n fe) vs σ H_0 Q := fun σ H_0 Q q => by
  obtain ⟨ps, As, B, S, z, ps', e, q⟩ := q
  unfold fMapX lcX at e
  split at e
  · rename_i zsT psZ he
    cases e
    split at he
    · rename_i ds ps1 hds
      split at he
      · rename_i hlow
        rw [Bool.and_eq_true, decide_eq_true_eq, List.all_eq_true] at hlow
        obtain ⟨hlow, hlim⟩ := hlow
        split at he
        · rename_i zsU psE hc
          split at he
          · rename_i hfin
            cases he
            rw [List.all_eq_true] at hfin
            refine ⟨ps, As, B, S, ds, ps1, hds, fun J H1 A1 S1 x1 w => fun D hD => ?_⟩
            have hL : ∀ v ∈ vs, lowAt ps1 v = true := hlow
            have S1w := S1.wipe hL
            obtain ⟨S2, x2⟩ := S1w.grow (o := .lst []) hD rfl
            refine lc_it w (fun i H => ∃ ps As Fs acc zs0 zs1, St C ps (L2.wipe σ vs) H As (Fs ++ ([D] ++ B)) ∧ Ext C H1 A1 B H As ∧ (∀ a ∈ Fs ++ [D], H1 a = none) ∧ H D = some (.lst acc) ∧ OwA C.K (msk H As (Fs ++ ([D] ++ B))) H n acc zs0 Fs ∧ compX vs ft tt fe (ds.drop i) ps = some (zs1, psE) ∧ zs0 ++ zs1 = zsT ∧ zs0.length ≤ i)
              ⟨_, A1, [], [], [], zsT, S2, x2, fun a ha => by simp at ha; rw [ha]; exact hD, upd_same, .nil, by simpa using hc, rfl, Nat.le_refl _⟩ (fun i H hi hP => ?_) (fun i v H H' hi hP hy => ?_) fun H hP => ?_
            · obtain ⟨ps, As, Fs, acc, zs0, zs1, S, x, hF, hDl, o, e, hz, hn⟩ := hP
              exact x.sm.trans mask_sub
            · obtain ⟨ps, As, Fs, acc, zs0, zs1, S, x, hF, hDl, o, e, hz, hn⟩ := hP
              have hdr : ds.drop i = ds[i] :: ds.drop (i + 1) := List.drop_eq_getElem_cons hi
              rw [hdr] at e
              have hdi : ds[i]? = some ds[i] := List.getElem?_eq_getElem hi
              obtain ⟨g, hy⟩ := hy
              have eB : Fs ++ ([D] ++ B) = (Fs ++ [D]) ++ B := (List.append_assoc ..).symm
              have smx : Sm (msk H1 A1 B) (msk H As (Fs ++ ([D] ++ B))) := by rw [eB]; exact x.smG hF
              have hv := hy _ hdi _ S.trk smx
              have S' := S.gr g
              have x' : Ext C H1 A1 B H' As := x.transG hF (by rw [← eB]; exact S.gext g)
              have o' : OwA C.K (msk H' As (Fs ++ ([D] ++ B))) H' n acc zs0 Fs := o.sm (mask_sm g.sm) fun a ha => S.own g.sm a (by simp [ha])
              have hDl' : H' D = some (.lst acc) := g.sm D _ hDl fun ps e => by cases e
              unfold compX at e
              split at e
              · rename_i ps2 h2
                refine ⟨ps, As, _, S', ds[i], ps2, hv, h2, fun σ2 S3 p2 => ⟨offV_pin ?_ p2, ?_⟩⟩
                · rw [← S3.sl.len.2, S'.sl.len.2, wipe_length]
                have hw2 : L2.wipe σ2 vs = L2.wipe σ vs := offV_pin (by rw [← S3.sl.len.2, S'.sl.len.2, wipe_length]) p2
                split at e
                · rename_i ps3 h3
                  refine ⟨ps2, As, _, S3, true, ps3, h3, fun H3 A3 S4 x4 => ?_⟩
                  dsimp only
                  rw [if_pos rfl]
                  split at e
                  · rename_i z ps4 h4
                    split at e
                    · rename_i hlo
                      split at e
                      · rename_i zs2 ps5 h5
                        cases e
                        rw [List.all_eq_true] at hlo
                        refine ⟨ps3, A3, _, S4, z, ps4, h4, fun v H4 A4 F S5 x5 hF5 o5 => ?_⟩
                        have hDB : D ∈ Fs ++ ([D] ++ B) := by simp
                        have d4 : H4 D = some (.lst acc) := by rw [x5.fr D hDB, x4.fr D hDB, hDl']
                        have S6 : St C (wipeP vs ps4) (L2.wipe σ vs) H4 A4 (F ++ (Fs ++ ([D] ++ B))) := by
                          have := S5.wipe hlo
                          rwa [hw2] at this
                        have pB : (F ++ (Fs ++ ([D] ++ B))).Perm ((Fs ++ F) ++ ([D] ++ B)) := by
                          rw [← List.append_assoc]
                          exact List.Perm.append_right _ List.perm_append_comm
                        have S7 := (S6.permB pB).updB (p := D) (o := .lst (acc ++ [v])) (by simp) rfl
                        have x45 : Ext C H' As (Fs ++ ([D] ++ B)) H4 A4 := x4.trans x5
                        have nFs : ∀ a ∈ Fs ++ F, a ≠ D := fun a ha e => by
                          have nd := (List.nodup_append.mp (S6.permB pB).nd).2.1
                          exact (List.nodup_append.mp nd).2.2 a ha D (by simp) e
                        have emk : msk (upd H4 D (.lst (acc ++ [v]))) A4 ((Fs ++ F) ++ ([D] ++ B)) = msk H4 A4 (F ++ (Fs ++ ([D] ++ B))) := by
                          rw [← msk_perm pB]
                          exact mask_updIn (by simp)
                        have hF4 : ∀ a ∈ F, H1 a = none := fun a ha => by
                          by_cases e : H1 a = none
                          · exact e
                          · exact absurd (hF5 a ha) (x4.th a (x'.th a e))
                        have nB : D ∉ B := fun hb => by
                          have nd := (List.nodup_append.mp (List.nodup_append.mp (S6.permB pB).nd).2.1).2.1
                          exact (List.nodup_append.mp nd).2.2 D (by simp) D hb rfl
                        have x14 : Ext C H1 A1 B H4 A4 := x'.transG hF (by rw [← eB]; exact x45)
                        have xD : Ext C H1 A1 B (upd H4 D (.lst (acc ++ [v]))) A4 := x14.updFresh hD d4 nB
                        have o45 : OwA C.K (msk H4 A4 (F ++ (Fs ++ ([D] ++ B)))) H4 n acc zs0 Fs := o'.sm (x4.sm.trans (x5.smG hF5)) fun a ha => (x5.fr a (by simp [ha])).trans (x4.fr a (by simp [ha]))
                        refine ⟨acc, d4, by rw [o.len, ← lim_eq]; omega, _, A4, Fs ++ F, acc ++ [v], zs0 ++ [z], zs2, S7, xD, fun a ha => ?_, upd_same, ?_, h5, by rw [← hz]; simp, by rw [List.length_append]; simp; omega⟩
                        · rcases List.mem_append.mp ha with k | k
                          · rcases List.mem_append.mp k with k | k
                            · exact hF a (by simp [k])
                            · exact hF4 a k
                          · exact hF a (by simp [List.mem_singleton.mp k])
                        · rw [emk]
                          exact (o45.snoc o5).sm .rfl fun a ha => upd_ne (nFs a ha)
                      · cases e
                    · cases e
                  · cases e
                · rename_i ps3 h3
                  split at e
                  · rename_i hlo
                    rw [List.all_eq_true] at hlo
                    refine ⟨ps2, As, _, S3, false, ps3, h3, fun H3 A3 S4 x4 => ?_⟩
                    dsimp only
                    rw [if_neg Bool.false_ne_true]
                    have hDB : D ∈ Fs ++ ([D] ++ B) := by simp
                    have S6 := S4.wipe hlo
                    rw [hw2] at S6
                    refine ⟨_, A3, Fs, acc, zs0, zs1, S6, x'.transG hF (by rw [← eB]; exact x4), hF, by rw [x4.fr D hDB]; exact hDl', o'.sm x4.sm fun a ha => x4.fr a (by simp [ha]), e, hz, by omega⟩
                  · cases e
                · cases e
              · cases e
            · obtain ⟨ps, As, Fs, acc, zs0, zs1, S, x, hF, hDl, o, e, hz, hn⟩ := hP
              rw [List.drop_length] at e
              unfold compX at e
              cases e
              have eB : Fs ++ ([D] ++ B) = (Fs ++ [D]) ++ B := (List.append_assoc ..).symm
              have smx : Sm (msk H1 A1 B) (msk H As (Fs ++ ([D] ++ B))) := by rw [eB]; exact x.smG hF
              have pB : (Fs ++ ([D] ++ B)).Perm ((D :: Fs) ++ B) := by
                rw [eB]
                exact List.Perm.append_right B (List.perm_append_comm (l₁ := Fs) (l₂ := [D]))
              have S' := (S1.resto S smx hL fun v hv => by
                have := hfin v hv
                split at this
                · assumption
                · cases this).permB pB
              have hz' : zs0 = zsT := by rw [← hz]; simp
              subst hz'
              refine q _ H As (D :: Fs) S' (x1.trans x) (fun a ha => ?_) ?_
              · have h1 : H1 a = none := hF a (by
                  rcases List.mem_cons.mp ha with k | k
                  · simp [k]
                  · simp [k])
                by_cases e : H_0 a = none
                · exact e
                · exact absurd h1 (x1.th a e)
              · rw [msk_perm pB]
                exact .ow hDl o
          · cases he
        · cases he
      · cases he
    · cases he
  · cases e
end
end
end Pv
set_option Elab.async false
set_option linter.all false
set_option maxRecDepth 100000
set_option maxHeartbeats 4000000
/-! Pv12: the rules of list comprehensions. -/
namespace Pv
open PySem PySem.Spec PyProof.Rows L2 GxR

section
variable {X : Cx} {C : Cfg} {a b c e o : Expr} {pos : Pos} {n m i : Nat} {vs : List Nat} {gi : PE' → Option (List PyData × PE')} {ft : PyData → PE' → Option PE'} {tt : PE' → Option (Bool × PE')} {fe : PE' → Option (PyData × PE')}
theorem pts_weak {X : Cx} {e : List Expr} {t t' : TT} (h : PTs X e t) (w : ∀ σ H Q, t' σ H Q → t σ H Q) : PTs X e t' := ⟨fun pins s σ H Q I q => h.run pins s σ H Q I (w σ H Q q)⟩
def xYes : PE' → Option (Bool × PE') := fun ps => some (true, ps)
def fYes : PE' → Option Bool := fun _ => some true
theorem ifsX0 : PTs X [] (tTX C xYes) := pts_weak pts_nil fun σ H Q q => by
  obtain ⟨ps, As, B, S, z, ps', e, q⟩ := q
  cases e
  exact q H As S .rfl
theorem ifsX1 (h : PT X c (tTX C tt)) : PTs X [c] (tTX C tt) := pts_one h
theorem ifs0 : PTs X [] (tT C fYes) := pts_weak pts_nil fun σ H Q q => by
  obtain ⟨ps, As, B, S, z, e, q⟩ := q
  cases e
  exact q H .rfl
theorem ifs1 {t : PE' → Option Bool} (h : PT X c (tT C t)) : PTs X [c] (tT C t) := pts_one h
theorem wLc {elt tg iter : Expr} {ifs : List Expr} {scope : Scope} {own : List (Str × Nat)} (hc : X.calm = true) (hN : X.N.Nodup) (hi : PI X tg iter (tIX C gi)) (ok : BlkOk X.N X.env.scope scope own)
    (hg : ∀ (s : Shared) (H : Hp) (D : Addr) (cl : List (Str × Addr)) (fp : List Addr), PG (X.blk s H scope (compEnvC scope cl D X.env) fp) tg (tG C (offV (own.map (·.2))) ft)) (ht : ∀ (s : Shared) (H : Hp) (D : Addr) (cl : List (Str × Addr)) (fp : List Addr), PTs (X.blk s H scope (compEnvC scope cl D X.env) fp) ifs (tTX C tt))
    (he : ∀ (s : Shared) (H : Hp) (D : Addr) (cl : List (Str × Addr)) (fp : List Addr), PE (X.blk s H scope (compEnvC scope cl D X.env) fp) elt (tW C n fe)) (hs : ∀ x, foldedSetIterable iter X.env x = pure x := by intro _; rfl) :
    PE X (.ListComp elt [⟨tg, iter, ifs, 0⟩] scope pos) (tW C (n + 1) (fMapX .list (lcX (own.map (·.2)) gi ft tt fe))) := pe_weak (pe_lc hc hN hi ok hg ht he hs) tLc_tW
theorem zSetLc {pin : Nat → Bool} {i : Nat} {y : Str} {py : Pos} {elt tg iter : Expr} {ifs : List Expr} {scope : Scope} {own : List (Str × Nat)} {spos : Pos} (hc : X.calm = true) (hN : X.N.Nodup) (hy : X.N[i]? = some y) (hyl : X.env.scope.names.lookup y = some .local) (hpin : pin i = false)
    (hsw : swapsWith (.ListComp elt [⟨tg, iter, ifs, 0⟩] scope pos) (some (.Name y py)) spos.line X.env = pure true) (hi : PI X tg iter (tIX C gi)) (ok : BlkOk X.N X.env.scope scope own)
    (hg : ∀ (s : Shared) (H : Hp) (D : Addr) (cl : List (Str × Addr)) (fp : List Addr), PG (X.blk s H scope (compEnvC scope cl D X.env) fp) tg (tG C (offV (own.map (·.2))) ft)) (ht : ∀ (s : Shared) (H : Hp) (D : Addr) (cl : List (Str × Addr)) (fp : List Addr), PTs (X.blk s H scope (compEnvC scope cl D X.env) fp) ifs (tTX C tt))
    (he : ∀ (s : Shared) (H : Hp) (D : Addr) (cl : List (Str × Addr)) (fp : List Addr), PE (X.blk s H scope (compEnvC scope cl D X.env) fp) elt (tW C n fe)) (hs : ∀ x, foldedSetIterable iter X.env x = pure x := by intro _; rfl) :
    PS X (.Assign [.Name y py] (.ListComp elt [⟨tg, iter, ifs, 0⟩] scope pos) spos) (tS C pin (sSet (n + 1) i (fMapX .list (lcX (own.map (·.2)) gi ft tt fe)))) :=
  ps_weak (ps_setLc hc hN hy hyl hsw hi ok hg ht he hs) fun D σ H q => tLc_tW σ H _ (tAsg_tS hpin D σ H q)
end

/-! ### without effects -/
def compP (ft : PyData → PE' → Option PE') (tt : PE' → Option Bool) (fe : PE' → Option PyData) (ps : PE') : List PyData → Option (List PyData)
  | [] => some []
  | d :: r => match ft d ps with
    | some ps1 => match tt ps1 with
      | some true => match fe ps1 with
        | some z => match compP ft tt fe ps r with
          | some zs => some (z :: zs)
          | none => none
        | none => none
      | some false => compP ft tt fe ps r
      | none => none
    | none => none
def lcP (vs : List Nat) (gi : PE' → Option (List PyData)) (ft : PyData → PE' → Option PE') (tt : PE' → Option Bool) (fe : PE' → Option PyData) : PE' → Option (List PyData) := fun ps => match gi ps with
  | some ds => if vs.all (lowAt ps) && decide (ds.length ≤ LIM) then compP ft tt fe (wipeP vs ps) ds else none
  | none => none
def del (H : Hp) (p : Addr) : Hp := fun b => if b = p then none else H b
section
variable {X : Cx} {C : Cfg} {a b c e o : Expr} {pos : Pos} {n m i : Nat} {vs : List Nat} {gi : PE' → Option (List PyData)} {ft : PyData → PE' → Option PE'} {tt : PE' → Option Bool} {fe : PE' → Option PyData}
theorem del_upd {H : Hp} {p : Addr} {o : HO} (h : H p = some o) : upd (del H p) p o = H := by
  funext b
  unfold upd del
  by_cases e : b = p
  · subst e; simp [h]
  · simp [e]
theorem gw_gr {n : Nat} {H1 H : Hp} {L : List Addr} (s : Sm H1 H) : Sm (gw n H1 L) H := by
  cases n with
  | zero => exact mask_sub.trans s
  | succ n => exact s
theorem tLc_tN : ∀ σ H Q, tN C (lcP vs gi ft tt fe) σ H Q → tLc (tI C n gi) (tG C (offV vs) ft) (tT C tt) (tP C 0 fe) vs σ H Q := fun σ H_0 Q q => by
  obtain ⟨ps, As, B, S, zsT, e, q⟩ := q
  unfold lcP at e
  split at e
  · rename_i ds hds
    split at e
    · rename_i hlow
      rw [Bool.and_eq_true, decide_eq_true_eq, List.all_eq_true] at hlow
      obtain ⟨hlow, hlim⟩ := hlow
      refine ⟨ps, As, B, S, ds, hds, fun J H1 g1 w => fun D hD => ?_⟩
      have S1 := S.gr g1
      have S1w := S1.wipe hlow
      obtain ⟨S2, x2⟩ := S1w.grow (o := .lst []) hD rfl
      have hDn : D ∉ As.flatten ++ B := S1.trk.new hD
      refine lc_it w (fun i H => ∃ acc zs0 zs1, St C (wipeP vs ps) (L2.wipe σ vs) H As ([D] ++ B) ∧ Gr C H1 H ∧ H D = some (.lst acc) ∧ DnA C.K (msk H As ([D] ++ B)) acc zs0 ∧ compP ft tt fe (wipeP vs ps) (ds.drop i) = some zs1 ∧ zs0 ++ zs1 = zsT ∧ zs0.length ≤ i)
        ⟨[], [], zsT, S2, .upd hD, upd_same, .nil, by simpa using e, rfl, Nat.le_refl _⟩ (fun i H hi hP => ?_) (fun i v H H' hi hP hy => ?_) fun H hP => ?_
      · obtain ⟨acc, zs0, zs1, S, g, hDl, o, e, hz, hn⟩ := hP
        exact gw_gr g.sm
      · obtain ⟨acc, zs0, zs1, S, g, hDl, o, e, hz, hn⟩ := hP
        have hdr : ds.drop i = ds[i] :: ds.drop (i + 1) := List.drop_eq_getElem_cons hi
        rw [hdr] at e
        have hdi : ds[i]? = some ds[i] := List.getElem?_eq_getElem hi
        obtain ⟨g', hy⟩ := hy
        have xx : Ext C H1 As B H As := S1w.gext g
        have smx : Sm (msk H1 As B) (msk H As ([D] ++ B)) := xx.smG fun a ha => by rw [List.mem_singleton.mp ha]; exact hD
        have hv := hy _ hdi _ S.trk smx
        have S' := S.gr g'
        have gg := g.trans g'
        have hDl' : H' D = some (.lst acc) := g'.sm D _ hDl fun ps e => by cases e
        have o' : DnA C.K (msk H' As ([D] ++ B)) acc zs0 := o.sm (mask_sm g'.sm)
        unfold compP at e
        split at e
        · rename_i ps2 h2
          refine ⟨_, As, _, S', ds[i], ps2, hv, h2, fun σ2 S3 p2 => ⟨offV_pin ?_ p2, ?_⟩⟩
          · rw [← S3.sl.len.2, S'.sl.len.2, wipe_length]
          split at e
          · rename_i h3
            refine ⟨ps2, As, _, S3, true, h3, fun H3 g3 => ?_⟩
            dsimp only
            rw [if_pos rfl]
            split at e
            · rename_i z h4
              split at e
              · rename_i zs2 h5
                cases e
                refine ⟨ps2, As, _, S3.gr g3, z, h4, fun v H4 g4 p4 => ?_⟩
                have g34 := g3.trans g4
                have d4 : H4 D = some (.lst acc) := g34.sm D _ hDl' fun ps e => by cases e
                have S4 := S'.gr g34
                have S5 := S4.updB (p := D) (o := .lst (acc ++ [v])) (by simp) rfl
                have emk : msk (upd H4 D (.lst (acc ++ [v]))) As ([D] ++ B) = msk H4 As ([D] ++ B) := mask_updIn (by simp)
                have o4 : DnA C.K (msk H4 As ([D] ++ B)) acc zs0 := o'.sm (mask_sm g34.sm)
                have g14 := gg.trans g34
                refine ⟨acc, d4, by rw [o4.length, ← lim_eq]; omega, acc ++ [v], zs0 ++ [z], zs2, S5, ⟨fun b x e n => ?_, fun t P hP => tab_upd2 d4 rfl (g14.tab t P hP), fun a h => upd_th a (g14.th a h)⟩, upd_same, ?_, h5, by rw [← hz]; simp, by rw [List.length_append]; simp; omega⟩
                · have hb : b ≠ D := fun z => by rw [z, hD] at e; cases e
                  rw [upd_ne hb]
                  exact g14.sm b x e n
                · rw [emk]
                  exact o4.append (.cons p4.zero .nil)
              · cases e
            · cases e
          · rename_i h3
            refine ⟨ps2, As, _, S3, false, h3, fun H3 g3 => ?_⟩
            dsimp only
            rw [if_neg Bool.false_ne_true]
            exact ⟨acc, zs0, zs1, S'.gr g3, gg.trans g3, g3.sm D _ hDl' (fun ps e => by cases e), o'.sm (mask_sm g3.sm), e, hz, by omega⟩
          · cases e
        · cases e
      · obtain ⟨acc, zs0, zs1, S, g, hDl, o, e, hz, hn⟩ := hP
        rw [List.drop_length] at e
        unfold compP at e
        cases e
        have hz' : zs0 = zsT := by rw [← hz]; simp
        subst hz'
        have gd : Gr C H1 (del H D) := by
          refine ⟨fun b x e n => ?_, fun t P hP => ?_, fun a h => ?_⟩
          · have hb : b ≠ D := fun z => by rw [z, hD] at e; cases e
            unfold del
            rw [if_neg hb]
            exact g.sm b x e n
          · obtain ⟨ps, e, r⟩ := g.tab t P hP
            refine ⟨ps, ?_, r⟩
            unfold del
            rw [if_neg]
            · exact e
            · intro z; rw [z, hDl] at e; cases e
          · have hb : a ≠ D := fun z => by rw [z] at h; exact h hD
            unfold del
            rw [if_neg hb]
            exact g.th a h
        have := q D acc (del H D) (g1.trans gd) (by unfold del; rw [if_pos rfl]) (o.sm fun b x e n => by
          obtain ⟨h1, h2⟩ := mask_some e
          have hb : b ≠ D := fun z => h1 (by simp [z])
          unfold msk
          rw [mask_out fun z => h1 (by
            rcases List.mem_append.mp z with k | k
            · simp [k]
            · simp [k])]
          unfold del
          rw [if_neg hb]
          exact h2)
        rwa [del_upd hDl] at this
    · cases e
  · cases e
theorem nLc {elt tg iter : Expr} {ifs : List Expr} {scope : Scope} {own : List (Str × Nat)} (hc : X.calm = true) (hN : X.N.Nodup) (hi : PI X tg iter (tI C n gi)) (ok : BlkOk X.N X.env.scope scope own)
    (hg : ∀ (s : Shared) (H : Hp) (D : Addr) (cl : List (Str × Addr)) (fp : List Addr), PG (X.blk s H scope (compEnvC scope cl D X.env) fp) tg (tG C (offV (own.map (·.2))) ft)) (ht : ∀ (s : Shared) (H : Hp) (D : Addr) (cl : List (Str × Addr)) (fp : List Addr), PTs (X.blk s H scope (compEnvC scope cl D X.env) fp) ifs (tT C tt))
    (he : ∀ (s : Shared) (H : Hp) (D : Addr) (cl : List (Str × Addr)) (fp : List Addr), PE (X.blk s H scope (compEnvC scope cl D X.env) fp) elt (tP C 0 fe)) (hs : ∀ x, foldedSetIterable iter X.env x = pure x := by intro _; rfl) :
    PE X (.ListComp elt [⟨tg, iter, ifs, 0⟩] scope pos) (tN C (lcP (own.map (·.2)) gi ft tt fe)) := pe_weak (pe_lc hc hN hi ok hg ht he hs) tLc_tN
end
end Pv
set_option Elab.async false
set_option linter.all false
set_option maxRecDepth 100000
set_option maxHeartbeats 4000000
/-! Pv13: defs and calls. -/
namespace Pv
open PySem PySem.Spec PyProof.Rows L2 GxR

abbrev FX := PE' → Option (PyData × PE')
/-- a call does F on the parameters' slots -/
def spX (C : Cfg) (n : Nat) (F : FX) : Sp := fun vs H Q _ => ∃ ps Fs B, St C ps (vs.map some) H Fs B ∧ ps.length = n ∧ ∃ d ps', F ps = some (d, ps') ∧
  ∀ v H' Fs', St C ps' (vs.map some) H' Fs' B → Ext C H Fs B H' Fs' → Dn C.K (msk H' Fs' B) v d → Q v H'
def outP (pin : Nat → Bool) : Nat → Nat → PE' → PE'
  | 0, _, _ => []
  | n + 1, i, p :: r => (if pin i then p else none) :: outP pin n (i + 1) r
  | _ + 1, _, [] => []
def outA (pin : Nat → Bool) : Nat → Nat → List (List Addr) → List (List Addr)
  | 0, _, _ => []
  | n + 1, i, p :: r => (if pin i then p else []) :: outA pin n (i + 1) r
  | _ + 1, _, [] => []
def callF (tot n : Nat) (pin : Nat → Bool) (fb : FS) : FX := fun ps => if ps.length = n then (match fb (ps ++ List.replicate (tot - n) none) with
  | some (.rt d, ps1) => if n ≤ ps1.length then some (d, outP pin n 0 ps1) else none
  | some (.nx, ps1) => if n ≤ ps1.length then some (.none, outP pin n 0 ps1) else none
  | _ => none) else none
section
variable {C : Cfg} {M H H' : Hp} {ps : PE'} {σ : L2.St} {As : List (List Addr)} {B : List Addr}
theorem Sl.pad : ∀ {ps : PE'} {σ : L2.St} {As : List (List Addr)} (k : Nat), Sl C M H ps σ As → Sl C M H (ps ++ List.replicate k none) (σ ++ List.replicate k none) (As ++ List.replicate k [])
  | _, _, _, 0, .nil => .nil
  | _, _, _, k + 1, .nil => .no (Sl.pad k .nil)
  | _, _, _, k, .no h => .no (Sl.pad k h)
  | _, _, _, k, .so x h => .so x (Sl.pad k h)
theorem flat_pad (As : List (List Addr)) (k : Nat) : (As ++ List.replicate k []).flatten = As.flatten := by
  rw [List.flatten_append]
  have : (List.replicate k ([] : List Addr)).flatten = [] := by
    induction k with
    | zero => rfl
    | succ k ih => rw [List.replicate_succ, List.flatten_cons, ih]; rfl
  rw [this, List.append_nil]
theorem St.pad (S : St C ps σ H As B) (k : Nat) : St C (ps ++ List.replicate k none) (σ ++ List.replicate k none) H (As ++ List.replicate k []) B :=
  ⟨by rw [flat_pad]; exact S.sl.pad k, by rw [flat_pad]; exact S.nd, by rw [flat_pad]; exact S.trk, S.tab⟩
theorem Sl.out (pin : Nat → Bool) : ∀ {ps : PE'} {σ : L2.St} {As : List (List Addr)} (vs : List V) (i : Nat), Sl C M H ps σ As → (∀ j v, vs[j]? = some v → pin (i + j) = true → σ[j]? = some (some v)) → vs.length ≤ ps.length → Sl C M H (outP pin vs.length i ps) (vs.map some) (outA pin vs.length i As)
  | _, _, _, [], _, _, _, _ => .nil
  | _, _, _, v :: vs, i, .nil, _, hl => by simp at hl
  | _, _, _, v :: vs, i, .no h, hp, hl => by
    have ih := Sl.out pin vs (i + 1) h (fun j w hj hpj => by
      have := hp (j + 1) w (by simpa using hj) (by rw [← hpj]; congr 1; omega)
      simpa using this) (by simpa using hl)
    show Sl C M H ((if pin i = true then none else none) :: outP pin vs.length (i + 1) _) (some v :: vs.map some) ((if pin i = true then [] else []) :: outA pin vs.length (i + 1) _)
    rw [ite_self, ite_self]
    exact .no ih
  | _, _, _, v :: vs, i, .so x h, hp, hl => by
    have ih := Sl.out pin vs (i + 1) h (fun j w hj hpj => by
      have := hp (j + 1) w (by simpa using hj) (by rw [← hpj]; congr 1; omega)
      simpa using this) (by simpa using hl)
    by_cases q : pin i = true
    · have e := hp 0 v rfl (by simpa using q)
      simp at e
      subst e
      show Sl C M H ((if pin i = true then _ else none) :: outP pin vs.length (i + 1) _) _ ((if pin i = true then _ else []) :: outA pin vs.length (i + 1) _)
      rw [if_pos q, if_pos q]
      exact .so x ih
    · show Sl C M H ((if pin i = true then _ else none) :: outP pin vs.length (i + 1) _) _ ((if pin i = true then _ else []) :: outA pin vs.length (i + 1) _)
      rw [if_neg q, if_neg q]
      exact .no ih
theorem outA_sub (pin : Nat → Bool) : ∀ (n i : Nat) (As : List (List Addr)), (outA pin n i As).flatten.Sublist As.flatten
  | 0, _, _ => by unfold outA; simp
  | n + 1, _, [] => by unfold outA; simp
  | n + 1, i, A :: r => by
    unfold outA
    rw [List.flatten_cons, List.flatten_cons]
    refine List.Sublist.append ?_ (outA_sub pin n (i + 1) r)
    by_cases q : pin i = true
    · rw [if_pos q]; exact List.Sublist.refl _
    · rw [if_neg q]; exact List.nil_sublist _
theorem St.out (S : St C ps σ H As B) (pin : Nat → Bool) (vs : List V) (hp : ∀ j v, vs[j]? = some v → pin j = true → σ[j]? = some (some v)) (hl : vs.length ≤ ps.length) : St C (outP pin vs.length 0 ps) (vs.map some) H (outA pin vs.length 0 As) B := by
  have hs : ((outA pin vs.length 0 As).flatten ++ B).Sublist (As.flatten ++ B) := (outA_sub pin _ _ _).append (List.Sublist.refl _)
  exact ⟨(S.sl.out pin vs 0 (fun j v hj q => hp j v hj (by simpa using q)) hl).sm (mask_less fun a ha => hs.subset ha) fun _ _ => rfl, S.nd.sublist hs, fun a ha => S.trk a (hs.subset ha), S.tab⟩
end
section
variable {P : Program} {w : World} {K : PySem.W.Frag} {mg : Str → Option Value} {base : Heap}
theorem fnX {C : Cfg} {x qual : Str} {st : Stmt} {f : Addr} {fd : FuncData} {N Ps : List Str} {k : Nat} {pin : Nat → Bool} {fb : FS} (F0 : Fun K x qual st f fd) (S : FnScope N Ps (defScope st)) (hn : Ps.length ≤ N.length)
    (hbody : ∀ (cdv : Value) (A : Around) (outer : List Env) (s : Shared) (H : Hp) (E : XK), Room k (A.deeper (envOfC qual (defScope st) s.heap.objs.size f cdv)) → PSs (cxOf CX0 P w K mg base N qual (defScope st) f cdv A outer s H E).nox (defBody st) (tS C pin fb)) :
    FnOk P w K mg base CX0 (k + 1) f fd Ps (spX C Ps.length (callF N.length Ps.length pin fb)) := by
  refine F0.ok S (fun vs H Q E h => ?_) (fun cdv A outer s H vs Q E hr h => ?_)
  · obtain ⟨ps, Fs, B, S, hl, _⟩ := h
    have := S.sl.len.1
    rw [List.length_map] at this
    omega
  · obtain ⟨ps, Fs, B, S, hl, d, ps', e, q⟩ := h
    have hvl : vs.length = Ps.length := by
      have := S.sl.len.1
      rw [List.length_map] at this
      omega
    refine ⟨_, hbody cdv A outer s H E hr, ?_⟩
    unfold callF at e
    rw [if_pos hl] at e
    have S1 := S.pad (N.length - Ps.length)
    have hstart : L2.start N vs = vs.map some ++ List.replicate (N.length - Ps.length) none := by unfold L2.start; rw [hvl]
    have fin : ∀ {ps1 : PE'} {σ' : L2.St} {H' : Hp} {As' : List (List Addr)} {z : PyData} {v : V}, St C ps1 σ' H' As' B → Ext C H (Fs ++ List.replicate (N.length - Ps.length) []) B H' As' → (∀ i, pin i = true → σ'[i]? = (L2.start N vs)[i]?) → Ps.length ≤ ps1.length → Dn C.K (msk H' As' B) v z → ps' = outP pin Ps.length 0 ps1 → z = d → Q v H' := fun {ps1 σ' H' As' z v} S' x p hlen hv e1 e2 => by
      subst e2
      have S2 := S'.out pin vs (fun j v hj hp => by
        rw [p j hp, hstart, List.getElem?_append_left (by rw [List.length_map]; exact (List.getElem?_eq_some_iff.mp hj).1), List.getElem?_map, hj]; rfl) (by omega)
      have hsub : ∀ a ∈ (outA pin vs.length 0 As').flatten ++ B, a ∈ As'.flatten ++ B := fun a ha => ((outA_sub pin _ _ _).append (List.Sublist.refl _)).subset ha
      have eqm : msk H (Fs ++ List.replicate (N.length - Ps.length) []) B = msk H Fs B := by unfold msk; rw [flat_pad]
      refine q v H' _ (by rw [e1, ← hvl]; exact S2) ⟨?_, fun a ha => ?_, x.fr, x.th, x.fx⟩ (hv.sm (mask_less hsub))
      · rw [← eqm]
        exact x.sm.trans (mask_less hsub)
      · have := x.ow a ((outA_sub pin _ _ _).subset ha)
        rwa [flat_pad] at this
    split at e
    · rename_i z ps1 h1
      split at e
      · rename_i hlen
        cases e
        rw [← hstart] at S1
        exact ⟨_, _, B, S1, .rt d, ps1, h1, fun σ' H' As' S' x p v hv => fin S' x p hlen hv rfl rfl⟩
      · cases e
    · rename_i ps1 h1
      split at e
      · rename_i hlen
        cases e
        rw [← hstart] at S1
        exact ⟨_, _, B, S1, .nx, ps1, h1, fun σ' H' As' S' x p => fin S' x p hlen .non rfl rfl⟩
      · cases e
    · cases e
end
end Pv
set_option Elab.async false
set_option linter.all false
set_option maxRecDepth 100000
set_option maxHeartbeats 4000000
/-! Pv14: calls of the program's own defs and methods. -/
namespace Pv
open PySem PySem.Spec PyProof.Rows L2 GxR

inductive SvA (C : Cfg) (M H : Hp) : List SV → List V → Prop
  | nil : SvA C M H [] []
  | cons {sv : SV} {v : V} {svs : List SV} {vs : List V} : SvO C M H sv v [] → SvA C M H svs vs → SvA C M H (sv :: svs) (v :: vs)
theorem SvA.sm {C : Cfg} {M M' H H' : Hp} (s : Sm M M') : ∀ {svs : List SV} {vs : List V}, SvA C M H svs vs → SvA C M' H' svs vs
  | _, _, .nil => .nil
  | _, _, .cons x h => .cons (x.sm s fun _ z => nomatch z) (SvA.sm s h)
theorem SvA.sl {C : Cfg} {M H : Hp} : ∀ {svs : List SV} {vs : List V}, SvA C M H svs vs → Sl C M H (svs.map some) (vs.map some) (svs.map fun _ => [])
  | _, _, .nil => .nil
  | _, _, .cons x h => .so x (SvA.sl h)
theorem flat_nils' {α : Type} : ∀ As : List α, (As.map fun _ => ([] : List Addr)).flatten = []
  | [] => rfl
  | _ :: r => by rw [List.map_cons, List.flatten_cons, flat_nils' r]; rfl
def tYP (C : Cfg) (g : PE' → Option SV) : TE := fun σ H Q => ∃ ps As B, St C ps σ H As B ∧ ∃ sv, g ps = some sv ∧ ∀ v H', Gr C H H' → SvO C (msk H' As B) H' sv v [] → Q v H'
def tY (C : Cfg) (f : PE' → Option (SV × PE')) : TE := fun σ H Q => ∃ ps As B, St C ps σ H As B ∧ ∃ sv ps', f ps = some (sv, ps') ∧ ∀ v H' As', St C ps' σ H' As' B → Ext C H As B H' As' → SvO C (msk H' As' B) H' sv v [] → Q v H'
def tAYP (C : Cfg) (g : PE' → Option (List SV)) : TA := fun σ H Q => ∃ ps As B, St C ps σ H As B ∧ ∃ svs, g ps = some svs ∧ ∀ vs H', Gr C H H' → SvA C (msk H' As B) H' svs vs → Q vs H'
def tAY (C : Cfg) (f : PE' → Option (List SV × PE')) : TA := fun σ H Q => ∃ ps As B, St C ps σ H As B ∧ ∃ svs ps', f ps = some (svs, ps') ∧ ∀ vs H' As', St C ps' σ H' As' B → Ext C H As B H' As' → SvA C (msk H' As' B) H' svs vs → Q vs H'
def fD0 (g : PE' → Option PyData) : PE' → Option SV := fun ps => match g ps with
  | some d => some (.d 0 d)
  | none => none
def xD0 (g : PE' → Option (PyData × PE')) : PE' → Option (SV × PE') := fun ps => match g ps with
  | some (d, ps1) => some (.d 0 d, ps1)
  | none => none
def lowS : SV → Bool
  | .d 0 _ => true
  | .scr _ => true
  | .o _ false _ => true
  | _ => false
def fSlot (i : Nat) : PE' → Option SV := fun ps => match ps[i]? with
  | some (some sv) => if lowS sv then some sv else none
  | _ => none
section
variable {X : Cx} {C : Cfg} {a b c e o : Expr} {pos p apos : Pos} {n m i : Nat} {es : List Expr} {x y : Str} {ps : PE'} {σ : L2.St} {H H' : Hp} {As : List (List Addr)} {B : List Addr}
theorem SvO.low {M H : Hp} {sv : SV} {v : V} {F : List Addr} (h : SvO C M H sv v F) (hl : lowS sv = true) : F = [] := by
  cases h with
  | d h => cases h with
    | sh => rfl
    | _ => cases hl
  | of => rfl
  | om => cases hl
  | scr => rfl
theorem yP {g : PE' → Option PyData} (h : PE X a (tP C 0 g)) : PE X a (tYP C (fD0 g)) := pe_weak h fun σ H Q q => by
  obtain ⟨ps, As, B, S, sv, e, q⟩ := q
  unfold fD0 at e
  split at e
  · rename_i d hd
    cases e
    exact ⟨ps, As, B, S, d, hd, fun v H' g p => q v H' g (.d (.sh p.zero))⟩
  · cases e
theorem yX {g : PE' → Option (PyData × PE')} (h : PE X a (tX C g)) : PE X a (tY C (xD0 g)) := pe_weak h fun σ H Q q => by
  obtain ⟨ps, As, B, S, sv, ps', e, q⟩ := q
  unfold xD0 at e
  split at e
  · rename_i d ps1 hd
    cases e
    exact ⟨ps, As, B, S, d, _, hd, fun v H' As' S' x p => q v H' As' S' x (.d (.sh p))⟩
  · cases e
theorem yN (hN : X.N[i]? = some x) (hv : Vis X.env.scope x) (hd : (x == ("__debug__" : Str)) = false := by kernel_rfl) (hcd : (x == ("__classdict__" : Str)) = false := by kernel_rfl) : PE X (.Name x pos) (tYP C (fSlot i)) :=
  pe_weak (pe_var hN hv hd hcd) fun σ H Q q => by
    obtain ⟨ps, As, B, S, sv, e, q⟩ := q
    unfold fSlot at e
    split at e
    · rename_i sv0 hp
      split at e
      · rename_i hl
        cases e
        obtain ⟨v, F, h1, h2, h3⟩ := S.sl.get hp
        have := h3.low hl
        subst this
        exact ⟨v, h1, q v H .rfl h3⟩
      · cases e
    · cases e
theorem yXP {g : PE' → Option SV} (h : PE X a (tYP C g)) : PE X a (tY C (fX g)) := pe_weak h fun σ H Q q => by
  obtain ⟨ps, As, B, S, sv, ps', e, q⟩ := q
  obtain ⟨e1, rfl⟩ := fX_some e
  exact ⟨_, As, B, S, sv, e1, fun v H' g p => q v H' As (S.gr g) (S.gext g) p⟩
def fNilS : PE' → Option (List SV) := fun _ => some []
def fConsS (a : PE' → Option SV) (r : PE' → Option (List SV)) : PE' → Option (List SV) := fun ps => match a ps with
  | some d => match r ps with
    | some ds => some (d :: ds)
    | none => none
  | none => none
def xNilS : PE' → Option (List SV × PE') := fun ps => some ([], ps)
def xConsS (a : PE' → Option (SV × PE')) (r : PE' → Option (List SV × PE')) : PE' → Option (List SV × PE') := fun ps => match a ps with
  | some (d, ps1) => match r ps1 with
    | some (ds, ps2) => some (d :: ds, ps2)
    | none => none
  | none => none
theorem ayNil : PA X [] (tAYP C fNilS) := pa_weak pa_nil fun σ H Q q => by
  obtain ⟨ps, As, B, S, sv, e, q⟩ := q
  cases e
  exact q [] H .rfl .nil
theorem ayCons {ga : PE' → Option SV} {g : PE' → Option (List SV)} (ha : PE X a (tYP C ga)) (hr : PA X es (tAYP C g)) (hs : starEach (a :: es) X.env = (false, eval a X.env) :: starEach es X.env := by rfl) : PA X (a :: es) (tAYP C (fConsS ga g)) :=
  pa_weak (pa_cons ha hr hs) fun σ H Q q => by
    obtain ⟨ps, As, B, S, svs, e, q⟩ := q
    unfold fConsS at e
    split at e
    · rename_i d hd
      split at e
      · rename_i ds hds
        cases e
        exact ⟨ps, As, B, S, d, hd, fun v H1 g1 p1 => ⟨ps, As, B, S.gr g1, ds, hds, fun vs H2 g2 p2 => q _ H2 (g1.trans g2) (.cons (p1.sm (mask_sm g2.sm) fun _ z => nomatch z) p2)⟩⟩
      · cases e
    · cases e
theorem ayxNil : PA X [] (tAY C xNilS) := pa_weak pa_nil fun σ H Q q => by
  obtain ⟨ps, As, B, S, sv, ps', e, q⟩ := q
  cases e
  exact q [] H As S .rfl .nil
theorem ayxCons {ga : PE' → Option (SV × PE')} {g : PE' → Option (List SV × PE')} (ha : PE X a (tY C ga)) (hr : PA X es (tAY C g)) (hs : starEach (a :: es) X.env = (false, eval a X.env) :: starEach es X.env := by rfl) : PA X (a :: es) (tAY C (xConsS ga g)) :=
  pa_weak (pa_cons ha hr hs) fun σ H Q q => by
    obtain ⟨ps, As, B, S, svs, ps', e, q⟩ := q
    unfold xConsS at e
    split at e
    · rename_i d ps1 hd
      split at e
      · rename_i ds ps2 hds
        cases e
        exact ⟨ps, As, B, S, d, ps1, hd, fun v H1 A1 S1 x1 p1 => ⟨ps1, A1, B, S1, ds, _, hds, fun vs H2 A2 S2 x2 p2 => q _ H2 A2 S2 (x1.trans x2) (.cons (p1.sm x2.sm fun _ z => nomatch z) p2)⟩⟩
      · cases e
    · cases e
/-! the callee's state -/
theorem St.callee (S : St C ps σ H As B) {svs : List SV} {vs : List V} (h : SvA C (msk H As B) H svs vs) : St C (svs.map some) (vs.map some) H (svs.map fun _ => []) (As.flatten ++ B) :=
  ⟨by rw [flat_nils']; exact h.sl, by rw [flat_nils']; exact S.nd, by rw [flat_nils']; exact S.trk, S.tab⟩
theorem St.back (S : St C ps σ H As B) {svs : List SV} {Fs' : List (List Addr)} {ps' : PE'} {σ' : L2.St} (S' : St C ps' σ' H' Fs' (As.flatten ++ B)) (x : Ext C H (svs.map fun _ => []) (As.flatten ++ B) H' Fs') : Gr C H H' := by
  refine ⟨fun a o e n => ?_, fun _ => S'.tab, x.th⟩
  by_cases h : a ∈ As.flatten ++ B
  · rw [x.fr a h]; exact e
  · have e1 : msk H (svs.map fun _ => []) (As.flatten ++ B) a = some o := by
      unfold msk
      rw [flat_nils', mask_out (by simpa using h)]
      exact e
    exact (mask_some (x.sm a o e1 n)).2
def fFn (F : FX) (g : PE' → Option (List SV)) : PE' → Option PyData := fun ps => match g ps with
  | some svs => match F (svs.map some) with
    | some (d, _) => some d
    | none => none
  | none => none
def xFn (F : FX) (g : PE' → Option (List SV × PE')) : PE' → Option (PyData × PE') := fun ps => match g ps with
  | some (svs, ps1) => match F (svs.map some) with
    | some (d, _) => some (d, ps1)
    | none => none
  | none => none
theorem sp_pure {F : FX} {svs : List SV} {vs : List V} {d : PyData} {ps' : PE'} {Q : VK} {E : XK} (hF : F (svs.map some) = some (d, ps')) (hn : svs.length = n) (S : St C ps σ H As B) (h : SvA C (msk H As B) H svs vs) (q : ∀ v H', Gr C H H' → Dn C.K (msk H' As B) v d → Q v H') : spX C n F vs H Q E := by
  refine ⟨_, _, _, S.callee h, by rw [List.length_map]; exact hn, d, ps', hF, fun v H' Fs' S' x hv => q v H' (S.back S' x) (hv.sm (mask_less fun a ha => List.mem_append_right _ ha))⟩
theorem tCall_tP {F : FX} {g : PE' → Option (List SV)} {E : XK} (hlen : ∀ ps r, F ps = some r → ps.length = m) : ∀ σ H Q, tP C n (fFn F g) σ H Q → tCall (spX C m F) [] E (tAYP C g) σ H Q := fun σ H Q q => by
  obtain ⟨ps, As, B, S, d, e, q⟩ := q
  unfold fFn at e
  split at e
  · rename_i svs hsv
    split at e
    · rename_i d' ps' hF
      cases e
      refine ⟨ps, As, B, S, svs, hsv, fun vs H1 g1 h => ?_⟩
      simp only [List.append_nil]
      exact sp_pure hF (by have := hlen _ _ hF; rwa [List.length_map] at this) (S.gr g1) h fun v H' g2 p => q v H' (g1.trans g2) (.sh p)
    · cases e
  · cases e
theorem tCall_tX {F : FX} {g : PE' → Option (List SV × PE')} {E : XK} (hlen : ∀ ps r, F ps = some r → ps.length = m) : ∀ σ H Q, tX C (xFn F g) σ H Q → tCall (spX C m F) [] E (tAY C g) σ H Q := fun σ H Q q => by
  obtain ⟨ps, As, B, S, d, ps2, e, q⟩ := q
  unfold xFn at e
  split at e
  · rename_i svs ps1 hsv
    split at e
    · rename_i d' ps' hF
      cases e
      refine ⟨ps, As, B, S, svs, _, hsv, fun vs H1 A1 S1 x1 h => ?_⟩
      simp only [List.append_nil]
      exact sp_pure hF (by have := hlen _ _ hF; rwa [List.length_map] at this) S1 h fun v H' g2 p => q v H' A1 (S1.gr g2) (x1.trans (S1.gext g2)) p
    · cases e
  · cases e
/-- what is known of a def -/
structure Dfn (P : Program) (w : World) (K : PySem.W.Frag) (mg : Str → Option Value) (base : Heap) (C : Cfg) (k n : Nat) (x : Str) (F : FX) : Prop where
  ok : ∃ (f : Addr) (fd : FuncData) (ps : List Str), FnOk P w K mg base CX0 k f fd ps (spX C n F) ∧ mg x = some (.ref f) ∧ PySem.W.keepIn K (.ref f) = true ∧ Binds K fd ps []
  len : ∀ ps r, F ps = some r → ps.length = n
theorem eFn {F : FX} {g : PE' → Option (List SV)} {k : Nat} (D : Dfn X.prog X.w X.K X.mg X.base C k m x F) (hr : Room k X.A) (hg : Gl X x) (ha : PA X (e :: es) (tAYP C g)) (hdb : (x == ("__debug__" : Str)) = false := by kernel_rfl) (he : starEach (e :: es) X.env = (false, eval e X.env) :: starEach es X.env := by rfl) (hpl : (backTo pos (starEach es X.env)).any (·.1) = false := by rfl) :
    PE X (.Call (.Name x p) (e :: es) [] pos) (tP C n (fFn F g)) := by
  obtain ⟨f, fd, ps, F0, hm, hk, hb⟩ := D.ok
  exact pe_weak (pe_call F0 hr hg hm hk hb .nil pass0 ha hdb he hpl) (tCall_tP D.len)
theorem xFnE {F : FX} {g : PE' → Option (List SV × PE')} {k : Nat} (D : Dfn X.prog X.w X.K X.mg X.base C k m x F) (hr : Room k X.A) (hg : Gl X x) (ha : PA X (e :: es) (tAY C g)) (hdb : (x == ("__debug__" : Str)) = false := by kernel_rfl) (he : starEach (e :: es) X.env = (false, eval e X.env) :: starEach es X.env := by rfl) (hpl : (backTo pos (starEach es X.env)).any (·.1) = false := by rfl) :
    PE X (.Call (.Name x p) (e :: es) [] pos) (tX C (xFn F g)) := by
  obtain ⟨f, fd, ps, F0, hm, hk, hb⟩ := D.ok
  exact pe_weak (pe_call F0 hr hg hm hk hb .nil pass0 ha hdb he hpl) (tCall_tX D.len)
/-! one slot is the callee's while the call runs -/
theorem St.mvd (S : St C ps σ H As B) {sv : SV} {v0 : V} {svs : List SV} {vs : List V} (hp : ps[i]? = some (some sv)) (hs : σ[i]? = some (some v0)) (h : SvA C (msk H As B) H svs vs) : ∃ Fs Bc, St C (some sv :: svs.map some) (some v0 :: vs.map some) H Fs Bc ∧
    ∀ H' Fs' sv' r, St C (some sv' :: r) (some v0 :: vs.map some) H' Fs' Bc → Ext C H Fs Bc H' Fs' → ∃ As', St C (ps.set i (some sv')) σ H' As' B ∧ Ext C H As B H' As' ∧ ∀ v d, Dn C.K (msk H' Fs' Bc) v d → Dn C.K (msk H' As' B) v d := by
  obtain ⟨v, Fi, h1, h2, h3⟩ := S.sl.get hp
  rw [hs] at h1
  cases h1
  have hlt : i < As.length := (List.getElem?_eq_some_iff.mp h2).1
  have self : As.set i Fi = As := set_self h2
  have p0 : (As.flatten ++ B).Perm (Fi ++ ((As.set i []).flatten ++ B)) := by
    have := (flat_perm (F := Fi) hlt).append_right B
    rw [self, List.append_assoc] at this
    exact this
  have eF : (Fi :: svs.map fun _ => ([] : List Addr)).flatten = Fi := by rw [List.flatten_cons, flat_nils', List.append_nil]
  have em : mask H ((Fi :: svs.map fun _ => []).flatten ++ ((As.set i []).flatten ++ B)) = mask H (As.flatten ++ B) := by
    rw [eF]
    funext b
    unfold mask
    by_cases hb : b ∈ As.flatten ++ B
    · rw [if_pos hb, if_pos (p0.mem_iff.mp hb)]
    · rw [if_neg hb, if_neg fun z => hb (p0.mem_iff.mpr z)]
  refine ⟨Fi :: svs.map fun _ => [], (As.set i []).flatten ++ B, ⟨?_, ?_, ?_, S.tab⟩, fun H' Fs' sv' r S' x => ?_⟩
  · rw [em]; exact .so h3 h.sl
  · rw [eF]; exact p0.nodup_iff.mp S.nd
  · rw [eF]; exact fun a ha => S.trk a (p0.mem_iff.mpr ha)
  · have sl := S'.sl
    cases sl with
    | so x0 hr =>
      rename_i F0 Fr
      have hmem : ∀ a ∈ (As.set i F0).flatten ++ B, a ∈ (F0 :: Fr).flatten ++ ((As.set i []).flatten ++ B) := fun a ha => by
        rcases List.mem_append.mp ha with z | z
        · rcases (flat_split h2 F0 a).mp z with z | z
          · simp [z]
          · exact List.mem_append_right _ (List.mem_append_left _ z)
        · simp [z]
      have k : ∀ b o, H b = some o → b ∉ Fi → (∀ ps, o ≠ .tbl ps) → H' b = some o := fun b o e hb n => by
        by_cases hB : b ∈ (As.set i []).flatten ++ B
        · rw [x.fr b hB]; exact e
        · have e1 : msk H (Fi :: svs.map fun _ => []) ((As.set i []).flatten ++ B) b = some o := by
            unfold msk
            rw [eF, mask_out (fun z => (List.mem_append.mp z).elim hb hB)]
            exact e
          exact (mask_some (x.sm b o e1 n)).2
      have nd := S'.nd
      rw [List.flatten_cons, List.append_assoc] at nd
      have key := St.slotX (G := []) (F := F0) (sv := sv') (v := v0) (H' := H') .rfl (fun _ h => nomatch h) S h2 k S'.tab x.th x.fx (fun a ha => by
        rcases x.ow a (by simp [ha]) with z | z
        · rw [eF] at z; exact .inr (.inl z)
        · exact .inl z) (List.nodup_append.mp nd).1 (fun a ha => S'.trk a (by simp [ha])) (x0.sm (mask_less hmem) fun _ _ => rfl)
      rw [set_self hs] at key
      exact ⟨_, key.1, key.2, fun v d hv => hv.sm (mask_less hmem)⟩
def fMv (i : Nat) (F : FX) (f : PE' → Option (List SV × PE')) : PE' → Option (PyData × PE') := fun ps => match ps[i]? with
  | some (some _) => match f ps with
    | some (svs, ps1) => match ps1[i]? with
      | some (some sv) => match F (some sv :: svs.map some) with
        | some (d, some sv' :: _) => some (d, ps1.set i (some sv'))
        | _ => none
      | _ => none
    | none => none
  | _ => none
theorem fMv_some {F : FX} {f : PE' → Option (List SV × PE')} {ps ps' : PE'} {d : PyData} (h : fMv i F f ps = some (d, ps')) : ∃ sv0 svs ps1 sv sv' r, ps[i]? = some (some sv0) ∧ f ps = some (svs, ps1) ∧ ps1[i]? = some (some sv) ∧ F (some sv :: svs.map some) = some (d, some sv' :: r) ∧ ps' = ps1.set i (some sv') := by
  unfold fMv at h
  split at h
  · rename_i sv0 h0
    split at h
    · rename_i svs ps1 h1
      split at h
      · rename_i sv h2
        split at h
        · rename_i d' sv' r hF
          cases h
          exact ⟨sv0, svs, ps1, sv, sv', r, h0, h1, h2, hF, rfl⟩
        · cases h
      · cases h
    · cases h
  · cases h
theorem sp_mv {F : FX} {sv sv' : SV} {v0 : V} {svs : List SV} {vs : List V} {d : PyData} {r : PE'} {Q : VK} {E : XK} {H0 : Hp} {A0 : List (List Addr)} (x0 : Ext C H0 A0 B H As) (S : St C ps σ H As B) (hp : ps[i]? = some (some sv)) (hs : σ[i]? = some (some v0)) (h : SvA C (msk H As B) H svs vs) (hF : F (some sv :: svs.map some) = some (d, some sv' :: r))
    (hn : (some sv :: svs.map some).length = n) (q : ∀ v H' As', St C (ps.set i (some sv')) σ H' As' B → Ext C H0 A0 B H' As' → Dn C.K (msk H' As' B) v d → Q v H') : spX C n F (v0 :: vs) H Q E := by
  obtain ⟨Fs, Bc, S1, k⟩ := S.mvd hp hs h
  refine ⟨_, Fs, Bc, S1, hn, d, _, hF, fun v H' Fs' S' x hv => ?_⟩
  obtain ⟨A2, S2, x2, kd⟩ := k H' Fs' sv' r S' x
  exact q v H' A2 S2 (x0.trans x2) (kd v d hv)
theorem xMv {F : FX} {f : PE' → Option (List SV × PE')} {k : Nat} (D : Dfn X.prog X.w X.K X.mg X.base C k m x F) (hr : Room k X.A) (hg : Gl X x) (hN : X.N[i]? = some y) (hv : Vis X.env.scope y) (ha : PA X es (tAY C f)) (hd : (y == ("__debug__" : Str)) = false := by kernel_rfl) (hcd : (y == ("__classdict__" : Str)) = false := by kernel_rfl)
    (hdb : (x == ("__debug__" : Str)) = false := by kernel_rfl) (he : starEach (.Name y apos :: es) X.env = (false, eval (.Name y apos) X.env) :: starEach es X.env := by rfl) (hpl : (backTo pos (starEach es X.env)).any (·.1) = false := by rfl) :
    PE X (.Call (.Name x p) (.Name y apos :: es) [] pos) (tX C (fMv i F f)) := by
  obtain ⟨ff, fd, ps, F0, hm, hk, hb⟩ := D.ok
  refine pe_weak (pe_call F0 hr hg hm hk hb .nil pass0 (pa_cons (pe_var hN hv hd hcd) ha he) hdb he hpl) fun σ H Q q => ?_
  obtain ⟨ps, As, B, S, d, ps', e, q⟩ := q
  obtain ⟨sv0, svs, ps1, sv, sv', r, h0, h1, h2, hF, rfl⟩ := fMv_some e
  obtain ⟨v, F, k1, k2, k3⟩ := S.sl.get h0
  refine ⟨v, k1, ps, As, B, S, svs, ps1, h1, fun vs H1 A1 S1 x1 h => ?_⟩
  simp only [List.append_nil, List.cons_append]
  exact sp_mv x1 S1 h2 k1 h hF (D.len _ _ hF) q
/-! methods -/
structure Mth (P : Program) (w : World) (K : PySem.W.Frag) (mg : Str → Option Value) (base : Heap) (C : Cfg) (k n : Nat) (c m : Str) (F : FX) : Prop where
  cls : Cls K (C.cls c)
  ok : ∃ (f : Addr) (fd : FuncData) (ps : List Str), FnOk P w K mg base CX0 k f fd ps (spX C n F) ∧ Meth K (C.cls c) m f ∧ Binds K fd ps []
  len : ∀ ps r, F ps = some r → ps.length = n
theorem FlO.non {K : PySem.W.Frag} {M H : Hp} {f : Str} : ∀ {fs : List (Str × Nat × PyData)} {gs : List (Str × V)} {F : List Addr}, FlO K M H fs gs F → fs.lookup f = none → gs.lookup f = none
  | _, _, _, .nil, _ => rfl
  | _, _, _, .cons (f := g) _ h, e => by
    rw [List.lookup_cons] at e ⊢
    split at e
    · cases e
    · exact FlO.non h e
def isO (c m : Str) : SV → Bool
  | .o c' _ fs => decide (c' = c) && (fs.lookup m).isNone
  | _ => false
theorem SvO.isO {M H : Hp} {cc mm : Str} {sv : SV} {v : V} {F : List Addr} (s : Sm M H) (h : SvO C M H sv v F) (e : Pv.isO cc mm sv = true) : ∃ a dx gs, v = .ref a ∧ H a = some (.ins (C.cls cc) dx gs) ∧ gs.lookup mm = none := by
  unfold Pv.isO at e
  split at e
  · rw [Bool.and_eq_true, decide_eq_true_eq, Option.isNone_iff_eq_none] at e
    obtain ⟨rfl, e⟩ := e
    cases h with
    | of h hs hz => exact ⟨_, _, _, rfl, s _ _ h (fun ps e => by cases e), hs.non e⟩
    | om h hs => exact ⟨_, _, _, rfl, h, hs.non e⟩
  · cases e
def fMt (i : Nat) (c m : Str) (F : FX) (f : PE' → Option (List SV × PE')) : PE' → Option (PyData × PE') := fun ps => match ps[i]? with
  | some (some sv) => if isO c m sv then fMv i F f ps else none
  | _ => none
theorem xMt {F : FX} {f : PE' → Option (List SV × PE')} {k : Nat} {cn mn : Str} {pl : Sem Bool} (D : Mth X.prog X.w X.K X.mg X.base C k m cn mn F) (hr : Room k X.A) (hN : X.N[i]? = some y) (hv : Vis X.env.scope y) (ha : PA X (e :: es) (tAY C f)) (hd : (y == ("__debug__" : Str)) = false := by kernel_rfl) (hcd : (y == ("__classdict__" : Str)) = false := by kernel_rfl)
    (hst : starEach (e :: es) X.env = (false, eval e X.env) :: starEach es X.env := by rfl) (hpl : (backTo pos (starEach es X.env)).any (·.1) = false := by rfl)
    (ht : eval (.Call (.Attribute (.Name y p) mn apos) (e :: es) [] pos) X.env = (do
      let ov ← eval (.Name y p) X.env
      standAt apos.atName
      let (f, first) ← holding [ov] (getMethod ov mn pl)
      callWith pos f first (backTo pos (starEach (e :: es) X.env)) (backToKw pos (keywordEach [] X.env))) := by rfl) :
    PE X (.Call (.Attribute (.Name y p) mn apos) (e :: es) [] pos) (tX C (fMt i cn mn F f)) := by
  obtain ⟨ff, fd, ps, F0, hm, hb⟩ := D.ok
  refine pe_weak (pe_meth (pe_var hN hv hd hcd) D.cls hm F0 hr hb .nil pass0 ha hst hpl ht) fun σ H Q q => ?_
  obtain ⟨ps, As, B, S, d, ps', e, q⟩ := q
  unfold fMt at e
  split at e
  · rename_i svA hA
    split at e
    · rename_i hO
      obtain ⟨sv0, svs, ps1, sv, sv', r, h0, h1, h2, hF, rfl⟩ := fMv_some e
      obtain ⟨v, F, k1, k2, k3⟩ := S.sl.get hA
      obtain ⟨a, dx, gs, rfl, ea, el⟩ := k3.isO mask_sub hO
      refine ⟨_, k1, a, dx, gs, rfl, ea, el, ps, As, B, S, svs, ps1, h1, fun vs H1 A1 S1 x1 h => ?_⟩
      simp only [List.append_nil]
      exact sp_mv x1 S1 h2 k1 h hF (D.len _ _ hF) q
    · cases e
  · cases e
theorem xMt0 {F : FX} {k : Nat} {cn mn : Str} {pl : Sem Bool} (D : Mth X.prog X.w X.K X.mg X.base C k m cn mn F) (hr : Room k X.A) (hN : X.N[i]? = some y) (hv : Vis X.env.scope y) (hd : (y == ("__debug__" : Str)) = false := by kernel_rfl) (hcd : (y == ("__classdict__" : Str)) = false := by kernel_rfl)
    (ht : eval (.Call (.Attribute (.Name y p) mn apos) [] [] pos) X.env = (do
      let ov ← eval (.Name y p) X.env
      standAt apos.atName
      let (f, first) ← holding [ov] (getMethod ov mn pl)
      callWith pos f first (backTo pos (starEach [] X.env)) (backToKw pos (keywordEach [] X.env))) := by rfl) :
    PE X (.Call (.Attribute (.Name y p) mn apos) [] [] pos) (tX C (fMt i cn mn F xNilS)) := by
  obtain ⟨ff, fd, ps, F0, hm, hb⟩ := D.ok
  refine pe_weak (pe_meth0 (pe_var hN hv hd hcd) D.cls hm F0 hr hb .nil pass0 ht) fun σ H Q q => ?_
  obtain ⟨ps, As, B, S, d, ps', e, q⟩ := q
  unfold fMt at e
  split at e
  · rename_i svA hA
    split at e
    · rename_i hO
      obtain ⟨sv0, svs, ps1, sv, sv', r, h0, h1, h2, hF, rfl⟩ := fMv_some e
      cases h1
      obtain ⟨v, F, k1, k2, k3⟩ := S.sl.get hA
      obtain ⟨a, dx, gs, rfl, ea, el⟩ := k3.isO mask_sub hO
      refine ⟨_, k1, a, dx, gs, rfl, ea, el, ?_⟩
      exact sp_mv (E := E0) .rfl S h2 k1 .nil hF (D.len _ _ hF) q
    · cases e
  · cases e
end
end Pv
set_option Elab.async false
set_option linter.all false
set_option maxRecDepth 100000
set_option maxHeartbeats 4000000
/-! Pv15: instances made, fields set. -/
namespace Pv
open PySem PySem.Spec PyProof.Rows L2 GxR

def putFs (f : Str) (k : Nat) (d : PyData) : List (Str × Nat × PyData) → List (Str × Nat × PyData)
  | [] => [(f, k, d)]
  | (g, k0, x) :: r => if g = f then (g, k, d) :: r else (g, k0, x) :: putFs f k d r
theorem FlO.put {K : PySem.W.Frag} {M H : Hp} {f : Str} {k : Nat} : ∀ {fs : List (Str × Nat × PyData)} {gs : List (Str × V)} {F : List Addr}, FlO K M H fs gs F → ∃ A Fo Bf, F = A ++ Fo ++ Bf ∧
    ∀ M2 H2 d v F2, Sm M M2 → (∀ a ∈ A ++ Bf, H2 a = H a) → Ow K M2 H2 k v d F2 → FlO K M2 H2 (putFs f k d fs) (putF f v gs) (A ++ F2 ++ Bf)
  | _, _, _, .nil => ⟨[], [], [], rfl, fun M2 H2 d v F2 s e x => by
    have := FlO.cons (f := f) x .nil
    simpa [putFs, putF] using this⟩
  | _, _, _, .cons (f := g) (F := F) (G := G) h hs => by
    by_cases q : g = f
    · refine ⟨[], F, G, by simp, fun M2 H2 d v F2 s e x => ?_⟩
      have := FlO.cons (f := g) x (hs.sm (H' := H2) s fun a ha => e a (by simpa using ha))
      simpa [putFs, putF, q] using this
    · obtain ⟨A, Fo, Bf, h1, h2⟩ := FlO.put hs
      refine ⟨F ++ A, Fo, Bf, by rw [h1]; simp, fun M2 H2 d v F2 s e x => ?_⟩
      have := FlO.cons (f := g) (h.sm (H' := H2) s fun a ha => e a (by simp [ha])) (h2 M2 H2 d v F2 s (fun a ha => e a (by
        rcases List.mem_append.mp ha with z | z
        · simp [z]
        · simp [z])) x)
      simpa [putFs, putF, q] using this
theorem FlO.len {K : PySem.W.Frag} {M H : Hp} : ∀ {fs : List (Str × Nat × PyData)} {gs : List (Str × V)} {F : List Addr}, FlO K M H fs gs F → gs.length = fs.length
  | _, _, _, .nil => rfl
  | _, _, _, .cons _ h => by rw [List.length_cons, List.length_cons, FlO.len h]
def tWS (C : Cfg) (f : PE' → Option (SV × PE')) : TE := fun σ H Q => ∃ ps As B, St C ps σ H As B ∧ ∃ sv ps', f ps = some (sv, ps') ∧
  ∀ v H' As' F, St C ps' σ H' As' (F ++ B) → Ext C H As B H' As' → (∀ a ∈ F, H a = none) → SvO C (msk H' As' (F ++ B)) H' sv v F → Q v H'
def sSetS (i : Nat) (f : PE' → Option (SV × PE')) : FS := fun ps => match f ps with
  | some (sv, ps1) => if i < ps1.length then some (.nx, ps1.set i (some sv)) else none
  | none => none
def sFld (C : Cfg) (n i : Nat) (c f : Str) (g : PE' → Option (PyData × PE')) : FS := fun ps => match g ps with
  | some (d, ps1) => match ps1[i]? with
    | some (some (.o c' true fs)) => if c' = c ∧ fs.length < 1000 ∧ (C.stab f = false ∨ fs.lookup f = none) then some (.nx, ps1.set i (some (.o c' true (putFs f n d fs)))) else none
    | _ => none
  | none => none
section
variable {X : Cx} {C : Cfg} {pin : Nat → Bool} {a b c e o : Expr} {pos p apos : Pos} {n m i : Nat} {es : List Expr} {x y : Str} {ps : PE'} {σ : L2.St} {H H' : Hp} {As : List (List Addr)} {B : List Addr} {pos' : Pos}
theorem tAsg_tSS {f : PE' → Option (SV × PE')} (hpin : pin i = false) : ∀ D σ H, tS C pin (sSetS i f) D σ H → tAsg (tWS C f) (gName i) D σ H := fun D σ H q => by
  obtain ⟨ps, As, B, S, fl, ps', e, q⟩ := q
  unfold sSetS at e
  split at e
  · rename_i sv ps1 h1
    split at e
    · rename_i hl
      cases e
      refine ⟨ps, As, B, S, sv, ps1, h1, fun v H1 A1 F S1 x1 hF o1 => ?_⟩
      obtain ⟨Fi, hFi⟩ := S1.at hl
      have trkF : Trk H1 F := fun a ha => S1.trk a (by simp [ha])
      have ndF : F.Nodup := (List.nodup_append.mp (List.nodup_append.mp S1.nd).2.1).1
      obtain ⟨S2, x2⟩ := St.slotX (F := F) (sv := sv) (v := v) x1 hF S1 hFi (fun b o e _ _ => e) S1.tab (fun _ h => h) .rfl (fun a ha => .inr (.inr ha)) ndF trkF
        (o1.sm (mask_less fun a ha => by
          rcases List.mem_append.mp ha with z | z
          · rcases (flat_split hFi F a).mp z with z | z
            · simp [z]
            · exact List.mem_append_left _ (flat_set_sub z)
          · simp [z]) fun _ _ => rfl)
      exact q _ H1 _ S2 x2 (pin_set hpin)
    · cases e
  · cases e
theorem zSetS {f : PE' → Option (SV × PE')} (hN : X.N.Nodup) (hi : X.N[i]? = some x) (hx : Loc X.env.scope x) (h : PE X a (tWS C f)) (hpin : pin i = false) (hs : swapsWith a (some (.Name x pos')) pos.line X.env = pure false := by rfl) (hf : X.fn x = true ∨ X.env.scope.names.lookup x = some .local := by first | exact .inl rfl | exact .inr rfl | assumption) :
    PS X (.Assign [.Name x pos'] a pos) (tS C pin (sSetS i f)) := ps_weak (ps_set hN hi hx h hs hf) (tAsg_tSS hpin)
/-- self.f = value -/
theorem zFld {g : PE' → Option (PyData × PE')} {f cn : Str} (k : Att X.K C cn f) (hN : X.N[i]? = some x) (hv : Vis X.env.scope x) (h : PE X a (tW C n g)) (hs : swapsWith a (some (.Attribute (.Name x p) f pos')) pos.line X.env = pure false := by rfl) (hd : (x == ("__debug__" : Str)) = false := by kernel_rfl) (hcd : (x == ("__classdict__" : Str)) = false := by kernel_rfl) :
    PS X (.Assign [.Attribute (.Name x p) f pos'] a pos) (tS C pin (sFld C n i cn f g)) := ps_weak (ps_fld (pe_var hN hv hd hcd) h hs) fun D σ H q => by
  obtain ⟨ps, As, B, S, fl, ps', e, q⟩ := q
  unfold sFld at e
  split at e
  · rename_i d ps1 h1
    split at e
    · rename_i cc fs hp
      split at e
      · rename_i hc
        obtain ⟨rfl, hlen, hst⟩ := hc
        cases e
        refine ⟨ps, As, B, S, d, ps1, h1, fun v H1 A1 F S1 x1 hF o1 => ?_⟩
        obtain ⟨u, Fi, k1, k2, k3⟩ := S1.sl.get hp
        cases k3 with
        | om hA hfl =>
          rename_i aa dx gs F0
          refine ⟨_, k1, aa, C.cls cc, dx, gs, rfl, hA, k.cls, k.no, by rw [hfl.len]; exact hlen, ?_⟩
          obtain ⟨A0, Fo, Bf, e1, e2⟩ := hfl.put (f := f) (k := n)
          subst e1
          have hin : ∀ b ∈ aa :: (A0 ++ Fo ++ Bf), b ∈ A1.flatten := fun b hb => flat_get k2 hb
          have ndA : (aa :: (A0 ++ Fo ++ Bf)).Nodup := by
            have hlt : i < A1.length := (List.getElem?_eq_some_iff.mp k2).1
            have := flat_perm (F := aa :: (A0 ++ Fo ++ Bf)) hlt
            rw [set_self k2] at this
            exact (List.nodup_append.mp (this.nodup_iff.mp (List.nodup_append.mp S1.nd).1)).1
          have ndF : F.Nodup := (List.nodup_append.mp (List.nodup_append.mp S1.nd).2.1).1
          have dis : ∀ b ∈ F, b ∉ aa :: (A0 ++ Fo ++ Bf) := fun b hb hz => (List.nodup_append.mp S1.nd).2.2 b (hin b hz) b (List.mem_append_left _ hb) rfl
          rw [List.nodup_cons] at ndA
          have nd1 := List.nodup_append.mp ndA.2
          have nd2 := List.nodup_append.mp nd1.1
          have ne : ∀ b ∈ A0 ++ F ++ Bf, b ≠ aa := fun b hb e => by
            subst e
            rcases List.mem_append.mp hb with z | z
            · rcases List.mem_append.mp z with z | z
              · exact ndA.1 (by simp [z])
              · exact dis b z List.mem_cons_self
            · exact ndA.1 (by simp [z])
          have key := St.slotX (F := aa :: (A0 ++ F ++ Bf)) (sv := .o cc true (putFs f n d fs)) (v := .ref aa) (H' := upd H1 aa (.ins (C.cls cc) dx (putF f v gs))) x1 hF S1 k2 (fun b o e hb _ => by
              rw [upd_ne fun z => hb (by rw [z]; exact List.mem_cons_self)]; exact e) (fun P hP => tab_upd2 hA rfl (S1.tab P hP)) upd_th (fun b c0 dx0 gs0 e => by
              by_cases hb : b = aa
              · subst hb
                rw [hA] at e
                cases e
                refine ⟨_, upd_same, fun f' v' hf' hl => ?_⟩
                rw [lookup_putF]
                split
                · rename_i e
                  subst e
                  rcases hst with z | z
                  · rw [z] at hf'; cases hf'
                  · rw [hfl.non z] at hl; cases hl
                · exact hl
              · exact ⟨_, by rw [upd_ne hb]; exact e, fun _ _ _ h => h⟩) (fun b hb => by
              rcases List.mem_cons.mp hb with z | z
              · exact .inr (.inl (by rw [z]; exact List.mem_cons_self))
              · rcases List.mem_append.mp z with z | z
                · rcases List.mem_append.mp z with z | z
                  · exact .inr (.inl (by simp [z]))
                  · exact .inr (.inr z)
                · exact .inr (.inl (by simp [z])))
              (List.nodup_cons.mpr ⟨fun z => ne aa z rfl, List.nodup_append.mpr ⟨List.nodup_append.mpr ⟨nd2.1, ndF, fun b hb b' hb' e => by subst e; exact dis b hb' (by simp [hb])⟩, nd1.2.1, fun b hb b' hb' e => by
                subst e
                rcases List.mem_append.mp hb with z | z
                · exact nd1.2.2 b (by simp [z]) b hb' rfl
                · exact dis b z (by simp [hb'])⟩⟩)
              (fun b hb => by
                rcases List.mem_cons.mp hb with z | z
                · rw [z]; exact ⟨_, upd_same, rfl⟩
                · have hT : b ∈ A1.flatten ++ (F ++ B) := by
                    rcases List.mem_append.mp z with z | z
                    · rcases List.mem_append.mp z with z | z
                      · exact List.mem_append_left _ (hin b (by simp [z]))
                      · simp [z]
                    · exact List.mem_append_left _ (hin b (by simp [z]))
                  obtain ⟨o, q, ho⟩ := S1.trk b hT
                  exact ⟨o, by rw [upd_ne (ne b z)]; exact q, ho⟩)
              (.om upd_same (e2 _ _ d v F (fun b o e n => by
                obtain ⟨z1, z2⟩ := mask_some e
                have hb : b ∉ (A1.set i (aa :: (A0 ++ F ++ Bf))).flatten ++ B := fun z => by
                  rcases List.mem_append.mp z with z | z
                  · rcases (flat_split k2 _ b).mp z with z | z
                    · rcases List.mem_cons.mp z with z | z
                      · exact z1 (List.mem_append_left _ (hin b (by rw [z]; exact List.mem_cons_self)))
                      · rcases List.mem_append.mp z with z | z
                        · rcases List.mem_append.mp z with z | z
                          · exact z1 (List.mem_append_left _ (hin b (by simp [z])))
                          · exact z1 (by simp [z])
                        · exact z1 (List.mem_append_left _ (hin b (by simp [z])))
                    · exact z1 (List.mem_append_left _ (flat_set_sub z))
                  · exact z1 (by simp [z])
                rw [mask_out hb, upd_ne fun z => z1 (List.mem_append_left _ (hin b (by rw [z]; exact List.mem_cons_self)))]
                exact z2) (fun b hb => upd_ne (ne b (by
                rcases List.mem_append.mp hb with z | z
                · simp [z]
                · simp [z]))) (o1.sm (fun b o e n => by
                obtain ⟨z1, z2⟩ := mask_some e
                have hb : b ∉ (A1.set i (aa :: (A0 ++ F ++ Bf))).flatten ++ B := fun z => by
                  rcases List.mem_append.mp z with z | z
                  · rcases (flat_split k2 _ b).mp z with z | z
                    · rcases List.mem_cons.mp z with z | z
                      · exact z1 (List.mem_append_left _ (hin b (by rw [z]; exact List.mem_cons_self)))
                      · rcases List.mem_append.mp z with z | z
                        · rcases List.mem_append.mp z with z | z
                          · exact z1 (List.mem_append_left _ (hin b (by simp [z])))
                          · exact z1 (by simp [z])
                        · exact z1 (List.mem_append_left _ (hin b (by simp [z])))
                    · exact z1 (List.mem_append_left _ (flat_set_sub z))
                  · exact z1 (by simp [z])
                rw [mask_out hb, upd_ne fun z => z1 (List.mem_append_left _ (hin b (by rw [z]; exact List.mem_cons_self)))]
                exact z2) fun b hb => upd_ne (ne b (by simp [hb])))))
          rw [set_self k1] at key
          exact q _ _ _ key.1 key.2 fun _ _ => rfl
      · cases e
    · cases e
  · cases e
/-! a new instance -/
structure Mkr (P : Program) (w : World) (K : PySem.W.Frag) (mg : Str → Option Value) (base : Heap) (C : Cfg) (k n : Nat) (x c : Str) (F : FX) : Prop where
  ok : ∃ (f : Addr) (fd : FuncData) (ps : List Str), FnOk P w K mg base CX0 k f fd ps (spX C n F) ∧ Mk K (C.cls c) f ∧ mg x = some (.ref (C.cls c)) ∧ Binds K fd ps []
  len : ∀ ps r, F ps = some r → ps.length = n
def fMk (c : Str) (F : FX) (f : PE' → Option (List SV × PE')) : PE' → Option (SV × PE') := fun ps => match f ps with
  | some (svs, ps1) => match F (some (.o c true []) :: svs.map some) with
    | some (.none, some sv' :: _) => some (sv', ps1)
    | _ => none
  | none => none
theorem xMk {F : FX} {f : PE' → Option (List SV × PE')} {k : Nat} {cn : Str} (D : Mkr X.prog X.w X.K X.mg X.base C k m x cn F) (hr : Room (k + 1) X.A) (hg : Gl X x) (ha : PA X (e :: es) (tAY C f)) (hdb : (x == ("__debug__" : Str)) = false := by kernel_rfl) (he : starEach (e :: es) X.env = (false, eval e X.env) :: starEach es X.env := by rfl) (hpl : (backTo pos (starEach es X.env)).any (·.1) = false := by rfl) :
    PE X (.Call (.Name x p) (e :: es) [] pos) (tWS C (fMk cn F f)) := by
  obtain ⟨ff, fd, psn, F0, hM, hm, hb⟩ := D.ok
  refine pe_weak (pe_make hM F0 hr hg hm hb .nil pass0 ha hdb he hpl) fun σ H Q q => ?_
  obtain ⟨ps, As, B, S, sv, ps', e, q⟩ := q
  unfold fMk at e
  split at e
  · rename_i svs ps1 h1
    split at e
    · rename_i sv' r hF
      cases e
      refine ⟨ps, As, B, S, svs, _, h1, fun vs H1 A1 S1 x1 h => fun xa dx hx hdx hne => ?_⟩
      simp only [List.append_nil]
      have hdx' : upd H1 dx (HO.own xa) xa = none := by rw [upd_ne hne.symm]; exact hx
      have gD : Gr C H1 (upd H1 dx (.own xa)) := .upd hdx
      have S2 := S1.gr gD
      have h2 : SvA C (msk (upd H1 dx (.own xa)) A1 B) (upd H1 dx (.own xa)) svs vs := h.sm (mask_sm gD.sm)
      obtain ⟨S3, x3⟩ := S2.grow (o := .ins (C.cls cn) dx []) hdx' rfl
      have em : mask (upd (upd H1 dx (.own xa)) xa (.ins (C.cls cn) dx [])) (([xa] :: svs.map fun _ => []).flatten ++ (A1.flatten ++ B)) = msk (upd (upd H1 dx (.own xa)) xa (.ins (C.cls cn) dx [])) A1 ([xa] ++ B) := by
        rw [List.flatten_cons, flat_nils', List.append_nil]
        funext b
        unfold msk mask
        by_cases hb : b ∈ A1.flatten ++ ([xa] ++ B)
        · rw [if_pos hb, if_pos (by simp at hb ⊢; rcases hb with z | z | z <;> simp [z])]
        · rw [if_neg hb, if_neg (by simp at hb ⊢; exact ⟨hb.2.1, hb.1, hb.2.2⟩)]
      have ndc : (([xa] :: svs.map fun _ => ([] : List Addr)).flatten ++ (A1.flatten ++ B)).Nodup := by
        rw [List.flatten_cons, flat_nils', List.append_nil]
        have := S3.nd
        refine (List.Perm.nodup_iff ?_).mp this
        rw [← List.append_assoc, ← List.append_assoc]
        exact List.Perm.append_right _ List.perm_append_comm
      have Sc : St C (some (.o cn true []) :: svs.map some) (some (.ref xa) :: vs.map some) (upd (upd H1 dx (.own xa)) xa (.ins (C.cls cn) dx [])) ([xa] :: svs.map fun _ => []) (A1.flatten ++ B) := by
        refine ⟨?_, ndc, fun b hb => S3.trk b ?_, S3.tab⟩
        · rw [em]
          refine Sl.so (.om upd_same .nil) (h2.sm (.grow S2 hdx')).sl
        · rw [List.flatten_cons, flat_nils', List.append_nil] at hb
          simp at hb ⊢
          rcases hb with z | z | z <;> simp [z]
      refine ⟨_, _, _, Sc, D.len _ _ hF, .none, _, hF, fun v H' Fs' S' x hv => ⟨by cases hv; rfl, ?_⟩⟩
      have sl := S'.sl
      cases sl with
      | so x0 hr' =>
        rename_i F1 Fr
        have fresh : ∀ b ∈ F1, H1 b = none := fun b hb => by
          rcases x.ow b (by simp [hb]) with z | z
          · rw [List.flatten_cons, flat_nils', List.append_nil] at z
            rw [List.mem_singleton.mp z]; exact hx
          · by_cases e : H1 b = none
            · exact e
            · exact absurd z (upd_th b (upd_th b e))
        have x13 : Ext C H1 A1 B (upd (upd H1 dx (.own xa)) xa (.ins (C.cls cn) dx [])) A1 := (S1.gext gD).trans x3
        have nB : ∀ b ∈ A1.flatten ++ B, H' b = H1 b := fun b hb => by
          rw [x.fr b hb]
          obtain ⟨o, eo, _⟩ := S1.trk b hb
          rw [upd_ne (fun z => by rw [z, hx] at eo; cases eo), upd_ne (fun z => by rw [z, hdx] at eo; cases eo)]
        have sm1 : Sm (msk H1 A1 B) (msk H' A1 (F1 ++ B)) := fun b o e n => by
          obtain ⟨z1, z2⟩ := mask_some e
          have hx' : b ≠ xa := fun z => by rw [z, hx] at z2; cases z2
          have hd' : b ≠ dx := fun z => by rw [z, hdx] at z2; cases z2
          have e1 : msk (upd (upd H1 dx (.own xa)) xa (.ins (C.cls cn) dx [])) ([xa] :: svs.map fun _ => []) (A1.flatten ++ B) b = some o := by
            unfold msk
            rw [List.flatten_cons, flat_nils', List.append_nil, mask_out, upd_ne hx', upd_ne hd']
            · exact z2
            · intro z
              rcases List.mem_append.mp z with z | z
              · exact hx' (List.mem_singleton.mp z)
              · exact z1 z
          obtain ⟨z3, z4⟩ := mask_some (x.sm b o e1 n)
          unfold msk
          rw [mask_out]
          · exact z4
          · intro z
            rcases List.mem_append.mp z with z | z
            · exact z1 (List.mem_append_left _ z)
            · rcases List.mem_append.mp z with z | z
              · rw [fresh b z] at z2; cases z2
              · exact z1 (List.mem_append_right _ z)
        have hsub : ∀ b ∈ A1.flatten ++ (F1 ++ B), b ∈ (F1 :: Fr).flatten ++ (A1.flatten ++ B) := fun b hb => by
          simp at hb ⊢
          rcases hb with z | z | z <;> simp [z]
        have nd' := S'.nd
        have ndp : (A1.flatten ++ (F1 ++ B)).Nodup := by
          have hs : (F1 ++ (A1.flatten ++ B)).Sublist ((F1 :: Fr).flatten ++ (A1.flatten ++ B)) := by
            rw [List.flatten_cons]
            exact (List.sublist_append_left F1 _).append (List.Sublist.refl _)
          refine (List.Perm.nodup_iff ?_).mp (nd'.sublist hs)
          rw [← List.append_assoc, ← List.append_assoc]
          exact List.Perm.append_right _ List.perm_append_comm
        have S4 : St C ps' σ H' A1 (F1 ++ B) := ⟨S1.sl.sm sm1 fun b hb => nB b (List.mem_append_left _ hb), ndp, fun b hb => S'.trk b (hsub b hb), S'.tab⟩
        have x4 : Ext C H A1 B H' A1 ∨ True := .inr trivial
        have x14 : Ext C H1 A1 B H' A1 := ⟨sm1.trans (mask_less fun b hb => by
          rcases List.mem_append.mp hb with z | z
          · simp [z]
          · simp [z]), fun b hb => .inl hb, fun b hb => nB b (List.mem_append_right _ hb), fun b hb => x.th b (upd_th b (upd_th b hb)), (Fx.of (gD.sm.trans (sm_upd hdx'))).trans x.fx⟩
        refine q _ H' A1 F1 S4 (x1.trans x14) (fun b hb => ?_) (x0.sm (mask_less hsub) fun _ _ => rfl)
        by_cases e : H b = none
        · exact e
        · exact absurd (fresh b hb) (x1.th b e)
    · cases e
  · cases e
end
end Pv
set_option Elab.async false
set_option linter.all false
set_option maxRecDepth 100000
set_option maxHeartbeats 4000000
/-! Pv16: isinstance, the script, gcd, isqrt. -/
namespace Pv
open PySem PySem.Spec PyProof.Rows L2 GxR

def tyD : PyData → String
  | .none => "NoneType"
  | .bool _ => "bool"
  | .int _ => "int"
  | .str _ => "str"
  | .list _ => "list"
  | .tuple _ => "tuple"
  | .dict _ => "dict"
inductive Ty6 where
  | list | tuple | str | bool | int | dict
def Ty6.nm : Ty6 → String
  | .list => "list"
  | .tuple => "tuple"
  | .str => "str"
  | .bool => "bool"
  | .int => "int"
  | .dict => "dict"
def isTy : PyData → Ty6 → Bool
  | .list _, .list => true
  | .tuple _, .tuple => true
  | .str _, .str => true
  | .bool _, .bool => true
  | .bool _, .int => true
  | .int _, .int => true
  | .dict _, .dict => true
  | _, _ => false
theorem kit_all {K : PySem.W.Frag} : ∀ (d : PyData) (T : Ty6), PySem.W.kitOne K (.type (tyD d)) (.type T.nm) = some (isTy d T) := by
  intro d T
  apply kit_ty
  cases d <;> cases T <;> (show kitB _ _ = some _) <;> (simp only [tyD, Ty6.nm, isTy]; decide +kernel)
theorem SqT.ty {K : PySem.W.Frag} {H : Hp} {a : Addr} {xs : List V} (h : SqT K H a xs) : TyX K H (.ref a) (.type "tuple") := by
  rcases h with h | ⟨o, its, n, h1, h2, _⟩
  · rcases h with h | ⟨o, h⟩
    · exact .base (.tup h)
    · exact .fTuple h
  · exact .kTuple h1 h2
theorem Pk.tyX {K : PySem.W.Frag} {M H : Hp} {n : Nat} {v : V} {d : PyData} (s : Sm M H) (h : Pk K M H n v d) : TyX K H v (.type (tyD d)) := by
  have hh := h.dn s
  clear h
  cases hh with
  | non => exact .base .non
  | bl => exact .base (.bl _)
  | int => exact .base (.int _)
  | str => exact .base (.str _)
  | lst h => exact .base (.lst h)
  | tup h => exact SqT.ty h
  | dK h => exact .base (.dK h)
  | dT h => exact .base (.dT h)
def fIsi (T : Ty6) (g : PE' → Option PyData) : PE' → Option PyData := fun ps => match g ps with
  | some d => some (.bool (isTy d T))
  | none => none
def fIsi2 (T U : Ty6) (g : PE' → Option PyData) : PE' → Option PyData := fun ps => match g ps with
  | some d => some (.bool (isTy d T || isTy d U))
  | none => none
section
variable {X : Cx} {C : Cfg} {a b c e o : Expr} {pos p apos q1 q2 q3 : Pos} {n m i k : Nat} {es : List Expr} {x y T1 T2 : Str} {g : PE' → Option PyData}
theorem eIsi (T : Ty6) (hK : X.K = C.K) (hg : Gl X "isinstance") (hm : X.mg "isinstance" = none) (ha : PE X a (tP C m g)) (ht : Gl X T1) (htm : X.mg T1 = none) (hv : bootBuiltins T1 = some (.type T.nm))
    (hn : T1 ≠ "__name__" := by decide) (hd : (T1 == ("__debug__" : Str)) = false := by kernel_rfl)
    (he : starEach [a, .Name T1 q1] X.env = (false, eval a X.env) :: starEach [.Name T1 q1] X.env := by rfl) (he2 : starEach [.Name T1 q1] X.env = (false, eval (.Name T1 q1) X.env) :: starEach [] X.env := by rfl) (hpl : (backTo pos (starEach [.Name T1 q1] X.env)).any (·.1) = false := by rfl) :
    PE X (.Call (.Name "isinstance" p) [a, .Name T1 q1] [] pos) (tP C n (fIsi T g)) :=
  pe_weak (pe_callB call_isi hg hm PyProof.Rows.boot_isinstance (pa_cons ha (pa_cons (pe_bltn (v := .ty T.nm) ht htm hv rfl hn hd) pa_nil he2) he) (by decide) (by decide) he hpl) fun σ H Q q => by
    obtain ⟨ps, As, B, S, z, e, q⟩ := q
    unfold fIsi at e
    split at e
    · rename_i d hd'
      cases e
      exact ⟨ps, As, B, S, d, hd', fun v H1 g1 p1 => ⟨v, .ty T.nm, _, _, _, rfl, .ty _, by rw [hK]; exact p1.tyX mask_sub, kit_all d T, q _ H1 g1 (.sh (.bl _))⟩⟩
    · cases e
theorem eIsi2 (T U : Ty6) {kk : Nat} (hK : X.K = C.K) (hg : Gl X "isinstance") (hm : X.mg "isinstance" = none) (ha : PE X a (tP C m g)) (ht : Gl X T1) (htm : X.mg T1 = none) (hv : bootBuiltins T1 = some (.type T.nm)) (ht' : Gl X T2) (htm' : X.mg T2 = none) (hv' : bootBuiltins T2 = some (.type U.nm))
    (hn : T1 ≠ "__name__" := by decide) (hd : (T1 == ("__debug__" : Str)) = false := by kernel_rfl) (hn' : T2 ≠ "__name__" := by decide) (hd' : (T2 == ("__debug__" : Str)) = false := by kernel_rfl)
    (he : starEach [a, .Tuple [.Name T1 q1, .Name T2 q2] kk q3] X.env = (false, eval a X.env) :: starEach [.Tuple [.Name T1 q1, .Name T2 q2] kk q3] X.env := by rfl) (he2 : starEach [.Tuple [.Name T1 q1, .Name T2 q2] kk q3] X.env = (false, eval (.Tuple [.Name T1 q1, .Name T2 q2] kk q3) X.env) :: starEach [] X.env := by rfl)
    (he3 : starEach [.Name T1 q1, .Name T2 q2] X.env = (false, eval (.Name T1 q1) X.env) :: starEach [.Name T2 q2] X.env := by rfl) (he4 : starEach [.Name T2 q2] X.env = (false, eval (.Name T2 q2) X.env) :: starEach [] X.env := by rfl) (hpl : (backTo pos (starEach [.Tuple [.Name T1 q1, .Name T2 q2] kk q3] X.env)).any (·.1) = false := by rfl) :
    PE X (.Call (.Name "isinstance" p) [a, .Tuple [.Name T1 q1, .Name T2 q2] kk q3] [] pos) (tP C n (fIsi2 T U g)) :=
  pe_weak (pe_callB call_isiT hg hm PyProof.Rows.boot_isinstance (pa_cons ha (pa_cons (pe_tup (pa_cons (pe_bltn (v := .ty T.nm) ht htm hv rfl hn hd) (pa_cons (pe_bltn (v := .ty U.nm) ht' htm' hv' rfl hn' hd') pa_nil he4) he3)) pa_nil he2) he) (by decide) (by decide) he hpl) fun σ H Q q => by
    obtain ⟨ps, As, B, S, z, e, q⟩ := q
    unfold fIsi2 at e
    split at e
    · rename_i d hd'
      cases e
      refine ⟨ps, As, B, S, d, hd', fun v H1 g1 p1 => ⟨by show 2 ≤ sizeLine; decide, fun tp htp => ?_⟩⟩
      have gT : Gr C H1 (upd H1 tp (.tup [.ty T.nm, .ty U.nm])) := .upd htp
      refine ⟨v, tp, _, _, [.type T.nm, .type U.nm], _, rfl, upd_same, .cons (.ty _) (.cons (.ty _) .nil), by rw [hK]; exact (p1.sm (mask_sm gT.sm) gT.sm).tyX mask_sub, kitAny_cons (kit_all d T) (fun hb => kitAny_cons (r := isTy d T || isTy d U) (kit_all d U) (fun hc => by rw [hb, hc]; exact kitAny_nil) (fun hc => by rw [hc]; simp)) (fun hb => by rw [hb]; simp), q _ _ (g1.trans gT) (.sh (.bl _))⟩
    · cases e
/-! the script -/
def scrAt (i : Nat) (ps : PE') : Option (List Int) := match ps[i]? with
  | some (some (.scr ns)) => some ns
  | _ => none
theorem scrAt_sl {ps : PE'} {σ : L2.St} {H : Hp} {As : List (List Addr)} {B : List Addr} {ns : List Int} (S : St C ps σ H As B) (h : scrAt i ps = some ns) : ∃ a, σ[i]? = some (some (.ref a)) ∧ SqL C.K H a (ns.map V.int) := by
  unfold scrAt at h
  split at h
  · rename_i ns' hp
    cases h
    obtain ⟨v, F, h1, h2, h3⟩ := S.sl.get hp
    cases h3 with
    | scr h3 => exact ⟨_, h1, mask_sub.sqL h3⟩
  · cases h
def fScrT (i : Nat) : PE' → Option Bool := fun ps => match scrAt i ps with
  | some ns => some (!ns.isEmpty)
  | none => none
def fScrL (i : Nat) : PE' → Option PyData := fun ps => match scrAt i ps with
  | some ns => some (.int ns.length)
  | none => none
def fScrI (i : Nat) (g : PE' → Option PyData) : PE' → Option PyData := fun ps => match scrAt i ps with
  | some ns => match g ps with
    | some (.int k) => match atI ns k with
      | some z => some (.int z)
      | none => none
    | _ => none
  | none => none
theorem tScr (hK : X.K = C.K) (hN : X.N[i]? = some x) (hv : Vis X.env.scope x) (hd : (x == ("__debug__" : Str)) = false := by kernel_rfl) (hcd : (x == ("__classdict__" : Str)) = false := by kernel_rfl) (he : ∀ whole, isTrue (.Name x pos) X.env whole = (do let v ← whole; standAt pos; holding [v] (truthy v)) := by intro _; rfl) : PT X (.Name x pos) (tT C (fScrT i)) :=
  pt_weak (pt_truth (pe_var hN hv hd hcd) he) fun σ H Q q => by
    obtain ⟨ps, As, B, S, z, e, q⟩ := q
    unfold fScrT at e
    split at e
    · rename_i ns hns
      cases e
      obtain ⟨a, h1, h2⟩ := scrAt_sl S hns
      refine ⟨_, h1, _, .inl ⟨_, by rw [hK]; exact h2, ?_⟩, q H .rfl⟩
      rw [List.isEmpty_map]
    · cases e
theorem eScrL (hK : X.K = C.K) (hg : Gl X "len") (hm : X.mg "len" = none) (hN : X.N[i]? = some x) (hv : Vis X.env.scope x) (hd : (x == ("__debug__" : Str)) = false := by kernel_rfl) (hcd : (x == ("__classdict__" : Str)) = false := by kernel_rfl)
    (he : starEach [.Name x q1] X.env = (false, eval (.Name x q1) X.env) :: starEach [] X.env := by rfl) (hpl : (backTo pos (starEach [] X.env)).any (·.1) = false := by rfl) : PE X (.Call (.Name "len" p) [.Name x q1] [] pos) (tP C n (fScrL i)) :=
  pe_weak (pe_callB call_len_seq hg hm PySem.boot_len (pa_cons (pe_var hN hv hd hcd) pa_nil he) (by decide) (by decide) he hpl) fun σ H Q q => by
    obtain ⟨ps, As, B, S, z, e, q⟩ := q
    unfold fScrL at e
    split at e
    · rename_i ns hns
      cases e
      obtain ⟨a, h1, h2⟩ := scrAt_sl S hns
      refine ⟨_, h1, a, _, rfl, .inl (by rw [hK]; exact h2), ?_⟩
      rw [List.length_map]
      exact q _ H .rfl (.sh (.int _))
    · cases e
theorem eScrI (hK : X.K = C.K) (hN : X.N[i]? = some x) (hv : Vis X.env.scope x) (hb : PE X b (tP C 1 g)) (hs : PlainIx b := by exact fun _ _ => rfl) (hd : (x == ("__debug__" : Str)) = false := by kernel_rfl) (hcd : (x == ("__classdict__" : Str)) = false := by kernel_rfl) : PE X (.Subscript (.Name x q1) b pos) (tP C n (fScrI i g)) :=
  pe_weak (pe_ix ix_list (pe_var hN hv hd hcd) hb hs) fun σ H Q q => by
    obtain ⟨ps, As, B, S, z, e, q⟩ := q
    unfold fScrI at e
    split at e
    · rename_i ns hns
      split at e
      · rename_i k hk
        split at e
        · rename_i w hw
          cases e
          obtain ⟨a, h1, h2⟩ := scrAt_sl S hns
          refine ⟨_, h1, ps, As, B, S, _, hk, fun y H1 g1 p1 => ?_⟩
          refine ⟨a, _, k, .int w, rfl, p1.int, by rw [hK]; exact g1.sm.sqL h2, ?_, q _ H1 g1 (.sh (.int _))⟩
          unfold atI at hw ⊢
          rw [List.length_map]
          cases hx : ixN ns.length k with
          | none => rw [hx] at hw; cases hw
          | some j =>
            rw [hx] at hw
            have hw' : ns[j]? = some w := hw
            show (ns.map V.int)[j]? = some (.int w)
            rw [List.getElem?_map, hw']; rfl
        · cases e
      · cases e
    · cases e
/-! numbers of modules -/
def gcdD : List PyData → Option PyData
  | [.int a, .int b] => some (.int ((Nat.gcd a.natAbs b.natAbs : Nat) : Int))
  | _ => none
theorem vGcd : VCall C m n rGcd gcdD := by
  intro H L vs ds z Q t hx hf q
  unfold gcdD at hf
  split at hf
  · cases hf
    obtain ⟨v, u, rfl, h, h2⟩ := hx.two
    rw [h.int, h2.int]
    exact ⟨_, _, rfl, q _ H .rfl (.sh (.int _))⟩
  · cases hf
def rSqrt : List V → Hp → VK → Prop := fun vs H Q => ∃ a : Int, vs = [.int a] ∧ 0 ≤ a ∧ a < 2 ^ 64 ∧ Q (.int ((Float64.isqrt a.toNat : Nat) : Int)) H
theorem cr_isqrt : CallR X (.builtin "math.isqrt") rSqrt := by
  intro pins s σ H vs us Q I r h
  obtain ⟨a, rfl, h0, h1, q⟩ := h
  obtain ⟨u, rfl, ru⟩ := r.one
  obtain ⟨t, rfl⟩ := ru
  exact PySem.W.mg_isqrt h0 h1 ⟨.int _, H, I.tok _, ⟨_, rfl⟩, q⟩
def sqrtD : List PyData → Option PyData
  | [.int a] => if 0 ≤ a ∧ a < 18446744073709551616 then some (.int ((Float64.isqrt a.toNat : Nat) : Int)) else none
  | _ => none
theorem vSqrt : VCall C m n rSqrt sqrtD := by
  intro H L vs ds z Q t hx hf q
  unfold sqrtD at hf
  split at hf
  · split at hf
    · rename_i h
      cases hf
      exact ⟨_, hx.ints1, h.1, by omega, q _ H .rfl (.sh (.int _))⟩
    · cases hf
  · cases hf
theorem eFun {id : String} {r : List V → Hp → VK → Prop} {f : List PyData → Option PyData} {g : PE' → Option (List PyData)} (hc : CallR X (.builtin id) r) (v : VCall C m n r f) (hg : Gl X x) (hm : X.mg x = some (.builtin id)) (ha : PAg X C m (a :: es) g) (hdb : (x == ("__debug__" : Str)) = false := by kernel_rfl)
    (he : starEach (a :: es) X.env = (false, eval a X.env) :: starEach es X.env := by rfl) (hpl : (backTo pos (starEach es X.env)).any (·.1) = false := by rfl) : PE X (.Call (.Name x p) (a :: es) [] pos) (tP C n (fCall f g)) :=
  pe_weak (pe_callBfun hc hg hm ha.pa hdb he hpl) (tCB_tP v)
end
end Pv
set_option Elab.async false
set_option linter.all false
set_option maxRecDepth 100000
set_option maxHeartbeats 4000000
/-! Pv17: loops over a list as it stands; instances let go. -/
namespace Pv
open PySem PySem.Spec PyProof.Rows L2 GxR

def seqAt (p : Pth) (ps : PE') : Option (List PyData) := match ps[p.1]? with
  | some (some sv) => match getP sv p.2.1 p.2.2 with
    | some (1, .list ds) => some ds
    | _ => none
  | _ => none
def loopPl (p : Pth) (ft : PyData → PE' → Option PE') (fb : FS) : Nat → Nat → FS
  | 0, _, _ => none
  | n + 1, k, ps => match seqAt p ps with
    | some ds => match ds[k]? with
      | none => some (.nx, ps)
      | some d => match ft d ps with
        | some ps1 => match fb ps1 with
          | some (.nx, ps2) => loopPl p ft fb n (k + 1) ps2
          | some (.ct, ps2) => loopPl p ft fb n (k + 1) ps2
          | some (.bk, ps2) => some (.nx, ps2)
          | some (.rt z, ps2) => some (.rt z, ps2)
          | none => none
        | none => none
    | none => none
def sForPl (C : Cfg) (pin : Nat → Bool) (n : Nat) (gp : PE' → Option Pth) (ft : PyData → PE' → Option PE') (fb : FS) : FS := fun ps => match gp ps with
  | some (i, some f, []) => if pin i && C.stab f then loopPl (i, some f, []) ft fb n 0 ps else none
  | _ => none
section
variable {X : Cx} {C : Cfg} {pin : Nat → Bool} {a b c e o : Expr} {pos p apos : Pos} {n m i : Nat} {es : List Expr} {x y : Str}
theorem seqAt_pl {ps : PE'} {σ : L2.St} {H : Hp} {As : List (List Addr)} {B : List Addr} {pp : Pth} {ds : List PyData} {v : V} (S : St C ps σ H As B) (h : seqAt pp ps = some ds) (pl : PlaceV σ H pp v) : ∃ l xs, v = .ref l ∧ H l = some (.lst xs) ∧ DnA C.K (msk H As B) xs ds := by
  unfold seqAt at h
  split at h
  · rename_i sv hp
    split at h
    · rename_i ds' hg
      cases h
      obtain ⟨p1, p2, p3⟩ := pp
      obtain ⟨F', o⟩ := S.place hp hg pl
      cases o with
      | ow h hs => exact ⟨_, _, rfl, h, hs.zeroF.2⟩
    · cases h
  · cases h
theorem resP_fx {H H' : Hp} {u v : V} {f : Str} (x : Fx C H H') (hf : C.stab f = true) (h : resP H u (some f) [] = some v) : resP H' u (some f) [] = some v := by
  unfold resP at h ⊢
  dsimp only at h ⊢
  split at h
  · split at h
    · rename_i cc dx gs hH
      split at h
      · rename_i w hw
        obtain ⟨gs', e1, e2⟩ := x _ _ _ _ hH
        rw [e1]
        dsimp only
        rw [e2 f w hf hw]
        exact h
      · cases h
    · cases h
  · cases h
theorem zForPl {iter tg : Expr} {body : List Stmt} {gp : PE' → Option Pth} {ft : PyData → PE' → Option PE'} {fb : FS} (k : Nat) (hK : X.K = C.K) (hp : PassesOwn (model X.prog X.w) X.A X.env X.xe) (hc : X.calm = true) (hi : PE X iter (tL C gp)) (hg : PG X tg (tG C pin ft)) (hb : PSs X body (tS C pin fb))
    (hs : ∀ x, foldedSetIterable iter X.env x = pure x := by intro _; rfl) : PS X (.For tg iter body [] pos) (tS C pin (sForPl C pin k gp ft fb)) := ps_weak (ps_for hp hc (pi_list hi) hg hb hs) fun D σ0 H q => by
  obtain ⟨ps, As, B, S, fl, psE, e, q⟩ := q
  unfold sForPl at e
  split at e
  · rename_i i f hgp
    split at e
    · rename_i hpf
      rw [Bool.and_eq_true] at hpf
      refine ⟨ps, As, B, S, _, hgp, fun v H1 g1 pl => ?_⟩
      have S1 := S.gr g1
      obtain ⟨l, xs, rfl, hl, _⟩ : ∃ l xs, v = .ref l ∧ H1 l = some (.lst xs) ∧ True := by
        cases k with
        | zero => cases e
        | succ k =>
          unfold loopPl at e
          split at e
          · rename_i ds hds
            obtain ⟨l, xs, e1, e2, _⟩ := seqAt_pl S1 hds pl
            exact ⟨l, xs, e1, e2, trivial⟩
          · cases e
      refine ⟨l, rfl, ⟨xs, SqL.of hl⟩, fun j m σ H => ∃ ps A, St C ps σ H A B ∧ Ext C H1 As B H A ∧ (∀ i, pin i = true → σ[i]? = σ0[i]?) ∧ loopPl (i, some f, []) ft fb m j ps = some (fl, psE), ⟨k, ps, As, S1, .rfl, fun _ _ => rfl, e⟩, ?_⟩
      rintro j m σ H2 ⟨ps2, A2, S2, x2, p2, e⟩
      cases m with
      | zero => cases e
      | succ m =>
        have pl2 : PlaceV σ H2 (i, some f, []) (.ref l) := by
          obtain ⟨u, k1, k2⟩ := pl
          exact ⟨u, by rw [p2 i hpf.1]; exact k1, resP_fx x2.fx hpf.2 k2⟩
        unfold loopPl at e
        split at e
        · rename_i ds hds
          obtain ⟨l', xs2, e1, hl2, o2⟩ := seqAt_pl S2 hds pl2
          cases e1
          have hq : SqL X.K H2 l xs2 := SqL.of hl2
          split at e
          · rename_i hn
            cases e
            refine .inl ⟨⟨xs2, hq, ?_⟩, q σ H2 A2 S2 ((S.gext g1).trans x2) p2⟩
            rw [o2.length]
            exact List.getElem?_eq_none_iff.mp hn
          · rename_i d hd
            obtain ⟨w, hw, hdn⟩ := o2.get hd
            refine .inr ⟨⟨xs2, w, hq, hw⟩, fun σ H => ∃ ps A, St C ps σ H A B ∧ Ext C H1 As B H A ∧ (∀ i, pin i = true → σ[i]? = σ0[i]?) ∧ loopPl (i, some f, []) ft fb m (j + 1) ps = some (fl, psE), fun σ' H' h => ⟨m, Nat.lt_succ_self _, h⟩, fun x' H' hy => ?_⟩
            obtain ⟨rfl, hy⟩ := hy
            have ex : x' = w := Option.some.inj ((hy _ hq).symm.trans hw)
            subst ex
            split at e
            · rename_i ps3 h3
              refine ⟨ps2, A2, B, S2, d, ps3, hdn, h3, fun σ3 S3 p3 => ?_⟩
              have pp : ∀ i, pin i = true → σ3[i]? = σ0[i]? := fun i hi => (p3 i hi).trans (p2 i hi)
              split at e
              · rename_i ps4 h4
                exact ⟨ps3, A2, B, S3, .nx, ps4, h4, fun σ4 H4 A4 S4 x4 p4 => ⟨ps4, A4, S4, x2.trans x4, fun i hi => (p4 i hi).trans (pp i hi), e⟩⟩
              · rename_i ps4 h4
                exact ⟨ps3, A2, B, S3, .ct, ps4, h4, fun σ4 H4 A4 S4 x4 p4 => ⟨ps4, A4, S4, x2.trans x4, fun i hi => (p4 i hi).trans (pp i hi), e⟩⟩
              · rename_i ps4 h4
                cases e
                exact ⟨ps3, A2, B, S3, .bk, _, h4, fun σ4 H4 A4 S4 x4 p4 => q σ4 H4 A4 S4 ((S.gext g1).trans (x2.trans x4)) fun i hi => (p4 i hi).trans (pp i hi)⟩
              · rename_i z ps4 h4
                cases e
                exact ⟨ps3, A2, B, S3, .rt z, _, h4, fun σ4 H4 A4 S4 x4 p4 => q σ4 H4 A4 S4 ((S.gext g1).trans (x2.trans x4)) fun i hi => (p4 i hi).trans (pp i hi)⟩
              · cases e
            · cases e
        · cases e
    · cases e
  · cases e
/-! an instance let go -/
theorem FlO.dnx {K : PySem.W.Frag} {M M' H : Hp} (s : Sm M M') : ∀ {fs : List (Str × Nat × PyData)} {gs : List (Str × V)} {F : List Addr}, FlO K M H fs gs F → (∀ a ∈ F, M' a = H a) → FlO K M' M' (frzFs fs) gs [] ∧ ∀ p ∈ frzFs fs, p.2.1 = 0
  | _, _, _, .nil, _ => ⟨.nil, fun _ h => nomatch h⟩
  | _, _, _, .cons h hs, e => by
    obtain ⟨h1, h2⟩ := FlO.dnx s hs fun a ha => e a (List.mem_append_right _ ha)
    refine ⟨FlO.cons (F := []) (G := []) (.sh (h.dnx s fun a ha => e a (List.mem_append_left _ ha))) h1, fun p hp => ?_⟩
    rcases List.mem_cons.mp hp with z | hp
    · rw [z]
    · exact h2 p hp
def frzO (i : Nat) (ps : PE') : PE' := match ps[i]? with
  | some (some (.o c true fs)) => ps.set i (some (.o c false (frzFs fs)))
  | _ => ps
theorem St.frzO {ps : PE'} {σ : L2.St} {H : Hp} {As : List (List Addr)} {B : List Addr} (S : St C ps σ H As B) (i : Nat) : ∃ As', St C (Pv.frzO i ps) σ H As' B ∧ Ext C H As B H As' := by
  unfold Pv.frzO
  split
  · rename_i c fs hp
    obtain ⟨v, F, h1, h2, h3⟩ := S.sl.get hp
    cases h3 with
    | om h hs =>
      rename_i aa dx gs F0
      have hlt : i < As.length := (List.getElem?_eq_some_iff.mp h2).1
      have self : As.set i (aa :: F0) = As := set_self h2
      have p0 : (As.flatten ++ B).Perm ((aa :: F0) ++ ((As.set i []).flatten ++ B)) := by
        have := (flat_perm (F := aa :: F0) hlt).append_right B
        rw [self, List.append_assoc] at this
        exact this
      have nd2 := p0.nodup_iff.mp S.nd
      have sm : Sm (msk H As B) (mask H ((As.set i []).flatten ++ B)) := mask_less fun b hb => p0.mem_iff.mpr (List.mem_append_right _ hb)
      have out : ∀ b ∈ aa :: F0, mask H ((As.set i []).flatten ++ B) b = H b := fun b hb => mask_out fun hz => (List.nodup_append.mp nd2).2.2 b hb b hz rfl
      obtain ⟨k1, k2⟩ := hs.dnx sm fun b hb => out b (List.mem_cons_of_mem _ hb)
      obtain ⟨r1, r2⟩ := S.slot (F := []) (sv := .o c false (frzFs fs)) (v := .ref aa) h2 (fun b o e _ _ => e) S.tab (fun _ h => h) .rfl (fun _ h => nomatch h) .nil (fun _ h => nomatch h)
        (.of ((out aa List.mem_cons_self).trans h) k1 k2)
      rw [set_self h1] at r1
      exact ⟨_, r1, r2⟩
  · exact ⟨As, S, .rfl⟩
def sFrzO (i : Nat) (f : FS) : FS := fun ps => f (frzO i ps)
theorem zFrzO {st : Stmt} {f : FS} (i : Nat) (h : PS X st (tS C pin f)) : PS X st (tS C pin (sFrzO i f)) := ps_weak h fun D σ H q => by
  obtain ⟨ps, As, B, S, fl, ps', e, q⟩ := q
  obtain ⟨A1, S1, x1⟩ := S.frzO i
  exact ⟨_, A1, B, S1, fl, ps', e, fun σ2 H2 A2 S2 x2 p2 => q σ2 H2 A2 S2 (x1.trans x2) p2⟩
end
end Pv
set_option Elab.async false
set_option linter.all false
set_option maxRecDepth 100000
set_option maxHeartbeats 4000000
/-! Pv18: short words for derivations. -/
namespace Pv
open PySem PySem.Spec PyProof.Rows L2 GxR

def visB (sc : Scope) (x : Str) : Bool := match sc.names.lookup x with
  | some .local => true
  | some .cell => true
  | some .free => true
  | _ => false
theorem vis_by {sc : Scope} {x : Str} (h : visB sc x = true) : Vis sc x := by
  unfold visB at h
  split at h
  · exact .inl (by assumption)
  · exact .inr (.inl (by assumption))
  · exact .inr (.inr (by assumption))
  · cases h
def locB (sc : Scope) (x : Str) : Bool := match sc.names.lookup x with
  | some .local => true
  | some .cell => true
  | _ => false
theorem loc_by {sc : Scope} {x : Str} (h : locB sc x = true) : Loc sc x := by
  unfold locB at h
  split at h
  · exact .inl (by assumption)
  · exact .inr (by assumption)
  · cases h
def fnB (X : Cx) (x : Str) : Bool := X.fn x || (match X.env.scope.names.lookup x with
  | some .local => true
  | _ => false)
theorem fn_by {X : Cx} {x : Str} (h : fnB X x = true) : X.fn x = true ∨ X.env.scope.names.lookup x = some .local := by
  unfold fnB at h
  rw [Bool.or_eq_true] at h
  rcases h with h | h
  · exact .inl h
  · split at h
    · exact .inr (by assumption)
    · cases h
theorem gl_by {X : Cx} {x : Str} (h : X.env.kindOf x = some .globalImplicit) : Gl X x := h
structure Blt (X : Cx) (C : Cfg) (x : Str) (f : List PyData → Option PyData) : Prop where
  ok : (∃ id r, bootBuiltins x = some (.builtin id) ∧ CallR X (.builtin id) r ∧ ∀ n, VCall C 1 n r f) ∨ (∃ id r, bootBuiltins x = some (.type id) ∧ CallR X (.type id) r ∧ ∀ n, VCall C 1 n r f)
section
variable {X : Cx} {C : Cfg} {a b c e o : Expr} {pos p apos q1 q2 : Pos} {n m i : Nat} {es : List Expr} {x y : Str} {f : List PyData → Option PyData}
theorem bLen (hK : X.K = C.K) : Blt X C "len" lenD := ⟨.inl ⟨_, _, PySem.boot_len, call_len, fun n => by rw [hK]; exact vLen⟩⟩
theorem bAbs (hK : X.K = C.K) : Blt X C "abs" absD := ⟨.inl ⟨_, _, by decide +kernel, call_abs, fun n => vAbs⟩⟩
theorem bInt (hK : X.K = C.K) : Blt X C "int" int1D := ⟨.inr ⟨_, _, PyProof.Rows.boot_int, call_int1, fun n => vInt1⟩⟩
theorem bList (hK : X.K = C.K) : Blt X C "list" listD := ⟨.inr ⟨_, _, PyProof.Rows.boot_list, call_list_of, fun n => by rw [hK]; exact vList⟩⟩
theorem bTuple (hK : X.K = C.K) : Blt X C "tuple" tupleD := ⟨.inr ⟨_, _, PyProof.Rows.boot_tuple, call_tuple_of, fun n => by rw [hK]; exact vTuple⟩⟩
theorem bSum (hK : X.K = C.K) (hc : X.calm = true) : Blt X C "sum" sumD := ⟨.inl ⟨_, _, PyProof.Rows.boot_sum, cr_sum hc, fun n => by rw [hK]; exact vSum⟩⟩
theorem bMax (hK : X.K = C.K) (hc : X.calm = true) : Blt X C "max" maxLD := ⟨.inl ⟨_, _, PyProof.Rows.boot_max, cr_max hc, fun n => by rw [hK]; exact vMaxL⟩⟩
theorem bMin (hK : X.K = C.K) (hc : X.calm = true) : Blt X C "min" minLD := ⟨.inl ⟨_, _, PyProof.Rows.boot_min, cr_min hc, fun n => by rw [hK]; exact vMinL⟩⟩
theorem bMax2 (hK : X.K = C.K) (hc : X.calm = true) : Blt X C "max" max2D := ⟨.inl ⟨_, _, PyProof.Rows.boot_max, call_max2 hc, fun n => vMax2⟩⟩
theorem bMin2 (hK : X.K = C.K) (hc : X.calm = true) : Blt X C "min" min2D := ⟨.inl ⟨_, _, PyProof.Rows.boot_min, call_min2 hc, fun n => vMin2⟩⟩
theorem bSorted (hK : X.K = C.K) : Blt X C "sorted" sortedID := ⟨.inl ⟨_, _, PyProof.Rows.boot_sorted, cr_sortedI, fun n => by rw [hK]; exact vSortedI⟩⟩
theorem bAll (hK : X.K = C.K) (hc : X.calm = true) : Blt X C "all" allD := ⟨.inl ⟨_, _, PyProof.Rows.boot_all, cr_all hc, fun n => by rw [hK]; exact vAll⟩⟩
theorem bAny (hK : X.K = C.K) (hc : X.calm = true) : Blt X C "any" anyD := ⟨.inl ⟨_, _, PyProof.Rows.boot_any, cr_any hc, fun n => by rw [hK]; exact vAny⟩⟩
theorem eB {g : PE' → Option (List PyData)} (B : Blt X C x f) (hg : Gl X x) (hm : X.mg x = none) (ha : PAg X C 1 (a :: es) g) (hn : x ≠ "__name__" := by decide) (hdb : (x == ("__debug__" : Str)) = false := by kernel_rfl)
    (he : starEach (a :: es) X.env = (false, eval a X.env) :: starEach es X.env := by rfl) (hpl : (backTo pos (starEach es X.env)).any (·.1) = false := by rfl) : PE X (.Call (.Name x p) (a :: es) [] pos) (tP C n (fCall f g)) := by
  rcases B.ok with ⟨id, r, h1, h2, h3⟩ | ⟨id, r, h1, h2, h3⟩
  · exact eCallB h2 (h3 n) hg hm h1 ha hn hdb he hpl
  · exact eCallT h2 (h3 n) hg hm h1 ha hn hdb he hpl
theorem xBl {g : PE' → Option (List PyData × PE')} (B : Blt X C x f) (hg : Gl X x) (hm : X.mg x = none) (ha : PAx X C (a :: es) g) (hn : x ≠ "__name__" := by decide) (hdb : (x == ("__debug__" : Str)) = false := by kernel_rfl)
    (he : starEach (a :: es) X.env = (false, eval a X.env) :: starEach es X.env := by rfl) (hpl : (backTo pos (starEach es X.env)).any (·.1) = false := by rfl) : PE X (.Call (.Name x p) (a :: es) [] pos) (tX C (xCall f g)) := by
  rcases B.ok with ⟨id, r, h1, h2, h3⟩ | ⟨id, r, h1, h2, h3⟩
  · exact xCallB h2 (h3 0) hg hm h1 ha hn hdb he hpl
  · exact xCallT h2 (h3 0) hg hm h1 ha hn hdb he hpl
end
theorem units65 {A : Around} {k : Nat} (hr : Room k A) : A.units + 65 < cLine := by have := hr.un; omega
theorem fnNever {P : Program} {w : World} {K : PySem.W.Frag} {mg : Str → Option Value} {base : Heap} {C : Cfg} {k n : Nat} {f : Addr} {fd : FuncData} {ps : List Str} : FnOk P w K mg base CX0 k f fd ps (spX C n fun _ => none) :=
  ⟨fun vs H Q E h => (by obtain ⟨_, _, _, _, _, _, _, e, _⟩ := h; cases e), fun A outer s H args us vs Q E _ _ _ _ h => (by obtain ⟨_, _, _, _, _, _, _, e, _⟩ := h; cases e)⟩
theorem callF_len {tot n : Nat} {pin : Nat → Bool} {fb : FS} (ps : PE') (r : PyData × PE') (h : callF tot n pin fb ps = some r) : ps.length = n := by
  unfold callF at h
  split at h
  · assumption
  · cases h
theorem never_len {n : Nat} (ps : PE') (r : PyData × PE') (h : (fun (_ : PE') => (none : Option (PyData × PE'))) ps = some r) : ps.length = n := by cases h
end Pv
set_option Elab.async false
set_option linter.all false
set_option maxRecDepth 100000
set_option maxHeartbeats 4000000
/-! Pv19: a name set to a list comprehension; slices and sorted lists as new lists. -/
namespace Pv
open PySem PySem.Spec PyProof.Rows L2 GxR

section
variable {X : Cx} {C : Cfg} {pin : Nat → Bool} {a b c e o : Expr} {pos p apos : Pos} {n m i : Nat} {es : List Expr} {x : Str}
theorem tW_tX {f : PE' → Option (PyData × PE')} : ∀ σ H Q, tX C f σ H Q → tW C n f σ H Q := fun σ H Q q => by
  obtain ⟨ps, As, B, S, d, ps', e, q⟩ := q
  exact ⟨ps, As, B, S, d, ps', e, fun v H' As' F S' x hF o => q v H' As' S'.unB x (S'.dnF o)⟩
theorem tX_tW0 {f : PE' → Option (PyData × PE')} : ∀ σ H Q, tW C 0 f σ H Q → tX C f σ H Q := fun σ H Q q => by
  obtain ⟨ps, As, B, S, d, ps', e, q⟩ := q
  exact ⟨ps, As, B, S, d, ps', e, fun v H' As' S' x p => q v H' As' [] S' x (fun _ h => nomatch h) (.sh p)⟩
theorem tNX_tW1 {f : PE' → Option (List PyData × PE')} : ∀ σ H Q, tW C 1 (fMapX .list f) σ H Q → tNX C f σ H Q := fun σ H Q q => by
  obtain ⟨ps, As, B, S, d, ps', e, q⟩ := q
  unfold fMapX at e
  split at e
  · rename_i ds ps1 hds
    cases e
    refine ⟨ps, As, B, S, ds, _, hds, fun p xs H' As' S' x hp hx => ?_⟩
    obtain ⟨S2, x2⟩ := S'.grow (o := .lst xs) hp rfl
    refine q _ _ As' [p] S2 (x.trans x2) (fun a ha => ?_) (Ow.ow (F := []) upd_same (.zero (hx.sm (.grow S' hp))))
    rw [List.mem_singleton.mp ha]
    by_cases e : H p = none
    · exact e
    · exact absurd hp (x.th p e)
  · cases e
theorem zG {st : Stmt} {te : TE} {f : PE' → Option (PyData × PE')} (h : PS X st (tAsg te (gName i))) (hw : ∀ σ H Q, tW C n f σ H Q → te σ H Q) (hpin : pin i = false) : PS X st (tS C pin (sSet n i f)) :=
  ps_weak h fun D σ H q => hw σ H _ (tAsg_tS hpin D σ H q)
section
variable {y : Str} {py : Pos} {elt tg iter : Expr} {ifs : List Expr} {scope : Scope} {own : List (Str × Nat)} {spos : Pos}
theorem zLc0 {gi : PE' → Option (List PyData × PE')} {ft : PyData → PE' → Option PE'} {tt : PE' → Option (Bool × PE')} {fe : PE' → Option (PyData × PE')} (hc : X.calm = true) (hN : X.N.Nodup) (hy : X.N[i]? = some y) (hyl : X.env.scope.names.lookup y = some .local) (hpin : pin i = false)
    (hsw : swapsWith (.ListComp elt [⟨tg, iter, ifs, 0⟩] scope pos) (some (.Name y py)) spos.line X.env = pure true) (hi : PI X tg iter (tIX C gi)) (ok : BlkOk X.N X.env.scope scope own)
    (hg : ∀ (s : Shared) (H : Hp) (D : Addr) (cl : List (Str × Addr)) (fp : List Addr), PG (X.blk s H scope (compEnvC scope cl D X.env) fp) tg (tG C (offV (own.map (·.2))) ft)) (ht : ∀ (s : Shared) (H : Hp) (D : Addr) (cl : List (Str × Addr)) (fp : List Addr), PTs (X.blk s H scope (compEnvC scope cl D X.env) fp) ifs (tTX C tt))
    (he : ∀ (s : Shared) (H : Hp) (D : Addr) (cl : List (Str × Addr)) (fp : List Addr), PE (X.blk s H scope (compEnvC scope cl D X.env) fp) elt (tW C n fe)) (hs : ∀ x, foldedSetIterable iter X.env x = pure x := by intro _; rfl) :
    PS X (.Assign [.Name y py] (.ListComp elt [⟨tg, iter, ifs, 0⟩] scope pos) spos) (tS C pin (sSet 0 i (fMapX .list (lcX (own.map (·.2)) gi ft tt fe)))) :=
  zG (ps_setLc hc hN hy hyl hsw hi ok hg ht he hs) (fun σ H Q q => tLc_tW σ H Q (tW_tX σ H Q (tX_tW0 σ H Q q))) hpin
theorem zLcP0 {gi : PE' → Option (List PyData)} {ft : PyData → PE' → Option PE'} {tt : PE' → Option Bool} {fe : PE' → Option PyData} (hc : X.calm = true) (hN : X.N.Nodup) (hy : X.N[i]? = some y) (hyl : X.env.scope.names.lookup y = some .local) (hpin : pin i = false)
    (hsw : swapsWith (.ListComp elt [⟨tg, iter, ifs, 0⟩] scope pos) (some (.Name y py)) spos.line X.env = pure true) (hi : PI X tg iter (tI C n gi)) (ok : BlkOk X.N X.env.scope scope own)
    (hg : ∀ (s : Shared) (H : Hp) (D : Addr) (cl : List (Str × Addr)) (fp : List Addr), PG (X.blk s H scope (compEnvC scope cl D X.env) fp) tg (tG C (offV (own.map (·.2))) ft)) (ht : ∀ (s : Shared) (H : Hp) (D : Addr) (cl : List (Str × Addr)) (fp : List Addr), PTs (X.blk s H scope (compEnvC scope cl D X.env) fp) ifs (tT C tt))
    (he : ∀ (s : Shared) (H : Hp) (D : Addr) (cl : List (Str × Addr)) (fp : List Addr), PE (X.blk s H scope (compEnvC scope cl D X.env) fp) elt (tP C 0 fe)) (hs : ∀ x, foldedSetIterable iter X.env x = pure x := by intro _; rfl) :
    PS X (.Assign [.Name y py] (.ListComp elt [⟨tg, iter, ifs, 0⟩] scope pos) spos) (tS C pin (sSet 0 i (fMapX .list (fX (lcP (own.map (·.2)) gi ft tt fe))))) :=
  zG (ps_setLc hc hN hy hyl hsw hi ok hg ht he hs) (fun σ H Q q => tLc_tN σ H Q (tNX_tN σ H Q (tNX_tX σ H Q (tX_tW0 σ H Q q)))) hpin
theorem zLcP1 {gi : PE' → Option (List PyData)} {ft : PyData → PE' → Option PE'} {tt : PE' → Option Bool} {fe : PE' → Option PyData} (hc : X.calm = true) (hN : X.N.Nodup) (hy : X.N[i]? = some y) (hyl : X.env.scope.names.lookup y = some .local) (hpin : pin i = false)
    (hsw : swapsWith (.ListComp elt [⟨tg, iter, ifs, 0⟩] scope pos) (some (.Name y py)) spos.line X.env = pure true) (hi : PI X tg iter (tI C n gi)) (ok : BlkOk X.N X.env.scope scope own)
    (hg : ∀ (s : Shared) (H : Hp) (D : Addr) (cl : List (Str × Addr)) (fp : List Addr), PG (X.blk s H scope (compEnvC scope cl D X.env) fp) tg (tG C (offV (own.map (·.2))) ft)) (ht : ∀ (s : Shared) (H : Hp) (D : Addr) (cl : List (Str × Addr)) (fp : List Addr), PTs (X.blk s H scope (compEnvC scope cl D X.env) fp) ifs (tT C tt))
    (he : ∀ (s : Shared) (H : Hp) (D : Addr) (cl : List (Str × Addr)) (fp : List Addr), PE (X.blk s H scope (compEnvC scope cl D X.env) fp) elt (tP C 0 fe)) (hs : ∀ x, foldedSetIterable iter X.env x = pure x := by intro _; rfl) :
    PS X (.Assign [.Name y py] (.ListComp elt [⟨tg, iter, ifs, 0⟩] scope pos) spos) (tS C pin (sSet 1 i (fMapX .list (fX (lcP (own.map (·.2)) gi ft tt fe))))) :=
  zG (ps_setLc hc hN hy hyl hsw hi ok hg ht he hs) (fun σ H Q q => tLc_tN σ H Q (tNX_tN σ H Q (tNX_tW1 σ H Q q))) hpin
end
/-! a slice of a list is a new list -/
def slLD (d : PyData) (lo hi : Option Int) : Option (List PyData) := match d with
  | .list ds => some (cutD ds lo hi)
  | _ => none
def fSlL (g : PE' → Option PyData) (l u : PE' → Option (Option Int)) : PE' → Option (List PyData) := fun ps => match g ps with
  | some d => match l ps with
    | some lo => match u ps with
      | some hi => slLD d lo hi
      | none => none
    | none => none
  | none => none
theorem nSl {ga : PE' → Option PyData} {lo hi : Option Expr} {gl gh : PE' → Option (Option Int)} {p2 : Pos} (ha : PE X a (tP C 1 ga)) (hl : PO X lo (tO C gl)) (hh : PO X hi (tO C gh)) : PE X (.Subscript a (.Slice lo hi none p2) pos) (tN C (fSlL ga gl gh)) := by
  refine pe_weak (pe_slice sl_list ha hl hh) fun σ H Q h => ?_
  obtain ⟨ps, As, B, S, z, e, q⟩ := h
  unfold fSlL at e
  split at e
  · rename_i d hd
    split at e
    · rename_i l hlo
      split at e
      · rename_i u hhi
        refine ⟨ps, As, B, S, d, hd, fun x H1 g1 p1 => ⟨ps, As, B, S.gr g1, l, hlo, fun H2 g2 => ⟨ps, As, B, (S.gr g1).gr g2, u, hhi, fun H3 g3 => ?_⟩⟩⟩
        have p3 := (p1.sm (mask_sm g2.sm) g2.sm).sm (mask_sm g3.sm) g3.sm
        unfold slLD at e
        split at e
        · cases e
          obtain ⟨a, xs, rfl, h1, h2⟩ := p3.list mask_sub
          exact ⟨a, xs, rfl, SqL.of h1, fun p hp => q p _ H3 ((g1.trans g2).trans g3) hp (h2.zero.cut l u)⟩
        · cases e
      · cases e
    · cases e
  · cases e
end
end Pv
set_option Elab.async false
set_option linter.all false
set_option maxRecDepth 100000
set_option maxHeartbeats 4000000
/-! Pv20: a law's end. -/
namespace Pv
open PySem PySem.Spec PyProof.Rows L2 GxR
def spLaw0 {K : PySem.W.Frag} : Sp := fun vs H Q _ => ∃ (a : Addr) (ns : List Int), vs = [.ref a] ∧ SqL K H a (ns.map V.int) ∧ ns.length ≤ 63 ∧ ∀ H', Q (.bl true) H'
theorem lawEnd {P : Program} {w : World} {K : PySem.W.Frag} {mg : Str → Option Value} {base : Heap} {C : Cfg} {k : Nat} {f : Addr} {fd : FuncData} {F : FX} (h : FnOk P w K mg base CX0 k f fd ["script"] (spX C ["script"].length F)) (hK : C.K = K) (ht : C.tabs = [])
    (hF : ∀ ns : List Int, ns.length ≤ 63 → ∃ ps, F [some (.scr ns)] = some (.bool true, ps)) : FnOk P w K mg base CX0 k f fd ["script"] (spLaw0 (K := K)) := by
  refine h.imp fun vs H Q E q => ?_
  obtain ⟨a, ns, rfl, hS, hl, q⟩ := q
  obtain ⟨ps, e⟩ := hF ns hl
  refine ⟨[some (.scr ns)], [[]], [], ⟨.so (.scr ?_) .nil, .nil, fun _ h => (by simp at h), fun P hP => by rw [ht] at hP; cases hP⟩, rfl, .bool true, ps, e, fun v H' Fs' S' x hv => by cases hv; exact q H'⟩
  subst hK
  have : mask H (([[]] : List (List Addr)).flatten ++ []) = H := mask_nil H
  rw [this]
  exact hS
end Pv
set_option Elab.async false
set_option linter.all false
set_option maxRecDepth 100000
set_option maxHeartbeats 4000000
/-! Pv21: sets of ints out of lists. -/
namespace Pv
open PySem PySem.Spec PyProof.Rows L2 GxR
abbrev eS (w : World) : Obj := { cls := .type "set", dict := none, data := .set #[] 0 (.fresh 0 0 (!w.params.followText "set-order")) }
section
variable {P : Program} {w : World} {A : Around} {E : Value → Shared → Prop} {s : Shared}
set_option maxHeartbeats 8000000 in
theorem set_listI {l : Addr} {xs : Array Value} (ns : List Int) {Q : Value → Shared → Prop} (hh : A.handled = none) (hl : s.heap.IsList l xs) (hv : IntsAre xs.toList ns) (hb : ns.length + 1 < scanBound)
    (k : ∀ (h' : Heap) (tk c : Nat), SetR w h' s.heap.objs.size (fun j => decide (j ∈ ns)) c → c ≤ ns.length → (∀ b o, s.heap.get? b = some o → h'.get? b = some o) → Q (.ref s.heap.objs.size) { s with heap := h', toks := tk }) :
    wpAny (model P w) A (call (.type "set") [.ref l]) Q E s := by
  have hsz : xs.size = ns.length := (Array.length_toList (xs := xs)).symm.trans (IntsAre.length hv)
  obtain ⟨_, _, hmro⟩ := F.called_set.mro
  have m1 := F.called_set.made; have m2 := F.called_set.sub; have m3 := F.called_set.notType; have m4 := F.called_set.canCreate; have m5 := F.typeCall_set_1 (.ref l)
  apply wpAny_call; apply codeAny_of_tree
  show wpAny _ _ (callAny (.type "set") _) _ _ _
  refine wpAny_pure ⟨Code.quiet_builtin _ (by decide +kernel), codeAny_builtin F.entry_type_call ?_⟩
  rw [Around.under_plain (weight_type_call_type "set" [.ref l] []) rfl]
  repeat (any_goals (first | assumption | wp_step))
  apply codeAny_mono (code_set_led1 (.ref l) (E := E) (Q₁ := fun ob s1 => ob = .ref s.heap.objs.size ∧ s1 = { s with heap := s.heap.push (eS w) }) ⟨rfl, rfl⟩)
  intro r s1 hr
  cases r with
  | error e => exact hr
  | ok fl => cases fl with
    | ret ob =>
      obtain ⟨rfl, rfl⟩ := hr
      have gS : (s.heap.push (eS w)).get? s.heap.objs.size = some (eS w) := Heap.get?_push_size _ rfl
      have tS : Shared.TypeIs { s with heap := s.heap.push (eS w) } (.ref s.heap.objs.size) "set" := ⟨_, gS, rfl⟩
      have i1 := F.called_set.init.lookup; have i2 := F.called_set.init.bind (.ref s.heap.objs.size)
      repeat (any_goals (first | assumption | wp_step))
      apply codeAny_mono (codeAny_call_builtin (R := wants (fun r s2 => r = .none ∧ ∃ h' tk c, s2 = { s with heap := h', toks := tk } ∧ SetR w h' s.heap.objs.size (fun j => decide (j ∈ ns)) c ∧ c ≤ ns.length ∧ ∀ b o, s.heap.get? b = some o → h'.get? b = some o) E) F.called_set.init.plain F.entry_set_init (check_set_init_1 tS ?_))
      · intro r2 s2 hr2
        cases r2 with
        | error e => exact hr2
        | ok f2 => cases f2 with
          | ret r =>
            obtain ⟨rfl, h', tk, c, rfl, x1, x2, x3⟩ := hr2
            repeat (any_goals (first | assumption | wp_step))
            exact k _ _ _ x1 x2 x3
          | _ => exact hr2.elim
      · obtain ⟨⟨oc, od, odt, osl⟩, ho, hc, n0, hd⟩ := hl
        simp only at hc hd
        subst hc hd
        have ho2 : (s.heap.push (eS w)).get? l = some ⟨.type "list", od, .seq xs n0, osl⟩ := Heap.get?_push_of_some _ ho
        have j1 := F.sub_list_set; have j2 := F.sub_list_frozenset
        have j3 : (Value.type "list" == Value.type "dict") = false := by decide
        have L1 : (s.heap.push (eS w)).IsList l xs := ⟨_, ho2, rfl, n0, rfl⟩
        unfold Builtin.«set.__init__» noKeywords Builtin.Frozenset.updateFrom
        generalize gPI : pyIter = PI
        wp_walk
        subst gPI
        refine wpAny_pyIter_list L1 (wpAny_bind (wpAny_runValue ?_))
        have ll : l < s.heap.objs.size := Heap.lt_size ho
        have z1 : (s.heap.push (eS w)).objs.size = s.heap.objs.size + 1 := Heap.size_push ..
        have n1 : l ≠ (s.heap.push (eS w)).objs.size := by rw [z1]; exact Nat.ne_of_lt (Nat.lt_succ_of_lt ll)
        have n2 : s.heap.objs.size ∉ [(s.heap.push (eS w)).objs.size, l] := by rw [z1]; simp; exact Nat.ne_of_gt ll
        have at1 : ∀ (i : Nat) (v : Value), xs[i]? = some v → ∃ k t, ns[i]? = some k ∧ v = .int k t := fun i v e => by
          have hi : i < ns.length := hsz ▸ (Array.getElem?_eq_some_iff.mp e).1
          obtain ⟨t, q⟩ := PyProof.Rows.IntsAre.int_at hv i v ((Array.getElem?_toList (xs := xs) (i := i)).trans e)
          exact ⟨ns[i], t, List.getElem?_eq_getElem hi, by rw [q, List.getD_eq_getElem?_getD, List.getElem?_eq_getElem hi]; rfl⟩
        refine set_update_ints ((Walks.list (by simp [hh]) _ l n1 xs).toS) s.heap.objs.size n2 ns hsz hb at1 (xs.size - 0) 0 _ (by omega) (Nat.zero_le _) ⟨⟨_, Heap.get?_push_size _ rfl, rfl, rfl⟩, L1.push _⟩ ⟨0, Nat.le_refl 0, setR_new_at (Heap.get?_push_of_some _ gS)⟩ fun s' c' hm hc' hS' => ?_
        obtain ⟨h', g2, d', tk', os'⟩ := s'
        have e1 : g2 = s.gens := hm.gens
        have e2 : d' = s.drawn := hm.drawn
        have e3 : os' = s.os := hm.os
        subst e1 e2 e3
        refine wpAny_pure ?_
        show wpAny _ _ (ret Value.none) _ _ _
        refine wpAny_pure ⟨rfl, h', tk', c', rfl, hS', hsz ▸ hc', fun b o e => hm.heap b o ?_ (Heap.get?_push_of_some _ (Heap.get?_push_of_some _ e))⟩
        have lb : b < s.heap.objs.size := Heap.lt_size e
        have q1 : b ≠ (s.heap.push (eS w)).objs.size := by rw [z1]; exact Nat.ne_of_lt (Nat.lt_succ_of_lt lb)
        have q2 : b ≠ s.heap.objs.size := Nat.ne_of_lt lb
        simp [q2]
        simpa using q1
    | _ => exact hr.elim
end
/-- strictly ascending, each once -/
def insU (x : Int) : List Int → List Int
  | [] => [x]
  | y :: r => if x < y then x :: y :: r else if x = y then y :: r else y :: insU x r
def sortU : List Int → List Int
  | [] => []
  | x :: r => insU x (sortU r)
theorem insU_mem (x z : Int) : ∀ l : List Int, z ∈ insU x l ↔ z = x ∨ z ∈ l
  | [] => by unfold insU; simp
  | y :: r => by
    unfold insU
    split
    · simp
    · split
      · rename_i h; subst h; simp
      · rw [List.mem_cons, insU_mem x z r, List.mem_cons]
        constructor
        · rintro (h | h | h)
          · exact .inr (.inl h)
          · exact .inl h
          · exact .inr (.inr h)
        · rintro (h | h | h)
          · exact .inr (.inl h)
          · exact .inl h
          · exact .inr (.inr h)
theorem sortU_mem (z : Int) : ∀ l : List Int, z ∈ sortU l ↔ z ∈ l
  | [] => by unfold sortU; simp
  | x :: r => by unfold sortU; rw [insU_mem, sortU_mem z r, List.mem_cons]
theorem insU_lt (x : Int) : ∀ {l : List Int}, l.Pairwise (· < ·) → (insU x l).Pairwise (· < ·)
  | [], _ => by unfold insU; exact List.pairwise_singleton _ _
  | y :: r, h => by
    unfold insU
    rw [List.pairwise_cons] at h
    split
    · rename_i hxy
      refine List.pairwise_cons.mpr ⟨fun z hz => ?_, List.pairwise_cons.mpr h⟩
      rcases List.mem_cons.mp hz with e | hz
      · rw [e]; exact hxy
      · exact Int.lt_trans hxy (h.1 z hz)
    · split
      · exact List.pairwise_cons.mpr h
      · refine List.pairwise_cons.mpr ⟨fun z hz => ?_, insU_lt x h.2⟩
        rcases (insU_mem x z r).mp hz with e | hz
        · rw [e]; omega
        · exact h.1 z hz
theorem sortU_lt : ∀ l : List Int, (sortU l).Pairwise (· < ·)
  | [] => .nil
  | x :: r => insU_lt x (sortU_lt r)
theorem lt_nodup {l : List Int} (h : l.Pairwise (· < ·)) : l.Nodup := h.imp fun h e => by omega
theorem sortU_one {l ns : List Int} (h : l.Pairwise (· < ·)) (m : ∀ k, k ∈ l ↔ k ∈ ns) : l = sortU ns := by
  have p : l.Perm (sortU ns) := (List.perm_ext_iff_of_nodup (lt_nodup h) (lt_nodup (sortU_lt ns))).mpr fun k => (m k).trans (sortU_mem k ns).symm
  exact sorted_one p (h.imp fun h => Int.le_of_lt h) ((sortU_lt ns).imp fun h => Int.le_of_lt h)
theorem setR_count {w : World} {h : Heap} {a : Addr} {ns : List Int} {c : Nat} (R : SetR w h a (fun j => decide (j ∈ ns)) c) : c = (sortU ns).length := by
  obtain ⟨o, es, ep, t, ho, hex, hd, g, nd, hm, hb, hf, hn, hr, hl⟩ := R
  have p : (es.toList.map keyOf).Perm (sortU ns) := (List.perm_ext_iff_of_nodup nd (lt_nodup (sortU_lt ns))).mpr fun k => by
    rw [← hm k, decide_eq_true_eq]; exact (sortU_mem k ns).symm
  have := p.length_eq
  rw [List.length_map, Array.length_toList] at this
  omega
section
variable {X : Cx} {C : Cfg} {a b e o : Expr} {pos p p2 apos : Pos} {n m i : Nat} {g : PE' → Option PyData}
def rSetL (K : PySem.W.Frag) (w : World) : List V → Hp → VK → Prop := fun vs H Q => ∃ (l : Addr) (ns : List Int), vs = [.ref l] ∧ SqL K H l (ns.map V.int) ∧ ns.length ≤ 4000 ∧ ∀ q, H q = none → Q (.ref q) (upd H q (SetO w q (fun j => decide (j ∈ ns)) (sortU ns).length))
theorem cr_setL (hc : X.calm = true) : CallR X (.type "set") (rSetL X.K X.w) := by
  intro pins s σ H vs us Q I r h
  obtain ⟨l, ns, rfl, hq, hn, q⟩ := h
  obtain ⟨u, rfl, ru⟩ := Vals.one r
  cases ru
  obtain ⟨its, rv, pl, hz⟩ := I.list hq
  refine set_listI ns (I.ok.hd hc) pl.isList (ints_of_vals rv) (by unfold scanBound; omega) fun h' tk c R _ k => ?_
  have e := setR_count R
  subst e
  exact ⟨.ref _, _, I.laid (t' := tk) k (Nat.le_refl _) (setO_new R), rfl, q _ (I.hok.fresh (Nat.le_refl _))⟩
def rLenSet (w : World) : List V → Hp → VK → Prop := fun vs H Q => ∃ (p : Addr) (S : Int → Bool) (c : Nat), vs = [.ref p] ∧ H p = some (SetO w p S c) ∧ Q (.int c) H
theorem cr_lenSet : CallR X (.builtin "len") (rLenSet X.w) := by
  intro pins s σ H vs us Q I r h
  obtain ⟨p, S, c, rfl, hp, q⟩ := h
  obtain ⟨u, rfl, ru⟩ := Vals.one r
  cases ru
  obtain ⟨o, es, ep, t, ho, hex, hd, g, nd, hm, hb, hf, hn, hr, hl⟩ := setO_get I hp
  subst hn
  exact call_len_set ho hex hd hf (by unfold scanBound at hb; omega) ⟨.int _, H, I.tok _, ⟨_, rfl⟩, q⟩
def fSortedSet (g : PE' → Option PyData) : PE' → Option (List PyData) := fun ps => match g ps with
  | some (.list xs) => match intsOf xs with
    | some ns => if ns.length < 4000 ∧ (sortU ns).length < 64 then some ((sortU ns).map .int) else none
    | none => none
  | _ => none
def fLenSet (g : PE' → Option PyData) : PE' → Option PyData := fun ps => match g ps with
  | some (.list xs) => match intsOf xs with
    | some ns => if ns.length < 4000 then some (.int (sortU ns).length) else none
    | none => none
  | _ => none
theorem nSortedSet (hK : X.K = C.K) (hc : X.calm = true) (hg : Gl X "sorted") (hm : X.mg "sorted" = none) (hg2 : Gl X "set") (hm2 : X.mg "set" = none) (ha : PE X a (tP C 1 g))
    (he : starEach [.Call (.Name "set" p2) [a] [] pos] X.env = (false, eval (.Call (.Name "set" p2) [a] [] pos) X.env) :: starEach [] X.env := by rfl) (he2 : starEach [a] X.env = (false, eval a X.env) :: starEach [] X.env := by rfl) {qpos : Pos} :
    PE X (.Call (.Name "sorted" p) [.Call (.Name "set" p2) [a] [] pos] [] qpos) (tN C (fSortedSet g)) :=
  pe_weak (pe_callB (cr_sortedSet hc) hg hm PyProof.Rows.boot_sorted (pa_cons (pe_callTy (cr_setL hc) hg2 hm2 PyProof.Rows.boot_set (pa_cons ha pa_nil he2) (by decide) (by decide) he2 rfl) pa_nil he) (by decide) (by decide) he rfl) fun σ H Q q => by
    obtain ⟨ps, As, B, S, z, e, q⟩ := q
    unfold fSortedSet at e
    split at e
    · rename_i xs hxs
      split at e
      · rename_i ns hns
        split at e
        · rename_i hl
          cases e
          refine ⟨ps, As, B, S, _, hxs, fun v H1 g1 p1 => ?_⟩
          rw [intsOf_eq hns] at p1
          obtain ⟨l, ys, rfl, h1, h2⟩ := p1.list mask_sub
          have e2 := h2.zero.ints
          subst e2
          refine ⟨l, ns, rfl, SqL.of h1, by omega, fun s0 hs0 => ⟨s0, _, _, rfl, upd_same, hl.2, fun ns' p' hlt hmem _ hp' => ?_⟩⟩
          have e3 : ns' = sortU ns := sortU_one hlt fun k => (hmem k).trans (by rw [decide_eq_true_eq])
          subst e3
          exact q p' _ _ (g1.trans (.upd hs0)) hp' (.ofInts _)
        · cases e
      · cases e
    · cases e
theorem eLenSet (hK : X.K = C.K) (hc : X.calm = true) (hg : Gl X "len") (hm : X.mg "len" = none) (hg2 : Gl X "set") (hm2 : X.mg "set" = none) (ha : PE X a (tP C 1 g))
    (he : starEach [.Call (.Name "set" p2) [a] [] pos] X.env = (false, eval (.Call (.Name "set" p2) [a] [] pos) X.env) :: starEach [] X.env := by rfl) (he2 : starEach [a] X.env = (false, eval a X.env) :: starEach [] X.env := by rfl) {qpos : Pos} :
    PE X (.Call (.Name "len" p) [.Call (.Name "set" p2) [a] [] pos] [] qpos) (tP C n (fLenSet g)) :=
  pe_weak (pe_callB cr_lenSet hg hm PySem.boot_len (pa_cons (pe_callTy (cr_setL hc) hg2 hm2 PyProof.Rows.boot_set (pa_cons ha pa_nil he2) (by decide) (by decide) he2 rfl) pa_nil he) (by decide) (by decide) he rfl) fun σ H Q q => by
    obtain ⟨ps, As, B, S, z, e, q⟩ := q
    unfold fLenSet at e
    split at e
    · rename_i xs hxs
      split at e
      · rename_i ns hns
        split at e
        · rename_i hl
          cases e
          refine ⟨ps, As, B, S, _, hxs, fun v H1 g1 p1 => ?_⟩
          rw [intsOf_eq hns] at p1
          obtain ⟨l, ys, rfl, h1, h2⟩ := p1.list mask_sub
          have e2 := h2.zero.ints
          subst e2
          exact ⟨l, ns, rfl, SqL.of h1, by omega, fun s0 hs0 => ⟨s0, _, _, rfl, upd_same, q _ _ (g1.trans (.upd hs0)) (.sh (.int _))⟩⟩
        · cases e
      · cases e
    · cases e
end
end Pv
set_option Elab.async false
set_option linter.all false
set_option maxRecDepth 100000
set_option maxHeartbeats 4000000
/-! Pv22: two names set at once, each to its own. -/
namespace Pv
open PySem PySem.Spec PyProof.Rows L2 GxR

/-- one slot's owned part changes; G: what was made for it on the way -/
theorem St.slotX2 {C : Cfg} {ps : PE'} {σ : L2.St} {H0 H H' : Hp} {As0 As : List (List Addr)} {B G G2 : List Addr} {i : Nat} {Fi F : List Addr} {sv : SV} {v : V} (x0 : Ext C H0 As0 B H As) (hG : ∀ a ∈ G, H0 a = none) (hG2 : ∀ a ∈ G2, H0 a = none) (S : St C ps σ H As (G ++ (G2 ++ B))) (hi : As[i]? = some Fi)
    (k : ∀ b o, H b = some o → b ∉ Fi → (∀ ps, o ≠ .tbl ps) → H' b = some o) (tab : ∀ P ∈ C.tabs, TabG H' P) (th : ∀ a, H a ≠ none → H' a ≠ none) (fx : Fx C H H') (hF : ∀ a ∈ F, H a = none ∨ a ∈ Fi ∨ a ∈ G) (hn : F.Nodup) (ht : Trk H' F) (x : SvO C (mask H' ((As.set i F).flatten ++ (G2 ++ B))) H' sv v F) :
    St C (ps.set i (some sv)) (σ.set i (some v)) H' (As.set i F) (G2 ++ B) ∧ Ext C H0 As0 B H' (As.set i F) := by
  have hlt : i < As.length := (List.getElem?_eq_some_iff.mp hi).1
  have self : As.set i Fi = As := set_self hi
  have memL : ∀ a, a ∈ As.flatten ↔ a ∈ Fi ∨ a ∈ (As.set i []).flatten := fun a => by
    have := flat_split hi Fi a
    rwa [self] at this
  have memL' := flat_split hi F
  have p0 : (As.flatten ++ (G ++ (G2 ++ B))).Perm (Fi ++ ((As.set i []).flatten ++ (G ++ (G2 ++ B)))) := by
    have := (flat_perm (F := Fi) hlt).append_right (G ++ (G2 ++ B))
    rw [self, List.append_assoc] at this
    exact this
  have nd2 := p0.nodup_iff.mp S.nd
  have dis : ∀ a ∈ Fi, a ∉ (As.set i []).flatten ++ (G ++ (G2 ++ B)) := fun a ha hb => (List.nodup_append.mp nd2).2.2 a ha a hb rfl
  have hR : ∀ a ∈ (As.set i []).flatten ++ (G ++ (G2 ++ B)), a ∈ As.flatten ++ (G ++ (G2 ++ B)) := fun a ha => by
    rcases List.mem_append.mp ha with h | h
    · exact List.mem_append_left _ ((memL a).mpr (.inr h))
    · exact List.mem_append_right _ h
  have keepR : ∀ a ∈ (As.set i []).flatten ++ (G ++ (G2 ++ B)), H' a = H a := fun a ha => by
    obtain ⟨o, e, ho⟩ := S.trk a (hR a ha)
    rw [e]
    exact k a o e (fun z => dis a z ha) (isOwn_nt ho)
  have smd : Sm (msk H As (G ++ (G2 ++ B))) (mask H' ((As.set i F).flatten ++ (G2 ++ B))) := fun a o e n => by
    obtain ⟨h1, h2⟩ := mask_some e
    rw [mask_out]
    · exact k a o h2 (fun z => h1 (List.mem_append_left _ ((memL a).mpr (.inl z)))) n
    · intro z
      rcases List.mem_append.mp z with z | z
      · rcases (memL' a).mp z with z | z
        · rcases hF a z with w | w | w
          · rw [w] at h2; cases h2
          · exact h1 (List.mem_append_left _ ((memL a).mpr (.inl w)))
          · exact h1 (List.mem_append_right _ (List.mem_append_left _ w))
        · exact h1 (List.mem_append_left _ ((memL a).mpr (.inr z)))
      · exact h1 (List.mem_append_right _ (List.mem_append_right _ z))
  have sm0 : Sm (msk H0 As0 B) (msk H As (G ++ (G2 ++ B))) := fun a o e n => by
    obtain ⟨h1, h2⟩ := mask_some e
    have h3 := x0.sm a o e n
    obtain ⟨h4, h5⟩ := mask_some h3
    unfold msk
    rw [mask_out]
    · exact h5
    · intro z
      rcases List.mem_append.mp z with z | z
      · exact h4 (List.mem_append_left _ z)
      · rcases List.mem_append.mp z with z | z
        · rw [hG a z] at h2; cases h2
        · rcases List.mem_append.mp z with z | z
          · rw [hG2 a z] at h2; cases h2
          · exact h4 (List.mem_append_right _ z)
  have gB : ∀ b ∈ G2 ++ B, b ∈ (As.set i []).flatten ++ (G ++ (G2 ++ B)) := fun b hb => List.mem_append_right _ (List.mem_append_right _ hb)
  refine ⟨⟨?_, ?_, ?_, tab⟩, ⟨(sm0.trans smd).trans (mask_less fun a ha => (List.mem_append.mp ha).elim (fun z => List.mem_append_left _ z) fun z => List.mem_append_right _ (List.mem_append_right _ z)), fun a ha => ?_, fun b hb => (keepR b (gB b (List.mem_append_right _ hb))).trans (x0.fr b hb), fun a h => th a (x0.th a h), x0.fx.trans fx⟩⟩
  · have d := (S.sl.drop i (some v)).sm smd fun a ha => keepR a (List.mem_append_left _ ha)
    have e := d.set x i
    rw [List.set_set, List.set_set, List.set_set] at e
    exact e
  · have p1 : ((As.set i F).flatten ++ (G2 ++ B)).Perm (F ++ ((As.set i []).flatten ++ (G2 ++ B))) := by
      have := (flat_perm (F := F) hlt).append_right (G2 ++ B)
      rw [List.append_assoc] at this
      exact this
    have ndR := (List.nodup_append.mp nd2).2.1
    have ndR2 : ((As.set i []).flatten ++ (G2 ++ B)).Nodup := ndR.sublist ((List.Sublist.refl _).append (List.sublist_append_right G (G2 ++ B)))
    refine p1.nodup_iff.mpr (List.nodup_append.mpr ⟨hn, ndR2, fun a ha b hb e => ?_⟩)
    subst e
    have hb' : a ∈ (As.set i []).flatten ++ (G ++ (G2 ++ B)) := by
      rcases List.mem_append.mp hb with z | z
      · exact List.mem_append_left _ z
      · exact gB a z
    rcases hF a ha with w | w | w
    · obtain ⟨o, q, _⟩ := S.trk a (hR a hb')
      rw [w] at q; cases q
    · exact dis a w hb'
    · rcases List.mem_append.mp hb with z | z
      · exact (List.nodup_append.mp ndR).2.2 a z a (List.mem_append_left _ w) rfl
      · exact (List.nodup_append.mp (List.nodup_append.mp ndR).2.1).2.2 a w a z rfl
  · intro a ha
    rcases List.mem_append.mp ha with h | h
    · rcases (memL' a).mp h with h | h
      · exact ht a h
      · obtain ⟨o, e, ho⟩ := S.trk a (hR a (List.mem_append_left _ h))
        exact ⟨o, by rw [keepR a (List.mem_append_left _ h)]; exact e, ho⟩
    · obtain ⟨o, e, ho⟩ := S.trk a (hR a (gB a h))
      exact ⟨o, by rw [keepR a (gB a h)]; exact e, ho⟩
  · rcases (memL' a).mp ha with h | h
    · rcases hF a h with w | w | w
      · by_cases e : H0 a = none
        · exact .inr e
        · exact absurd w (x0.th a e)
      · exact x0.ow a ((memL a).mpr (.inl w))
      · exact .inr (hG a w)
    · exact x0.ow a ((memL a).mpr (.inr h))
def sParW (m n i j : Nat) (f g : PE' → Option (PyData × PE')) : FS := fun ps => match f ps with
  | some (d, ps1) => match g ps1 with
    | some (e, ps2) => if i < ps2.length ∧ j < ps2.length then some (.nx, (ps2.set i (some (.d m d))).set j (some (.d n e))) else none
    | none => none
  | none => none
section
variable {X : Cx} {C : Cfg} {pin : Nat → Bool} {a b : Expr} {pos : Pos} {n m i j : Nat} {x y : Str}
theorem St.putW {ps : PE'} {σ : L2.St} {H0 H : Hp} {As0 As : List (List Addr)} {B F : List Addr} {v : V} {d : PyData} (x1 : Ext C H0 As0 B H As) (hF : ∀ a ∈ F, H0 a = none) (S1 : St C ps σ H As (F ++ B)) (hl : i < ps.length) (o1 : Ow C.K (msk H As (F ++ B)) H n v d F) :
    ∃ As', St C (ps.set i (some (.d n d))) (σ.set i (some v)) H As' B ∧ Ext C H0 As0 B H As' := by
  obtain ⟨Fi, hFi⟩ := S1.at hl
  have trkF : Trk H F := fun a ha => S1.trk a (by simp [ha])
  have ndF : F.Nodup := (List.nodup_append.mp (List.nodup_append.mp S1.nd).2.1).1
  obtain ⟨S2, x2⟩ := St.slotX (F := F) (sv := .d n d) (v := v) x1 hF S1 hFi (fun b o e _ _ => e) S1.tab (fun _ h => h) .rfl (fun a ha => .inr (.inr ha)) ndF trkF
    (.d (o1.sm (mask_less fun a ha => by
      rcases List.mem_append.mp ha with z | z
      · rcases (flat_split hFi F a).mp z with z | z
        · simp [z]
        · exact List.mem_append_left _ (flat_set_sub z)
      · simp [z]) fun _ _ => rfl))
  exact ⟨_, S2, x2⟩
theorem zParW {px py pt : Pos} {kt k2 pt2} {f g : PE' → Option (PyData × PE')} (hc : X.calm = true) (hN : X.N.Nodup) (hi : X.N[i]? = some x) (hj : X.N[j]? = some y) (hij : i ≠ j)
    (hx : X.env.scope.names.lookup x = some .local) (hy : X.env.scope.names.lookup y = some .local) (ha : PE X a (tW C m f)) (hb : PE X b (tW C n g)) (hpi : pin i = false) (hpj : pin j = false)
    (hw : swappedStores [.Tuple [.Name x px, .Name y py] kt pt] (.Tuple [a, b] k2 pt2) X.env = pure (some [x, y]))
    (hs : swapsWithSole [.Tuple [.Name x px, .Name y py] kt pt] (.Tuple [a, b] k2 pt2) pos.line X.env = pure false := by rfl)
    (he : starEach [a, b] X.env = (false, eval a X.env) :: starEach [b] X.env := by rfl) (he2 : starEach [b] X.env = (false, eval b X.env) :: starEach [] X.env := by rfl) :
    PS X (.Assign [.Tuple [.Name x px, .Name y py] kt pt] (.Tuple [a, b] k2 pt2) pos) (tS C pin (sParW m n i j f g)) := ps_weak (ps_par hc hN hi hj hij hx hy (pa_cons ha (pa_cons hb pa_nil he2) he) hw hs) fun D σ H q => by
  obtain ⟨ps, As, B, S, fl, ps', e, q⟩ := q
  unfold sParW at e
  split at e
  · rename_i d ps1 h1
    split at e
    · rename_i d2 ps2 h2
      split at e
      · rename_i hl
        cases e
        refine ⟨ps, As, B, S, d, ps1, h1, fun v H1 A1 F S1 x1 hF o1 => ⟨ps1, A1, F ++ B, S1, d2, ps2, h2, fun u H2 A2 G S2 x2 hG o2 => ⟨v, u, rfl, ?_⟩⟩⟩
        have o1' : Ow C.K (msk H2 A2 (G ++ (F ++ B))) H2 m v d F := o1.sm (x2.smG hG) fun a ha => x2.fr a (by simp [ha])
        have x12 : Ext C H As B H2 A2 := x1.transG hF x2
        have hG' : ∀ a ∈ G, H a = none := fun a ha => by
          by_cases e : H a = none
          · exact e
          · exact absurd (hG a ha) (x1.th a e)
        have p1 : (G ++ (F ++ B)).Perm (F ++ (G ++ B)) := by
          rw [← List.append_assoc, ← List.append_assoc]
          exact List.Perm.append_right _ List.perm_append_comm
        have S2' := S2.permB p1
        have o1'' : Ow C.K (msk H2 A2 (F ++ (G ++ B))) H2 m v d F := by rw [msk_perm p1]; exact o1'
        have hF' : ∀ a ∈ F, H a = none := hF
        obtain ⟨Fi, hFi⟩ := S2'.at hl.1
        have trkF : Trk H2 F := fun a ha => S2'.trk a (by simp [ha])
        have ndF : F.Nodup := (List.nodup_append.mp (List.nodup_append.mp S2'.nd).2.1).1
        have o2' : Ow C.K (msk H2 A2 (F ++ (G ++ B))) H2 n u d2 G := by rw [msk_perm p1]; exact o2
        have lessF : ∀ a ∈ (A2.set i F).flatten ++ (G ++ B), a ∈ A2.flatten ++ (F ++ (G ++ B)) := fun a ha => by
          rcases List.mem_append.mp ha with z | z
          · rcases (flat_split hFi F a).mp z with z | z
            · simp [z]
            · exact List.mem_append_left _ (flat_set_sub z)
          · exact List.mem_append_right _ (List.mem_append_right _ z)
        obtain ⟨S3, x3⟩ := St.slotX2 (F := F) (sv := .d m d) (v := v) (i := i) x12 hF' hG' S2' hFi (fun b o e _ _ => e) S2'.tab (fun _ h => h) .rfl (fun a ha => .inr (.inr ha)) ndF trkF (.d (o1''.sm (mask_less lessF) fun _ _ => rfl))
        have o2'' : Ow C.K (msk H2 (A2.set i F) (G ++ B)) H2 n u d2 G := o2'.sm (mask_less lessF) fun _ _ => rfl
        obtain ⟨A4, S4, x4⟩ := St.putW (i := j) x3 hG' S3 (by rw [List.length_set]; exact hl.2) o2''
        exact q _ H2 A4 S4 x4 fun k hk => (pin_set hpj k hk).trans (pin_set hpi k hk)
      · cases e
    · cases e
  · cases e
end
end Pv
set_option Elab.async false
set_option linter.all false
set_option maxRecDepth 100000
set_option maxHeartbeats 0

/-! the text of k79 -/
namespace Lw
open PySem PySem.Spec PyProof.Rows L2 GxR Pv
def topS (i : Nat) : Stmt := PySem.Challenge.pw_designweave_k79_whole_answers_of_the_equ.main.body.getD i (.Pass ⟨0, 0, 0, 0⟩)
abbrev st_is_square_number : Stmt := (topS 2)
theorem sc_is_square_number : FnScope ["number"] ["number"] (defScope st_is_square_number) := ⟨rfl, rfl, rfl, by decide +kernel, rfl, by decide +kernel, by decide +kernel⟩
abbrev st_without_squares : Stmt := (topS 3)
theorem sc_without_squares : FnScope ["number", "root", "factor"] ["number"] (defScope st_without_squares) := ⟨rfl, rfl, rfl, by decide +kernel, rfl, by decide +kernel, by decide +kernel⟩
abbrev st_primes_in : Stmt := (topS 4)
theorem sc_primes_in : FnScope ["number", "left", "told", "prime"] ["number"] (defScope st_primes_in) := ⟨rfl, rfl, rfl, by decide +kernel, rfl, by decide +kernel, by decide +kernel⟩
abbrev st_legendre : Stmt := (topS 5)
theorem sc_legendre : FnScope ["number", "prime", "told", "_"] ["number", "prime"] (defScope st_legendre) := ⟨rfl, rfl, rfl, by decide +kernel, rfl, by decide +kernel, by decide +kernel⟩
abbrev st_split_off : Stmt := (topS 6)
theorem sc_split_off : FnScope ["number", "prime", "many"] ["number", "prime"] (defScope st_split_off) := ⟨rfl, rfl, rfl, by decide +kernel, rfl, by decide +kernel, by decide +kernel⟩
abbrev st_symbol : Stmt := (topS 7)
theorem sc_symbol : FnScope ["a", "b", "prime", "many", "u", "more", "v", "turns", "told"] ["a", "b", "prime"] (defScope st_symbol) := ⟨rfl, rfl, rfl, by decide +kernel, rfl, by decide +kernel, by decide +kernel⟩
abbrev st_bar_of : Stmt := (topS 8)
theorem sc_bar_of : FnScope ["a", "b", "prime"] ["a", "b"] (defScope st_bar_of) := ⟨rfl, rfl, rfl, by decide +kernel, rfl, by decide +kernel, by decide +kernel⟩
abbrev st_small_solution : Stmt := (topS 9)
theorem sc_small_solution : FnScope ["a", "b", "c", "y", "z", "value"] ["a", "b", "c"] (defScope st_small_solution) := ⟨rfl, rfl, rfl, by decide +kernel, rfl, by decide +kernel, by decide +kernel⟩
abbrev st_solve : Stmt := (topS 10)
theorem sc_solve : FnScope ["a", "b", "less", "root", "rest", "more", "common", "x", "y", "z", "told", "whole", "number"] ["a", "b"] (defScope st_solve) := ⟨rfl, rfl, rfl, by decide +kernel, rfl, by decide +kernel, by decide +kernel⟩
abbrev st_symmetric_answer : Stmt := (topS 11)
theorem sc_symmetric_answer : FnScope ["v", "k", "l", "sign", "told"] ["v", "k", "l"] (defScope st_symmetric_answer) := ⟨rfl, rfl, rfl, by decide +kernel, rfl, by decide +kernel, by decide +kernel⟩
abbrev st_shows_solution : Stmt := (topS 12)
theorem sc_shows_solution : FnScope ["v", "k", "l", "numbers", "x", "y", "z", "sign"] ["v", "k", "l", "numbers"] (defScope st_shows_solution) := ⟨rfl, rfl, rfl, by decide +kernel, rfl, by decide +kernel, by decide +kernel⟩
abbrev st_shows_bar : Stmt := (topS 13)
theorem sc_shows_bar : FnScope ["v", "k", "l", "paper", "kind", "number", "sign"] ["v", "k", "l", "paper"] (defScope st_shows_bar) := ⟨rfl, rfl, rfl, by decide +kernel, rfl, by decide +kernel, by decide +kernel⟩
abbrev st__law_refill : Stmt := (topS 15)
theorem sc__law_refill : FnScope ["script", "k", "cell"] ["script", "k"] (defScope st__law_refill) := ⟨rfl, rfl, rfl, by decide +kernel, rfl, by decide +kernel, by decide +kernel⟩
abbrev st__law_draw : Stmt := (topS 16)
theorem sc__law_draw : FnScope ["state", "script", "size", "digit"] ["state", "script", "size"] (defScope st__law_draw) := ⟨rfl, rfl, rfl, by decide +kernel, rfl, by decide +kernel, by decide +kernel⟩
abbrev st__law_exact : Stmt := (topS 17)
theorem sc__law_exact : FnScope ["first", "second", "k", "alike"] ["first", "second"] (defScope st__law_exact) := ⟨rfl, rfl, rfl, by decide +kernel, rfl, by decide +kernel, by decide +kernel⟩
abbrev st__law_root : Stmt := (topS 18)
theorem sc__law_root : FnScope ["number", "out"] ["number"] (defScope st__law_root) := ⟨rfl, rfl, rfl, by decide +kernel, rfl, by decide +kernel, by decide +kernel⟩
abbrev st__law_primes : Stmt := (topS 19)
theorem sc__law_primes : FnScope ["number", "left", "out", "prime"] ["number"] (defScope st__law_primes) := ⟨rfl, rfl, rfl, by decide +kernel, rfl, by decide +kernel, by decide +kernel⟩
abbrev st__law_is_prime : Stmt := (topS 20)
theorem sc__law_is_prime : FnScope ["number"] ["number"] (defScope st__law_is_prime) := ⟨rfl, rfl, rfl, by decide +kernel, rfl, by decide +kernel, by decide +kernel⟩
abbrev st__law_bar : Stmt := (topS 21)
theorem sc__law_bar : FnScope ["v", "k", "l", "paper"] ["v", "k", "l", "paper"] (defScope st__law_bar) := ⟨rfl, rfl, rfl, by decide +kernel, rfl, by decide +kernel, by decide +kernel⟩
abbrev st__law_solved : Stmt := (topS 22)
theorem sc__law_solved : FnScope ["v", "k", "l", "numbers", "x", "y", "z"] ["v", "k", "l", "numbers"] (defScope st__law_solved) := ⟨rfl, rfl, rfl, by decide +kernel, rfl, by decide +kernel, by decide +kernel⟩
abbrev st__law_read : Stmt := (topS 23)
theorem sc__law_read : FnScope ["v", "k", "l", "word", "paper"] ["v", "k", "l"] (defScope st__law_read) := ⟨rfl, rfl, rfl, by decide +kernel, rfl, by decide +kernel, by decide +kernel⟩
abbrev st_law : Stmt := (topS 24)
theorem sc_law : FnScope ["script", "state", "k", "size", "l", "v", "j", "paper", "numbers", "i", "n", "known", "m"] ["script"] (defScope st_law) := ⟨rfl, rfl, rfl, by decide +kernel, rfl, by decide +kernel, by decide +kernel⟩
def stab (f : Str) : Bool := true
def Cf (K : PySem.W.Frag) (cls : Str → Addr) : Cfg := ⟨K, [], cls, stab⟩
abbrev C0 : Cfg := ⟨[], [], fun _ => 0, stab⟩
def b_is_square_number : FS := (sRet (fX (f2 eqD (f2 powD (fCall sqrtD (fCons (fVar 0 0) fNil)) (fC (.int 2))) (fVar 1 0))))
def F_is_square_number : FX := callF 1 1 (fun _ => false) b_is_square_number
def b_without_squares : FS := (sSeq (sSet 0 1 (fX (fC (.int 1))))
  (sSeq (sSet 0 2 (fX (fC (.int 2))))
  (sSeq (whF (fX (fB (f2 leD (f2 mulD (fVar 1 2) (fVar 1 2)) (fCall absD (fCons (fVar 1 0) fNil))))) (sSeq (whF (fX (fB (f2 eqD (f2 modD (fVar 0 0) (f2 mulD (fVar 1 2) (fVar 1 2))) (fC (.int 0))))) (sSeq (sSet 0 0 (fX (f2 divD (fVar 0 0) (f2 mulD (fVar 1 2) (fVar 1 2)))))
  (sSet 0 1 (fX (f2 mulD (fVar 1 1) (fVar 1 2))))) 2000)
  (sSet 0 2 (fX (f2 addD (fVar 1 2) (fC (.int 1)))))) 2000)
  (sRet (fX (fMap .tuple (fCons (fVar 0 0) (fCons (fVar 0 1) fNil))))))))
def F_without_squares : FX := callF 3 1 (fun _ => false) b_without_squares
def b_primes_in : FS := (sSeq (sSet 0 1 (fX (fCall absD (fCons (fVar 1 0) fNil))))
  (sSeq (sSet 1 2 (fMapX .list (fX fNil)))
  (sSeq (sSet 0 3 (fX (fC (.int 2))))
  (sSeq (whF (fX (fB (f2 gtD (fVar 1 1) (fC (.int 1))))) (sSeq (sIf (fX (fB (f2 eqD (f2 modD (fVar 0 1) (fVar 0 3)) (fC (.int 0))))) (sSeq (sDrop (xAppF 0 (plN 2) (fX (fVar 0 3))))
  (whF (fX (fB (f2 eqD (f2 modD (fVar 0 1) (fVar 0 3)) (fC (.int 0))))) (sSet 0 1 (fX (f2 divD (fVar 0 1) (fVar 0 3)))) 2000)) sNx)
  (sSet 0 3 (fX (f2 addD (fVar 1 3) (fC (.int 1)))))) 2000)
  (sFrz 2 (sRet (fX (fVar 0 2))))))))
def F_primes_in : FX := callF 4 1 (fun _ => false) b_primes_in
def b_legendre_L27 : FS := (sSet 0 2 (fX (f2 modD (f2 mulD (fVar 1 2) (fVar 1 0)) (fVar 0 1))))
def b_legendre : FS := (sSeq (sSet 0 2 (fX (fC (.int 1))))
  (sSeq (sFor (fX (fCall' rngD (fCons (f2 divD (f2 subD (fVar 0 1) (fC (.int 1))) (fC (.int 2))) fNil))) (gN 3) b_legendre_L27)
  (sRet (fX (fIf (fB (f2 eqD (fVar 1 2) (fC (.int 1)))) (fC (.int 1)) (f1 negD (fC (.int 1))))))))
def F_legendre : FX := callF 4 2 (fun _ => false) b_legendre
def b_split_off : FS := (sSeq (sSet 0 2 (fX (fC (.int 0))))
  (sSeq (whF (fX (fB (f2 eqD (f2 modD (fVar 0 0) (fVar 0 1)) (fC (.int 0))))) (sSeq (sSet 0 0 (fX (f2 divD (fVar 0 0) (fVar 0 1))))
  (sSet 0 2 (fX (f2 addD (fVar 1 2) (fC (.int 1)))))) 2000)
  (sRet (fX (fMap .tuple (fCons (fVar 0 2) (fCons (fVar 0 0) fNil)))))))
def F_split_off : FX := callF 3 2 (fun _ => false) b_split_off
def b_symbol : FS := (sSeq (sAsg (fX (fFn F_split_off (fConsS (fD0 (fVar 0 0)) (fConsS (fD0 (fVar 0 2)) fNilS)))) (gT (gC (gN 3) (gC (gN 4) g0))))
  (sSeq (sAsg (fX (fFn F_split_off (fConsS (fD0 (fVar 0 1)) (fConsS (fD0 (fVar 0 2)) fNilS)))) (gT (gC (gN 5) (gC (gN 6) g0))))
  (sSeq (sIf (fX (fB (f2 eqD (fVar 1 2) (fC (.int 2))))) (sSeq (sSet 0 7 (fX (f2 addD (f2 addD (f2 mulD (f2 divD (f2 subD (fVar 0 4) (fC (.int 1))) (fC (.int 2))) (f2 divD (f2 subD (fVar 0 6) (fC (.int 1))) (fC (.int 2)))) (f2 mulD (fVar 1 3) (f2 divD (f2 subD (f2 mulD (fVar 1 6) (fVar 1 6)) (fC (.int 1))) (fC (.int 8))))) (f2 mulD (fVar 1 5) (f2 divD (f2 subD (f2 mulD (fVar 1 4) (fVar 1 4)) (fC (.int 1))) (fC (.int 8)))))))
  (sRet (fX (fIf (fB (f2 eqD (f2 modD (fVar 0 7) (fC (.int 2))) (fC (.int 0)))) (fC (.int 1)) (f1 negD (fC (.int 1))))))) sNx)
  (sSeq (sSet 0 8 (fX (fIf (fAnd (fB (f2 eqD (f2 modD (f2 mulD (fVar 1 3) (fVar 1 5)) (fC (.int 2))) (fC (.int 1)))) (fB (f2 eqD (f2 modD (fVar 0 2) (fC (.int 4))) (fC (.int 3))))) (f1 negD (fC (.int 1))) (fC (.int 1)))))
  (sSeq (sIf (fX (fB (f2 eqD (f2 modD (fVar 0 5) (fC (.int 2))) (fC (.int 1))))) (sSet 0 8 (fX (f2 mulD (fVar 1 8) (fFn F_legendre (fConsS (fD0 (f2 modD (fVar 0 4) (fVar 0 2))) (fConsS (fD0 (fVar 0 2)) fNilS)))))) sNx)
  (sRet (fX (fIf (fB (f2 eqD (f2 modD (fVar 0 3) (fC (.int 2))) (fC (.int 1)))) (f2 mulD (fVar 1 8) (fFn F_legendre (fConsS (fD0 (f2 modD (fVar 0 6) (fVar 0 2))) (fConsS (fD0 (fVar 0 2)) fNilS)))) (fVar 0 8)))))))))
def F_symbol : FX := callF 9 3 (fun _ => false) b_symbol
def b_bar_of_L47 : FS := (sIf (fX (fB (f2 eqD (fFn F_symbol (fConsS (fD0 (fVar 0 0)) (fConsS (fD0 (fVar 0 1)) (fConsS (fD0 (fVar 0 2)) fNilS)))) (f1 negD (fC (.int 1)))))) (sRet (fX (fVar 0 2))) sNx)
def b_bar_of : FS := (sSeq (sFor (fX (fSeq (fMap .list (fSortedSet (f2 addD (f2 addD (fMap .list (fCons (fC (.int 2)) fNil)) (fFn F_primes_in (fConsS (fD0 (fVar 0 0)) fNilS))) (fFn F_primes_in (fConsS (fD0 (fVar 0 1)) fNilS))))))) (gN 2) b_bar_of_L47)
  (sRet (fX (fC .none))))
def F_bar_of : FX := callF 3 2 (fun _ => false) b_bar_of
def b_small_solution_L53 : FS := (sSeq (sSet 0 5 (fX (f2 addD (f2 mulD (f2 mulD (fVar 1 0) (fVar 1 3)) (fVar 1 3)) (f2 mulD (f2 mulD (fVar 1 1) (fVar 1 4)) (fVar 1 4)))))
  (sIf (fX (fAnd (fOr (fB (f2 gtD (fVar 1 3) (fC (.int 0)))) (fB (f2 gtD (fVar 1 4) (fC (.int 0))))) (fAnd (fB (f2 eqD (f2 modD (fVar 0 5) (fVar 0 2)) (fC (.int 0)))) (fAnd (fB (f2 geD (f2 divD (fVar 0 5) (fVar 0 2)) (fC (.int 0)))) (fT (fFn F_is_square_number (fConsS (fD0 (f2 divD (fVar 0 5) (fVar 0 2))) fNilS))))))) (sRet (fX (fMap .tuple (fCons (fCall sqrtD (fCons (f2 divD (fVar 0 5) (fVar 0 2)) fNil)) (fCons (fVar 0 3) (fCons (fVar 0 4) fNil)))))) sNx))
def b_small_solution_L52 : FS := (sFor (fX (fCall' rngD (fCons (f2 addD (fCall sqrtD (fCons (fCall absD (fCons (f2 mulD (fVar 1 0) (fVar 1 2)) fNil)) fNil)) (fC (.int 1))) fNil))) (gN 4) b_small_solution_L53)
def b_small_solution : FS := (sSeq (sFor (fX (fCall' rngD (fCons (f2 addD (fCall sqrtD (fCons (fCall absD (fCons (f2 mulD (fVar 1 1) (fVar 1 2)) fNil)) fNil)) (fC (.int 1))) fNil))) (gN 3) b_small_solution_L52)
  (sRet (fX (fC .none))))
def F_small_solution : FX := callF 6 3 (fun _ => false) b_small_solution
def b_solve : FS := (sSeq (sIf (fX (fB (f2 notND (fFn F_bar_of (fConsS (fD0 (fVar 0 0)) (fConsS (fD0 (fVar 0 1)) fNilS))) (fC .none)))) (sRet (fX (fC .none))) sNx)
  (sSeq (sAsg (fX (fFn F_without_squares (fConsS (fD0 (fVar 0 0)) fNilS))) (gT (gC (gN 2) (gC (gN 3) g0))))
  (sSeq (sAsg (fX (fFn F_without_squares (fConsS (fD0 (fVar 0 1)) fNilS))) (gT (gC (gN 4) (gC (gN 5) g0))))
  (sSeq (sSet 0 6 (fX (fCall gcdD (fCons (fVar 0 2) (fCons (fVar 0 4) fNil)))))
  (sSeq (sAsg (fX (fFn F_small_solution (fConsS (fD0 (f2 divD (fVar 0 2) (fVar 0 6))) (fConsS (fD0 (f2 divD (fVar 0 4) (fVar 0 6))) (fConsS (fD0 (fVar 0 6)) fNilS))))) (gT (gC (gN 7) (gC (gN 8) (gC (gN 9) g0)))))
  (sSeq (sSet 0 10 (fX (fMap .tuple (fCons (f2 mulD (f2 mulD (f2 mulD (fVar 1 6) (fVar 1 7)) (fVar 1 3)) (fVar 1 5)) (fCons (f2 mulD (fVar 1 8) (fVar 1 5)) (fCons (f2 mulD (fVar 1 9) (fVar 1 3)) fNil))))))
  (sSeq (sSet 0 11 (fX (fCall gcdD (fCons (fCall gcdD (fCons (f2 ixD (fVar 1 10) (fC (.int 0))) (fCons (f2 ixD (fVar 1 10) (fC (.int 1))) fNil))) (fCons (f2 ixD (fVar 1 10) (fC (.int 2))) fNil)))))
  (sRet (fX (fCall tupleD (fCons (fMap .list (lcP [12] (fSeq (fVar 0 10)) (gN 12) fYes (f2 divD (fVar 0 12) (fVar 0 11)))) fNil)))))))))))
def F_solve : FX := callF 13 2 (fun _ => false) b_solve
def b_symmetric_answer : FS := (sSeq (sIf (fX (fB (f2 neD (f2 mulD (fVar 1 1) (f2 subD (fVar 0 1) (fC (.int 1)))) (f2 mulD (fVar 1 2) (f2 subD (fVar 0 0) (fC (.int 1))))))) (sRet (fX (fMap .tuple (fCons (fC (.str (Str.ofString "counts"))) (fCons (fMap .tuple fNil) fNil))))) sNx)
  (sSeq (sIf (fX (fB (f2 eqD (f2 modD (fVar 0 0) (fC (.int 2))) (fC (.int 0))))) (sRet (fX (fIf (fT (fFn F_is_square_number (fConsS (fD0 (f2 subD (fVar 0 1) (fVar 0 2))) fNilS))) (fMap .tuple (fCons (fC (.str (Str.ofString "open"))) (fCons (fMap .tuple fNil) fNil))) (fMap .tuple (fCons (fC (.str (Str.ofString "barred"))) (fCons (fMap .tuple (fCons (fC (.int 2)) (fCons (f2 subD (fVar 0 1) (fVar 0 2)) fNil))) fNil)))))) sNx)
  (sSeq (sSet 0 3 (fX (fIf (fB (f2 eqD (f2 modD (f2 divD (f2 subD (fVar 0 0) (fC (.int 1))) (fC (.int 2))) (fC (.int 2))) (fC (.int 0)))) (fC (.int 1)) (f1 negD (fC (.int 1))))))
  (sSeq (sSet 0 4 (fX (fFn F_solve (fConsS (fD0 (f2 subD (fVar 0 1) (fVar 0 2))) (fConsS (fD0 (f2 mulD (fVar 1 3) (fVar 1 2))) fNilS)))))
  (sRet (fX (fIf (fB (f2 isND (fVar 1 4) (fC .none))) (fMap .tuple (fCons (fC (.str (Str.ofString "barred"))) (fCons (fMap .tuple (fCons (fC (.int 1)) (fCons (fFn F_bar_of (fConsS (fD0 (f2 subD (fVar 0 1) (fVar 0 2))) (fConsS (fD0 (f2 mulD (fVar 1 3) (fVar 1 2))) fNilS))) fNil))) fNil))) (fMap .tuple (fCons (fC (.str (Str.ofString "open"))) (fCons (fVar 0 4) fNil))))))))))
def F_symmetric_answer : FX := callF 5 3 (fun _ => false) b_symmetric_answer
def b_shows_solution : FS := (sSeq (sAsg (fX (fVar 0 3)) (gT (gC (gN 4) (gC (gN 5) (gC (gN 6) g0)))))
  (sSeq (sSet 0 7 (fX (fIf (fB (f2 eqD (f2 modD (f2 divD (f2 subD (fVar 0 0) (fC (.int 1))) (fC (.int 2))) (fC (.int 2))) (fC (.int 0)))) (fC (.int 1)) (f1 negD (fC (.int 1))))))
  (sRet (fX (fAndV (f2 neD (fMap .tuple (fCons (fVar 0 4) (fCons (fVar 0 5) (fCons (fVar 0 6) fNil)))) (fMap .tuple (fCons (fC (.int 0)) (fCons (fC (.int 0)) (fCons (fC (.int 0)) fNil))))) (f2 eqD (f2 mulD (fVar 1 4) (fVar 1 4)) (f2 addD (f2 mulD (f2 mulD (f2 subD (fVar 0 1) (fVar 0 2)) (fVar 1 5)) (fVar 1 5)) (f2 mulD (f2 mulD (f2 mulD (fVar 1 7) (fVar 1 2)) (fVar 1 6)) (fVar 1 6)))))))))
def F_shows_solution : FX := callF 8 4 (fun _ => false) b_shows_solution
def b_shows_bar : FS := (sSeq (sAsg (fX (fVar 0 3)) (gT (gC (gN 4) (gC (gN 5) g0))))
  (sSeq (sIf (fX (fB (f2 eqD (fVar 1 4) (fC (.int 2))))) (sRet (fX (fAndV (f2 eqD (f2 modD (fVar 0 0) (fC (.int 2))) (fC (.int 0))) (fAndV (f2 eqD (fVar 1 5) (f2 subD (fVar 0 1) (fVar 0 2))) (fNotV (fFn F_is_square_number (fConsS (fD0 (fVar 0 5)) fNilS))))))) sNx)
  (sSeq (sIf (fX (fOr (fB (f2 neD (fVar 1 4) (fC (.int 1)))) (fOr (fB (f2 eqD (f2 modD (fVar 0 0) (fC (.int 2))) (fC (.int 0)))) (fOr (fB (f2 ltD (fVar 1 5) (fC (.int 2)))) (fB (f2 neD (fFn F_primes_in (fConsS (fD0 (fVar 0 5)) fNilS)) (fMap .list (fCons (fVar 0 5) fNil)))))))) (sRet (fX (fC (.bool false)))) sNx)
  (sSeq (sSet 0 6 (fX (fIf (fB (f2 eqD (f2 modD (f2 divD (f2 subD (fVar 0 0) (fC (.int 1))) (fC (.int 2))) (fC (.int 2))) (fC (.int 0)))) (fC (.int 1)) (f1 negD (fC (.int 1))))))
  (sRet (fX (f2 eqD (fFn F_symbol (fConsS (fD0 (f2 subD (fVar 0 1) (fVar 0 2))) (fConsS (fD0 (f2 mulD (fVar 1 6) (fVar 1 2))) (fConsS (fD0 (fVar 0 5)) fNilS)))) (f1 negD (fC (.int 1))))))))))
def F_shows_bar : FX := callF 7 4 (fun _ => false) b_shows_bar
def b__law_refill : FS := (sSeq (sSet 0 2 (fX (fC (.int 0))))
  (sSeq (sIf (fX (fScrT 0)) (sSet 0 2 (fX (fScrI 0 (f2 modD (fVar 0 1) (fScrL 0))))) sNx)
  (sSeq (sIf (fX (fB (f2 ltD (fVar 1 2) (fC (.int 0))))) (sSet 0 2 (fX (f2 subD (fC (.int 1)) (f2 mulD (fC (.int 2)) (fVar 1 2))))) sNx)
  (sSeq (sIf (fX (fAnd (fB (f2 geD (fVar 1 2) (f2 powD (fC (.int 10)) (fC (.int 18))))) (fB (f2 ltD (fVar 1 1) (fScrL 0))))) (sRet (fX (fVar 0 2))) sNx)
  (sRet (fX (f2 modD (fCall int1D (fCons (f2 addD (f2 mulD (fCall int1D (fCons (f2 addD (f2 addD (f2 mulD (fVar 1 2) (fC (.int 48271))) (f2 mulD (fVar 1 1) (fC (.int 69621)))) (fC (.int 12345))) fNil)) (fC (.int 40692))) (fC (.int 7))) fNil)) (fC (.int 2147483399)))))))))
def F__law_refill : FX := callF 3 2 (fun _ => false) b__law_refill
def b__law_draw : FS := (sSeq (sIf (fX (fB (f2 eqD (f2 ixD (fVar 2 0) (fC (.int 1))) (fC (.int 0))))) (sSeq (sSub 0 (fX (fFz (fFn F__law_refill (fConsS (fSlot 1) (fConsS (fD0 (f2 ixD (fVar 1 0) (fC (.int 0)))) fNilS))))) (plN 0) (fC (.int 1)))
  (sSub 0 (fX (f2 addD (f2 ixD (fVar 2 0) (fC (.int 0))) (fC (.int 1)))) (plN 0) (fC (.int 0)))) sNx)
  (sSeq (sSet 0 3 (fX (f2 modD (fCall int1D (fCons (f2 ixD (fVar 2 0) (fC (.int 1))) fNil)) (fVar 0 2))))
  (sSeq (sSub 0 (fX (f2 divD (f2 ixD (fVar 1 0) (fC (.int 1))) (fVar 0 2))) (plN 0) (fC (.int 1)))
  (sRet (fX (fVar 0 3))))))
def F__law_draw : FX := callF 4 3 (fun i => i == 0) b__law_draw
def b__law_exact (F0 : FX) : FS := (sSeq (sIf (fX (fT (fIsi2 .list .tuple (fVar 1 0)))) (sSeq (sIf (fX (fOr (fB (f2 neD (fIsi .list (fVar 1 0)) (fIsi .list (fVar 1 1)))) (fB (f2 neD (fIsi .tuple (fVar 1 0)) (fIsi .tuple (fVar 1 1)))))) (sRet (fX (fC (.bool false)))) sNx)
  (sRet (fX (fAndV (f2 eqD (fCall lenD (fCons (fVar 1 0) fNil)) (fCall lenD (fCons (fVar 1 1) fNil))) (fCall allD (fCons (fMap .list (lcP [2] (fCall' rngD (fCons (fCall lenD (fCons (fVar 1 0) fNil)) fNil)) (gN 2) fYes (fFn F0 (fConsS (fD0 (f2 ixD (fVar 1 0) (fVar 1 2))) (fConsS (fD0 (f2 ixD (fVar 1 1) (fVar 1 2))) fNilS))))) fNil)))))) sNx)
  (sSeq (sIf (fX (fOr (fB (f2 isND (fVar 1 0) (fC .none))) (fB (f2 isND (fVar 1 1) (fC .none))))) (sRet (fX (fAndV (f2 isND (fVar 1 0) (fC .none)) (f2 isND (fVar 1 1) (fC .none))))) sNx)
  (sSeq (sSet 0 3 (fX (fAndV (f2 eqD (fIsi .str (fVar 1 0)) (fIsi .str (fVar 1 1))) (f2 eqD (fIsi .bool (fVar 1 0)) (fIsi .bool (fVar 1 1))))))
  (sRet (fX (fAndV (fVar 0 3) (fAndV (f2 eqD (fIsi .int (fVar 1 0)) (fIsi .int (fVar 1 1))) (f2 eqD (fVar 1 0) (fVar 1 1)))))))))
def F__law_exact : Nat → FX
  | 0 => fun _ => none
  | n + 1 => callF 4 2 (fun _ => false) (b__law_exact (F__law_exact n))
def b__law_root : FS := (sSeq (sSet 0 1 (fX (fC (.int 0))))
  (sSeq (whF (fX (fB (f2 leD (f2 mulD (f2 addD (fVar 1 1) (fC (.int 1))) (f2 addD (fVar 1 1) (fC (.int 1)))) (fVar 1 0)))) (sSet 0 1 (fX (f2 addD (fVar 1 1) (fC (.int 1))))) 2000)
  (sRet (fX (fVar 0 1)))))
def F__law_root : FX := callF 2 1 (fun _ => false) b__law_root
def b__law_primes_L121 : FS := (sIf (fX (fB (f2 eqD (f2 mulD (f2 divD (fVar 0 1) (fVar 0 3)) (fVar 1 3)) (fVar 1 1)))) (sSeq (sDrop (xAppF 0 (plN 2) (fX (fVar 0 3))))
  (whF (fX (fB (f2 eqD (f2 mulD (f2 divD (fVar 0 1) (fVar 0 3)) (fVar 1 3)) (fVar 1 1)))) (sSet 0 1 (fX (f2 divD (fVar 0 1) (fVar 0 3)))) 2000)) sNx)
def b__law_primes : FS := (sSeq (sParW 0 1 1 2 (fX (fCall absD (fCons (fVar 1 0) fNil))) (fMapX .list (fX fNil)))
  (sSeq (sFor (fX (fCall' rngD (fCons (fC (.int 2)) (fCons (f2 addD (fVar 1 1) (fC (.int 1))) fNil)))) (gN 3) b__law_primes_L121)
  (sFrz 2 (sRet (fX (fVar 0 2))))))
def F__law_primes : FX := callF 4 1 (fun _ => false) b__law_primes
def b__law_is_prime : FS := (sRet (fX (fAndV (f2 gtD (fVar 1 0) (fC (.int 1))) (f2 eqD (fFn F__law_primes (fConsS (fD0 (fVar 0 0)) fNilS)) (fMap .list (fCons (fVar 0 0) fNil))))))
def F__law_is_prime : FX := callF 1 1 (fun _ => false) b__law_is_prime
def b__law_bar : FS := (sSeq (sIf (fX (fB (f2 eqD (f2 ixD (fVar 2 3) (fC (.int 0))) (fC (.int 2))))) (sRet (fX (fAndV (f2 eqD (f2 modD (fCall int1D (fCons (fVar 1 0) fNil)) (fC (.int 2))) (fC (.int 0))) (fAndV (f2 eqD (f2 ixD (fVar 2 3) (fC (.int 1))) (f2 subD (fVar 0 1) (fVar 0 2))) (f2 neD (f2 mulD (fFn F__law_root (fConsS (fD0 (f2 subD (fVar 0 1) (fVar 0 2))) fNilS)) (fFn F__law_root (fConsS (fD0 (f2 subD (fVar 0 1) (fVar 0 2))) fNilS))) (f2 subD (fVar 0 1) (fVar 0 2))))))) sNx)
  (sSeq (sIf (fX (fOr (fB (f2 neD (f2 ixD (fVar 2 3) (fC (.int 0))) (fC (.int 1)))) (fOr (fB (f2 eqD (f2 modD (fCall int1D (fCons (fVar 1 0) fNil)) (fC (.int 2))) (fC (.int 0)))) (fNot (fT (fFn F__law_is_prime (fConsS (fD0 (f2 ixD (fVar 1 3) (fC (.int 1)))) fNilS))))))) (sRet (fX (fC (.bool false)))) sNx)
  (sRet (fX (f2 eqD (fFn F_symbol (fConsS (fD0 (f2 subD (fVar 0 1) (fVar 0 2))) (fConsS (fD0 (fIf (fB (f2 eqD (f2 modD (fCall int1D (fCons (fVar 1 0) fNil)) (fC (.int 4))) (fC (.int 1)))) (fVar 0 2) (f1 negD (fVar 0 2)))) (fConsS (fD0 (f2 ixD (fVar 1 3) (fC (.int 1)))) fNilS)))) (f1 negD (fC (.int 1))))))))
def F__law_bar : FX := callF 4 4 (fun _ => false) b__law_bar
def b__law_solved : FS := (sSeq (sAsg (fX (fVar 0 3)) (gT (gC (gN 4) (gC (gN 5) (gC (gN 6) g0)))))
  (sRet (fX (fAndV (f2 neD (fVar 1 3) (fMap .tuple (fCons (fC (.int 0)) (fCons (fC (.int 0)) (fCons (fC (.int 0)) fNil))))) (f2 eqD (f2 mulD (fVar 1 4) (fVar 1 4)) (f2 addD (f2 mulD (f2 mulD (f2 subD (fVar 0 1) (fVar 0 2)) (fVar 1 5)) (fVar 1 5)) (f2 mulD (f2 mulD (fIf (fB (f2 eqD (f2 modD (fCall int1D (fCons (fVar 1 0) fNil)) (fC (.int 4))) (fC (.int 1)))) (fVar 1 2) (f1 negD (fVar 0 2))) (fVar 1 6)) (fVar 1 6))))))))
def F__law_solved : FX := callF 7 4 (fun _ => false) b__law_solved
def b__law_read : FS := (sSeq (sAsg (fX (fFn F_symmetric_answer (fConsS (fD0 (fVar 0 0)) (fConsS (fD0 (fVar 0 1)) (fConsS (fD0 (fVar 0 2)) fNilS))))) (gT (gC (gN 3) (gC (gN 4) g0))))
  (sSeq (sIf (fX (fB (f2 neD (f2 mulD (fVar 1 1) (f2 subD (fVar 0 1) (fC (.int 1)))) (f2 mulD (fVar 1 2) (f2 subD (fVar 0 0) (fC (.int 1))))))) (sRet (fX (fAndV (f2 eqD (fVar 1 3) (fC (.str (Str.ofString "counts")))) (f2 eqD (fVar 1 4) (fMap .tuple fNil))))) sNx)
  (sSeq (sIf (fX (fB (f2 eqD (fVar 1 3) (fC (.str (Str.ofString "barred")))))) (sRet (fX (fAndV (fFn F__law_bar (fConsS (fD0 (fVar 0 0)) (fConsS (fD0 (fVar 0 1)) (fConsS (fD0 (fVar 0 2)) (fConsS (fD0 (fVar 0 4)) fNilS))))) (fFn (F__law_exact 40) (fConsS (fD0 (fC (.bool true))) (fConsS (fD0 (fFn F_shows_bar (fConsS (fD0 (fVar 0 0)) (fConsS (fD0 (fVar 0 1)) (fConsS (fD0 (fVar 0 2)) (fConsS (fD0 (fVar 0 4)) fNilS)))))) fNilS)))))) sNx)
  (sSeq (sIf (fX (fB (f2 neD (fVar 1 3) (fC (.str (Str.ofString "open")))))) (sRet (fX (fC (.bool false)))) sNx)
  (sSeq (sIf (fX (fB (f2 eqD (f2 modD (fCall int1D (fCons (fVar 1 0) fNil)) (fC (.int 2))) (fC (.int 0))))) (sRet (fX (fAndV (f2 eqD (fVar 1 4) (fMap .tuple fNil)) (f2 eqD (f2 mulD (fFn F__law_root (fConsS (fD0 (f2 subD (fVar 0 1) (fVar 0 2))) fNilS)) (fFn F__law_root (fConsS (fD0 (f2 subD (fVar 0 1) (fVar 0 2))) fNilS))) (f2 subD (fVar 0 1) (fVar 0 2)))))) sNx)
  (sRet (fX (fAndV (fFn F__law_solved (fConsS (fD0 (fVar 0 0)) (fConsS (fD0 (fVar 0 1)) (fConsS (fD0 (fVar 0 2)) (fConsS (fD0 (fVar 0 4)) fNilS))))) (fFn (F__law_exact 40) (fConsS (fD0 (fC (.bool true))) (fConsS (fD0 (fFn F_shows_solution (fConsS (fD0 (fVar 0 0)) (fConsS (fD0 (fVar 0 1)) (fConsS (fD0 (fVar 0 2)) (fConsS (fD0 (fVar 0 4)) fNilS)))))) fNilS)))))))))))
def F__law_read : FX := callF 5 3 (fun _ => false) b__law_read
def b_law_L158 : FS := (sSeq (sSet 0 7 (fMapX .tuple (xCons (x2 addD (fX (fC (.int 1))) (fMv 1 F__law_draw (xConsS (fX (fSlot 0)) (xConsS (xD0 (fX (fC (.int 3)))) xNilS)))) (xCons (x2 ixD (fX (fMap .list (fCons (f2 subD (fVar 0 3) (fVar 0 4)) (fCons (fC (.int 2)) (fCons (fC (.int 3)) (fCons (fC (.int 5)) (fCons (fC (.int 7)) (fCons (fC (.int 11)) (fCons (fC (.int 9)) fNil))))))))) (fMv 1 F__law_draw (xConsS (fX (fSlot 0)) (xConsS (xD0 (fX (fC (.int 7)))) xNilS)))) xNil))))
  (sSeq (sIf (fX (fNot (fT (fFn (F__law_exact 40) (fConsS (fD0 (fFn F__law_bar (fConsS (fD0 (fVar 0 5)) (fConsS (fD0 (fVar 0 3)) (fConsS (fD0 (fVar 0 4)) (fConsS (fD0 (fVar 0 7)) fNilS)))))) (fConsS (fD0 (fFn F_shows_bar (fConsS (fD0 (fVar 0 5)) (fConsS (fD0 (fVar 0 3)) (fConsS (fD0 (fVar 0 4)) (fConsS (fD0 (fVar 0 7)) fNilS)))))) fNilS)))))) (sRet (fX (fC (.bool false)))) sNx)
  (sSeq (sSet 0 8 (xCall tupleD (xCons (fMapX .list (lcX [9] (fX (fCall' rngD (fCons (fC (.int 3)) fNil))) (gN 9) xYes (x2 subD (fMv 1 F__law_draw (xConsS (fX (fSlot 0)) (xConsS (xD0 (fX (fC (.int 5)))) xNilS))) (fX (fC (.int 1)))))) xNil)))
  (sIf (fX (fAnd (fB (f2 eqD (f2 modD (fCall int1D (fCons (fVar 1 5) fNil)) (fC (.int 2))) (fC (.int 1)))) (fNot (fT (fFn (F__law_exact 40) (fConsS (fD0 (fFn F__law_solved (fConsS (fD0 (fVar 0 5)) (fConsS (fD0 (fVar 0 3)) (fConsS (fD0 (fVar 0 4)) (fConsS (fD0 (fVar 0 8)) fNilS)))))) (fConsS (fD0 (fFn F_shows_solution (fConsS (fD0 (fVar 0 5)) (fConsS (fD0 (fVar 0 3)) (fConsS (fD0 (fVar 0 4)) (fConsS (fD0 (fVar 0 8)) fNilS)))))) fNilS))))))) (sRet (fX (fC (.bool false)))) sNx))))
def b_law_L151 : FS := (sSeq (sSet 0 3 (x2 addD (fX (fC (.int 3))) (fMv 1 F__law_draw (xConsS (fX (fSlot 0)) (xConsS (xD0 (fX (fC (.int 20)))) xNilS)))))
  (sSeq (sSet 0 4 (x2 addD (fX (fC (.int 1))) (fMv 1 F__law_draw (xConsS (fX (fSlot 0)) (xConsS (xD0 (fX (f2 subD (fVar 0 3) (fC (.int 1))))) xNilS)))))
  (sSeq (sSet 0 5 (x2 addD (fX (f2 addD (f2 divD (f2 mulD (fVar 1 3) (f2 subD (fVar 0 3) (fC (.int 1)))) (fVar 0 4)) (fC (.int 1)))) (x2 mulD (fMv 1 F__law_draw (xConsS (fX (fSlot 0)) (xConsS (xD0 (fX (fC (.int 2)))) xNilS))) (fMv 1 F__law_draw (xConsS (fX (fSlot 0)) (xConsS (xD0 (fX (fC (.int 2)))) xNilS))))))
  (sSeq (sIf (fX (fAnd (fB (chD ltD leD (fVar 1 3) (fVar 1 5) (fC (.int 400)))) (fNot (fT (fFn F__law_read (fConsS (fD0 (fVar 0 5)) (fConsS (fD0 (fVar 0 3)) (fConsS (fD0 (fVar 0 4)) fNilS)))))))) (sRet (fX (fC (.bool false)))) sNx)
  (sIf (fX (fAnd (fB (chD ltD leD (fVar 1 3) (fVar 1 5) (fC (.int 400)))) (fB (f2 eqD (f2 mulD (fVar 1 3) (f2 subD (fVar 0 3) (fC (.int 1)))) (f2 mulD (fVar 1 4) (f2 subD (fVar 0 5) (fC (.int 1)))))))) (sFor (fX (fCall' rngD (fCons (fC (.int 3)) fNil))) (gN 6) b_law_L158) sNx)))))
def b_law : FS := (sSeq (sSet 1 1 (fMapX .list (fX (fCons (fC (.int 0)) (fCons (fC (.int 0)) fNil)))))
  (sSeq (sFor (fX (fCall' rngD (fCons (fC (.int 4)) fNil))) (gN 2) b_law_L151)
  (sSeq (sSet 0 10 (x2 addD (fX (fC (.int 2))) (fMv 1 F__law_draw (xConsS (fX (fSlot 0)) (xConsS (xD0 (fX (fC (.int 16)))) xNilS)))))
  (sSeq (sIf (fX (fNot (fT (fFn F__law_read (fConsS (fD0 (f2 addD (f2 addD (f2 mulD (fVar 1 10) (fVar 1 10)) (fVar 1 10)) (fC (.int 1)))) (fConsS (fD0 (f2 addD (fVar 1 10) (fC (.int 1)))) (fConsS (fD0 (fC (.int 1))) fNilS))))))) (sRet (fX (fC (.bool false)))) sNx)
  (sSeq (sSet 0 11 (fX (f2 addD (fMap .list (lcP [10] (fSeq (fMap .tuple (fCons (fC (.int 2)) (fCons (fC (.int 3)) (fCons (fC (.int 4)) (fCons (fC (.int 5)) (fCons (fC (.int 7)) (fCons (fC (.int 8)) (fCons (fC (.int 9)) (fCons (fC (.int 11)) (fCons (fC (.int 13)) (fCons (fC (.int 16)) fNil)))))))))))) (gN 10) fYes (fMap .tuple (fCons (f2 addD (f2 addD (f2 mulD (fVar 1 10) (fVar 1 10)) (fVar 1 10)) (fC (.int 1))) (fCons (f2 addD (fVar 1 10) (fC (.int 1))) (fCons (fC (.int 1)) fNil)))))) (fMap .list (lcP [12] (fCall' rngD (fCons (fC (.int 2)) (fCons (fC (.int 20)) fNil))) (gN 12) fYes (fMap .tuple (fCons (f2 subD (f2 mulD (fC (.int 4)) (fVar 1 12)) (fC (.int 1))) (fCons (f2 subD (f2 mulD (fC (.int 2)) (fVar 1 12)) (fC (.int 1))) (fCons (f2 subD (fVar 0 12) (fC (.int 1))) fNil)))))))))
  (sSeq (sAsg (xIxN 11 (fMv 1 F__law_draw (xConsS (fX (fSlot 0)) (xConsS (xD0 (fX (fC (.int 28)))) xNilS)))) (gT (gC (gN 5) (gC (gN 3) (gC (gN 4) g0)))))
  (sSeq (sIf (fX (fB (f2 neD (f2 ixD (fFn F_symmetric_answer (fConsS (fD0 (fVar 0 5)) (fConsS (fD0 (fVar 0 3)) (fConsS (fD0 (fVar 0 4)) fNilS)))) (fC (.int 0))) (fC (.str (Str.ofString "open")))))) (sRet (fX (fC (.bool false)))) sNx)
  (sRet (fX (fAndV (f2 eqD (f2 ixD (fFn F_symmetric_answer (fConsS (fD0 (fC (.int 43))) (fConsS (fD0 (fC (.int 7))) (fConsS (fD0 (fC (.int 1))) fNilS)))) (fC (.int 0))) (fC (.str (Str.ofString "barred")))) (f2 eqD (f2 ixD (fFn F_symmetric_answer (fConsS (fD0 (fC (.int 22))) (fConsS (fD0 (fC (.int 7))) (fConsS (fD0 (fC (.int 2))) fNilS)))) (fC (.int 0))) (fC (.str (Str.ofString "barred"))))))))))))))
def F_law : FX := callF 13 1 (fun _ => false) b_law
structure Txt (K : PySem.W.Frag) (mg : Str → Option Value) (cls : Str → Addr) : Prop where
  z_abs : mg "abs" = none
  z_all : mg "all" = none
  z_bool : mg "bool" = none
  z_int : mg "int" = none
  z_isinstance : mg "isinstance" = none
  z_len : mg "len" = none
  z_list : mg "list" = none
  z_range : mg "range" = none
  z_set : mg "set" = none
  z_sorted : mg "sorted" = none
  z_str : mg "str" = none
  z_tuple : mg "tuple" = none
  g_gcd : mg "gcd" = some (.builtin "math.gcd")
  g_isqrt : mg "isqrt" = some (.builtin "math.isqrt")
  F_is_square_number : ∃ f fd, Fun K "is_square_number" "is_square_number" st_is_square_number f fd ∧ mg "is_square_number" = some (.ref f) ∧ Binds K fd ["number"] []
  F_without_squares : ∃ f fd, Fun K "without_squares" "without_squares" st_without_squares f fd ∧ mg "without_squares" = some (.ref f) ∧ Binds K fd ["number"] []
  F_primes_in : ∃ f fd, Fun K "primes_in" "primes_in" st_primes_in f fd ∧ mg "primes_in" = some (.ref f) ∧ Binds K fd ["number"] []
  F_legendre : ∃ f fd, Fun K "legendre" "legendre" st_legendre f fd ∧ mg "legendre" = some (.ref f) ∧ Binds K fd ["number", "prime"] []
  F_split_off : ∃ f fd, Fun K "split_off" "split_off" st_split_off f fd ∧ mg "split_off" = some (.ref f) ∧ Binds K fd ["number", "prime"] []
  F_symbol : ∃ f fd, Fun K "symbol" "symbol" st_symbol f fd ∧ mg "symbol" = some (.ref f) ∧ Binds K fd ["a", "b", "prime"] []
  F_bar_of : ∃ f fd, Fun K "bar_of" "bar_of" st_bar_of f fd ∧ mg "bar_of" = some (.ref f) ∧ Binds K fd ["a", "b"] []
  F_small_solution : ∃ f fd, Fun K "small_solution" "small_solution" st_small_solution f fd ∧ mg "small_solution" = some (.ref f) ∧ Binds K fd ["a", "b", "c"] []
  F_solve : ∃ f fd, Fun K "solve" "solve" st_solve f fd ∧ mg "solve" = some (.ref f) ∧ Binds K fd ["a", "b"] []
  F_symmetric_answer : ∃ f fd, Fun K "symmetric_answer" "symmetric_answer" st_symmetric_answer f fd ∧ mg "symmetric_answer" = some (.ref f) ∧ Binds K fd ["v", "k", "l"] []
  F_shows_solution : ∃ f fd, Fun K "shows_solution" "shows_solution" st_shows_solution f fd ∧ mg "shows_solution" = some (.ref f) ∧ Binds K fd ["v", "k", "l", "numbers"] []
  F_shows_bar : ∃ f fd, Fun K "shows_bar" "shows_bar" st_shows_bar f fd ∧ mg "shows_bar" = some (.ref f) ∧ Binds K fd ["v", "k", "l", "paper"] []
  F__law_refill : ∃ f fd, Fun K "_law_refill" "_law_refill" st__law_refill f fd ∧ mg "_law_refill" = some (.ref f) ∧ Binds K fd ["script", "k"] []
  F__law_draw : ∃ f fd, Fun K "_law_draw" "_law_draw" st__law_draw f fd ∧ mg "_law_draw" = some (.ref f) ∧ Binds K fd ["state", "script", "size"] []
  F__law_exact : ∃ f fd, Fun K "_law_exact" "_law_exact" st__law_exact f fd ∧ mg "_law_exact" = some (.ref f) ∧ Binds K fd ["first", "second"] []
  F__law_root : ∃ f fd, Fun K "_law_root" "_law_root" st__law_root f fd ∧ mg "_law_root" = some (.ref f) ∧ Binds K fd ["number"] []
  F__law_primes : ∃ f fd, Fun K "_law_primes" "_law_primes" st__law_primes f fd ∧ mg "_law_primes" = some (.ref f) ∧ Binds K fd ["number"] []
  F__law_is_prime : ∃ f fd, Fun K "_law_is_prime" "_law_is_prime" st__law_is_prime f fd ∧ mg "_law_is_prime" = some (.ref f) ∧ Binds K fd ["number"] []
  F__law_bar : ∃ f fd, Fun K "_law_bar" "_law_bar" st__law_bar f fd ∧ mg "_law_bar" = some (.ref f) ∧ Binds K fd ["v", "k", "l", "paper"] []
  F__law_solved : ∃ f fd, Fun K "_law_solved" "_law_solved" st__law_solved f fd ∧ mg "_law_solved" = some (.ref f) ∧ Binds K fd ["v", "k", "l", "numbers"] []
  F__law_read : ∃ f fd, Fun K "_law_read" "_law_read" st__law_read f fd ∧ mg "_law_read" = some (.ref f) ∧ Binds K fd ["v", "k", "l"] []
  F_law : ∃ f fd, Fun K "law" "law" st_law f fd ∧ mg "law" = some (.ref f) ∧ Binds K fd ["script"] []
section
variable {P : Program} {w : World} {K : PySem.W.Frag} {mg : Str → Option Value} {base : Heap} {cls : Str → Addr}
theorem y_is_square_number (T : Txt K mg cls) {f : Addr} {cdv : Value} {A : Around} {outer : List Env} {s : Shared} {H : Hp} {E : XK} (hr : Room 0 (A.deeper (envOfC "is_square_number" (defScope st_is_square_number) s.heap.objs.size f cdv))) :
    PSs (cxOf CX0 P w K mg base ["number"] "is_square_number" (defScope st_is_square_number) f cdv A outer s H E).nox (defBody st_is_square_number) (tS (Cf K cls) (fun _ => false) b_is_square_number) :=
  (zOne (zRet (xE (eCmp (kEq rfl hr.units) (pPow (m := 0) (eFun (m := 0) cr_isqrt vSqrt (gl_by (by kernel_rfl)) T.g_isqrt (aCons (pVar (n := 0) (i := 0) (by kernel_rfl) (vis_by (by kernel_rfl))) aNil)) pInt) (pVar (n := 1) (i := 0) (by kernel_rfl) (vis_by (by kernel_rfl))) rfl))))
theorem D_is_square_number (T : Txt K mg cls) : Dfn P w K mg base (Cf K cls) (1) 1 "is_square_number" F_is_square_number := by
  obtain ⟨f, fd, F1, hm, hb⟩ := T.F_is_square_number
  exact ⟨⟨f, fd, _, fnX F1 sc_is_square_number (by decide) (fun cdv A outer s H E hr => y_is_square_number T hr), hm, F1.kp, hb⟩, callF_len⟩
theorem y_without_squares (T : Txt K mg cls) {f : Addr} {cdv : Value} {A : Around} {outer : List Env} {s : Shared} {H : Hp} {E : XK} (hr : Room 0 (A.deeper (envOfC "without_squares" (defScope st_without_squares) s.heap.objs.size f cdv))) :
    PSs (cxOf CX0 P w K mg base ["number", "root", "factor"] "without_squares" (defScope st_without_squares) f cdv A outer s H E).nox (defBody st_without_squares) (tS (Cf K cls) (fun _ => false) b_without_squares) :=
  (zCons (zSet (i := 1) sc_without_squares.nd (by kernel_rfl) (loc_by (by kernel_rfl)) (wE (xE pInt)) (by kernel_rfl) rfl (fn_by (by kernel_rfl)))
  (zCons (zSet (i := 2) sc_without_squares.nd (by kernel_rfl) (loc_by (by kernel_rfl)) (wE (xE pInt)) (by kernel_rfl) rfl (fn_by (by kernel_rfl)))
  (zCons (zWhile 2000 .never (xT (Pv.tCmp (kLe) (pMul rfl (pVar (n := 1) (i := 2) (by kernel_rfl) (vis_by (by kernel_rfl))) (pVar (n := 1) (i := 2) (by kernel_rfl) (vis_by (by kernel_rfl)))) (eB (bAbs rfl) (gl_by (by kernel_rfl)) T.z_abs (aCons (pVar (n := 1) (i := 0) (by kernel_rfl) (vis_by (by kernel_rfl))) aNil)) rfl)) (zCons (zWhile 2000 .never (xT (Pv.tCmp (kEq rfl hr.units) (pMod (m := 0) (pVar (n := 0) (i := 0) (by kernel_rfl) (vis_by (by kernel_rfl))) (pMul rfl (pVar (n := 1) (i := 2) (by kernel_rfl) (vis_by (by kernel_rfl))) (pVar (n := 1) (i := 2) (by kernel_rfl) (vis_by (by kernel_rfl))))) pInt rfl)) (zCons (zSet (i := 0) sc_without_squares.nd (by kernel_rfl) (loc_by (by kernel_rfl)) (wE (xE (pDiv (m := 0) (pVar (n := 0) (i := 0) (by kernel_rfl) (vis_by (by kernel_rfl))) (pMul rfl (pVar (n := 1) (i := 2) (by kernel_rfl) (vis_by (by kernel_rfl))) (pVar (n := 1) (i := 2) (by kernel_rfl) (vis_by (by kernel_rfl))))))) (by kernel_rfl) rfl (fn_by (by kernel_rfl)))
  (zOne (zSet (i := 1) sc_without_squares.nd (by kernel_rfl) (loc_by (by kernel_rfl)) (wE (xE (pMul rfl (pVar (n := 1) (i := 1) (by kernel_rfl) (vis_by (by kernel_rfl))) (pVar (n := 1) (i := 2) (by kernel_rfl) (vis_by (by kernel_rfl)))))) (by kernel_rfl) rfl (fn_by (by kernel_rfl))))))
  (zOne (zSet (i := 2) sc_without_squares.nd (by kernel_rfl) (loc_by (by kernel_rfl)) (wE (xE (pAdd rfl (pVar (n := 1) (i := 2) (by kernel_rfl) (vis_by (by kernel_rfl))) pInt))) (by kernel_rfl) rfl (fn_by (by kernel_rfl))))))
  (zOne (zRet (xE (eTup (aCons (pVar (n := 0) (i := 0) (by kernel_rfl) (vis_by (by kernel_rfl))) (aCons (pVar (n := 0) (i := 1) (by kernel_rfl) (vis_by (by kernel_rfl))) aNil)))))))))
theorem D_without_squares (T : Txt K mg cls) : Dfn P w K mg base (Cf K cls) (1) 1 "without_squares" F_without_squares := by
  obtain ⟨f, fd, F1, hm, hb⟩ := T.F_without_squares
  exact ⟨⟨f, fd, _, fnX F1 sc_without_squares (by decide) (fun cdv A outer s H E hr => y_without_squares T hr), hm, F1.kp, hb⟩, callF_len⟩
theorem y_primes_in (T : Txt K mg cls) {f : Addr} {cdv : Value} {A : Around} {outer : List Env} {s : Shared} {H : Hp} {E : XK} (hr : Room 0 (A.deeper (envOfC "primes_in" (defScope st_primes_in) s.heap.objs.size f cdv))) :
    PSs (cxOf CX0 P w K mg base ["number", "left", "told", "prime"] "primes_in" (defScope st_primes_in) f cdv A outer s H E).nox (defBody st_primes_in) (tS (Cf K cls) (fun _ => false) b_primes_in) :=
  (zCons (zSet (i := 1) sc_primes_in.nd (by kernel_rfl) (loc_by (by kernel_rfl)) (wE (xE (eB (bAbs rfl) (gl_by (by kernel_rfl)) T.z_abs (aCons (pVar (n := 1) (i := 0) (by kernel_rfl) (vis_by (by kernel_rfl))) aNil)))) (by kernel_rfl) rfl (fn_by (by kernel_rfl)))
  (zCons (zSet (i := 2) sc_primes_in.nd (by kernel_rfl) (loc_by (by kernel_rfl)) (wN (xN (nLst aNil))) (by kernel_rfl) rfl (fn_by (by kernel_rfl)))
  (zCons (zSet (i := 3) sc_primes_in.nd (by kernel_rfl) (loc_by (by kernel_rfl)) (wE (xE pInt)) (by kernel_rfl) rfl (fn_by (by kernel_rfl)))
  (zCons (zWhile 2000 .never (xT (Pv.tCmp (kGt) (pVar (n := 1) (i := 1) (by kernel_rfl) (vis_by (by kernel_rfl))) pInt rfl)) (zCons (zIf (xT (Pv.tCmp (kEq rfl hr.units) (pMod (m := 0) (pVar (n := 0) (i := 1) (by kernel_rfl) (vis_by (by kernel_rfl))) (pVar (n := 0) (i := 3) (by kernel_rfl) (vis_by (by kernel_rfl)))) pInt rfl)) (zCons (zDrop (xApp rfl (lVar (i := 2) (by kernel_rfl) (vis_by (by kernel_rfl))) (pVar (n := 0) (i := 3) (by kernel_rfl) (vis_by (by kernel_rfl)))))
  (zOne (zWhile 2000 .never (xT (Pv.tCmp (kEq rfl hr.units) (pMod (m := 0) (pVar (n := 0) (i := 1) (by kernel_rfl) (vis_by (by kernel_rfl))) (pVar (n := 0) (i := 3) (by kernel_rfl) (vis_by (by kernel_rfl)))) pInt rfl)) (zOne (zSet (i := 1) sc_primes_in.nd (by kernel_rfl) (loc_by (by kernel_rfl)) (wE (xE (pDiv (m := 0) (pVar (n := 0) (i := 1) (by kernel_rfl) (vis_by (by kernel_rfl))) (pVar (n := 0) (i := 3) (by kernel_rfl) (vis_by (by kernel_rfl)))))) (by kernel_rfl) rfl (fn_by (by kernel_rfl))))))) zNil)
  (zOne (zSet (i := 3) sc_primes_in.nd (by kernel_rfl) (loc_by (by kernel_rfl)) (wE (xE (pAdd rfl (pVar (n := 1) (i := 3) (by kernel_rfl) (vis_by (by kernel_rfl))) pInt))) (by kernel_rfl) rfl (fn_by (by kernel_rfl))))))
  (zOne (zFrz 2 (zRet (xE (pVar (n := 0) (i := 2) (by kernel_rfl) (vis_by (by kernel_rfl)))))))))))
theorem D_primes_in (T : Txt K mg cls) : Dfn P w K mg base (Cf K cls) (1) 1 "primes_in" F_primes_in := by
  obtain ⟨f, fd, F1, hm, hb⟩ := T.F_primes_in
  exact ⟨⟨f, fd, _, fnX F1 sc_primes_in (by decide) (fun cdv A outer s H E hr => y_primes_in T hr), hm, F1.kp, hb⟩, callF_len⟩
theorem y_legendre (T : Txt K mg cls) {f : Addr} {cdv : Value} {A : Around} {outer : List Env} {s : Shared} {H : Hp} {E : XK} (hr : Room 0 (A.deeper (envOfC "legendre" (defScope st_legendre) s.heap.objs.size f cdv))) :
    PSs (cxOf CX0 P w K mg base ["number", "prime", "told", "_"] "legendre" (defScope st_legendre) f cdv A outer s H E).nox (defBody st_legendre) (tS (Cf K cls) (fun _ => false) b_legendre) :=
  (zCons (zSet (i := 2) sc_legendre.nd (by kernel_rfl) (loc_by (by kernel_rfl)) (wE (xE pInt)) (by kernel_rfl) rfl (fn_by (by kernel_rfl)))
  (zCons (zFor .never rfl (iX (iRange1 (n := 0) (m := 0) (gl_by (by kernel_rfl)) T.z_range (aCons (pDiv (m := 0) (pSub (m := 0) (pVar (n := 0) (i := 1) (by kernel_rfl) (vis_by (by kernel_rfl))) pInt) pInt) aNil))) (gName' (i := 3) sc_legendre.nd (by kernel_rfl) (loc_by (by kernel_rfl)) (by kernel_rfl) (fn_by (by kernel_rfl))) (zOne (zSet (i := 2) sc_legendre.nd (by kernel_rfl) (loc_by (by kernel_rfl)) (wE (xE (pMod (m := 0) (pMul rfl (pVar (n := 1) (i := 2) (by kernel_rfl) (vis_by (by kernel_rfl))) (pVar (n := 1) (i := 0) (by kernel_rfl) (vis_by (by kernel_rfl)))) (pVar (n := 0) (i := 1) (by kernel_rfl) (vis_by (by kernel_rfl)))))) (by kernel_rfl) rfl (fn_by (by kernel_rfl)))))
  (zOne (zRet (xE (eIf (Pv.tCmp (kEq rfl hr.units) (pVar (n := 1) (i := 2) (by kernel_rfl) (vis_by (by kernel_rfl))) pInt rfl) pInt (pNeg (m := 0) pInt)))))))
theorem D_legendre (T : Txt K mg cls) : Dfn P w K mg base (Cf K cls) (1) 2 "legendre" F_legendre := by
  obtain ⟨f, fd, F1, hm, hb⟩ := T.F_legendre
  exact ⟨⟨f, fd, _, fnX F1 sc_legendre (by decide) (fun cdv A outer s H E hr => y_legendre T hr), hm, F1.kp, hb⟩, callF_len⟩
theorem y_split_off (T : Txt K mg cls) {f : Addr} {cdv : Value} {A : Around} {outer : List Env} {s : Shared} {H : Hp} {E : XK} (hr : Room 0 (A.deeper (envOfC "split_off" (defScope st_split_off) s.heap.objs.size f cdv))) :
    PSs (cxOf CX0 P w K mg base ["number", "prime", "many"] "split_off" (defScope st_split_off) f cdv A outer s H E).nox (defBody st_split_off) (tS (Cf K cls) (fun _ => false) b_split_off) :=
  (zCons (zSet (i := 2) sc_split_off.nd (by kernel_rfl) (loc_by (by kernel_rfl)) (wE (xE pInt)) (by kernel_rfl) rfl (fn_by (by kernel_rfl)))
  (zCons (zWhile 2000 .never (xT (Pv.tCmp (kEq rfl hr.units) (pMod (m := 0) (pVar (n := 0) (i := 0) (by kernel_rfl) (vis_by (by kernel_rfl))) (pVar (n := 0) (i := 1) (by kernel_rfl) (vis_by (by kernel_rfl)))) pInt rfl)) (zCons (zSet (i := 0) sc_split_off.nd (by kernel_rfl) (loc_by (by kernel_rfl)) (wE (xE (pDiv (m := 0) (pVar (n := 0) (i := 0) (by kernel_rfl) (vis_by (by kernel_rfl))) (pVar (n := 0) (i := 1) (by kernel_rfl) (vis_by (by kernel_rfl)))))) (by kernel_rfl) rfl (fn_by (by kernel_rfl)))
  (zOne (zSet (i := 2) sc_split_off.nd (by kernel_rfl) (loc_by (by kernel_rfl)) (wE (xE (pAdd rfl (pVar (n := 1) (i := 2) (by kernel_rfl) (vis_by (by kernel_rfl))) pInt))) (by kernel_rfl) rfl (fn_by (by kernel_rfl))))))
  (zOne (zRet (xE (eTup (aCons (pVar (n := 0) (i := 2) (by kernel_rfl) (vis_by (by kernel_rfl))) (aCons (pVar (n := 0) (i := 0) (by kernel_rfl) (vis_by (by kernel_rfl))) aNil))))))))
theorem D_split_off (T : Txt K mg cls) : Dfn P w K mg base (Cf K cls) (1) 2 "split_off" F_split_off := by
  obtain ⟨f, fd, F1, hm, hb⟩ := T.F_split_off
  exact ⟨⟨f, fd, _, fnX F1 sc_split_off (by decide) (fun cdv A outer s H E hr => y_split_off T hr), hm, F1.kp, hb⟩, callF_len⟩
theorem y_symbol (T : Txt K mg cls) {f : Addr} {cdv : Value} {A : Around} {outer : List Env} {s : Shared} {H : Hp} {E : XK} (hr : Room 1 (A.deeper (envOfC "symbol" (defScope st_symbol) s.heap.objs.size f cdv))) :
    PSs (cxOf CX0 P w K mg base ["a", "b", "prime", "many", "u", "more", "v", "turns", "told"] "symbol" (defScope st_symbol) f cdv A outer s H E).nox (defBody st_symbol) (tS (Cf K cls) (fun _ => false) b_symbol) :=
  (zCons (zAsg (xE (eFn (D_split_off T) (hr.mono (by decide)) (gl_by (by kernel_rfl)) (ayCons (yP (pVar (n := 0) (i := 0) (by kernel_rfl) (vis_by (by kernel_rfl)))) (ayCons (yP (pVar (n := 0) (i := 2) (by kernel_rfl) (vis_by (by kernel_rfl)))) ayNil)))) (gTuple (n := 2) rfl rfl (gsCons (gName' (i := 3) sc_symbol.nd (by kernel_rfl) (loc_by (by kernel_rfl)) (by kernel_rfl) (fn_by (by kernel_rfl))) (gsCons (gName' (i := 4) sc_symbol.nd (by kernel_rfl) (loc_by (by kernel_rfl)) (by kernel_rfl) (fn_by (by kernel_rfl))) gsNil)) (gC_len (gC_len g0_len))))
  (zCons (zAsg (xE (eFn (D_split_off T) (hr.mono (by decide)) (gl_by (by kernel_rfl)) (ayCons (yP (pVar (n := 0) (i := 1) (by kernel_rfl) (vis_by (by kernel_rfl)))) (ayCons (yP (pVar (n := 0) (i := 2) (by kernel_rfl) (vis_by (by kernel_rfl)))) ayNil)))) (gTuple (n := 2) rfl rfl (gsCons (gName' (i := 5) sc_symbol.nd (by kernel_rfl) (loc_by (by kernel_rfl)) (by kernel_rfl) (fn_by (by kernel_rfl))) (gsCons (gName' (i := 6) sc_symbol.nd (by kernel_rfl) (loc_by (by kernel_rfl)) (by kernel_rfl) (fn_by (by kernel_rfl))) gsNil)) (gC_len (gC_len g0_len))))
  (zCons (zIf (xT (Pv.tCmp (kEq rfl hr.units) (pVar (n := 1) (i := 2) (by kernel_rfl) (vis_by (by kernel_rfl))) pInt rfl)) (zCons (zSet (i := 7) sc_symbol.nd (by kernel_rfl) (loc_by (by kernel_rfl)) (wE (xE (pAdd rfl (pAdd rfl (pMul rfl (pDiv (m := 0) (pSub (m := 0) (pVar (n := 0) (i := 4) (by kernel_rfl) (vis_by (by kernel_rfl))) pInt) pInt) (pDiv (m := 0) (pSub (m := 0) (pVar (n := 0) (i := 6) (by kernel_rfl) (vis_by (by kernel_rfl))) pInt) pInt)) (pMul rfl (pVar (n := 1) (i := 3) (by kernel_rfl) (vis_by (by kernel_rfl))) (pDiv (m := 0) (pSub (m := 0) (pMul rfl (pVar (n := 1) (i := 6) (by kernel_rfl) (vis_by (by kernel_rfl))) (pVar (n := 1) (i := 6) (by kernel_rfl) (vis_by (by kernel_rfl)))) pInt) pInt))) (pMul rfl (pVar (n := 1) (i := 5) (by kernel_rfl) (vis_by (by kernel_rfl))) (pDiv (m := 0) (pSub (m := 0) (pMul rfl (pVar (n := 1) (i := 4) (by kernel_rfl) (vis_by (by kernel_rfl))) (pVar (n := 1) (i := 4) (by kernel_rfl) (vis_by (by kernel_rfl)))) pInt) pInt))))) (by kernel_rfl) rfl (fn_by (by kernel_rfl)))
  (zOne (zRet (xE (eIf (Pv.tCmp (kEq rfl hr.units) (pMod (m := 0) (pVar (n := 0) (i := 7) (by kernel_rfl) (vis_by (by kernel_rfl))) pInt) pInt rfl) pInt (pNeg (m := 0) pInt)))))) zNil)
  (zCons (zSet (i := 8) sc_symbol.nd (by kernel_rfl) (loc_by (by kernel_rfl)) (wE (xE (eIf (PW.pt (wAnd (Pv.tCmp (kEq rfl hr.units) (pMod (m := 0) (pMul rfl (pVar (n := 1) (i := 3) (by kernel_rfl) (vis_by (by kernel_rfl))) (pVar (n := 1) (i := 5) (by kernel_rfl) (vis_by (by kernel_rfl)))) pInt) pInt rfl) (wAnd1 (Pv.tCmp (kEq rfl hr.units) (pMod (m := 0) (pVar (n := 0) (i := 2) (by kernel_rfl) (vis_by (by kernel_rfl))) pInt) pInt rfl)))) (pNeg (m := 0) pInt) pInt))) (by kernel_rfl) rfl (fn_by (by kernel_rfl)))
  (zCons (zIf (xT (Pv.tCmp (kEq rfl hr.units) (pMod (m := 0) (pVar (n := 0) (i := 5) (by kernel_rfl) (vis_by (by kernel_rfl))) pInt) pInt rfl)) (zOne (zSet (i := 8) sc_symbol.nd (by kernel_rfl) (loc_by (by kernel_rfl)) (wE (xE (pMul rfl (pVar (n := 1) (i := 8) (by kernel_rfl) (vis_by (by kernel_rfl))) (eFn (D_legendre T) (hr.mono (by decide)) (gl_by (by kernel_rfl)) (ayCons (yP (pMod (m := 0) (pVar (n := 0) (i := 4) (by kernel_rfl) (vis_by (by kernel_rfl))) (pVar (n := 0) (i := 2) (by kernel_rfl) (vis_by (by kernel_rfl))))) (ayCons (yP (pVar (n := 0) (i := 2) (by kernel_rfl) (vis_by (by kernel_rfl)))) ayNil)))))) (by kernel_rfl) rfl (fn_by (by kernel_rfl)))) zNil)
  (zOne (zRet (xE (eIf (Pv.tCmp (kEq rfl hr.units) (pMod (m := 0) (pVar (n := 0) (i := 3) (by kernel_rfl) (vis_by (by kernel_rfl))) pInt) pInt rfl) (pMul rfl (pVar (n := 1) (i := 8) (by kernel_rfl) (vis_by (by kernel_rfl))) (eFn (D_legendre T) (hr.mono (by decide)) (gl_by (by kernel_rfl)) (ayCons (yP (pMod (m := 0) (pVar (n := 0) (i := 6) (by kernel_rfl) (vis_by (by kernel_rfl))) (pVar (n := 0) (i := 2) (by kernel_rfl) (vis_by (by kernel_rfl))))) (ayCons (yP (pVar (n := 0) (i := 2) (by kernel_rfl) (vis_by (by kernel_rfl)))) ayNil)))) (pVar (n := 0) (i := 8) (by kernel_rfl) (vis_by (by kernel_rfl))))))))))))
theorem D_symbol (T : Txt K mg cls) : Dfn P w K mg base (Cf K cls) (2) 3 "symbol" F_symbol := by
  obtain ⟨f, fd, F1, hm, hb⟩ := T.F_symbol
  exact ⟨⟨f, fd, _, fnX F1 sc_symbol (by decide) (fun cdv A outer s H E hr => y_symbol T hr), hm, F1.kp, hb⟩, callF_len⟩
theorem y_bar_of (T : Txt K mg cls) {f : Addr} {cdv : Value} {A : Around} {outer : List Env} {s : Shared} {H : Hp} {E : XK} (hr : Room 2 (A.deeper (envOfC "bar_of" (defScope st_bar_of) s.heap.objs.size f cdv))) :
    PSs (cxOf CX0 P w K mg base ["a", "b", "prime"] "bar_of" (defScope st_bar_of) f cdv A outer s H E).nox (defBody st_bar_of) (tS (Cf K cls) (fun _ => false) b_bar_of) :=
  (zCons (zFor .never rfl (iX (iSeq (n := 0) rfl (eN (nSortedSet rfl rfl (gl_by (by kernel_rfl)) T.z_sorted (gl_by (by kernel_rfl)) T.z_set (pAdd rfl (pAdd rfl (eLst (aCons pInt aNil)) (eFn (D_primes_in T) (hr.mono (by decide)) (gl_by (by kernel_rfl)) (ayCons (yP (pVar (n := 0) (i := 0) (by kernel_rfl) (vis_by (by kernel_rfl)))) ayNil))) (eFn (D_primes_in T) (hr.mono (by decide)) (gl_by (by kernel_rfl)) (ayCons (yP (pVar (n := 0) (i := 1) (by kernel_rfl) (vis_by (by kernel_rfl)))) ayNil))))))) (gName' (i := 2) sc_bar_of.nd (by kernel_rfl) (loc_by (by kernel_rfl)) (by kernel_rfl) (fn_by (by kernel_rfl))) (zOne (zIf (xT (Pv.tCmp (kEq rfl hr.units) (eFn (D_symbol T) (hr.mono (by decide)) (gl_by (by kernel_rfl)) (ayCons (yP (pVar (n := 0) (i := 0) (by kernel_rfl) (vis_by (by kernel_rfl)))) (ayCons (yP (pVar (n := 0) (i := 1) (by kernel_rfl) (vis_by (by kernel_rfl)))) (ayCons (yP (pVar (n := 0) (i := 2) (by kernel_rfl) (vis_by (by kernel_rfl)))) ayNil)))) (pNeg (m := 0) pInt) rfl)) (zOne (zRet (xE (pVar (n := 0) (i := 2) (by kernel_rfl) (vis_by (by kernel_rfl)))))) zNil)))
  (zOne (zRet (xE pNone))))
theorem D_bar_of (T : Txt K mg cls) : Dfn P w K mg base (Cf K cls) (3) 2 "bar_of" F_bar_of := by
  obtain ⟨f, fd, F1, hm, hb⟩ := T.F_bar_of
  exact ⟨⟨f, fd, _, fnX F1 sc_bar_of (by decide) (fun cdv A outer s H E hr => y_bar_of T hr), hm, F1.kp, hb⟩, callF_len⟩
theorem y_small_solution (T : Txt K mg cls) {f : Addr} {cdv : Value} {A : Around} {outer : List Env} {s : Shared} {H : Hp} {E : XK} (hr : Room 1 (A.deeper (envOfC "small_solution" (defScope st_small_solution) s.heap.objs.size f cdv))) :
    PSs (cxOf CX0 P w K mg base ["a", "b", "c", "y", "z", "value"] "small_solution" (defScope st_small_solution) f cdv A outer s H E).nox (defBody st_small_solution) (tS (Cf K cls) (fun _ => false) b_small_solution) :=
  (zCons (zFor .never rfl (iX (iRange1 (n := 0) (m := 0) (gl_by (by kernel_rfl)) T.z_range (aCons (pAdd rfl (eFun (m := 0) cr_isqrt vSqrt (gl_by (by kernel_rfl)) T.g_isqrt (aCons (eB (bAbs rfl) (gl_by (by kernel_rfl)) T.z_abs (aCons (pMul rfl (pVar (n := 1) (i := 1) (by kernel_rfl) (vis_by (by kernel_rfl))) (pVar (n := 1) (i := 2) (by kernel_rfl) (vis_by (by kernel_rfl)))) aNil)) aNil)) pInt) aNil))) (gName' (i := 3) sc_small_solution.nd (by kernel_rfl) (loc_by (by kernel_rfl)) (by kernel_rfl) (fn_by (by kernel_rfl))) (zOne (zFor .never rfl (iX (iRange1 (n := 0) (m := 0) (gl_by (by kernel_rfl)) T.z_range (aCons (pAdd rfl (eFun (m := 0) cr_isqrt vSqrt (gl_by (by kernel_rfl)) T.g_isqrt (aCons (eB (bAbs rfl) (gl_by (by kernel_rfl)) T.z_abs (aCons (pMul rfl (pVar (n := 1) (i := 0) (by kernel_rfl) (vis_by (by kernel_rfl))) (pVar (n := 1) (i := 2) (by kernel_rfl) (vis_by (by kernel_rfl)))) aNil)) aNil)) pInt) aNil))) (gName' (i := 4) sc_small_solution.nd (by kernel_rfl) (loc_by (by kernel_rfl)) (by kernel_rfl) (fn_by (by kernel_rfl))) (zCons (zSet (i := 5) sc_small_solution.nd (by kernel_rfl) (loc_by (by kernel_rfl)) (wE (xE (pAdd rfl (pMul rfl (pMul rfl (pVar (n := 1) (i := 0) (by kernel_rfl) (vis_by (by kernel_rfl))) (pVar (n := 1) (i := 3) (by kernel_rfl) (vis_by (by kernel_rfl)))) (pVar (n := 1) (i := 3) (by kernel_rfl) (vis_by (by kernel_rfl)))) (pMul rfl (pMul rfl (pVar (n := 1) (i := 1) (by kernel_rfl) (vis_by (by kernel_rfl))) (pVar (n := 1) (i := 4) (by kernel_rfl) (vis_by (by kernel_rfl)))) (pVar (n := 1) (i := 4) (by kernel_rfl) (vis_by (by kernel_rfl))))))) (by kernel_rfl) rfl (fn_by (by kernel_rfl)))
  (zOne (zIf (xT (PW.pt (wAnd (PW.pt (wOr (Pv.tCmp (kGt) (pVar (n := 1) (i := 3) (by kernel_rfl) (vis_by (by kernel_rfl))) pInt rfl) (wOr1 (Pv.tCmp (kGt) (pVar (n := 1) (i := 4) (by kernel_rfl) (vis_by (by kernel_rfl))) pInt rfl)))) (wAnd (Pv.tCmp (kEq rfl hr.units) (pMod (m := 0) (pVar (n := 0) (i := 5) (by kernel_rfl) (vis_by (by kernel_rfl))) (pVar (n := 0) (i := 2) (by kernel_rfl) (vis_by (by kernel_rfl)))) pInt rfl) (wAnd (Pv.tCmp (kGe) (pDiv (m := 0) (pVar (n := 0) (i := 5) (by kernel_rfl) (vis_by (by kernel_rfl))) (pVar (n := 0) (i := 2) (by kernel_rfl) (vis_by (by kernel_rfl)))) pInt rfl) (wAnd1 (tTru rfl (eFn (D_is_square_number T) (hr.mono (by decide)) (gl_by (by kernel_rfl)) (ayCons (yP (pDiv (m := 0) (pVar (n := 0) (i := 5) (by kernel_rfl) (vis_by (by kernel_rfl))) (pVar (n := 0) (i := 2) (by kernel_rfl) (vis_by (by kernel_rfl))))) ayNil))))))))) (zOne (zRet (xE (eTup (aCons (eFun (m := 0) cr_isqrt vSqrt (gl_by (by kernel_rfl)) T.g_isqrt (aCons (pDiv (m := 0) (pVar (n := 0) (i := 5) (by kernel_rfl) (vis_by (by kernel_rfl))) (pVar (n := 0) (i := 2) (by kernel_rfl) (vis_by (by kernel_rfl)))) aNil)) (aCons (pVar (n := 0) (i := 3) (by kernel_rfl) (vis_by (by kernel_rfl))) (aCons (pVar (n := 0) (i := 4) (by kernel_rfl) (vis_by (by kernel_rfl))) aNil))))))) zNil))))))
  (zOne (zRet (xE pNone))))
theorem D_small_solution (T : Txt K mg cls) : Dfn P w K mg base (Cf K cls) (2) 3 "small_solution" F_small_solution := by
  obtain ⟨f, fd, F1, hm, hb⟩ := T.F_small_solution
  exact ⟨⟨f, fd, _, fnX F1 sc_small_solution (by decide) (fun cdv A outer s H E hr => y_small_solution T hr), hm, F1.kp, hb⟩, callF_len⟩
theorem y_solve (T : Txt K mg cls) {f : Addr} {cdv : Value} {A : Around} {outer : List Env} {s : Shared} {H : Hp} {E : XK} (hr : Room 3 (A.deeper (envOfC "solve" (defScope st_solve) s.heap.objs.size f cdv))) :
    PSs (cxOf CX0 P w K mg base ["a", "b", "less", "root", "rest", "more", "common", "x", "y", "z", "told", "whole", "number"] "solve" (defScope st_solve) f cdv A outer s H E).nox (defBody st_solve) (tS (Cf K cls) (fun _ => false) b_solve) :=
  (zCons (zIf (xT (Pv.tCmp (kIsNot) (eFn (D_bar_of T) (hr.mono (by decide)) (gl_by (by kernel_rfl)) (ayCons (yP (pVar (n := 0) (i := 0) (by kernel_rfl) (vis_by (by kernel_rfl)))) (ayCons (yP (pVar (n := 0) (i := 1) (by kernel_rfl) (vis_by (by kernel_rfl)))) ayNil))) pNone rfl)) (zOne (zRet (xE pNone))) zNil)
  (zCons (zAsg (xE (eFn (D_without_squares T) (hr.mono (by decide)) (gl_by (by kernel_rfl)) (ayCons (yP (pVar (n := 0) (i := 0) (by kernel_rfl) (vis_by (by kernel_rfl)))) ayNil))) (gTuple (n := 2) rfl rfl (gsCons (gName' (i := 2) sc_solve.nd (by kernel_rfl) (loc_by (by kernel_rfl)) (by kernel_rfl) (fn_by (by kernel_rfl))) (gsCons (gName' (i := 3) sc_solve.nd (by kernel_rfl) (loc_by (by kernel_rfl)) (by kernel_rfl) (fn_by (by kernel_rfl))) gsNil)) (gC_len (gC_len g0_len))))
  (zCons (zAsg (xE (eFn (D_without_squares T) (hr.mono (by decide)) (gl_by (by kernel_rfl)) (ayCons (yP (pVar (n := 0) (i := 1) (by kernel_rfl) (vis_by (by kernel_rfl)))) ayNil))) (gTuple (n := 2) rfl rfl (gsCons (gName' (i := 4) sc_solve.nd (by kernel_rfl) (loc_by (by kernel_rfl)) (by kernel_rfl) (fn_by (by kernel_rfl))) (gsCons (gName' (i := 5) sc_solve.nd (by kernel_rfl) (loc_by (by kernel_rfl)) (by kernel_rfl) (fn_by (by kernel_rfl))) gsNil)) (gC_len (gC_len g0_len))))
  (zCons (zSet (i := 6) sc_solve.nd (by kernel_rfl) (loc_by (by kernel_rfl)) (wE (xE (eFun (m := 0) cr_gcd vGcd (gl_by (by kernel_rfl)) T.g_gcd (aCons (pVar (n := 0) (i := 2) (by kernel_rfl) (vis_by (by kernel_rfl))) (aCons (pVar (n := 0) (i := 4) (by kernel_rfl) (vis_by (by kernel_rfl))) aNil))))) (by kernel_rfl) rfl (fn_by (by kernel_rfl)))
  (zCons (zAsg (xE (eFn (D_small_solution T) (hr.mono (by decide)) (gl_by (by kernel_rfl)) (ayCons (yP (pDiv (m := 0) (pVar (n := 0) (i := 2) (by kernel_rfl) (vis_by (by kernel_rfl))) (pVar (n := 0) (i := 6) (by kernel_rfl) (vis_by (by kernel_rfl))))) (ayCons (yP (pDiv (m := 0) (pVar (n := 0) (i := 4) (by kernel_rfl) (vis_by (by kernel_rfl))) (pVar (n := 0) (i := 6) (by kernel_rfl) (vis_by (by kernel_rfl))))) (ayCons (yP (pVar (n := 0) (i := 6) (by kernel_rfl) (vis_by (by kernel_rfl)))) ayNil))))) (gTuple (n := 3) rfl rfl (gsCons (gName' (i := 7) sc_solve.nd (by kernel_rfl) (loc_by (by kernel_rfl)) (by kernel_rfl) (fn_by (by kernel_rfl))) (gsCons (gName' (i := 8) sc_solve.nd (by kernel_rfl) (loc_by (by kernel_rfl)) (by kernel_rfl) (fn_by (by kernel_rfl))) (gsCons (gName' (i := 9) sc_solve.nd (by kernel_rfl) (loc_by (by kernel_rfl)) (by kernel_rfl) (fn_by (by kernel_rfl))) gsNil))) (gC_len (gC_len (gC_len g0_len)))))
  (zCons (zSet (i := 10) sc_solve.nd (by kernel_rfl) (loc_by (by kernel_rfl)) (wE (xE (eTup (aCons (pMul rfl (pMul rfl (pMul rfl (pVar (n := 1) (i := 6) (by kernel_rfl) (vis_by (by kernel_rfl))) (pVar (n := 1) (i := 7) (by kernel_rfl) (vis_by (by kernel_rfl)))) (pVar (n := 1) (i := 3) (by kernel_rfl) (vis_by (by kernel_rfl)))) (pVar (n := 1) (i := 5) (by kernel_rfl) (vis_by (by kernel_rfl)))) (aCons (pMul rfl (pVar (n := 1) (i := 8) (by kernel_rfl) (vis_by (by kernel_rfl))) (pVar (n := 1) (i := 5) (by kernel_rfl) (vis_by (by kernel_rfl)))) (aCons (pMul rfl (pVar (n := 1) (i := 9) (by kernel_rfl) (vis_by (by kernel_rfl))) (pVar (n := 1) (i := 3) (by kernel_rfl) (vis_by (by kernel_rfl)))) aNil)))))) (by kernel_rfl) rfl (fn_by (by kernel_rfl)))
  (zCons (zSet (i := 11) sc_solve.nd (by kernel_rfl) (loc_by (by kernel_rfl)) (wE (xE (eFun (m := 0) cr_gcd vGcd (gl_by (by kernel_rfl)) T.g_gcd (aCons (eFun (m := 0) cr_gcd vGcd (gl_by (by kernel_rfl)) T.g_gcd (aCons (eIx rfl (pVar (n := 1) (i := 10) (by kernel_rfl) (vis_by (by kernel_rfl))) pInt) (aCons (eIx rfl (pVar (n := 1) (i := 10) (by kernel_rfl) (vis_by (by kernel_rfl))) pInt) aNil))) (aCons (eIx rfl (pVar (n := 1) (i := 10) (by kernel_rfl) (vis_by (by kernel_rfl))) pInt) aNil))))) (by kernel_rfl) rfl (fn_by (by kernel_rfl)))
  (zOne (zRet (xE (eB (bTuple rfl) (gl_by (by kernel_rfl)) T.z_tuple (aCons (eN (nLc (own := [("number", 12)]) rfl sc_solve.nd (iSeq (n := 0) rfl (pVar (n := 0) (i := 10) (by kernel_rfl) (vis_by (by kernel_rfl)))) (blkOk_by (by kernel_rfl)) (fun _ _ _ _ _ => (gName' (i := 12) sc_solve.nd (by kernel_rfl) (loc_by (by kernel_rfl)) (by kernel_rfl) (fn_by (by kernel_rfl)))) (fun _ _ _ _ _ => ifs0) (fun _ _ _ _ _ => (pDiv (m := 0) (pVar (n := 0) (i := 12) (by kernel_rfl) (vis_by (by kernel_rfl))) (pVar (n := 0) (i := 11) (by kernel_rfl) (vis_by (by kernel_rfl))))))) aNil))))))))))))
theorem D_solve (T : Txt K mg cls) : Dfn P w K mg base (Cf K cls) (4) 2 "solve" F_solve := by
  obtain ⟨f, fd, F1, hm, hb⟩ := T.F_solve
  exact ⟨⟨f, fd, _, fnX F1 sc_solve (by decide) (fun cdv A outer s H E hr => y_solve T hr), hm, F1.kp, hb⟩, callF_len⟩
theorem y_symmetric_answer (T : Txt K mg cls) {f : Addr} {cdv : Value} {A : Around} {outer : List Env} {s : Shared} {H : Hp} {E : XK} (hr : Room 4 (A.deeper (envOfC "symmetric_answer" (defScope st_symmetric_answer) s.heap.objs.size f cdv))) :
    PSs (cxOf CX0 P w K mg base ["v", "k", "l", "sign", "told"] "symmetric_answer" (defScope st_symmetric_answer) f cdv A outer s H E).nox (defBody st_symmetric_answer) (tS (Cf K cls) (fun _ => false) b_symmetric_answer) :=
  (zCons (zIf (xT (Pv.tCmp (kNe rfl hr.units) (pMul rfl (pVar (n := 1) (i := 1) (by kernel_rfl) (vis_by (by kernel_rfl))) (pSub (m := 0) (pVar (n := 0) (i := 1) (by kernel_rfl) (vis_by (by kernel_rfl))) pInt)) (pMul rfl (pVar (n := 1) (i := 2) (by kernel_rfl) (vis_by (by kernel_rfl))) (pSub (m := 0) (pVar (n := 0) (i := 0) (by kernel_rfl) (vis_by (by kernel_rfl))) pInt)) rfl)) (zOne (zRet (xE (eTup (aCons pStr (aCons (eTup aNil) aNil)))))) zNil)
  (zCons (zIf (xT (Pv.tCmp (kEq rfl hr.units) (pMod (m := 0) (pVar (n := 0) (i := 0) (by kernel_rfl) (vis_by (by kernel_rfl))) pInt) pInt rfl)) (zOne (zRet (xE (eIf (tTru rfl (eFn (D_is_square_number T) (hr.mono (by decide)) (gl_by (by kernel_rfl)) (ayCons (yP (pSub (m := 0) (pVar (n := 0) (i := 1) (by kernel_rfl) (vis_by (by kernel_rfl))) (pVar (n := 0) (i := 2) (by kernel_rfl) (vis_by (by kernel_rfl))))) ayNil))) (eTup (aCons pStr (aCons (eTup aNil) aNil))) (eTup (aCons pStr (aCons (eTup (aCons pInt (aCons (pSub (m := 0) (pVar (n := 0) (i := 1) (by kernel_rfl) (vis_by (by kernel_rfl))) (pVar (n := 0) (i := 2) (by kernel_rfl) (vis_by (by kernel_rfl)))) aNil))) aNil))))))) zNil)
  (zCons (zSet (i := 3) sc_symmetric_answer.nd (by kernel_rfl) (loc_by (by kernel_rfl)) (wE (xE (eIf (Pv.tCmp (kEq rfl hr.units) (pMod (m := 0) (pDiv (m := 0) (pSub (m := 0) (pVar (n := 0) (i := 0) (by kernel_rfl) (vis_by (by kernel_rfl))) pInt) pInt) pInt) pInt rfl) pInt (pNeg (m := 0) pInt)))) (by kernel_rfl) rfl (fn_by (by kernel_rfl)))
  (zCons (zSet (i := 4) sc_symmetric_answer.nd (by kernel_rfl) (loc_by (by kernel_rfl)) (wE (xE (eFn (D_solve T) (hr.mono (by decide)) (gl_by (by kernel_rfl)) (ayCons (yP (pSub (m := 0) (pVar (n := 0) (i := 1) (by kernel_rfl) (vis_by (by kernel_rfl))) (pVar (n := 0) (i := 2) (by kernel_rfl) (vis_by (by kernel_rfl))))) (ayCons (yP (pMul rfl (pVar (n := 1) (i := 3) (by kernel_rfl) (vis_by (by kernel_rfl))) (pVar (n := 1) (i := 2) (by kernel_rfl) (vis_by (by kernel_rfl))))) ayNil))))) (by kernel_rfl) rfl (fn_by (by kernel_rfl)))
  (zOne (zRet (xE (eIf (Pv.tCmp (kIs) (pVar (n := 1) (i := 4) (by kernel_rfl) (vis_by (by kernel_rfl))) pNone rfl) (eTup (aCons pStr (aCons (eTup (aCons pInt (aCons (eFn (D_bar_of T) (hr.mono (by decide)) (gl_by (by kernel_rfl)) (ayCons (yP (pSub (m := 0) (pVar (n := 0) (i := 1) (by kernel_rfl) (vis_by (by kernel_rfl))) (pVar (n := 0) (i := 2) (by kernel_rfl) (vis_by (by kernel_rfl))))) (ayCons (yP (pMul rfl (pVar (n := 1) (i := 3) (by kernel_rfl) (vis_by (by kernel_rfl))) (pVar (n := 1) (i := 2) (by kernel_rfl) (vis_by (by kernel_rfl))))) ayNil))) aNil))) aNil))) (eTup (aCons pStr (aCons (pVar (n := 0) (i := 4) (by kernel_rfl) (vis_by (by kernel_rfl))) aNil)))))))))))
theorem D_symmetric_answer (T : Txt K mg cls) : Dfn P w K mg base (Cf K cls) (5) 3 "symmetric_answer" F_symmetric_answer := by
  obtain ⟨f, fd, F1, hm, hb⟩ := T.F_symmetric_answer
  exact ⟨⟨f, fd, _, fnX F1 sc_symmetric_answer (by decide) (fun cdv A outer s H E hr => y_symmetric_answer T hr), hm, F1.kp, hb⟩, callF_len⟩
theorem y_shows_solution (T : Txt K mg cls) {f : Addr} {cdv : Value} {A : Around} {outer : List Env} {s : Shared} {H : Hp} {E : XK} (hr : Room 0 (A.deeper (envOfC "shows_solution" (defScope st_shows_solution) s.heap.objs.size f cdv))) :
    PSs (cxOf CX0 P w K mg base ["v", "k", "l", "numbers", "x", "y", "z", "sign"] "shows_solution" (defScope st_shows_solution) f cdv A outer s H E).nox (defBody st_shows_solution) (tS (Cf K cls) (fun _ => false) b_shows_solution) :=
  (zCons (zAsg (xE (pVar (n := 0) (i := 3) (by kernel_rfl) (vis_by (by kernel_rfl)))) (gTuple (n := 3) rfl rfl (gsCons (gName' (i := 4) sc_shows_solution.nd (by kernel_rfl) (loc_by (by kernel_rfl)) (by kernel_rfl) (fn_by (by kernel_rfl))) (gsCons (gName' (i := 5) sc_shows_solution.nd (by kernel_rfl) (loc_by (by kernel_rfl)) (by kernel_rfl) (fn_by (by kernel_rfl))) (gsCons (gName' (i := 6) sc_shows_solution.nd (by kernel_rfl) (loc_by (by kernel_rfl)) (by kernel_rfl) (fn_by (by kernel_rfl))) gsNil))) (gC_len (gC_len (gC_len g0_len)))))
  (zCons (zSet (i := 7) sc_shows_solution.nd (by kernel_rfl) (loc_by (by kernel_rfl)) (wE (xE (eIf (Pv.tCmp (kEq rfl hr.units) (pMod (m := 0) (pDiv (m := 0) (pSub (m := 0) (pVar (n := 0) (i := 0) (by kernel_rfl) (vis_by (by kernel_rfl))) pInt) pInt) pInt) pInt rfl) pInt (pNeg (m := 0) pInt)))) (by kernel_rfl) rfl (fn_by (by kernel_rfl)))
  (zOne (zRet (xE (eAnd rfl (eCmp (kNe rfl hr.units) (eTup (aCons (pVar (n := 0) (i := 4) (by kernel_rfl) (vis_by (by kernel_rfl))) (aCons (pVar (n := 0) (i := 5) (by kernel_rfl) (vis_by (by kernel_rfl))) (aCons (pVar (n := 0) (i := 6) (by kernel_rfl) (vis_by (by kernel_rfl))) aNil)))) (eTup (aCons pInt (aCons pInt (aCons pInt aNil)))) rfl) (eOne (eCmp (kEq rfl hr.units) (pMul rfl (pVar (n := 1) (i := 4) (by kernel_rfl) (vis_by (by kernel_rfl))) (pVar (n := 1) (i := 4) (by kernel_rfl) (vis_by (by kernel_rfl)))) (pAdd rfl (pMul rfl (pMul rfl (pSub (m := 0) (pVar (n := 0) (i := 1) (by kernel_rfl) (vis_by (by kernel_rfl))) (pVar (n := 0) (i := 2) (by kernel_rfl) (vis_by (by kernel_rfl)))) (pVar (n := 1) (i := 5) (by kernel_rfl) (vis_by (by kernel_rfl)))) (pVar (n := 1) (i := 5) (by kernel_rfl) (vis_by (by kernel_rfl)))) (pMul rfl (pMul rfl (pMul rfl (pVar (n := 1) (i := 7) (by kernel_rfl) (vis_by (by kernel_rfl))) (pVar (n := 1) (i := 2) (by kernel_rfl) (vis_by (by kernel_rfl)))) (pVar (n := 1) (i := 6) (by kernel_rfl) (vis_by (by kernel_rfl)))) (pVar (n := 1) (i := 6) (by kernel_rfl) (vis_by (by kernel_rfl))))) rfl))))))))
theorem D_shows_solution (T : Txt K mg cls) : Dfn P w K mg base (Cf K cls) (1) 4 "shows_solution" F_shows_solution := by
  obtain ⟨f, fd, F1, hm, hb⟩ := T.F_shows_solution
  exact ⟨⟨f, fd, _, fnX F1 sc_shows_solution (by decide) (fun cdv A outer s H E hr => y_shows_solution T hr), hm, F1.kp, hb⟩, callF_len⟩
theorem y_shows_bar (T : Txt K mg cls) {f : Addr} {cdv : Value} {A : Around} {outer : List Env} {s : Shared} {H : Hp} {E : XK} (hr : Room 2 (A.deeper (envOfC "shows_bar" (defScope st_shows_bar) s.heap.objs.size f cdv))) :
    PSs (cxOf CX0 P w K mg base ["v", "k", "l", "paper", "kind", "number", "sign"] "shows_bar" (defScope st_shows_bar) f cdv A outer s H E).nox (defBody st_shows_bar) (tS (Cf K cls) (fun _ => false) b_shows_bar) :=
  (zCons (zAsg (xE (pVar (n := 0) (i := 3) (by kernel_rfl) (vis_by (by kernel_rfl)))) (gTuple (n := 2) rfl rfl (gsCons (gName' (i := 4) sc_shows_bar.nd (by kernel_rfl) (loc_by (by kernel_rfl)) (by kernel_rfl) (fn_by (by kernel_rfl))) (gsCons (gName' (i := 5) sc_shows_bar.nd (by kernel_rfl) (loc_by (by kernel_rfl)) (by kernel_rfl) (fn_by (by kernel_rfl))) gsNil)) (gC_len (gC_len g0_len))))
  (zCons (zIf (xT (Pv.tCmp (kEq rfl hr.units) (pVar (n := 1) (i := 4) (by kernel_rfl) (vis_by (by kernel_rfl))) pInt rfl)) (zOne (zRet (xE (eAnd rfl (eCmp (kEq rfl hr.units) (pMod (m := 0) (pVar (n := 0) (i := 0) (by kernel_rfl) (vis_by (by kernel_rfl))) pInt) pInt rfl) (eAnd rfl (eCmp (kEq rfl hr.units) (pVar (n := 1) (i := 5) (by kernel_rfl) (vis_by (by kernel_rfl))) (pSub (m := 0) (pVar (n := 0) (i := 1) (by kernel_rfl) (vis_by (by kernel_rfl))) (pVar (n := 0) (i := 2) (by kernel_rfl) (vis_by (by kernel_rfl)))) rfl) (eOne (eNot rfl (eFn (D_is_square_number T) (hr.mono (by decide)) (gl_by (by kernel_rfl)) (ayCons (yP (pVar (n := 0) (i := 5) (by kernel_rfl) (vis_by (by kernel_rfl)))) ayNil))))))))) zNil)
  (zCons (zIf (xT (PW.pt (wOr (Pv.tCmp (kNe rfl hr.units) (pVar (n := 1) (i := 4) (by kernel_rfl) (vis_by (by kernel_rfl))) pInt rfl) (wOr (Pv.tCmp (kEq rfl hr.units) (pMod (m := 0) (pVar (n := 0) (i := 0) (by kernel_rfl) (vis_by (by kernel_rfl))) pInt) pInt rfl) (wOr (Pv.tCmp (kLt) (pVar (n := 1) (i := 5) (by kernel_rfl) (vis_by (by kernel_rfl))) pInt rfl) (wOr1 (Pv.tCmp (kNe rfl hr.units) (eFn (D_primes_in T) (hr.mono (by decide)) (gl_by (by kernel_rfl)) (ayCons (yP (pVar (n := 0) (i := 5) (by kernel_rfl) (vis_by (by kernel_rfl)))) ayNil)) (eLst (aCons (pVar (n := 0) (i := 5) (by kernel_rfl) (vis_by (by kernel_rfl))) aNil)) rfl))))))) (zOne (zRet (xE pBool))) zNil)
  (zCons (zSet (i := 6) sc_shows_bar.nd (by kernel_rfl) (loc_by (by kernel_rfl)) (wE (xE (eIf (Pv.tCmp (kEq rfl hr.units) (pMod (m := 0) (pDiv (m := 0) (pSub (m := 0) (pVar (n := 0) (i := 0) (by kernel_rfl) (vis_by (by kernel_rfl))) pInt) pInt) pInt) pInt rfl) pInt (pNeg (m := 0) pInt)))) (by kernel_rfl) rfl (fn_by (by kernel_rfl)))
  (zOne (zRet (xE (eCmp (kEq rfl hr.units) (eFn (D_symbol T) (hr.mono (by decide)) (gl_by (by kernel_rfl)) (ayCons (yP (pSub (m := 0) (pVar (n := 0) (i := 1) (by kernel_rfl) (vis_by (by kernel_rfl))) (pVar (n := 0) (i := 2) (by kernel_rfl) (vis_by (by kernel_rfl))))) (ayCons (yP (pMul rfl (pVar (n := 1) (i := 6) (by kernel_rfl) (vis_by (by kernel_rfl))) (pVar (n := 1) (i := 2) (by kernel_rfl) (vis_by (by kernel_rfl))))) (ayCons (yP (pVar (n := 0) (i := 5) (by kernel_rfl) (vis_by (by kernel_rfl)))) ayNil)))) (pNeg (m := 0) pInt) rfl))))))))
theorem D_shows_bar (T : Txt K mg cls) : Dfn P w K mg base (Cf K cls) (3) 4 "shows_bar" F_shows_bar := by
  obtain ⟨f, fd, F1, hm, hb⟩ := T.F_shows_bar
  exact ⟨⟨f, fd, _, fnX F1 sc_shows_bar (by decide) (fun cdv A outer s H E hr => y_shows_bar T hr), hm, F1.kp, hb⟩, callF_len⟩
theorem y__law_refill (T : Txt K mg cls) {f : Addr} {cdv : Value} {A : Around} {outer : List Env} {s : Shared} {H : Hp} {E : XK} (hr : Room 0 (A.deeper (envOfC "_law_refill" (defScope st__law_refill) s.heap.objs.size f cdv))) :
    PSs (cxOf CX0 P w K mg base ["script", "k", "cell"] "_law_refill" (defScope st__law_refill) f cdv A outer s H E).nox (defBody st__law_refill) (tS (Cf K cls) (fun _ => false) b__law_refill) :=
  (zCons (zSet (i := 2) sc__law_refill.nd (by kernel_rfl) (loc_by (by kernel_rfl)) (wE (xE pInt)) (by kernel_rfl) rfl (fn_by (by kernel_rfl)))
  (zCons (zIf (xT (tScr (i := 0) rfl (by kernel_rfl) (vis_by (by kernel_rfl)))) (zOne (zSet (i := 2) sc__law_refill.nd (by kernel_rfl) (loc_by (by kernel_rfl)) (wE (xE (eScrI (i := 0) rfl (by kernel_rfl) (vis_by (by kernel_rfl)) (pMod (m := 0) (pVar (n := 0) (i := 1) (by kernel_rfl) (vis_by (by kernel_rfl))) (eScrL (i := 0) rfl (gl_by (by kernel_rfl)) T.z_len (by kernel_rfl) (vis_by (by kernel_rfl))))))) (by kernel_rfl) rfl (fn_by (by kernel_rfl)))) zNil)
  (zCons (zIf (xT (Pv.tCmp (kLt) (pVar (n := 1) (i := 2) (by kernel_rfl) (vis_by (by kernel_rfl))) pInt rfl)) (zOne (zSet (i := 2) sc__law_refill.nd (by kernel_rfl) (loc_by (by kernel_rfl)) (wE (xE (pSub (m := 0) pInt (pMul rfl pInt (pVar (n := 1) (i := 2) (by kernel_rfl) (vis_by (by kernel_rfl))))))) (by kernel_rfl) rfl (fn_by (by kernel_rfl)))) zNil)
  (zCons (zIf (xT (PW.pt (wAnd (Pv.tCmp (kGe) (pVar (n := 1) (i := 2) (by kernel_rfl) (vis_by (by kernel_rfl))) (pPow (m := 0) pInt pInt) rfl) (wAnd1 (Pv.tCmp (kLt) (pVar (n := 1) (i := 1) (by kernel_rfl) (vis_by (by kernel_rfl))) (eScrL (i := 0) rfl (gl_by (by kernel_rfl)) T.z_len (by kernel_rfl) (vis_by (by kernel_rfl))) rfl))))) (zOne (zRet (xE (pVar (n := 0) (i := 2) (by kernel_rfl) (vis_by (by kernel_rfl)))))) zNil)
  (zOne (zRet (xE (pMod (m := 0) (eB (bInt rfl) (gl_by (by kernel_rfl)) T.z_int (aCons (pAdd rfl (pMul rfl (eB (bInt rfl) (gl_by (by kernel_rfl)) T.z_int (aCons (pAdd rfl (pAdd rfl (pMul rfl (pVar (n := 1) (i := 2) (by kernel_rfl) (vis_by (by kernel_rfl))) pInt) (pMul rfl (pVar (n := 1) (i := 1) (by kernel_rfl) (vis_by (by kernel_rfl))) pInt)) pInt) aNil)) pInt) pInt) aNil)) pInt))))))))
theorem D__law_refill (T : Txt K mg cls) : Dfn P w K mg base (Cf K cls) (1) 2 "_law_refill" F__law_refill := by
  obtain ⟨f, fd, F1, hm, hb⟩ := T.F__law_refill
  exact ⟨⟨f, fd, _, fnX F1 sc__law_refill (by decide) (fun cdv A outer s H E hr => y__law_refill T hr), hm, F1.kp, hb⟩, callF_len⟩
theorem y__law_draw (T : Txt K mg cls) {f : Addr} {cdv : Value} {A : Around} {outer : List Env} {s : Shared} {H : Hp} {E : XK} (hr : Room 1 (A.deeper (envOfC "_law_draw" (defScope st__law_draw) s.heap.objs.size f cdv))) :
    PSs (cxOf CX0 P w K mg base ["state", "script", "size", "digit"] "_law_draw" (defScope st__law_draw) f cdv A outer s H E).nox (defBody st__law_draw) (tS (Cf K cls) (fun i => i == 0) b__law_draw) :=
  (zCons (zIf (xT (Pv.tCmp (kEq rfl hr.units) (eIx rfl (pVar (n := 2) (i := 0) (by kernel_rfl) (vis_by (by kernel_rfl))) pInt) pInt rfl)) (zCons (zSub rfl (wE (xE (eFz (eFn (D__law_refill T) (hr.mono (by decide)) (gl_by (by kernel_rfl)) (ayCons (yN (i := 1) (by kernel_rfl) (vis_by (by kernel_rfl))) (ayCons (yP (eIx rfl (pVar (n := 1) (i := 0) (by kernel_rfl) (vis_by (by kernel_rfl))) pInt)) ayNil)))))) (lVar (i := 0) (by kernel_rfl) (vis_by (by kernel_rfl))) pInt)
  (zOne (zSub rfl (wE (xE (pAdd rfl (eIx rfl (pVar (n := 2) (i := 0) (by kernel_rfl) (vis_by (by kernel_rfl))) pInt) pInt))) (lVar (i := 0) (by kernel_rfl) (vis_by (by kernel_rfl))) pInt))) zNil)
  (zCons (zSet (i := 3) sc__law_draw.nd (by kernel_rfl) (loc_by (by kernel_rfl)) (wE (xE (pMod (m := 0) (eB (bInt rfl) (gl_by (by kernel_rfl)) T.z_int (aCons (eIx rfl (pVar (n := 2) (i := 0) (by kernel_rfl) (vis_by (by kernel_rfl))) pInt) aNil)) (pVar (n := 0) (i := 2) (by kernel_rfl) (vis_by (by kernel_rfl)))))) (by kernel_rfl) rfl (fn_by (by kernel_rfl)))
  (zCons (zSub rfl (wE (xE (pDiv (m := 0) (eIx rfl (pVar (n := 1) (i := 0) (by kernel_rfl) (vis_by (by kernel_rfl))) pInt) (pVar (n := 0) (i := 2) (by kernel_rfl) (vis_by (by kernel_rfl)))))) (lVar (i := 0) (by kernel_rfl) (vis_by (by kernel_rfl))) pInt)
  (zOne (zRet (xE (pVar (n := 0) (i := 3) (by kernel_rfl) (vis_by (by kernel_rfl)))))))))
theorem D__law_draw (T : Txt K mg cls) : Dfn P w K mg base (Cf K cls) (2) 3 "_law_draw" F__law_draw := by
  obtain ⟨f, fd, F1, hm, hb⟩ := T.F__law_draw
  exact ⟨⟨f, fd, _, fnX F1 sc__law_draw (by decide) (fun cdv A outer s H E hr => y__law_draw T hr), hm, F1.kp, hb⟩, callF_len⟩
theorem y__law_exact (T : Txt K mg cls) (n : Nat) (F0 : FX) (IH : Dfn P w K mg base (Cf K cls) (0 + n) 2 "_law_exact" F0) {f : Addr} {cdv : Value} {A : Around} {outer : List Env} {s : Shared} {H : Hp} {E : XK} (hr : Room (0 + n) (A.deeper (envOfC "_law_exact" (defScope st__law_exact) s.heap.objs.size f cdv))) :
    PSs (cxOf CX0 P w K mg base ["first", "second", "k", "alike"] "_law_exact" (defScope st__law_exact) f cdv A outer s H E).nox (defBody st__law_exact) (tS (Cf K cls) (fun _ => false) (b__law_exact F0)) :=
  (zCons (zIf (xT (tTru rfl (eIsi2 (m := 1) .list .tuple rfl (gl_by (by kernel_rfl)) T.z_isinstance (pVar (n := 1) (i := 0) (by kernel_rfl) (vis_by (by kernel_rfl))) (gl_by (by kernel_rfl)) T.z_list PyProof.Rows.boot_list (gl_by (by kernel_rfl)) T.z_tuple PyProof.Rows.boot_tuple))) (zCons (zIf (xT (PW.pt (wOr (Pv.tCmp (kNe rfl hr.units) (eIsi (m := 1) .list rfl (gl_by (by kernel_rfl)) T.z_isinstance (pVar (n := 1) (i := 0) (by kernel_rfl) (vis_by (by kernel_rfl))) (gl_by (by kernel_rfl)) T.z_list PyProof.Rows.boot_list) (eIsi (m := 1) .list rfl (gl_by (by kernel_rfl)) T.z_isinstance (pVar (n := 1) (i := 1) (by kernel_rfl) (vis_by (by kernel_rfl))) (gl_by (by kernel_rfl)) T.z_list PyProof.Rows.boot_list) rfl) (wOr1 (Pv.tCmp (kNe rfl hr.units) (eIsi (m := 1) .tuple rfl (gl_by (by kernel_rfl)) T.z_isinstance (pVar (n := 1) (i := 0) (by kernel_rfl) (vis_by (by kernel_rfl))) (gl_by (by kernel_rfl)) T.z_tuple PyProof.Rows.boot_tuple) (eIsi (m := 1) .tuple rfl (gl_by (by kernel_rfl)) T.z_isinstance (pVar (n := 1) (i := 1) (by kernel_rfl) (vis_by (by kernel_rfl))) (gl_by (by kernel_rfl)) T.z_tuple PyProof.Rows.boot_tuple) rfl))))) (zOne (zRet (xE pBool))) zNil)
  (zOne (zRet (xE (eAnd rfl (eCmp (kEq rfl hr.units) (eB (bLen rfl) (gl_by (by kernel_rfl)) T.z_len (aCons (pVar (n := 1) (i := 0) (by kernel_rfl) (vis_by (by kernel_rfl))) aNil)) (eB (bLen rfl) (gl_by (by kernel_rfl)) T.z_len (aCons (pVar (n := 1) (i := 1) (by kernel_rfl) (vis_by (by kernel_rfl))) aNil)) rfl) (eOne (eB (bAll rfl rfl) (gl_by (by kernel_rfl)) T.z_all (aCons (eN (nLc (own := [("k", 2)]) rfl sc__law_exact.nd (iRange1 (n := 0) (m := 0) (gl_by (by kernel_rfl)) T.z_range (aCons (eB (bLen rfl) (gl_by (by kernel_rfl)) T.z_len (aCons (pVar (n := 1) (i := 0) (by kernel_rfl) (vis_by (by kernel_rfl))) aNil)) aNil)) (blkOk_by (by kernel_rfl)) (fun _ _ _ _ _ => (gName' (i := 2) sc__law_exact.nd (by kernel_rfl) (loc_by (by kernel_rfl)) (by kernel_rfl) (fn_by (by kernel_rfl)))) (fun _ _ _ _ _ => ifs0) (fun _ _ _ _ _ => (eFn IH hr (gl_by (by kernel_rfl)) (ayCons (yP (eIx rfl (pVar (n := 1) (i := 0) (by kernel_rfl) (vis_by (by kernel_rfl))) (pVar (n := 1) (i := 2) (by kernel_rfl) (vis_by (by kernel_rfl))))) (ayCons (yP (eIx rfl (pVar (n := 1) (i := 1) (by kernel_rfl) (vis_by (by kernel_rfl))) (pVar (n := 1) (i := 2) (by kernel_rfl) (vis_by (by kernel_rfl))))) ayNil)))))) aNil)))))))) zNil)
  (zCons (zIf (xT (PW.pt (wOr (Pv.tCmp (kIs) (pVar (n := 1) (i := 0) (by kernel_rfl) (vis_by (by kernel_rfl))) pNone rfl) (wOr1 (Pv.tCmp (kIs) (pVar (n := 1) (i := 1) (by kernel_rfl) (vis_by (by kernel_rfl))) pNone rfl))))) (zOne (zRet (xE (eAnd rfl (eCmp (kIs) (pVar (n := 1) (i := 0) (by kernel_rfl) (vis_by (by kernel_rfl))) pNone rfl) (eOne (eCmp (kIs) (pVar (n := 1) (i := 1) (by kernel_rfl) (vis_by (by kernel_rfl))) pNone rfl)))))) zNil)
  (zCons (zSet (i := 3) sc__law_exact.nd (by kernel_rfl) (loc_by (by kernel_rfl)) (wE (xE (eAnd rfl (eCmp (kEq rfl hr.units) (eIsi (m := 1) .str rfl (gl_by (by kernel_rfl)) T.z_isinstance (pVar (n := 1) (i := 0) (by kernel_rfl) (vis_by (by kernel_rfl))) (gl_by (by kernel_rfl)) T.z_str PyProof.Rows.boot_str) (eIsi (m := 1) .str rfl (gl_by (by kernel_rfl)) T.z_isinstance (pVar (n := 1) (i := 1) (by kernel_rfl) (vis_by (by kernel_rfl))) (gl_by (by kernel_rfl)) T.z_str PyProof.Rows.boot_str) rfl) (eOne (eCmp (kEq rfl hr.units) (eIsi (m := 1) .bool rfl (gl_by (by kernel_rfl)) T.z_isinstance (pVar (n := 1) (i := 0) (by kernel_rfl) (vis_by (by kernel_rfl))) (gl_by (by kernel_rfl)) T.z_bool PyProof.Rows.boot_bool) (eIsi (m := 1) .bool rfl (gl_by (by kernel_rfl)) T.z_isinstance (pVar (n := 1) (i := 1) (by kernel_rfl) (vis_by (by kernel_rfl))) (gl_by (by kernel_rfl)) T.z_bool PyProof.Rows.boot_bool) rfl))))) (by kernel_rfl) rfl (fn_by (by kernel_rfl)))
  (zOne (zRet (xE (eAnd rfl (pVar (n := 0) (i := 3) (by kernel_rfl) (vis_by (by kernel_rfl))) (eAnd rfl (eCmp (kEq rfl hr.units) (eIsi (m := 1) .int rfl (gl_by (by kernel_rfl)) T.z_isinstance (pVar (n := 1) (i := 0) (by kernel_rfl) (vis_by (by kernel_rfl))) (gl_by (by kernel_rfl)) T.z_int PyProof.Rows.boot_int) (eIsi (m := 1) .int rfl (gl_by (by kernel_rfl)) T.z_isinstance (pVar (n := 1) (i := 1) (by kernel_rfl) (vis_by (by kernel_rfl))) (gl_by (by kernel_rfl)) T.z_int PyProof.Rows.boot_int) rfl) (eOne (eCmp (kEq rfl hr.units) (pVar (n := 1) (i := 0) (by kernel_rfl) (vis_by (by kernel_rfl))) (pVar (n := 1) (i := 1) (by kernel_rfl) (vis_by (by kernel_rfl))) rfl))))))))))
theorem D__law_exact (T : Txt K mg cls) : ∀ n : Nat, Dfn P w K mg base (Cf K cls) (0 + n) 2 "_law_exact" (F__law_exact n)
  | 0 => by
    obtain ⟨f, fd, F1, hm, hb⟩ := T.F__law_exact
    exact ⟨⟨f, fd, _, fnNever, hm, F1.kp, hb⟩, never_len⟩
  | n + 1 => by
    obtain ⟨f, fd, F1, hm, hb⟩ := T.F__law_exact
    exact ⟨⟨f, fd, _, fnX F1 sc__law_exact (by decide) (fun cdv A outer s H E hr => y__law_exact T n _ (D__law_exact T n) hr), hm, F1.kp, hb⟩, callF_len⟩
theorem y__law_root (T : Txt K mg cls) {f : Addr} {cdv : Value} {A : Around} {outer : List Env} {s : Shared} {H : Hp} {E : XK} (hr : Room 0 (A.deeper (envOfC "_law_root" (defScope st__law_root) s.heap.objs.size f cdv))) :
    PSs (cxOf CX0 P w K mg base ["number", "out"] "_law_root" (defScope st__law_root) f cdv A outer s H E).nox (defBody st__law_root) (tS (Cf K cls) (fun _ => false) b__law_root) :=
  (zCons (zSet (i := 1) sc__law_root.nd (by kernel_rfl) (loc_by (by kernel_rfl)) (wE (xE pInt)) (by kernel_rfl) rfl (fn_by (by kernel_rfl)))
  (zCons (zWhile 2000 .never (xT (Pv.tCmp (kLe) (pMul rfl (pAdd rfl (pVar (n := 1) (i := 1) (by kernel_rfl) (vis_by (by kernel_rfl))) pInt) (pAdd rfl (pVar (n := 1) (i := 1) (by kernel_rfl) (vis_by (by kernel_rfl))) pInt)) (pVar (n := 1) (i := 0) (by kernel_rfl) (vis_by (by kernel_rfl))) rfl)) (zOne (zSet (i := 1) sc__law_root.nd (by kernel_rfl) (loc_by (by kernel_rfl)) (wE (xE (pAdd rfl (pVar (n := 1) (i := 1) (by kernel_rfl) (vis_by (by kernel_rfl))) pInt))) (by kernel_rfl) rfl (fn_by (by kernel_rfl)))))
  (zOne (zRet (xE (pVar (n := 0) (i := 1) (by kernel_rfl) (vis_by (by kernel_rfl))))))))
theorem D__law_root (T : Txt K mg cls) : Dfn P w K mg base (Cf K cls) (1) 1 "_law_root" F__law_root := by
  obtain ⟨f, fd, F1, hm, hb⟩ := T.F__law_root
  exact ⟨⟨f, fd, _, fnX F1 sc__law_root (by decide) (fun cdv A outer s H E hr => y__law_root T hr), hm, F1.kp, hb⟩, callF_len⟩
theorem y__law_primes (T : Txt K mg cls) {f : Addr} {cdv : Value} {A : Around} {outer : List Env} {s : Shared} {H : Hp} {E : XK} (hr : Room 0 (A.deeper (envOfC "_law_primes" (defScope st__law_primes) s.heap.objs.size f cdv))) :
    PSs (cxOf CX0 P w K mg base ["number", "left", "out", "prime"] "_law_primes" (defScope st__law_primes) f cdv A outer s H E).nox (defBody st__law_primes) (tS (Cf K cls) (fun _ => false) b__law_primes) :=
  (zCons (zParW (i := 1) (j := 2) rfl sc__law_primes.nd (by kernel_rfl) (by kernel_rfl) (by decide) rfl rfl (wE (xE (eB (bAbs rfl) (gl_by (by kernel_rfl)) T.z_abs (aCons (pVar (n := 1) (i := 0) (by kernel_rfl) (vis_by (by kernel_rfl))) aNil)))) (wN (xN (nLst aNil))) (by kernel_rfl) (by kernel_rfl) (by rfl))
  (zCons (zFor .never rfl (iX (iRange2 (n := 0) (m := 0) (gl_by (by kernel_rfl)) T.z_range (aCons pInt (aCons (pAdd rfl (pVar (n := 1) (i := 1) (by kernel_rfl) (vis_by (by kernel_rfl))) pInt) aNil)))) (gName' (i := 3) sc__law_primes.nd (by kernel_rfl) (loc_by (by kernel_rfl)) (by kernel_rfl) (fn_by (by kernel_rfl))) (zOne (zIf (xT (Pv.tCmp (kEq rfl hr.units) (pMul rfl (pDiv (m := 0) (pVar (n := 0) (i := 1) (by kernel_rfl) (vis_by (by kernel_rfl))) (pVar (n := 0) (i := 3) (by kernel_rfl) (vis_by (by kernel_rfl)))) (pVar (n := 1) (i := 3) (by kernel_rfl) (vis_by (by kernel_rfl)))) (pVar (n := 1) (i := 1) (by kernel_rfl) (vis_by (by kernel_rfl))) rfl)) (zCons (zDrop (xApp rfl (lVar (i := 2) (by kernel_rfl) (vis_by (by kernel_rfl))) (pVar (n := 0) (i := 3) (by kernel_rfl) (vis_by (by kernel_rfl)))))
  (zOne (zWhile 2000 .never (xT (Pv.tCmp (kEq rfl hr.units) (pMul rfl (pDiv (m := 0) (pVar (n := 0) (i := 1) (by kernel_rfl) (vis_by (by kernel_rfl))) (pVar (n := 0) (i := 3) (by kernel_rfl) (vis_by (by kernel_rfl)))) (pVar (n := 1) (i := 3) (by kernel_rfl) (vis_by (by kernel_rfl)))) (pVar (n := 1) (i := 1) (by kernel_rfl) (vis_by (by kernel_rfl))) rfl)) (zOne (zSet (i := 1) sc__law_primes.nd (by kernel_rfl) (loc_by (by kernel_rfl)) (wE (xE (pDiv (m := 0) (pVar (n := 0) (i := 1) (by kernel_rfl) (vis_by (by kernel_rfl))) (pVar (n := 0) (i := 3) (by kernel_rfl) (vis_by (by kernel_rfl)))))) (by kernel_rfl) rfl (fn_by (by kernel_rfl))))))) zNil)))
  (zOne (zFrz 2 (zRet (xE (pVar (n := 0) (i := 2) (by kernel_rfl) (vis_by (by kernel_rfl)))))))))
theorem D__law_primes (T : Txt K mg cls) : Dfn P w K mg base (Cf K cls) (1) 1 "_law_primes" F__law_primes := by
  obtain ⟨f, fd, F1, hm, hb⟩ := T.F__law_primes
  exact ⟨⟨f, fd, _, fnX F1 sc__law_primes (by decide) (fun cdv A outer s H E hr => y__law_primes T hr), hm, F1.kp, hb⟩, callF_len⟩
theorem y__law_is_prime (T : Txt K mg cls) {f : Addr} {cdv : Value} {A : Around} {outer : List Env} {s : Shared} {H : Hp} {E : XK} (hr : Room 1 (A.deeper (envOfC "_law_is_prime" (defScope st__law_is_prime) s.heap.objs.size f cdv))) :
    PSs (cxOf CX0 P w K mg base ["number"] "_law_is_prime" (defScope st__law_is_prime) f cdv A outer s H E).nox (defBody st__law_is_prime) (tS (Cf K cls) (fun _ => false) b__law_is_prime) :=
  (zOne (zRet (xE (eAnd rfl (eCmp (kGt) (pVar (n := 1) (i := 0) (by kernel_rfl) (vis_by (by kernel_rfl))) pInt rfl) (eOne (eCmp (kEq rfl hr.units) (eFn (D__law_primes T) (hr.mono (by decide)) (gl_by (by kernel_rfl)) (ayCons (yP (pVar (n := 0) (i := 0) (by kernel_rfl) (vis_by (by kernel_rfl)))) ayNil)) (eLst (aCons (pVar (n := 0) (i := 0) (by kernel_rfl) (vis_by (by kernel_rfl))) aNil)) rfl))))))
theorem D__law_is_prime (T : Txt K mg cls) : Dfn P w K mg base (Cf K cls) (2) 1 "_law_is_prime" F__law_is_prime := by
  obtain ⟨f, fd, F1, hm, hb⟩ := T.F__law_is_prime
  exact ⟨⟨f, fd, _, fnX F1 sc__law_is_prime (by decide) (fun cdv A outer s H E hr => y__law_is_prime T hr), hm, F1.kp, hb⟩, callF_len⟩
theorem y__law_bar (T : Txt K mg cls) {f : Addr} {cdv : Value} {A : Around} {outer : List Env} {s : Shared} {H : Hp} {E : XK} (hr : Room 2 (A.deeper (envOfC "_law_bar" (defScope st__law_bar) s.heap.objs.size f cdv))) :
    PSs (cxOf CX0 P w K mg base ["v", "k", "l", "paper"] "_law_bar" (defScope st__law_bar) f cdv A outer s H E).nox (defBody st__law_bar) (tS (Cf K cls) (fun _ => false) b__law_bar) :=
  (zCons (zIf (xT (Pv.tCmp (kEq rfl hr.units) (eIx rfl (pVar (n := 2) (i := 3) (by kernel_rfl) (vis_by (by kernel_rfl))) pInt) pInt rfl)) (zOne (zRet (xE (eAnd rfl (eCmp (kEq rfl hr.units) (pMod (m := 0) (eB (bInt rfl) (gl_by (by kernel_rfl)) T.z_int (aCons (pVar (n := 1) (i := 0) (by kernel_rfl) (vis_by (by kernel_rfl))) aNil)) pInt) pInt rfl) (eAnd rfl (eCmp (kEq rfl hr.units) (eIx rfl (pVar (n := 2) (i := 3) (by kernel_rfl) (vis_by (by kernel_rfl))) pInt) (pSub (m := 0) (pVar (n := 0) (i := 1) (by kernel_rfl) (vis_by (by kernel_rfl))) (pVar (n := 0) (i := 2) (by kernel_rfl) (vis_by (by kernel_rfl)))) rfl) (eOne (eCmp (kNe rfl hr.units) (pMul rfl (eFn (D__law_root T) (hr.mono (by decide)) (gl_by (by kernel_rfl)) (ayCons (yP (pSub (m := 0) (pVar (n := 0) (i := 1) (by kernel_rfl) (vis_by (by kernel_rfl))) (pVar (n := 0) (i := 2) (by kernel_rfl) (vis_by (by kernel_rfl))))) ayNil)) (eFn (D__law_root T) (hr.mono (by decide)) (gl_by (by kernel_rfl)) (ayCons (yP (pSub (m := 0) (pVar (n := 0) (i := 1) (by kernel_rfl) (vis_by (by kernel_rfl))) (pVar (n := 0) (i := 2) (by kernel_rfl) (vis_by (by kernel_rfl))))) ayNil))) (pSub (m := 0) (pVar (n := 0) (i := 1) (by kernel_rfl) (vis_by (by kernel_rfl))) (pVar (n := 0) (i := 2) (by kernel_rfl) (vis_by (by kernel_rfl)))) rfl))))))) zNil)
  (zCons (zIf (xT (PW.pt (wOr (Pv.tCmp (kNe rfl hr.units) (eIx rfl (pVar (n := 2) (i := 3) (by kernel_rfl) (vis_by (by kernel_rfl))) pInt) pInt rfl) (wOr (Pv.tCmp (kEq rfl hr.units) (pMod (m := 0) (eB (bInt rfl) (gl_by (by kernel_rfl)) T.z_int (aCons (pVar (n := 1) (i := 0) (by kernel_rfl) (vis_by (by kernel_rfl))) aNil)) pInt) pInt rfl) (wOr1 (tNot' (tTru rfl (eFn (D__law_is_prime T) (hr.mono (by decide)) (gl_by (by kernel_rfl)) (ayCons (yP (eIx rfl (pVar (n := 1) (i := 3) (by kernel_rfl) (vis_by (by kernel_rfl))) pInt)) ayNil))))))))) (zOne (zRet (xE pBool))) zNil)
  (zOne (zRet (xE (eCmp (kEq rfl hr.units) (eFn (D_symbol T) (hr.mono (by decide)) (gl_by (by kernel_rfl)) (ayCons (yP (pSub (m := 0) (pVar (n := 0) (i := 1) (by kernel_rfl) (vis_by (by kernel_rfl))) (pVar (n := 0) (i := 2) (by kernel_rfl) (vis_by (by kernel_rfl))))) (ayCons (yP (eIf (Pv.tCmp (kEq rfl hr.units) (pMod (m := 0) (eB (bInt rfl) (gl_by (by kernel_rfl)) T.z_int (aCons (pVar (n := 1) (i := 0) (by kernel_rfl) (vis_by (by kernel_rfl))) aNil)) pInt) pInt rfl) (pVar (n := 0) (i := 2) (by kernel_rfl) (vis_by (by kernel_rfl))) (pNeg (m := 0) (pVar (n := 0) (i := 2) (by kernel_rfl) (vis_by (by kernel_rfl)))))) (ayCons (yP (eIx rfl (pVar (n := 1) (i := 3) (by kernel_rfl) (vis_by (by kernel_rfl))) pInt)) ayNil)))) (pNeg (m := 0) pInt) rfl))))))
theorem D__law_bar (T : Txt K mg cls) : Dfn P w K mg base (Cf K cls) (3) 4 "_law_bar" F__law_bar := by
  obtain ⟨f, fd, F1, hm, hb⟩ := T.F__law_bar
  exact ⟨⟨f, fd, _, fnX F1 sc__law_bar (by decide) (fun cdv A outer s H E hr => y__law_bar T hr), hm, F1.kp, hb⟩, callF_len⟩
theorem y__law_solved (T : Txt K mg cls) {f : Addr} {cdv : Value} {A : Around} {outer : List Env} {s : Shared} {H : Hp} {E : XK} (hr : Room 0 (A.deeper (envOfC "_law_solved" (defScope st__law_solved) s.heap.objs.size f cdv))) :
    PSs (cxOf CX0 P w K mg base ["v", "k", "l", "numbers", "x", "y", "z"] "_law_solved" (defScope st__law_solved) f cdv A outer s H E).nox (defBody st__law_solved) (tS (Cf K cls) (fun _ => false) b__law_solved) :=
  (zCons (zAsg (xE (pVar (n := 0) (i := 3) (by kernel_rfl) (vis_by (by kernel_rfl)))) (gTuple (n := 3) rfl rfl (gsCons (gName' (i := 4) sc__law_solved.nd (by kernel_rfl) (loc_by (by kernel_rfl)) (by kernel_rfl) (fn_by (by kernel_rfl))) (gsCons (gName' (i := 5) sc__law_solved.nd (by kernel_rfl) (loc_by (by kernel_rfl)) (by kernel_rfl) (fn_by (by kernel_rfl))) (gsCons (gName' (i := 6) sc__law_solved.nd (by kernel_rfl) (loc_by (by kernel_rfl)) (by kernel_rfl) (fn_by (by kernel_rfl))) gsNil))) (gC_len (gC_len (gC_len g0_len)))))
  (zOne (zRet (xE (eAnd rfl (eCmp (kNe rfl hr.units) (pVar (n := 1) (i := 3) (by kernel_rfl) (vis_by (by kernel_rfl))) (eTup (aCons pInt (aCons pInt (aCons pInt aNil)))) rfl) (eOne (eCmp (kEq rfl hr.units) (pMul rfl (pVar (n := 1) (i := 4) (by kernel_rfl) (vis_by (by kernel_rfl))) (pVar (n := 1) (i := 4) (by kernel_rfl) (vis_by (by kernel_rfl)))) (pAdd rfl (pMul rfl (pMul rfl (pSub (m := 0) (pVar (n := 0) (i := 1) (by kernel_rfl) (vis_by (by kernel_rfl))) (pVar (n := 0) (i := 2) (by kernel_rfl) (vis_by (by kernel_rfl)))) (pVar (n := 1) (i := 5) (by kernel_rfl) (vis_by (by kernel_rfl)))) (pVar (n := 1) (i := 5) (by kernel_rfl) (vis_by (by kernel_rfl)))) (pMul rfl (pMul rfl (eIf (Pv.tCmp (kEq rfl hr.units) (pMod (m := 0) (eB (bInt rfl) (gl_by (by kernel_rfl)) T.z_int (aCons (pVar (n := 1) (i := 0) (by kernel_rfl) (vis_by (by kernel_rfl))) aNil)) pInt) pInt rfl) (pVar (n := 1) (i := 2) (by kernel_rfl) (vis_by (by kernel_rfl))) (pNeg (m := 0) (pVar (n := 0) (i := 2) (by kernel_rfl) (vis_by (by kernel_rfl))))) (pVar (n := 1) (i := 6) (by kernel_rfl) (vis_by (by kernel_rfl)))) (pVar (n := 1) (i := 6) (by kernel_rfl) (vis_by (by kernel_rfl))))) rfl)))))))
theorem D__law_solved (T : Txt K mg cls) : Dfn P w K mg base (Cf K cls) (1) 4 "_law_solved" F__law_solved := by
  obtain ⟨f, fd, F1, hm, hb⟩ := T.F__law_solved
  exact ⟨⟨f, fd, _, fnX F1 sc__law_solved (by decide) (fun cdv A outer s H E hr => y__law_solved T hr), hm, F1.kp, hb⟩, callF_len⟩
theorem y__law_read (T : Txt K mg cls) {f : Addr} {cdv : Value} {A : Around} {outer : List Env} {s : Shared} {H : Hp} {E : XK} (hr : Room 41 (A.deeper (envOfC "_law_read" (defScope st__law_read) s.heap.objs.size f cdv))) :
    PSs (cxOf CX0 P w K mg base ["v", "k", "l", "word", "paper"] "_law_read" (defScope st__law_read) f cdv A outer s H E).nox (defBody st__law_read) (tS (Cf K cls) (fun _ => false) b__law_read) :=
  (zCons (zAsg (xE (eFn (D_symmetric_answer T) (hr.mono (by decide)) (gl_by (by kernel_rfl)) (ayCons (yP (pVar (n := 0) (i := 0) (by kernel_rfl) (vis_by (by kernel_rfl)))) (ayCons (yP (pVar (n := 0) (i := 1) (by kernel_rfl) (vis_by (by kernel_rfl)))) (ayCons (yP (pVar (n := 0) (i := 2) (by kernel_rfl) (vis_by (by kernel_rfl)))) ayNil))))) (gTuple (n := 2) rfl rfl (gsCons (gName' (i := 3) sc__law_read.nd (by kernel_rfl) (loc_by (by kernel_rfl)) (by kernel_rfl) (fn_by (by kernel_rfl))) (gsCons (gName' (i := 4) sc__law_read.nd (by kernel_rfl) (loc_by (by kernel_rfl)) (by kernel_rfl) (fn_by (by kernel_rfl))) gsNil)) (gC_len (gC_len g0_len))))
  (zCons (zIf (xT (Pv.tCmp (kNe rfl hr.units) (pMul rfl (pVar (n := 1) (i := 1) (by kernel_rfl) (vis_by (by kernel_rfl))) (pSub (m := 0) (pVar (n := 0) (i := 1) (by kernel_rfl) (vis_by (by kernel_rfl))) pInt)) (pMul rfl (pVar (n := 1) (i := 2) (by kernel_rfl) (vis_by (by kernel_rfl))) (pSub (m := 0) (pVar (n := 0) (i := 0) (by kernel_rfl) (vis_by (by kernel_rfl))) pInt)) rfl)) (zOne (zRet (xE (eAnd rfl (eCmp (kEq rfl hr.units) (pVar (n := 1) (i := 3) (by kernel_rfl) (vis_by (by kernel_rfl))) pStr rfl) (eOne (eCmp (kEq rfl hr.units) (pVar (n := 1) (i := 4) (by kernel_rfl) (vis_by (by kernel_rfl))) (eTup aNil) rfl)))))) zNil)
  (zCons (zIf (xT (Pv.tCmp (kEq rfl hr.units) (pVar (n := 1) (i := 3) (by kernel_rfl) (vis_by (by kernel_rfl))) pStr rfl)) (zOne (zRet (xE (eAnd rfl (eFn (D__law_bar T) (hr.mono (by decide)) (gl_by (by kernel_rfl)) (ayCons (yP (pVar (n := 0) (i := 0) (by kernel_rfl) (vis_by (by kernel_rfl)))) (ayCons (yP (pVar (n := 0) (i := 1) (by kernel_rfl) (vis_by (by kernel_rfl)))) (ayCons (yP (pVar (n := 0) (i := 2) (by kernel_rfl) (vis_by (by kernel_rfl)))) (ayCons (yP (pVar (n := 0) (i := 4) (by kernel_rfl) (vis_by (by kernel_rfl)))) ayNil))))) (eOne (eFn (D__law_exact T 40) (hr.mono (by decide)) (gl_by (by kernel_rfl)) (ayCons (yP pBool) (ayCons (yP (eFn (D_shows_bar T) (hr.mono (by decide)) (gl_by (by kernel_rfl)) (ayCons (yP (pVar (n := 0) (i := 0) (by kernel_rfl) (vis_by (by kernel_rfl)))) (ayCons (yP (pVar (n := 0) (i := 1) (by kernel_rfl) (vis_by (by kernel_rfl)))) (ayCons (yP (pVar (n := 0) (i := 2) (by kernel_rfl) (vis_by (by kernel_rfl)))) (ayCons (yP (pVar (n := 0) (i := 4) (by kernel_rfl) (vis_by (by kernel_rfl)))) ayNil)))))) ayNil)))))))) zNil)
  (zCons (zIf (xT (Pv.tCmp (kNe rfl hr.units) (pVar (n := 1) (i := 3) (by kernel_rfl) (vis_by (by kernel_rfl))) pStr rfl)) (zOne (zRet (xE pBool))) zNil)
  (zCons (zIf (xT (Pv.tCmp (kEq rfl hr.units) (pMod (m := 0) (eB (bInt rfl) (gl_by (by kernel_rfl)) T.z_int (aCons (pVar (n := 1) (i := 0) (by kernel_rfl) (vis_by (by kernel_rfl))) aNil)) pInt) pInt rfl)) (zOne (zRet (xE (eAnd rfl (eCmp (kEq rfl hr.units) (pVar (n := 1) (i := 4) (by kernel_rfl) (vis_by (by kernel_rfl))) (eTup aNil) rfl) (eOne (eCmp (kEq rfl hr.units) (pMul rfl (eFn (D__law_root T) (hr.mono (by decide)) (gl_by (by kernel_rfl)) (ayCons (yP (pSub (m := 0) (pVar (n := 0) (i := 1) (by kernel_rfl) (vis_by (by kernel_rfl))) (pVar (n := 0) (i := 2) (by kernel_rfl) (vis_by (by kernel_rfl))))) ayNil)) (eFn (D__law_root T) (hr.mono (by decide)) (gl_by (by kernel_rfl)) (ayCons (yP (pSub (m := 0) (pVar (n := 0) (i := 1) (by kernel_rfl) (vis_by (by kernel_rfl))) (pVar (n := 0) (i := 2) (by kernel_rfl) (vis_by (by kernel_rfl))))) ayNil))) (pSub (m := 0) (pVar (n := 0) (i := 1) (by kernel_rfl) (vis_by (by kernel_rfl))) (pVar (n := 0) (i := 2) (by kernel_rfl) (vis_by (by kernel_rfl)))) rfl)))))) zNil)
  (zOne (zRet (xE (eAnd rfl (eFn (D__law_solved T) (hr.mono (by decide)) (gl_by (by kernel_rfl)) (ayCons (yP (pVar (n := 0) (i := 0) (by kernel_rfl) (vis_by (by kernel_rfl)))) (ayCons (yP (pVar (n := 0) (i := 1) (by kernel_rfl) (vis_by (by kernel_rfl)))) (ayCons (yP (pVar (n := 0) (i := 2) (by kernel_rfl) (vis_by (by kernel_rfl)))) (ayCons (yP (pVar (n := 0) (i := 4) (by kernel_rfl) (vis_by (by kernel_rfl)))) ayNil))))) (eOne (eFn (D__law_exact T 40) (hr.mono (by decide)) (gl_by (by kernel_rfl)) (ayCons (yP pBool) (ayCons (yP (eFn (D_shows_solution T) (hr.mono (by decide)) (gl_by (by kernel_rfl)) (ayCons (yP (pVar (n := 0) (i := 0) (by kernel_rfl) (vis_by (by kernel_rfl)))) (ayCons (yP (pVar (n := 0) (i := 1) (by kernel_rfl) (vis_by (by kernel_rfl)))) (ayCons (yP (pVar (n := 0) (i := 2) (by kernel_rfl) (vis_by (by kernel_rfl)))) (ayCons (yP (pVar (n := 0) (i := 4) (by kernel_rfl) (vis_by (by kernel_rfl)))) ayNil)))))) ayNil)))))))))))))
theorem D__law_read (T : Txt K mg cls) : Dfn P w K mg base (Cf K cls) (42) 3 "_law_read" F__law_read := by
  obtain ⟨f, fd, F1, hm, hb⟩ := T.F__law_read
  exact ⟨⟨f, fd, _, fnX F1 sc__law_read (by decide) (fun cdv A outer s H E hr => y__law_read T hr), hm, F1.kp, hb⟩, callF_len⟩
theorem y_law (T : Txt K mg cls) {f : Addr} {cdv : Value} {A : Around} {outer : List Env} {s : Shared} {H : Hp} {E : XK} (hr : Room 42 (A.deeper (envOfC "law" (defScope st_law) s.heap.objs.size f cdv))) :
    PSs (cxOf CX0 P w K mg base ["script", "state", "k", "size", "l", "v", "j", "paper", "numbers", "i", "n", "known", "m"] "law" (defScope st_law) f cdv A outer s H E).nox (defBody st_law) (tS (Cf K cls) (fun _ => false) b_law) :=
  (zCons (zSet (i := 1) sc_law.nd (by kernel_rfl) (loc_by (by kernel_rfl)) (wN (xN (nLst (aCons pInt (aCons pInt aNil))))) (by kernel_rfl) rfl (fn_by (by kernel_rfl)))
  (zCons (zFor .never rfl (iX (iRange1 (n := 0) (m := 0) (gl_by (by kernel_rfl)) T.z_range (aCons pInt aNil))) (gName' (i := 2) sc_law.nd (by kernel_rfl) (loc_by (by kernel_rfl)) (by kernel_rfl) (fn_by (by kernel_rfl))) (zCons (zSet (i := 3) sc_law.nd (by kernel_rfl) (loc_by (by kernel_rfl)) (wE (xAdd rfl (xE pInt) (xMv (i := 1) (D__law_draw T) (hr.mono (by decide)) (gl_by (by kernel_rfl)) (by kernel_rfl) (vis_by (by kernel_rfl)) (ayxCons (yXP (yN (i := 0) (by kernel_rfl) (vis_by (by kernel_rfl)))) (ayxCons (yX (xE pInt)) ayxNil))))) (by kernel_rfl) rfl (fn_by (by kernel_rfl)))
  (zCons (zSet (i := 4) sc_law.nd (by kernel_rfl) (loc_by (by kernel_rfl)) (wE (xAdd rfl (xE pInt) (xMv (i := 1) (D__law_draw T) (hr.mono (by decide)) (gl_by (by kernel_rfl)) (by kernel_rfl) (vis_by (by kernel_rfl)) (ayxCons (yXP (yN (i := 0) (by kernel_rfl) (vis_by (by kernel_rfl)))) (ayxCons (yX (xE (pSub (m := 0) (pVar (n := 0) (i := 3) (by kernel_rfl) (vis_by (by kernel_rfl))) pInt))) ayxNil))))) (by kernel_rfl) rfl (fn_by (by kernel_rfl)))
  (zCons (zSet (i := 5) sc_law.nd (by kernel_rfl) (loc_by (by kernel_rfl)) (wE (xAdd rfl (xE (pAdd rfl (pDiv (m := 0) (pMul rfl (pVar (n := 1) (i := 3) (by kernel_rfl) (vis_by (by kernel_rfl))) (pSub (m := 0) (pVar (n := 0) (i := 3) (by kernel_rfl) (vis_by (by kernel_rfl))) pInt)) (pVar (n := 0) (i := 4) (by kernel_rfl) (vis_by (by kernel_rfl)))) pInt)) (xMul rfl (xMv (i := 1) (D__law_draw T) (hr.mono (by decide)) (gl_by (by kernel_rfl)) (by kernel_rfl) (vis_by (by kernel_rfl)) (ayxCons (yXP (yN (i := 0) (by kernel_rfl) (vis_by (by kernel_rfl)))) (ayxCons (yX (xE pInt)) ayxNil))) (xMv (i := 1) (D__law_draw T) (hr.mono (by decide)) (gl_by (by kernel_rfl)) (by kernel_rfl) (vis_by (by kernel_rfl)) (ayxCons (yXP (yN (i := 0) (by kernel_rfl) (vis_by (by kernel_rfl)))) (ayxCons (yX (xE pInt)) ayxNil)))))) (by kernel_rfl) rfl (fn_by (by kernel_rfl)))
  (zCons (zIf (xT (PW.pt (wAnd (Pv.tChain' (kLt) (kLe) (pVar (n := 1) (i := 3) (by kernel_rfl) (vis_by (by kernel_rfl))) (pVar (n := 1) (i := 5) (by kernel_rfl) (vis_by (by kernel_rfl))) pInt rfl) (wAnd1 (tNot' (tTru rfl (eFn (D__law_read T) (hr.mono (by decide)) (gl_by (by kernel_rfl)) (ayCons (yP (pVar (n := 0) (i := 5) (by kernel_rfl) (vis_by (by kernel_rfl)))) (ayCons (yP (pVar (n := 0) (i := 3) (by kernel_rfl) (vis_by (by kernel_rfl)))) (ayCons (yP (pVar (n := 0) (i := 4) (by kernel_rfl) (vis_by (by kernel_rfl)))) ayNil)))))))))) (zOne (zRet (xE pBool))) zNil)
  (zOne (zIf (xT (PW.pt (wAnd (Pv.tChain' (kLt) (kLe) (pVar (n := 1) (i := 3) (by kernel_rfl) (vis_by (by kernel_rfl))) (pVar (n := 1) (i := 5) (by kernel_rfl) (vis_by (by kernel_rfl))) pInt rfl) (wAnd1 (Pv.tCmp (kEq rfl hr.units) (pMul rfl (pVar (n := 1) (i := 3) (by kernel_rfl) (vis_by (by kernel_rfl))) (pSub (m := 0) (pVar (n := 0) (i := 3) (by kernel_rfl) (vis_by (by kernel_rfl))) pInt)) (pMul rfl (pVar (n := 1) (i := 4) (by kernel_rfl) (vis_by (by kernel_rfl))) (pSub (m := 0) (pVar (n := 0) (i := 5) (by kernel_rfl) (vis_by (by kernel_rfl))) pInt)) rfl))))) (zOne (zFor .never rfl (iX (iRange1 (n := 0) (m := 0) (gl_by (by kernel_rfl)) T.z_range (aCons pInt aNil))) (gName' (i := 6) sc_law.nd (by kernel_rfl) (loc_by (by kernel_rfl)) (by kernel_rfl) (fn_by (by kernel_rfl))) (zCons (zSet (i := 7) sc_law.nd (by kernel_rfl) (loc_by (by kernel_rfl)) (wE (xTup (axCons (xAdd rfl (xE pInt) (xMv (i := 1) (D__law_draw T) (hr.mono (by decide)) (gl_by (by kernel_rfl)) (by kernel_rfl) (vis_by (by kernel_rfl)) (ayxCons (yXP (yN (i := 0) (by kernel_rfl) (vis_by (by kernel_rfl)))) (ayxCons (yX (xE pInt)) ayxNil)))) (axCons (xIx rfl (xE (eLst (aCons (pSub (m := 0) (pVar (n := 0) (i := 3) (by kernel_rfl) (vis_by (by kernel_rfl))) (pVar (n := 0) (i := 4) (by kernel_rfl) (vis_by (by kernel_rfl)))) (aCons pInt (aCons pInt (aCons pInt (aCons pInt (aCons pInt (aCons pInt aNil))))))))) (xMv (i := 1) (D__law_draw T) (hr.mono (by decide)) (gl_by (by kernel_rfl)) (by kernel_rfl) (vis_by (by kernel_rfl)) (ayxCons (yXP (yN (i := 0) (by kernel_rfl) (vis_by (by kernel_rfl)))) (ayxCons (yX (xE pInt)) ayxNil)))) axNil)))) (by kernel_rfl) rfl (fn_by (by kernel_rfl)))
  (zCons (zIf (xT (tNot' (tTru rfl (eFn (D__law_exact T 40) (hr.mono (by decide)) (gl_by (by kernel_rfl)) (ayCons (yP (eFn (D__law_bar T) (hr.mono (by decide)) (gl_by (by kernel_rfl)) (ayCons (yP (pVar (n := 0) (i := 5) (by kernel_rfl) (vis_by (by kernel_rfl)))) (ayCons (yP (pVar (n := 0) (i := 3) (by kernel_rfl) (vis_by (by kernel_rfl)))) (ayCons (yP (pVar (n := 0) (i := 4) (by kernel_rfl) (vis_by (by kernel_rfl)))) (ayCons (yP (pVar (n := 0) (i := 7) (by kernel_rfl) (vis_by (by kernel_rfl)))) ayNil)))))) (ayCons (yP (eFn (D_shows_bar T) (hr.mono (by decide)) (gl_by (by kernel_rfl)) (ayCons (yP (pVar (n := 0) (i := 5) (by kernel_rfl) (vis_by (by kernel_rfl)))) (ayCons (yP (pVar (n := 0) (i := 3) (by kernel_rfl) (vis_by (by kernel_rfl)))) (ayCons (yP (pVar (n := 0) (i := 4) (by kernel_rfl) (vis_by (by kernel_rfl)))) (ayCons (yP (pVar (n := 0) (i := 7) (by kernel_rfl) (vis_by (by kernel_rfl)))) ayNil)))))) ayNil)))))) (zOne (zRet (xE pBool))) zNil)
  (zCons (zSet (i := 8) sc_law.nd (by kernel_rfl) (loc_by (by kernel_rfl)) (wE (xBl (bTuple rfl) (gl_by (by kernel_rfl)) T.z_tuple (axCons (wX (wLc (own := [("i", 9)]) (n := 0) rfl sc_law.nd (iX (iRange1 (n := 0) (m := 0) (gl_by (by kernel_rfl)) T.z_range (aCons pInt aNil))) (blkOk_by (by kernel_rfl)) (fun _ _ _ _ _ => (gName' (i := 9) sc_law.nd (by kernel_rfl) (loc_by (by kernel_rfl)) (by kernel_rfl) (fn_by (by kernel_rfl)))) (fun _ _ _ _ _ => ifsX0) (fun _ _ _ _ _ => (wE (xSub (xMv (i := 1) (D__law_draw T) (hr.mono (by decide)) (gl_by (by kernel_rfl)) (by kernel_rfl) (vis_by (by kernel_rfl)) (ayxCons (yXP (yN (i := 0) (by kernel_rfl) (vis_by (by kernel_rfl)))) (ayxCons (yX (xE pInt)) ayxNil))) (xE pInt)))))) axNil))) (by kernel_rfl) rfl (fn_by (by kernel_rfl)))
  (zOne (zIf (xT (PW.pt (wAnd (Pv.tCmp (kEq rfl hr.units) (pMod (m := 0) (eB (bInt rfl) (gl_by (by kernel_rfl)) T.z_int (aCons (pVar (n := 1) (i := 5) (by kernel_rfl) (vis_by (by kernel_rfl))) aNil)) pInt) pInt rfl) (wAnd1 (tNot' (tTru rfl (eFn (D__law_exact T 40) (hr.mono (by decide)) (gl_by (by kernel_rfl)) (ayCons (yP (eFn (D__law_solved T) (hr.mono (by decide)) (gl_by (by kernel_rfl)) (ayCons (yP (pVar (n := 0) (i := 5) (by kernel_rfl) (vis_by (by kernel_rfl)))) (ayCons (yP (pVar (n := 0) (i := 3) (by kernel_rfl) (vis_by (by kernel_rfl)))) (ayCons (yP (pVar (n := 0) (i := 4) (by kernel_rfl) (vis_by (by kernel_rfl)))) (ayCons (yP (pVar (n := 0) (i := 8) (by kernel_rfl) (vis_by (by kernel_rfl)))) ayNil)))))) (ayCons (yP (eFn (D_shows_solution T) (hr.mono (by decide)) (gl_by (by kernel_rfl)) (ayCons (yP (pVar (n := 0) (i := 5) (by kernel_rfl) (vis_by (by kernel_rfl)))) (ayCons (yP (pVar (n := 0) (i := 3) (by kernel_rfl) (vis_by (by kernel_rfl)))) (ayCons (yP (pVar (n := 0) (i := 4) (by kernel_rfl) (vis_by (by kernel_rfl)))) (ayCons (yP (pVar (n := 0) (i := 8) (by kernel_rfl) (vis_by (by kernel_rfl)))) ayNil)))))) ayNil))))))))) (zOne (zRet (xE pBool))) zNil))))))) zNil)))))))
  (zCons (zSet (i := 10) sc_law.nd (by kernel_rfl) (loc_by (by kernel_rfl)) (wE (xAdd rfl (xE pInt) (xMv (i := 1) (D__law_draw T) (hr.mono (by decide)) (gl_by (by kernel_rfl)) (by kernel_rfl) (vis_by (by kernel_rfl)) (ayxCons (yXP (yN (i := 0) (by kernel_rfl) (vis_by (by kernel_rfl)))) (ayxCons (yX (xE pInt)) ayxNil))))) (by kernel_rfl) rfl (fn_by (by kernel_rfl)))
  (zCons (zIf (xT (tNot' (tTru rfl (eFn (D__law_read T) (hr.mono (by decide)) (gl_by (by kernel_rfl)) (ayCons (yP (pAdd rfl (pAdd rfl (pMul rfl (pVar (n := 1) (i := 10) (by kernel_rfl) (vis_by (by kernel_rfl))) (pVar (n := 1) (i := 10) (by kernel_rfl) (vis_by (by kernel_rfl)))) (pVar (n := 1) (i := 10) (by kernel_rfl) (vis_by (by kernel_rfl)))) pInt)) (ayCons (yP (pAdd rfl (pVar (n := 1) (i := 10) (by kernel_rfl) (vis_by (by kernel_rfl))) pInt)) (ayCons (yP pInt) ayNil))))))) (zOne (zRet (xE pBool))) zNil)
  (zCons (zSet (i := 11) sc_law.nd (by kernel_rfl) (loc_by (by kernel_rfl)) (wE (xE (pAdd rfl (eN (nLc (own := [("n", 10)]) rfl sc_law.nd (iSeq (n := 0) rfl (eTup (aCons pInt (aCons pInt (aCons pInt (aCons pInt (aCons pInt (aCons pInt (aCons pInt (aCons pInt (aCons pInt (aCons pInt aNil)))))))))))) (blkOk_by (by kernel_rfl)) (fun _ _ _ _ _ => (gName' (i := 10) sc_law.nd (by kernel_rfl) (loc_by (by kernel_rfl)) (by kernel_rfl) (fn_by (by kernel_rfl)))) (fun _ _ _ _ _ => ifs0) (fun _ _ _ _ _ => (eTup (aCons (pAdd rfl (pAdd rfl (pMul rfl (pVar (n := 1) (i := 10) (by kernel_rfl) (vis_by (by kernel_rfl))) (pVar (n := 1) (i := 10) (by kernel_rfl) (vis_by (by kernel_rfl)))) (pVar (n := 1) (i := 10) (by kernel_rfl) (vis_by (by kernel_rfl)))) pInt) (aCons (pAdd rfl (pVar (n := 1) (i := 10) (by kernel_rfl) (vis_by (by kernel_rfl))) pInt) (aCons pInt aNil))))))) (eN (nLc (own := [("m", 12)]) rfl sc_law.nd (iRange2 (n := 0) (m := 0) (gl_by (by kernel_rfl)) T.z_range (aCons pInt (aCons pInt aNil))) (blkOk_by (by kernel_rfl)) (fun _ _ _ _ _ => (gName' (i := 12) sc_law.nd (by kernel_rfl) (loc_by (by kernel_rfl)) (by kernel_rfl) (fn_by (by kernel_rfl)))) (fun _ _ _ _ _ => ifs0) (fun _ _ _ _ _ => (eTup (aCons (pSub (m := 0) (pMul rfl pInt (pVar (n := 1) (i := 12) (by kernel_rfl) (vis_by (by kernel_rfl)))) pInt) (aCons (pSub (m := 0) (pMul rfl pInt (pVar (n := 1) (i := 12) (by kernel_rfl) (vis_by (by kernel_rfl)))) pInt) (aCons (pSub (m := 0) (pVar (n := 0) (i := 12) (by kernel_rfl) (vis_by (by kernel_rfl))) pInt) aNil)))))))))) (by kernel_rfl) rfl (fn_by (by kernel_rfl)))
  (zCons (zAsg (xIxName (i := 11) rfl (by kernel_rfl) (vis_by (by kernel_rfl)) (xMv (i := 1) (D__law_draw T) (hr.mono (by decide)) (gl_by (by kernel_rfl)) (by kernel_rfl) (vis_by (by kernel_rfl)) (ayxCons (yXP (yN (i := 0) (by kernel_rfl) (vis_by (by kernel_rfl)))) (ayxCons (yX (xE pInt)) ayxNil)))) (gTuple (n := 3) rfl rfl (gsCons (gName' (i := 5) sc_law.nd (by kernel_rfl) (loc_by (by kernel_rfl)) (by kernel_rfl) (fn_by (by kernel_rfl))) (gsCons (gName' (i := 3) sc_law.nd (by kernel_rfl) (loc_by (by kernel_rfl)) (by kernel_rfl) (fn_by (by kernel_rfl))) (gsCons (gName' (i := 4) sc_law.nd (by kernel_rfl) (loc_by (by kernel_rfl)) (by kernel_rfl) (fn_by (by kernel_rfl))) gsNil))) (gC_len (gC_len (gC_len g0_len)))))
  (zCons (zIf (xT (Pv.tCmp (kNe rfl hr.units) (eIx rfl (eFn (D_symmetric_answer T) (hr.mono (by decide)) (gl_by (by kernel_rfl)) (ayCons (yP (pVar (n := 0) (i := 5) (by kernel_rfl) (vis_by (by kernel_rfl)))) (ayCons (yP (pVar (n := 0) (i := 3) (by kernel_rfl) (vis_by (by kernel_rfl)))) (ayCons (yP (pVar (n := 0) (i := 4) (by kernel_rfl) (vis_by (by kernel_rfl)))) ayNil)))) pInt) pStr rfl)) (zOne (zRet (xE pBool))) zNil)
  (zOne (zRet (xE (eAnd rfl (eCmp (kEq rfl hr.units) (eIx rfl (eFn (D_symmetric_answer T) (hr.mono (by decide)) (gl_by (by kernel_rfl)) (ayCons (yP pInt) (ayCons (yP pInt) (ayCons (yP pInt) ayNil)))) pInt) pStr rfl) (eOne (eCmp (kEq rfl hr.units) (eIx rfl (eFn (D_symmetric_answer T) (hr.mono (by decide)) (gl_by (by kernel_rfl)) (ayCons (yP pInt) (ayCons (yP pInt) (ayCons (yP pInt) ayNil)))) pInt) pStr rfl)))))))))))))
theorem D_law (T : Txt K mg cls) : Dfn P w K mg base (Cf K cls) (43) 1 "law" F_law := by
  obtain ⟨f, fd, F1, hm, hb⟩ := T.F_law
  exact ⟨⟨f, fd, _, fnX F1 sc_law (by decide) (fun cdv A outer s H E hr => y_law T hr), hm, F1.kp, hb⟩, callF_len⟩
end
theorem all_mk {w : World} {K : PySem.W.Frag} {h : Heap} {mg : Str → Option Value} {fa : Addr} (X : K.In h) (G : h.Ns mainGlobals mg) (hfa : mg "law" = some (.ref fa))
    {f_is_square_number f_without_squares f_primes_in f_legendre f_split_off f_symbol f_bar_of f_small_solution f_solve f_symmetric_answer f_shows_solution f_shows_bar f__law_refill f__law_draw f__law_exact f__law_root f__law_primes f__law_is_prime f__law_bar f__law_solved f__law_read f_law : Addr} {od_is_square_number an_is_square_number od_without_squares an_without_squares od_primes_in an_primes_in od_legendre an_legendre od_split_off an_split_off od_symbol an_symbol od_bar_of an_bar_of od_small_solution an_small_solution od_solve an_solve od_symmetric_answer an_symmetric_answer od_shows_solution an_shows_solution od_shows_bar an_shows_bar od__law_refill an__law_refill od__law_draw an__law_draw od__law_exact an__law_exact od__law_root an__law_root od__law_primes an__law_primes od__law_is_prime an__law_is_prime od__law_bar an__law_bar od__law_solved an__law_solved od__law_read an__law_read od_law an_law : Option Addr} {sl_is_square_number sl_without_squares sl_primes_in sl_legendre sl_split_off sl_symbol sl_bar_of sl_small_solution sl_solve sl_symmetric_answer sl_shows_solution sl_shows_bar sl__law_refill sl__law_draw sl__law_exact sl__law_root sl__law_primes sl__law_is_prime sl__law_bar sl__law_solved sl__law_read sl_law : Array (Option Value)} {oc_is_square_number kV_is_square_number dc_is_square_number pm_is_square_number cd_is_square_number ct_is_square_number oc_without_squares kV_without_squares dc_without_squares pm_without_squares cd_without_squares ct_without_squares oc_primes_in kV_primes_in dc_primes_in pm_primes_in cd_primes_in ct_primes_in oc_legendre kV_legendre dc_legendre pm_legendre cd_legendre ct_legendre oc_split_off kV_split_off dc_split_off pm_split_off cd_split_off ct_split_off oc_symbol kV_symbol dc_symbol pm_symbol cd_symbol ct_symbol oc_bar_of kV_bar_of dc_bar_of pm_bar_of cd_bar_of ct_bar_of oc_small_solution kV_small_solution dc_small_solution pm_small_solution cd_small_solution ct_small_solution oc_solve kV_solve dc_solve pm_solve cd_solve ct_solve oc_symmetric_answer kV_symmetric_answer dc_symmetric_answer pm_symmetric_answer cd_symmetric_answer ct_symmetric_answer oc_shows_solution kV_shows_solution dc_shows_solution pm_shows_solution cd_shows_solution ct_shows_solution oc_shows_bar kV_shows_bar dc_shows_bar pm_shows_bar cd_shows_bar ct_shows_bar oc__law_refill kV__law_refill dc__law_refill pm__law_refill cd__law_refill ct__law_refill oc__law_draw kV__law_draw dc__law_draw pm__law_draw cd__law_draw ct__law_draw oc__law_exact kV__law_exact dc__law_exact pm__law_exact cd__law_exact ct__law_exact oc__law_root kV__law_root dc__law_root pm__law_root cd__law_root ct__law_root oc__law_primes kV__law_primes dc__law_primes pm__law_primes cd__law_primes ct__law_primes oc__law_is_prime kV__law_is_prime dc__law_is_prime pm__law_is_prime cd__law_is_prime ct__law_is_prime oc__law_bar kV__law_bar dc__law_bar pm__law_bar cd__law_bar ct__law_bar oc__law_solved kV__law_solved dc__law_solved pm__law_solved cd__law_solved ct__law_solved oc__law_read kV__law_read dc__law_read pm__law_read cd__law_read ct__law_read oc_law kV_law dc_law pm_law cd_law ct_law : Value}
    (xz_abs : PySem.W.nsIn K mainGlobals "abs" = some none)
    (xz_all : PySem.W.nsIn K mainGlobals "all" = some none)
    (xz_bool : PySem.W.nsIn K mainGlobals "bool" = some none)
    (xz_int : PySem.W.nsIn K mainGlobals "int" = some none)
    (xz_isinstance : PySem.W.nsIn K mainGlobals "isinstance" = some none)
    (xz_len : PySem.W.nsIn K mainGlobals "len" = some none)
    (xz_list : PySem.W.nsIn K mainGlobals "list" = some none)
    (xz_range : PySem.W.nsIn K mainGlobals "range" = some none)
    (xz_set : PySem.W.nsIn K mainGlobals "set" = some none)
    (xz_sorted : PySem.W.nsIn K mainGlobals "sorted" = some none)
    (xz_str : PySem.W.nsIn K mainGlobals "str" = some none)
    (xz_tuple : PySem.W.nsIn K mainGlobals "tuple" = some none)
    (xg_gcd : PySem.W.nsIn K mainGlobals "gcd" = some (some (.builtin "math.gcd")))
    (xg_isqrt : PySem.W.nsIn K mainGlobals "isqrt" = some (some (.builtin "math.isqrt")))
    (a_is_square_number : PySem.W.nsIn K mainGlobals "is_square_number" = some (some (.ref f_is_square_number)))
    (l_is_square_number : K.lookup f_is_square_number = some ⟨oc_is_square_number, od_is_square_number, .func (PySem.W.fnOf "is_square_number" "is_square_number" (defArgs st_is_square_number) (defBody st_is_square_number) (defScope st_is_square_number) .none kV_is_square_number dc_is_square_number pm_is_square_number an_is_square_number cd_is_square_number ct_is_square_number), sl_is_square_number⟩)
    (c_is_square_number : PySem.W.codeIn K cd_is_square_number "is_square_number" = true)
    (k_is_square_number : PySem.W.keepIn K (.ref f_is_square_number) = true)
    (a_without_squares : PySem.W.nsIn K mainGlobals "without_squares" = some (some (.ref f_without_squares)))
    (l_without_squares : K.lookup f_without_squares = some ⟨oc_without_squares, od_without_squares, .func (PySem.W.fnOf "without_squares" "without_squares" (defArgs st_without_squares) (defBody st_without_squares) (defScope st_without_squares) .none kV_without_squares dc_without_squares pm_without_squares an_without_squares cd_without_squares ct_without_squares), sl_without_squares⟩)
    (c_without_squares : PySem.W.codeIn K cd_without_squares "without_squares" = true)
    (k_without_squares : PySem.W.keepIn K (.ref f_without_squares) = true)
    (a_primes_in : PySem.W.nsIn K mainGlobals "primes_in" = some (some (.ref f_primes_in)))
    (l_primes_in : K.lookup f_primes_in = some ⟨oc_primes_in, od_primes_in, .func (PySem.W.fnOf "primes_in" "primes_in" (defArgs st_primes_in) (defBody st_primes_in) (defScope st_primes_in) .none kV_primes_in dc_primes_in pm_primes_in an_primes_in cd_primes_in ct_primes_in), sl_primes_in⟩)
    (c_primes_in : PySem.W.codeIn K cd_primes_in "primes_in" = true)
    (k_primes_in : PySem.W.keepIn K (.ref f_primes_in) = true)
    (a_legendre : PySem.W.nsIn K mainGlobals "legendre" = some (some (.ref f_legendre)))
    (l_legendre : K.lookup f_legendre = some ⟨oc_legendre, od_legendre, .func (PySem.W.fnOf "legendre" "legendre" (defArgs st_legendre) (defBody st_legendre) (defScope st_legendre) .none kV_legendre dc_legendre pm_legendre an_legendre cd_legendre ct_legendre), sl_legendre⟩)
    (c_legendre : PySem.W.codeIn K cd_legendre "legendre" = true)
    (k_legendre : PySem.W.keepIn K (.ref f_legendre) = true)
    (a_split_off : PySem.W.nsIn K mainGlobals "split_off" = some (some (.ref f_split_off)))
    (l_split_off : K.lookup f_split_off = some ⟨oc_split_off, od_split_off, .func (PySem.W.fnOf "split_off" "split_off" (defArgs st_split_off) (defBody st_split_off) (defScope st_split_off) .none kV_split_off dc_split_off pm_split_off an_split_off cd_split_off ct_split_off), sl_split_off⟩)
    (c_split_off : PySem.W.codeIn K cd_split_off "split_off" = true)
    (k_split_off : PySem.W.keepIn K (.ref f_split_off) = true)
    (a_symbol : PySem.W.nsIn K mainGlobals "symbol" = some (some (.ref f_symbol)))
    (l_symbol : K.lookup f_symbol = some ⟨oc_symbol, od_symbol, .func (PySem.W.fnOf "symbol" "symbol" (defArgs st_symbol) (defBody st_symbol) (defScope st_symbol) .none kV_symbol dc_symbol pm_symbol an_symbol cd_symbol ct_symbol), sl_symbol⟩)
    (c_symbol : PySem.W.codeIn K cd_symbol "symbol" = true)
    (k_symbol : PySem.W.keepIn K (.ref f_symbol) = true)
    (a_bar_of : PySem.W.nsIn K mainGlobals "bar_of" = some (some (.ref f_bar_of)))
    (l_bar_of : K.lookup f_bar_of = some ⟨oc_bar_of, od_bar_of, .func (PySem.W.fnOf "bar_of" "bar_of" (defArgs st_bar_of) (defBody st_bar_of) (defScope st_bar_of) .none kV_bar_of dc_bar_of pm_bar_of an_bar_of cd_bar_of ct_bar_of), sl_bar_of⟩)
    (c_bar_of : PySem.W.codeIn K cd_bar_of "bar_of" = true)
    (k_bar_of : PySem.W.keepIn K (.ref f_bar_of) = true)
    (a_small_solution : PySem.W.nsIn K mainGlobals "small_solution" = some (some (.ref f_small_solution)))
    (l_small_solution : K.lookup f_small_solution = some ⟨oc_small_solution, od_small_solution, .func (PySem.W.fnOf "small_solution" "small_solution" (defArgs st_small_solution) (defBody st_small_solution) (defScope st_small_solution) .none kV_small_solution dc_small_solution pm_small_solution an_small_solution cd_small_solution ct_small_solution), sl_small_solution⟩)
    (c_small_solution : PySem.W.codeIn K cd_small_solution "small_solution" = true)
    (k_small_solution : PySem.W.keepIn K (.ref f_small_solution) = true)
    (a_solve : PySem.W.nsIn K mainGlobals "solve" = some (some (.ref f_solve)))
    (l_solve : K.lookup f_solve = some ⟨oc_solve, od_solve, .func (PySem.W.fnOf "solve" "solve" (defArgs st_solve) (defBody st_solve) (defScope st_solve) .none kV_solve dc_solve pm_solve an_solve cd_solve ct_solve), sl_solve⟩)
    (c_solve : PySem.W.codeIn K cd_solve "solve" = true)
    (k_solve : PySem.W.keepIn K (.ref f_solve) = true)
    (a_symmetric_answer : PySem.W.nsIn K mainGlobals "symmetric_answer" = some (some (.ref f_symmetric_answer)))
    (l_symmetric_answer : K.lookup f_symmetric_answer = some ⟨oc_symmetric_answer, od_symmetric_answer, .func (PySem.W.fnOf "symmetric_answer" "symmetric_answer" (defArgs st_symmetric_answer) (defBody st_symmetric_answer) (defScope st_symmetric_answer) .none kV_symmetric_answer dc_symmetric_answer pm_symmetric_answer an_symmetric_answer cd_symmetric_answer ct_symmetric_answer), sl_symmetric_answer⟩)
    (c_symmetric_answer : PySem.W.codeIn K cd_symmetric_answer "symmetric_answer" = true)
    (k_symmetric_answer : PySem.W.keepIn K (.ref f_symmetric_answer) = true)
    (a_shows_solution : PySem.W.nsIn K mainGlobals "shows_solution" = some (some (.ref f_shows_solution)))
    (l_shows_solution : K.lookup f_shows_solution = some ⟨oc_shows_solution, od_shows_solution, .func (PySem.W.fnOf "shows_solution" "shows_solution" (defArgs st_shows_solution) (defBody st_shows_solution) (defScope st_shows_solution) .none kV_shows_solution dc_shows_solution pm_shows_solution an_shows_solution cd_shows_solution ct_shows_solution), sl_shows_solution⟩)
    (c_shows_solution : PySem.W.codeIn K cd_shows_solution "shows_solution" = true)
    (k_shows_solution : PySem.W.keepIn K (.ref f_shows_solution) = true)
    (a_shows_bar : PySem.W.nsIn K mainGlobals "shows_bar" = some (some (.ref f_shows_bar)))
    (l_shows_bar : K.lookup f_shows_bar = some ⟨oc_shows_bar, od_shows_bar, .func (PySem.W.fnOf "shows_bar" "shows_bar" (defArgs st_shows_bar) (defBody st_shows_bar) (defScope st_shows_bar) .none kV_shows_bar dc_shows_bar pm_shows_bar an_shows_bar cd_shows_bar ct_shows_bar), sl_shows_bar⟩)
    (c_shows_bar : PySem.W.codeIn K cd_shows_bar "shows_bar" = true)
    (k_shows_bar : PySem.W.keepIn K (.ref f_shows_bar) = true)
    (a__law_refill : PySem.W.nsIn K mainGlobals "_law_refill" = some (some (.ref f__law_refill)))
    (l__law_refill : K.lookup f__law_refill = some ⟨oc__law_refill, od__law_refill, .func (PySem.W.fnOf "_law_refill" "_law_refill" (defArgs st__law_refill) (defBody st__law_refill) (defScope st__law_refill) .none kV__law_refill dc__law_refill pm__law_refill an__law_refill cd__law_refill ct__law_refill), sl__law_refill⟩)
    (c__law_refill : PySem.W.codeIn K cd__law_refill "_law_refill" = true)
    (k__law_refill : PySem.W.keepIn K (.ref f__law_refill) = true)
    (a__law_draw : PySem.W.nsIn K mainGlobals "_law_draw" = some (some (.ref f__law_draw)))
    (l__law_draw : K.lookup f__law_draw = some ⟨oc__law_draw, od__law_draw, .func (PySem.W.fnOf "_law_draw" "_law_draw" (defArgs st__law_draw) (defBody st__law_draw) (defScope st__law_draw) .none kV__law_draw dc__law_draw pm__law_draw an__law_draw cd__law_draw ct__law_draw), sl__law_draw⟩)
    (c__law_draw : PySem.W.codeIn K cd__law_draw "_law_draw" = true)
    (k__law_draw : PySem.W.keepIn K (.ref f__law_draw) = true)
    (a__law_exact : PySem.W.nsIn K mainGlobals "_law_exact" = some (some (.ref f__law_exact)))
    (l__law_exact : K.lookup f__law_exact = some ⟨oc__law_exact, od__law_exact, .func (PySem.W.fnOf "_law_exact" "_law_exact" (defArgs st__law_exact) (defBody st__law_exact) (defScope st__law_exact) .none kV__law_exact dc__law_exact pm__law_exact an__law_exact cd__law_exact ct__law_exact), sl__law_exact⟩)
    (c__law_exact : PySem.W.codeIn K cd__law_exact "_law_exact" = true)
    (k__law_exact : PySem.W.keepIn K (.ref f__law_exact) = true)
    (a__law_root : PySem.W.nsIn K mainGlobals "_law_root" = some (some (.ref f__law_root)))
    (l__law_root : K.lookup f__law_root = some ⟨oc__law_root, od__law_root, .func (PySem.W.fnOf "_law_root" "_law_root" (defArgs st__law_root) (defBody st__law_root) (defScope st__law_root) .none kV__law_root dc__law_root pm__law_root an__law_root cd__law_root ct__law_root), sl__law_root⟩)
    (c__law_root : PySem.W.codeIn K cd__law_root "_law_root" = true)
    (k__law_root : PySem.W.keepIn K (.ref f__law_root) = true)
    (a__law_primes : PySem.W.nsIn K mainGlobals "_law_primes" = some (some (.ref f__law_primes)))
    (l__law_primes : K.lookup f__law_primes = some ⟨oc__law_primes, od__law_primes, .func (PySem.W.fnOf "_law_primes" "_law_primes" (defArgs st__law_primes) (defBody st__law_primes) (defScope st__law_primes) .none kV__law_primes dc__law_primes pm__law_primes an__law_primes cd__law_primes ct__law_primes), sl__law_primes⟩)
    (c__law_primes : PySem.W.codeIn K cd__law_primes "_law_primes" = true)
    (k__law_primes : PySem.W.keepIn K (.ref f__law_primes) = true)
    (a__law_is_prime : PySem.W.nsIn K mainGlobals "_law_is_prime" = some (some (.ref f__law_is_prime)))
    (l__law_is_prime : K.lookup f__law_is_prime = some ⟨oc__law_is_prime, od__law_is_prime, .func (PySem.W.fnOf "_law_is_prime" "_law_is_prime" (defArgs st__law_is_prime) (defBody st__law_is_prime) (defScope st__law_is_prime) .none kV__law_is_prime dc__law_is_prime pm__law_is_prime an__law_is_prime cd__law_is_prime ct__law_is_prime), sl__law_is_prime⟩)
    (c__law_is_prime : PySem.W.codeIn K cd__law_is_prime "_law_is_prime" = true)
    (k__law_is_prime : PySem.W.keepIn K (.ref f__law_is_prime) = true)
    (a__law_bar : PySem.W.nsIn K mainGlobals "_law_bar" = some (some (.ref f__law_bar)))
    (l__law_bar : K.lookup f__law_bar = some ⟨oc__law_bar, od__law_bar, .func (PySem.W.fnOf "_law_bar" "_law_bar" (defArgs st__law_bar) (defBody st__law_bar) (defScope st__law_bar) .none kV__law_bar dc__law_bar pm__law_bar an__law_bar cd__law_bar ct__law_bar), sl__law_bar⟩)
    (c__law_bar : PySem.W.codeIn K cd__law_bar "_law_bar" = true)
    (k__law_bar : PySem.W.keepIn K (.ref f__law_bar) = true)
    (a__law_solved : PySem.W.nsIn K mainGlobals "_law_solved" = some (some (.ref f__law_solved)))
    (l__law_solved : K.lookup f__law_solved = some ⟨oc__law_solved, od__law_solved, .func (PySem.W.fnOf "_law_solved" "_law_solved" (defArgs st__law_solved) (defBody st__law_solved) (defScope st__law_solved) .none kV__law_solved dc__law_solved pm__law_solved an__law_solved cd__law_solved ct__law_solved), sl__law_solved⟩)
    (c__law_solved : PySem.W.codeIn K cd__law_solved "_law_solved" = true)
    (k__law_solved : PySem.W.keepIn K (.ref f__law_solved) = true)
    (a__law_read : PySem.W.nsIn K mainGlobals "_law_read" = some (some (.ref f__law_read)))
    (l__law_read : K.lookup f__law_read = some ⟨oc__law_read, od__law_read, .func (PySem.W.fnOf "_law_read" "_law_read" (defArgs st__law_read) (defBody st__law_read) (defScope st__law_read) .none kV__law_read dc__law_read pm__law_read an__law_read cd__law_read ct__law_read), sl__law_read⟩)
    (c__law_read : PySem.W.codeIn K cd__law_read "_law_read" = true)
    (k__law_read : PySem.W.keepIn K (.ref f__law_read) = true)
    (a_law : PySem.W.nsIn K mainGlobals "law" = some (some (.ref f_law)))
    (l_law : K.lookup f_law = some ⟨oc_law, od_law, .func (PySem.W.fnOf "law" "law" (defArgs st_law) (defBody st_law) (defScope st_law) .none kV_law dc_law pm_law an_law cd_law ct_law), sl_law⟩)
    (c_law : PySem.W.codeIn K cd_law "law" = true)
    (k_law : PySem.W.keepIn K (.ref f_law) = true)
    (hlaw : ∀ ns : List Int, ns.length ≤ 63 → ∃ ps, F_law [some (.scr ns)] = some (.bool true, ps)) :
    ∃ fd : FuncData, (∀ (s : Shared) (v : Value), BindsTo s fd ⟨[v], []⟩ [("script", v)]) ∧ ∀ base : Heap, K.In base → base.Ns mainGlobals mg → FnOk PySem.Challenge.pw_designweave_k79_whole_answers_of_the_equ w K mg base CX0 43 fa fd ["script"] (spLaw0 (K := K)) := by
  have e := hfa.symm.trans (PySem.W.mg_of X G a_law)
  cases e
  have T : Txt K mg (fun _ => 0) := {
    z_abs := PySem.W.mg_none_of X G xz_abs
    z_all := PySem.W.mg_none_of X G xz_all
    z_bool := PySem.W.mg_none_of X G xz_bool
    z_int := PySem.W.mg_none_of X G xz_int
    z_isinstance := PySem.W.mg_none_of X G xz_isinstance
    z_len := PySem.W.mg_none_of X G xz_len
    z_list := PySem.W.mg_none_of X G xz_list
    z_range := PySem.W.mg_none_of X G xz_range
    z_set := PySem.W.mg_none_of X G xz_set
    z_sorted := PySem.W.mg_none_of X G xz_sorted
    z_str := PySem.W.mg_none_of X G xz_str
    z_tuple := PySem.W.mg_none_of X G xz_tuple
    g_gcd := PySem.W.mg_of X G xg_gcd
    g_isqrt := PySem.W.mg_of X G xg_isqrt
    F_is_square_number := ⟨_, _, fun_mk (st := st_is_square_number) l_is_square_number c_is_square_number k_is_square_number, PySem.W.mg_of X G a_is_square_number, (fun_mk (st := st_is_square_number) l_is_square_number c_is_square_number k_is_square_number).binds (ps := ["number"]) fun _ _ _ _ _ _ us hl => match us, hl with | [_], _ => rfl⟩
    F_without_squares := ⟨_, _, fun_mk (st := st_without_squares) l_without_squares c_without_squares k_without_squares, PySem.W.mg_of X G a_without_squares, (fun_mk (st := st_without_squares) l_without_squares c_without_squares k_without_squares).binds (ps := ["number"]) fun _ _ _ _ _ _ us hl => match us, hl with | [_], _ => rfl⟩
    F_primes_in := ⟨_, _, fun_mk (st := st_primes_in) l_primes_in c_primes_in k_primes_in, PySem.W.mg_of X G a_primes_in, (fun_mk (st := st_primes_in) l_primes_in c_primes_in k_primes_in).binds (ps := ["number"]) fun _ _ _ _ _ _ us hl => match us, hl with | [_], _ => rfl⟩
    F_legendre := ⟨_, _, fun_mk (st := st_legendre) l_legendre c_legendre k_legendre, PySem.W.mg_of X G a_legendre, (fun_mk (st := st_legendre) l_legendre c_legendre k_legendre).binds (ps := ["number", "prime"]) fun _ _ _ _ _ _ us hl => match us, hl with | [_, _], _ => rfl⟩
    F_split_off := ⟨_, _, fun_mk (st := st_split_off) l_split_off c_split_off k_split_off, PySem.W.mg_of X G a_split_off, (fun_mk (st := st_split_off) l_split_off c_split_off k_split_off).binds (ps := ["number", "prime"]) fun _ _ _ _ _ _ us hl => match us, hl with | [_, _], _ => rfl⟩
    F_symbol := ⟨_, _, fun_mk (st := st_symbol) l_symbol c_symbol k_symbol, PySem.W.mg_of X G a_symbol, (fun_mk (st := st_symbol) l_symbol c_symbol k_symbol).binds (ps := ["a", "b", "prime"]) fun _ _ _ _ _ _ us hl => match us, hl with | [_, _, _], _ => rfl⟩
    F_bar_of := ⟨_, _, fun_mk (st := st_bar_of) l_bar_of c_bar_of k_bar_of, PySem.W.mg_of X G a_bar_of, (fun_mk (st := st_bar_of) l_bar_of c_bar_of k_bar_of).binds (ps := ["a", "b"]) fun _ _ _ _ _ _ us hl => match us, hl with | [_, _], _ => rfl⟩
    F_small_solution := ⟨_, _, fun_mk (st := st_small_solution) l_small_solution c_small_solution k_small_solution, PySem.W.mg_of X G a_small_solution, (fun_mk (st := st_small_solution) l_small_solution c_small_solution k_small_solution).binds (ps := ["a", "b", "c"]) fun _ _ _ _ _ _ us hl => match us, hl with | [_, _, _], _ => rfl⟩
    F_solve := ⟨_, _, fun_mk (st := st_solve) l_solve c_solve k_solve, PySem.W.mg_of X G a_solve, (fun_mk (st := st_solve) l_solve c_solve k_solve).binds (ps := ["a", "b"]) fun _ _ _ _ _ _ us hl => match us, hl with | [_, _], _ => rfl⟩
    F_symmetric_answer := ⟨_, _, fun_mk (st := st_symmetric_answer) l_symmetric_answer c_symmetric_answer k_symmetric_answer, PySem.W.mg_of X G a_symmetric_answer, (fun_mk (st := st_symmetric_answer) l_symmetric_answer c_symmetric_answer k_symmetric_answer).binds (ps := ["v", "k", "l"]) fun _ _ _ _ _ _ us hl => match us, hl with | [_, _, _], _ => rfl⟩
    F_shows_solution := ⟨_, _, fun_mk (st := st_shows_solution) l_shows_solution c_shows_solution k_shows_solution, PySem.W.mg_of X G a_shows_solution, (fun_mk (st := st_shows_solution) l_shows_solution c_shows_solution k_shows_solution).binds (ps := ["v", "k", "l", "numbers"]) fun _ _ _ _ _ _ us hl => match us, hl with | [_, _, _, _], _ => rfl⟩
    F_shows_bar := ⟨_, _, fun_mk (st := st_shows_bar) l_shows_bar c_shows_bar k_shows_bar, PySem.W.mg_of X G a_shows_bar, (fun_mk (st := st_shows_bar) l_shows_bar c_shows_bar k_shows_bar).binds (ps := ["v", "k", "l", "paper"]) fun _ _ _ _ _ _ us hl => match us, hl with | [_, _, _, _], _ => rfl⟩
    F__law_refill := ⟨_, _, fun_mk (st := st__law_refill) l__law_refill c__law_refill k__law_refill, PySem.W.mg_of X G a__law_refill, (fun_mk (st := st__law_refill) l__law_refill c__law_refill k__law_refill).binds (ps := ["script", "k"]) fun _ _ _ _ _ _ us hl => match us, hl with | [_, _], _ => rfl⟩
    F__law_draw := ⟨_, _, fun_mk (st := st__law_draw) l__law_draw c__law_draw k__law_draw, PySem.W.mg_of X G a__law_draw, (fun_mk (st := st__law_draw) l__law_draw c__law_draw k__law_draw).binds (ps := ["state", "script", "size"]) fun _ _ _ _ _ _ us hl => match us, hl with | [_, _, _], _ => rfl⟩
    F__law_exact := ⟨_, _, fun_mk (st := st__law_exact) l__law_exact c__law_exact k__law_exact, PySem.W.mg_of X G a__law_exact, (fun_mk (st := st__law_exact) l__law_exact c__law_exact k__law_exact).binds (ps := ["first", "second"]) fun _ _ _ _ _ _ us hl => match us, hl with | [_, _], _ => rfl⟩
    F__law_root := ⟨_, _, fun_mk (st := st__law_root) l__law_root c__law_root k__law_root, PySem.W.mg_of X G a__law_root, (fun_mk (st := st__law_root) l__law_root c__law_root k__law_root).binds (ps := ["number"]) fun _ _ _ _ _ _ us hl => match us, hl with | [_], _ => rfl⟩
    F__law_primes := ⟨_, _, fun_mk (st := st__law_primes) l__law_primes c__law_primes k__law_primes, PySem.W.mg_of X G a__law_primes, (fun_mk (st := st__law_primes) l__law_primes c__law_primes k__law_primes).binds (ps := ["number"]) fun _ _ _ _ _ _ us hl => match us, hl with | [_], _ => rfl⟩
    F__law_is_prime := ⟨_, _, fun_mk (st := st__law_is_prime) l__law_is_prime c__law_is_prime k__law_is_prime, PySem.W.mg_of X G a__law_is_prime, (fun_mk (st := st__law_is_prime) l__law_is_prime c__law_is_prime k__law_is_prime).binds (ps := ["number"]) fun _ _ _ _ _ _ us hl => match us, hl with | [_], _ => rfl⟩
    F__law_bar := ⟨_, _, fun_mk (st := st__law_bar) l__law_bar c__law_bar k__law_bar, PySem.W.mg_of X G a__law_bar, (fun_mk (st := st__law_bar) l__law_bar c__law_bar k__law_bar).binds (ps := ["v", "k", "l", "paper"]) fun _ _ _ _ _ _ us hl => match us, hl with | [_, _, _, _], _ => rfl⟩
    F__law_solved := ⟨_, _, fun_mk (st := st__law_solved) l__law_solved c__law_solved k__law_solved, PySem.W.mg_of X G a__law_solved, (fun_mk (st := st__law_solved) l__law_solved c__law_solved k__law_solved).binds (ps := ["v", "k", "l", "numbers"]) fun _ _ _ _ _ _ us hl => match us, hl with | [_, _, _, _], _ => rfl⟩
    F__law_read := ⟨_, _, fun_mk (st := st__law_read) l__law_read c__law_read k__law_read, PySem.W.mg_of X G a__law_read, (fun_mk (st := st__law_read) l__law_read c__law_read k__law_read).binds (ps := ["v", "k", "l"]) fun _ _ _ _ _ _ us hl => match us, hl with | [_, _, _], _ => rfl⟩
    F_law := ⟨_, _, fun_mk (st := st_law) l_law c_law k_law, PySem.W.mg_of X G a_law, (fun_mk (st := st_law) l_law c_law k_law).binds (ps := ["script"]) fun _ _ _ _ _ _ us hl => match us, hl with | [_], _ => rfl⟩
  }
  refine ⟨_, fun s v => .of_eq rfl, fun base _ _ => lawEnd (C := Cf K _) (fnX (fun_mk (st := st_law) l_law c_law k_law) sc_law (by decide) (fun cdv A outer s H E hr => y_law T hr)) rfl rfl hlaw⟩
end Lw
set_option maxRecDepth 1000000
set_option linter.all false
open Pv Lw PySem L2
namespace Lw
theorem sSeq_nx {f g : FS} {ps ps1 : PE'} (h : f ps = some (.nx, ps1)) : sSeq f g ps = g ps1 := by unfold sSeq; rw [h]
theorem sSeq_rt {f g : FS} {ps ps1 : PE'} {d : PyData} (h : f ps = some (.rt d, ps1)) : sSeq f g ps = some (.rt d, ps1) := by unfold sSeq; rw [h]
theorem sIf_t {t : PE' → Option (Bool × PE')} {f g : FS} {ps ps1 : PE'} (h : t ps = some (true, ps1)) : sIf t f g ps = f ps1 := by unfold sIf; rw [h]
theorem sIf_f {t : PE' → Option (Bool × PE')} {f g : FS} {ps ps1 : PE'} (h : t ps = some (false, ps1)) : sIf t f g ps = g ps1 := by unfold sIf; rw [h]
theorem callF_rt {tot n : Nat} {pin : Nat → Bool} {fb : FS} {ps ps1 : PE'} {d : PyData} (h : ps.length = n) (e : fb (ps ++ List.replicate (tot - n) none) = some (.rt d, ps1)) (hl : n ≤ ps1.length) : callF tot n pin fb ps = some (d, outP pin n 0 ps1) := by
  unfold callF
  rw [if_pos h, e]
  simp [hl]
/-- the tail of _law_refill, once the cell is told -/
theorem refill_cell (ns : List Int) (k c : Int) (hk : 0 ≤ k) : ∃ r ps, (sSeq (sIf (fX (fB (f2 ltD (fVar 1 2) (fC (.int 0))))) (sSet 0 2 (fX (f2 subD (fC (.int 1)) (f2 mulD (fC (.int 2)) (fVar 1 2))))) sNx)
  (sSeq (sIf (fX (fAnd (fB (f2 geD (fVar 1 2) (f2 powD (fC (.int 10)) (fC (.int 18))))) (fB (f2 ltD (fVar 1 1) (fScrL 0))))) (sRet (fX (fVar 0 2))) sNx)
  (sRet (fX (f2 modD (fCall int1D (fCons (f2 addD (f2 mulD (fCall int1D (fCons (f2 addD (f2 addD (f2 mulD (fVar 1 2) (fC (.int 48271))) (f2 mulD (fVar 1 1) (fC (.int 69621)))) (fC (.int 12345))) fNil)) (fC (.int 40692))) (fC (.int 7))) fNil)) (fC (.int 2147483399))))))) [some (.scr ns), some (.d 0 (.int k)), some (.d 0 (.int c))] = some (.rt (.int r), ps) ∧ 0 ≤ r ∧ 2 ≤ ps.length := by
  have key : ∀ c : Int, 0 ≤ c → ∃ r ps, (sSeq (sIf (fX (fAnd (fB (f2 geD (fVar 1 2) (f2 powD (fC (.int 10)) (fC (.int 18))))) (fB (f2 ltD (fVar 1 1) (fScrL 0))))) (sRet (fX (fVar 0 2))) sNx)
  (sRet (fX (f2 modD (fCall int1D (fCons (f2 addD (f2 mulD (fCall int1D (fCons (f2 addD (f2 addD (f2 mulD (fVar 1 2) (fC (.int 48271))) (f2 mulD (fVar 1 1) (fC (.int 69621)))) (fC (.int 12345))) fNil)) (fC (.int 40692))) (fC (.int 7))) fNil)) (fC (.int 2147483399)))))) [some (.scr ns), some (.d 0 (.int k)), some (.d 0 (.int c))] = some (.rt (.int r), ps) ∧ 0 ≤ r ∧ 2 ≤ ps.length := by
    intro c hc
    by_cases h1 : c ≥ 1000000000000000000
    · by_cases h2 : k < ns.length
      · exact ⟨c, [some (.scr ns), some (.d 0 (.int k)), some (.d 0 (.int c))], by simp [sSeq, sIf, sRet, fX, fAnd, fB, f2, fVar, fC, fScrL, scrAt, geD, ltD, cmpI, powD, intD, cPow, boolOf, h1, h2], hc, by simp⟩
      · exact ⟨((c * 48271 + k * 69621 + 12345) * 40692 + 7).fmod 2147483399, [some (.scr ns), some (.d 0 (.int k)), some (.d 0 (.int c))], by simp [sSeq, sIf, sRet, sNx, fX, fAnd, fB, f2, fVar, fC, fScrL, scrAt, geD, ltD, cmpI, powD, intD, cPow, boolOf, h1, h2, modD, addD, mulD, fCall, fCons, fNil, int1D, cMul, cMod], Int.fmod_nonneg_of_pos _ (by decide), by simp⟩
    · exact ⟨((c * 48271 + k * 69621 + 12345) * 40692 + 7).fmod 2147483399, [some (.scr ns), some (.d 0 (.int k)), some (.d 0 (.int c))], by simp [sSeq, sIf, sRet, sNx, fX, fAnd, fB, f2, fVar, fC, fScrL, scrAt, geD, ltD, cmpI, powD, intD, cPow, boolOf, h1, modD, addD, mulD, fCall, fCons, fNil, int1D, cMul, cMod], Int.fmod_nonneg_of_pos _ (by decide), by simp⟩
  by_cases h : c < 0
  · rw [sSeq_nx (ps1 := [some (.scr ns), some (.d 0 (.int k)), some (.d 0 (.int (1 - 2 * c)))]) (by simp [sIf, fX, fB, f2, ltD, cmpI, fVar, fC, boolOf, h, sSet, subD, intD, mulD, cMul])]
    exact key _ (by omega)
  · rw [sSeq_nx (ps1 := [some (.scr ns), some (.d 0 (.int k)), some (.d 0 (.int c))]) (by simp [sIf, fX, fB, f2, ltD, cmpI, fVar, fC, boolOf, h, sNx])]
    exact key _ (by omega)
theorem refill (ns : List Int) (k : Int) (hk : 0 ≤ k) : ∃ r ps, F__law_refill [some (.scr ns), some (.d 0 (.int k))] = some (.int r, ps) ∧ 0 ≤ r := by
  have fin : ∀ c : Int, (sSeq (sSet 0 2 (fX (fC (.int 0)))) (sIf (fX (fScrT 0)) (sSet 0 2 (fX (fScrI 0 (f2 modD (fVar 0 1) (fScrL 0))))) sNx)) [some (.scr ns), some (.d 0 (.int k)), none] = some (.nx, [some (.scr ns), some (.d 0 (.int k)), some (.d 0 (.int c))]) →
      ∃ r ps, F__law_refill [some (.scr ns), some (.d 0 (.int k))] = some (.int r, ps) ∧ 0 ≤ r := fun c hc => by
    obtain ⟨r, ps, h1, h2, h3⟩ := refill_cell ns k c hk
    refine ⟨r, outP (fun _ => false) 2 0 ps, ?_, h2⟩
    have hb : b__law_refill [some (.scr ns), some (.d 0 (.int k)), none] = some (.rt (.int r), ps) := by
      have e0 : (sSet 0 2 (fX (fC (.int 0)))) [some (.scr ns), some (.d 0 (.int k)), none] = some (.nx, [some (.scr ns), some (.d 0 (.int k)), some (.d 0 (.int 0))]) := by simp [sSet, fX, fC]
      unfold b__law_refill
      rw [sSeq_nx e0]
      rw [sSeq_nx e0] at hc
      rw [sSeq_nx hc]
      exact h1
    exact callF_rt rfl hb h3
  by_cases h : ns = []
  · subst h
    exact fin 0 (by simp [sSeq, sSet, fX, fC, sIf, fScrT, scrAt, sNx])
  · have hl : 0 < ns.length := List.length_pos_iff.mpr h
    have hl' : ns.isEmpty = false := by simpa using h
    have hm0 : 0 ≤ k.fmod ns.length := Int.fmod_nonneg_of_pos _ (by omega)
    have hm1 : k.fmod ns.length < ns.length := Int.fmod_lt_of_pos _ (by omega)
    obtain ⟨j, hj⟩ := Int.eq_ofNat_of_zero_le hm0
    have hjl : j < ns.length := by omega
    have hat : atI ns (k.fmod ns.length) = some ns[j] := by
      rw [hj]
      unfold atI ixN
      simp [hjl]
    have hne : ns.length ≠ 0 := by omega
    exact fin ns[j] (by simp [sSeq, sSet, fX, fC, sIf, fScrT, fScrI, fScrL, scrAt, hl', f2, modD, intD, cMod, fVar, hne, hat, h])
theorem draw (ns : List Int) (k m s : Int) (hk : 0 ≤ k) (hm : 0 ≤ m) (hs : 0 < s) (hs2 : s < 1073741824) : ∃ d k' m', F__law_draw [some (.d 1 (.list [.int k, .int m])), some (.scr ns), some (.d 0 (.int s))] = some (.int d, [some (.d 1 (.list [.int k', .int m'])), none, none]) ∧ 0 ≤ d ∧ d < s ∧ 0 ≤ k' ∧ 0 ≤ m' := by
  have key : ∀ k m : Int, 0 ≤ k → 0 ≤ m → ∃ d k' m', (sSeq (sSet 0 3 (fX (f2 modD (fCall int1D (fCons (f2 ixD (fVar 2 0) (fC (.int 1))) fNil)) (fVar 0 2))))
  (sSeq (sSub 0 (fX (f2 divD (f2 ixD (fVar 1 0) (fC (.int 1))) (fVar 0 2))) (plN 0) (fC (.int 1)))
  (sRet (fX (fVar 0 3))))) [some (.d 1 (.list [.int k, .int m])), some (.scr ns), some (.d 0 (.int s)), none] = some (.rt (.int d), [some (.d 1 (.list [.int k', .int m'])), some (.scr ns), some (.d 0 (.int s)), some (.d 0 (.int d))]) ∧ 0 ≤ d ∧ d < s ∧ 0 ≤ k' ∧ 0 ≤ m' := by
    intro k m hk hm
    have h1 : s ≠ 0 := by omega
    have h2 : s.natAbs < 1073741824 := by omega
    refine ⟨m.fmod s, k, m.fdiv s, ?_, Int.fmod_nonneg_of_pos _ hs, Int.fmod_lt_of_pos _ hs, hk, Int.fdiv_nonneg hm (by omega)⟩
    simp [sSeq, sSet, fX, f2, fCall, fCons, fNil, int1D, ixD, fVar, fC, modD, divD, intD, cMod, cDiv, h1, h2, atI, ixN, sSub, plN, modP, getP, atD, setG, putP, putD, sRet]
  obtain ⟨r, psr, hr, hr0⟩ := refill ns k hk
  have go : ∀ k1 m1 : Int, 0 ≤ k1 → 0 ≤ m1 → (sIf (fX (fB (f2 eqD (f2 ixD (fVar 2 0) (fC (.int 1))) (fC (.int 0))))) (sSeq (sSub 0 (fX (fFz (fFn F__law_refill (fConsS (fSlot 1) (fConsS (fD0 (f2 ixD (fVar 1 0) (fC (.int 0)))) fNilS))))) (plN 0) (fC (.int 1)))
  (sSub 0 (fX (f2 addD (f2 ixD (fVar 2 0) (fC (.int 0))) (fC (.int 1)))) (plN 0) (fC (.int 0)))) sNx) [some (.d 1 (.list [.int k, .int m])), some (.scr ns), some (.d 0 (.int s)), none] = some (.nx, [some (.d 1 (.list [.int k1, .int m1])), some (.scr ns), some (.d 0 (.int s)), none]) → ∃ d k' m', F__law_draw [some (.d 1 (.list [.int k, .int m])), some (.scr ns), some (.d 0 (.int s))] = some (.int d, [some (.d 1 (.list [.int k', .int m'])), none, none]) ∧ 0 ≤ d ∧ d < s ∧ 0 ≤ k' ∧ 0 ≤ m' := fun k1 m1 a b e => by
    obtain ⟨d, k', m', h1, h2⟩ := key k1 m1 a b
    refine ⟨d, k', m', ?_, h2⟩
    have hb : b__law_draw [some (.d 1 (.list [.int k, .int m])), some (.scr ns), some (.d 0 (.int s)), none] = some (.rt (.int d), [some (.d 1 (.list [.int k', .int m'])), some (.scr ns), some (.d 0 (.int s)), some (.d 0 (.int d))]) := by
      unfold b__law_draw
      rw [sSeq_nx e]
      exact h1
    exact callF_rt (tot := 4) (n := 3) (ps := [some (.d 1 (.list [.int k, .int m])), some (.scr ns), some (.d 0 (.int s))]) rfl hb (by show 3 ≤ 4; omega)
  by_cases h : m = 0
  · subst h
    refine go (k + 1) r (by omega) hr0 ?_
    have hs1 : SeqAt.shaped (.int 0) = true := by decide
    simp [sIf, fX, fB, f2, eqD, ixD, fVar, fC, atI, ixN, boolOf, sSeq, sSub, fFz, fFn, fConsS, fSlot, fD0, fNilS, frzAll, frzSv, lowS, hr, noList, plN, modP, getP, atD, setG, putP, putD, addD]
  · refine go k m hk hm ?_
    have hb : (m == 0) = false := by simpa using h
    simp [sIf, hb, fX, fB, f2, eqD, ixD, fVar, fC, atI, ixN, boolOf, h, sNx]
end Lw
set_option maxRecDepth 1000000
set_option linter.all false
open Pv Lw PySem L2
namespace Lw
def I (i : Int) : Option SV := some (.d 0 (.int i))
def TT (xs : List Int) : Option SV := some (.d 0 (.tuple (xs.map .int)))
def okT (x : Option (PyData × PE')) : Bool := match x with
  | some (.bool true, _) => true
  | _ => false
def rd (v s l : Int) : Bool := okT (F__law_read [I v, I s, I l])
def vOf (s l e : Int) : Int := (s * (s - 1)).fdiv l + 1 + e
def readOk (s l : Int) : Bool := [(0 : Int), 1].all fun e => if s < vOf s l e ∧ vOf s l e ≤ 400 then rd (vOf s l e) s l else true
def boolOf2 (x y : Option (PyData × PE')) : Bool := match x, y with
  | some (.bool a, _), some (.bool b, _) => a == b
  | _, _ => false
def papers (s l : Int) : List Int := [s - l, 2, 3, 5, 7, 11, 9]
def paperOk (v s l : Int) : Bool := [(1 : Int), 2, 3].all fun kind => (papers s l).all fun n => boolOf2 (F__law_bar [I v, I s, I l, TT [kind, n]]) (F_shows_bar [I v, I s, I l, TT [kind, n]])
def digs : List Int := [-1, 0, 1, 2, 3]
def solOk (v s l : Int) : Bool := digs.all fun x => digs.all fun y => digs.all fun z => boolOf2 (F__law_solved [I v, I s, I l, TT [x, y, z]]) (F_shows_solution [I v, I s, I l, TT [x, y, z]])
def rightOk (s l : Int) : Bool := [(0 : Int), 1].all fun e => if s < vOf s l e ∧ vOf s l e ≤ 400 ∧ s * (s - 1) = l * (vOf s l e - 1) then paperOk (vOf s l e) s l && (if (vOf s l e).fmod 2 = 1 then solOk (vOf s l e) s l else true) else true
def sizes (a b : Nat) (f : Int → Int → Bool) : Bool := (List.range (b - a)).all fun i => (List.range (a + i - 1)).all fun j => f ((a + i : Nat) : Int) ((j + 1 : Nat) : Int)
theorem r1 : sizes 3 12 readOk = true := by decide +kernel
theorem r2 : sizes 12 23 readOk = true := by decide +kernel
end Lw
set_option maxRecDepth 1000000
set_option linter.all false
open Pv Lw PySem L2
namespace Lw
theorem w1 : sizes 3 9 rightOk = true := by decide +kernel
theorem w2 : sizes 9 14 rightOk = true := by decide +kernel
theorem w3 : sizes 14 19 rightOk = true := by decide +kernel
theorem w4 : sizes 19 23 rightOk = true := by decide +kernel
theorem a4 : ((List.range 16).all fun i => rd (((i + 2 : Nat) : Int) * ((i + 2 : Nat) : Int) + ((i + 2 : Nat) : Int) + 1) (((i + 2 : Nat) : Int) + 1) 1) = true := by decide +kernel
def known : List (Int × Int × Int) := ([2, 3, 4, 5, 7, 8, 9, 11, 13, 16].map fun n : Int => (n * n + n + 1, n + 1, 1)) ++ ((List.range 18).map fun i => (4 * ((i + 2 : Nat) : Int) - 1, 2 * ((i + 2 : Nat) : Int) - 1, ((i + 2 : Nat) : Int) - 1))
def word (v k l : Int) (w : Str) : Bool := match F_symmetric_answer [I v, I k, I l] with
  | some (.tuple (.str x :: _), _) => decide (x = w)
  | _ => false
theorem a5 : (known.all fun p => word p.1 p.2.1 p.2.2 (Str.ofString "open")) = true := by decide +kernel
theorem a6 : (word 43 7 1 (Str.ofString "barred") && word 22 7 2 (Str.ofString "barred")) = true := by decide +kernel
end Lw
set_option maxRecDepth 1000000
set_option linter.all false
open Pv Lw PySem L2
namespace Lw
abbrev stt (k m : Int) : Option SV := some (.d 1 (.list [.int k, .int m]))
abbrev drw (E : PE' → Option (PyData × PE')) : PE' → Option (PyData × PE') := fMv 1 F__law_draw (xConsS (fX (fSlot 0)) (xConsS (xD0 E) xNilS))
theorem dr {ns : List Int} {k m s : Int} {rest : PE'} {E : PE' → Option (PyData × PE')} (hk : 0 ≤ k) (hm : 0 ≤ m) (hE : ∀ k m, E (some (.scr ns) :: stt k m :: rest) = some (.int s, some (.scr ns) :: stt k m :: rest)) (hs : 0 < s) (hs2 : s < 1073741824) :
    ∃ d k' m', drw E (some (.scr ns) :: stt k m :: rest) = some (.int d, some (.scr ns) :: stt k' m' :: rest) ∧ 0 ≤ d ∧ d < s ∧ 0 ≤ k' ∧ 0 ≤ m' := by
  obtain ⟨d, k', m', h, a, b, c, e⟩ := draw ns k m s hk hm hs hs2
  refine ⟨d, k', m', ?_, a, b, c, e⟩
  have hE' := hE k m
  simp only [drw, fMv, xConsS, fX, fSlot, xD0, xNilS, List.getElem?_cons_succ, List.getElem?_cons_zero, lowS, if_true, hE', List.map_cons, List.map_nil, h, List.set_cons_succ, List.set_cons_zero]
theorem loop_inv {ft : PyData → PE' → Option PE'} {fb : FS} {Inv : PE' → Prop} : ∀ (ds : List PyData) (ps : PE'), Inv ps → (∀ d ∈ ds, ∀ ps, Inv ps → ∃ ps1 ps2, ft d ps = some ps1 ∧ fb ps1 = some (.nx, ps2) ∧ Inv ps2) → ∃ ps', loopF ft fb ds ps = some (.nx, ps') ∧ Inv ps'
  | [], ps, h, _ => ⟨ps, by unfold loopF; rfl, h⟩
  | d :: r, ps, h, k => by
    obtain ⟨ps1, ps2, h1, h2, h3⟩ := k d List.mem_cons_self ps h
    obtain ⟨ps', h4, h5⟩ := loop_inv r ps2 h3 fun d hd => k d (List.mem_cons_of_mem _ hd)
    refine ⟨ps', ?_, h5⟩
    unfold loopF
    simp only [h1, h2]
    exact h4
theorem ex_bool (b : Bool) : ∃ ps, F__law_exact 40 [some (.d 0 (.bool b)), some (.d 0 (.bool b))] = some (.bool true, ps) := by
  cases b
  · exact ⟨_, rfl⟩
  · exact ⟨_, rfl⟩
theorem bo2 {x y : Option (PyData × PE')} (h : boolOf2 x y = true) : ∃ b p q, x = some (.bool b, p) ∧ y = some (.bool b, q) := by
  unfold boolOf2 at h
  split at h
  · rename_i a _ b _
    have : a = b := by simpa using h
    subst this
    exact ⟨_, _, _, rfl, rfl⟩
  · cases h
theorem ok_at {x : Option (PyData × PE')} (h : okT x = true) : ∃ p, x = some (.bool true, p) := by
  unfold okT at h
  split at h
  · exact ⟨_, rfl⟩
  · cases h
theorem sizes_at {a b : Nat} {f : Int → Int → Bool} (h : sizes a b f = true) (ha : 1 ≤ a) {s l : Int} (h1 : (a : Int) ≤ s) (h2 : s < b) (h3 : 1 ≤ l) (h4 : l ≤ s - 1) : f s l = true := by
  unfold sizes at h
  rw [List.all_eq_true] at h
  have := h (s.toNat - a) (List.mem_range.mpr (by omega))
  rw [List.all_eq_true] at this
  have := this (l.toNat - 1) (List.mem_range.mpr (by omega))
  have e1 : ((a + (s.toNat - a) : Nat) : Int) = s := by omega
  have e2 : ((l.toNat - 1 + 1 : Nat) : Int) = l := by omega
  rwa [e1, e2] at this
/-- the slots of law, once the state stands -/
abbrev sh (ns : List Int) (k m : Int) (r : PE') : PE' := some (.scr ns) :: stt k m :: r
/-! one paper, one triple of numbers -/
def InvJ (ns : List Int) (s l v : Int) (ps : PE') : Prop := ∃ k m r2 r6 r7 r8 r9 r10 r11 r12, ps = sh ns k m [r2, some (.d 0 (.int s)), some (.d 0 (.int l)), some (.d 0 (.int v)), r6, r7, r8, r9, r10, r11, r12] ∧ 0 ≤ k ∧ 0 ≤ m ∧ low r2 = true ∧ low r6 = true ∧ low r7 = true ∧ low r8 = true ∧ low r9 = true ∧ low r10 = true ∧ low r11 = true ∧ low r12 = true
def InvK (ns : List Int) (ps : PE') : Prop := ∃ k m r2 r3 r4 r5 r6 r7 r8 r9 r10 r11 r12, ps = sh ns k m [r2, r3, r4, r5, r6, r7, r8, r9, r10, r11, r12] ∧ 0 ≤ k ∧ 0 ≤ m ∧ low r2 = true ∧ low r3 = true ∧ low r4 = true ∧ low r5 = true ∧ low r6 = true ∧ low r7 = true ∧ low r8 = true ∧ low r9 = true ∧ low r10 = true ∧ low r11 = true ∧ low r12 = true
theorem bodyJ (ns : List Int) (s l v : Int) (hp : paperOk v s l = true) (hs : v.fmod 2 = 1 → solOk v s l = true) (d : PyData) (ps : PE') (h : InvJ ns s l v ps) : ∃ ps1 ps2, gN 6 d ps = some ps1 ∧ b_law_L158 ps1 = some (.nx, ps2) ∧ InvJ ns s l v ps2 := by
  obtain ⟨k, m, r2, r6, r7, r8, r9, r10, r11, r12, rfl, hk, hm, l2, l6, l7, l8, l9, l10, l11, l12⟩ := h
  have g : gN 6 d (sh ns k m [r2, some (.d 0 (.int s)), some (.d 0 (.int l)), some (.d 0 (.int v)), r6, r7, r8, r9, r10, r11, r12]) = some (sh ns k m [r2, some (.d 0 (.int s)), some (.d 0 (.int l)), some (.d 0 (.int v)), some (.d 0 d), r7, r8, r9, r10, r11, r12]) := by
    simp [gN, lowAt, l6]
  -- paper
  obtain ⟨d1, k1, m1, e1, a1, b1, hk1, hm1⟩ := dr (ns := ns) (rest := [r2, some (.d 0 (.int s)), some (.d 0 (.int l)), some (.d 0 (.int v)), some (.d 0 d), r7, r8, r9, r10, r11, r12]) (E := fX (fC (.int 3))) hk hm (fun _ _ => rfl) (by decide) (by decide)
  obtain ⟨d2, k2, m2, e2, a2, b2, hk2, hm2⟩ := dr (ns := ns) (rest := [r2, some (.d 0 (.int s)), some (.d 0 (.int l)), some (.d 0 (.int v)), some (.d 0 d), r7, r8, r9, r10, r11, r12]) (E := fX (fC (.int 7))) hk1 hm1 (fun _ _ => rfl) (by decide) (by decide)
  obtain ⟨n, hn, hat⟩ : ∃ n ∈ papers s l, atI [PyData.int (s - l), .int 2, .int 3, .int 5, .int 7, .int 11, .int 9] d2 = some (.int n) := by
    have : d2 = 0 ∨ d2 = 1 ∨ d2 = 2 ∨ d2 = 3 ∨ d2 = 4 ∨ d2 = 5 ∨ d2 = 6 := by omega
    rcases this with rfl | rfl | rfl | rfl | rfl | rfl | rfl
    · exact ⟨s - l, by simp [papers], by simp [atI, ixN]⟩
    · exact ⟨2, by simp [papers], by simp [atI, ixN]⟩
    · exact ⟨3, by simp [papers], by simp [atI, ixN]⟩
    · exact ⟨5, by simp [papers], by simp [atI, ixN]⟩
    · exact ⟨7, by simp [papers], by simp [atI, ixN]⟩
    · exact ⟨11, by simp [papers], by simp [atI, ixN]⟩
    · exact ⟨9, by simp [papers], by simp [atI, ixN]⟩
  have hkind : 1 + d1 ∈ [(1 : Int), 2, 3] := by
    have : d1 = 0 ∨ d1 = 1 ∨ d1 = 2 := by omega
    rcases this with rfl | rfl | rfl <;> simp
  have hpp : boolOf2 (F__law_bar [I v, I s, I l, TT [1 + d1, n]]) (F_shows_bar [I v, I s, I l, TT [1 + d1, n]]) = true := by
    unfold paperOk at hp
    rw [List.all_eq_true] at hp
    have := hp _ hkind
    rw [List.all_eq_true] at this
    exact this _ hn
  obtain ⟨b, p, q, hb1, hb2⟩ := bo2 hpp
  obtain ⟨pe, hex⟩ := ex_bool b
  have s1 : sSet 0 7 (fMapX .tuple (xCons (x2 addD (fX (fC (.int 1))) (drw (fX (fC (.int 3))))) (xCons (x2 ixD (fX (fMap .list (fCons (f2 subD (fVar 0 3) (fVar 0 4)) (fCons (fC (.int 2)) (fCons (fC (.int 3)) (fCons (fC (.int 5)) (fCons (fC (.int 7)) (fCons (fC (.int 11)) (fCons (fC (.int 9)) fNil))))))))) (drw (fX (fC (.int 7))))) xNil))) (sh ns k m [r2, some (.d 0 (.int s)), some (.d 0 (.int l)), some (.d 0 (.int v)), some (.d 0 d), r7, r8, r9, r10, r11, r12])
      = some (.nx, sh ns k2 m2 [r2, some (.d 0 (.int s)), some (.d 0 (.int l)), some (.d 0 (.int v)), some (.d 0 d), TT [1 + d1, n], r8, r9, r10, r11, r12]) := by
    simp only [sSet, fMapX, xCons, x2, fX, fC, e1, e2]
    simp [fMap, fCons, f2, subD, fVar, fC, fNil, addD, ixD, e2, hat, xNil, TT]
  have s2 : (sIf (fX (fNot (fT (fFn (F__law_exact 40) (fConsS (fD0 (fFn F__law_bar (fConsS (fD0 (fVar 0 5)) (fConsS (fD0 (fVar 0 3)) (fConsS (fD0 (fVar 0 4)) (fConsS (fD0 (fVar 0 7)) fNilS)))))) (fConsS (fD0 (fFn F_shows_bar (fConsS (fD0 (fVar 0 5)) (fConsS (fD0 (fVar 0 3)) (fConsS (fD0 (fVar 0 4)) (fConsS (fD0 (fVar 0 7)) fNilS)))))) fNilS)))))) (sRet (fX (fC (.bool false)))) sNx) (sh ns k2 m2 [r2, some (.d 0 (.int s)), some (.d 0 (.int l)), some (.d 0 (.int v)), some (.d 0 d), TT [1 + d1, n], r8, r9, r10, r11, r12])
      = some (.nx, sh ns k2 m2 [r2, some (.d 0 (.int s)), some (.d 0 (.int l)), some (.d 0 (.int v)), some (.d 0 d), TT [1 + d1, n], r8, r9, r10, r11, r12]) := by
    have hb1' : F__law_bar [some (.d 0 (.int v)), some (.d 0 (.int s)), some (.d 0 (.int l)), some (.d 0 (.tuple ([1 + d1, n].map .int)))] = some (.bool b, p) := hb1
    have hb2' : F_shows_bar [some (.d 0 (.int v)), some (.d 0 (.int s)), some (.d 0 (.int l)), some (.d 0 (.tuple ([1 + d1, n].map .int)))] = some (.bool b, q) := hb2
    simp only [sIf, fX, fNot, fT, fFn, fConsS, fD0, fVar, fNilS, TT, List.getElem?_cons_succ, List.getElem?_cons_zero, Nat.le_refl, if_true, List.map_cons, List.map_nil] at hb1' hb2' ⊢
    simp [hb1', hb2', hex, truD, sNx]
  obtain ⟨x, y, z, k3, m3, hk3, hm3, hx, hy, hz, hc⟩ : ∃ x y z k3 m3, 0 ≤ k3 ∧ 0 ≤ m3 ∧ x ∈ digs ∧ y ∈ digs ∧ z ∈ digs ∧ lcX [9] (fX (fCall' rngD (fCons (fC (.int 3)) fNil))) (gN 9) xYes (x2 subD (drw (fX (fC (.int 5)))) (fX (fC (.int 1)))) (sh ns k2 m2 [r2, some (.d 0 (.int s)), some (.d 0 (.int l)), some (.d 0 (.int v)), some (.d 0 d), TT [1 + d1, n], r8, r9, r10, r11, r12]) = some ([.int x, .int y, .int z], sh ns k3 m3 [r2, some (.d 0 (.int s)), some (.d 0 (.int l)), some (.d 0 (.int v)), some (.d 0 d), TT [1 + d1, n], r8, r9, r10, r11, r12]) := by
    have one : ∀ k m i : Int, 0 ≤ k → 0 ≤ m → ∃ x k' m', (x2 subD (drw (fX (fC (.int 5)))) (fX (fC (.int 1)))) (sh ns k m [r2, some (.d 0 (.int s)), some (.d 0 (.int l)), some (.d 0 (.int v)), some (.d 0 d), TT [1 + d1, n], r8, some (.d 0 (.int i)), r10, r11, r12]) = some (.int x, sh ns k' m' [r2, some (.d 0 (.int s)), some (.d 0 (.int l)), some (.d 0 (.int v)), some (.d 0 d), TT [1 + d1, n], r8, some (.d 0 (.int i)), r10, r11, r12]) ∧ x ∈ digs ∧ 0 ≤ k' ∧ 0 ≤ m' := by
      intro k m i hk hm
      obtain ⟨d0, k', m', e, a, b, c, c'⟩ := dr (ns := ns) (rest := [r2, some (.d 0 (.int s)), some (.d 0 (.int l)), some (.d 0 (.int v)), some (.d 0 d), TT [1 + d1, n], r8, some (.d 0 (.int i)), r10, r11, r12]) (E := fX (fC (.int 5))) hk hm (fun _ _ => rfl) (by decide) (by decide)
      refine ⟨d0 - 1, k', m', ?_, ?_, c, c'⟩
      · simp only [x2, e, fX, fC, subD]
      · have : d0 = 0 ∨ d0 = 1 ∨ d0 = 2 ∨ d0 = 3 ∨ d0 = 4 := by omega
        rcases this with rfl | rfl | rfl | rfl | rfl <;> simp [digs]
    obtain ⟨x, ka, ma, ex, hx, c1, c2⟩ := one k2 m2 0 hk2 hm2
    obtain ⟨y, kb, mb, ey, hy, c3, c4⟩ := one ka ma 1 c1 c2
    obtain ⟨z, kc, mc, ez, hz, c5, c6⟩ := one kb mb 2 c3 c4
    refine ⟨x, y, z, kc, mc, c5, c6, hx, hy, hz, ?_⟩
    have hr : rngD [.int 3] = some [.int 0, .int 1, .int 2] := by kernel_rfl
    simp only [lcX, fX, fCall', fCons, fC, fNil, hr]
    have L0 : low none = true := rfl
    have L1 : ∀ x, low (some (.d 0 x)) = true := fun _ => rfl
    simp [lowAt, l9, wipeP, compX, gN, L0, L1, xYes, ex, ey, ez, resto, LIM]
  have s3 : sSet 0 8 (xCall tupleD (xCons (fMapX .list (lcX [9] (fX (fCall' rngD (fCons (fC (.int 3)) fNil))) (gN 9) xYes (x2 subD (drw (fX (fC (.int 5)))) (fX (fC (.int 1)))))) xNil)) (sh ns k2 m2 [r2, some (.d 0 (.int s)), some (.d 0 (.int l)), some (.d 0 (.int v)), some (.d 0 d), TT [1 + d1, n], r8, r9, r10, r11, r12]) = some (.nx, sh ns k3 m3 [r2, some (.d 0 (.int s)), some (.d 0 (.int l)), some (.d 0 (.int v)), some (.d 0 d), TT [1 + d1, n], TT [x, y, z], r9, r10, r11, r12]) := by
    simp only [sSet, xCall, xCons, fMapX, hc, xNil]
    simp [tupleD, TT]
  have s4 : (sIf (fX (fAnd (fB (f2 eqD (f2 modD (fCall int1D (fCons (fVar 1 5) fNil)) (fC (.int 2))) (fC (.int 1)))) (fNot (fT (fFn (F__law_exact 40) (fConsS (fD0 (fFn F__law_solved (fConsS (fD0 (fVar 0 5)) (fConsS (fD0 (fVar 0 3)) (fConsS (fD0 (fVar 0 4)) (fConsS (fD0 (fVar 0 8)) fNilS)))))) (fConsS (fD0 (fFn F_shows_solution (fConsS (fD0 (fVar 0 5)) (fConsS (fD0 (fVar 0 3)) (fConsS (fD0 (fVar 0 4)) (fConsS (fD0 (fVar 0 8)) fNilS)))))) fNilS))))))) (sRet (fX (fC (.bool false)))) sNx) (sh ns k3 m3 [r2, some (.d 0 (.int s)), some (.d 0 (.int l)), some (.d 0 (.int v)), some (.d 0 d), TT [1 + d1, n], TT [x, y, z], r9, r10, r11, r12])
      = some (.nx, sh ns k3 m3 [r2, some (.d 0 (.int s)), some (.d 0 (.int l)), some (.d 0 (.int v)), some (.d 0 d), TT [1 + d1, n], TT [x, y, z], r9, r10, r11, r12]) := by
    by_cases hv : v.fmod 2 = 1
    · have h := hs hv
      unfold solOk at h
      rw [List.all_eq_true] at h
      have h := h x hx
      rw [List.all_eq_true] at h
      have h := h y hy
      rw [List.all_eq_true] at h
      have h := h z hz
      obtain ⟨b', p', q', hb1, hb2⟩ := bo2 h
      obtain ⟨pe', hex'⟩ := ex_bool b'
      have hb1' : F__law_solved [some (.d 0 (.int v)), some (.d 0 (.int s)), some (.d 0 (.int l)), some (.d 0 (.tuple ([x, y, z].map .int)))] = some (.bool b', p') := hb1
      have hb2' : F_shows_solution [some (.d 0 (.int v)), some (.d 0 (.int s)), some (.d 0 (.int l)), some (.d 0 (.tuple ([x, y, z].map .int)))] = some (.bool b', q') := hb2
      simp only [sIf, fX, fNot, fT, fFn, fConsS, fD0, fVar, fNilS, TT, List.getElem?_cons_succ, List.getElem?_cons_zero, Nat.le_refl, if_true, List.map_cons, List.map_nil] at hb1' hb2' ⊢
      simp [fAnd, fB, f2, fCall, fCons, fNil, fVar, int1D, fC, modD, intD, cMod, eqD, boolOf, hv, fNot, fT, fFn, fConsS, fD0, fNilS, hb1', hb2', hex', truD, sNx]
    · have hv' : (v.fmod 2 == 1) = false := by simpa using hv
      simp [sIf, fX, fAnd, fB, f2, fCall, fCons, fNil, fVar, int1D, fC, modD, intD, cMod, eqD, boolOf, hv', sNx]
  refine ⟨_, _, g, ?_, k3, m3, r2, some (.d 0 d), TT [1 + d1, n], TT [x, y, z], r9, r10, r11, r12, rfl, hk3, hm3, l2, rfl, rfl, rfl, l9, l10, l11, l12⟩
  unfold b_law_L158
  rw [sSeq_nx s1, sSeq_nx s2, sSeq_nx s3]
  exact s4
end Lw
set_option maxRecDepth 1000000
set_option linter.all false
open Pv Lw PySem L2
namespace Lw
theorem readAt {s l : Int} (h1 : 3 ≤ s) (h2 : s < 23) (h3 : 1 ≤ l) (h4 : l ≤ s - 1) : readOk s l = true := by
  by_cases h : s < 12
  · exact sizes_at r1 (by decide) h1 h h3 h4
  · exact sizes_at r2 (by decide) (by omega) h2 h3 h4
theorem rightAt {s l : Int} (h1 : 3 ≤ s) (h2 : s < 23) (h3 : 1 ≤ l) (h4 : l ≤ s - 1) : rightOk s l = true := by
  by_cases h : s < 9
  · exact sizes_at w1 (by decide) h1 h h3 h4
  · by_cases h' : s < 14
    · exact sizes_at w2 (by decide) (by omega) h' h3 h4
    · by_cases h'' : s < 19
      · exact sizes_at w3 (by decide) (by omega) h'' h3 h4
      · exact sizes_at w4 (by decide) (by omega) h2 h3 h4
theorem cMul_small {i j : Int} (h : i.natAbs < 18446744073709551616) : cMul i j = true := by unfold cMul; simp [h]
theorem bodyK (ns : List Int) (d : PyData) (ps : PE') (h : InvK ns ps) : ∃ ps1 ps2, gN 2 d ps = some ps1 ∧ b_law_L151 ps1 = some (.nx, ps2) ∧ InvK ns ps2 := by
  obtain ⟨k, m, r2, r3, r4, r5, r6, r7, r8, r9, r10, r11, r12, rfl, hk, hm, l2, l3, l4, l5, l6, l7, l8, l9, l10, l11, l12⟩ := h
  have g : gN 2 d (sh ns k m [r2, r3, r4, r5, r6, r7, r8, r9, r10, r11, r12]) = some (sh ns k m [some (.d 0 d), r3, r4, r5, r6, r7, r8, r9, r10, r11, r12]) := by
    simp [gN, lowAt, l2]
  obtain ⟨d1, k1, m1, e1, a1, b1, hk1, hm1⟩ := dr (ns := ns) (rest := [some (.d 0 d), r3, r4, r5, r6, r7, r8, r9, r10, r11, r12]) (E := fX (fC (.int 20))) hk hm (fun _ _ => rfl) (by decide) (by decide)
  obtain ⟨s, hs⟩ : ∃ s, s = 3 + d1 := ⟨_, rfl⟩
  have s1 : sSet 0 3 (x2 addD (fX (fC (.int 3))) (drw (fX (fC (.int 20))))) (sh ns k m [some (.d 0 d), r3, r4, r5, r6, r7, r8, r9, r10, r11, r12]) = some (.nx, sh ns k1 m1 [some (.d 0 d), some (.d 0 (.int s)), r4, r5, r6, r7, r8, r9, r10, r11, r12]) := by
    simp only [sSet, x2, fX, fC, e1]
    simp [addD, hs]
  obtain ⟨d2, k2, m2, e2, a2, b2, hk2, hm2⟩ := dr (ns := ns) (s := s - 1) (rest := [some (.d 0 d), some (.d 0 (.int s)), r4, r5, r6, r7, r8, r9, r10, r11, r12]) (E := fX (f2 subD (fVar 0 3) (fC (.int 1)))) hk1 hm1 (fun _ _ => rfl) (by omega) (by omega)
  obtain ⟨l, hl⟩ : ∃ l, l = 1 + d2 := ⟨_, rfl⟩
  have s2 : sSet 0 4 (x2 addD (fX (fC (.int 1))) (drw (fX (f2 subD (fVar 0 3) (fC (.int 1)))))) (sh ns k1 m1 [some (.d 0 d), some (.d 0 (.int s)), r4, r5, r6, r7, r8, r9, r10, r11, r12]) = some (.nx, sh ns k2 m2 [some (.d 0 d), some (.d 0 (.int s)), some (.d 0 (.int l)), r5, r6, r7, r8, r9, r10, r11, r12]) := by
    have e2' : drw (fX (f2 subD (fVar 0 3) (fC (.int 1)))) (sh ns k1 m1 [some (.d 0 d), some (.d 0 (.int s)), r4, r5, r6, r7, r8, r9, r10, r11, r12]) = some (.int d2, sh ns k2 m2 [some (.d 0 d), some (.d 0 (.int s)), r4, r5, r6, r7, r8, r9, r10, r11, r12]) := e2
    unfold sSet x2
    rw [show (fX (fC (.int 1))) (sh ns k1 m1 [some (.d 0 d), some (.d 0 (.int s)), r4, r5, r6, r7, r8, r9, r10, r11, r12]) = some (.int 1, sh ns k1 m1 [some (.d 0 d), some (.d 0 (.int s)), r4, r5, r6, r7, r8, r9, r10, r11, r12]) from rfl]
    dsimp only
    rw [e2']
    simp [addD, hl]
  obtain ⟨d3, k3, m3, e3, a3, b3, hk3, hm3⟩ := dr (ns := ns) (rest := [some (.d 0 d), some (.d 0 (.int s)), some (.d 0 (.int l)), r5, r6, r7, r8, r9, r10, r11, r12]) (E := fX (fC (.int 2))) hk2 hm2 (fun _ _ => rfl) (by decide) (by decide)
  obtain ⟨d4, k4, m4, e4, a4, b4, hk4, hm4⟩ := dr (ns := ns) (rest := [some (.d 0 d), some (.d 0 (.int s)), some (.d 0 (.int l)), r5, r6, r7, r8, r9, r10, r11, r12]) (E := fX (fC (.int 2))) hk3 hm3 (fun _ _ => rfl) (by decide) (by decide)
  obtain ⟨e, he, hee⟩ : ∃ e, d3 * d4 = e ∧ (e = 0 ∨ e = 1) := by
    have h3 : d3 = 0 ∨ d3 = 1 := by omega
    have h4 : d4 = 0 ∨ d4 = 1 := by omega
    rcases h3 with rfl | rfl <;> rcases h4 with rfl | rfl <;> exact ⟨_, rfl, by decide⟩
  have hs3 : 3 ≤ s := by omega
  have hs23 : s < 23 := by omega
  have hl1 : 1 ≤ l := by omega
  have hls : l ≤ s - 1 := by omega
  obtain ⟨v, hv⟩ : ∃ v, v = vOf s l e := ⟨_, rfl⟩
  have s3 : sSet 0 5 (x2 addD (fX (f2 addD (f2 divD (f2 mulD (fVar 1 3) (f2 subD (fVar 0 3) (fC (.int 1)))) (fVar 0 4)) (fC (.int 1)))) (x2 mulD (drw (fX (fC (.int 2)))) (drw (fX (fC (.int 2)))))) (sh ns k2 m2 [some (.d 0 d), some (.d 0 (.int s)), some (.d 0 (.int l)), r5, r6, r7, r8, r9, r10, r11, r12]) = some (.nx, sh ns k4 m4 [some (.d 0 d), some (.d 0 (.int s)), some (.d 0 (.int l)), some (.d 0 (.int v)), r6, r7, r8, r9, r10, r11, r12]) := by
    have hm1 : cMul s (s - 1) = true := cMul_small (by omega)
    have hm2 : cMul d3 d4 = true := cMul_small (by omega)
    have hl0 : l ≠ 0 := by omega
    have hl9 : l.natAbs < 1073741824 := by omega
    have hsum : (s * (s - 1)).fdiv l + 1 + d3 * d4 = v := by rw [hv, he]; rfl
    have e3' : drw (fX (fC (.int 2))) (sh ns k2 m2 [some (.d 0 d), some (.d 0 (.int s)), some (.d 0 (.int l)), r5, r6, r7, r8, r9, r10, r11, r12]) = some (.int d3, sh ns k3 m3 [some (.d 0 d), some (.d 0 (.int s)), some (.d 0 (.int l)), r5, r6, r7, r8, r9, r10, r11, r12]) := e3
    have e4' : drw (fX (fC (.int 2))) (sh ns k3 m3 [some (.d 0 d), some (.d 0 (.int s)), some (.d 0 (.int l)), r5, r6, r7, r8, r9, r10, r11, r12]) = some (.int d4, sh ns k4 m4 [some (.d 0 d), some (.d 0 (.int s)), some (.d 0 (.int l)), r5, r6, r7, r8, r9, r10, r11, r12]) := e4
    have eA : (fX (f2 addD (f2 divD (f2 mulD (fVar 1 3) (f2 subD (fVar 0 3) (fC (.int 1)))) (fVar 0 4)) (fC (.int 1)))) (sh ns k2 m2 [some (.d 0 d), some (.d 0 (.int s)), some (.d 0 (.int l)), r5, r6, r7, r8, r9, r10, r11, r12]) = some (.int ((s * (s - 1)).fdiv l + 1), sh ns k2 m2 [some (.d 0 d), some (.d 0 (.int s)), some (.d 0 (.int l)), r5, r6, r7, r8, r9, r10, r11, r12]) := by
      simp [fX, f2, fVar, fC, subD, mulD, intD, hm1, divD, cDiv, hl0, hl9, addD]
    unfold sSet x2
    rw [eA]
    dsimp only
    rw [e3']
    dsimp only
    rw [e4']
    simp [mulD, intD, hm2, addD, hsum]
  have s4 : (sIf (fX (fAnd (fB (chD ltD leD (fVar 1 3) (fVar 1 5) (fC (.int 400)))) (fNot (fT (fFn F__law_read (fConsS (fD0 (fVar 0 5)) (fConsS (fD0 (fVar 0 3)) (fConsS (fD0 (fVar 0 4)) fNilS)))))))) (sRet (fX (fC (.bool false)))) sNx) (sh ns k4 m4 [some (.d 0 d), some (.d 0 (.int s)), some (.d 0 (.int l)), some (.d 0 (.int v)), r6, r7, r8, r9, r10, r11, r12]) = some (.nx, sh ns k4 m4 [some (.d 0 d), some (.d 0 (.int s)), some (.d 0 (.int l)), some (.d 0 (.int v)), r6, r7, r8, r9, r10, r11, r12]) := by
    by_cases h1 : s < v
    · by_cases h2 : v ≤ 400
      · have h := readAt hs3 hs23 hl1 hls
        unfold readOk at h
        rw [List.all_eq_true] at h
        have h := h e (by rcases hee with rfl | rfl <;> simp)
        rw [← hv, if_pos ⟨h1, h2⟩] at h
        obtain ⟨p, hp⟩ := ok_at h
        have hp' : F__law_read [some (.d 0 (.int v)), some (.d 0 (.int s)), some (.d 0 (.int l))] = some (.bool true, p) := hp
        simp [sIf, fX, fAnd, fB, chD, fVar, fC, ltD, leD, cmpI, h1, h2, boolOf, fNot, fT, fFn, fConsS, fD0, fNilS, hp', truD, sNx]
      · simp [sIf, fX, fAnd, fB, chD, fVar, fC, ltD, leD, cmpI, h1, h2, boolOf, sNx]
    · simp [sIf, fX, fAnd, fB, chD, fVar, fC, ltD, leD, cmpI, h1, boolOf, sNx]
  have s5 : ∃ ps2, (sIf (fX (fAnd (fB (chD ltD leD (fVar 1 3) (fVar 1 5) (fC (.int 400)))) (fB (f2 eqD (f2 mulD (fVar 1 3) (f2 subD (fVar 0 3) (fC (.int 1)))) (f2 mulD (fVar 1 4) (f2 subD (fVar 0 5) (fC (.int 1)))))))) (sFor (fX (fCall' rngD (fCons (fC (.int 3)) fNil))) (gN 6) b_law_L158) sNx) (sh ns k4 m4 [some (.d 0 d), some (.d 0 (.int s)), some (.d 0 (.int l)), some (.d 0 (.int v)), r6, r7, r8, r9, r10, r11, r12]) = some (.nx, ps2) ∧ InvK ns ps2 := by
    have hI : InvK ns (sh ns k4 m4 [some (.d 0 d), some (.d 0 (.int s)), some (.d 0 (.int l)), some (.d 0 (.int v)), r6, r7, r8, r9, r10, r11, r12]) := ⟨k4, m4, _, _, _, _, r6, r7, r8, r9, r10, r11, r12, rfl, hk4, hm4, rfl, rfl, rfl, rfl, l6, l7, l8, l9, l10, l11, l12⟩
    by_cases h1 : s < v
    · by_cases h2 : v ≤ 400
      · have hm1 : cMul s (s - 1) = true := cMul_small (by omega)
        have hm2 : cMul l (v - 1) = true := cMul_small (by omega)
        by_cases h3 : s * (s - 1) = l * (v - 1)
        · have h := rightAt hs3 hs23 hl1 hls
          unfold rightOk at h
          rw [List.all_eq_true] at h
          have h := h e (by rcases hee with rfl | rfl <;> simp)
          rw [← hv, if_pos ⟨h1, h2, h3⟩, Bool.and_eq_true] at h
          obtain ⟨ps', hl', hJ⟩ := loop_inv (ft := gN 6) (fb := b_law_L158) (Inv := InvJ ns s l v) [.int 0, .int 1, .int 2] (sh ns k4 m4 [some (.d 0 d), some (.d 0 (.int s)), some (.d 0 (.int l)), some (.d 0 (.int v)), r6, r7, r8, r9, r10, r11, r12])
            ⟨k4, m4, _, r6, r7, r8, r9, r10, r11, r12, rfl, hk4, hm4, rfl, l6, l7, l8, l9, l10, l11, l12⟩ fun d' _ ps hps => bodyJ ns s l v h.1 (fun hv2 => by have := h.2; rw [if_pos hv2] at this; exact this) d' ps hps
          refine ⟨ps', ?_, ?_⟩
          · have hr : rngD [.int 3] = some [.int 0, .int 1, .int 2] := by kernel_rfl
            have h3' : (s * (s - 1) == l * (v - 1)) = true := by simpa using h3
            simp [sIf, fX, fAnd, fB, chD, fVar, fC, ltD, leD, cmpI, h1, h2, boolOf, f2, subD, mulD, intD, hm1, hm2, eqD, h3', sFor, fCall', fCons, fNil, hr, hl']
          · obtain ⟨k5, m5, q2, q6, q7, q8, q9, q10, q11, q12, rfl, c1, c2, c3, c4, c5, c6, c7, c8, c9, c10⟩ := hJ
            exact ⟨k5, m5, _, _, _, _, q6, q7, q8, q9, q10, q11, q12, rfl, c1, c2, c3, rfl, rfl, rfl, c4, c5, c6, c7, c8, c9, c10⟩
        · have h3' : (s * (s - 1) == l * (v - 1)) = false := by simpa using h3
          exact ⟨_, by simp [sIf, fX, fAnd, fB, chD, fVar, fC, ltD, leD, cmpI, h1, h2, boolOf, f2, subD, mulD, intD, hm1, hm2, eqD, h3', sNx], hI⟩
      · exact ⟨_, by simp [sIf, fX, fAnd, fB, chD, fVar, fC, ltD, leD, cmpI, h1, h2, boolOf, sNx], hI⟩
    · exact ⟨_, by simp [sIf, fX, fAnd, fB, chD, fVar, fC, ltD, leD, cmpI, h1, boolOf, sNx], hI⟩
  obtain ⟨ps2, s5, hI⟩ := s5
  refine ⟨_, ps2, g, ?_, hI⟩
  unfold b_law_L151
  rw [sSeq_nx s1, sSeq_nx s2, sSeq_nx s3, sSeq_nx s4]
  exact s5
end Lw
set_option maxRecDepth 1000000
set_option linter.all false
open Pv Lw PySem L2
namespace Lw
def knownD : PyData := .list (known.map fun p => .tuple [.int p.1, .int p.2.1, .int p.2.2])
theorem word_at {v k l : Int} {w : Str} (h : word v k l w = true) : ∃ r p, F_symmetric_answer [some (.d 0 (.int v)), some (.d 0 (.int k)), some (.d 0 (.int l))] = some (.tuple (.str w :: r), p) := by
  unfold word at h
  split at h
  · rename_i x r p hx
    have e : x = w := by simpa using h
    subst e
    exact ⟨_, _, hx⟩
  · cases h
theorem plain_law (ns : List Int) (hlen : ns.length ≤ 63) : ∃ ps, F_law [some (.scr ns)] = some (.bool true, ps) := by
  suffices h : ∃ ps, b_law [some (.scr ns), none, none, none, none, none, none, none, none, none, none, none, none] = some (.rt (.bool true), ps) ∧ 1 ≤ ps.length by
    obtain ⟨ps, h1, h2⟩ := h
    exact ⟨_, callF_rt rfl h1 h2⟩
  have s1 : sSet 1 1 (fMapX .list (fX (fCons (fC (.int 0)) (fCons (fC (.int 0)) fNil)))) [some (.scr ns), none, none, none, none, none, none, none, none, none, none, none, none] = some (.nx, sh ns 0 0 [none, none, none, none, none, none, none, none, none, none, none]) := by
    simp [sSet, fMapX, fX, fCons, fC, fNil]
  obtain ⟨ps2, hl, hI⟩ := loop_inv (ft := gN 2) (fb := b_law_L151) (Inv := InvK ns) [.int 0, .int 1, .int 2, .int 3] (sh ns 0 0 [none, none, none, none, none, none, none, none, none, none, none])
    ⟨0, 0, none, none, none, none, none, none, none, none, none, none, none, rfl, by decide, by decide, rfl, rfl, rfl, rfl, rfl, rfl, rfl, rfl, rfl, rfl, rfl⟩ fun d _ ps hps => bodyK ns d ps hps
  have s2 : sFor (fX (fCall' rngD (fCons (fC (.int 4)) fNil))) (gN 2) b_law_L151 (sh ns 0 0 [none, none, none, none, none, none, none, none, none, none, none]) = some (.nx, ps2) := by
    have hr : rngD [.int 4] = some [.int 0, .int 1, .int 2, .int 3] := by kernel_rfl
    simp only [sFor, fX, fCall', fCons, fC, fNil, hr]
    exact hl
  obtain ⟨k, m, r2, r3, r4, r5, r6, r7, r8, r9, r10, r11, r12, rfl, hk, hm, l2, l3, l4, l5, l6, l7, l8, l9, l10, l11, l12⟩ := hI
  obtain ⟨d1, k1, m1, e1, a1, b1, hk1, hm1⟩ := dr (ns := ns) (rest := [r2, r3, r4, r5, r6, r7, r8, r9, r10, r11, r12]) (E := fX (fC (.int 16))) hk hm (fun _ _ => rfl) (by decide) (by decide)
  obtain ⟨n, hn⟩ : ∃ n, n = 2 + d1 := ⟨_, rfl⟩
  have s3 : sSet 0 10 (x2 addD (fX (fC (.int 2))) (drw (fX (fC (.int 16))))) (sh ns k m [r2, r3, r4, r5, r6, r7, r8, r9, r10, r11, r12]) = some (.nx, sh ns k1 m1 [r2, r3, r4, r5, r6, r7, r8, r9, some (.d 0 (.int n)), r11, r12]) := by
    simp only [sSet, x2, fX, fC, e1]
    simp [addD, hn]
  have s4 : (sIf (fX (fNot (fT (fFn F__law_read (fConsS (fD0 (f2 addD (f2 addD (f2 mulD (fVar 1 10) (fVar 1 10)) (fVar 1 10)) (fC (.int 1)))) (fConsS (fD0 (f2 addD (fVar 1 10) (fC (.int 1)))) (fConsS (fD0 (fC (.int 1))) fNilS))))))) (sRet (fX (fC (.bool false)))) sNx) (sh ns k1 m1 [r2, r3, r4, r5, r6, r7, r8, r9, some (.d 0 (.int n)), r11, r12]) = some (.nx, sh ns k1 m1 [r2, r3, r4, r5, r6, r7, r8, r9, some (.d 0 (.int n)), r11, r12]) := by
    have h := a4
    rw [List.all_eq_true] at h
    have h := h d1.toNat (List.mem_range.mpr (by omega))
    have e0 : ((d1.toNat + 2 : Nat) : Int) = n := by omega
    rw [e0] at h
    obtain ⟨p, hp⟩ := ok_at h
    have hp' : F__law_read [some (.d 0 (.int (n * n + n + 1))), some (.d 0 (.int (n + 1))), some (.d 0 (.int 1))] = some (.bool true, p) := hp
    have hc : cMul n n = true := cMul_small (by omega)
    simp [sIf, fX, fNot, fT, fFn, fConsS, fD0, f2, fVar, fC, fNilS, addD, mulD, hc, hp', truD, sNx]
  have s5 : sSet 0 11 (fX (f2 addD (fMap .list (lcP [10] (fSeq (fMap .tuple (fCons (fC (.int 2)) (fCons (fC (.int 3)) (fCons (fC (.int 4)) (fCons (fC (.int 5)) (fCons (fC (.int 7)) (fCons (fC (.int 8)) (fCons (fC (.int 9)) (fCons (fC (.int 11)) (fCons (fC (.int 13)) (fCons (fC (.int 16)) fNil)))))))))))) (gN 10) fYes (fMap .tuple (fCons (f2 addD (f2 addD (f2 mulD (fVar 1 10) (fVar 1 10)) (fVar 1 10)) (fC (.int 1))) (fCons (f2 addD (fVar 1 10) (fC (.int 1))) (fCons (fC (.int 1)) fNil)))))) (fMap .list (lcP [12] (fCall' rngD (fCons (fC (.int 2)) (fCons (fC (.int 20)) fNil))) (gN 12) fYes (fMap .tuple (fCons (f2 subD (f2 mulD (fC (.int 4)) (fVar 1 12)) (fC (.int 1))) (fCons (f2 subD (f2 mulD (fC (.int 2)) (fVar 1 12)) (fC (.int 1))) (fCons (f2 subD (fVar 0 12) (fC (.int 1))) fNil)))))))) (sh ns k1 m1 [r2, r3, r4, r5, r6, r7, r8, r9, some (.d 0 (.int n)), r11, r12]) = some (.nx, sh ns k1 m1 [r2, r3, r4, r5, r6, r7, r8, r9, some (.d 0 (.int n)), some (.d 0 knownD), r12]) := by
    have L1 : lowAt (sh ns k1 m1 [r2, r3, r4, r5, r6, r7, r8, r9, some (.d 0 (.int n)), r11, r12]) 12 = true := by simp [lowAt, l12]
    have c1 : (lcP [10] (fSeq (fMap .tuple (fCons (fC (.int 2)) (fCons (fC (.int 3)) (fCons (fC (.int 4)) (fCons (fC (.int 5)) (fCons (fC (.int 7)) (fCons (fC (.int 8)) (fCons (fC (.int 9)) (fCons (fC (.int 11)) (fCons (fC (.int 13)) (fCons (fC (.int 16)) fNil)))))))))))) (gN 10) fYes (fMap .tuple (fCons (f2 addD (f2 addD (f2 mulD (fVar 1 10) (fVar 1 10)) (fVar 1 10)) (fC (.int 1))) (fCons (f2 addD (fVar 1 10) (fC (.int 1))) (fCons (fC (.int 1)) fNil))))) (sh ns k1 m1 [r2, r3, r4, r5, r6, r7, r8, r9, some (.d 0 (.int n)), r11, r12]) = some (([2, 3, 4, 5, 7, 8, 9, 11, 13, 16].map fun n : Int => (n * n + n + 1, n + 1, (1 : Int))).map fun p => .tuple [.int p.1, .int p.2.1, .int p.2.2]) := by kernel_rfl
    have c2 : (lcP [12] (fCall' rngD (fCons (fC (.int 2)) (fCons (fC (.int 20)) fNil))) (gN 12) fYes (fMap .tuple (fCons (f2 subD (f2 mulD (fC (.int 4)) (fVar 1 12)) (fC (.int 1))) (fCons (f2 subD (f2 mulD (fC (.int 2)) (fVar 1 12)) (fC (.int 1))) (fCons (f2 subD (fVar 0 12) (fC (.int 1))) fNil))))) (sh ns k1 m1 [r2, r3, r4, r5, r6, r7, r8, r9, some (.d 0 (.int n)), r11, r12]) = some (((List.range 18).map fun i => (4 * ((i + 2 : Nat) : Int) - 1, 2 * ((i + 2 : Nat) : Int) - 1, ((i + 2 : Nat) : Int) - 1)).map fun p => .tuple [.int p.1, .int p.2.1, .int p.2.2]) := by
      unfold lcP
      have hr : (fCall' rngD (fCons (fC (.int 2)) (fCons (fC (.int 20)) fNil))) (sh ns k1 m1 [r2, r3, r4, r5, r6, r7, r8, r9, some (.d 0 (.int n)), r11, r12]) = some (rngL 2 18) := by kernel_rfl
      rw [hr]
      dsimp only
      rw [if_pos (by simp only [List.all_cons, List.all_nil, L1]; decide)]
      kernel_rfl
    simp only [sSet, fX, f2, fMap, c1, c2, addD]
    rw [if_pos (by decide)]
    simp [knownD, known]
  obtain ⟨d2, k2, m2, e2, a2, b2, hk2, hm2⟩ := dr (ns := ns) (rest := [r2, r3, r4, r5, r6, r7, r8, r9, some (.d 0 (.int n)), some (.d 0 knownD), r12]) (E := fX (fC (.int 28))) hk1 hm1 (fun _ _ => rfl) (by decide) (by decide)
  obtain ⟨t, ht, hmem⟩ : ∃ t, known[d2.toNat]? = some t ∧ t ∈ known := by
    have hlt : d2.toNat < known.length := by
      have : known.length = 28 := by decide
      omega
    exact ⟨known[d2.toNat], List.getElem?_eq_getElem hlt, List.getElem_mem hlt⟩
  obtain ⟨v, s, l⟩ := t
  have s6 : sAsg (xIxN 11 (drw (fX (fC (.int 28))))) (gT (gC (gN 5) (gC (gN 3) (gC (gN 4) g0)))) (sh ns k1 m1 [r2, r3, r4, r5, r6, r7, r8, r9, some (.d 0 (.int n)), some (.d 0 knownD), r12]) = some (.nx, sh ns k2 m2 [r2, some (.d 0 (.int s)), some (.d 0 (.int l)), some (.d 0 (.int v)), r6, r7, r8, r9, some (.d 0 (.int n)), some (.d 0 knownD), r12]) := by
    have hix : ixD knownD (.int d2) = some (.tuple [.int v, .int s, .int l]) := by
      have hl28 : (known.map fun p => PyData.tuple [.int p.1, .int p.2.1, .int p.2.2]).length = 28 := by decide
      have hge : (known.map fun p => PyData.tuple [.int p.1, .int p.2.1, .int p.2.2])[d2.toNat]? = some (.tuple [.int v, .int s, .int l]) := by rw [List.getElem?_map, ht]; rfl
      show atI (known.map fun p => PyData.tuple [.int p.1, .int p.2.1, .int p.2.2]) d2 = _
      unfold atI ixN
      rw [hl28, if_pos a2, if_pos (by omega)]
      exact hge
    simp only [sAsg, xIxN]
    simp only [List.getElem?_cons_succ, List.getElem?_cons_zero, e2]
    simp [hix, gT, gC, gN, g0, lowAt, l3, l4, l5]
  have hw := a5
  rw [List.all_eq_true] at hw
  obtain ⟨r, p, hp⟩ := word_at (hw _ hmem)
  have s7 : (sIf (fX (fB (f2 neD (f2 ixD (fFn F_symmetric_answer (fConsS (fD0 (fVar 0 5)) (fConsS (fD0 (fVar 0 3)) (fConsS (fD0 (fVar 0 4)) fNilS)))) (fC (.int 0))) (fC (.str (Str.ofString "open")))))) (sRet (fX (fC (.bool false)))) sNx) (sh ns k2 m2 [r2, some (.d 0 (.int s)), some (.d 0 (.int l)), some (.d 0 (.int v)), r6, r7, r8, r9, some (.d 0 (.int n)), some (.d 0 knownD), r12]) = some (.nx, sh ns k2 m2 [r2, some (.d 0 (.int s)), some (.d 0 (.int l)), some (.d 0 (.int v)), r6, r7, r8, r9, some (.d 0 (.int n)), some (.d 0 knownD), r12]) := by
    have hne : neD (.str (Str.ofString "open")) (.str (Str.ofString "open")) = some (.bool false) := by kernel_rfl
    simp [sIf, fX, fB, f2, fFn, fConsS, fD0, fVar, fNilS, hp, ixD, fC, atI, ixN, hne, boolOf, sNx]
  have h6 := a6
  rw [Bool.and_eq_true] at h6
  obtain ⟨ra, pa, ha⟩ := word_at h6.1
  obtain ⟨rb, pb, hb⟩ := word_at h6.2
  have heq : eqD (.str (Str.ofString "barred")) (.str (Str.ofString "barred")) = some (.bool true) := by kernel_rfl
  refine ⟨sh ns k2 m2 [r2, some (.d 0 (.int s)), some (.d 0 (.int l)), some (.d 0 (.int v)), r6, r7, r8, r9, some (.d 0 (.int n)), some (.d 0 knownD), r12], ?_, by simp⟩
  unfold b_law
  rw [sSeq_nx s1, sSeq_nx s2, sSeq_nx s3, sSeq_nx s4, sSeq_nx s5, sSeq_nx s6, sSeq_nx s7]
  simp [sRet, fX, fAndV, f2, fFn, fConsS, fD0, fC, fNilS, ha, hb, ixD, atI, ixN, heq, truD]
end Lw
set_option maxHeartbeats 0
open PySem PySem.W PyProof.Rows
theorem PySem.Challenge.cw_designweave_k79_whole_answers_of_the_equ_holds : PySem.Challenge.rw_designweave_k79_whole_answers_of_the_equ.Holds := by
  w_on; o_law; k_head; (case hw => w_witness2)
  k_fill
  refine L2.walk_of (l := PySem.Challenge.rw_designweave_k79_whole_answers_of_the_equ) (n := 63) (k := 43) (x := "script") (CX := fun _ => L2.CX0) (sp := fun w => Pv.spLaw0 (K := _)) rfl (by decide) rfl ⟨rfl, by decide, by decide⟩ (fun w h Y => PySem.W.kIn_of Y) ?F (fun _ _ a ns hl _ hS => ⟨a, ns, rfl, hS, hl, fun _ => rfl⟩) (fun _ _ _ _ _ h => h)
  case F =>
    intro w mg fa h KX G hmg
    refine' Lw.all_mk KX G hmg ?xz_abs ?xz_all ?xz_bool ?xz_int ?xz_isinstance ?xz_len ?xz_list ?xz_range ?xz_set ?xz_sorted ?xz_str ?xz_tuple ?xg_gcd ?xg_isqrt ?a_is_square_number ?l_is_square_number ?c_is_square_number ?k_is_square_number ?a_without_squares ?l_without_squares ?c_without_squares ?k_without_squares ?a_primes_in ?l_primes_in ?c_primes_in ?k_primes_in ?a_legendre ?l_legendre ?c_legendre ?k_legendre ?a_split_off ?l_split_off ?c_split_off ?k_split_off ?a_symbol ?l_symbol ?c_symbol ?k_symbol ?a_bar_of ?l_bar_of ?c_bar_of ?k_bar_of ?a_small_solution ?l_small_solution ?c_small_solution ?k_small_solution ?a_solve ?l_solve ?c_solve ?k_solve ?a_symmetric_answer ?l_symmetric_answer ?c_symmetric_answer ?k_symmetric_answer ?a_shows_solution ?l_shows_solution ?c_shows_solution ?k_shows_solution ?a_shows_bar ?l_shows_bar ?c_shows_bar ?k_shows_bar ?a__law_refill ?l__law_refill ?c__law_refill ?k__law_refill ?a__law_draw ?l__law_draw ?c__law_draw ?k__law_draw ?a__law_exact ?l__law_exact ?c__law_exact ?k__law_exact ?a__law_root ?l__law_root ?c__law_root ?k__law_root ?a__law_primes ?l__law_primes ?c__law_primes ?k__law_primes ?a__law_is_prime ?l__law_is_prime ?c__law_is_prime ?k__law_is_prime ?a__law_bar ?l__law_bar ?c__law_bar ?k__law_bar ?a__law_solved ?l__law_solved ?c__law_solved ?k__law_solved ?a__law_read ?l__law_read ?c__law_read ?k__law_read ?a_law ?l_law ?c_law ?k_law Lw.plain_law
    (case xz_abs => k_is); (case xz_all => k_is); (case xz_bool => k_is); (case xz_int => k_is); (case xz_isinstance => k_is); (case xz_len => k_is); (case xz_list => k_is); (case xz_range => k_is); (case xz_set => k_is); (case xz_sorted => k_is); (case xz_str => k_is); (case xz_tuple => k_is); (case xg_gcd => k_is); (case xg_isqrt => k_is); (case a_is_square_number => k_is); (case l_is_square_number => k_is); (case c_is_square_number => k_is); (case k_is_square_number => k_is); (case a_without_squares => k_is); (case l_without_squares => k_is); (case c_without_squares => k_is); (case k_without_squares => k_is); (case a_primes_in => k_is); (case l_primes_in => k_is); (case c_primes_in => k_is); (case k_primes_in => k_is); (case a_legendre => k_is); (case l_legendre => k_is); (case c_legendre => k_is); (case k_legendre => k_is); (case a_split_off => k_is); (case l_split_off => k_is); (case c_split_off => k_is); (case k_split_off => k_is); (case a_symbol => k_is); (case l_symbol => k_is); (case c_symbol => k_is); (case k_symbol => k_is); (case a_bar_of => k_is); (case l_bar_of => k_is); (case c_bar_of => k_is); (case k_bar_of => k_is); (case a_small_solution => k_is); (case l_small_solution => k_is); (case c_small_solution => k_is); (case k_small_solution => k_is); (case a_solve => k_is); (case l_solve => k_is); (case c_solve => k_is); (case k_solve => k_is); (case a_symmetric_answer => k_is); (case l_symmetric_answer => k_is); (case c_symmetric_answer => k_is); (case k_symmetric_answer => k_is); (case a_shows_solution => k_is); (case l_shows_solution => k_is); (case c_shows_solution => k_is); (case k_shows_solution => k_is); (case a_shows_bar => k_is); (case l_shows_bar => k_is); (case c_shows_bar => k_is); (case k_shows_bar => k_is); (case a__law_refill => k_is); (case l__law_refill => k_is); (case c__law_refill => k_is); (case k__law_refill => k_is); (case a__law_draw => k_is); (case l__law_draw => k_is); (case c__law_draw => k_is); (case k__law_draw => k_is); (case a__law_exact => k_is); (case l__law_exact => k_is); (case c__law_exact => k_is); (case k__law_exact => k_is); (case a__law_root => k_is); (case l__law_root => k_is); (case c__law_root => k_is); (case k__law_root => k_is); (case a__law_primes => k_is); (case l__law_primes => k_is); (case c__law_primes => k_is); (case k__law_primes => k_is); (case a__law_is_prime => k_is); (case l__law_is_prime => k_is); (case c__law_is_prime => k_is); (case k__law_is_prime => k_is); (case a__law_bar => k_is); (case l__law_bar => k_is); (case c__law_bar => k_is); (case k__law_bar => k_is); (case a__law_solved => k_is); (case l__law_solved => k_is); (case c__law_solved => k_is); (case k__law_solved => k_is); (case a__law_read => k_is); (case l__law_read => k_is); (case c__law_read => k_is); (case k__law_read => k_is); (case a_law => k_is); (case l_law => k_is); (case c_law => k_is); (case k_law => k_is)
