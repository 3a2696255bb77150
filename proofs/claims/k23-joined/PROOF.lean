import PyProof.Rows.All
import Wide.All
import OpenK.AllK
import Wide.FinOn
import HandS.ForMost
import HandS.Deep
import HandS.IsInst
import HandS.Star
import HandS.TupAny
import HandS.Zip
import HandS.Conv
import HandS.Wide
import HandS.WideBits
import HandS.TryMany
import HandS.ExcSuper
import HandS.ExcField
import HandS.ExcIs
import HandS.ExcOwn
import HandS.WordsExc
import HandS.DictComp
import HandS.Style
import HandS.Defaults
import HandS.NoneIn
import KE.SortData
import KE.KDictKeyed
import KE.LtData
import HandS.TupSets
import PySem.Challenge.RW_fitssomewhere_k23_whole_what_is_joined
import KE.KExcSuper
import KE.KSuper
import HandS.Exc
import HandS.Flow
set_option Elab.async false
set_option linter.all false

set_option maxRecDepth 100000
set_option maxHeartbeats 1000000
/-! DL, part 1: data in the slots of a def. -/
namespace DL
open PySem L2

/-! ### heaps -/
def Ex (H H' : Hp) : Prop := ∀ a o, H a = some o → H' a = some o
theorem Ex.refl (H : Hp) : Ex H H := fun _ _ h => h
theorem Ex.trans {H H1 H2 : Hp} (a : Ex H H1) (b : Ex H1 H2) : Ex H H2 := fun x o h => b x o (a x o h)
theorem Ex.free {H H' : Hp} (e : Ex H H') {p : Addr} (h : H' p = none) : H p = none := by
  cases q : H p with
  | none => rfl
  | some o => rw [e p o q] at h; cases h
theorem Ex.some {H H' : Hp} (e : Ex H H') {p : Addr} (h : H p ≠ none) : H' p ≠ none := fun z => h (e.free z)
theorem Ex.upd {H : Hp} {p : Addr} {o : HO} (h : H p = none) : Ex H (upd H p o) := fun a u e => by
  rw [upd_ne (ne_of_none e h)]; exact e
/-- from the frozen part G of H on to G' of H': all that stood stands, what is frozen since is new -/
structure Nx (G H G' H' : Hp) : Prop where
  g : Ex G G'
  h : Ex H H'
  s : Ex G' H'
  n : ∀ a, H a ≠ none → G a = none → G' a = none
theorem Nx.refl {G H : Hp} (e : Ex G H) : Nx G H G H := ⟨Ex.refl _, Ex.refl _, e, fun _ _ h => h⟩
theorem Nx.trans {G H G1 H1 G2 H2 : Hp} (a : Nx G H G1 H1) (b : Nx G1 H1 G2 H2) : Nx G H G2 H2 :=
  ⟨a.g.trans b.g, a.h.trans b.h, b.s, fun x h1 h2 => b.n x (a.h.some h1) (a.n x h1 h2)⟩
theorem Nx.new {G H : Hp} {p : Addr} {o : HO} (e : Ex G H) (h : H p = none) : Nx G H (upd G p o) (upd H p o) :=
  ⟨Ex.upd (e.free h), Ex.upd h, fun a u q => by
    by_cases hp : a = p
    · subst hp; rw [upd_same] at q ⊢; exact q
    · rw [upd_ne hp] at q ⊢; exact e a u q, fun a h1 h2 => by
    have hp : a ≠ p := fun z => h1 (z ▸ h)
    rw [upd_ne hp]; exact h2⟩
theorem Nx.priv {G H : Hp} {p : Addr} {o : HO} (e : Ex G H) (h : H p = none) : Nx G H G (upd H p o) :=
  ⟨Ex.refl _, Ex.upd h, fun a u q => by
    have hp : a ≠ p := fun z => by have := e a u q; rw [z, h] at this; cases this
    rw [upd_ne hp]; exact e a u q, fun _ _ h2 => h2⟩
theorem Nx.freeze {G H G' H' : Hp} {p : Addr} {o : HO} (x : Nx G H G' H') (h : H p = none) (g : G' p = none) (q : H' p = some o) : Nx G H (upd G' p o) H' :=
  ⟨x.g.trans (Ex.upd g), x.h, fun a u e => by
    by_cases hp : a = p
    · subst hp; rw [upd_same] at e; rw [q]; exact e
    · rw [upd_ne hp] at e; exact x.s a u e, fun a h1 h2 => by
    have hp : a ≠ p := fun z => h1 (z ▸ h)
    rw [upd_ne hp]; exact x.n a h1 h2⟩

/-! ### data -/
theorem Rd.ex {H H' : Hp} {a : Addr} {u : HO} (e : Ex H H') (h : Rd H a u) : Rd H' a u := by
  rcases h with h | ⟨o, h⟩
  · exact .inl (e a _ h)
  · exact .inr ⟨o, e a _ h⟩
theorem SqL.ex {K : PySem.W.Frag} {H H' : Hp} {a : Addr} {xs : List V} (e : Ex H H') (h : SqL K H a xs) : SqL K H' a xs := by
  rcases h with h | h
  · exact .inl (Rd.ex e h)
  · exact .inr h
theorem SqT.ex {K : PySem.W.Frag} {H H' : Hp} {a : Addr} {xs : List V} (e : Ex H H') (h : SqT K H a xs) : SqT K H' a xs := by
  rcases h with h | h
  · exact .inl (Rd.ex e h)
  · exact .inr h
section
variable {K : PySem.W.Frag}
mutual
theorem dp_ex {H H' : Hp} (e : Ex H H') : ∀ {v : V} {d : PyData}, Dp K H v d → Dp K H' v d
  | _, _, .non => .non
  | _, _, .bl b => .bl b
  | _, _, .int i => .int i
  | _, _, .str x => .str x
  | _, _, .lst h t => .lst (SqL.ex e h) (dpa_ex e t)
  | _, _, .tup h t => .tup (SqT.ex e h) (dpa_ex e t)
theorem dpa_ex {H H' : Hp} (e : Ex H H') : ∀ {vs : List V} {ds : List PyData}, DpAll K H vs ds → DpAll K H' vs ds
  | _, _, .nil => .nil
  | _, _, .cons h t => .cons (dp_ex e h) (dpa_ex e t)
end
theorem dpa_len {H : Hp} : ∀ {vs : List V} {ds : List PyData}, DpAll K H vs ds → vs.length = ds.length
  | _, _, .nil => rfl
  | _, _, .cons _ t => congrArg (· + 1) (dpa_len t)
theorem dpa_get {H : Hp} : ∀ {vs : List V} {ds : List PyData} {i : Nat} {d : PyData}, DpAll K H vs ds → ds[i]? = some d → ∃ v, vs[i]? = some v ∧ Dp K H v d
  | _, _, _, _, .nil, h => by simp at h
  | _, _, 0, d, .cons h _, e => by
    have e' := Option.some.inj e
    subst e'
    exact ⟨_, rfl, h⟩
  | _, _, i + 1, d, .cons _ t, e => dpa_get (i := i) t e
theorem dpa_get' {H : Hp} : ∀ {vs : List V} {ds : List PyData} {i : Nat} {v : V}, DpAll K H vs ds → vs[i]? = some v → ∃ d, ds[i]? = some d ∧ Dp K H v d
  | _, _, _, _, .nil, h => by simp at h
  | _, _, 0, d, .cons h _, e => by
    have e' := Option.some.inj e
    subst e'
    exact ⟨_, rfl, h⟩
  | _, _, i + 1, d, .cons _ t, e => dpa_get' (i := i) t e
theorem dpa_app {H : Hp} : ∀ {vs ws : List V} {ds es : List PyData}, DpAll K H vs ds → DpAll K H ws es → DpAll K H (vs ++ ws) (ds ++ es)
  | _, _, _, _, .nil, h => h
  | _, _, _, _, .cons h t, h2 => .cons h (dpa_app t h2)
theorem dpa_one {H : Hp} {v : V} {d : PyData} (h : Dp K H v d) : DpAll K H [v] [d] := .cons h .nil
theorem dpa_drop {H : Hp} : ∀ {vs : List V} {ds : List PyData} (n : Nat), DpAll K H vs ds → DpAll K H (vs.drop n) (ds.drop n)
  | _, _, 0, h => h
  | _, _, _ + 1, .nil => .nil
  | _, _, n + 1, .cons _ t => dpa_drop n t
theorem dpa_take {H : Hp} : ∀ {vs : List V} {ds : List PyData} (n : Nat), DpAll K H vs ds → DpAll K H (vs.take n) (ds.take n)
  | _, _, 0, _ => .nil
  | _, _, _ + 1, .nil => .nil
  | _, _, n + 1, .cons h t => .cons h (dpa_take n t)
theorem dpa_rev {H : Hp} : ∀ {vs : List V} {ds : List PyData}, DpAll K H vs ds → DpAll K H vs.reverse ds.reverse
  | _, _, .nil => .nil
  | _, _, .cons h t => by
    rw [List.reverse_cons, List.reverse_cons]
    exact dpa_app (dpa_rev t) (dpa_one h)
theorem dpa_set {H : Hp} {v : V} {d : PyData} (hd : Dp K H v d) : ∀ {vs : List V} {ds : List PyData} (n : Nat), DpAll K H vs ds → DpAll K H (vs.set n v) (ds.set n d)
  | _, _, _, .nil => .nil
  | _, _, 0, .cons _ t => .cons hd t
  | _, _, n + 1, .cons h t => .cons h (dpa_set hd n t)
theorem dpa_flat {H : Hp} {vs : List V} {ds : List PyData} (h : DpAll K H vs ds) : ∀ n : Nat, DpAll K H (List.replicate n vs).flatten (List.replicate n ds).flatten
  | 0 => .nil
  | n + 1 => by
    rw [List.replicate_succ, List.replicate_succ, List.flatten_cons, List.flatten_cons]
    exact dpa_app h (dpa_flat h n)
theorem dp_int {H : Hp} {v : V} {i : Int} (h : Dp K H v (.int i)) : v = .int i := by cases h; rfl
theorem dp_str {H : Hp} {v : V} {x : Str} (h : Dp K H v (.str x)) : v = .str x := by cases h; rfl
theorem dp_bl {H : Hp} {v : V} {b : Bool} (h : Dp K H v (.bool b)) : v = .bl b := by cases h; rfl
theorem dp_non {H : Hp} {v : V} (h : Dp K H v .none) : v = .non := by cases h; rfl
theorem dp_lst {H : Hp} {v : V} {ds : List PyData} (h : Dp K H v (.list ds)) : ∃ a xs, v = .ref a ∧ SqL K H a xs ∧ DpAll K H xs ds := by
  cases h with
  | lst h t => exact ⟨_, _, rfl, h, t⟩
theorem dp_tup {H : Hp} {v : V} {ds : List PyData} (h : Dp K H v (.tuple ds)) : ∃ a xs, v = .ref a ∧ SqT K H a xs ∧ DpAll K H xs ds := by
  cases h with
  | tup h t => exact ⟨_, _, rfl, h, t⟩
end

/-! ### slots -/
/-- what stands in a list that has a known place: data; lists of known places -/
inductive Cl where
  | ds (l : List PyData)
  | rf (l : List Addr)
/-- what is known of a slot: frozen data; a list of the def's own, that it changes; an object of its own kind; nothing -/
inductive SV where
  | dat (d : PyData)
  | own (ds : List PyData)
  | obj (phi : Hp → Addr → Prop) (m : ∀ G G' a, Ex G G' → phi G a → phi G' a)
  | unk
  | pin (p : Addr) (cells : List (Addr × Cl))
section
variable (K : PySem.W.Frag) (B G H : Hp)
def ClOk (a : Addr) : Cl → Prop
  | .ds l => ∃ vs, H a = some (.lst vs) ∧ DpAll K G vs l
  | .rf l => H a = some (.lst (l.map .ref))
def PinOk (cells : List (Addr × Cl)) : Prop := (cells.map Prod.fst).Nodup ∧ ∀ c ∈ cells, G c.1 = none ∧ B c.1 = none ∧ ClOk K G H c.1 c.2
def SlotOk : SV → Option (Option V) → Prop
  | .dat d, x => ∃ v, x = some (some v) ∧ Dp K G v d
  | .own ds, x => ∃ l vs, x = some (some (.ref l)) ∧ H l = some (.lst vs) ∧ G l = none ∧ B l = none ∧ DpAll K G vs ds
  | .obj phi _, x => ∃ a, x = some (some (.ref a)) ∧ phi G a
  | .unk, _ => True
  | .pin p cells, x => x = some (some (.ref p)) ∧ PinOk K B G H cells
/-- lists of known places stand apart from all others -/
def PinsOk (rho : List SV) (sig : St) : Prop := (∀ (i j : Nat) l ds p cells, rho[i]? = some (.own ds) → rho[j]? = some (.pin p cells) → sig[i]? = some (some (.ref l)) → l ∉ cells.map Prod.fst) ∧
  ∀ (i j : Nat) p cells q cells' a, rho[i]? = some (.pin p cells) → rho[j]? = some (.pin q cells') → a ∈ cells.map Prod.fst → a ∈ cells'.map Prod.fst → i = j
theorem PinsOk.sub {rho rho' : List SV} {sig sig' : St} (h : PinsOk rho sig) (h1 : ∀ (i : Nat) ds, rho'[i]? = some (.own ds) → ∃ ds0, rho[i]? = some (.own ds0) ∧ sig'[i]? = sig[i]?) (h2 : ∀ (i : Nat) p cells, rho'[i]? = some (.pin p cells) → ∃ cells0, rho[i]? = some (.pin p cells0) ∧ cells0.map Prod.fst = cells.map Prod.fst) : PinsOk rho' sig' :=
  ⟨fun i j l ds p cells a b c => by
    obtain ⟨ds0, a', e⟩ := h1 i ds a
    obtain ⟨cells0, b', e2⟩ := h2 j p cells b
    rw [← e2]
    exact h.1 i j l ds0 p cells0 a' b' (e ▸ c), fun i j p cells q cells' x a b c d => by
    obtain ⟨u, a', e1⟩ := h2 i p cells a
    obtain ⟨v, b', e2⟩ := h2 j q cells' b
    rw [← e1] at c
    rw [← e2] at d
    exact h.2 i j p u q v x a' b' c d⟩
/-- the known places stand in H -/
def Pins (rho : List SV) (H : Hp) : Prop := ∀ (j : Nat) p cells a, rho[j]? = some (.pin p cells) → a ∈ cells.map Prod.fst → H a ≠ none
structure Rl (rho : List SV) (sig : St) : Prop where
  e : Ex G H
  len : sig.length = rho.length
  sl : ∀ (i : Nat) sv, rho[i]? = some sv → SlotOk K B G H sv sig[i]?
  sep : ∀ (i j : Nat) l ds es, rho[i]? = some (.own ds) → rho[j]? = some (.own es) → sig[i]? = some (some (.ref l)) → sig[j]? = some (some (.ref l)) → i = j
  pins : PinsOk rho sig
end
theorem ClOk.some {K : PySem.W.Frag} {G H : Hp} {a : Addr} : ∀ {c : Cl}, ClOk K G H a c → ∃ vs, H a = some (.lst vs)
  | .ds _, ⟨vs, h, _⟩ => ⟨vs, h⟩
  | .rf _, h => ⟨_, h⟩
theorem ClOk.nx {K : PySem.W.Frag} {G H G' H' : Hp} {a : Addr} (x : Nx G H G' H') : ∀ {c : Cl}, ClOk K G H a c → ClOk K G' H' a c
  | .ds _, ⟨vs, h, t⟩ => ⟨vs, x.h _ _ h, dpa_ex x.g t⟩
  | .rf _, h => x.h _ _ h
theorem PinOk.nx {K : PySem.W.Frag} {B G H G' H' : Hp} {cells : List (Addr × Cl)} (h : PinOk K B G H cells) (x : Nx G H G' H') : PinOk K B G' H' cells := ⟨h.1, fun c hc => by
  obtain ⟨g, b, q⟩ := h.2 c hc
  obtain ⟨vs, hv⟩ := q.some
  exact ⟨x.n c.1 (by rw [hv]; exact Option.some_ne_none _) g, b, q.nx x⟩⟩
theorem PinOk.mem {K : PySem.W.Frag} {B G H : Hp} {cells : List (Addr × Cl)} (h : PinOk K B G H cells) {a : Addr} (ha : a ∈ cells.map Prod.fst) : G a = none ∧ B a = none ∧ ∃ vs, H a = some (.lst vs) := by
  obtain ⟨c, hc, rfl⟩ := List.mem_map.mp ha
  obtain ⟨g, b, q⟩ := h.2 c hc
  exact ⟨g, b, q.some⟩
theorem Rl.pinned {K : PySem.W.Frag} {B G H : Hp} {rho : List SV} {sig : St} (r : Rl K B G H rho sig) : Pins rho H := fun j p cells a e ha => by
  obtain ⟨_, q⟩ := r.sl j _ e
  obtain ⟨_, _, vs, h⟩ := q.mem ha
  rw [h]; exact Option.some_ne_none _
theorem Pins.ex {rho : List SV} {H H' : Hp} (h : Pins rho H) (x : Ex H H') : Pins rho H' := fun j p cells a e ha => x.some (h j p cells a e ha)
section
variable {K : PySem.W.Frag} {B G H G' H' : Hp} {rho : List SV} {sig : St}
theorem SlotOk.nx (x : Nx G H G' H') : ∀ {sv : SV} {o : Option (Option V)}, SlotOk K B G H sv o → SlotOk K B G' H' sv o
  | .dat d, o, ⟨v, e, h⟩ => ⟨v, e, dp_ex x.g h⟩
  | .own ds, o, ⟨l, vs, e, h, g, b, t⟩ => ⟨l, vs, e, x.h l _ h, x.n l (by rw [h]; exact Option.some_ne_none _) g, b, dpa_ex x.g t⟩
  | .obj phi m, o, ⟨a, e, h⟩ => ⟨a, e, m _ _ _ x.g h⟩
  | .unk, o, _ => trivial
  | .pin p cells, o, ⟨e, h⟩ => ⟨e, h.nx x⟩
theorem Rl.nx (r : Rl K B G H rho sig) (x : Nx G H G' H') : Rl K B G' H' rho sig :=
  ⟨x.s, r.len, fun i sv e => SlotOk.nx x (r.sl i sv e), r.sep, r.pins⟩
theorem set_get {α : Type} {l : List α} {i j : Nat} {x y : α} (h : (l.set i x)[j]? = some y) : (i = j ∧ y = x ∧ i < l.length) ∨ (i ≠ j ∧ l[j]? = some y) := by
  by_cases e : i = j
  · subst e
    by_cases hl : i < l.length
    · rw [List.getElem?_set_self hl] at h
      exact .inl ⟨rfl, (Option.some.inj h).symm, hl⟩
    · rw [List.getElem?_eq_none (by rw [List.length_set]; omega)] at h
      cases h
  · rw [List.getElem?_set_ne e] at h
    exact .inr ⟨e, h⟩
theorem set_sig {sig : St} {rho : List SV} (hl : sig.length = rho.length) {i : Nat} {v : Option V} (hi : i < rho.length) : (sig.set i v)[i]? = some v := by
  rw [List.getElem?_set_self (by omega)]
/-- a slot is stored: what is not owned -/
theorem Pins.set {H : Hp} (h : Pins rho H) {i : Nat} {sv : SV} (n : ∀ p cells, sv ≠ .pin p cells) : Pins (rho.set i sv) H := fun j p cells a e ha => by
  rcases set_get e with ⟨rfl, q, hi⟩ | ⟨hne, e⟩
  · exact absurd q.symm (n p cells)
  · exact h j p cells a e ha
theorem Rl.set (r : Rl K B G H rho sig) {i : Nat} {v : V} {sv : SV} (h : SlotOk K B G H sv (some (some v))) (hpn : ∀ p cells, sv ≠ .pin p cells) (hpo : ∀ ds l, sv = .own ds → v = .ref l → ∀ (j : Nat) p cells, rho[j]? = some (.pin p cells) → l ∉ cells.map Prod.fst) (hn : ∀ ds, sv = .own ds → ∀ j es, j ≠ i → rho[j]? = some (.own es) → sig[j]? ≠ some (some v)) : Rl K B G H (rho.set i sv) (sig.set i (some v)) := by
  refine ⟨r.e, by rw [List.length_set, List.length_set]; exact r.len, fun j sv' e => ?_, fun a b l ds es e1 e2 e3 e4 => ?_, fun a b l ds p cells e1 e2 e3 => ?_, fun a b p cells q cells' x e1 e2 m1 m2 => ?_⟩
  rotate_left 2
  · rcases set_get e2 with ⟨_, q, _⟩ | ⟨_, e2⟩
    · exact absurd q.symm (hpn p cells)
    · rcases set_get e1 with ⟨rfl, q, hi⟩ | ⟨hne, e1⟩
      · rw [set_sig r.len hi] at e3
        exact hpo ds l q.symm (Option.some.inj (Option.some.inj e3)) b p cells e2
      · rw [List.getElem?_set_ne hne] at e3
        exact r.pins.1 a b l ds p cells e1 e2 e3
  · rcases set_get e1 with ⟨_, q', _⟩ | ⟨_, e1⟩
    · exact absurd q'.symm (hpn p cells)
    · rcases set_get e2 with ⟨_, q', _⟩ | ⟨_, e2⟩
      · exact absurd q'.symm (hpn q cells')
      · exact r.pins.2 a b p cells q cells' x e1 e2 m1 m2
  · rcases set_get e with ⟨rfl, rfl, hi⟩ | ⟨hne, e⟩
    · rw [set_sig r.len hi]; exact h
    · rw [List.getElem?_set_ne hne]; exact r.sl j sv' e
  · rcases set_get e1 with ⟨rfl, q1, hi⟩ | ⟨n1, e1⟩
    · rcases set_get e2 with ⟨rfl, q2, hi2⟩ | ⟨n2, e2⟩
      · rfl
      · rw [set_sig r.len hi] at e3
        rw [List.getElem?_set_ne n2] at e4
        have : v = .ref l := Option.some.inj (Option.some.inj e3)
        exact absurd (this ▸ e4) (hn ds q1.symm b es (Ne.symm n2) e2)
    · rw [List.getElem?_set_ne n1] at e3
      rcases set_get e2 with ⟨rfl, q2, hi2⟩ | ⟨n2, e2⟩
      · rw [set_sig r.len hi2] at e4
        have : v = .ref l := Option.some.inj (Option.some.inj e4)
        exact absurd (this ▸ e3) (hn es q2.symm a ds (Ne.symm n1) e1)
      · rw [List.getElem?_set_ne n2] at e4
        exact r.sep a b l ds es e1 e2 e3 e4
theorem Rl.setD (r : Rl K B G H rho sig) {i : Nat} {v : V} {d : PyData} (h : Dp K G v d) : Rl K B G H (rho.set i (.dat d)) (sig.set i (some v)) :=
  r.set ⟨v, rfl, h⟩ (fun _ _ e => by cases e) (fun _ _ e => by cases e) fun ds e => by cases e
theorem Rl.setO (r : Rl K B G H rho sig) {i : Nat} {a : Addr} {phi : Hp → Addr → Prop} {m : ∀ G G' a, Ex G G' → phi G a → phi G' a} (h : phi G a) : Rl K B G H (rho.set i (.obj phi m)) (sig.set i (some (.ref a))) :=
  r.set ⟨a, rfl, h⟩ (fun _ _ e => by cases e) (fun _ _ e => by cases e) fun ds e => by cases e
/-- the slots of a block's names forgotten -/
def wipeS (rho : List SV) : List Nat → List SV
  | [] => rho
  | v :: vs => (wipeS rho vs).set v .unk
theorem Rl.wipe (r : Rl K B G H rho sig) : ∀ vs : List Nat, Rl K B G H (wipeS rho vs) (wipe sig vs)
  | [] => r
  | v :: vs => by
    have q := Rl.wipe r vs
    unfold wipeS L2.wipe
    refine ⟨q.e, by rw [List.length_set, List.length_set]; exact q.len, fun j sv' e => ?_, fun a b l ds es e1 e2 e3 e4 => ?_, q.pins.sub (fun i ds e => ?_) fun i p cells e => ?_⟩
    rotate_left 2
    · rcases set_get e with ⟨_, q', _⟩ | ⟨hne, e⟩
      · cases q'
      · exact ⟨ds, e, List.getElem?_set_ne hne⟩
    · rcases set_get e with ⟨_, q', _⟩ | ⟨hne, e⟩
      · cases q'
      · exact ⟨cells, e, rfl⟩
    · rcases set_get e with ⟨rfl, rfl, hi⟩ | ⟨hne, e⟩
      · trivial
      · rw [List.getElem?_set_ne hne]; exact q.sl j sv' e
    · rcases set_get e1 with ⟨rfl, q1, hi⟩ | ⟨n1, e1⟩
      · cases q1
      · rcases set_get e2 with ⟨rfl, q2, hi2⟩ | ⟨n2, e2⟩
        · cases q2
        · rw [List.getElem?_set_ne n1] at e3
          rw [List.getElem?_set_ne n2] at e4
          exact q.sep a b l ds es e1 e2 e3 e4
end

/-! ### where one stands -/
structure Ctx (P : Program) (w : World) (K : PySem.W.Frag) (mg : Str → Option Value) (base : Heap) where
  I : Type
  X : I → Cx
  N : List Str
  j : Nat
  hP : ∀ i, (X i).prog = P
  hw : ∀ i, (X i).w = w
  hK : ∀ i, (X i).K = K
  hmg : ∀ i, (X i).mg = mg
  hb : ∀ i, (X i).base = base
  hN : ∀ i, (X i).N = N
  nd : N.Nodup
  calm : ∀ i, (X i).calm = true
  room : ∀ i, Room j (X i).A
section
variable {P : Program} {w : World} {K : PySem.W.Frag} {mg : Str → Option Value} {base : Heap}
/-- a def's body -/
abbrev bodyC (X : Cx) (nd : X.N.Nodup) (calm : X.calm = true) (j : Nat) (room : Room j X.A) : Ctx X.prog X.w X.K X.mg X.base :=
  ⟨Unit, fun _ => X, X.N, j, fun _ => rfl, fun _ => rfl, fun _ => rfl, fun _ => rfl, fun _ => rfl, fun _ => rfl, nd, fun _ => calm, fun _ => room⟩
/-- a comprehension's block -/
abbrev Ctx.blk (C : Ctx P w K mg base) (scope : Scope) : Ctx P w K mg base :=
  ⟨C.I × Shared × Hp × Addr × List (Str × Addr) × List Addr, fun p => (C.X p.1).blk p.2.1 p.2.2.1 scope (compEnvC scope p.2.2.2.2.1 p.2.2.2.1 (C.X p.1).env) p.2.2.2.2.2, C.N, C.j,
    fun p => C.hP p.1, fun p => C.hw p.1, fun p => C.hK p.1, fun p => C.hmg p.1, fun p => C.hb p.1, fun p => C.hN p.1, C.nd, fun p => C.calm p.1, fun p => C.room p.1⟩

/-! ### what an expression comes to -/
section
variable (C : Ctx P w K mg base)
def wE (e : Expr) : TE := fun σ H Q => ∀ i pins s, Inv (C.X i) pins σ H s → wpAny (model (C.X i).prog (C.X i).w) (C.X i).A (eval e (C.X i).env) (EP (C.X i) pins σ Q) (C.X i).xe s
def wT (e : Expr) : TT := fun σ H Q => ∀ i pins s, Inv (C.X i) pins σ H s → wpAny (model (C.X i).prog (C.X i).w) (C.X i).A (isTrue e (C.X i).env (eval e (C.X i).env)) (TP (C.X i) pins σ Q) (C.X i).xe s
def wA (es : List Expr) : TA := fun σ H Q => ∀ i pos pins s, Inv (C.X i) pins σ H s → wpAny (model (C.X i).prog (C.X i).w) (C.X i).A (spliced (backTo pos (starEach es (C.X i).env))) (AP (C.X i) pins σ Q) (C.X i).xe s
def wG (tg : Expr) : TG := fun v σ H Q => ∀ i pins s u, Inv (C.X i) pins σ H s → RelV v u → wpAny (model (C.X i).prog (C.X i).w) (C.X i).A (assign tg (C.X i).env u) (fun _ s' => ∃ σ' H', Inv (C.X i) pins σ' H' s' ∧ Q σ' H') (C.X i).xe s
def wI (tg iter : Expr) : TI := fun σ H R => ∀ i pins s, Inv (C.X i) pins σ H s → wpAny (model (C.X i).prog (C.X i).w) (C.X i).A (eval iter (C.X i).env) (fun v s1 => wpAny (model (C.X i).prog (C.X i).w) (C.X i).A (pyIter v) (PIE (C.X i) pins σ tg R) (C.X i).xe s1) (C.X i).xe s
end
variable {C : Ctx P w K mg base} {e tg iter : Expr} {es : List Expr}
theorem pe_w (i : C.I) : PE (C.X i) e (wE C e) := ⟨fun pins s _ _ _ I h => h i pins s I⟩
theorem pt_w (i : C.I) : PT (C.X i) e (wT C e) := ⟨fun pins s _ _ _ I h => h i pins s I⟩
theorem pa_w (i : C.I) : PA (C.X i) es (wA C es) := ⟨fun pos pins s _ _ _ I h => h i pos pins s I⟩
theorem pg_w (i : C.I) : PG (C.X i) tg (wG C tg) := ⟨fun pins s _ _ _ u _ I r h => h i pins s u I r⟩
theorem pi_w (i : C.I) : PI (C.X i) tg iter (wI C tg iter) := ⟨fun pins s _ _ _ I h => h i pins s I⟩
end
end DL

set_option maxRecDepth 100000
set_option maxHeartbeats 1000000
/-! DL, part 2: judgements, plain expressions. -/
namespace DL
open PySem L2
section
variable (K : PySem.W.Frag)
/-- a readable list (tuple) of frozen items -/
def Sq (b : Bool) (H : Hp) (a : Addr) (vs : List V) : Prop := if b = true then SqL K H a vs else SqT K H a vs
def OkF (t : TE) (rho : List SV) (d : PyData) : Prop := ∀ B σ G H Q, Rl K B G H rho σ → (∀ v G' H', Nx G H G' H' → Dp K G' v d → Q v H') → t σ H Q
def OkL (t : TE) (rho : List SV) (b : Bool) (ds : List PyData) : Prop := ∀ B σ G H Q, Rl K B G H rho σ → (∀ p vs G' H', Nx G H G' H' → Sq K b H' p vs → DpAll K G' vs ds → Q (.ref p) H') → t σ H Q
def OkN (t : TE) (rho : List SV) (ds : List PyData) : Prop := ∀ B σ G H Q, Rl K B G H rho σ → (∀ p vs G' H', Nx G H G' H' → H p = none → G' p = none → H' p = some (.lst vs) → DpAll K G' vs ds → Q (.ref p) H') → t σ H Q
def OkO (t : TE) (rho : List SV) (phi : Hp → Addr → Prop) : Prop := ∀ B σ G H Q, Rl K B G H rho σ → (∀ a G' H', Nx G H G' H' → phi G' a → Q (.ref a) H') → t σ H Q
def OkT (t : TT) (rho : List SV) (b : Bool) : Prop := ∀ B σ G H Q, Rl K B G H rho σ → (∀ G' H', Nx G H G' H' → Q b H') → t σ H Q
def OkA (t : TA) (rho : List SV) (ds : List PyData) : Prop := ∀ B σ G H Q, Rl K B G H rho σ → (∀ vs G' H', Nx G H G' H' → DpAll K G' vs ds → Q vs H') → t σ H Q
end
section
variable {P : Program} {w : World} {K : PySem.W.Frag} {mg : Str → Option Value} {base : Heap} {C : Ctx P w K mg base} {rho : List SV} {e a b c : Expr} {es : List Expr} {d d1 d2 d3 : PyData} {ds : List PyData} {pos : Pos}
def EF (C : Ctx P w K mg base) (rho : List SV) (e : Expr) (d : PyData) : Prop := OkF K (wE C e) rho d
def EL (C : Ctx P w K mg base) (rho : List SV) (e : Expr) (b : Bool) (ds : List PyData) : Prop := OkL K (wE C e) rho b ds
def EN (C : Ctx P w K mg base) (rho : List SV) (e : Expr) (ds : List PyData) : Prop := OkN K (wE C e) rho ds
def EO (C : Ctx P w K mg base) (rho : List SV) (e : Expr) (phi : Hp → Addr → Prop) : Prop := OkO K (wE C e) rho phi
def ET (C : Ctx P w K mg base) (rho : List SV) (e : Expr) (b : Bool) : Prop := OkT K (wT C e) rho b
def EA (C : Ctx P w K mg base) (rho : List SV) (es : List Expr) (ds : List PyData) : Prop := OkA K (wA C es) rho ds

theorem EF.of {t : TE} (h : ∀ i, PE (C.X i) e t) (o : OkF K t rho d) : EF C rho e d := fun B σ G H Q r q i pins s I => (h i).run pins s σ H Q I (o B σ G H Q r q)
theorem EL.of {t : TE} {k : Bool} (h : ∀ i, PE (C.X i) e t) (o : OkL K t rho k ds) : EL C rho e k ds := fun B σ G H Q r q i pins s I => (h i).run pins s σ H Q I (o B σ G H Q r q)
theorem EN.of {t : TE} (h : ∀ i, PE (C.X i) e t) (o : OkN K t rho ds) : EN C rho e ds := fun B σ G H Q r q i pins s I => (h i).run pins s σ H Q I (o B σ G H Q r q)
theorem EO.of {t : TE} {phi : Hp → Addr → Prop} (h : ∀ i, PE (C.X i) e t) (o : OkO K t rho phi) : EO C rho e phi := fun B σ G H Q r q i pins s I => (h i).run pins s σ H Q I (o B σ G H Q r q)
theorem ET.of {t : TT} {k : Bool} (h : ∀ i, PT (C.X i) e t) (o : OkT K t rho k) : ET C rho e k := fun B σ G H Q r q i pins s I => (h i).run pins s σ H Q I (o B σ G H Q r q)
theorem EA.of {t : TA} (h : ∀ i, PA (C.X i) es t) (o : OkA K t rho ds) : EA C rho es ds := fun B σ G H Q r q i pos pins s I => (h i).run pos pins s σ H Q I (o B σ G H Q r q)
theorem EF.is (h : EF C rho e d1) (q : d1 = d2) : EF C rho e d2 := q ▸ h
theorem ET.is {k l : Bool} (h : ET C rho e k) (q : k = l) : ET C rho e l := q ▸ h
theorem EN.is {xs ys : List PyData} (h : EN C rho e xs) (q : xs = ys) : EN C rho e ys := q ▸ h
theorem EL.is {k : Bool} {xs ys : List PyData} (h : EL C rho e k xs) (q : xs = ys) : EL C rho e k ys := q ▸ h
theorem EA.is {xs ys : List PyData} (h : EA C rho es xs) (q : xs = ys) : EA C rho es ys := q ▸ h

/-! ### from one kind to another -/
theorem EN.f (h : EN C rho e ds) : EF C rho e (.list ds) := fun B σ G H Q r q => h B σ G H Q r fun p vs G' H' x hp hg hq t =>
  q _ (upd G' p (.lst vs)) H' (x.freeze hp hg hq) (.lst (SqL.of upd_same) (dpa_ex (Ex.upd hg) t))
theorem EN.l (h : EN C rho e ds) : EL C rho e true ds := fun B σ G H Q r q => h B σ G H Q r fun p vs G' H' x hp hg hq t =>
  q _ vs G' H' x (show (if true = true then SqL K H' p vs else _) from by rw [if_pos rfl]; exact SqL.of hq) t
theorem sq_l {H : Hp} {p : Addr} {vs : List V} (h : SqL K H p vs) : Sq K true H p vs := by unfold Sq; rw [if_pos rfl]; exact h
theorem sq_t {H : Hp} {p : Addr} {vs : List V} (h : SqT K H p vs) : Sq K false H p vs := by unfold Sq; rw [if_neg Bool.false_ne_true]; exact h
theorem of_sq_l {H : Hp} {p : Addr} {vs : List V} (h : Sq K true H p vs) : SqL K H p vs := by unfold Sq at h; rw [if_pos rfl] at h; exact h
theorem of_sq_t {H : Hp} {p : Addr} {vs : List V} (h : Sq K false H p vs) : SqT K H p vs := by unfold Sq at h; rw [if_neg Bool.false_ne_true] at h; exact h
theorem sq_ex {k : Bool} {H H' : Hp} (e : Ex H H') {p : Addr} {vs : List V} (h : Sq K k H p vs) : Sq K k H' p vs := by
  cases k with
  | true => exact sq_l (SqL.ex e (of_sq_l h))
  | false => exact sq_t (SqT.ex e (of_sq_t h))
theorem EF.l (h : EF C rho e (.list ds)) : EL C rho e true ds := fun B σ G H Q r q => h B σ G H Q r fun v G' H' x t => by
  obtain ⟨p, vs, rfl, h1, h2⟩ := dp_lst t
  exact q p vs G' H' x (sq_l (SqL.ex x.s h1)) h2
theorem EF.t (h : EF C rho e (.tuple ds)) : EL C rho e false ds := fun B σ G H Q r q => h B σ G H Q r fun v G' H' x t => by
  obtain ⟨p, vs, rfl, h1, h2⟩ := dp_tup t
  exact q p vs G' H' x (sq_t (SqT.ex x.s h1)) h2

/-! ### names, constants -/
/-- the name in slot k -/
theorem ef_var (k : Nat) {x : Str} (hN : C.N[k]? = some x) (hr : rho[k]? = some (.dat d)) (hv : ∀ i, Vis (C.X i).env.scope x) (hd : (x == ("__debug__" : Str)) = false := by decide) (hcd : (x == ("__classdict__" : Str)) = false := by decide) :
    EF C rho (.Name x pos) d := by
  refine EF.of (t := tVar k) (fun i => pe_var (by rw [C.hN]; exact hN) (hv i) hd hcd) fun B σ G H Q r q => ?_
  obtain ⟨v, e1, e2⟩ := r.sl k _ hr
  exact ⟨v, e1, q v G H (Nx.refl r.e) e2⟩
/-- a list of the def's own, read -/
theorem el_own (k : Nat) {x : Str} (hN : C.N[k]? = some x) (hr : rho[k]? = some (.own ds)) (hv : ∀ i, Vis (C.X i).env.scope x) (hd : (x == ("__debug__" : Str)) = false := by decide) (hcd : (x == ("__classdict__" : Str)) = false := by decide) :
    EL C rho (.Name x pos) true ds := by
  refine EL.of (t := tVar k) (fun i => pe_var (by rw [C.hN]; exact hN) (hv i) hd hcd) fun B σ G H Q r q => ?_
  obtain ⟨l, vs, e1, e2, e3, e4, e5⟩ := r.sl k _ hr
  exact ⟨_, e1, q l vs G H (Nx.refl r.e) (sq_l (SqL.of e2)) e5⟩
theorem eo_var (k : Nat) {x : Str} {phi : Hp → Addr → Prop} {m : ∀ G G' a, Ex G G' → phi G a → phi G' a} (hN : C.N[k]? = some x) (hr : rho[k]? = some (.obj phi m)) (hv : ∀ i, Vis (C.X i).env.scope x) (hd : (x == ("__debug__" : Str)) = false := by decide) (hcd : (x == ("__classdict__" : Str)) = false := by decide) :
    EO C rho (.Name x pos) phi := by
  refine EO.of (t := tVar k) (fun i => pe_var (by rw [C.hN]; exact hN) (hv i) hd hcd) fun B σ G H Q r q => ?_
  obtain ⟨a, e1, e2⟩ := r.sl k _ hr
  exact ⟨_, e1, q a G H (Nx.refl r.e) e2⟩
theorem ef_int {n : Int} {j : Nat} : EF C rho (.Constant (.int n) j pos) (.int n) := EF.of (t := tC (.int n)) (fun i => pe_int) fun B σ G H Q r q => q _ G H (Nx.refl r.e) (.int n)
theorem ef_str {x : Str} {j : Nat} : EF C rho (.Constant (.str x) j pos) (.str x) := EF.of (t := tC (.str x)) (fun i => pe_str) fun B σ G H Q r q => q _ G H (Nx.refl r.e) (.str x)
theorem ef_bl {k : Bool} {j : Nat} : EF C rho (.Constant (.bool k) j pos) (.bool k) := EF.of (t := tC (.bl k)) (fun i => pe_bl) fun B σ G H Q r q => q _ G H (Nx.refl r.e) (.bl k)
theorem ef_non {j : Nat} : EF C rho (.Constant .none j pos) .none := EF.of (t := tC .non) (fun i => pe_non) fun B σ G H Q r q => q _ G H (Nx.refl r.e) .non
/-- a module's constant: an int, a text -/
theorem ef_gint {x : Str} {n : Int} {t : Tok} (hg : ∀ i, Gl (C.X i) x) (hm : mg x = some (.int n t)) (hd : (x == ("__debug__" : Str)) = false := by decide) : EF C rho (.Name x pos) (.int n) :=
  EF.of (t := tC (.int n)) (fun i => pe_glob (hg i) (by rw [C.hmg]; exact hm) ⟨t, rfl⟩ hd) fun B σ G H Q r q => q _ G H (Nx.refl r.e) (.int n)
theorem ef_gstr {x : Str} {n : Str} {t : Tok} (hg : ∀ i, Gl (C.X i) x) (hm : mg x = some (.str n t)) (hd : (x == ("__debug__" : Str)) = false := by decide) : EF C rho (.Name x pos) (.str n) :=
  EF.of (t := tC (.str n)) (fun i => pe_glob (hg i) (by rw [C.hmg]; exact hm) ⟨t, rfl⟩ hd) fun B σ G H Q r q => q _ G H (Nx.refl r.e) (.str n)

/-! ### tests and truth values -/
theorem et_val (h : EF C rho e (.bool k)) (he : ∀ i whole, isTrue e (C.X i).env whole = (do let v ← whole; standAt e.pos; holding [v] (truthy v)) := by intro _ _; rfl) : ET C rho e k :=
  ET.of (t := tB (wE C e)) (fun i => pt_val (pe_w i) (he i)) fun B σ G H Q r q => h B σ G H _ r fun v G' H' x t => ⟨k, dp_bl t, q G' H' x⟩
theorem et_not {k : Bool} (h : ET C rho e k) : ET C rho (.UnaryOp .Not e pos) (!k) :=
  ET.of (t := tNot (wT C e)) (fun i => pt_not (pt_w i)) fun B σ G H Q r q => h B σ G H _ r fun G' H' x => q G' H' x
theorem ef_not {k : Bool} (h : EF C rho e (.bool k)) : EF C rho (.UnaryOp .Not e pos) (.bool (!k)) :=
  EF.of (t := tNotV (wE C e)) (fun i => pe_not (pe_w i)) fun B σ G H Q r q => h B σ G H _ r fun v G' H' x t => ⟨k, dp_bl t, q _ G' H' x (.bl _)⟩
/-- and, or as values of bools -/
theorem ef_one {op : BoolOp} (h : EF C rho a d) : EF C rho (.BoolOp op [a] pos) d := EF.of (t := wE C a) (fun i => pe_one (pe_w i)) h
theorem ef_and {k l : Bool} {rest : List Expr} (h1 : EF C rho a (.bool k)) (h2 : k = true → EF C rho (.BoolOp .And (b :: rest) pos) (.bool l)) : EF C rho (.BoolOp .And (a :: b :: rest) pos) (.bool (k && l)) :=
  EF.of (t := tAndV (wE C a) (wE C (.BoolOp .And (b :: rest) pos))) (fun i => pe_and (pe_w i) (pe_w i)) fun B σ G H Q r q => h1 B σ G H _ r fun v G' H' x t => by
    refine ⟨k, dp_bl t, ?_⟩
    cases k with
    | true => exact iteT (h2 rfl B σ G' H' Q (r.nx x) fun v2 G2 H2 x2 t2 => q v2 G2 H2 (x.trans x2) t2)
    | false => exact iteF (q _ G' H' x (.bl _))
theorem ef_or {k l : Bool} {rest : List Expr} (h1 : EF C rho a (.bool k)) (h2 : k = false → EF C rho (.BoolOp .Or (b :: rest) pos) (.bool l)) : EF C rho (.BoolOp .Or (a :: b :: rest) pos) (.bool (k || l)) :=
  EF.of (t := tOrV (wE C a) (wE C (.BoolOp .Or (b :: rest) pos))) (fun i => pe_or (pe_w i) (pe_w i)) fun B σ G H Q r q => h1 B σ G H _ r fun v G' H' x t => by
    refine ⟨k, dp_bl t, ?_⟩
    cases k with
    | true => exact iteT (q _ G' H' x (.bl _))
    | false => exact iteF (h2 rfl B σ G' H' Q (r.nx x) fun v2 G2 H2 x2 t2 => q v2 G2 H2 (x.trans x2) t2)
/-- .. as tests: whatever the whole is -/
def wW (C : Ctx P w K mg base) (e : Expr) : TT := fun σ H Q => ∀ whole i pins s, Inv (C.X i) pins σ H s → wpAny (model (C.X i).prog (C.X i).w) (C.X i).A (isTrue e (C.X i).env whole) (TP (C.X i) pins σ Q) (C.X i).xe s
theorem pw_w (i : C.I) : PW (C.X i) e (wW C e) := ⟨fun whole pins s _ _ _ I h => h whole i pins s I⟩
def EW (C : Ctx P w K mg base) (rho : List SV) (e : Expr) (b : Bool) : Prop := OkT K (wW C e) rho b
theorem EW.of {t : TT} {k : Bool} (h : ∀ i, PW (C.X i) e t) (o : OkT K t rho k) : EW C rho e k := fun B σ G H Q r q whole i pins s I => (h i).run whole pins s σ H Q I (o B σ G H Q r q)
theorem EW.t {k : Bool} (h : EW C rho e k) : ET C rho e k := ET.of (t := wW C e) (fun i => (pw_w i).pt) h
theorem EW.is {k l : Bool} (h : EW C rho e k) (q : k = l) : EW C rho e l := q ▸ h
theorem ew_and1 {k : Bool} (h : ET C rho a k) : EW C rho (.BoolOp .And [a] pos) k := EW.of (t := wT C a) (fun i => pw_and1 (pt_w i)) h
theorem ew_or1 {k : Bool} (h : ET C rho a k) : EW C rho (.BoolOp .Or [a] pos) k := EW.of (t := wT C a) (fun i => pw_or1 (pt_w i)) h
theorem ew_and {k l : Bool} {rest : List Expr} (h1 : ET C rho a k) (h2 : k = true → EW C rho (.BoolOp .And (b :: rest) pos) l) : EW C rho (.BoolOp .And (a :: b :: rest) pos) (k && l) :=
  EW.of (t := tAnd (wT C a) (wW C (.BoolOp .And (b :: rest) pos))) (fun i => pw_and (pt_w i) (pw_w i)) fun B σ G H Q r q => h1 B σ G H _ r fun G' H' x => by
    cases k with
    | true => exact iteT (h2 rfl B σ G' H' Q (r.nx x) fun G2 H2 x2 => q G2 H2 (x.trans x2))
    | false => exact iteF (q G' H' x)
theorem ew_or {k l : Bool} {rest : List Expr} (h1 : ET C rho a k) (h2 : k = false → EW C rho (.BoolOp .Or (b :: rest) pos) l) : EW C rho (.BoolOp .Or (a :: b :: rest) pos) (k || l) :=
  EW.of (t := tOr (wT C a) (wW C (.BoolOp .Or (b :: rest) pos))) (fun i => pw_or (pt_w i) (pw_w i)) fun B σ G H Q r q => h1 B σ G H _ r fun G' H' x => by
    cases k with
    | true => exact iteT (q G' H' x)
    | false => exact iteF (h2 rfl B σ G' H' Q (r.nx x) fun G2 H2 x2 => q G2 H2 (x.trans x2))
/-- a if t else b -/
theorem ef_if {k : Bool} (hc : ET C rho c k) (h1 : k = true → EF C rho a d) (h2 : k = false → EF C rho b d) : EF C rho (.IfExp c a b pos) d :=
  EF.of (t := tIf (wT C c) (wE C a) (wE C b)) (fun i => pe_ifExp (pt_w i) (pe_w i) (pe_w i)) fun B σ G H Q r q => hc B σ G H _ r fun G' H' x => by
    cases k with
    | true => exact iteT (h1 rfl B σ G' H' Q (r.nx x) fun v2 G2 H2 x2 t2 => q v2 G2 H2 (x.trans x2) t2)
    | false => exact iteF (h2 rfl B σ G' H' Q (r.nx x) fun v2 G2 H2 x2 t2 => q v2 G2 H2 (x.trans x2) t2)

/-! ### operators of ints, comparisons -/
/-- two frozen operands, an operator by values -/
theorem ok_op {r : R2} {ta tb : TE} (ha : OkF K ta rho d1) (hb : OkF K tb rho d2) (hr : ∀ G H x y Q, Ex G H → Dp K G x d1 → Dp K G y d2 → (∀ v G' H', Nx G H G' H' → Dp K G' v d → Q v H') → r x y H Q) : OkF K (tOp r ta tb) rho d :=
  fun B σ G H Q q k => ha B σ G H _ q fun x G1 H1 x1 t1 => hb B σ G1 H1 _ (q.nx x1) fun y G2 H2 x2 t2 => hr G2 H2 x y Q x2.s (dp_ex x2.g t1) t2 fun v G3 H3 x3 t3 => k v G3 H3 ((x1.trans x2).trans x3) t3
theorem ef_bin {op : Operator} {r : R2} (ho : ∀ i, OpR (C.X i) (binaryOp op) r) (ha : EF C rho a d1) (hb : EF C rho b d2) (hr : ∀ G H x y Q, Ex G H → Dp K G x d1 → Dp K G y d2 → (∀ v G' H', Nx G H G' H' → Dp K G' v d → Q v H') → r x y H Q) :
    EF C rho (.BinOp a op b pos) d := EF.of (t := tOp r (wE C a) (wE C b)) (fun i => pe_op (ho i) (pe_w i) (pe_w i)) (ok_op ha hb hr)
/-- a comparison that comes to k -/
def EC (C : Ctx P w K mg base) (rho : List SV) (op : CmpOp) (a b : Expr) (k : Bool) : Prop := ∃ r : R2, (∀ i, OpR (C.X i) (compareOp op) r) ∧ OkF K (tOp r (wE C a) (wE C b)) rho (.bool k)
theorem EC.of {op : CmpOp} {r : R2} {k : Bool} (ho : ∀ i, OpR (C.X i) (compareOp op) r) (ha : EF C rho a d1) (hb : EF C rho b d2) (hr : ∀ G H x y Q, Ex G H → Dp K G x d1 → Dp K G y d2 → Q (.bl k) H → r x y H Q) : EC C rho op a b k :=
  ⟨r, ho, ok_op ha hb fun G H x y Q e t1 t2 q => hr G H x y Q e t1 t2 (q _ G H (Nx.refl e) (.bl k))⟩
theorem EC.is {op : CmpOp} {k l : Bool} (h : EC C rho op a b k) (q : k = l) : EC C rho op a b l := q ▸ h
theorem ef_cmp {op : CmpOp} {k : Bool} (h : EC C rho op a b k) (hm : behindInMarks op b = false := by first | exact nomark _ | rfl) : EF C rho (.Compare a [op] [b] pos) (.bool k) := by
  obtain ⟨r, ho, o⟩ := h
  exact EF.of (fun i => pe_cmpR (ho i) (pe_w i) (pe_w i) hm) o
theorem et_cmp {op : CmpOp} {k : Bool} (h : EC C rho op a b k) (hm : behindInMarks op b = false := by first | exact nomark _ | rfl) : ET C rho (.Compare a [op] [b] pos) k := by
  obtain ⟨r, ho, o⟩ := h
  exact ET.of (t := tTest (tOp r (wE C a) (wE C b))) (fun i => pt_cmpR (ho i) (pe_w i) (pe_w i) hm) fun B σ G H Q r q => o B σ G H _ r fun v G' H' x t => ⟨k, dp_bl t, q G' H' x⟩
end
end DL

set_option maxRecDepth 100000
set_option maxHeartbeats 1000000
/-! DL, part 3: operators, displays, subscripts, calls. -/
namespace DL
open PySem L2
section
variable {P : Program} {w : World} {K : PySem.W.Frag} {mg : Str → Option Value} {base : Heap} {C : Ctx P w K mg base} {rho : List SV} {e a b c : Expr} {es : List Expr} {d d1 d2 d3 : PyData} {ds xs ys : List PyData} {pos p : Pos}
theorem Ctx.hu (C : Ctx P w K mg base) (i : C.I) : (C.X i).A.units + 65 < cLine := by have := (C.room i).un; omega
theorem Ctx.hu1 (C : Ctx P w K mg base) (i : C.I) : (C.X i).A.units + 64 < cLine := by have := (C.room i).un; omega
theorem Ctx.hu0 (C : Ctx P w K mg base) (i : C.I) : (C.X i).A.units < cLine := by have := (C.room i).un; omega
theorem Ctx.hu2 (C : Ctx P w K mg base) (i : C.I) : (C.X i).A.units + 1 < cLine := by have := (C.room i).un; omega

theorem Ctx.k (C : Ctx P w K mg base) (i : C.I) (F : PySem.W.Frag → Prop) (x : F (C.X i).K) : F K := C.hK i ▸ x
/-! ### ints -/
theorem ef_op {op : Operator} {r : R2} {v : V} (ho : ∀ i, OpR (C.X i) (binaryOp op) r) (ha : EF C rho a d1) (hb : EF C rho b d2) (hr : ∀ G H x y Q, Ex G H → Dp K G x d1 → Dp K G y d2 → Q v H → r x y H Q) (hv : ∀ G, Dp K G v d) : EF C rho (.BinOp a op b pos) d :=
  ef_bin ho ha hb fun G H x y Q e t1 t2 q => hr G H x y Q e t1 t2 (q _ G H (Nx.refl e) (hv G))
theorem ef_add {i j : Int} (ha : EF C rho a (.int i)) (hb : EF C rho b (.int j)) : EF C rho (.BinOp a .Add b pos) (.int (i + j)) :=
  ef_op (fun _ => op_add) ha hb (fun G H x y Q e t1 t2 q => ⟨i, j, dp_int t1, dp_int t2, q⟩) fun G => .int _
theorem ef_sub {i j : Int} (ha : EF C rho a (.int i)) (hb : EF C rho b (.int j)) : EF C rho (.BinOp a .Sub b pos) (.int (i - j)) :=
  ef_op (fun _ => op_sub) ha hb (fun G H x y Q e t1 t2 q => ⟨i, j, dp_int t1, dp_int t2, q⟩) fun G => .int _
theorem ef_mul {i j : Int} (ha : EF C rho a (.int i)) (hb : EF C rho b (.int j)) (h : CMul i j) : EF C rho (.BinOp a .Mult b pos) (.int (i * j)) :=
  ef_op (fun _ => op_mul) ha hb (fun G H x y Q e t1 t2 q => ⟨i, j, dp_int t1, dp_int t2, h, q⟩) fun G => .int _
theorem ef_mod {i j : Int} (ha : EF C rho a (.int i)) (hb : EF C rho b (.int j)) (h : 0 < j) : EF C rho (.BinOp a .Mod b pos) (.int (i % j)) :=
  ef_op (fun _ => op_mod) ha hb (fun G H x y Q e t1 t2 q => ⟨i, j, dp_int t1, dp_int t2, h, q⟩) fun G => .int _
theorem ef_div {i j : Int} (ha : EF C rho a (.int i)) (hb : EF C rho b (.int j)) (h : CDiv i j) : EF C rho (.BinOp a .FloorDiv b pos) (.int (i / j)) :=
  ef_op (fun _ => op_fdiv) ha hb (fun G H x y Q e t1 t2 q => ⟨i, j, dp_int t1, dp_int t2, h, q⟩) fun G => .int _
theorem ef_pow {i j : Int} (ha : EF C rho a (.int i)) (hb : EF C rho b (.int j)) (h : CPow i j) : EF C rho (.BinOp a .Pow b pos) (.int (i ^ j.toNat)) :=
  ef_op (fun _ => op_pow) ha hb (fun G H x y Q e t1 t2 q => ⟨i, j, dp_int t1, dp_int t2, h, q⟩) fun G => .int _
theorem ec_lt {i j : Int} (ha : EF C rho a (.int i)) (hb : EF C rho b (.int j)) : EC C rho .Lt a b (decide (i < j)) := EC.of (fun _ => op_lt) ha hb fun G H x y Q e t1 t2 q => ⟨i, j, dp_int t1, dp_int t2, q⟩
theorem ec_le {i j : Int} (ha : EF C rho a (.int i)) (hb : EF C rho b (.int j)) : EC C rho .LtE a b (decide (i ≤ j)) := EC.of (fun _ => op_le) ha hb fun G H x y Q e t1 t2 q => ⟨i, j, dp_int t1, dp_int t2, q⟩
theorem ec_gt {i j : Int} (ha : EF C rho a (.int i)) (hb : EF C rho b (.int j)) : EC C rho .Gt a b (decide (j < i)) := EC.of (fun _ => op_gt) ha hb fun G H x y Q e t1 t2 q => ⟨i, j, dp_int t1, dp_int t2, q⟩
theorem ec_ge {i j : Int} (ha : EF C rho a (.int i)) (hb : EF C rho b (.int j)) : EC C rho .GtE a b (decide (j ≤ i)) := EC.of (fun _ => op_ge) ha hb fun G H x y Q e t1 t2 q => ⟨i, j, dp_int t1, dp_int t2, q⟩
theorem v_int {i j : Int} : decide (V.int i = V.int j) = decide (i = j) := by
  by_cases h : i = j
  · subst h; simp
  · rw [decide_eq_false h, decide_eq_false fun q => h (V.int.inj q)]
theorem v_str {i j : Str} : decide (V.str i = V.str j) = decide (i = j) := by
  by_cases h : i = j
  · subst h; simp
  · rw [decide_eq_false h, decide_eq_false fun q => h (V.str.inj q)]
theorem v_bl {i j : Bool} : decide (V.bl i = V.bl j) = (i == j) := by cases i <;> cases j <;> decide
theorem ec_eq {i j : Int} (ha : EF C rho a (.int i)) (hb : EF C rho b (.int j)) : EC C rho .Eq a b (decide (i = j)) := EC.of (fun _ => op_eq) ha hb fun G H x y Q e t1 t2 q => by
  rw [dp_int t1, dp_int t2]; exact ⟨rfl, by rw [v_int]; exact q⟩
theorem ec_ne {i j : Int} (ha : EF C rho a (.int i)) (hb : EF C rho b (.int j)) : EC C rho .NotEq a b (!decide (i = j)) := EC.of (fun _ => op_ne) ha hb fun G H x y Q e t1 t2 q => by
  rw [dp_int t1, dp_int t2]; exact ⟨rfl, by rw [v_int]; exact q⟩
theorem ec_eqS {i j : Str} (ha : EF C rho a (.str i)) (hb : EF C rho b (.str j)) : EC C rho .Eq a b (decide (i = j)) := EC.of (fun _ => op_eq) ha hb fun G H x y Q e t1 t2 q => by
  rw [dp_str t1, dp_str t2]; exact ⟨rfl, by rw [v_str]; exact q⟩
theorem ec_neB {i j : Bool} (ha : EF C rho a (.bool i)) (hb : EF C rho b (.bool j)) : EC C rho .NotEq a b (!(i == j)) := EC.of (fun _ => op_ne) ha hb fun G H x y Q e t1 t2 q => by
  rw [dp_bl t1, dp_bl t2]; exact ⟨rfl, by rw [v_bl]; exact q⟩
theorem ec_eqB {i j : Bool} (ha : EF C rho a (.bool i)) (hb : EF C rho b (.bool j)) : EC C rho .Eq a b (i == j) := EC.of (fun _ => op_eq) ha hb fun G H x y Q e t1 t2 q => by
  rw [dp_bl t1, dp_bl t2]; exact ⟨rfl, by rw [v_bl]; exact q⟩
theorem ec_ltS {i j : Str} (ha : EF C rho a (.str i)) (hb : EF C rho b (.str j)) : EC C rho .Lt a b (decide (i.cps.toList < j.cps.toList)) := EC.of (fun _ => op_lt_str) ha hb fun G H x y Q e t1 t2 q => ⟨i, j, dp_str t1, dp_str t2, q⟩
/-- a <= b < c -/
theorem ef_chain {op op' : CmpOp} {k l : Bool} (h1 : EF C rho a d1) (h2 : EF C rho b d2) (h3 : k = true → EF C rho c d3) {r r' : R2} (ho : ∀ i, OpR (C.X i) (compareOp op) r) (ho' : ∀ i, OpR (C.X i) (compareOp op') r')
    (hr : ∀ G H x y Q, Ex G H → Dp K G x d1 → Dp K G y d2 → Q (.bl k) H → r x y H Q) (hr' : k = true → ∀ G H x y Q, Ex G H → Dp K G x d2 → Dp K G y d3 → Q (.bl l) H → r' x y H Q) (hm : lastMarks [op, op'] [b, c] = false) : EF C rho (.Compare a [op, op'] [b, c] pos) (.bool (k && l)) :=
  EF.of (t := tChain r r' (wE C a) (wE C b) (wE C c)) (fun i => pe_chain (ho i) (ho' i) (pe_w i) (pe_w i) (pe_w i) hm) fun B σ G H Q q z => h1 B σ G H _ q fun x G1 H1 x1 t1 => h2 B σ G1 H1 _ (q.nx x1) fun y G2 H2 x2 t2 =>
    hr G2 H2 x y _ x2.s (dp_ex x2.g t1) t2 ⟨k, rfl, by
      cases k with
      | true => exact iteT (h3 rfl B σ G2 H2 _ ((q.nx x1).nx x2) fun v G3 H3 x3 t3 => hr' rfl G3 H3 y v _ x3.s (dp_ex x3.g t2) t3 (z _ G3 H3 ((x1.trans x2).trans x3) (.bl _)))
      | false => exact iteF (z _ G2 H2 (x1.trans x2) (.bl _))⟩
theorem ef_le_lt {i j k : Int} (h1 : EF C rho a (.int i)) (h2 : EF C rho b (.int j)) (h3 : EF C rho c (.int k)) (hm : lastMarks [.LtE, .Lt] [b, c] = false := by rfl) : EF C rho (.Compare a [.LtE, .Lt] [b, c] pos) (.bool (decide (i ≤ j) && decide (j < k))) :=
  ef_chain h1 h2 (fun _ => h3) (fun _ => op_le) (fun _ => op_lt) (fun G H x y Q e t1 t2 q => ⟨i, j, dp_int t1, dp_int t2, q⟩) (fun _ G H x y Q e t1 t2 q => ⟨j, k, dp_int t1, dp_int t2, q⟩) hm
theorem ef_le_le {i j k : Int} (h1 : EF C rho a (.int i)) (h2 : EF C rho b (.int j)) (h3 : EF C rho c (.int k)) (hm : lastMarks [.LtE, .LtE] [b, c] = false := by rfl) : EF C rho (.Compare a [.LtE, .LtE] [b, c] pos) (.bool (decide (i ≤ j) && decide (j ≤ k))) :=
  ef_chain h1 h2 (fun _ => h3) (fun _ => op_le) (fun _ => op_le) (fun G H x y Q e t1 t2 q => ⟨i, j, dp_int t1, dp_int t2, q⟩) (fun _ G H x y Q e t1 t2 q => ⟨j, k, dp_int t1, dp_int t2, q⟩) hm
/-- is None -/
def isNoneD : PyData → Bool
  | .none => true
  | _ => false
theorem dp_isN {G : Hp} {v : V} {d : PyData} (t : Dp K G v d) : decide (v = .non) = isNoneD d := by
  cases t <;> first | rfl | exact decide_eq_false (fun q => nomatch q)
theorem ec_isN (ha : EF C rho a d) (hb : EF C rho b .none) : EC C rho .Is a b (isNoneD d) := EC.of (fun _ => op_isN) ha hb fun G H x y Q e t1 t2 q => ⟨dp_non t2, by rw [dp_isN t1]; exact q⟩

/-! ### data compared -/
/-- data without dicts, at most n deep, texts in order -/
inductive Sh : Nat → PyData → Prop
  | non {n : Nat} : Sh n .none
  | bool {n : Nat} (b : Bool) : Sh n (.bool b)
  | int {n : Nat} (i : Int) : Sh n (.int i)
  | str {n : Nat} {x : Str} (h : PyData.strOk x = true) : Sh n (.str x)
  | list {n : Nat} {ds : List PyData} (h : ∀ d ∈ ds, Sh n d) : Sh (n + 1) (.list ds)
  | tuple {n : Nat} {ds : List PyData} (h : ∀ d ∈ ds, Sh n d) : Sh (n + 1) (.tuple ds)
theorem lay_all : ∀ {ds : List PyData}, (∀ d ∈ ds, PyData.canLay0 d = true) → PyData.canLayAll0 ds = true
  | [], _ => by simp [PyData.canLayAll0]
  | d :: ds, h => by
    simp only [PyData.canLayAll0, Bool.and_eq_true]
    exact ⟨h d List.mem_cons_self, lay_all fun x hx => h x (List.mem_cons_of_mem _ hx)⟩
theorem dep_all {n : Nat} : ∀ {ds : List PyData}, (∀ d ∈ ds, PyData.depth d ≤ n) → PyData.depthAll ds ≤ n
  | [], _ => by simp [PyData.depthAll]
  | d :: ds, h => by
    have h1 := h d List.mem_cons_self
    have h2 := dep_all fun x hx => h x (List.mem_cons_of_mem _ hx)
    simp only [PyData.depthAll]
    omega
theorem Sh.both {n : Nat} {d : PyData} (h : Sh n d) : d.canLay0 = true ∧ d.depth ≤ n := by
  induction h with
  | non => exact ⟨by simp [PyData.canLay0], by simp [PyData.depth]⟩
  | bool b => exact ⟨by simp [PyData.canLay0], by simp [PyData.depth]⟩
  | int i => exact ⟨by simp [PyData.canLay0], by simp [PyData.depth]⟩
  | str h => exact ⟨by simpa [PyData.canLay0] using h, by simp [PyData.depth]⟩
  | list h ih => 
    refine ⟨by simp only [PyData.canLay0]; exact lay_all fun d hd => (ih d hd).1, ?_⟩
    have := dep_all fun d hd => (ih d hd).2
    simp only [PyData.depth]; omega
  | tuple h ih => 
    refine ⟨by simp only [PyData.canLay0]; exact lay_all fun d hd => (ih d hd).1, ?_⟩
    have := dep_all fun d hd => (ih d hd).2
    simp only [PyData.depth]; omega
theorem Sh.shaped {n : Nat} {d : PyData} (h : Sh n d) (hn : n ≤ 64 := by decide) : SeqAt.shaped d = true := by
  obtain ⟨h1, h2⟩ := h.both
  show (d.canLay0 && decide (d.depth ≤ 64)) = true
  rw [Bool.and_eq_true]
  exact ⟨h1, decide_eq_true (by omega)⟩
theorem ec_eqD (ha : EF C rho a d1) (hb : EF C rho b d2) {n m : Nat} (h1 : Sh n d1) (h2 : Sh m d2) (hn : n ≤ 64 := by decide) (hm : m ≤ 64 := by decide) : EC C rho .Eq a b (PyData.eqv d1 d2) :=
  EC.of (r := rEqD K) (fun i => C.k i (fun k => OpR (C.X i) _ (rEqD k)) (op_eqD (C.hu1 i))) ha hb fun G H x y Q e t1 t2 q => ⟨d1, d2, dp_ex e t1, dp_ex e t2, h1.shaped hn, h2.shaped hm, q⟩
theorem ec_neD (ha : EF C rho a d1) (hb : EF C rho b d2) {n m : Nat} (h1 : Sh n d1) (h2 : Sh m d2) (hn : n ≤ 64 := by decide) (hm : m ≤ 64 := by decide) : EC C rho .NotEq a b (!PyData.eqv d1 d2) :=
  EC.of (r := rNeD K) (fun i => C.k i (fun k => OpR (C.X i) _ (rNeD k)) (op_neD (C.hu1 i))) ha hb fun G H x y Q e t1 t2 q => ⟨d1, d2, dp_ex e t1, dp_ex e t2, h1.shaped hn, h2.shaped hm, q⟩
/-- the right operand a list or tuple that may be the def's own -/
theorem EC.ofL {op : CmpOp} {r : R2} {k l : Bool} (ho : ∀ i, OpR (C.X i) (compareOp op) r) (ha : EF C rho a d1) (hb : EL C rho b l ds) (hr : ∀ G H x p vs Q, Ex G H → Dp K G x d1 → Sq K l H p vs → DpAll K G vs ds → Q (.bl k) H → r x (.ref p) H Q) : EC C rho op a b k :=
  ⟨r, ho, fun B σ G H Q q z => ha B σ G H _ q fun x G1 H1 x1 t1 => hb B σ G1 H1 _ (q.nx x1) fun p vs G2 H2 x2 s2 t2 => hr G2 H2 x p vs _ x2.s (dp_ex x2.g t1) s2 t2 (z _ G2 H2 (x1.trans x2) (.bl _))⟩
theorem ec_inD (ha : EF C rho a d) (hb : EL C rho b true ds) {n m : Nat} (h1 : Sh n d) (h2 : Sh m (.list ds)) (hn : n ≤ 64 := by decide) (hm : m ≤ 64 := by decide) : EC C rho .In a b (ds.any fun z => PyData.eqv z d) :=
  EC.ofL (r := rInD K) (fun i => C.k i (fun k => OpR (C.X i) _ (rInD k)) (op_inD (C.hu i))) ha hb fun G H x p vs Q e t1 s2 t2 q => ⟨d, ds, dp_ex e t1, .lst (of_sq_l s2) (dpa_ex e t2), h1.shaped hn, h2.shaped hm, q⟩
theorem ec_notInD (ha : EF C rho a d) (hb : EL C rho b true ds) {n m : Nat} (h1 : Sh n d) (h2 : Sh m (.list ds)) (hn : n ≤ 64 := by decide) (hm : m ≤ 64 := by decide) : EC C rho .NotIn a b (!ds.any fun z => PyData.eqv z d) :=
  EC.ofL (r := rNotInD K) (fun i => C.k i (fun k => OpR (C.X i) _ (rNotInD k)) (op_notInD (C.hu i))) ha hb fun G H x p vs Q e t1 s2 t2 q => ⟨d, ds, dp_ex e t1, .lst (of_sq_l s2) (dpa_ex e t2), h1.shaped hn, h2.shaped hm, q⟩
theorem dpa_strs {G : Hp} : ∀ {vs : List V} {ns : List Str}, DpAll K G vs (ns.map .str) → vs = ns.map .str
  | _, [], .nil => rfl
  | _, n :: ns, .cons h t => by rw [List.map_cons, dp_str h, dpa_strs t]
theorem dpa_ints {G : Hp} : ∀ {vs : List V} {ns : List Int}, DpAll K G vs (ns.map .int) → vs = ns.map .int
  | _, [], .nil => rfl
  | _, n :: ns, .cons h t => by rw [List.map_cons, dp_int h, dpa_ints t]
theorem dpa_bls {G : Hp} : ∀ {vs : List V} {ns : List Bool}, DpAll K G vs (ns.map .bool) → vs = ns.map .bl
  | _, [], .nil => rfl
  | _, n :: ns, .cons h t => by rw [List.map_cons, dp_bl h, dpa_bls t]
theorem of_dpa_strs {G : Hp} : ∀ (ns : List Str), DpAll K G (ns.map .str) (ns.map .str)
  | [] => .nil
  | n :: ns => .cons (.str n) (of_dpa_strs ns)
theorem flat_strs : ∀ ns : List Str, (ns.map V.str).all flatV = true
  | [] => rfl
  | n :: ns => by rw [List.map_cons, List.all_cons, flat_strs ns]; rfl
theorem inV_strs (s : Str) : ∀ ns : List Str, inV (.str s) (ns.map V.str) = decide (s ∈ ns)
  | [] => rfl
  | n :: ns => by
    have ih := inV_strs s ns
    unfold inV at ih ⊢
    rw [List.map_cons, List.any_cons, ih]
    have e : eqV (.str n) (.str s) = decide (n = s) := by first | rfl | simp [eqV]
    rw [e]
    by_cases h : n = s
    · subst h; simp
    · have h2 : ¬ s = n := fun q => h q.symm
      simp [h, h2]
theorem ec_inS {s : Str} {ns : List Str} {l : Bool} (ha : EF C rho a (.str s)) (hb : EL C rho b l (ns.map .str)) : EC C rho .In a b (decide (s ∈ ns)) :=
  EC.ofL (r := rIn K false) (fun i => C.k i (fun k => OpR (C.X i) _ (rIn k false)) op_in_seq) ha hb fun G H x p vs Q e t1 s2 t2 q => by
    have ev := dpa_strs t2
    subst ev
    rw [dp_str t1]
    refine ⟨p, _, rfl, ?_, rfl, flat_strs ns, by rw [if_neg Bool.false_ne_true, inV_strs]; exact q⟩
    cases l with
    | true => exact .inl (of_sq_l s2)
    | false => exact .inr (of_sq_t s2)
theorem ec_notInS {s : Str} {ns : List Str} {l : Bool} (ha : EF C rho a (.str s)) (hb : EL C rho b l (ns.map .str)) : EC C rho .NotIn a b (!decide (s ∈ ns)) :=
  EC.ofL (r := rIn K true) (fun i => C.k i (fun k => OpR (C.X i) _ (rIn k true)) op_notIn_seq) ha hb fun G H x p vs Q e t1 s2 t2 q => by
    have ev := dpa_strs t2
    subst ev
    rw [dp_str t1]
    refine ⟨p, _, rfl, ?_, rfl, flat_strs ns, by rw [if_pos rfl, inV_strs]; exact q⟩
    cases l with
    | true => exact .inl (of_sq_l s2)
    | false => exact .inr (of_sq_t s2)
theorem ec_inSign {c0 : Nat} {z : Str} (ha : EF C rho a (.str ⟨#[c0]⟩)) (hb : EF C rho b (.str z)) : EC C rho .In a b (decide (c0 ∈ z.cps.toList)) :=
  EC.of (fun _ => op_in_sign) ha hb fun G H x y Q e t1 t2 q => ⟨c0, z, dp_str t1, dp_str t2, q⟩
/-! ### displays -/
theorem ea_nil : EA C rho [] [] := EA.of (t := tNil) (fun i => pa_nil) fun B σ G H Q r q => q [] G H (Nx.refl r.e) .nil
theorem ea_cons (h : EF C rho e d) (t : EA C rho es ds) (hs : ∀ i, starEach (e :: es) (C.X i).env = (false, eval e (C.X i).env) :: starEach es (C.X i).env := by intro _; rfl) : EA C rho (e :: es) (d :: ds) :=
  EA.of (t := tCons (wE C e) (wA C es)) (fun i => pa_cons (pe_w i) (pa_w i) (hs i)) fun B σ G H Q r q => h B σ G H _ r fun v G1 H1 x1 t1 => t B σ G1 H1 _ (r.nx x1) fun vs G2 H2 x2 t2 => q _ G2 H2 (x1.trans x2) (.cons (dp_ex x2.g t1) t2)
theorem ea_star {k : Bool} (h : EL C rho e k xs) (t : EA C rho es ds) (hs : ∀ i, starEach (.Starred e p :: es) (C.X i).env = (true, eval e (C.X i).env) :: starEach es (C.X i).env := by intro _; rfl) : EA C rho (.Starred e p :: es) (xs ++ ds) :=
  EA.of (t := StX.tStar K (wE C e) (wA C es)) (fun i => C.k i (fun k => PA (C.X i) _ (StX.tStar k _ _)) (StX.pa_star (pe_w i) (pa_w i) (hs i))) fun B σ G H Q r q => h B σ G H _ r fun a vs G1 H1 x1 s1 t1 => by
    refine ⟨a, vs, rfl, ?_, t B σ G1 H1 _ (r.nx x1) fun ws G2 H2 x2 t2 => q _ G2 H2 (x1.trans x2) (dpa_app (dpa_ex x2.g t1) t2)⟩
    cases k with
    | true => exact .inr (of_sq_l s1)
    | false => exact .inl (of_sq_t s1)
theorem sz_of {n : Nat} (h : n ≤ 100000) : n ≤ sizeLine := Nat.le_trans h (by decide)
theorem sz_lt {n : Nat} (h : n < 100000) : n < sizeLine := Nat.lt_of_lt_of_le h (by decide)
theorem ef_tup {k : Nat} (h : EA C rho es ds) (hl : ds.length ≤ 100000 := by first | decide | simp) : EF C rho (.Tuple es k pos) (.tuple ds) :=
  EF.of (t := tTup (wA C es)) (fun i => pe_tup (pa_w i)) fun B σ G H Q r q => h B σ G H _ r fun vs G1 H1 x1 t1 => ⟨by rw [dpa_len t1]; exact sz_of hl, fun p hp =>
    q _ (upd G1 p (.tup vs)) _ (x1.trans (Nx.new x1.s hp)) (.tup (SqT.of upd_same) (dpa_ex (Ex.upd (x1.s.free hp)) t1))⟩
theorem en_lst (h : EA C rho es ds) (hl : ds.length ≤ 100000 := by first | decide | simp) : EN C rho (.List es pos) ds :=
  EN.of (t := tLst (wA C es)) (fun i => pe_lst (pa_w i)) fun B σ G H Q r q => h B σ G H _ r fun vs G1 H1 x1 t1 => ⟨by rw [dpa_len t1]; exact sz_of hl, fun p hp =>
    q p vs G1 _ (x1.trans (Nx.priv x1.s hp)) (x1.h.free hp) (x1.s.free hp) upd_same t1⟩
end
end DL

set_option maxRecDepth 100000
set_option maxHeartbeats 1000000
/-! DL, part 4: subscripts, slices, calls. -/
namespace DL
open PySem L2
/-- the built-ins' names are what they were -/
structure Blt (mg : Str → Option Value) : Prop where
  len : mg "len" = none
  isi : mg "isinstance" = none
  int : mg "int" = none
  str : mg "str" = none
  bool : mg "bool" = none
  list : mg "list" = none
  tuple : mg "tuple" = none
  all : mg "all" = none
  any : mg "any" = none
  zip : mg "zip" = none
  sorted : mg "sorted" = none
  set : mg "set" = none
  range : mg "range" = none
  enumerate : mg "enumerate" = none
  abs : mg "abs" = none
  verr : mg "ValueError" = none
section
variable {P : Program} {w : World} {K : PySem.W.Frag} {mg : Str → Option Value} {base : Heap} {C : Ctx P w K mg base} {rho : List SV} {e a b c : Expr} {es : List Expr} {d d1 d2 d3 : PyData} {ds xs ys : List PyData} {pos p p2 apos cpos : Pos}
theorem atI_dpa {G : Hp} {vs : List V} {i : Int} (t : DpAll K G vs ds) (h : atI ds i = some d) : ∃ v, atI vs i = some v ∧ Dp K G v d := by
  unfold atI at h ⊢
  rw [dpa_len t]
  cases q : ixN ds.length i with
  | none => rw [q] at h; cases h
  | some j =>
    rw [q] at h
    exact dpa_get t h
/-- x[i]: of a list, of a tuple -/
theorem ef_ixL {i : Int} (h1 : EL C rho a true ds) (h2 : EF C rho b (.int i)) (h : atI ds i = some d) (hs : PlainIx b := by intro _ _; rfl) : EF C rho (.Subscript a b pos) d :=
  EF.of (t := tOp (rIxL K) (wE C a) (wE C b)) (fun j => pe_ix (C.k j (fun k => IxR (C.X j) (rIxL k)) ix_list) (pe_w j) (pe_w j) hs) fun B σ G H Q q z => h1 B σ G H _ q fun p vs G1 H1 x1 s1 t1 => h2 B σ G1 H1 _ (q.nx x1) fun y G2 H2 x2 t2 => by
    obtain ⟨v, e1, e2⟩ := atI_dpa (dpa_ex x2.g t1) h
    exact ⟨p, vs, i, v, rfl, dp_int t2, of_sq_l (sq_ex x2.h s1), e1, z v G2 H2 (x1.trans x2) e2⟩
theorem ef_ixT {i : Int} (h1 : EL C rho a false ds) (h2 : EF C rho b (.int i)) (h : atI ds i = some d) (hs : PlainIx b := by intro _ _; rfl) : EF C rho (.Subscript a b pos) d :=
  EF.of (t := tOp (rIxT K) (wE C a) (wE C b)) (fun j => pe_ix (C.k j (fun k => IxR (C.X j) (rIxT k)) ix_tup) (pe_w j) (pe_w j) hs) fun B σ G H Q q z => h1 B σ G H _ q fun p vs G1 H1 x1 s1 t1 => h2 B σ G1 H1 _ (q.nx x1) fun y G2 H2 x2 t2 => by
    obtain ⟨v, e1, e2⟩ := atI_dpa (dpa_ex x2.g t1) h
    exact ⟨p, vs, i, v, rfl, dp_int t2, of_sq_t (sq_ex x2.h s1), e1, z v G2 H2 (x1.trans x2) e2⟩
/-- an optional part of a slice -/
def OkP (t : TO) (rho : List SV) (o : Option Int) : Prop := ∀ B σ G H Q, Rl K B G H rho σ → (∀ G' H', Nx G H G' H' → Q o H') → t σ H Q
def EP2 (C : Ctx P w K mg base) (rho : List SV) (e : Option Expr) (o : Option Int) : Prop := ∃ t, (∀ i, PO (C.X i) e t) ∧ OkP (K := K) t rho o
theorem ep_none : EP2 C rho none none := ⟨tNoPart, fun i => po_none, fun B σ G H Q q z => z G H (Nx.refl q.e)⟩
theorem ep_some {i : Int} (h : EF C rho e (.int i)) : EP2 C rho (some e) (some i) := ⟨tPart (wE C e), fun i => po_some (pe_w i), fun B σ G H Q q z => h B σ G H _ q fun v G' H' x t => ⟨i, dp_int t, z G' H' x⟩⟩
def cutD {α : Type} (xs : List α) (lo hi : Option Int) : List α := (xs.drop (HT.sIx xs.length 0 lo)).take (HT.sIx xs.length xs.length hi - HT.sIx xs.length 0 lo)
theorem dpa_cut {G : Hp} {vs : List V} {lo hi : Option Int} (t : DpAll K G vs ds) : DpAll K G (cutV vs lo hi) (cutD ds lo hi) := by
  unfold cutV cutD
  rw [dpa_len t]
  exact dpa_take _ (dpa_drop _ t)
theorem en_slice {lo hi : Option Expr} {l u : Option Int} (h : EL C rho a true ds) (h1 : EP2 C rho lo l) (h2 : EP2 C rho hi u) : EN C rho (.Subscript a (.Slice lo hi none p2) pos) (cutD ds l u) := by
  obtain ⟨tl, pl, ol⟩ := h1
  obtain ⟨th, ph, oh⟩ := h2
  exact EN.of (t := tSl (rSlL K) (wE C a) tl th) (fun j => pe_slice (C.k j (fun k => SlR (C.X j) (rSlL k)) sl_list) (pe_w j) (pl j) (ph j)) fun B σ G H Q q z => h B σ G H _ q fun p vs G1 H1 x1 s1 t1 =>
    ol B σ G1 H1 _ (q.nx x1) fun G2 H2 x2 => oh B σ G2 H2 _ ((q.nx x1).nx x2) fun G3 H3 x3 => ⟨p, vs, rfl, of_sq_l (sq_ex x3.h (sq_ex x2.h s1)), fun a ha => by
      have x := (x1.trans x2).trans x3
      exact z a _ G3 _ (x.trans (Nx.priv x3.s ha)) (x.h.free ha) (x3.s.free ha) upd_same (dpa_cut (dpa_ex x3.g (dpa_ex x2.g t1)))⟩
theorem ef_sliceT {lo hi : Option Expr} {l u : Option Int} (h : EF C rho a (.tuple ds)) (h1 : EP2 C rho lo l) (h2 : EP2 C rho hi u) : EF C rho (.Subscript a (.Slice lo hi none p2) pos) (.tuple (cutD ds l u)) := by
  obtain ⟨tl, pl, ol⟩ := h1
  obtain ⟨th, ph, oh⟩ := h2
  exact EF.of (t := tSl (rSlA K) (wE C a) tl th) (fun j => pe_slice (C.k j (fun k => SlR (C.X j) (rSlA k)) sl_tupA) (pe_w j) (pl j) (ph j)) fun B σ G H Q q z => h B σ G H _ q fun v G1 H1 x1 tt =>
    ol B σ G1 H1 _ (q.nx x1) fun G2 H2 x2 => oh B σ G2 H2 _ ((q.nx x1).nx x2) fun G3 H3 x3 => by
      obtain ⟨p, vs, rfl, s1, t1⟩ := dp_tup (dp_ex x3.g (dp_ex x2.g tt))
      have x := (x1.trans x2).trans x3
      have l1 := dpa_len t1
      refine ⟨p, vs, rfl, SqT.ex x3.s s1, fun ⟨e1, e2⟩ => ?_, fun _ a ha => ?_⟩
      · have ec : cutD ds l u = ds := by
          unfold cutD
          rw [← l1, e1, e2, List.drop_zero, Nat.sub_zero, l1, List.take_length]
        have z' := z (.ref p) G3 H3 x
        rw [ec] at z'
        exact z' (.tup s1 t1)
      · exact z _ (upd G3 a (.tup (cutV vs l u))) _ (x.trans (Nx.new x3.s ha)) (.tup (SqT.of upd_same) (dpa_ex (Ex.upd (x3.s.free ha)) (dpa_cut t1)))
/-- xs[::-1] -/
theorem en_rev {k : Nat} {p1 p3 : Pos} (h : EL C rho a true ds) : EN C rho (.Subscript a (.Slice none none (some (.UnaryOp .USub (.Constant (.int 1) k p1) p2)) p3) pos) ds.reverse :=
  EN.of (t := tRevL K (wE C a)) (fun j => C.k j (fun k => PE (C.X j) _ (tRevL k _)) (pe_revL (pe_w j))) fun B σ G H Q q z => h B σ G H _ q fun p vs G1 H1 x1 s1 t1 => ⟨p, vs, rfl, of_sq_l s1, fun a ha =>
    z a _ G1 _ (x1.trans (Nx.priv x1.s ha)) (x1.h.free ha) (x1.s.free ha) upd_same (dpa_rev t1)⟩

/-! ### built-in functions -/
theorem ok_cb {r : List V → Hp → VK → Prop} {ta : TA} (ha : OkA K ta rho ds) (hr : ∀ G H vs Q, Ex G H → DpAll K G vs ds → (∀ v G' H', Nx G H G' H' → Dp K G' v d → Q v H') → r vs H Q) : OkF K (tCB r ta) rho d :=
  fun B σ G H Q q z => ha B σ G H _ q fun vs G1 H1 x1 t1 => hr G1 H1 vs Q x1.s t1 fun v G2 H2 x2 t2 => z v G2 H2 (x1.trans x2) t2
theorem dpa1 {G : Hp} {vs : List V} (h : DpAll K G vs [d]) : ∃ v, vs = [v] ∧ Dp K G v d := by
  cases h with
  | cons h t => cases t; exact ⟨_, rfl, h⟩
theorem dpa2 {G : Hp} {vs : List V} (h : DpAll K G vs [d1, d2]) : ∃ v u, vs = [v, u] ∧ Dp K G v d1 ∧ Dp K G u d2 := by
  cases h with
  | cons h t => 
    cases t with
    | cons h2 t => cases t; exact ⟨_, _, rfl, h, h2⟩
theorem ef_len {k : Bool} (T : Blt mg) (h : EL C rho e k ds) (hg : ∀ i, Gl (C.X i) "len" := by intro _; rfl) (he : ∀ i, starEach (e :: []) (C.X i).env = (false, eval e (C.X i).env) :: starEach [] (C.X i).env := by intro _; rfl) : EF C rho (.Call (.Name "len" p) [e] [] pos) (.int ds.length) :=
  EF.of (t := tCB (fun xs H Q => ∃ p ys, xs = [.ref p] ∧ (SqL K H p ys ∨ SqT K H p ys) ∧ Q (.int ys.length) H) (tCons (wE C e) tNil)) (fun i => pe_callB (C.k i (fun k => CallR (C.X i) _ (fun xs H Q => ∃ p ys, xs = [.ref p] ∧ (SqL k H p ys ∨ SqT k H p ys) ∧ Q (.int ys.length) H)) call_len_seq) (hg i) (by rw [C.hmg]; exact T.len) PySem.boot_len (pa_cons (pe_w i) pa_nil (he i)) (he := he i)) fun B σ G H Q q z => h B σ G H _ q fun p vs G1 H1 x1 s1 t1 => by
    refine ⟨p, vs, rfl, ?_, ?_⟩
    · cases k with
      | true => exact .inl (of_sq_l s1)
      | false => exact .inr (of_sq_t s1)
    · rw [dpa_len t1]
      exact z _ G1 H1 x1 (.int _)
theorem ef_lenS (T : Blt mg) {s : Str} (h : EF C rho e (.str s)) (hl : s.length ≤ 100000) (hg : ∀ i, Gl (C.X i) "len" := by intro _; rfl) (he : ∀ i, starEach (e :: []) (C.X i).env = (false, eval e (C.X i).env) :: starEach [] (C.X i).env := by intro _; rfl) : EF C rho (.Call (.Name "len" p) [e] [] pos) (.int s.length) :=
  EF.of (fun i => pe_callB call_len_str (hg i) (by rw [C.hmg]; exact T.len) PySem.boot_len (pa_cons (pe_w i) pa_nil (he i)) (he := he i)) fun B σ G H Q q z => h B σ G H _ q fun v G1 H1 x1 t1 => by
    rw [dp_str t1]
    exact ⟨s, rfl, sz_of hl, z _ G1 H1 x1 (.int _)⟩
theorem ef_abs (T : Blt mg) {n : Int} (h : EF C rho e (.int n)) (hg : ∀ i, Gl (C.X i) "abs" := by intro _; rfl) (he : ∀ i, starEach (e :: []) (C.X i).env = (false, eval e (C.X i).env) :: starEach [] (C.X i).env := by intro _; rfl) : EF C rho (.Call (.Name "abs" p) [e] [] pos) (.int (if n < 0 then -n else n)) :=
  EF.of (fun i => pe_callB call_abs (hg i) (by rw [C.hmg]; exact T.abs) PyProof.Rows.boot_abs (pa_cons (pe_w i) pa_nil (he i)) (he := he i)) fun B σ G H Q q z => h B σ G H _ q fun v G1 H1 x1 t1 => by
    rw [dp_int t1]
    exact ⟨n, rfl, z _ G1 H1 x1 (.int _)⟩
theorem ef_intI (T : Blt mg) {n : Int} (h : EF C rho e (.int n)) (hg : ∀ i, Gl (C.X i) "int" := by intro _; rfl) (he : ∀ i, starEach (e :: []) (C.X i).env = (false, eval e (C.X i).env) :: starEach [] (C.X i).env := by intro _; rfl) : EF C rho (.Call (.Name "int" p) [e] [] pos) (.int n) :=
  EF.of (fun i => pe_callTy call_int1 (hg i) (by rw [C.hmg]; exact T.int) PyProof.Rows.boot_int (pa_cons (pe_w i) pa_nil (he i)) (he := he i)) fun B σ G H Q q z => h B σ G H _ q fun v G1 H1 x1 t1 => by
    rw [dp_int t1]
    exact .inl ⟨n, rfl, z _ G1 H1 x1 (.int _)⟩
theorem ef_intB (T : Blt mg) {k : Bool} (h : EF C rho e (.bool k)) (hg : ∀ i, Gl (C.X i) "int" := by intro _; rfl) (he : ∀ i, starEach (e :: []) (C.X i).env = (false, eval e (C.X i).env) :: starEach [] (C.X i).env := by intro _; rfl) : EF C rho (.Call (.Name "int" p) [e] [] pos) (.int (if k then 1 else 0)) :=
  EF.of (fun i => pe_callTy call_int1 (hg i) (by rw [C.hmg]; exact T.int) PyProof.Rows.boot_int (pa_cons (pe_w i) pa_nil (he i)) (he := he i)) fun B σ G H Q q z => h B σ G H _ q fun v G1 H1 x1 t1 => by
    rw [dp_bl t1]
    exact .inr ⟨k, rfl, z _ G1 H1 x1 (.int _)⟩
/-- tuple(xs), xs a list -/
theorem ef_tupleL (T : Blt mg) (h : EL C rho e true ds) (hg : ∀ i, Gl (C.X i) "tuple" := by intro _; rfl) (he : ∀ i, starEach (e :: []) (C.X i).env = (false, eval e (C.X i).env) :: starEach [] (C.X i).env := by intro _; rfl) : EF C rho (.Call (.Name "tuple" p) [e] [] pos) (.tuple ds) :=
  EF.of (t := tCB (fun xs H Q => ∃ p ys, xs = [.ref p] ∧ ((SqL K H p ys ∧ ∀ l, H l = none → Q (.ref l) (upd H l (.tup ys))) ∨ (SqT K H p ys ∧ Q (.ref p) H))) (tCons (wE C e) tNil)) (fun i => pe_callTy (C.k i (fun k => CallR (C.X i) _ (fun xs H Q => ∃ p ys, xs = [.ref p] ∧ ((SqL k H p ys ∧ ∀ l, H l = none → Q (.ref l) (upd H l (.tup ys))) ∨ (SqT k H p ys ∧ Q (.ref p) H)))) call_tuple_of) (hg i) (by rw [C.hmg]; exact T.tuple) PyProof.Rows.boot_tuple (pa_cons (pe_w i) pa_nil (he i)) (he := he i)) fun B σ G H Q q z => h B σ G H _ q fun p vs G1 H1 x1 s1 t1 =>
    ⟨p, vs, rfl, .inl ⟨of_sq_l s1, fun l hl => z _ (upd G1 l (.tup vs)) _ (x1.trans (Nx.new x1.s hl)) (.tup (SqT.of upd_same) (dpa_ex (Ex.upd (x1.s.free hl)) t1))⟩⟩
theorem ef_tupleT (T : Blt mg) (h : EF C rho e (.tuple ds)) (hg : ∀ i, Gl (C.X i) "tuple" := by intro _; rfl) (he : ∀ i, starEach (e :: []) (C.X i).env = (false, eval e (C.X i).env) :: starEach [] (C.X i).env := by intro _; rfl) : EF C rho (.Call (.Name "tuple" p) [e] [] pos) (.tuple ds) :=
  EF.of (t := tCB (fun xs H Q => ∃ a ys, xs = [.ref a] ∧ SqT K H a ys ∧ Q (.ref a) H) (tCons (wE C e) tNil)) (fun i => pe_callTy (C.k i (fun k => CallR (C.X i) _ (fun xs H Q => ∃ a ys, xs = [.ref a] ∧ SqT k H a ys ∧ Q (.ref a) H)) call_tupleT) (hg i) (by rw [C.hmg]; exact T.tuple) PyProof.Rows.boot_tuple (pa_cons (pe_w i) pa_nil (he i)) (he := he i)) fun B σ G H Q q z => h B σ G H _ q fun v G1 H1 x1 t1 => by
    obtain ⟨p, vs, rfl, s1, t2⟩ := dp_tup t1
    exact ⟨p, vs, rfl, SqT.ex x1.s s1, z _ G1 H1 x1 (.tup s1 t2)⟩
/-- list(xs) -/
theorem en_list {k : Bool} (T : Blt mg) (h : EL C rho e k ds) (hg : ∀ i, Gl (C.X i) "list" := by intro _; rfl) (he : ∀ i, starEach (e :: []) (C.X i).env = (false, eval e (C.X i).env) :: starEach [] (C.X i).env := by intro _; rfl) : EN C rho (.Call (.Name "list" p) [e] [] pos) ds :=
  EN.of (t := tCB (fun xs H Q => ∃ p ys, xs = [.ref p] ∧ (SqL K H p ys ∨ SqT K H p ys) ∧ ∀ l, H l = none → Q (.ref l) (upd H l (.lst ys))) (tCons (wE C e) tNil)) (fun i => pe_callTy (C.k i (fun k => CallR (C.X i) _ (fun xs H Q => ∃ p ys, xs = [.ref p] ∧ (SqL k H p ys ∨ SqT k H p ys) ∧ ∀ l, H l = none → Q (.ref l) (upd H l (.lst ys)))) call_list_of) (hg i) (by rw [C.hmg]; exact T.list) PyProof.Rows.boot_list (pa_cons (pe_w i) pa_nil (he i)) (he := he i)) fun B σ G H Q q z => h B σ G H _ q fun p vs G1 H1 x1 s1 t1 => by
    refine ⟨p, vs, rfl, ?_, fun l hl => z l _ G1 _ (x1.trans (Nx.priv x1.s hl)) (x1.h.free hl) (x1.s.free hl) upd_same t1⟩
    cases k with
    | true => exact .inl (of_sq_l s1)
    | false => exact .inr (of_sq_t s1)
/-- all([..]), any([..]) of truth values -/
theorem ef_all (T : Blt mg) {bs : List Bool} (h : EL C rho e true (bs.map .bool)) (hg : ∀ i, Gl (C.X i) "all" := by intro _; rfl) (he : ∀ i, starEach (e :: []) (C.X i).env = (false, eval e (C.X i).env) :: starEach [] (C.X i).env := by intro _; rfl) : EF C rho (.Call (.Name "all" p) [e] [] pos) (.bool (bs.all id)) :=
  EF.of (t := tCB (rAll K) (tCons (wE C e) tNil)) (fun i => pe_callB (C.k i (fun k => CallR (C.X i) _ (rAll k)) (cr_all (C.calm i))) (hg i) (by rw [C.hmg]; exact T.all) PyProof.Rows.boot_all (pa_cons (pe_w i) pa_nil (he i)) (he := he i)) fun B σ G H Q q z => h B σ G H _ q fun p vs G1 H1 x1 s1 t1 =>
    ⟨p, bs, rfl, by rw [← dpa_bls t1]; exact of_sq_l s1, z _ G1 H1 x1 (.bl _)⟩
theorem ef_any (T : Blt mg) {bs : List Bool} (h : EL C rho e true (bs.map .bool)) (hg : ∀ i, Gl (C.X i) "any" := by intro _; rfl) (he : ∀ i, starEach (e :: []) (C.X i).env = (false, eval e (C.X i).env) :: starEach [] (C.X i).env := by intro _; rfl) : EF C rho (.Call (.Name "any" p) [e] [] pos) (.bool (bs.any id)) :=
  EF.of (t := tCB (rAny K) (tCons (wE C e) tNil)) (fun i => pe_callB (C.k i (fun k => CallR (C.X i) _ (rAny k)) (cr_any (C.calm i))) (hg i) (by rw [C.hmg]; exact T.any) PyProof.Rows.boot_any (pa_cons (pe_w i) pa_nil (he i)) (he := he i)) fun B σ G H Q q z => h B σ G H _ q fun p vs G1 H1 x1 s1 t1 =>
    ⟨p, bs, rfl, by rw [← dpa_bls t1]; exact of_sq_l s1, z _ G1 H1 x1 (.bl _)⟩

/-! ### sequences put together -/
theorem en_cat (ha : EN C rho a xs) (hb : EN C rho b ys) (hl : xs.length + ys.length ≤ 100000) : EN C rho (.BinOp a .Add b pos) (xs ++ ys) :=
  EN.of (t := tOp rCat (wE C a) (wE C b)) (fun i => pe_op op_cat (pe_w i) (pe_w i)) fun B σ G H Q q z => ha B σ G H _ q fun l vs G1 H1 x1 n1 g1 h1 t1 => hb B σ G1 H1 _ (q.nx x1) fun l2 us G2 H2 x2 n2 g2 h2 t2 =>
    ⟨l, l2, vs, us, rfl, rfl, x2.h _ _ h1, h2, by rw [dpa_len t1, dpa_len t2]; exact sz_of hl, fun p hp => z p _ G2 _ ((x1.trans x2).trans (Nx.priv x2.s hp)) ((x1.trans x2).h.free hp) (x2.s.free hp) upd_same (dpa_app (dpa_ex x2.g t1) t2)⟩
/-- a list's object as it is tracked: made new, or the def's own, or frozen -/
def ES (C : Ctx P w K mg base) (rho : List SV) (e : Expr) (ds : List PyData) : Prop := ∀ B σ G H Q, Rl K B G H rho σ → (∀ p vs G' H', Nx G H G' H' → H' p = some (.lst vs) → DpAll K G' vs ds → Q (.ref p) H') → wE C e σ H Q
theorem EN.s (h : EN C rho e ds) : ES C rho e ds := fun B σ G H Q q z => h B σ G H Q q fun p vs G' H' x _ _ h1 t => z p vs G' H' x h1 t
theorem es_own (k : Nat) {x : Str} (hN : C.N[k]? = some x) (hr : rho[k]? = some (.own ds)) (hv : ∀ i, Vis (C.X i).env.scope x) (hd : (x == ("__debug__" : Str)) = false := by decide) (hcd : (x == ("__classdict__" : Str)) = false := by decide) : ES C rho (.Name x pos) ds := fun B σ G H Q q z i pins s I =>
  (pe_var (X := C.X i) (by rw [C.hN]; exact hN) (hv i) hd hcd).run pins s σ H Q I (by
    obtain ⟨l, vs, e1, e2, e3, e4, e5⟩ := q.sl k _ hr
    exact ⟨_, e1, z l vs G H (Nx.refl q.e) e2 e5⟩)
theorem en_catS (ha : ES C rho a xs) (hb : ES C rho b ys) (hl : xs.length + ys.length ≤ 100000) : EN C rho (.BinOp a .Add b pos) (xs ++ ys) :=
  EN.of (t := tOp rCat (wE C a) (wE C b)) (fun i => pe_op op_cat (pe_w i) (pe_w i)) fun B σ G H Q q z => ha B σ G H _ q fun l vs G1 H1 x1 h1 t1 => hb B σ G1 H1 _ (q.nx x1) fun l2 us G2 H2 x2 h2 t2 =>
    ⟨l, l2, vs, us, rfl, rfl, x2.h _ _ h1, h2, by rw [dpa_len t1, dpa_len t2]; exact sz_of hl, fun p hp => z p _ G2 _ ((x1.trans x2).trans (Nx.priv x2.s hp)) ((x1.trans x2).h.free hp) (x2.s.free hp) upd_same (dpa_app (dpa_ex x2.g t1) t2)⟩
theorem en_rep {n : Int} (ha : ES C rho a xs) (hb : EF C rho b (.int n)) (h0 : 0 ≤ n) (h1 : n ≤ 1000) (hl : xs.length * n.toNat ≤ 100000) : EN C rho (.BinOp a .Mult b pos) (List.replicate n.toNat xs).flatten :=
  EN.of (t := tOp rRep (wE C a) (wE C b)) (fun i => pe_op op_rep (pe_w i) (pe_w i)) fun B σ G H Q q z => ha B σ G H _ q fun l vs G1 H1 x1 h1' t1 => hb B σ G1 H1 _ (q.nx x1) fun y G2 H2 x2 t2 =>
    ⟨l, n, vs, rfl, dp_int t2, x2.h _ _ h1', by omega, by omega, by rw [dpa_len t1]; exact sz_of hl, fun p hp => z p _ G2 _ ((x1.trans x2).trans (Nx.priv x2.s hp)) ((x1.trans x2).h.free hp) (x2.s.free hp) upd_same (dpa_flat (dpa_ex x2.g t1) _)⟩
theorem ef_catT (ha : EF C rho a (.tuple xs)) (hb : EF C rho b (.tuple ys)) (hl : xs.length + ys.length ≤ 100000) : EF C rho (.BinOp a .Add b pos) (.tuple (xs ++ ys)) :=
  EF.of (t := tOp (rCatA K) (wE C a) (wE C b)) (fun i => pe_op (C.k i (fun k => OpR (C.X i) _ (rCatA k)) op_catA) (pe_w i) (pe_w i)) fun B σ G H Q q z => ha B σ G H _ q fun v G1 H1 x1 t1 => hb B σ G1 H1 _ (q.nx x1) fun u G2 H2 x2 t2 => by
    obtain ⟨p1, vs, rfl, s1, t1'⟩ := dp_tup (dp_ex x2.g t1)
    obtain ⟨p2, us, rfl, s2, t2'⟩ := dp_tup t2
    have l1 := dpa_len t1'
    have l2 := dpa_len t2'
    refine ⟨p1, p2, vs, us, rfl, rfl, SqT.ex x2.s s1, SqT.ex x2.s s2, by rw [l1, l2]; exact sz_of hl, fun ev => ?_, fun _ eu => ?_, fun _ _ p hp => ?_⟩
    · subst ev
      have : xs = [] := List.length_eq_zero_iff.mp l1.symm
      subst this
      exact z _ G2 H2 (x1.trans x2) (.tup s2 t2')
    · subst eu
      have : ys = [] := List.length_eq_zero_iff.mp l2.symm
      subst this
      have z' := z (.ref p1) G2 H2 (x1.trans x2)
      rw [List.append_nil] at z'
      exact z' (.tup s1 t1')
    · exact z _ (upd G2 p (.tup (vs ++ us))) _ ((x1.trans x2).trans (Nx.new x2.s hp)) (.tup (SqT.of upd_same) (dpa_ex (Ex.upd (x2.s.free hp)) (dpa_app t1' t2')))

/-! ### a call of a def of the module -/
def spD (K : PySem.W.Frag) (pre : List PyData → PyData → Prop) : Sp := fun vs H Q _ => ∃ G ds d, Ex G H ∧ DpAll K G vs ds ∧ pre ds d ∧ ∀ v G' H', Nx G H G' H' → Dp K G' v d → Q v H'
structure Fn (P : Program) (w : World) (K : PySem.W.Frag) (mg : Str → Option Value) (base : Heap) (x : Str) (k : Nat) (ps : List Str) (sp : Sp) : Prop where
  ex : ∃ f fd, FnOk P w K mg base CX0 k f fd ps sp ∧ mg x = some (.ref f) ∧ PySem.W.keepIn K (.ref f) = true ∧ Binds K fd ps []
theorem Ctx.fn {f : Addr} {fd : FuncData} {k : Nat} {ps : List Str} {sp : Sp} {CX : CXT} (C : Ctx P w K mg base) (i : C.I) (F : FnOk P w K mg base CX k f fd ps sp) : FnOk (C.X i).prog (C.X i).w (C.X i).K (C.X i).mg (C.X i).base CX k f fd ps sp := by
  have h1 := C.hP i
  have h2 := C.hw i
  have h3 := C.hK i
  have h4 := C.hmg i
  have h5 := C.hb i
  generalize C.X i = X at h1 h2 h3 h4 h5 ⊢
  subst h1 h2 h3 h4 h5
  exact F
theorem ef_call {x : Str} {k : Nat} {ps : List Str} {pre : List PyData → PyData → Prop} (F : Fn P w K mg base x k ps (spD K pre)) (ha : EA C rho (e :: es) ds) (hp : pre ds d) (hk : k ≤ C.j) (hg : ∀ i, Gl (C.X i) x) (hdb : (x == ("__debug__" : Str)) = false := by decide)
    (he : ∀ i, starEach (e :: es) (C.X i).env = (false, eval e (C.X i).env) :: starEach es (C.X i).env := by intro _; rfl) (hpl : ∀ i, (backTo pos (starEach es (C.X i).env)).any (·.1) = false := by intro _; rfl) : EF C rho (.Call (.Name x p) (e :: es) [] pos) d := by
  obtain ⟨f, fd, F, hm, hkp, hb⟩ := F.ex
  refine EF.of (t := tCall (spD K pre) [] E0 (wA C (e :: es))) (fun i => pe_call (C.fn i F) ((C.room i).mono hk) (hg i) (by rw [C.hmg]; exact hm) (by rw [C.hK]; exact hkp) (by rw [C.hK]; exact hb) .nil pass0 (pa_w i) hdb (he i) (hpl i)) fun B σ G H Q q z => ha B σ G H _ q fun vs G1 H1 x1 t1 => ?_
  rw [List.append_nil]
  exact ⟨G1, ds, d, x1.s, t1, hp, fun v G2 H2 x2 t2 => z v G2 H2 (x1.trans x2) t2⟩
/-- f() -/
theorem ef_call0 {x : Str} {k : Nat} {ps : List Str} {pre : List PyData → PyData → Prop} (F : Fn P w K mg base x k ps (spD K pre)) (hp : pre [] d) (hk : k ≤ C.j) (hg : ∀ i, Gl (C.X i) x) (hdb : (x == ("__debug__" : Str)) = false := by decide) : EF C rho (.Call (.Name x p) [] [] pos) d := by
  obtain ⟨f, fd, F, hm, hkp, hb⟩ := F.ex
  refine EF.of (t := tCall (spD K pre) [] E0 tNil) (fun i => pe_call0 (C.fn i F) ((C.room i).mono hk) (hg i) (by rw [C.hmg]; exact hm) (by rw [C.hK]; exact hkp) (by rw [C.hK]; exact hb) .nil pass0 hdb) fun B σ G H Q q z => ?_
  exact ⟨G, [], d, q.e, .nil, hp, fun v G2 H2 x2 t2 => z v G2 H2 x2 t2⟩
end
end DL

set_option maxRecDepth 100000
set_option maxHeartbeats 2000000
/-! DL, part 5: what is walked, targets, comprehensions. -/
namespace DL
open PySem L2
/-! ### slots wiped -/
theorem wipe_at {sig : St} {j : Nat} : ∀ {vs : List Nat}, (wipe sig vs)[j]? = if j ∈ vs then (if j < sig.length then some none else none) else sig[j]?
  | [] => by simp [L2.wipe]
  | v :: vs => by
    unfold L2.wipe
    by_cases h : v = j
    · subst h
      by_cases hl : v < sig.length
      · rw [List.getElem?_set_self (by rw [wipe_length]; exact hl), if_pos List.mem_cons_self, if_pos hl]
      · rw [List.getElem?_eq_none (by rw [List.length_set, wipe_length]; omega), if_pos List.mem_cons_self, if_neg hl]
    · rw [List.getElem?_set_ne h, wipe_at (vs := vs)]
      by_cases hm : j ∈ vs
      · rw [if_pos hm, if_pos (List.mem_cons_of_mem _ hm)]
      · rw [if_neg hm, if_neg (by simp only [List.mem_cons, not_or]; exact ⟨fun z => h z.symm, hm⟩)]
theorem wipe_idem {sig : St} {vs : List Nat} : wipe (wipe sig vs) vs = wipe sig vs := by
  apply List.ext_getElem?
  intro j
  rw [wipe_at, wipe_at, wipe_length]
  by_cases hm : j ∈ vs
  · rw [if_pos hm, if_pos hm]
  · rw [if_neg hm, if_neg hm]
theorem wipe_set {sig : St} {i : Nat} {x : Option V} {vs : List Nat} (h : i ∈ vs) : wipe (sig.set i x) vs = wipe sig vs := by
  apply List.ext_getElem?
  intro j
  rw [wipe_at, wipe_at, List.length_set]
  by_cases hm : j ∈ vs
  · rw [if_pos hm, if_pos hm]
  · rw [if_neg hm, if_neg hm, List.getElem?_set_ne (fun z : i = j => hm (by rw [← z]; exact h))]
section
variable {P : Program} {w : World} {K : PySem.W.Frag} {mg : Str → Option Value} {base : Heap} {C : Ctx P w K mg base} {rho rho' rho1 rho2 : List SV} {e a b c tg iter : Expr} {es : List Expr} {d d1 d2 d3 : PyData} {ds xs ys : List PyData} {vs : List Nat} {pos p p2 : Pos}

/-! ### targets -/
def OkG (K : PySem.W.Frag) (g : TG) (d : PyData) (rho rho' : List SV) (vs : List Nat) : Prop := ∀ B σ G H v Q, Rl K B G H rho σ → Dp K G v d → (∀ σ', Rl K B G H rho' σ' → wipe σ' vs = wipe σ vs → Q σ' H) → g v σ H Q
def OkGs (K : PySem.W.Frag) (g : TGs) (ds : List PyData) (rho rho' : List SV) (vs : List Nat) : Prop := ∀ B σ G H us Q, Rl K B G H rho σ → DpAll K G us ds → (∀ σ', Rl K B G H rho' σ' → wipe σ' vs = wipe σ vs → Q σ' H) → g us σ H Q
def EG (C : Ctx P w K mg base) (d : PyData) (rho rho' : List SV) (vs : List Nat) (tg : Expr) : Prop := OkG K (wG C tg) d rho rho' vs
def EGs (C : Ctx P w K mg base) (ds : List PyData) (rho rho' : List SV) (vs : List Nat) (ts : List Expr) : Prop := ∃ g, (∀ i, PGs (C.X i) ts g) ∧ OkGs K g ds rho rho' vs
theorem EG.of {g : TG} (h : ∀ i, PG (C.X i) tg g) (o : OkG K g d rho rho' vs) : EG C d rho rho' vs tg := fun B σ G H v Q r t q i pins s u I ru => (h i).run pins s σ H v u Q I ru (o B σ G H v Q r t q)
theorem eg_name (k : Nat) {x : Str} (hN : C.N[k]? = some x) (hm : k ∈ vs) (hx : ∀ i, Loc (C.X i).env.scope x) (hf : ∀ i, (C.X i).fn x = true ∨ (C.X i).env.scope.names.lookup x = some .local) : EG C d rho (rho.set k (.dat d)) vs (.Name x pos) :=
  EG.of (g := gName k) (fun i => pg_name (by rw [C.hN]; exact C.nd) (by rw [C.hN]; exact hN) (hx i) (hf i)) fun B σ G H v Q r t q => q _ (r.setD t) (wipe_set hm)
theorem egs_nil : EGs C [] rho rho vs [] := ⟨gNil, fun i => pgs_nil, fun B σ G H us Q r t q => by
  cases t
  exact ⟨rfl, q σ r rfl⟩⟩
theorem egs_cons {tgs : List Expr} (h : EG C d rho rho1 vs tg) (hs : EGs C ds rho1 rho2 vs tgs) (he : ∀ i, (assignEach (tg :: tgs) (C.X i).env).map (·.2) = assign tg (C.X i).env :: (assignEach tgs (C.X i).env).map (·.2) := by intro _; rfl) : EGs C (d :: ds) rho rho2 vs (tg :: tgs) := by
  obtain ⟨g, hg, o⟩ := hs
  refine ⟨gCons (wG C tg) g, fun i => pgs_cons (pg_w i) (hg i) (he i), fun B σ G H us Q r t q => ?_⟩
  cases t with
  | cons t1 t2 => exact ⟨_, _, rfl, h B σ G H _ _ r t1 fun σ1 r1 e1 => o B σ1 G H _ Q r1 t2 fun σ2 r2 e2 => q σ2 r2 (e2.trans e1)⟩
theorem eg_tup {k : Nat} (hs : EGs C ds rho rho' vs es) (hn : ∀ i, (assignEach es (C.X i).env).length = ds.length := by intro _; rfl) (hst : ∀ i, (assignEach es (C.X i).env).findIdx? (·.1) = none := by intro _; rfl) : EG C (.tuple ds) rho rho' vs (.Tuple es k pos) := by
  obtain ⟨g, hg, o⟩ := hs
  refine EG.of (g := gTup K ds.length g) (fun i => C.k i (fun k => PG (C.X i) _ (gTup k _ _)) (pg_tup (C.calm i) (hg i) (hn i) (hst i))) fun B σ G H v Q r t q => ?_
  obtain ⟨a, us, rfl, s1, t1⟩ := dp_tup t
  exact ⟨a, us, rfl, SqT.ex r.e s1, dpa_len t1, o B σ G H us Q r t1 q⟩
/-- a list unpacked -/
theorem eg_unl {k : Nat} (hs : EGs C ds rho rho' vs es) (hn : ∀ i, (assignEach es (C.X i).env).length = ds.length := by intro _; rfl) (hst : ∀ i, (assignEach es (C.X i).env).findIdx? (·.1) = none := by intro _; rfl) : EG C (.list ds) rho rho' vs (.Tuple es k pos) := by
  obtain ⟨g, hg, o⟩ := hs
  refine EG.of (g := gUnl K ds.length g) (fun i => C.k i (fun k => PG (C.X i) _ (gUnl k _ _)) (pg_unl (C.calm i) (hg i) (hn i) (hst i))) fun B σ G H v Q r t q => ?_
  obtain ⟨a, us, rfl, s1, t1⟩ := dp_lst t
  exact ⟨a, us, rfl, SqL.ex r.e s1, dpa_len t1, o B σ G H us Q r t1 q⟩

/-! ### what is walked -/
def ItOk (K : PySem.W.Frag) (J : It) (ds : List PyData) (G : Hp) : Prop := ∀ i G1 H1, Ex G G1 → Ex G1 H1 → (ds.length ≤ i → J.stop i H1) ∧ (∀ d, ds[i]? = some d → J.go i H1 ∧ ∀ x H', J.yld i H1 x H' → ∃ G', Nx G1 H1 G' H' ∧ Dp K G' x d)
def EI (C : Ctx P w K mg base) (rho : List SV) (tg iter : Expr) (ds : List PyData) : Prop := ∀ B σ G H R, Rl K B G H rho σ → (∀ J G' H', Nx G H G' H' → ItOk K J ds G' → R J H') → wI C tg iter σ H R
theorem EI.of {wi : TI} (h : ∀ i, PI (C.X i) tg iter wi) (o : ∀ B σ G H R, Rl K B G H rho σ → (∀ J G' H', Nx G H G' H' → ItOk K J ds G' → R J H') → wi σ H R) : EI C rho tg iter ds := fun B σ G H R r q i pins s I => (h i).run pins s σ H R I (o B σ G H R r q)
theorem it_list {G : Hp} {a : Addr} {us : List V} (s : SqL K G a us) (t : DpAll K G us ds) : ItOk K (Itl K a) ds G := fun i G1 H1 e1 e2 => by
  have s1 := SqL.ex e2 (SqL.ex e1 s)
  refine ⟨fun h => ⟨us, s1, by rw [dpa_len t]; exact h⟩, fun d hd => ?_⟩
  obtain ⟨v, ev, td⟩ := dpa_get t hd
  refine ⟨⟨us, v, s1, ev⟩, fun x H' y => ?_⟩
  obtain ⟨rfl, y⟩ := y
  have := y us s1
  rw [ev] at this
  cases this
  exact ⟨G1, Nx.refl e2, dp_ex e1 td⟩
theorem it_tup {G : Hp} {a : Addr} {us : List V} (s : SqT K G a us) (t : DpAll K G us ds) : ItOk K (Itt K a) ds G := fun i G1 H1 e1 e2 => by
  have s1 := SqT.ex e2 (SqT.ex e1 s)
  refine ⟨fun h => ⟨us, s1, by rw [dpa_len t]; exact h⟩, fun d hd => ?_⟩
  obtain ⟨v, ev, td⟩ := dpa_get t hd
  refine ⟨⟨us, v, s1, ev⟩, fun x H' y => ?_⟩
  obtain ⟨rfl, y⟩ := y
  have := y us s1
  rw [ev] at this
  cases this
  exact ⟨G1, Nx.refl e2, dp_ex e1 td⟩
theorem ei_list (h : EF C rho iter (.list ds)) : EI C rho tg iter ds := EI.of (wi := iList K (wE C iter)) (fun i => C.k i (fun k => PI (C.X i) _ _ (iList k _)) (pi_list (pe_w i))) fun B σ G H R r q => h B σ G H _ r fun v G1 H1 x1 t1 => by
  obtain ⟨a, us, rfl, s1, t2⟩ := dp_lst t1
  exact ⟨a, rfl, ⟨us, SqL.ex x1.s s1⟩, q _ G1 H1 x1 (it_list s1 t2)⟩
theorem ei_tup (h : EF C rho iter (.tuple ds)) : EI C rho tg iter ds := EI.of (wi := iTup K (wE C iter)) (fun i => C.k i (fun k => PI (C.X i) _ _ (iTup k _)) (pi_tup (pe_w i))) fun B σ G H R r q => h B σ G H _ r fun v G1 H1 x1 t1 => by
  obtain ⟨a, us, rfl, s1, t2⟩ := dp_tup t1
  exact ⟨a, rfl, ⟨us, SqT.ex x1.s s1⟩, q _ G1 H1 x1 (it_tup s1 t2)⟩
def rangeD (n : Nat) : List PyData := (List.range n).map fun (k : Nat) => PyData.int (k : Int)
theorem rangeD_len (n : Nat) : (rangeD n).length = n := by unfold rangeD; rw [List.length_map, List.length_range]
theorem rangeD_get {n i : Nat} {d : PyData} (h : (rangeD n)[i]? = some d) : i < n ∧ d = .int (i : Int) := by
  have hl : i < n := by
    have := (List.getElem?_eq_some_iff.mp h).1
    rw [rangeD_len] at this
    exact this
  unfold rangeD at h
  rw [List.getElem?_map, List.getElem?_range hl] at h
  exact ⟨hl, (Option.some.inj h).symm⟩
theorem ei_range (T : Blt mg) {n : Int} (h : EF C rho e (.int n)) (h0 : -(2 ^ 62) ≤ n) (h1 : n < 2 ^ 62) (hg : ∀ i, Gl (C.X i) "range" := by intro _; rfl) (hs : ∀ i, starEach [e] (C.X i).env = [(false, eval e (C.X i).env)] := by intro _; rfl) (he : ∀ i, starEach (e :: []) (C.X i).env = (false, eval e (C.X i).env) :: starEach [] (C.X i).env := by intro _; rfl) : EI C rho tg (.Call (.Name "range" p) [e] [] pos) (rangeD n.toNat) :=
  EI.of (wi := iRng1 (tCons (wE C e) tNil)) (fun i => pi_range1 (hg i) (by rw [C.hmg]; exact T.range) (pa_cons (pe_w i) pa_nil (he i)) (hs i)) fun B σ G H R r q => h B σ G H _ r fun v G1 H1 x1 t1 => by
    rw [dp_int t1]
    refine ⟨n, rfl, h0, h1, q _ G1 H1 x1 fun i G2 H2 e1 e2 => ⟨fun hi => ?_, fun d hd => ?_⟩⟩
    · rw [rangeD_len] at hi
      exact hi
    · obtain ⟨hl, rfl⟩ := rangeD_get hd
      refine ⟨hl, fun x H' y => ?_⟩
      obtain ⟨rfl, rfl⟩ := y
      rw [Int.zero_add]
      exact ⟨G2, Nx.refl e2, .int _⟩
/-- zip of two lists, of two tuples -/
def zipD (xs ys : List PyData) : List PyData := List.zipWith (fun x y => .tuple [x, y]) xs ys
theorem zipD_get {xs ys : List PyData} {i : Nat} {d : PyData} (h : (zipD xs ys)[i]? = some d) : ∃ x y, xs[i]? = some x ∧ ys[i]? = some y ∧ d = .tuple [x, y] := by
  unfold zipD at h
  rw [List.getElem?_zipWith] at h
  cases hx : xs[i]? with
  | none => rw [hx] at h; simp at h
  | some x =>
    cases hy : ys[i]? with
    | none => rw [hx, hy] at h; simp at h
    | some y =>
      rw [hx, hy] at h
      exact ⟨x, y, rfl, rfl, (Option.some.inj h).symm⟩
theorem zipD_len (xs ys : List PyData) : (zipD xs ys).length = min xs.length ys.length := List.length_zipWith
theorem ei_zipT (T : Blt mg) {elts : List Expr} {kk : Nat} {tpos : Pos} {e2 : Expr} (h : EA C rho [e, e2] [.tuple xs, .tuple ys]) (hg : ∀ i, Gl (C.X i) "zip" := by intro _; rfl) (hs : ∀ i, starEach [e, e2] (C.X i).env = (false, eval e (C.X i).env) :: starEach [e2] (C.X i).env := by intro _; rfl) (hpl : ∀ i, (backTo pos (starEach [e2] (C.X i).env)).any (·.1) = false := by intro _; rfl) :
    EI C rho (.Tuple elts kk tpos) (.Call (.Name "zip" p) [e, e2] [] pos) (zipD xs ys) :=
  EI.of (wi := RZ.iZipA K (wA C [e, e2])) (fun i => C.k i (fun k => PI (C.X i) _ _ (RZ.iZipA k _)) (RZ.pi_zipA (hg i) (by rw [C.hmg]; exact T.zip) (pa_w i) (hs i) (hpl i))) fun B σ G H R r q => h B σ G H _ r fun us G1 H1 x1 t1 => by
    obtain ⟨v, u, rfl, ta, tb⟩ := dpa2 t1
    obtain ⟨a, vs, rfl, sa, ta'⟩ := dp_tup ta
    obtain ⟨b, us, rfl, sb, tb'⟩ := dp_tup tb
    refine ⟨a, b, vs, us, rfl, .inr ⟨SqT.ex x1.s sa, SqT.ex x1.s sb, q _ G1 H1 x1 fun i G2 H2 e1 e2 => ?_⟩⟩
    have sa2 := SqT.ex e2 (SqT.ex e1 sa)
    have sb2 := SqT.ex e2 (SqT.ex e1 sb)
    refine ⟨fun hi => ⟨vs, us, sa2, sb2, ?_⟩, fun d hd => ?_⟩
    · rw [zipD_len] at hi
      rw [dpa_len ta', dpa_len tb']
      omega
    · obtain ⟨x, y, hx, hy, rfl⟩ := zipD_get hd
      obtain ⟨vx, ex, tx⟩ := dpa_get ta' hx
      obtain ⟨vy, ey, ty⟩ := dpa_get tb' hy
      refine ⟨⟨vs, us, vx, vy, sa2, sb2, ex, ey⟩, fun z H' yy => ?_⟩
      obtain ⟨Tt, x', y', rfl, hT, rfl, qx, qy⟩ := yy
      have q1 := qx vs sa2
      rw [ex] at q1
      cases q1
      have q2 := qy us sb2
      rw [ey] at q2
      cases q2
      have gT := e2.free hT
      exact ⟨upd G2 Tt (.tup [vx, vy]), Nx.new e2 hT, .tup (SqT.of upd_same) (.cons (dp_ex (Ex.upd gT) (dp_ex e1 tx)) (.cons (dp_ex (Ex.upd gT) (dp_ex e1 ty)) .nil))⟩
theorem ei_zipL (T : Blt mg) {elts : List Expr} {kk : Nat} {tpos : Pos} {e2 : Expr} (h : EA C rho [e, e2] [.list xs, .list ys]) (hg : ∀ i, Gl (C.X i) "zip" := by intro _; rfl) (hs : ∀ i, starEach [e, e2] (C.X i).env = (false, eval e (C.X i).env) :: starEach [e2] (C.X i).env := by intro _; rfl) (hpl : ∀ i, (backTo pos (starEach [e2] (C.X i).env)).any (·.1) = false := by intro _; rfl) :
    EI C rho (.Tuple elts kk tpos) (.Call (.Name "zip" p) [e, e2] [] pos) (zipD xs ys) :=
  EI.of (wi := RZ.iZipA K (wA C [e, e2])) (fun i => C.k i (fun k => PI (C.X i) _ _ (RZ.iZipA k _)) (RZ.pi_zipA (hg i) (by rw [C.hmg]; exact T.zip) (pa_w i) (hs i) (hpl i))) fun B σ G H R r q => h B σ G H _ r fun us G1 H1 x1 t1 => by
    obtain ⟨v, u, rfl, ta, tb⟩ := dpa2 t1
    obtain ⟨a, vs, rfl, sa, ta'⟩ := dp_lst ta
    obtain ⟨b, us, rfl, sb, tb'⟩ := dp_lst tb
    refine ⟨a, b, vs, us, rfl, .inl ⟨SqL.ex x1.s sa, SqL.ex x1.s sb, q _ G1 H1 x1 fun i G2 H2 e1 e2 => ?_⟩⟩
    have sa2 := SqL.ex e2 (SqL.ex e1 sa)
    have sb2 := SqL.ex e2 (SqL.ex e1 sb)
    refine ⟨fun hi => ⟨vs, us, sa2, sb2, ?_⟩, fun d hd => ?_⟩
    · rw [zipD_len] at hi
      rw [dpa_len ta', dpa_len tb']
      omega
    · obtain ⟨x, y, hx, hy, rfl⟩ := zipD_get hd
      obtain ⟨vx, ex, tx⟩ := dpa_get ta' hx
      obtain ⟨vy, ey, ty⟩ := dpa_get tb' hy
      refine ⟨⟨vs, us, vx, vy, sa2, sb2, ex, ey⟩, fun z H' yy => ?_⟩
      obtain ⟨Tt, x', y', rfl, hT, rfl, qx, qy⟩ := yy
      have q1 := qx vs sa2
      rw [ex] at q1
      cases q1
      have q2 := qy us sb2
      rw [ey] at q2
      cases q2
      have gT := e2.free hT
      exact ⟨upd G2 Tt (.tup [vx, vy]), Nx.new e2 hT, .tup (SqT.of upd_same) (.cons (dp_ex (Ex.upd gT) (dp_ex e1 tx)) (.cons (dp_ex (Ex.upd gT) (dp_ex e1 ty)) .nil))⟩
/-- enumerate of a list -/
def enumD (xs : List PyData) : List PyData := xs.zipIdx.map fun q => .tuple [.int (q.2 : Int), q.1]
theorem enumD_get {xs : List PyData} {i : Nat} {d : PyData} (h : (enumD xs)[i]? = some d) : ∃ x, xs[i]? = some x ∧ d = .tuple [.int (i : Int), x] := by
  unfold enumD at h
  rw [List.getElem?_map, List.getElem?_zipIdx] at h
  cases hx : xs[i]? with
  | none => rw [hx] at h; simp at h
  | some x =>
    rw [hx] at h
    simp only [Option.map_some, Nat.zero_add] at h
    exact ⟨x, rfl, (Option.some.inj h).symm⟩
theorem enumD_len (xs : List PyData) : (enumD xs).length = xs.length := by unfold enumD; rw [List.length_map, List.length_zipIdx]
theorem ei_enum (T : Blt mg) {elts : List Expr} {kk : Nat} {tpos : Pos} (h : EF C rho e (.list xs)) (hg : ∀ i, Gl (C.X i) "enumerate" := by intro _; rfl) (hs : ∀ i, starEach [e] (C.X i).env = [(false, eval e (C.X i).env)] := by intro _; rfl) (he : ∀ i, starEach (e :: []) (C.X i).env = (false, eval e (C.X i).env) :: starEach [] (C.X i).env := by intro _; rfl) :
    EI C rho (.Tuple elts kk tpos) (.Call (.Name "enumerate" p) [e] [] pos) (enumD xs) :=
  EI.of (wi := iEnum K (tCons (wE C e) tNil)) (fun i => C.k i (fun k => PI (C.X i) _ _ (iEnum k _)) (pi_enum (hg i) (by rw [C.hmg]; exact T.enumerate) (pa_cons (pe_w i) pa_nil (he i)) (hs i))) fun B σ G H R r q => h B σ G H _ r fun v G1 H1 x1 t1 => by
    obtain ⟨a, vs, rfl, sa, ta'⟩ := dp_lst t1
    refine ⟨a, vs, rfl, SqL.ex x1.s sa, q _ G1 H1 x1 fun i G2 H2 e1 e2 => ?_⟩
    have sa2 := SqL.ex e2 (SqL.ex e1 sa)
    refine ⟨fun hi => ⟨vs, sa2, ?_⟩, fun d hd => ?_⟩
    · rw [enumD_len] at hi
      rw [dpa_len ta']
      exact hi
    · obtain ⟨x, hx, rfl⟩ := enumD_get hd
      obtain ⟨vx, ex, tx⟩ := dpa_get ta' hx
      refine ⟨⟨vs, vx, sa2, ex⟩, fun z H' yy => ?_⟩
      obtain ⟨Tt, x', rfl, hT, rfl, qx⟩ := yy
      have q1 := qx vs sa2
      rw [ex] at q1
      cases q1
      have gT := e2.free hT
      exact ⟨upd G2 Tt (.tup [.int (i : Nat), vx]), Nx.new e2 hT, .tup (SqT.of upd_same) (.cons (.int _) (.cons (dp_ex (Ex.upd gT) (dp_ex e1 tx)) .nil))⟩
/-- a text, sign by sign -/
def signsD (x : Str) : List PyData := x.cps.toList.map fun c => .str ⟨#[c]⟩
theorem ei_str {x : Str} (h : EF C rho iter (.str x)) : EI C rho tg iter (signsD x) := EI.of (wi := iStr (wE C iter)) (fun i => pi_str (pe_w i)) fun B σ G H R r q => h B σ G H _ r fun v G1 H1 x1 t1 => by
  rw [dp_str t1]
  refine ⟨x, rfl, q _ G1 H1 x1 fun i G2 H2 e1 e2 => ⟨fun hi => ?_, fun d hd => ?_⟩⟩
  · unfold signsD at hi
    rw [List.length_map, Array.length_toList] at hi
    exact hi
  · unfold signsD at hd
    rw [List.getElem?_map, Array.getElem?_toList] at hd
    cases hc : x.cps[i]? with
    | none => rw [hc] at hd; cases hd
    | some c =>
      rw [hc] at hd
      have ed : PyData.str ⟨#[c]⟩ = d := Option.some.inj hd
      subst ed
      have hl : i < x.cps.size := (Array.getElem?_eq_some_iff.mp hc).1
      refine ⟨hl, fun y H' yy => ?_⟩
      obtain ⟨rfl, c', hc', rfl⟩ := yy
      rw [hc] at hc'
      cases hc'
      exact ⟨G2, Nx.refl e2, .str _⟩

/-! ### a clause's tests -/
def wTs (C : Ctx P w K mg base) (es : List Expr) : TT := fun σ H Q => ∃ t : TT, (∀ i, PTs (C.X i) es t) ∧ t σ H Q
theorem pts_w (i : C.I) : PTs (C.X i) es (wTs C es) := ⟨fun pins s σ H Q I ⟨t, ht, q⟩ => (ht i).run pins s σ H Q I q⟩
def ETs (C : Ctx P w K mg base) (rho : List SV) (es : List Expr) (b : Bool) : Prop := OkT K (wTs C es) rho b
theorem ets_nil : ETs C rho [] true := fun B σ G H Q r q => ⟨tYes, fun i => pts_nil, q G H (Nx.refl r.e)⟩
theorem ets_one {k : Bool} (h : ET C rho e k) : ETs C rho [e] k := fun B σ G H Q r q => ⟨wT C e, fun i => pts_one (pt_w i), h B σ G H Q r q⟩
theorem ETs.is {k l : Bool} (h : ETs C rho es k) (q : k = l) : ETs C rho es l := q ▸ h

/-- a walk while what stands stays as it is -/
def ItOkH (K : PySem.W.Frag) (J : It) (ds : List PyData) (G H : Hp) : Prop := ∀ i G1 H1, Ex G G1 → Ex H H1 → Ex G1 H1 → (ds.length ≤ i → J.stop i H1) ∧ (∀ d, ds[i]? = some d → J.go i H1 ∧ ∀ x H', J.yld i H1 x H' → ∃ G', Nx G1 H1 G' H' ∧ Dp K G' x d)
def EIh (C : Ctx P w K mg base) (rho : List SV) (tg iter : Expr) (ds : List PyData) : Prop := ∀ B σ G H R, Rl K B G H rho σ → (∀ J G' H', Nx G H G' H' → ItOkH K J ds G' H' → R J H') → wI C tg iter σ H R
theorem EI.h (h : EI C rho tg iter ds) : EIh C rho tg iter ds := fun B σ G H R r q => h B σ G H R r fun J G' H' x it => q J G' H' x fun i G1 H1 e1 _ e2 => it i G1 H1 e1 e2
theorem EIh.is (h : EIh C rho tg iter xs) (q : xs = ys) : EIh C rho tg iter ys := q ▸ h
/-- a list of the def's own, walked while nobody changes it -/
theorem eih_list (h : EL C rho iter true ds) : EIh C rho tg iter ds := fun B σ G H R r q i pins s I =>
  (C.k i (fun k => PI (C.X i) _ _ (iList k _)) (pi_list (pe_w (C := C) (e := iter) i))).run pins s σ H R I (h B σ G H _ r fun a us G1 H1 x1 s1 t1 => by
    have s1' := of_sq_l s1
    refine ⟨a, rfl, ⟨us, s1'⟩, q _ G1 H1 x1 fun i G2 H2 e1 eh e2 => ?_⟩
    have s2 := SqL.ex eh s1'
    refine ⟨fun hl => ⟨us, s2, by rw [dpa_len t1]; exact hl⟩, fun d hd => ?_⟩
    obtain ⟨v, ev, td⟩ := dpa_get t1 hd
    refine ⟨⟨us, v, s2, ev⟩, fun x H' y => ?_⟩
    obtain ⟨rfl, y⟩ := y
    have := y us s2
    rw [ev] at this
    cases this
    exact ⟨G2, Nx.refl e2, dp_ex e1 td⟩)
/-! ### comprehensions -/
theorem Nx.wr {G H G' H' : Hp} {p : Addr} {o : HO} (x : Nx G H G' H') (h : H p = none) (g : G' p = none) : Nx G H G' (upd H' p o) :=
  ⟨x.g, fun a u e => by
    have hp : a ≠ p := fun z => by rw [z, h] at e; cases e
    rw [upd_ne hp]; exact x.h a u e, fun a u e => by
    have hp : a ≠ p := fun z => by rw [z, g] at e; cases e
    rw [upd_ne hp]; exact x.s a u e, x.n⟩
theorem take_succ_get {α : Type} {l : List α} {i : Nat} {x : α} (h : l[i]? = some x) : l.take (i + 1) = l.take i ++ [x] := by
  rw [List.take_add_one, h]; rfl
theorem okn_lc {α : Type} {elt : Expr} {ifs : List Expr} {scope : Scope} {own : List (Str × Nat)} (xs : List α) (enc : α → PyData) (pr : α → Bool) (f : α → PyData)
    (hi : EIh C rho tg iter (xs.map enc))
    (hb : ∀ x ∈ xs, ∃ rho', EG (C.blk scope) (enc x) (wipeS rho (own.map (·.2))) rho' (own.map (·.2)) tg ∧ ETs (C.blk scope) rho' ifs (pr x) ∧ (pr x = true → EF (C.blk scope) rho' elt (f x)))
    (hz : xs.length ≤ 100000) : OkN K (tLc (wI C tg iter) (wG (C.blk scope) tg) (wTs (C.blk scope) ifs) (wE (C.blk scope) elt) (own.map (·.2))) rho ((xs.filter pr).map f) := by
  intro B σ G0 H0 Q r q
  refine hi B σ G0 H0 _ r fun J G1 H1 x1 it D hD => ?_
  refine ⟨fun i m H => m = xs.length - i ∧ i ≤ xs.length ∧ ∃ G acc, Nx G1 H1 G H ∧ G D = none ∧ H D = some (.lst acc) ∧ DpAll K G acc (((xs.take i).filter pr).map f),
    ⟨_, rfl, Nat.zero_le _, G1, [], Nx.priv x1.s hD, x1.s.free hD, upd_same, .nil⟩, ?_⟩
  rintro i m H ⟨rfl, hle, G, acc, x2, gD, hDl, ta⟩
  obtain ⟨stp, go⟩ := it i G H x2.g x2.h x2.s
  rcases Nat.lt_or_ge i xs.length with hlt | hge
  · have hx : xs[i]? = some xs[i] := List.getElem?_eq_getElem hlt
    generalize hxe : xs[i] = x at hx
    have hmem : x ∈ xs := List.mem_of_getElem? hx
    obtain ⟨g1, g2⟩ := go (enc x) (by rw [List.getElem?_map, hx]; rfl)
    have hta := take_succ_get hx
    have hacc : acc.length ≤ i := by
      have e1 := dpa_len ta
      rw [List.length_map] at e1
      have e2 := List.length_filter_le pr (xs.take i)
      rw [List.length_take] at e2
      omega
    refine .inr ⟨g1, fun H' => ∃ G acc, Nx G1 H1 G H' ∧ G D = none ∧ H' D = some (.lst acc) ∧ DpAll K G acc (((xs.take (i + 1)).filter pr).map f), fun H' hn => ⟨xs.length - (i + 1), by omega, rfl, hlt, hn⟩, fun v H' y => ?_⟩
    obtain ⟨G', x3, td⟩ := g2 v H' y
    obtain ⟨rho', hg, ht, he⟩ := hb x hmem
    refine hg B _ G' H' v _ (((r.nx x1).nx x2).nx x3 |>.wipe _) td fun σ2 r2 ew => ⟨by rw [ew]; exact wipe_idem, ?_⟩
    refine ht B σ2 G' H' _ r2 fun G4 H4 x4 => ?_
    have hD4 : H4 D = some (.lst acc) := x4.h _ _ (x3.h _ _ hDl)
    have gD4 : G4 D = none := (x3.trans x4).n D (by rw [hDl]; exact Option.some_ne_none _) gD
    cases hp : pr x with
    | false =>
      refine iteF ⟨G4, acc, (x2.trans x3).trans x4, gD4, hD4, ?_⟩
      rw [hta, List.filter_append, List.filter_cons_of_neg (by rw [hp]; decide), List.filter_nil, List.append_nil]
      exact dpa_ex x4.g (dpa_ex x3.g ta)
    | true =>
      refine iteT (he hp B σ2 G4 H4 _ (r2.nx x4) fun u G5 H5 x5 tu => ?_)
      have hD5 : H5 D = some (.lst acc) := x5.h _ _ hD4
      have gD5 : G5 D = none := x5.n D (by rw [hD4]; exact Option.some_ne_none _) gD4
      refine ⟨acc, hD5, sz_lt (by omega), G5, _, (((x2.trans x3).trans x4).trans x5).wr hD gD5, gD5, upd_same, ?_⟩
      rw [hta, List.filter_append, List.filter_cons_of_pos hp, List.filter_nil, List.map_append]
      exact dpa_app (dpa_ex x5.g (dpa_ex x4.g (dpa_ex x3.g ta))) (dpa_one tu)
  · have hie : i = xs.length := by omega
    refine .inl ⟨stp (by rw [List.length_map]; exact hge), ?_⟩
    subst hie
    rw [List.take_length] at ta
    exact q D acc G H (x1.trans x2) (x1.h.free hD) gD hDl ta
theorem en_lc {α : Type} {elt : Expr} {ifs : List Expr} {scope : Scope} {own : List (Str × Nat)} (xs : List α) (enc : α → PyData) (pr : α → Bool) (f : α → PyData)
    (hi : EIh C rho tg iter (xs.map enc)) (ok : ∀ i, blkC (C.X i).N (C.X i).env.scope scope own = true)
    (hb : ∀ x ∈ xs, ∃ rho', EG (C.blk scope) (enc x) (wipeS rho (own.map (·.2))) rho' (own.map (·.2)) tg ∧ ETs (C.blk scope) rho' ifs (pr x) ∧ (pr x = true → EF (C.blk scope) rho' elt (f x)))
    (hz : xs.length ≤ 100000) (hs : ∀ i x, foldedSetIterable iter (C.X i).env x = pure x := by intro _ _; rfl) : EN C rho (.ListComp elt [⟨tg, iter, ifs, 0⟩] scope pos) ((xs.filter pr).map f) :=
  EN.of (t := tLc (wI C tg iter) (wG (C.blk scope) tg) (wTs (C.blk scope) ifs) (wE (C.blk scope) elt) (own.map (·.2))) (fun i => pe_lc (C.calm i) (by rw [C.hN]; exact C.nd) (pi_w i) (blkOk_by (ok i))
    (fun s H D cl fp => pg_w (C := C.blk scope) (i, s, H, D, cl, fp)) (fun s H D cl fp => pts_w (C := C.blk scope) (i, s, H, D, cl, fp)) (fun s H D cl fp => pe_w (C := C.blk scope) (i, s, H, D, cl, fp)) (hs i)) (okn_lc xs enc pr f hi hb hz)
theorem ClOk.upd {G H : Hp} {a D : Addr} {o : HO} (n : a ≠ D) : ∀ {c : Cl}, ClOk K G H a c → ClOk K G (L2.upd H D o) a c
  | .ds _, ⟨vs, h, t⟩ => ⟨vs, by rw [upd_ne n]; exact h, t⟩
  | .rf l, h => show L2.upd H D o a = _ by rw [upd_ne n]; exact h
theorem Rl.avoid {B G H : Hp} {rho : List SV} {sig : St} (r : Rl K B G H rho sig) {D : Addr} {o : HO} (h : H D = none) : Rl K (upd B D o) G H rho sig :=
  ⟨r.e, r.len, fun i sv e => by
    have q := r.sl i sv e
    cases sv with
    | dat d => exact q
    | obj phi m => exact q
    | unk => trivial
    | own ds =>
      obtain ⟨l, us, e1, e2, e3, e4, e5⟩ := q
      exact ⟨l, us, e1, e2, e3, by rw [upd_ne (ne_of_none e2 h)]; exact e4, e5⟩
    | pin p cells =>
      refine ⟨q.1, q.2.1, fun c hc => ?_⟩
      obtain ⟨g, b, z⟩ := q.2.2 c hc
      obtain ⟨vs, hv⟩ := z.some
      exact ⟨g, by rw [upd_ne (ne_of_none hv h)]; exact b, z⟩, r.sep, r.pins⟩
theorem Rl.wr {B G H : Hp} {rho : List SV} {sig : St} (r : Rl K B G H rho sig) {D : Addr} {o : HO} (hB : B D ≠ none) (hG : G D = none) : Rl K B G (upd H D o) rho sig :=
  ⟨fun a u ea => by
    have hne : a ≠ D := fun z => by rw [z, hG] at ea; cases ea
    rw [upd_ne hne]; exact r.e a u ea, r.len, fun i sv e => by
    have q := r.sl i sv e
    cases sv with
    | dat d => exact q
    | obj phi m => exact q
    | unk => trivial
    | own ds =>
      obtain ⟨l, us, e1, e2, e3, e4, e5⟩ := q
      exact ⟨l, us, e1, by rw [upd_ne (fun z : l = D => hB (by rw [← z]; exact e4))]; exact e2, e3, e4, e5⟩
    | pin p cells =>
      refine ⟨q.1, q.2.1, fun c hc => ?_⟩
      obtain ⟨g, b, z⟩ := q.2.2 c hc
      have n : c.1 ≠ D := fun y => hB (by rw [← y]; exact b)
      exact ⟨g, b, z.upd n⟩, r.sep, r.pins⟩
/-- two clauses -/
theorem okn_lc2 {α β : Type} {elt tg1 iter1 : Expr} {ifs ifs1 : List Expr} {scope : Scope} {own : List (Str × Nat)} {vs1 : List Nat} (xs : List α) (enc : α → PyData) (ys : α → List β) (enc1 : α → β → PyData) (pr : α → β → Bool) (f : α → β → PyData)
    (hi : EIh C rho tg iter (xs.map enc))
    (hb : ∀ x ∈ xs, ∃ rho', EG (C.blk scope) (enc x) (wipeS rho (own.map (·.2))) rho' (own.map (·.2)) tg ∧ ETs (C.blk scope) rho' ifs true ∧ EI (C.blk scope) rho' tg1 iter1 ((ys x).map (enc1 x)) ∧
      ∀ y ∈ ys x, ∃ rho2, EG (C.blk scope) (enc1 x y) (wipeS rho' vs1) rho2 vs1 tg1 ∧ ETs (C.blk scope) rho2 ifs1 (pr x y) ∧ (pr x y = true → EF (C.blk scope) rho2 elt (f x y)))
    (hz : ∀ n m x, xs[n]? = some x → m ≤ (ys x).length → (((xs.take n).flatMap fun x => ((ys x).filter (pr x)).map (f x)) ++ (((ys x).take m).filter (pr x)).map (f x)).length < 100000) : OkN K (tLc2 (wI C tg iter) (wG (C.blk scope) tg) (wTs (C.blk scope) ifs) (wI (C.blk scope) tg1 iter1) (wG (C.blk scope) tg1) (wTs (C.blk scope) ifs1) (wE (C.blk scope) elt) (own.map (·.2)) vs1) rho (xs.flatMap fun x => ((ys x).filter (pr x)).map (f x)) := by
  intro B σ G0 H0 Q r q
  refine hi B σ G0 H0 _ r fun J G1 H1 x1 it D hD => ?_
  refine ⟨fun i m H => m = xs.length - i ∧ i ≤ xs.length ∧ ∃ G acc, Nx G1 H1 G H ∧ G D = none ∧ H D = some (.lst acc) ∧ DpAll K G acc ((xs.take i).flatMap fun x => ((ys x).filter (pr x)).map (f x)),
    ⟨_, rfl, Nat.zero_le _, G1, [], Nx.priv x1.s hD, x1.s.free hD, upd_same, .nil⟩, ?_⟩
  rintro i m H ⟨rfl, hle, G, acc, x2, gD, hDl, ta⟩
  obtain ⟨stp, go⟩ := it i G H x2.g x2.h x2.s
  rcases Nat.lt_or_ge i xs.length with hlt | hge
  · have hx : xs[i]? = some xs[i] := List.getElem?_eq_getElem hlt
    generalize hxe : xs[i] = x at hx
    have hmem : x ∈ xs := List.mem_of_getElem? hx
    obtain ⟨g1, g2⟩ := go (enc x) (by rw [List.getElem?_map, hx]; rfl)
    have hta := take_succ_get hx
    refine .inr ⟨g1, fun H' => ∃ G acc, Nx G1 H1 G H' ∧ G D = none ∧ H' D = some (.lst acc) ∧ DpAll K G acc ((xs.take (i + 1)).flatMap fun x => ((ys x).filter (pr x)).map (f x)), fun H' hn => ⟨xs.length - (i + 1), by omega, rfl, hlt, hn⟩, fun v H' y => ?_⟩
    obtain ⟨G', x3, td⟩ := g2 v H' y
    obtain ⟨rho', hg, ht, hi1, hin⟩ := hb x hmem
    refine hg (upd B D (.lst [])) _ G' H' v _ ((((r.nx x1).avoid (o := .lst []) hD).nx (x2.trans x3)).wipe _) td fun σ2 r2 ew => ⟨by rw [ew]; exact wipe_idem, ?_⟩
    refine ht _ σ2 G' H' _ r2 fun G4 H4 x4 => iteT ?_
    refine hi1 _ σ2 G4 H4 _ (r2.nx x4) fun J1 G5 H5 x5 it1 => ?_
    have xx := ((x2.trans x3).trans x4).trans x5
    have hD5 : H5 D = some (.lst acc) := x5.h _ _ (x4.h _ _ (x3.h _ _ hDl))
    have gD5 : G5 D = none := ((x3.trans x4).trans x5).n D (by rw [hDl]; exact Option.some_ne_none _) gD
    refine ⟨fun j k H => k = (ys x).length - j ∧ j ≤ (ys x).length ∧ ∃ G acc, Nx G1 H1 G H ∧ Ex G5 G ∧ Rl K (upd B D (.lst [])) G H rho' σ2 ∧ G D = none ∧ H D = some (.lst acc) ∧ DpAll K G acc (((xs.take i).flatMap fun x => ((ys x).filter (pr x)).map (f x)) ++ (((ys x).take j).filter (pr x)).map (f x)),
      ⟨_, rfl, Nat.zero_le _, G5, acc, xx, Ex.refl _, (r2.nx x4).nx x5, gD5, hD5, by rw [List.take_zero, List.filter_nil, List.map_nil, List.append_nil]; exact dpa_ex x5.g (dpa_ex x4.g (dpa_ex x3.g ta))⟩, ?_⟩
    rintro j k H6 ⟨rfl, hle6, G6, acc6, x6, e6, r6, gD6, hD6, ta6⟩
    obtain ⟨stp6, go6⟩ := it1 j G6 H6 e6 x6.s
    rcases Nat.lt_or_ge j (ys x).length with hlt6 | hge6
    · have hy : (ys x)[j]? = some (ys x)[j] := List.getElem?_eq_getElem hlt6
      generalize hye : (ys x)[j] = y at hy
      have hmem6 : y ∈ ys x := List.mem_of_getElem? hy
      obtain ⟨g61, g62⟩ := go6 (enc1 x y) (by rw [List.getElem?_map, hy]; rfl)
      have hta6 := take_succ_get hy
      refine .inr ⟨g61, fun H' => ∃ G acc, Nx G1 H1 G H' ∧ Ex G5 G ∧ Rl K (upd B D (.lst [])) G H' rho' σ2 ∧ G D = none ∧ H' D = some (.lst acc) ∧ DpAll K G acc (((xs.take i).flatMap fun x => ((ys x).filter (pr x)).map (f x)) ++ (((ys x).take (j + 1)).filter (pr x)).map (f x)), fun H' hn => ⟨(ys x).length - (j + 1), by omega, rfl, hlt6, hn⟩, fun v7 H7 y7 => ?_⟩
      obtain ⟨G7, x7, td7⟩ := g62 v7 H7 y7
      obtain ⟨rho2, hg2, ht2, he2⟩ := hin y hmem6
      refine hg2 _ _ G7 H7 v7 _ ((r6.nx x7).wipe _) td7 fun σ3 r3 ew3 => ⟨by rw [ew3]; exact wipe_idem, ?_⟩
      refine ht2 _ σ3 G7 H7 _ r3 fun G8 H8 x8 => ?_
      have hD8 : H8 D = some (.lst acc6) := x8.h _ _ (x7.h _ _ hD6)
      have gD8 : G8 D = none := (x7.trans x8).n D (by rw [hD6]; exact Option.some_ne_none _) gD6
      cases hp : pr x y with
      | false =>
        refine iteF ⟨G8, acc6, (x6.trans x7).trans x8, e6.trans (x7.g.trans x8.g), (r6.nx x7).nx x8, gD8, hD8, ?_⟩
        rw [hta6, List.filter_append, List.filter_cons_of_neg (by rw [hp]; decide), List.filter_nil, List.append_nil]
        exact dpa_ex x8.g (dpa_ex x7.g ta6)
      | true =>
        refine iteT (he2 hp _ σ3 G8 H8 _ (r3.nx x8) fun u G9 H9 x9 tu => ?_)
        have hD9 : H9 D = some (.lst acc6) := x9.h _ _ hD8
        have gD9 : G9 D = none := x9.n D (by rw [hD8]; exact Option.some_ne_none _) gD8
        have nx9 := ((x7.trans x8).trans x9)
        refine ⟨acc6, hD9, ?_, G9, _, (x6.trans nx9).wr hD gD9, e6.trans nx9.g, ?_, gD9, upd_same, ?_⟩
        · rw [dpa_len ta6]
          exact sz_lt (hz i j x hx hle6)
        · exact (r6.nx nx9).wr (by rw [upd_same]; exact Option.some_ne_none _) gD9
        · rw [hta6, List.filter_append, List.filter_cons_of_pos hp, List.filter_nil, List.map_append, ← List.append_assoc]
          exact dpa_app (dpa_ex nx9.g ta6) (dpa_one tu)
    · have hje : j = (ys x).length := by omega
      refine .inl ⟨stp6 (by rw [List.length_map]; exact hge6), G6, acc6, x6, gD6, hD6, ?_⟩
      subst hje
      rw [List.take_length] at ta6
      rw [hta, List.flatMap_append]
      simpa using ta6
  · have hie : i = xs.length := by omega
    refine .inl ⟨stp (by rw [List.length_map]; exact hge), ?_⟩
    subst hie
    rw [List.take_length] at ta
    exact q D acc G H (x1.trans x2) (x1.h.free hD) gD hDl ta
theorem en_lc2 {α β : Type} {elt tg1 iter1 : Expr} {ifs ifs1 : List Expr} {scope : Scope} {own : List (Str × Nat)} {vs1 : List Nat} (xs : List α) (enc : α → PyData) (ys : α → List β) (enc1 : α → β → PyData) (pr : α → β → Bool) (f : α → β → PyData)
    (hi : EIh C rho tg iter (xs.map enc)) (ok : ∀ i, blkC (C.X i).N (C.X i).env.scope scope own = true) (hv : ∀ i ∈ vs1, i ∈ own.map (·.2))
    (hb : ∀ x ∈ xs, ∃ rho', EG (C.blk scope) (enc x) (wipeS rho (own.map (·.2))) rho' (own.map (·.2)) tg ∧ ETs (C.blk scope) rho' ifs true ∧ EI (C.blk scope) rho' tg1 iter1 ((ys x).map (enc1 x)) ∧
      ∀ y ∈ ys x, ∃ rho2, EG (C.blk scope) (enc1 x y) (wipeS rho' vs1) rho2 vs1 tg1 ∧ ETs (C.blk scope) rho2 ifs1 (pr x y) ∧ (pr x y = true → EF (C.blk scope) rho2 elt (f x y)))
    (hz : ∀ n m x, xs[n]? = some x → m ≤ (ys x).length → (((xs.take n).flatMap fun x => ((ys x).filter (pr x)).map (f x)) ++ (((ys x).take m).filter (pr x)).map (f x)).length < 100000) (hs : ∀ i x, foldedSetIterable iter (C.X i).env x = pure x := by intro _ _; rfl) (hs1 : ∀ env x, foldedSetIterable iter1 env x = pure x := by intro _ _; rfl) :
    EN C rho (.ListComp elt [⟨tg, iter, ifs, 0⟩, ⟨tg1, iter1, ifs1, 0⟩] scope pos) (xs.flatMap fun x => ((ys x).filter (pr x)).map (f x)) :=
  EN.of (t := tLc2 (wI C tg iter) (wG (C.blk scope) tg) (wTs (C.blk scope) ifs) (wI (C.blk scope) tg1 iter1) (wG (C.blk scope) tg1) (wTs (C.blk scope) ifs1) (wE (C.blk scope) elt) (own.map (·.2)) vs1) (fun i => pe_lc2 (C.calm i) (by rw [C.hN]; exact C.nd) (pi_w i) (blkOk_by (ok i)) hv
    (fun s H D cl fp => pg_w (C := C.blk scope) (i, s, H, D, cl, fp)) (fun s H D cl fp => pts_w (C := C.blk scope) (i, s, H, D, cl, fp)) (fun s H D cl fp => pi_w (C := C.blk scope) (i, s, H, D, cl, fp)) (fun s H D cl fp => pg_w (C := C.blk scope) (i, s, H, D, cl, fp)) (fun s H D cl fp => pts_w (C := C.blk scope) (i, s, H, D, cl, fp)) (fun s H D cl fp => pe_w (C := C.blk scope) (i, s, H, D, cl, fp)) (hs i) hs1) (okn_lc2 xs enc ys enc1 pr f hi hb hz)
end
end DL

set_option maxRecDepth 100000
set_option maxHeartbeats 2000000
/-! DL, part 6: statements, defs. -/
namespace DL
open PySem L2
/-- what may come behind a block: the slots where it goes on; what it hands back; the slots at break, at continue; what it raises (class, the field `name`) -/
structure Post where
  nx : List SV → Prop := fun _ => False
  rt : List SV → PyData → Prop := fun _ _ => False
  bk : List SV → Prop := fun _ => False
  ct : List SV → Prop := fun _ => False
  er : Value → Option PyData → Prop := fun _ _ => False
/-- an error's own dict -/
def XOk (K : PySem.W.Frag) (dd : Option PyData) (da : Option Addr) (G H : Hp) : Prop := match dd with
  | none => da = none
  | some d => ∃ a v, da = some a ∧ H a = some (.xd [(("name" : Str), v)]) ∧ Dp K G v d
section
variable {P : Program} {w : World} {K : PySem.W.Frag} {mg : Str → Option Value} {base : Heap}
def wS (C : Ctx P w K mg base) (sts : List Stmt) : TS := fun D σ H => ∀ i pins s, Inv (C.X i) pins σ H s → wpAny (model (C.X i).prog (C.X i).w) (C.X i).A (execs sts (C.X i).env) (SP (C.X i) pins D) (C.X i).xe s
theorem pss_w {C : Ctx P w K mg base} {sts : List Stmt} (i : C.I) : PSs (C.X i) sts (wS C sts) := ⟨fun pins s _ _ _ I h => h i pins s I⟩
structure Dk (K : PySem.W.Frag) (G0 H0 : Hp) (Pt : Post) (D : Ends) (W : WX) : Prop where
  nx : ∀ rho σ G H, Pt.nx rho → Nx G0 H0 G H → Rl K H0 G H rho σ → D.nx σ H
  rt : ∀ rho d v σ G H, Pt.rt rho d → Nx G0 H0 G H → Rl K H0 G H rho σ → Dp K G v d → D.rt v H
  bk : ∀ rho σ G H, Pt.bk rho → Nx G0 H0 G H → Rl K H0 G H rho σ → D.bk σ H
  ct : ∀ rho σ G H, Pt.ct rho → Nx G0 H0 G H → Rl K H0 G H rho σ → D.ct σ H
  er : ∀ cls dd da σ G H, Pt.er cls dd → Nx G0 H0 G H → XOk K dd da G H → W cls da σ H
def OkS (C : Ctx P w K mg base) (t : TS) (rho : List SV) (Pt : Post) : Prop := ∀ G0 H0 (D : Ends) (W : WX) σ G H, (∀ i, Takes (C.X i) W) → Nx G0 H0 G H → Rl K H0 G H rho σ → Dk K G0 H0 Pt D W → t D σ H
def DS (C : Ctx P w K mg base) (sts : List Stmt) (rho : List SV) (Pt : Post) : Prop := OkS C (wS C sts) rho Pt
variable {C : Ctx P w K mg base} {rho rho' rho1 rho2 : List SV} {e a b c tg iter : Expr} {es : List Expr} {d d1 d2 d3 : PyData} {ds xs ys : List PyData} {vs : List Nat} {pos p p2 : Pos} {st : Stmt} {rest body : List Stmt} {Pt : Post}
theorem DS.of {sts : List Stmt} {t : TS} (h : ∀ i, PSs (C.X i) sts t) (o : OkS C t rho Pt) : DS C sts rho Pt := fun G0 H0 D W σ G H tk x r k i pins s I => (h i).run pins s σ H D I (o G0 H0 D W σ G H tk x r k)
/-- a statement, then the rest -/
theorem DS.cons {t : TS} (h : ∀ i, PS (C.X i) st t) (o : ∀ G0 H0 (D : Ends) (W : WX) σ G H, (∀ i, Takes (C.X i) W) → Nx G0 H0 G H → Rl K H0 G H rho σ → Dk K G0 H0 Pt D W → t { D with nx := wS C rest D } σ H) : DS C (st :: rest) rho Pt :=
  DS.of (t := tSeq t (wS C rest)) (fun i => pss_cons (h i) (pss_w i)) o
theorem ds_nil (h : Pt.nx rho) : DS C [] rho Pt := DS.of (t := tNext) (fun i => pss_nil) fun G0 H0 D W σ G H tk x r k => k.nx rho σ G H h x r
theorem DS.imp {Pu : Post} {sts : List Stmt} (h : DS C sts rho Pu) (hn : ∀ r, Pu.nx r → Pt.nx r) (hr : ∀ rho r, Pu.rt rho r → Pt.rt rho r) (hb : ∀ r, Pu.bk r → Pt.bk r) (hc : ∀ r, Pu.ct r → Pt.ct r) (he : ∀ c r, Pu.er c r → Pt.er c r) : DS C sts rho Pt :=
  fun G0 H0 D W σ G H tk x r k => h G0 H0 D W σ G H tk x r ⟨fun _ _ _ _ z => k.nx _ _ _ _ (hn _ z), fun _ _ _ _ _ _ z => k.rt _ _ _ _ _ _ (hr _ _ z), fun _ _ _ _ z => k.bk _ _ _ _ (hb _ z), fun _ _ _ _ z => k.ct _ _ _ _ (hc _ z), fun _ _ _ _ _ _ z => k.er _ _ _ _ _ _ (he _ _ z)⟩

/-! ### what a name is set to -/
def NewOk (K : PySem.W.Frag) (H G' H' : Hp) : SV → V → Prop
  | .dat d, v => Dp K G' v d
  | .own ds, v => ∃ p vs, v = .ref p ∧ H p = none ∧ G' p = none ∧ H' p = some (.lst vs) ∧ DpAll K G' vs ds
  | .obj phi _, v => ∃ a, v = .ref a ∧ phi G' a
  | .unk, _ => True
  | .pin _ _, _ => False
def EV (C : Ctx P w K mg base) (rho : List SV) (e : Expr) (sv : SV) : Prop := ∀ B σ G H Q, Rl K B G H rho σ → (∀ v G' H', Nx G H G' H' → NewOk K H G' H' sv v → Q v H') → wE C e σ H Q
theorem EF.v (h : EF C rho e d) : EV C rho e (.dat d) := fun B σ G H Q r q => h B σ G H Q r fun v G' H' x t => q v G' H' x t
theorem EN.v (h : EN C rho e ds) : EV C rho e (.own ds) := fun B σ G H Q r q => h B σ G H Q r fun p vs G' H' x a b c t => q _ G' H' x ⟨p, vs, rfl, a, b, c, t⟩
theorem EO.v {phi : Hp → Addr → Prop} {m : ∀ G G' a, Ex G G' → phi G a → phi G' a} (h : EO C rho e phi) : EV C rho e (.obj phi m) := fun B σ G H Q r q => h B σ G H Q r fun a G' H' x t => q _ G' H' x ⟨a, rfl, t⟩
/-- stored, seen from a later state: H the heap ahead of the value's making -/
theorem Rl.put {B H G' H' : Hp} {σ : St} (r : Rl K B G' H' rho σ) {k : Nat} {sv : SV} {v : V} (hB : Ex B H) (h : NewOk K H G' H' sv v) (hs : ∀ ds, sv = .own ds → ∀ j es l, j ≠ k → rho[j]? = some (.own es) → σ[j]? = some (some (.ref l)) → v ≠ .ref l) (hpi : Pins rho H) : Rl K B G' H' (rho.set k sv) (σ.set k (some v)) := by
  refine r.set ?_ (fun p cells e => ?_) (fun ds l e ev j p cells hj hm => ?_) fun ds e j es hne hj hs2 => ?_
  rotate_left 1
  · subst e; exact h.elim
  · subst e
    subst ev
    obtain ⟨p', vs, e, h1, _⟩ := h
    cases e
    exact hpi j p cells l hj hm h1
  · subst e
    obtain ⟨p, vs, rfl, _⟩ := h
    exact hs ds rfl j es p hne hj hs2 rfl
  · cases sv with
    | dat d => exact ⟨v, rfl, h⟩
    | obj phi m => obtain ⟨a, rfl, h⟩ := h; exact ⟨a, rfl, h⟩
    | unk => trivial
    | pin p cells => exact h.elim
    | own ds => obtain ⟨p, vs, rfl, h1, h2, h3, h4⟩ := h; exact ⟨p, vs, rfl, h3, h2, hB.free h1, h4⟩
theorem NewOk.apart {B G H G' H' : Hp} {σ : St} (r : Rl K B G H rho σ) {sv : SV} {v : V} (h : NewOk K H G' H' sv v) : ∀ ds, sv = .own ds → ∀ (j : Nat) es l, rho[j]? = some (.own es) → σ[j]? = some (some (.ref l)) → v ≠ .ref l := fun ds e j es l h1 h2 ev => by
  subst e
  obtain ⟨p, vs, rfl, hp, _⟩ := h
  obtain ⟨l', us, e1, e2, _⟩ := r.sl j _ h1
  rw [h2] at e1
  cases e1
  cases ev
  rw [hp] at e2; cases e2
/-- x = e -/
theorem ds_set (k : Nat) {x : Str} {p' : Pos} {sv : SV} (h : EV C rho e sv) (t : DS C rest (rho.set k sv) Pt) (hN : C.N[k]? = some x) (hx : ∀ i, Loc (C.X i).env.scope x) (hs : ∀ i, swapsWith e (some (.Name x p')) pos.line (C.X i).env = pure false := by intro _; rfl)
    (hf : ∀ i, (C.X i).fn x = true ∨ (C.X i).env.scope.names.lookup x = some .local := by intro _; exact Or.inl rfl) : DS C (.Assign [.Name x p'] e pos :: rest) rho Pt :=
  DS.cons (t := tAsg (wE C e) (gName k)) (fun i => ps_set (by rw [C.hN]; exact C.nd) (by rw [C.hN]; exact hN) (hx i) (pe_w i) (hs i) (hf i)) fun G0 H0 D W σ G H tk x r kk => h H0 σ G H _ r fun v G' H' x2 n =>
    t G0 H0 D W _ G' H' tk (x.trans x2) ((r.nx x2).put x.h n (fun ds e j es l _ h1 h2 => n.apart r ds e j es l h1 h2) r.pinned) kk
/-- target = e, a frozen value -/
theorem ds_asg (h : EF C rho e d) (g : EG C d rho rho' vs tg) (t : DS C rest rho' Pt) (hs : ∀ i, swapsWithSole [tg] e pos.line (C.X i).env = pure false := by intro _; rfl) (hw : ∀ i, swappedStores [tg] e (C.X i).env = pure none := by intro _; rfl)
    (h1 : ∀ i, (assignEach [tg] (C.X i).env).map (·.2) = [assign tg (C.X i).env] := by intro _; rfl) : DS C (.Assign [tg] e pos :: rest) rho Pt :=
  DS.cons (t := tAsg (wE C e) (wG C tg)) (fun i => ps_asg (pe_w i) (pg_w i) (hs i) (hw i) (h1 i)) fun G0 H0 D W σ G H tk x r kk => h H0 σ G H _ r fun v G' H' x2 tv => g H0 σ G' H' v _ (r.nx x2) tv fun σ' r' _ =>
    t G0 H0 D W σ' G' H' tk (x.trans x2) r' kk
/-- a, b = e1, e2 (names of the def) -/
theorem ds_par (k l : Nat) {x y : Str} {px py pt : Pos} {kt k2 : Nat} {pt2 : Pos} {sv1 sv2 : SV} (h1 : EV C rho a sv1) (h2 : EV C rho b sv2) (t : DS C rest ((rho.set k sv1).set l sv2) Pt) (hN : C.N[k]? = some x) (hN2 : C.N[l]? = some y) (hne : k ≠ l)
    (hx : ∀ i, (C.X i).env.scope.names.lookup x = some .local) (hy : ∀ i, (C.X i).env.scope.names.lookup y = some .local)
    (hw : ∀ i, swappedStores [.Tuple [.Name x px, .Name y py] kt pt] (.Tuple [a, b] k2 pt2) (C.X i).env = pure (some [x, y])) (hs : ∀ i, swapsWithSole [.Tuple [.Name x px, .Name y py] kt pt] (.Tuple [a, b] k2 pt2) pos.line (C.X i).env = pure false := by intro _; rfl)
    (ha : ∀ i, starEach (a :: [b]) (C.X i).env = (false, eval a (C.X i).env) :: starEach [b] (C.X i).env := by intro _; rfl) (hb : ∀ i, starEach (b :: []) (C.X i).env = (false, eval b (C.X i).env) :: starEach [] (C.X i).env := by intro _; rfl) :
    DS C (.Assign [.Tuple [.Name x px, .Name y py] kt pt] (.Tuple [a, b] k2 pt2) pos :: rest) rho Pt :=
  DS.cons (t := tPar k l (tCons (wE C a) (tCons (wE C b) tNil))) (fun i => ps_par (C.calm i) (by rw [C.hN]; exact C.nd) (by rw [C.hN]; exact hN) (by rw [C.hN]; exact hN2) hne (hx i) (hy i) (pa_cons (pe_w i) (pa_cons (pe_w i) pa_nil (hb i)) (ha i)) (hw i) (hs i))
    fun G0 H0 D W σ G H tk x r kk => h1 H0 σ G H _ r fun v1 G1 H1 x1 n1 => h2 H0 σ G1 H1 _ (r.nx x1) fun v2 G2 H2 x2 n2 => by
      refine ⟨v1, v2, rfl, ?_⟩
      have n1' : NewOk K H G2 H2 sv1 v1 := by
        cases sv1 with
        | dat d => exact dp_ex x2.g n1
        | obj phi m => obtain ⟨a, e, q⟩ := n1; exact ⟨a, e, m _ _ _ x2.g q⟩
        | unk => trivial
        | pin p cells => exact n1.elim
        | own ds => obtain ⟨p, us, e, q1, q2, q3, q4⟩ := n1; exact ⟨p, us, e, q1, x2.n p (by rw [q3]; exact Option.some_ne_none _) q2, x2.h _ _ q3, dpa_ex x2.g q4⟩
      have r2 := (r.nx x1).nx x2
      have np : ∀ p cells, sv1 ≠ .pin p cells := fun p cells z => by subst z; exact n1.elim
      have ra := r2.put (k := k) x.h n1' (fun ds e j es l _ h1 h2 => n1.apart r ds e j es l h1 h2) r.pinned
      have rb := ra.put (k := l) (x.trans x1).h n2 (hpi := (r.nx x1).pinned.set np) fun ds e j es l' hj h1' h2' => by
        rcases set_get h1' with ⟨rfl, q, hk⟩ | ⟨hkj, h1''⟩
        · rw [set_sig r2.len hk] at h2'
          have ev : v1 = .ref l' := Option.some.inj (Option.some.inj h2')
          subst e
          obtain ⟨p2, us2, rfl, hp2, _⟩ := n2
          subst q
          obtain ⟨p1, us1, rfl, hp1, _, hl1, _⟩ := n1
          intro z
          cases z
          cases ev
          rw [hl1] at hp2; cases hp2
        · rw [List.getElem?_set_ne hkj] at h2'
          exact n2.apart (r.nx x1) ds e j es l' h1'' h2'
      exact t G0 H0 D W _ G2 H2 tk ((x.trans x1).trans x2) rb kk

/-! ### if, return, loops -/
theorem ds_if {k : Bool} {s1 s2 : List Stmt} (h : ET C rho c k) (R : List SV → Prop) (h1 : k = true → DS C s1 rho { Pt with nx := R }) (h2 : k = false → DS C s2 rho { Pt with nx := R }) (t : ∀ r, R r → DS C rest r Pt) : DS C (.If c s1 s2 pos :: rest) rho Pt :=
  DS.cons (t := tIfS (wT C c) (wS C s1) (wS C s2)) (fun i => ps_if (pt_w i) (pss_w i) (pss_w i)) fun G0 H0 D W σ G H tk x r kk => h H0 σ G H _ r fun G' H' x2 => by
    have kk' : Dk K G0 H0 { Pt with nx := R } { D with nx := wS C rest D } W := ⟨fun rho σ G H z y q => t rho z G0 H0 D W σ G H tk y q kk, kk.rt, kk.bk, kk.ct, kk.er⟩
    cases k with
    | true => exact iteT (h1 rfl G0 H0 _ W σ G' H' tk (x.trans x2) (r.nx x2) kk')
    | false => exact iteF (h2 rfl G0 H0 _ W σ G' H' tk (x.trans x2) (r.nx x2) kk')
/-- an if without else whose suite leaves -/
theorem ds_if1 {k : Bool} {s1 : List Stmt} (h : ET C rho c k) (h1 : k = true → DS C s1 rho { Pt with nx := fun _ => False }) (h2 : k = false → DS C rest rho Pt) : DS C (.If c s1 [] pos :: rest) rho Pt :=
  DS.cons (t := tIfS (wT C c) (wS C s1) tNext) (fun i => ps_if (pt_w i) (pss_w i) pss_nil) fun G0 H0 D W σ G H tk x r kk => h H0 σ G H _ r fun G' H' x2 => by
    cases k with
    | true => exact iteT (h1 rfl G0 H0 _ W σ G' H' tk (x.trans x2) (r.nx x2) ⟨fun _ _ _ _ z => z.elim, kk.rt, kk.bk, kk.ct, kk.er⟩)
    | false => exact iteF (h2 rfl G0 H0 D W σ G' H' tk (x.trans x2) (r.nx x2) kk)
theorem ds_ret (h : EF C rho e d) (hr : Pt.rt rho d) : DS C (.Return (some e) pos :: rest) rho Pt :=
  DS.cons (t := tRet (wE C e)) (fun i => ps_ret (pe_w i)) fun G0 H0 D W σ G H tk x r kk => h H0 σ G H _ r fun v G' H' x2 tv => kk.rt rho d v σ G' H' hr (x.trans x2) (r.nx x2) tv
/-- an own list frozen -/
theorem Rl.frz {B G H : Hp} {σ : St} (r : Rl K B G H rho σ) {k : Nat} {l : Addr} {us : List V} {ds : List PyData} (hk : rho[k]? = some (.own ds)) (e : σ[k]? = some (some (.ref l))) (h : H l = some (.lst us)) (g : G l = none) (td : DpAll K G us ds) : Rl K B (upd G l (.lst us)) H (rho.set k (.dat (.list ds))) σ := by
  refine ⟨fun a u q => ?_, by rw [List.length_set]; exact r.len, fun j sv ej => ?_, fun i j l' es fs h1 h2 h3 h4 => ?_, r.pins.sub (fun i es q => ?_) fun i p cells q => ?_⟩
  rotate_left 3
  · rcases set_get q with ⟨_, z, _⟩ | ⟨_, q⟩
    · cases z
    · exact ⟨es, q, rfl⟩
  · rcases set_get q with ⟨_, z, _⟩ | ⟨_, q⟩
    · cases z
    · exact ⟨cells, q, rfl⟩
  · by_cases hp : a = l
    · subst hp; rw [upd_same] at q; rw [h]; exact q
    · rw [upd_ne hp] at q; exact r.e a u q
  · rcases set_get ej with ⟨rfl, rfl, _⟩ | ⟨hne, ej⟩
    · exact ⟨_, e, .lst (SqL.of upd_same) (dpa_ex (Ex.upd g) td)⟩
    · have := r.sl j sv ej
      cases sv with
      | dat d =>
        obtain ⟨v, e2, h2⟩ := this
        exact ⟨v, e2, dp_ex (Ex.upd g) h2⟩
      | own es =>
        obtain ⟨l2, us2, e2, h2, g2, b2, t2⟩ := this
        have hll : l2 ≠ l := fun q => by
          subst q
          exact hne (r.sep k j _ _ _ hk ej e e2)
        exact ⟨l2, us2, e2, h2, by rw [upd_ne hll]; exact g2, b2, dpa_ex (Ex.upd g) t2⟩
      | obj phi m =>
        obtain ⟨a, e2, h2⟩ := this
        exact ⟨a, e2, m _ _ _ (Ex.upd g) h2⟩
      | unk => trivial
      | pin p cells =>
        refine ⟨this.1, this.2.1, fun c hc => ?_⟩
        obtain ⟨g2, b2, z⟩ := this.2.2 c hc
        have n : c.1 ≠ l := fun y => r.pins.1 k j l ds p cells hk ej e (by rw [← y]; exact List.mem_map_of_mem hc)
        refine ⟨by rw [upd_ne n]; exact g2, b2, ?_⟩
        cases hc2 : c.2 with
        | ds l2 => rw [hc2] at z; obtain ⟨vs, hv, t⟩ := z; exact ⟨vs, hv, dpa_ex (Ex.upd g) t⟩
        | rf l2 => rw [hc2] at z; exact z
  · rcases set_get h1 with ⟨_, q, _⟩ | ⟨_, h1⟩
    · cases q
    · rcases set_get h2 with ⟨_, q, _⟩ | ⟨_, h2⟩
      · cases q
      · exact r.sep i j l' es fs h1 h2 h3 h4
/-- return of the def's own list -/
theorem ds_retO (k : Nat) {x : Str} {pp : Pos} (hr0 : rho[k]? = some (.own ds)) (hr : Pt.rt (rho.set k (.dat (.list ds))) (.list ds)) (hN : C.N[k]? = some x) (hv : ∀ i, Vis (C.X i).env.scope x) (hd : (x == ("__debug__" : Str)) = false := by decide) (hcd : (x == ("__classdict__" : Str)) = false := by decide) : DS C (.Return (some (.Name x pp)) pos :: rest) rho Pt :=
  DS.cons (t := tRet (tVar k)) (fun i => ps_ret (pe_var (by rw [C.hN]; exact hN) (hv i) hd hcd)) fun G0 H0 D W σ G H tk x r kk => by
    obtain ⟨l, us, e1, e2, e3, e4, e5⟩ := r.sl k _ hr0
    exact ⟨_, e1, kk.rt _ _ _ σ (upd G l (.lst us)) H hr (x.freeze e4 e3 e2) (r.frz hr0 e1 e2 e3 e5) (.lst (SqL.of upd_same) (dpa_ex (Ex.upd e3) e5))⟩
/-- for -/
theorem ds_for {α : Type} (xs : List α) (enc : α → PyData) (hi : EI C rho tg iter (xs.map enc)) (Iv : Nat → List SV → Prop) (h0 : Iv 0 rho)
    (hs : ∀ i x rho1, xs[i]? = some x → Iv i rho1 → ∃ rho2 vs, EG C (enc x) rho1 rho2 vs tg ∧ DS C body rho2 { Pt with nx := Iv (i + 1), ct := Iv (i + 1), bk := fun r => DS C rest r Pt }) (hd : ∀ r, Iv xs.length r → DS C rest r Pt)
    (hp : ∀ i, PassesOwn (model (C.X i).prog (C.X i).w) (C.X i).A (C.X i).env (C.X i).xe) (hfs : ∀ i x, foldedSetIterable iter (C.X i).env x = pure x := by intro _ _; rfl) : DS C (.For tg iter body [] pos :: rest) rho Pt :=
  DS.cons (t := tFor (wI C tg iter) (wG C tg) (wS C body)) (fun i => ps_for (hp i) (C.calm i) (pi_w i) (pg_w i) (pss_w i) (hfs i)) fun G0 H0 D W σ G H tk x r kk => hi H0 σ G H _ r fun J G1 H1 x1 it => by
    refine ⟨fun i m σ H => m = xs.length - i ∧ i ≤ xs.length ∧ ∃ rho G, Iv i rho ∧ Nx G0 H0 G H ∧ Ex G1 G ∧ Rl K H0 G H rho σ, ⟨_, rfl, Nat.zero_le _, rho, G1, h0, x.trans x1, Ex.refl _, r.nx x1⟩, ?_⟩
    rintro i m σ2 H2 ⟨rfl, hle, rho2, G2, iv, x2, e2, r2⟩
    obtain ⟨stp, go⟩ := it i G2 H2 e2 r2.e
    rcases Nat.lt_or_ge i xs.length with hlt | hge
    · have hx : xs[i]? = some xs[i] := List.getElem?_eq_getElem hlt
      generalize hxe : xs[i] = y at hx
      obtain ⟨g1, g2⟩ := go (enc y) (by rw [List.getElem?_map, hx]; rfl)
      refine .inr ⟨g1, fun σ H => ∃ rho G, Iv (i + 1) rho ∧ Nx G0 H0 G H ∧ Ex G1 G ∧ Rl K H0 G H rho σ, fun σ' H' hn => ⟨xs.length - (i + 1), by omega, rfl, hlt, hn⟩, fun v H' hy => ?_⟩
      obtain ⟨G3, x3, td⟩ := g2 v H' hy
      obtain ⟨rho3, vs3, hg, hb⟩ := hs i y rho2 hx iv
      refine hg H0 σ2 G3 H' v _ (r2.nx x3) td fun σ4 r4 _ => ?_
      -- the body, from the frozen part as it stands
      have x4 := x2.trans x3
      refine hb G3 H0 { nx := _, rt := D.rt, bk := wS C rest D, ct := _ } W σ4 G3 H' tk ⟨Ex.refl _, x4.h, x4.s, fun a h1 h2 => h2⟩ r4 ⟨fun rho σ G H z y q => ?_, fun rho d v σ G H z y q t => ?_, fun rho σ G H z y q => ?_, fun rho σ G H z y q => ?_, fun cls dd da σ G H z y q => ?_⟩
      · exact ⟨rho, G, z, ⟨x4.g.trans y.g, y.h, y.s, fun a h1 h2 => y.n a h1 (x4.n a h1 h2)⟩, e2.trans (x3.g.trans y.g), q⟩
      · exact kk.rt rho d v σ G H z ⟨x4.g.trans y.g, y.h, y.s, fun a h1 h2 => y.n a h1 (x4.n a h1 h2)⟩ q t
      · exact z G0 H0 D W σ G H tk ⟨x4.g.trans y.g, y.h, y.s, fun a h1 h2 => y.n a h1 (x4.n a h1 h2)⟩ q kk
      · exact ⟨rho, G, z, ⟨x4.g.trans y.g, y.h, y.s, fun a h1 h2 => y.n a h1 (x4.n a h1 h2)⟩, e2.trans (x3.g.trans y.g), q⟩
      · exact kk.er cls dd da σ G H z ⟨x4.g.trans y.g, y.h, y.s, fun a h1 h2 => y.n a h1 (x4.n a h1 h2)⟩ q
    · have hie : i = xs.length := by omega
      subst hie
      exact .inl ⟨stp (by rw [List.length_map]; exact hge), hd rho2 iv G0 H0 D W σ2 G2 H2 tk x2 r2 kk⟩
/-- while -/
theorem ds_while (Iv : Nat → List SV → Prop) (m0 : Nat) (h0 : Iv m0 rho)
    (hs : ∀ m rho1, Iv m rho1 → ∃ k, ET C rho1 c k ∧ (k = true → DS C body rho1 { Pt with nx := fun r => ∃ m', m' < m ∧ Iv m' r, ct := fun r => ∃ m', m' < m ∧ Iv m' r, bk := fun r => DS C rest r Pt }) ∧ (k = false → DS C rest rho1 Pt))
    (hp : ∀ i, PassesOwn (model (C.X i).prog (C.X i).w) (C.X i).A (C.X i).env (C.X i).xe) : DS C (.While c body [] pos :: rest) rho Pt :=
  DS.cons (t := tWhile (wT C c) (wS C body)) (fun i => ps_while (hp i) (pt_w i) (pss_w i)) fun G0 H0 D W σ G H tk x r kk => by
    refine ⟨fun m σ H => ∃ rho G, Iv m rho ∧ Nx G0 H0 G H ∧ Rl K H0 G H rho σ, ⟨m0, rho, G, h0, x, r⟩, ?_⟩
    rintro m σ2 H2 ⟨rho2, G2, iv, x2, r2⟩
    obtain ⟨k, ht, hT, hF⟩ := hs m rho2 iv
    refine ht H0 σ2 G2 H2 _ r2 fun G3 H3 x3 => ?_
    cases k with
    | true =>
      refine iteT ⟨fun σ H => ∃ m', m' < m ∧ ∃ rho G, Iv m' rho ∧ Nx G0 H0 G H ∧ Rl K H0 G H rho σ, fun σ' H' ⟨m', hm, z⟩ => ⟨m', hm, z⟩, ?_⟩
      refine hT rfl G0 H0 { nx := _, rt := D.rt, bk := wS C rest D, ct := _ } W σ2 G3 H3 tk (x2.trans x3) (r2.nx x3) ⟨fun rho σ G H z y q => ?_, kk.rt, fun rho σ G H z y q => ?_, fun rho σ G H z y q => ?_, kk.er⟩
      · obtain ⟨m', hm, z⟩ := z
        exact ⟨m', hm, rho, G, z, y, q⟩
      · exact z G0 H0 D W σ G H tk y q kk
      · obtain ⟨m', hm, z⟩ := z
        exact ⟨m', hm, rho, G, z, y, q⟩
    | false => exact iteF (hF rfl G0 H0 D W σ2 G3 H3 tk (x2.trans x3) (r2.nx x3) kk)

/-! ### the def's own lists changed -/
theorem Rl.wrOwn {B G H : Hp} {σ : St} (r : Rl K B G H rho σ) {k : Nat} {l : Addr} {us : List V} {ds' : List PyData} (hk : rho[k]? = some (.own ds)) (hs : σ[k]? = some (some (.ref l))) (t : DpAll K G us ds') : Rl K B G (upd H l (.lst us)) (rho.set k (.own ds')) σ := by
  obtain ⟨l', us', e1, e2, e3, e4, e5⟩ := r.sl k _ hk
  rw [hs] at e1
  cases e1
  refine ⟨fun a u ea => ?_, by rw [List.length_set]; exact r.len, fun i sv es => ?_, fun i j l1 d1 d2 e1 e2 e3 e4 => ?_, r.pins.sub (fun i es q => ?_) fun i p cells q => ?_⟩
  rotate_left 3
  · rcases set_get q with ⟨rfl, z, _⟩ | ⟨_, q⟩
    · exact ⟨_, hk, rfl⟩
    · exact ⟨es, q, rfl⟩
  · rcases set_get q with ⟨_, z, _⟩ | ⟨_, q⟩
    · cases z
    · exact ⟨cells, q, rfl⟩
  · have hne : a ≠ l := fun z => by rw [z, e3] at ea; cases ea
    rw [upd_ne hne]; exact r.e a u ea
  · rcases set_get es with ⟨rfl, rfl, hi⟩ | ⟨hne, es⟩
    · exact ⟨l, us, hs, upd_same, e3, e4, t⟩
    · have q := r.sl i sv es
      cases sv with
      | dat d => exact q
      | obj phi m => exact q
      | unk => trivial
      | pin p cells =>
        refine ⟨q.1, q.2.1, fun c hc => ?_⟩
        obtain ⟨g2, b2, z⟩ := q.2.2 c hc
        have n : c.1 ≠ l := fun y => r.pins.1 k i l ds p cells hk es hs (by rw [← y]; exact List.mem_map_of_mem hc)
        exact ⟨g2, b2, z.upd n⟩
      | own dd =>
        obtain ⟨l2, u2, q1, q2, q3, q4, q5⟩ := q
        have hl : l2 ≠ l := fun z => hne (r.sep k i l ds dd hk es hs (z ▸ q1))
        exact ⟨l2, u2, q1, by rw [upd_ne hl]; exact q2, q3, q4, q5⟩
  · have o1 : ∃ z, rho[i]? = some (.own z) := by
      rcases set_get e1 with ⟨rfl, q, hi⟩ | ⟨hne, e1⟩
      · exact ⟨_, hk⟩
      · exact ⟨_, e1⟩
    have o2 : ∃ z, rho[j]? = some (.own z) := by
      rcases set_get e2 with ⟨rfl, q, hi⟩ | ⟨hne, e2⟩
      · exact ⟨_, hk⟩
      · exact ⟨_, e2⟩
    obtain ⟨z1, o1⟩ := o1
    obtain ⟨z2, o2⟩ := o2
    exact r.sep i j l1 z1 z2 o1 o2 e3 e4
/-- x.append(e) -/
theorem ds_append (k : Nat) {x : Str} {apos cpos pp : Pos} (hk : rho[k]? = some (.own ds)) (h : EF C rho e d) (hl : ds.length < 100000) (t : DS C rest (rho.set k (.own (ds ++ [d]))) Pt) (hN : C.N[k]? = some x) (hv : ∀ i, Vis (C.X i).env.scope x)
    (hd : (x == ("__debug__" : Str)) = false := by decide) (hcd : (x == ("__classdict__" : Str)) = false := by decide)
    (hbase : ∀ i, attributeBase (.Name x pp) "append" (C.X i).env (eval (.Name x pp) (C.X i).env) = eval (.Name x pp) (C.X i).env := by intro _; rfl)
    (hfew : ∀ i, ((backTo cpos (starEach (e :: []) (C.X i).env)).all (fun x => !x.1) && (backToKw cpos (keywordEach [] (C.X i).env)).all (fun x => x.1.isSome)
      && decide ((e :: []).length + ([] : List Keyword).length + (if ([] : List Keyword).isEmpty then 0 else 1) < 30)) = true := by intro _; rfl)
    (hline : (apos.endLine == cpos.line) = true := by rfl) (hs : ∀ i, starEach (e :: []) (C.X i).env = (false, eval e (C.X i).env) :: starEach [] (C.X i).env := by intro _; rfl) (hsw : ∀ i, swapsWith (.Call (.Attribute (.Name x pp) "append" apos) [e] [] cpos) none pos.line (C.X i).env = pure false := by intro _; rfl) :
    DS C (.Expr (.Call (.Attribute (.Name x pp) "append" apos) [e] [] cpos) pos :: rest) rho Pt :=
  DS.cons (t := tDrop (tBM K "list" rAppend (tVar k) (tCons (wE C e) tNil))) (fun i => ps_expr (C.k i (fun q => PE (C.X i) _ (tBM q _ _ _ _)) (pe_bm PySem.F.plainAttrs_list PySem.F.slot_list_append PySem.F.type_list_append mt_append (pe_var (by rw [C.hN]; exact hN) (hv i) hd hcd) (pa_cons (pe_w i) pa_nil (hs i)) (hbase i) (hfew i) hline (hs i))) (hsw i))
    fun G0 H0 D W σ G H tk x r kk => by
      obtain ⟨l, us, e1, e2, e3, e4, e5⟩ := r.sl k _ hk
      refine ⟨_, e1, .inl ⟨rfl, us, SqL.of e2⟩, h H0 σ G H _ r fun v G' H' x2 tv => ?_⟩
      have e2' := x2.h _ _ e2
      refine ⟨l, us, v, rfl, rfl, e2', by rw [dpa_len e5]; exact sz_lt hl, ?_⟩
      have gl : G' l = none := x2.n l (by rw [e2]; exact Option.some_ne_none _) e3
      exact t G0 H0 D W σ G' _ tk ((x.trans x2).wr e4 gl) ((r.nx x2).wrOwn hk e1 (dpa_app (dpa_ex x2.g e5) (dpa_one tv))) kk
/-- x.extend(e), e a new list -/
theorem ds_extend (k : Nat) {x : Str} {apos cpos pp : Pos} (hk : rho[k]? = some (.own ds)) (h : EN C rho e ys) (hl : ds.length + ys.length ≤ 100000) (t : DS C rest (rho.set k (.own (ds ++ ys))) Pt) (hN : C.N[k]? = some x) (hv : ∀ i, Vis (C.X i).env.scope x)
    (hd : (x == ("__debug__" : Str)) = false := by decide) (hcd : (x == ("__classdict__" : Str)) = false := by decide)
    (hbase : ∀ i, attributeBase (.Name x pp) "extend" (C.X i).env (eval (.Name x pp) (C.X i).env) = eval (.Name x pp) (C.X i).env := by intro _; rfl)
    (hfew : ∀ i, ((backTo cpos (starEach (e :: []) (C.X i).env)).all (fun x => !x.1) && (backToKw cpos (keywordEach [] (C.X i).env)).all (fun x => x.1.isSome)
      && decide ((e :: []).length + ([] : List Keyword).length + (if ([] : List Keyword).isEmpty then 0 else 1) < 30)) = true := by intro _; rfl)
    (hline : (apos.endLine == cpos.line) = true := by rfl) (hs : ∀ i, starEach (e :: []) (C.X i).env = (false, eval e (C.X i).env) :: starEach [] (C.X i).env := by intro _; rfl) (hsw : ∀ i, swapsWith (.Call (.Attribute (.Name x pp) "extend" apos) [e] [] cpos) none pos.line (C.X i).env = pure false := by intro _; rfl) :
    DS C (.Expr (.Call (.Attribute (.Name x pp) "extend" apos) [e] [] cpos) pos :: rest) rho Pt :=
  DS.cons (t := tDrop (tBM K "list" rExtend (tVar k) (tCons (wE C e) tNil))) (fun i => ps_expr (C.k i (fun q => PE (C.X i) _ (tBM q _ _ _ _)) (pe_bm PySem.F.plainAttrs_list PySem.F.slot_list_extend PySem.F.type_list_extend mt_extend (pe_var (by rw [C.hN]; exact hN) (hv i) hd hcd) (pa_cons (pe_w i) pa_nil (hs i)) (hbase i) (hfew i) hline (hs i))) (hsw i))
    fun G0 H0 D W σ G H tk x r kk => by
      obtain ⟨l, us, e1, e2, e3, e4, e5⟩ := r.sl k _ hk
      refine ⟨_, e1, .inl ⟨rfl, us, SqL.of e2⟩, h H0 σ G H _ r fun b zs G' H' x2 hb gb hb' tz => ?_⟩
      have e2' := x2.h _ _ e2
      refine ⟨l, b, us, zs, rfl, rfl, e2', hb', by rw [dpa_len e5, dpa_len tz]; exact sz_of hl, ?_⟩
      have gl : G' l = none := x2.n l (by rw [e2]; exact Option.some_ne_none _) e3
      exact t G0 H0 D W σ G' _ tk ((x.trans x2).wr e4 gl) ((r.nx x2).wrOwn hk e1 (dpa_app (dpa_ex x2.g e5) tz)) kk
end
end DL

set_option maxRecDepth 100000
set_option maxHeartbeats 2000000
/-! DL, part 7: defs; isinstance; sorted. -/
namespace DL
open PySem PySem.Spec PyProof.Rows L2
section
variable {P : Program} {w : World} {K : PySem.W.Frag} {mg : Str → Option Value} {base : Heap}
/-- the context of a def that raises nothing -/
abbrev defC (P : Program) (w : World) (K : PySem.W.Frag) (mg : Str → Option Value) (base : Heap) (N : List Str) (qual : Str) (sc : Scope) (f : Addr) (cdv : Value) (A : Around) (outer : List Env) (s : Shared) (H : Hp) (E : XK) (k : Nat) (nd : N.Nodup)
    (hr : Room k (A.deeper (envOfC qual sc s.heap.objs.size f cdv))) : Ctx P w K mg base :=
  bodyC (cxOf CX0 P w K mg base N qual sc f cdv A outer s H E).nox nd rfl k hr
/-- the slots at a def's entry -/
def entry (N : List Str) (ds : List PyData) : List SV := ds.map .dat ++ List.replicate (N.length - ds.length) .unk
theorem PinsOk.no {rho : List SV} {sig : L2.St} (h : ∀ (i : Nat) p cells, rho[i]? ≠ some (.pin p cells)) : PinsOk rho sig := ⟨fun _ j _ _ p cells _ q => absurd q (h j p cells), fun i _ p cells _ _ _ q => absurd q (h i p cells)⟩
theorem rl_start {N : List Str} {ds : List PyData} {vs : List V} {G H : Hp} (e : Ex G H) (t : DpAll K G vs ds) : Rl K H G H (entry N ds) (L2.start N vs) := by
  have hl := dpa_len t
  refine ⟨e, ?_, fun i sv h => ?_, fun i j l d1 d2 h1 => ?_, PinsOk.no fun i p cells h1 => ?_⟩
  rotate_left 3
  · unfold entry at h1
    by_cases hi : i < ds.length
    · rw [List.getElem?_append_left (by rw [List.length_map]; exact hi), List.getElem?_map] at h1
      cases q : ds[i]? with
      | none => rw [q] at h1; cases h1
      | some d => rw [q] at h1; cases h1
    · rw [List.getElem?_append_right (by rw [List.length_map]; omega), List.getElem?_replicate] at h1
      split at h1 <;> cases h1
  · unfold entry L2.start
    rw [List.length_append, List.length_append, List.length_map, List.length_map, List.length_replicate, List.length_replicate, hl]
  · unfold entry at h
    by_cases hi : i < ds.length
    · rw [List.getElem?_append_left (by rw [List.length_map]; exact hi), List.getElem?_map] at h
      cases q : ds[i]? with
      | none => rw [q] at h; cases h
      | some d =>
        rw [q] at h
        have e2 : SV.dat d = sv := Option.some.inj h
        subst e2
        obtain ⟨v, ev, tv⟩ := dpa_get t q
        refine ⟨v, ?_, tv⟩
        unfold L2.start
        rw [List.getElem?_append_left (by rw [List.length_map]; omega), List.getElem?_map, ev]
        rfl
    · rw [List.getElem?_append_right (by rw [List.length_map]; omega), List.getElem?_replicate] at h
      split at h
      · have e2 : SV.unk = sv := Option.some.inj h
        subst e2
        trivial
      · cases h
  · exfalso
    unfold entry at h1
    by_cases hi : i < ds.length
    · rw [List.getElem?_append_left (by rw [List.length_map]; exact hi), List.getElem?_map] at h1
      cases q : ds[i]? with
      | none => rw [q] at h1; cases h1
      | some d => rw [q] at h1; cases h1
    · rw [List.getElem?_append_right (by rw [List.length_map]; omega), List.getElem?_replicate] at h1
      split at h1 <;> cases h1
theorem fn_ok {x qual : Str} {st : Stmt} {f : Addr} {fd : FuncData} {N ps : List Str} {k : Nat} {pre : List PyData → PyData → Prop} (F : Fun K x qual st f fd) (S : FnScope N ps (defScope st)) (hl : ∀ ds d, pre ds d → ds.length = ps.length)
    (hb : ∀ (cdv : Value) (A : Around) (outer : List Env) (s : Shared) (H : Hp) (E : XK) (hr : Room k (A.deeper (envOfC qual (defScope st) s.heap.objs.size f cdv))) (ds : List PyData) (d : PyData), pre ds d →
      DS (defC P w K mg base N qual (defScope st) f cdv A outer s H E k S.nd hr) (defBody st) (entry N ds) { nx := fun _ => d = .none, rt := fun _ r => r = d }) : FnOk P w K mg base CX0 (k + 1) f fd ps (spD K pre) := by
  refine F.ok S (fun vs H Q E h => ?_) (fun cdv A outer s H vs Q E hr h => ?_)
  · obtain ⟨G, ds, d, e, t, hp, _⟩ := h
    rw [dpa_len t]
    exact hl ds d hp
  · obtain ⟨G, ds, d, e, t, hp, q⟩ := h
    refine ⟨wS (defC P w K mg base N qual (defScope st) f cdv A outer s H E k S.nd hr) (defBody st), pss_w (C := defC P w K mg base N qual (defScope st) f cdv A outer s H E k S.nd hr) (), ?_⟩
    refine hb cdv A outer s H E hr ds d hp G H _ (fun _ _ _ _ => False) _ G H (fun _ => takes0) (Nx.refl e) (rl_start e t) ⟨fun rho σ G' H' z x r => ?_, fun _ d' v _ G' H' z x _ tv => ?_, fun _ _ _ _ z => z.elim, fun _ _ _ _ z => z.elim, fun _ _ _ _ _ _ z => z.elim⟩
    · have z' : d = .none := z
      exact q .non G' H' x (z' ▸ .non)
    · have z' : d' = d := z
      exact q v G' H' x (z' ▸ tv)
theorem fn_mk {x qual : Str} {st : Stmt} {f : Addr} {fd : FuncData} {ps : List Str} {k : Nat} {sp : Sp} (F : Fun K x qual st f fd) (h : FnOk P w K mg base CX0 k f fd ps sp) (hm : mg x = some (.ref f)) (hb : Binds K fd ps []) : Fn P w K mg base x k ps sp := ⟨f, fd, h, hm, F.kp, hb⟩

variable {C : Ctx P w K mg base} {rho rho' : List SV} {e a b c : Expr} {d : PyData} {ds xs : List PyData} {pos p : Pos}
/-! ### isinstance -/
def tyD : PyData → String
  | .none => "NoneType"
  | .bool _ => "bool"
  | .int _ => "int"
  | .str _ => "str"
  | .list _ => "list"
  | .tuple _ => "tuple"
  | .dict _ => "dict"
theorem tyx_of {G H : Hp} (e : Ex G H) {v : V} (t : Dp K G v d) : TyX K H v (.type (tyD d)) := by
  cases t with
  | non => exact .base .non
  | bl b => exact .base (.bl b)
  | int i => exact .base (.int i)
  | str x => exact .base (.str x)
  | lst s _ =>
    rcases SqL.ex e s with (h | ⟨o, h⟩) | ⟨o, its, n, h1, h2, _⟩
    · exact .base (.lst h)
    · exact .base (.frz h)
    · exact .kList h1 h2
  | tup s _ =>
    rcases SqT.ex e s with (h | ⟨o, h⟩) | ⟨o, its, n, h1, h2, _⟩
    · exact .base (.tup h)
    · exact .fTuple h
    · exact .kTuple h1 h2
theorem ef_isi (T : Blt mg) {n : Str} {cl : String} {k : Bool} (h : EF C rho e d) (hm : mg n = none) (hv : bootBuiltins n = some (.type cl)) (hk : kitB (tyD d) cl = some k) (hg : ∀ i, Gl (C.X i) "isinstance" := by intro _; rfl) (hgn : ∀ i, Gl (C.X i) n := by intro _; rfl) (hnn : n ≠ "__name__" := by decide) (hnd : (n == ("__debug__" : Str)) = false := by decide)
    (he : ∀ i, starEach (e :: [.Name n p]) (C.X i).env = (false, eval e (C.X i).env) :: starEach [.Name n p] (C.X i).env := by intro _; rfl) {p1 : Pos} : EF C rho (.Call (.Name "isinstance" p1) [e, .Name n p] [] pos) (.bool k) :=
  EF.of (t := tCB (rIsi K) (tCons (wE C e) (tCons (tC (.ty cl)) tNil))) (fun i => pe_callB (C.k i (fun q => CallR (C.X i) _ (rIsi q)) call_isi) (hg i) (by rw [C.hmg]; exact T.isi) PyProof.Rows.boot_isinstance (pa_cons (pe_w i) (pa_cons (pe_bltn (hgn i) (by rw [C.hmg]; exact hm) hv rfl hnn hnd) pa_nil) (he i)) (he := he i)) fun B σ G H Q r q => h B σ G H _ r fun v G1 H1 x1 t1 =>
    ⟨v, .ty cl, _, _, k, rfl, .ty cl, tyx_of x1.s t1, kit_ty hk, q _ G1 H1 x1 (.bl k)⟩
def isBoolD : PyData → Bool
  | .bool _ => true
  | _ => false
def isIntD : PyData → Bool
  | .bool _ => true
  | .int _ => true
  | _ => false
def isStrD : PyData → Bool
  | .str _ => true
  | _ => false
def isListD : PyData → Bool
  | .list _ => true
  | _ => false
def isTupD : PyData → Bool
  | .tuple _ => true
  | _ => false
theorem kit_int (d : PyData) : kitB (tyD d) "int" = some (isIntD d) := by cases d <;> (simp only [tyD, isIntD]; decide +kernel)
theorem kit_bool (d : PyData) : kitB (tyD d) "bool" = some (isBoolD d) := by cases d <;> (simp only [tyD, isBoolD]; decide +kernel)
theorem kit_str (d : PyData) : kitB (tyD d) "str" = some (isStrD d) := by cases d <;> (simp only [tyD, isStrD]; decide +kernel)
theorem kit_list (d : PyData) : kitB (tyD d) "list" = some (isListD d) := by cases d <;> (simp only [tyD, isListD]; decide +kernel)
theorem kit_tuple (d : PyData) : kitB (tyD d) "tuple" = some (isTupD d) := by cases d <;> (simp only [tyD, isTupD]; decide +kernel)
/-- isinstance(x, (S, T)) -/
theorem ef_isi2 (T : Blt mg) {n1 n2 : Str} {c1 c2 : String} {k l : Bool} {tk : Nat} {p2 p3 tp : Pos} (h : EF C rho e d) (hm1 : mg n1 = none) (hv1 : bootBuiltins n1 = some (.type c1)) (hm2 : mg n2 = none) (hv2 : bootBuiltins n2 = some (.type c2)) (hk : kitB (tyD d) c1 = some k) (hl : kitB (tyD d) c2 = some l) (hg : ∀ i, Gl (C.X i) "isinstance" := by intro _; rfl) (hg1 : ∀ i, Gl (C.X i) n1 := by intro _; rfl) (hg2 : ∀ i, Gl (C.X i) n2 := by intro _; rfl)
    (hnn : n1 ≠ "__name__" := by decide) (hnd : (n1 == ("__debug__" : Str)) = false := by decide) (hnn2 : n2 ≠ "__name__" := by decide) (hnd2 : (n2 == ("__debug__" : Str)) = false := by decide)
    (he : ∀ i, starEach (e :: [.Tuple [.Name n1 p2, .Name n2 p3] tk tp]) (C.X i).env = (false, eval e (C.X i).env) :: starEach [.Tuple [.Name n1 p2, .Name n2 p3] tk tp] (C.X i).env := by intro _; rfl) {p1 : Pos} : EF C rho (.Call (.Name "isinstance" p1) [e, .Tuple [.Name n1 p2, .Name n2 p3] tk tp] [] pos) (.bool (k || l)) :=
  EF.of (t := tCB (rIsiT K) (tCons (wE C e) (tCons (tTup (tCons (tC (.ty c1)) (tCons (tC (.ty c2)) tNil))) tNil))) (fun i => pe_callB (C.k i (fun q => CallR (C.X i) _ (rIsiT q)) call_isiT) (hg i) (by rw [C.hmg]; exact T.isi) PyProof.Rows.boot_isinstance
    (pa_cons (pe_w i) (pa_cons (pe_tup (pa_cons (pe_bltn (hg1 i) (by rw [C.hmg]; exact hm1) hv1 rfl hnn hnd) (pa_cons (pe_bltn (hg2 i) (by rw [C.hmg]; exact hm2) hv2 rfl hnn2 hnd2) pa_nil))) pa_nil) (he i)) (he := he i)) fun B σ G H Q r q => h B σ G H _ r fun v G1 H1 x1 t1 => by
    refine ⟨by show 2 ≤ sizeLine; decide, fun tpl htp => ?_⟩
    refine ⟨v, tpl, [.ty c1, .ty c2], _, [.type c1, .type c2], k || l, rfl, upd_same, .cons (.ty c1) (.cons (.ty c2) .nil), tyx_of ((x1.trans (Nx.priv x1.s htp)).s) t1, ?_, q _ G1 _ (x1.trans (Nx.priv x1.s htp)) (.bl _)⟩
    refine kitAny_cons (kit_ty hk) (fun hf => ?_) (fun hT => by rw [hT]; rfl)
    rw [hf, Bool.false_or]
    cases l with
    | true => exact kitAny_cons (kit_ty hl) (fun z => nomatch z) fun _ => rfl
    | false => exact kitAny_cons (kit_ty hl) (fun _ => kitAny_nil) fun z => nomatch z
end
end DL

set_option maxRecDepth 100000
set_option maxHeartbeats 2000000
/-! DL, part 8: sorted over data. -/
namespace DL
open PySem PySem.Spec PyProof.Rows L2
/-- data as Python sorts it -/
def sortD (ds : List PyData) : List PyData := ds.mergeSort (PySem.W.dataLe false id)
theorem sort_pairs (bs : List (V × PyData)) : (bs.mergeSort (PySem.W.dataLe false Prod.snd)).map Prod.snd = sortD (bs.map Prod.snd) := by
  unfold sortD
  exact List.map_mergeSort (fun a _ b _ => rfl)
/-- all the places alike, all of one kind -/
structure Srt (ds : List PyData) : Prop where
  al : PySem.W.AllAlike ds
  so : PySem.W.Sortable ds
  dep : ∀ d ∈ ds, d.depth ≤ 60
theorem dpa_pairs1 {K : PySem.W.Frag} {H : Hp} : ∀ {bs : List (V × PyData)}, DpAll K H (bs.map Prod.fst) (bs.map Prod.snd) → ∀ q ∈ bs, Dp K H q.1 q.2
  | [], _, q, h => nomatch h
  | b :: bs, .cons h t, q, hq => by
    rcases List.mem_cons.mp hq with e | hq
    · rw [e]; exact h
    · exact dpa_pairs1 t q hq
theorem dpa_pairs2 {K : PySem.W.Frag} {H : Hp} : ∀ {bs : List (V × PyData)}, (∀ q ∈ bs, Dp K H q.1 q.2) → DpAll K H (bs.map Prod.fst) (bs.map Prod.snd)
  | [], _ => .nil
  | b :: bs, h => .cons (h b List.mem_cons_self) (dpa_pairs2 fun q hq => h q (List.mem_cons_of_mem _ hq))
theorem dpa_zip {K : PySem.W.Frag} {H : Hp} {us : List V} {ds : List PyData} (h : DpAll K H us ds) : ∃ bs : List (V × PyData), us = bs.map Prod.fst ∧ ds = bs.map Prod.snd := by
  have hl := dpa_len h
  exact ⟨us.zip ds, by rw [List.map_fst_zip (by omega)], by rw [List.map_snd_zip (by omega)]⟩
theorem dpa_sorted {K : PySem.W.Frag} {G : Hp} {bs : List (V × PyData)} (h : DpAll K G (bs.map Prod.fst) (bs.map Prod.snd)) : DpAll K G ((bs.mergeSort (PySem.W.dataLe false Prod.snd)).map Prod.fst) (sortD (bs.map Prod.snd)) := by
  rw [← sort_pairs]
  refine dpa_pairs2 fun q hq => dpa_pairs1 h q ((List.mergeSort_perm _ _).mem_iff.mp hq)
def rSortD (K : PySem.W.Frag) : List V → Hp → VK → Prop := fun vs H Q => ∃ (a : Addr) (bs : List (V × PyData)), vs = [V.ref a] ∧ SqL K H a (bs.map Prod.fst) ∧ DpAll K H (bs.map Prod.fst) (bs.map Prod.snd) ∧ Srt (bs.map Prod.snd) ∧
  ∀ p, H p = none → Q (.ref p) (upd H p (.lst ((bs.mergeSort (PySem.W.dataLe false Prod.snd)).map Prod.fst)))
theorem each_of {K : PySem.W.Frag} {h : Heap} : ∀ {bs : List (V × PyData)} {its : List Value} {as : List Addr}, Vals (bs.map Prod.fst) its → ReadsAll h its (bs.map Prod.snd) as →
    PySem.W.EachIs (fun v (b : V × PyData) => RelV b.1 v) its bs ∧ PySem.W.EachIs (fun v (b : V × PyData) => ∃ as, Reads h v b.2 as) its bs
  | [], _, _, .nil, _ => ⟨.nil, .nil⟩
  | b :: bs, _, _, .cons r t, q => by
    cases q with
    | cons q1 q2 =>
      obtain ⟨x1, x2⟩ := each_of (K := K) t q2
      exact ⟨.cons r x1, .cons ⟨_, q1⟩ x2⟩
theorem vals_of_each : ∀ {bs : List (V × PyData)} {its : List Value}, PySem.W.EachIs (fun v (b : V × PyData) => RelV b.1 v) its bs → Vals (bs.map Prod.fst) its
  | [], _, .nil => .nil
  | b :: bs, _, .cons r t => .cons r (vals_of_each t)
theorem cr_sortD {X : Cx} {k : Nat} (hr : Room k X.A) : CallR X (.builtin "sorted") (rSortD X.K) := by
  intro pins s σ H vs us Q I r h
  obtain ⟨a, bs, rfl, hs, hd, hz, q⟩ := h
  obtain ⟨its, rv, hl, hsz⟩ := I.list hs
  obtain ⟨u, rfl, ru⟩ := vals1 r
  obtain rfl : u = Value.ref a := ru
  obtain ⟨as, hra⟩ := Dp.readsAll I (bs.map Prod.snd) (bs.map Prod.fst) its hd rv
  obtain ⟨e1, e2⟩ := each_of (K := X.K) rv hra
  have hun := hr.un
  refine PySem.W.sorted_data (enc := Prod.snd) hl.isList e1 e2 hz.al hz.so (by rw [List.length_map] at hsz; exact hsz) (fun b hb => ?_) fun out ho eo => ?_
  · have := hz.dep b.2 (List.mem_map.mpr ⟨b, hb, rfl⟩)
    omega
  · obtain ⟨c, hc⟩ := sortedAll_at s.heap its out.toArray
    have hv := vals_of_each eo
    refine ⟨.ref (s.heap.objs.size + 1), upd H (s.heap.objs.size + 1) (.lst ((bs.mergeSort (PySem.W.dataLe false Prod.snd)).map Prod.fst)), I.laid (t' := s.toks) (fun b o e => sortedAll_old e) (Nat.le_succ _) ⟨?_, out, c, hv, hc⟩, rfl, q _ (I.hok.fresh (Nat.le_succ _))⟩
    rw [List.length_map, List.length_mergeSort]
    rw [List.length_map] at hsz
    exact hsz
section
variable {P : Program} {w : World} {K : PySem.W.Frag} {mg : Str → Option Value} {base : Heap} {C : Ctx P w K mg base} {rho : List SV} {e a b c : Expr} {es : List Expr} {d d1 d2 d3 : PyData} {ds xs ys : List PyData} {pos p p2 apos cpos : Pos}
theorem en_sorted (T : Blt mg) (h : EL C rho e true ds) (hz : Srt ds) (hg : ∀ i, Gl (C.X i) "sorted" := by intro _; rfl) (he : ∀ i, starEach (e :: []) (C.X i).env = (false, eval e (C.X i).env) :: starEach [] (C.X i).env := by intro _; rfl) : EN C rho (.Call (.Name "sorted" p) [e] [] pos) (sortD ds) :=
  EN.of (t := tCB (rSortD K) (tCons (wE C e) tNil)) (fun i => pe_callB (C.k i (fun q => CallR (C.X i) _ (rSortD q)) (cr_sortD (C.room i))) (hg i) (by rw [C.hmg]; exact T.sorted) PyProof.Rows.boot_sorted (pa_cons (pe_w i) pa_nil (he i)) (he := he i)) fun B σ G H Q q z => h B σ G H _ q fun p vs G1 H1 x1 s1 t1 => by
    obtain ⟨bs, rfl, rfl⟩ := dpa_zip t1
    exact ⟨p, bs, rfl, of_sq_l s1, dpa_ex x1.s t1, hz, fun l hl => z l _ G1 _ (x1.trans (Nx.priv x1.s hl)) (x1.h.free hl) (x1.s.free hl) upd_same (dpa_sorted t1)⟩
end
end DL

set_option maxRecDepth 100000
set_option maxHeartbeats 2000000
/-! DL, part 9: items at written places, < of data, index. -/
namespace DL
open PySem PySem.Spec PyProof.Rows L2
section
variable {P : Program} {w : World} {K : PySem.W.Frag} {mg : Str → Option Value} {base : Heap} {C : Ctx P w K mg base} {rho : List SV} {e a b c o : Expr} {es : List Expr} {d d1 d2 d3 z : PyData} {ds xs ys : List PyData} {pos p p2 apos cpos : Pos}
theorem ef_ixLN (j : Nat) (h1 : EL C rho a true ds) (h2 : EF C rho b (.int (j : Int))) (h : ds[j]? = some d) (hs : PlainIx b := by intro _ _; rfl) : EF C rho (.Subscript a b pos) d := ef_ixL h1 h2 (atI_nat h) hs
theorem ef_ixTN (j : Nat) (h1 : EL C rho a false ds) (h2 : EF C rho b (.int (j : Int))) (h : ds[j]? = some d) (hs : PlainIx b := by intro _ _; rfl) : EF C rho (.Subscript a b pos) d := ef_ixT h1 h2 (atI_nat h) hs
def rLtD (K : PySem.W.Frag) : R2 := fun x y H Q => ∃ d1 d2, Dp K H x d1 ∧ Dp K H y d2 ∧ PySem.W.alike d1 d2 = true ∧ d1 ≠ .none ∧ d1.depth ≤ 60 ∧ Q (.bl (PySem.W.dataLt d1 d2)) H
theorem op_ltD {X : Cx} (hu : X.A.units + 65 < cLine) : OpR X (compareOp .Lt) (rLtD X.K) := by
  intro pins s σ H x y v u Q I rx ry h
  obtain ⟨d1, d2, h1, h2, al, nn, dep, q⟩ := h
  obtain ⟨as, r1⟩ := Dp.reads I d1 x v h1 rx
  obtain ⟨bs, r2⟩ := Dp.reads I d2 y u h2 ry
  exact PySem.W.rcLt_alike d1 d2 X.A s v u as bs r1 r2 al nn (by omega) X.prog X.w X.xe (EP X pins σ Q) ⟨.bl _, H, I, rfl, q⟩
theorem ec_ltD (ha : EF C rho a d1) (hb : EF C rho b d2) (h : PySem.W.alike d1 d2 = true ∧ d1 ≠ .none ∧ d1.depth ≤ 60) : EC C rho .Lt a b (PySem.W.dataLt d1 d2) :=
  EC.of (r := rLtD K) (fun i => C.k i (fun k => OpR (C.X i) _ (rLtD k)) (op_ltD (C.hu i))) ha hb fun G H x y Q e t1 t2 q => ⟨d1, d2, dp_ex e t1, dp_ex e t2, h.1, h.2.1, h.2.2, q⟩
/-- x.index(e) -/
theorem ef_index {j : Nat} (h : EL C rho o true ds) (ha : EF C rho e d) {n m : Nat} (hj : ds[j]? = some z ∧ PyData.eqv z d = true ∧ ∀ (m : Nat) (z' : PyData), m < j → ds[m]? = some z' → PyData.eqv z' d = false) (h1 : Sh n d) (h2 : Sh m (.list ds)) (hn : n ≤ 64 := by decide) (hm : m ≤ 64 := by decide)
    (hbase : ∀ i, attributeBase o "index" (C.X i).env (eval o (C.X i).env) = eval o (C.X i).env := by intro _; rfl)
    (hfew : ∀ i, ((backTo cpos (starEach (e :: []) (C.X i).env)).all (fun x => !x.1) && (backToKw cpos (keywordEach [] (C.X i).env)).all (fun x => x.1.isSome)
      && decide ((e :: []).length + ([] : List Keyword).length + (if ([] : List Keyword).isEmpty then 0 else 1) < 30)) = true := by intro _; rfl)
    (hline : (apos.endLine == cpos.line) = true := by rfl) (hs : ∀ i, starEach (e :: []) (C.X i).env = (false, eval e (C.X i).env) :: starEach [] (C.X i).env := by intro _; rfl) :
    EF C rho (.Call (.Attribute o "index" apos) [e] [] cpos) (.int (j : Int)) :=
  EF.of (t := tBM K "list" (rIndexD K) (wE C o) (tCons (wE C e) tNil)) (fun i => C.k i (fun q => PE (C.X i) _ (tBM q _ (rIndexD q) _ _)) (pe_bm PySem.F.plainAttrs_list PySem.F.slot_list_index PySem.F.type_list_index (mt_indexD (C.hu i)) (pe_w i) (pa_cons (pe_w i) pa_nil (hs i)) (hbase i) (hfew i) hline (hs i)))
    fun B σ G H Q q k => h B σ G H _ q fun p vs G1 H1 x1 s1 t1 => ⟨.inl ⟨rfl, vs, of_sq_l s1⟩, ha B σ G1 H1 _ (q.nx x1) fun v G2 H2 x2 t2 =>
      ⟨p, v, d, ds, j, z, rfl, rfl, .lst (of_sq_l (sq_ex x2.h s1)) (dpa_ex x2.s (dpa_ex x2.g t1)), dp_ex x2.s t2, h2.shaped hm, h1.shaped hn, hj.1, hj.2.1, hj.2.2, k _ G2 H2 (x1.trans x2) (.int _)⟩⟩
end
end DL

set_option maxRecDepth 100000
set_option maxHeartbeats 2000000
/-! The mirrors: plain functions on parts. -/
namespace Fs
open PySem L2 DL
abbrev Stp := Int × Str × Int
abbrev Pr := Int × Int
abbrev Out := Str × Pr
structure Part where
  takes : List Str
  makes : List Str
  many : Int
  steps : List Stp
deriving DecidableEq
def eStp (s : Stp) : PyData := .tuple [.int s.1, .str s.2.1, .int s.2.2]
def ePr (q : Pr) : PyData := .tuple [.int q.1, .int q.2]
def eOut (o : Out) : PyData := .tuple [.str o.1, ePr o.2]
def eNs (l : List Str) : PyData := .tuple (l.map .str)
def ePart (p : Part) : PyData := .tuple [eNs p.takes, eNs p.makes, .int p.many, .tuple (p.steps.map eStp)]
/-- sorted, by what the items are as data -/
def sortE {α : Type} (enc : α → PyData) (l : List α) : List α := l.mergeSort (PySem.W.dataLe false enc)
theorem sortD_map {α : Type} (enc : α → PyData) (l : List α) : sortD (l.map enc) = (sortE enc l).map enc := by
  unfold sortD sortE
  exact (List.map_mergeSort (r := PySem.W.dataLe false enc) (s := PySem.W.dataLe false id) (f := enc) (l := l) (fun a _ b _ => rfl)).symm
theorem sortE_perm {α : Type} (enc : α → PyData) (l : List α) : (sortE enc l).Perm l := List.mergeSort_perm _ _
theorem sortE_len {α : Type} (enc : α → PyData) (l : List α) : (sortE enc l).length = l.length := (sortE_perm enc l).length_eq
theorem mem_sortE {α : Type} {enc : α → PyData} {l : List α} {x : α} : x ∈ sortE enc l ↔ x ∈ l := (sortE_perm enc l).mem_iff
/-- each item once, where it stands first -/
def firsts {α : Type} [DecidableEq α] (l : List α) : List α := l.foldl (fun acc x => if x ∈ acc then acc else acc ++ [x]) []

/-! ### the program's defs -/
def lead (p : Part) (k : Int) (t : Str) : List Int := (p.steps.filter fun s => decide (s.1 = k) && decide (s.2.1 = t)).map fun s => s.2.2
def known (p q : Part) : List Str := sortE .str ((p.takes ++ p.makes).filter fun c => decide (c ∈ q.takes ++ q.makes))
/-- what the law's parts are: small; texts of plain signs; steps among the standings, with calls of the part -/
structure Part.Small (p : Part) : Prop where
  t : p.takes.length ≤ 5
  m : p.makes.length ≤ 5
  s : p.steps.length ≤ 12
  n0 : 1 ≤ p.many
  n : p.many ≤ 4
  okt : ∀ c ∈ p.takes, PyData.strOk c = true
  okm : ∀ c ∈ p.makes, PyData.strOk c = true
  nam : ∀ s ∈ p.steps, s.2.1 = "" ∨ s.2.1 ∈ p.takes ∨ s.2.1 ∈ p.makes
  rng : ∀ s ∈ p.steps, 0 ≤ s.1 ∧ s.1 < p.many ∧ 0 ≤ s.2.2 ∧ s.2.2 < p.many
theorem sh_str {n : Nat} {c : Str} (h : PyData.strOk c = true) : Sh n (.str c) := .str h
theorem sh_pr {q : Pr} : Sh 1 (ePr q) := .tuple fun d hd => by
  rcases List.mem_cons.mp hd with rfl | hd
  · exact .int _
  · rcases List.mem_cons.mp hd with rfl | hd
    · exact .int _
    · cases hd
theorem sh_prs {l : List Pr} : Sh 2 (.list (l.map ePr)) := .list fun d hd => by
  obtain ⟨q, _, rfl⟩ := List.mem_map.mp hd
  exact sh_pr
/-- sorting texts -/
theorem srt_strs (l : List Str) : Srt (l.map .str) := ⟨.of fun a b => by simp [PySem.W.alike], .others fun b => ⟨by simp, by simp⟩, fun d hd => by
  obtain ⟨q, _, rfl⟩ := List.mem_map.mp hd
  simp [PyData.depth]⟩
/-! ### the defs of joined.py -/
def clashB (p q : Part) (r : Pr) (c : Str) : Bool :=
  if c ∈ p.makes then decide (0 < (lead p r.1 c).length) && decide ((lead q r.2 c).length = 0) else decide (0 < (lead q r.2 c).length) && decide ((lead p r.1 c).length = 0)
def clash (p q : Part) (r : Pr) : List Str := (known p q).filter (clashB p q r)
def raw1 (p q : Part) (r : Pr) : List Out := (p.steps.filter fun s => decide (s.1 = r.1) && !decide (s.2.1 ∈ known p q)).map fun s => (s.2.1, (s.2.2, r.2))
def raw2 (p q : Part) (r : Pr) : List Out := (q.steps.filter fun s => decide (s.1 = r.2) && !decide (s.2.1 ∈ known p q)).map fun s => (s.2.1, (r.1, s.2.2))
def raw3 (p q : Part) (r : Pr) : List Out := (known p q).flatMap fun c => (lead p r.1 c).flatMap fun m => (lead q r.2 c).map fun i => ("", (m, i))
def rawOut (p q : Part) (r : Pr) : List Out := raw1 p q r ++ raw2 p q r ++ raw3 p q r
def stepsOut (p q : Part) (r : Pr) : List Out := sortE eOut (firsts (rawOut p q r))
def madeOf (p q : Part) : List Str := "" :: (p.makes ++ q.makes)
def moves (p q : Part) (r : Pr) : List Pr := sortE ePr (firsts (((stepsOut p q r).filter fun o => decide (o.1 ∈ madeOf p q)).map Prod.snd))
def rng (n : Int) : List Int := (List.range n.toNat).map fun k : Nat => (k : Int)
theorem rng_D (n : Int) : rangeD n.toNat = (rng n).map .int := by unfold rangeD rng; rw [List.map_map]; rfl
def every (p q : Part) : List Pr := (rng p.many).flatMap fun n => (rng q.many).map fun f => (n, f)
def fresh (p q : Part) (found : List Pr) : List Pr := (every p q).filter fun r => !decide (r ∈ found) && (moves p q r).any fun a => decide (a ∈ found)
def badGo (p q : Part) : Nat → List Pr → List Pr
  | 0, found => found
  | n + 1, found => if (fresh p q found).length = 0 then found else badGo p q n (found ++ fresh p q found)
def bad0 (p q : Part) : List Pr := (every p q).filter fun r => decide (0 < (clash p q r).length)
def badOf (p q : Part) : List Pr := sortE ePr (badGo p q ((every p q).length + 1) (bad0 p q))
def cuts (p q : Part) (r : Pr) (bad : List Pr) : List Str := sortE .str (firsts (((stepsOut p q r).filter fun o => !decide (o.1 ∈ madeOf p q) && decide (o.2 ∈ bad)).map Prod.fst))
end Fs

set_option maxRecDepth 100000
set_option maxHeartbeats 2000000
/-! Sets of keys that are tuples, nested: what set(xs) and sorted(set) do. -/
namespace NS
open PySem PySem.Spec PyProof.Rows L2
/-- a tuple's place, and what it is as a key -/
abbrev Row := Addr × NestedKey
def At (h : Heap) (p : Row) : Prop := NestedIs h p.2 (.ref p.1) ∧ p.2.depth ≤ 8
theorem At.stay {h h' : Heap} {p : Row} (x : At h p) (k : ∀ b o vs n, h.get? b = some o → o.data = .seq vs n → h'.get? b = some o) : At h' p := ⟨NestedIs.at k _ _ x.1, x.2⟩
theorem At.keep {h h' : Heap} {p : Row} (x : At h p) (k : ∀ b o, h.get? b = some o → h'.get? b = some o) : At h' p := x.stay fun b o _ _ e _ => k b o e
theorem At.but {h h' : Heap} {p : Row} {a : Addr} {o : Obj} {es : Array (Int × Value)} {ep : Nat} {t : SetTable} (x : At h p) (ho : h.get? a = some o) (hd : o.data = .set es ep t) (sb : Heap.SameBut a h h') : At h' p :=
  x.stay fun b u vs n e q => (sb.2 b (fun z => by
    rw [z, ho] at e
    cases e
    rw [hd] at q
    cases q)).trans e
theorem all_at {h : Heap} : ∀ {ks : List NestedKey} {vs : List Value}, NestedAll h ks vs → ∀ v ∈ vs, ∃ k, NestedIs h k v ∧ k.depth ≤ NestedKey.depthAll ks
  | [], _, r, v, hv => by cases r; cases hv
  | k :: ks, _, r, v, hv => by
    cases r with
    | cons r1 r2 =>
      simp only [NestedKey.depthAll]
      rcases List.mem_cons.mp hv with e | hv
      · exact ⟨k, by rw [e]; exact r1, by omega⟩
      · obtain ⟨k', h1, h2⟩ := all_at r2 v hv
        exact ⟨k', h1, by omega⟩
section
variable {P : Program} {w : World} {A : Around} {E : Value → Shared → Prop}
/-- no item is of a class statement -/
theorem no_class : ∀ (n : Nat) (k : NestedKey) (v : Value) (s : Shared) (Q : Bool → Shared → Prop), NestedIs s.heap k v → k.depth ≤ n → Q false s → wpAny (model P w) A (ofAClassStatement n v) Q E s := by
  intro n
  induction n with
  | zero =>
    intro k v s Q hk hd q
    cases hk with
    | tup => simp [NestedKey.depth] at hd
    | none => exact wpAny_pure q
    | bool => exact wpAny_pure q
    | int => exact wpAny_pure q
    | text => exact wpAny_pure q
  | succ n ih =>
    intro k v s Q hk hd q
    cases hk with
    | none => exact wpAny_pure q
    | bool => exact wpAny_pure q
    | int => exact wpAny_pure q
    | text => exact wpAny_pure q
    | @tup b o items m ks h1 h2 h3 h4 =>
      simp only [NestedKey.depth] at hd
      have hT : s.TypeIs (.ref b) "tuple" := ⟨o, h1, h2⟩
      unfold ofAClassStatement
      refine wpAny_bind (wpAny_typeOf hT ?_)
      dsimp only
      have e : (("tuple" : String) == "tuple") = true := by decide
      simp only [e, if_true]
      refine wpAny_bind (wpAny_pure ?_)
      simp only [Bool.not_true, Bool.false_eq_true, if_false]
      show wpAny _ _ (seqItems? (.ref b) >>= _) _ _ s
      refine wpAny_bind (wpAny_seqItems h1 h3 ?_)
      dsimp only
      refine wpAny_bind ?_
      show wpAny _ _ (forIn items _ _) _ _ s
      rw [← Array.forIn_toList]
      refine wpAny_forIn_list _ (fun rest r s' => r.1 = none ∧ s' = s ∧ ∀ v ∈ rest, ∃ k, NestedIs s.heap k v ∧ k.depth ≤ n) _ ?_ ?_ _ _ ⟨rfl, rfl, fun v hv => ?_⟩
      · rintro v rest r s' ⟨hr, rfl, hall⟩
        obtain ⟨k', hk', hd'⟩ := hall v List.mem_cons_self
        refine wpAny_bind (ih k' v s' _ hk' hd' ?_)
        simp only [Bool.false_eq_true, if_false]
        exact wpAny_pure ⟨rfl, rfl, fun u hu => hall u (List.mem_cons_of_mem _ hu)⟩
      · rintro ⟨r1, r2⟩ s' ⟨hr, rfl, _⟩
        simp only at hr
        subst hr
        exact wpAny_pure q
      · obtain ⟨k', hk', hd'⟩ := all_at h4 v hv
        exact ⟨k', hk', by omega⟩
/-- whether the hash goes by the value: some answer -/
theorem by_value : ∀ (n : Nat) (k : NestedKey) (v : Value) (s : Shared) (Q : Bool → Shared → Prop), NestedIs s.heap k v → k.depth ≤ n → (∀ r, Q r s) → wpAny (model P w) A (hashByValue n v) Q E s := by
  intro n
  induction n with
  | zero =>
    intro k v s Q hk hd q
    cases hk with
    | tup => simp [NestedKey.depth] at hd
    | none => exact wpAny_pure (q _)
    | bool => exact wpAny_pure (q _)
    | int => exact wpAny_pure (q _)
    | text => exact wpAny_pure (q _)
  | succ n ih =>
    intro k v s Q hk hd q
    cases hk with
    | none => exact wpAny_pure (q _)
    | bool => exact wpAny_pure (q _)
    | int => exact wpAny_pure (q _)
    | text => exact wpAny_pure (q _)
    | @tup b o items m ks h1 h2 h3 h4 =>
      simp only [NestedKey.depth] at hd
      have hT : s.TypeIs (.ref b) "tuple" := ⟨o, h1, h2⟩
      unfold hashByValue
      refine wpAny_bind (wpAny_specialOf hT F.slot_tuple_hash.lookup ?_)
      show wpAny _ _ (seqItems? (.ref b) >>= _) _ _ s
      refine wpAny_bind (wpAny_seqItems h1 h3 ?_)
      refine wpAny_bind ?_
      show wpAny _ _ (forIn items _ _) _ _ s
      rw [← Array.forIn_toList]
      refine wpAny_forIn_list _ (fun rest r s' => s' = s ∧ ∀ v ∈ rest, ∃ k, NestedIs s.heap k v ∧ k.depth ≤ n) _ ?_ ?_ _ _ ⟨rfl, fun v hv => ?_⟩
      · rintro v rest r s' ⟨rfl, hall⟩
        obtain ⟨k', hk', hd'⟩ := hall v List.mem_cons_self
        refine wpAny_bind (ih k' v s' _ hk' hd' fun r => ?_)
        cases r with
        | true =>
          simp only [Bool.not_true, Bool.false_eq_true, if_false]
          exact wpAny_pure ⟨rfl, fun u hu => hall u (List.mem_cons_of_mem _ hu)⟩
        | false =>
          simp only [Bool.not_false, if_true]
          exact wpAny_pure (wpAny_pure (q _))
      · rintro ⟨r1, r2⟩ s' ⟨rfl, _⟩
        cases r1 with
        | none => exact wpAny_pure (q _)
        | some r => exact wpAny_pure (q _)
      · obtain ⟨k', hk', hd'⟩ := all_at h4 v hv
        exact ⟨k', hk', by omega⟩
/-- a search among such keys shows nothing -/
theorem unseen {s : Shared} {p : Row} {Q : Bool → Shared → Prop} (hp : At s.heap p) {ys : List Value} (hy : ∀ y ∈ ys, ∃ q : Row, y = .ref q.1 ∧ At s.heap q) (h : Q false s) : wpAny (model P w) A (searchCouldBeSeen (.ref p.1) ys) Q E s := by
  unfold searchCouldBeSeen
  refine wpAny_bind ?_
  refine wpAny_forIn_list _ (fun rest r s' => r.1 = none ∧ s' = s ∧ ∀ y ∈ rest, ∃ q : Row, y = .ref q.1 ∧ At s.heap q) _ ?_ ?_ _ _ ⟨rfl, rfl, hy⟩
  · rintro v rest r s' ⟨hr, rfl, hall⟩
    obtain ⟨q, rfl, hq⟩ := hall v List.mem_cons_self
    have more : ∀ y ∈ rest, ∃ q : Row, y = .ref q.1 ∧ At s'.heap q := fun u hu => hall u (List.mem_cons_of_mem _ hu)
    dsimp only
    by_cases hv : (p.1 == q.1 || (carriedByValue (.ref p.1) && carriedByValue (.ref q.1))) = true
    · exact wp_if_pos hv (wpAny_pure ⟨rfl, rfl, more⟩)
    · refine wp_if_neg hv ?_
      refine wpAny_bind (quiet_key p.2 _ 8 s' hp.1 hp.2 A E _ ?_)
      simp only [Bool.not_true, Bool.false_eq_true, if_false]
      refine wpAny_bind (quiet_key q.2 _ 8 s' hq.1 hq.2 A E _ ?_)
      simp only [Bool.not_true, Bool.false_eq_true, if_false]
      refine wpAny_bind (no_class 8 p.2 _ s' _ hp.1 hp.2 ?_)
      simp only [Bool.false_eq_true, if_false]
      refine wpAny_bind (no_class 8 q.2 _ s' _ hq.1 hq.2 ?_)
      simp only [Bool.false_eq_true, if_false]
      exact wpAny_pure ⟨rfl, rfl, more⟩
  · rintro ⟨r1, r2⟩ s' ⟨hr, rfl, _⟩
    simp only at hr
    subst hr
    exact wpAny_pure h
end

/-! ### the way through the table -/
/-- the c-th place on a hash's way -/
def pth (m : Nat) (h : Int) (c : Nat) : SetTable.Probe := nth m (runAt m (SetTable.bits h % (m + 1)) (SetTable.bits h)) c
theorem pth_j (m : Nat) (h : Int) (c : Nat) : (pth m h c).j = way m h c := rfl
theorem pth_on (m : Nat) (h : Int) (c q : Nat) : nth m (pth m h c) q = pth m h (c + q) := (nth_add m c _ q).symm
theorem nth_dummy (m : Nat) : ∀ (n : Nat) (p : SetTable.Probe), p.dummy = none → (nth m p n).dummy = none
  | 0, _, h => h
  | n + 1, p, h => nth_dummy m n (adv m p) (by unfold adv; split <;> exact h)
theorem probe_on {t : SetTable} (r : Ris t.place.toList) (dm : t.dummies = #[]) (hashAt : Nat → Int) (h : Int) {K c : Nat} (hK : K < 10 * SetTable.turns t.mask) (free : way t.mask h K ∉ t.place.toList) (busy : ∀ d, d < K → way t.mask h d ∈ t.place.toList) (hc : c ≤ K) :
    (∃ d i, c ≤ d ∧ d < K ∧ t.place.toList[i]? = some (way t.mask h d) ∧ (∀ d' i', c ≤ d' → d' < d → t.place.toList[i']? = some (way t.mask h d') → hashAt i' ≠ h) ∧ t.probe hashAt h (pth t.mask h c) = some (.candidate (way t.mask h d) i (pth t.mask h (d + 1)))) ∨
    ((∀ d' i', c ≤ d' → d' < K → t.place.toList[i']? = some (way t.mask h d') → hashAt i' ≠ h) ∧ t.probe hashAt h (pth t.mask h c) = some (.empty (way t.mask h K) none)) := by
  have e : ∀ q, (nth t.mask (pth t.mask h c) q).j = way t.mask h (c + q) := fun q => by rw [pth_on, pth_j]
  have eK : c + (K - c) = K := by omega
  rcases go_spec t r dm hashAt h (10 * SetTable.turns t.mask) (K - c) (pth t.mask h c) (nth_dummy _ _ _ rfl) (by omega) (fun q hq => by rw [e]; exact busy _ (by omega)) (by rw [e, eK]; exact free) with ⟨q, i, h1, h2, _, h4, h5⟩ | ⟨h4, h5⟩
  · refine .inl ⟨c + q, i, by omega, by omega, by rw [← e]; exact h2, fun d' i' h6 h7 h8 => h4 (d' - c) i' (by omega) (by rw [e, show c + (d' - c) = d' by omega]; exact h8), ?_⟩
    rw [← e, Nat.add_assoc, ← pth_on]
    exact h5
  · refine .inr ⟨fun d' i' h6 h7 h8 => h4 (d' - c) i' (by omega) (by rw [e, show c + (d' - c) = d' by omega]; exact h8), ?_⟩
    have e2 : (nth t.mask (pth t.mask h c) (K - c)).j = way t.mask h K := by rw [e, eK]
    rw [← e2]
    exact h5

/-! ### the set -/
structure Tb (P : Program) (w : World) (h : Heap) (a : Addr) (L : List Row) (es : Array (Int × Value)) (ep : Nat) (t : SetTable) : Prop where
  obj : ∃ o, h.get? a = some o ∧ o.ExactSet ∧ o.data = .set es ep t
  row : es.toList = L.map fun p => (p.2.hash w, Value.ref p.1)
  tab : TabOk t (L.map fun p => p.2.hash w)
  one : (L.map (·.2)).Nodup
  key : ∀ p ∈ L, At h p
  led : w.params.followText "set-order" = true ∨ t.led = true
  spare : L.length * 5 < t.mask * 3
  few : L.length < 64
section
variable {P : Program} {w : World} {A : Around} {E : Value → Shared → Prop} {s : Shared} {a : Addr} {L : List Row} {es : Array (Int × Value)} {ep : Nat} {t : SetTable}
theorem len_rows {es : Array (Int × Value)} {L : List Row} (h : es.toList = L.map fun p => (p.2.hash w, Value.ref p.1)) : es.size = L.length := by
  rw [← Array.length_toList, h, List.length_map]
theorem places {t : SetTable} {L : List Row} (T : TabOk t (L.map fun p => p.2.hash w)) : t.place.size = L.length := by
  rw [T.sz, List.length_map]
theorem fits_of {t : SetTable} {n : Nat} (h1 : t.place.size = n) (h2 : t.dummies = #[]) (h3 : n ≤ t.mask) : t.fits n = true := by
  unfold SetTable.fits SetTable.fill
  rw [h2, Bool.and_eq_true, beq_iff_eq, decide_eq_true_eq]
  show t.place.size = n ∧ t.place.size + 0 ≤ t.mask
  omega
theorem Tb.fits (R : Tb P w s.heap a L es ep t) : t.fits es.size = true := by
  have h1 := len_rows R.row
  have h2 := places R.tab
  have h3 := R.spare
  exact fits_of (by omega) R.tab.dm (by omega)
theorem Tb.at (R : Tb P w s.heap a L es ep t) {i : Nat} {p : Row} (h : L[i]? = some p) : es[i]? = some (p.2.hash w, Value.ref p.1) := by
  rw [← Array.getElem?_toList, R.row, List.getElem?_map, h]; rfl
theorem Tb.gw (R : Tb P w s.heap a L es ep t) : ¬ t.gaveWay = true := by
  unfold SetTable.gaveWay
  rw [mask_odd R.tab.mok]
  decide
/-- the search, from the c-th place on -/
theorem search_from (R : Tb P w s.heap a L es ep t) {x : Row} (hx : At s.heap x) (hu : A.units + 8 < cLine) {K : Nat} (hK : K < 10 * SetTable.turns t.mask) (free : way t.mask (x.2.hash w) K ∉ t.place.toList)
    (busy : ∀ d, d < K → way t.mask (x.2.hash w) d ∈ t.place.toList) {Q : SetFound → Shared → Prop} (hin : x.2 ∈ L.map (·.2) → Q (.there none) s) (hout : x.2 ∉ L.map (·.2) → Q (.free (way t.mask (x.2.hash w) K) false) s) :
    ∀ (f c : Nat) (stand : Option SetTable.Probe), stand.getD (t.probeStart (x.2.hash w)) = pth t.mask (x.2.hash w) c → c ≤ K → K - c < f →
      (∀ (i : Nat) p, L[i]? = some p → p.2 = x.2 → ∃ d, c ≤ d ∧ d < K ∧ t.place.toList[i]? = some (way t.mask (x.2.hash w) d)) →
      wpAny (model P w) A (setSearchFrom a (.ref x.1) (x.2.hash w) true f stand) Q E s := by
  obtain ⟨o, ho, hex, hd⟩ := R.obj
  intro f
  induction f with
  | zero => intro c stand _ _ h; omega
  | succ f ih =>
    intro c stand hst hc hf hre
    rw [setSearchFrom_succ]
    refine wpAny_bind (wpAny_setState_of ho hd R.fits ?_)
    dsimp only
    refine wp_if_neg R.gw ?_
    try refine wpAny_bind (wpAny_pure ?_)
    have hat : ∀ (i : Nat) p, L[i]? = some p → (fun i => (es[i]?.map (·.1)).getD 0) i = p.2.hash w := fun i p hp => by
      show (es[i]?.map (·.1)).getD 0 = _
      rw [R.at hp]; rfl
    rcases probe_on R.tab.ris R.tab.dm (fun i => (es[i]?.map (·.1)).getD 0) (x.2.hash w) hK free busy hc with ⟨d, i, d1, d2, d3, d4, d5⟩ | ⟨d4, d5⟩
    · rw [hst, d5]
      dsimp only
      have hil : i < L.length := by
        have h1 := (List.getElem?_eq_some_iff.mp d3).1
        rw [Array.length_toList, places R.tab] at h1
        exact h1
      obtain ⟨p, hp⟩ : ∃ p, L[i]? = some p := ⟨_, List.getElem?_eq_getElem hil⟩
      have hpm : p ∈ L := List.mem_of_getElem? hp
      have tail : wpAny (model P w) A (searchRest a (.ref x.1) (x.2.hash w) true f es t (way t.mask (x.2.hash w) d) i (pth t.mask (x.2.hash w) (d + 1))) Q E s := by
        unfold searchRest
        rw [R.at hp]
        dsimp only
        refine wpAny_bind (wpAny_holding ((nestedKind P w).eqBool (x := p.2) (y := x.2) (show A.units + 8 < cLine from hu) (R.key p hpm) hx ?_))
        refine wpAny_bind (wpAny_setState_of ho hd R.fits ?_)
        dsimp only
        by_cases hkk : p.2 = x.2
        · exact wp_if_pos (by simp [hkk]) (wpAny_pure (hin (List.mem_map.mpr ⟨p, hpm, hkk⟩)))
        · refine wp_if_neg (by simp [hkk]) ?_
          try refine wpAny_bind (wpAny_pure ?_)
          rw [sameMem]
          dsimp only
          have hsl := slot_live R.tab.ris d3
          simp only [if_true, hsl, R.at hp]
          refine wpAny_bind (wpAny_isSame_ref_self (wpAny_bind (wpAny_pure ?_)))
          simp only [if_true]
          refine wp_if_neg (by simp [hkk]) ?_
          refine ih (d + 1) _ rfl (by omega) (by omega) fun i0 p0 h0 hk0 => ?_
          obtain ⟨d', a1, a2, a3⟩ := hre i0 p0 h0 hk0
          have hh : (fun i => (es[i]?.map (·.1)).getD 0) i0 = x.2.hash w := by rw [hat i0 p0 h0, hk0]
          refine ⟨d', ?_, a2, a3⟩
          rcases Nat.lt_trichotomy d' d with z | z | z
          · exact absurd hh (d4 d' i0 a1 z a3)
          · exfalso
            subst z
            have s0 := slot_live R.tab.ris a3
            rw [hsl] at s0
            injection s0 with s0
            rw [← s0, hp] at h0
            cases h0
            exact hkk hk0
          · exact z
      by_cases hl : t.led = true
      · refine wp_if_neg (by simp [hl]) ?_
        try refine wpAny_bind (wpAny_pure ?_)
        exact tail
      · refine wp_if_pos (by simp [hl]) ?_
        refine wpAny_bind (unseen hx (fun y hy => ?_) ?_)
        · obtain ⟨e, he, ee⟩ := List.mem_map.mp hy
          have he2 : e ∈ es.toList := by
            have := Array.mem_toList_iff.mp he
            exact Array.mem_toList_iff.mpr (Array.mem_filter.mp this).1
          rw [R.row] at he2
          obtain ⟨p2, hp2, e2⟩ := List.mem_map.mp he2
          exact ⟨p2, by rw [← ee, ← e2], R.key p2 hp2⟩
        · refine wp_if_neg (by decide) ?_
          try refine wpAny_bind (wpAny_pure ?_)
          exact tail
    · rw [hst, d5]
      dsimp only
      refine wpAny_pure (hout fun hm => ?_)
      obtain ⟨p0, h0, hk0⟩ := List.mem_map.mp hm
      obtain ⟨i0, h00⟩ := List.getElem?_of_mem h0
      obtain ⟨d', a1, a2, a3⟩ := hre i0 p0 h00 hk0
      exact d4 d' i0 a1 a2 a3 ((hat i0 p0 h00).trans (congrArg (NestedKey.hash w) hk0))
theorem search_at (R : Tb P w s.heap a L es ep t) {x : Row} (hx : At s.heap x) (hu : A.units + 8 < cLine) {Q : SetFound → Shared → Prop} (hin : x.2 ∈ L.map (·.2) → Q (.there none) s)
    (hout : ∀ K, x.2 ∉ L.map (·.2) → way t.mask (x.2.hash w) K ∉ t.place.toList → (∀ d, d < K → way t.mask (x.2.hash w) d ∈ t.place.toList) → Q (.free (way t.mask (x.2.hash w) K) false) s) :
    wpAny (model P w) A (setSearch a (.ref x.1) (x.2.hash w) true) Q E s := by
  have h1 := R.spare
  obtain ⟨K, hK, free, busy⟩ := R.tab.first (by rw [List.length_map]; omega) (x.2.hash w)
  have big : 10 * SetTable.turns t.mask ≤ 2000 := by
    unfold SetTable.turns
    rcases R.tab.mok with e | e | e <;> omega
  unfold setSearch
  refine search_from R hx hu hK free busy hin (fun hn => hout K hn free busy) 100000 0 none rfl (Nat.zero_le _) (by omega) fun i p hp hk => ?_
  have hil : i < t.place.toList.length := by
    have := (List.getElem?_eq_some_iff.mp hp).1
    rw [Array.length_toList, places R.tab]
    exact this
  obtain ⟨d, hd, e⟩ := R.tab.before (h := x.2.hash w) (i := i) free (by rw [List.getElem?_map, hp, ← hk]; rfl) (List.getElem?_eq_getElem hil)
  exact ⟨d, Nat.zero_le _, hd, by rw [List.getElem?_eq_getElem hil, e]⟩
end
end NS

set_option maxRecDepth 100000
set_option maxHeartbeats 2000000
/-! Sets of nested tuples, part 2: a row put in, the table laid anew. -/
namespace NS
open PySem PySem.Spec PyProof.Rows L2
theorem range_pick {α : Type} : ∀ l : List α, (List.range l.length).filterMap (fun i => l[i]?) = l
  | [] => rfl
  | x :: xs => by
    rw [List.length_cons, List.range_succ_eq_map, List.filterMap_cons_some (f := fun i => (x :: xs)[i]?) (a := 0) (b := x) rfl, List.filterMap_map]
    exact congrArg (x :: ·) (range_pick xs)
theorem pick_map {α β : Type} (f : α → β) (l : List α) (is : List Nat) : is.filterMap (fun i => (l.map f)[i]?) = (is.filterMap fun i => l[i]?).map f := by
  rw [List.map_filterMap]
  congr 1
  funext i
  rw [List.getElem?_map]
theorem pick_all {α : Type} (h : α → Int) (l : List α) : ∀ is : List Nat, (∀ i ∈ is, i < l.length) → (is.filterMap fun i => l[i]?).map h = is.map fun i => ((l.map h)[i]?).getD 0
  | [], _ => rfl
  | i :: is, hi => by
    have h0 := hi i List.mem_cons_self
    have h1 : l[i]? = some l[i] := List.getElem?_eq_getElem h0
    rw [List.filterMap_cons_some (f := fun i => l[i]?) h1, List.map_cons, List.map_cons, pick_all h l is fun j hj => hi j (List.mem_cons_of_mem _ hj), List.getElem?_map, h1]
    rfl
theorem nodup_le {α : Type} [DecidableEq α] : ∀ {l m : List α}, l.Nodup → (∀ x ∈ l, x ∈ m) → l.length ≤ m.length
  | [], _, _, _ => Nat.zero_le _
  | x :: l, m, h, hs => by
    obtain ⟨h1, h2⟩ := List.nodup_cons.mp h
    have hx := hs x List.mem_cons_self
    have ih := nodup_le (m := m.erase x) h2 fun y hy => (List.mem_erase_of_ne (fun z => h1 (by rw [← z]; exact hy))).mpr (hs y (List.mem_cons_of_mem _ hy))
    rw [List.length_erase_of_mem hx] at ih
    have := List.length_pos_of_mem hx
    rw [List.length_cons]
    omega
section
variable {P : Program} {w : World} {A : Around} {E : Value → Shared → Prop} {s : Shared} {a : Addr} {L : List Row} {es : Array (Int × Value)} {ep : Nat} {t : SetTable}
/-- the table laid anew -/
theorem relay {o : Obj} (ho : s.heap.get? a = some o) (hex : o.ExactSet) (hd : o.data = .set es ep t) (row : es.toList = L.map fun p => (p.2.hash w, Value.ref p.1)) (hp : t.place.size = es.size) (dm : t.dummies = #[]) (fl : es.size ≤ t.mask)
    (one : (L.map (·.2)).Nodup) (key : ∀ p ∈ L, At s.heap p) (led : w.params.followText "set-order" = true ∨ t.led = true) (few : L.length < 64) {wanted M : Nat}
    (hw : SetTable.sizeAbove wanted - 1 = M) (hM : MaskOk M) (hw2 : SetTable.sizeAbove wanted ≤ 128) (hn : L.length * 5 < M * 3) {Q : Unit → Shared → Prop}
    (hQ : ∀ h' L' es' ep' t', Heap.SameBut a s.heap h' → Tb P w h' a L' es' ep' t' → L'.Perm L → Q () { s with heap := h' }) : wpAny (model P w) A (setRelay a wanted) Q E s := by
  have hsl := len_rows row
  obtain ⟨t', order, e, pm, T, em, el, _, ed⟩ := relaid_ok t (hs := es.map (·.1)) (wanted := wanted) hw hM (by rw [Array.size_map, hsl]; omega)
  rw [Array.size_map, hsl] at pm
  have eL : (order.filterMap (es[·]?)).toList = ((order.toList.filterMap fun i => L[i]?)).map fun p => (p.2.hash w, Value.ref p.1) := by
    rw [Array.toList_filterMap, ← pick_map, ← row]
    congr 1
    funext i
    rw [Array.getElem?_toList]
  have pL : (order.toList.filterMap fun i => L[i]?).Perm L := by
    have := pm.filterMap fun i => L[i]?
    rw [range_pick] at this
    exact this
  have hT : (order.toList.map fun i => (es.map (·.1)).getD i 0) = (order.toList.filterMap fun i => L[i]?).map fun p => p.2.hash w := by
    rw [pick_all (fun p : Row => p.2.hash w) L order.toList fun i hi => List.mem_range.mp (pm.mem_iff.mp hi)]
    refine List.map_congr_left fun i _ => ?_
    rw [Array.getD_eq_getD_getElem?, Array.getElem?_map, ← Array.getElem?_toList, row, List.getElem?_map, List.getElem?_map]
    cases L[i]? <;> rfl
  rw [hT] at T
  generalize (order.toList.filterMap fun i => L[i]?) = L2 at eL pL T
  have hs2 : (order.filterMap (es[·]?)).size = es.size := by rw [len_rows eL, pL.length_eq, hsl]
  rw [setRelay_eq]
  refine wpAny_bind (wpAny_setState_of ho hd (fits_of hp dm fl) ?_)
  dsimp only
  refine wp_if_neg (by rw [sizeLine_eq]; omega) ?_
  try refine wpAny_bind (wpAny_pure ?_)
  rw [e]
  dsimp only
  refine wpAny_bind ?_
  refine wp_if_neg (by rw [hs2]; simp) ?_
  try refine wpAny_bind (wpAny_pure ?_)
  refine wpAny_pure ?_
  dsimp only
  refine wpAny_storeSet_of ho hd ?_ (by rw [hs2, hsl, sizeLine_eq]; omega)
  have sb : Heap.SameBut a s.heap (s.heap.update a (Obj.putSet (order.filterMap (es[·]?)) t')) := Heap.SameBut.update ..
  refine hQ _ L2 (order.filterMap (es[·]?)) (ep + 1) t' sb ⟨⟨_, store_at ho hd, ⟨hex.1, hex.2.1, hex.2.2⟩, rfl⟩, eL, T, (pL.map (·.2)).nodup_iff.mpr one, fun p hpm => (key p (pL.mem_iff.mp hpm)).but ho hd sb, by rw [el]; exact led, ?_, by rw [pL.length_eq]; exact few⟩ pL
  rw [pL.length_eq, em]
  exact hn
/-- a row put in -/
theorem put (R : Tb P w s.heap a L es ep t) {x : Row} (hx : At s.heap x) (hu : A.units + 8 < cLine) (hfew : x.2 ∉ L.map (·.2) → L.length + 1 < 64) {Q : Bool → Shared → Prop}
    (hQ : ∀ b h' L' es' ep' t', Heap.SameBut a s.heap h' → Tb P w h' a L' es' ep' t' → (x.2 ∈ L.map (·.2) → L' = L) → (x.2 ∉ L.map (·.2) → L'.Perm (x :: L)) → Q b { s with heap := h' }) :
    wpAny (model P w) A (setAddHashed a (.ref x.1) (x.2.hash w)) Q E s := by
  obtain ⟨o, ho, hex, hd⟩ := R.obj
  have hsl := len_rows R.row
  have hspare := R.spare
  unfold setAddHashed
  refine wpAny_holding ?_
  rw [show (100000 : Nat) = 99999 + 1 from rfl, setAddHashedIn_succ]
  refine wpAny_bind (wpAny_setState_of ho hd R.fits ?_)
  dsimp only
  refine wp_if_neg (by simp [byScan, Value.scannable]) ?_
  try refine wpAny_bind (wpAny_pure ?_)
  refine wpAny_bind (search_at R hx hu (fun hm => ?_) fun K hm free busy => ?_)
  · dsimp only
    exact wpAny_pure (hQ false s.heap L es ep t (Heap.SameBut.refl a s.heap) R (fun _ => rfl) fun z => absurd hm z)
  · have hlt := hfew hm
    dsimp only
    refine wpAny_bind (wpAny_setState_of ho hd R.fits ?_)
    dsimp only
    obtain ⟨q1, q2, q3, q4, q5, _, _, _, q9⟩ := R.tab.put free busy
    generalize hpt : t.put (way t.mask (x.2.hash w) K) = pt at q1 q3 q4 q5 q9 ⊢
    obtain ⟨t1, p⟩ := pt
    dsimp only at q1 q3 q4 q5 q9 ⊢
    subst q1
    -- from here on with a table that is t1 but for its field plain
    have fin : ∀ t2 : SetTable, t2.place = t1.place → t2.dummies = t1.dummies → t2.mask = t1.mask → t2.led = t1.led → t2.tooFull = t1.tooFull →
        wpAny (model P w) A (do
          storeSet a (SetTable.insertAt es (SetTable.below t.place (way t.mask (x.2.hash w) K)) (x.2.hash w, Value.ref x.1)) t2
          if !false && t2.tooFull then setRelay a (SetTable.grown (es.size + 1))
          return true) Q E s := fun t2 e1 e2 e3 e4 e5 => by
      have T2 : TabOk t2 ((L.map fun p => p.2.hash w).take (SetTable.below t.place (way t.mask (x.2.hash w) K)) ++ x.2.hash w :: (L.map fun p => p.2.hash w).drop (SetTable.below t.place (way t.mask (x.2.hash w) K))) :=
        ⟨by rw [e1]; exact q3.ris, by rw [e2]; exact q3.dm, by rw [e1]; exact q3.sz, by rw [e3]; exact q3.mok, by rw [e1, e3]; exact q3.bd, by rw [e1, e3]; exact q3.reach⟩
      have hrow : (SetTable.insertAt es (SetTable.below t.place (way t.mask (x.2.hash w) K)) (x.2.hash w, Value.ref x.1)).toList = (L.take (SetTable.below t.place (way t.mask (x.2.hash w) K)) ++ x :: L.drop (SetTable.below t.place (way t.mask (x.2.hash w) K))).map fun p => (p.2.hash w, Value.ref p.1) := by
        rw [SetTable.toList_insertAt, R.row, List.map_append, List.map_cons, List.map_take, List.map_drop]
      have hh : (L.map fun p => p.2.hash w).take (SetTable.below t.place (way t.mask (x.2.hash w) K)) ++ x.2.hash w :: (L.map fun p => p.2.hash w).drop (SetTable.below t.place (way t.mask (x.2.hash w) K)) = (L.take (SetTable.below t.place (way t.mask (x.2.hash w) K)) ++ x :: L.drop (SetTable.below t.place (way t.mask (x.2.hash w) K))).map fun p => p.2.hash w := by
        rw [List.map_append, List.map_cons, List.map_take, List.map_drop]
      rw [hh] at T2
      have pm : (L.take (SetTable.below t.place (way t.mask (x.2.hash w) K)) ++ x :: L.drop (SetTable.below t.place (way t.mask (x.2.hash w) K))).Perm (x :: L) := by
        have := List.perm_middle (a := x) (l₁ := L.take (SetTable.below t.place (way t.mask (x.2.hash w) K))) (l₂ := L.drop (SetTable.below t.place (way t.mask (x.2.hash w) K)))
        rw [List.take_append_drop] at this
        exact this
      generalize SetTable.insertAt es (SetTable.below t.place (way t.mask (x.2.hash w) K)) (x.2.hash w, Value.ref x.1) = es1 at hrow ⊢
      generalize L.take (SetTable.below t.place (way t.mask (x.2.hash w) K)) ++ x :: L.drop (SetTable.below t.place (way t.mask (x.2.hash w) K)) = L1 at hrow T2 pm
      have hlen : L1.length = L.length + 1 := pm.length_eq
      have hes := len_rows hrow
      have hpl := places T2
      refine wpAny_bind (wpAny_storeSet_of ho hd ?_ (by rw [hes, hlen, sizeLine_eq]; omega))
      have sb : Heap.SameBut a s.heap (s.heap.update a (Obj.putSet es1 t2)) := Heap.SameBut.update ..
      have ho1 := store_at (es' := es1) (t' := t2) ho hd
      generalize s.heap.update a (Obj.putSet es1 t2) = h1 at sb ho1 ⊢
      have one1 : (L1.map (·.2)).Nodup := (pm.map (·.2)).nodup_iff.mpr (by rw [List.map_cons]; exact List.nodup_cons.mpr ⟨hm, R.one⟩)
      have key1 : ∀ p ∈ L1, At h1 p := fun p hp => by
        rcases List.mem_cons.mp (pm.mem_iff.mp hp) with e | hp
        · rw [e]; exact hx.but ho hd sb
        · exact (R.key p hp).but ho hd sb
      have led1 : w.params.followText "set-order" = true ∨ t2.led = true := by rw [e4, q5]; exact R.led
      have full : t2.tooFull = decide ((L.length + 1) * 5 ≥ t.mask * 3) := by
        rw [e5]
        unfold SetTable.tooFull
        rw [q9, List.length_map, q4]
      by_cases hf : (L.length + 1) * 5 ≥ t.mask * 3
      · have hfT : t2.tooFull = true := by rw [full]; exact decide_eq_true hf
        first
          | (refine wpAny_bind ?_; refine wp_if_pos (by simp [hfT]) ?_)
          | (refine wp_if_pos (by simp [hfT]) ?_; refine wpAny_bind ?_)
        have lay : ∀ M, SetTable.sizeAbove (SetTable.grown (L.length + 1)) - 1 = M → MaskOk M → SetTable.sizeAbove (SetTable.grown (L.length + 1)) ≤ 128 → (L.length + 1) * 5 < M * 3 → L.length + 1 ≤ t.mask →
            wpAny (model P w) A (setRelay a (SetTable.grown (es.size + 1))) (fun _ s' => wpAny (model P w) A (pure true) Q E s') E { s with heap := h1 } := fun M m1 m2 m3 m4 m5 => by
          rw [hsl]
          refine relay (s := { s with heap := h1 }) ho1 ⟨hex.1, hex.2.1, hex.2.2⟩ rfl hrow (by rw [hpl, hes]) T2.dm (by rw [hes, hlen, e3, q4]; exact m5) one1 key1 led1 (by rw [hlen]; exact hlt) m1 m2 m3 (by rw [hlen]; exact m4) ?_
          intro h2 L2 es2 ep2 t3 sb2 R2 pm2
          exact wpAny_pure (hQ true h2 L2 es2 ep2 t3 (sb.trans sb2) R2 (fun z => absurd z hm) fun _ => pm2.trans pm)
        rcases R.tab.mok with e | e | e
        · have hl : L.length = 4 := by rw [e] at hf hspare; omega
          exact lay 31 (by rw [hl, size_20]) (.inr (.inl rfl)) (by rw [hl, size_20]; decide) (by omega) (by omega)
        · have hl : L.length = 18 := by rw [e] at hf hspare; omega
          exact lay 127 (by rw [hl, size_76]) (.inr (.inr rfl)) (by rw [hl, size_76]; decide) (by omega) (by omega)
        · exfalso; rw [e] at hf; omega
      · have hfF : t2.tooFull = false := by rw [full]; exact decide_eq_false hf
        first
          | refine wp_if_neg (by simp [hfF]) ?_
          | (refine wpAny_bind ?_; refine wp_if_neg (by simp [hfF]) ?_; refine wpAny_pure ?_)
        exact wpAny_pure (hQ true h1 L1 es1 (ep + 1) t2 sb ⟨⟨_, ho1, ⟨hex.1, hex.2.1, hex.2.2⟩, rfl⟩, hrow, T2, one1, key1, led1, by rw [hlen, e3, q4]; omega, by rw [hlen]; exact hlt⟩ (fun z => absurd z hm) fun _ => pm)
    have f1 := fin t1 rfl rfl rfl rfl rfl
    have f2 := fin { t1 with plain := false } rfl rfl rfl rfl rfl
    by_cases hpl : t1.plain = true
    · first
        | (refine wpAny_bind (wp_if_pos hpl ?_); refine by_value 8 x.2 _ s _ hx.1 hx.2 fun r => ?_)
        | (refine wp_if_pos hpl (wpAny_bind ?_); refine by_value 8 x.2 _ s _ hx.1 hx.2 fun r => ?_)
      cases r with
      | true => exact f1
      | false => exact f2
    · first
        | (refine wpAny_bind (wp_if_neg hpl ?_); refine wpAny_pure ?_; exact f1)
        | (refine wp_if_neg hpl (wpAny_bind ?_); refine wpAny_pure ?_; exact f1)
end
end NS

set_option maxRecDepth 100000
set_option maxHeartbeats 3200000
/-! Sets of nested tuples, part 3: set(xs), sorted(set). -/
namespace NS
open PySem PySem.Spec PyProof.Rows L2
structure Got (ks : List Row) (i : Nat) (L : List Row) : Prop where
  sub : ∀ p ∈ L, p ∈ ks.take i
  all : ∀ p ∈ ks.take i, p.2 ∈ L.map (·.2)
theorem Got.next {ks L L' : List Row} {i : Nat} {x : Row} (g : Got ks i L) (h : ks[i]? = some x) (h1 : x.2 ∈ L.map (·.2) → L' = L) (h2 : x.2 ∉ L.map (·.2) → L'.Perm (x :: L)) : Got ks (i + 1) L' := by
  have ht : ks.take (i + 1) = ks.take i ++ [x] := by rw [List.take_add_one, h]; rfl
  by_cases hm : x.2 ∈ L.map (·.2)
  · rw [h1 hm]
    refine ⟨fun p hp => by rw [ht]; exact List.mem_append_left _ (g.sub p hp), fun p hp => ?_⟩
    rw [ht] at hp
    rcases List.mem_append.mp hp with z | z
    · exact g.all p z
    · rw [List.mem_singleton.mp z]; exact hm
  · have pm := h2 hm
    refine ⟨fun p hp => ?_, fun p hp => ?_⟩
    · rw [ht]
      rcases List.mem_cons.mp (pm.mem_iff.mp hp) with e | z
      · rw [e]; exact List.mem_append_right _ (List.mem_singleton.mpr rfl)
      · exact List.mem_append_left _ (g.sub p z)
    · rw [(pm.map (·.2)).mem_iff, List.map_cons]
      rw [ht] at hp
      rcases List.mem_append.mp hp with z | z
      · exact List.mem_cons_of_mem _ (g.all p z)
      · rw [List.mem_singleton.mp z]; exact List.mem_cons_self
section
variable {P : Program} {w : World} {A : Around} {E : Value → Shared → Prop} {s : Shared}
theorem Tb.keep {h h' : Heap} {a : Addr} {L : List Row} {es : Array (Int × Value)} {ep : Nat} {t : SetTable} (R : Tb P w h a L es ep t) (ha : ∀ o, h.get? a = some o → h'.get? a = some o) (hk : ∀ p ∈ L, At h' p) : Tb P w h' a L es ep t := by
  obtain ⟨o, ho, r⟩ := R.obj
  exact ⟨⟨o, ha o ho, r⟩, R.row, R.tab, R.one, hk, R.led, R.spare, R.few⟩
theorem tb_new {h : Heap} {a : Addr} (ho : h.get? a = some { cls := .type "set", dict := none, data := .set #[] 0 (.fresh 0 0 (!w.params.followText "set-order")) }) : Tb P w h a [] #[] 0 (.fresh 0 0 (!w.params.followText "set-order")) where
  obj := ⟨_, ho, ⟨rfl, rfl, rfl⟩, rfl⟩
  row := rfl
  tab := ⟨List.Pairwise.nil, rfl, rfl, .inl rfl, fun x hx => (by cases hx), fun i h j hi => (by simp at hi)⟩
  one := List.nodup_nil
  key := fun p hp => (by cases hp)
  led := by
    show _ ∨ (!w.params.followText "set-order") = true
    cases w.params.followText "set-order"
    · exact .inr rfl
    · exact .inl rfl
  spare := by show 0 * 5 < 7 * 3; decide
  few := by show 0 < 64; decide
/-- the keys are among fewer than 64 -/
def Few (ks : List Row) : Prop := ∃ M : List NestedKey, M.length < 64 ∧ ∀ p ∈ ks, p.2 ∈ M
theorem Few.room {ks L : List Row} {i : Nat} {x : Row} (F : Few ks) (g : Got ks i L) (one : (L.map (·.2)).Nodup) (hx : x ∈ ks) (hn : x.2 ∉ L.map (·.2)) : L.length + 1 < 64 := by
  obtain ⟨M, h1, h2⟩ := F
  have := nodup_le (l := x.2 :: L.map (·.2)) (m := M) (List.nodup_cons.mpr ⟨hn, one⟩) fun y hy => by
    rcases List.mem_cons.mp hy with e | hy
    · rw [e]; exact h2 x hx
    · obtain ⟨p, hp, e⟩ := List.mem_map.mp hy
      rw [← e]
      exact h2 p (List.mem_of_mem_take (g.sub p hp))
  rw [List.length_cons, List.length_map] at this
  omega
/-- what the rows of a set are, and what adding one does -/
structure Kit (P : Program) (w : World) where
  ρ : Type
  val : ρ → Value
  ok : Heap → ρ → Prop
  stay : ∀ {h h' : Heap} {p : ρ}, ok h p → (∀ b o, h.get? b = some o → h'.get? b = some o) → ok h' p
  T : Heap → Addr → List ρ → Prop
  keep : ∀ {h h' : Heap} {a : Addr} {L : List ρ}, T h a L → (∀ o, h.get? a = some o → h'.get? a = some o) → (∀ p ∈ L, ok h' p) → T h' a L
  fresh : ∀ {h : Heap} {a : Addr}, h.get? a = some { cls := .type "set", dict := none, data := .set #[] 0 (.fresh 0 0 (!w.params.followText "set-order")) } → T h a []
  Got : List ρ → Nat → List ρ → Prop
  got0 : ∀ ks, Got ks 0 []
  sub : ∀ {ks i L}, Got ks i L → ∀ p ∈ L, p ∈ ks
  few : List ρ → Prop
  step : ∀ {ks : List ρ} {i : Nat} {p : ρ} {L : List ρ} {S : Addr} {A : Around} {E : Value → Shared → Prop} {s : Shared} {Q : Bool → Shared → Prop}, few ks → ks[i]? = some p → Got ks i L → T s.heap S L → ok s.heap p → A.units + 8 < cLine →
    (∀ b h' tk L', s.toks ≤ tk → Heap.SameBut S s.heap h' → T h' S L' → Got ks (i + 1) L' → Q b { s with heap := h', toks := tk }) → wpAny (model P w) A (setAdd S (val p)) Q E s
/-- the loop of set.update -/
theorem update_loop (Kt : Kit P w) {I : Addr} {fp wr : List Addr} {G : Array GenState → Array GenState → Prop} {n : Nat} {Pv : Nat → Value → Prop} {St : Nat → Shared → Prop} {R : Result → Shared → Prop}
    (W : WalksS P w A.in1 I fp wr G n Pv St) (S : Addr) (hSf : S ∉ fp) (ks : List Kt.ρ) (hn : n = ks.length) (Fw : Kt.few ks) (hval : ∀ i v, Pv i v → ∃ p, ks[i]? = some p ∧ v = Kt.val p)
    (h0 : Heap) (hk : ∀ p ∈ ks, Kt.ok h0 p) (hS0 : h0.get? S = none) (hw0 : ∀ b ∈ wr, h0.get? b = none) (hu : A.in1.units + 8 < cLine) :
    ∀ (k i : Nat) (s : Shared), n - i = k → i ≤ n → St i s → (∀ b o, h0.get? b = some o → s.heap.get? b = some o) → (∃ L, Kt.T s.heap S L ∧ Kt.Got ks i L) →
      (∀ s' L, Moved (S :: wr) G s s' → Kt.T s'.heap S L → Kt.Got ks n L → (∀ b o, h0.get? b = some o → s'.heap.get? b = some o) → R (.ok (.ret .none)) s') →
      codeAny (model P w) A (.builtin "set.update.loop" ⟨[.ref S, .ref I], []⟩) R s := by
  have hSw : S ∉ wr := fun h => hSf (W.sub _ h)
  have more : ∀ b ∈ wr, b ∈ S :: wr := fun b hb => List.mem_cons_of_mem _ hb
  have stays : ∀ {s s' : Shared}, Moved wr G s s' → (∀ b o, h0.get? b = some o → s.heap.get? b = some o) → ∀ b o, h0.get? b = some o → s'.heap.get? b = some o := fun hm hkp b o e =>
    hm.heap b o (fun hb => by rw [hw0 b hb] at e; cases e) (hkp b o e)
  intro k
  induction k with
  | zero =>
    intro i s hk' hi hst hkp ⟨L, hS, g⟩ hR
    have hin : i = n := by omega
    subst hin
    refine codeAny_builtin F.entry_set_update_loop ?_
    rw [Around.under_plainId F.plain_set_update_loop _]
    show wpAny _ A.in1 (pyNext (.ref I) >>= _) _ _ s
    refine wpAny_bind (W.done s _ _ hst fun s' hm => ?_)
    show wpAny _ A.in1 (ret Value.none) _ _ s'
    have hkp' := stays hm hkp
    exact wpAny_pure (hR s' L (hm.mono more) (Kt.keep hS (fun o e => hm.heap S o hSw e) fun p hp => Kt.stay (hk p (Kt.sub g p hp)) hkp') g hkp')
  | succ k ih =>
    intro i s hk' hi hst hkp ⟨L, hS, g⟩ hR
    have hlt : i < n := by omega
    refine codeAny_builtin F.entry_set_update_loop ?_
    rw [Around.under_plainId F.plain_set_update_loop _]
    show wpAny _ A.in1 (pyNext (.ref I) >>= _) _ _ s
    refine wpAny_bind (W.item i s _ _ hlt hst fun v s' hP hst' hm => ?_)
    obtain ⟨p, hp, rfl⟩ := hval i v hP
    have hkp' := stays hm hkp
    have hS' : Kt.T s'.heap S L := Kt.keep hS (fun o e => hm.heap S o hSw e) fun q hq => Kt.stay (hk q (Kt.sub g q hq)) hkp'
    have hpm := List.mem_of_getElem? hp
    have hx : Kt.ok s'.heap p := Kt.stay (hk p hpm) hkp'
    show wpAny _ A.in1 (holding [Kt.val p] (setAdd S (Kt.val p)) >>= _) _ _ s'
    refine wpAny_bind (wpAny_holding ?_)
    refine Kt.step Fw hp g hS' hx hu fun b h' tk L' htk hsb hS2 g' => ?_
    have hkp2 : ∀ b o, h0.get? b = some o → h'.get? b = some o := fun b o e => (hsb.2 b (fun z => by rw [z, hS0] at e; cases e)).trans (hkp' b o e)
    refine wpAny_pure ⟨plainId_quiet F.plain_set_update_loop _, ih (i + 1) _ (by omega) hlt (W.frame _ s' _ _ hst' htk fun b hb o e => ?_) hkp2 ⟨L', hS2, g'⟩ fun s'' L2 hm'' hS'' g'' hkp'' => ?_⟩
    · rw [hsb.2 b (fun h : b = S => hSf (by rw [← h]; exact hb))]; exact e
    · refine hR s'' L2 (Moved.trans W.gtrans ((hm.mono more).then_heap htk fun b o hb e => ?_) hm'') hS'' g'' hkp''
      rw [hsb.2 b (fun h : b = S => hb (by rw [h]; exact List.mem_cons_self))]; exact e
/-- set(xs) -/
theorem call_setG (Kt : Kit P w) {l : Addr} {items : Array Value} (ks : List Kt.ρ) {Q : Value → Shared → Prop} (hh : A.handled = none) (hl : s.heap.IsList l items) (hit : items.toList = ks.map Kt.val)
    (hk : ∀ p ∈ ks, Kt.ok s.heap p) (F0 : Kt.few ks) (hu : A.units + 12 < cLine)
    (h : ∀ (h' : Heap) (tk : Nat) L, Kt.T h' s.heap.objs.size L → Kt.Got ks ks.length L → (∀ b o, s.heap.get? b = some o → h'.get? b = some o) → Q (.ref s.heap.objs.size) { s with heap := h', toks := tk }) :
    wpAny (model P w) A (call (.type "set") [.ref l]) Q E s := by
  have hisz : items.size = ks.length := by rw [← Array.length_toList, hit, List.length_map]
  obtain ⟨c, tl, hmro⟩ := F.called_set.mro
  have hmade := F.called_set.made
  have hsub := F.called_set.sub
  refine wpAny_call (codeAny_of_tree ?_)
  show wpAny _ _ (callAny (.type "set") _) _ _ _
  refine wpAny_pure ⟨Code.quiet_builtin _ (by decide +kernel), codeAny_builtin F.entry_type_call ?_⟩
  rw [Around.under_plain (weight_type_call_type "set" [.ref l] []) rfl]
  have h1 := F.called_set.notType
  have h2 := F.called_set.canCreate
  have hct := F.typeCall_set_1 (.ref l)
  repeat (any_goals (first | assumption | wp_step))
  refine codeAny_mono (code_set_led1 (.ref l) (E := E) (Q₁ := fun obj s₁ => obj = .ref s.heap.objs.size ∧ s₁ = { s with heap := s.heap.push { cls := .type "set", dict := none, data := .set #[] 0 (.fresh 0 0 (!w.params.followText "set-order")) } }) ⟨rfl, rfl⟩) fun r s₁ hr => ?_
  cases r with
  | error e => exact hr
  | ok fl =>
    cases fl with
    | ret obj =>
      obtain ⟨rfl, rfl⟩ := hr
      have hS : (s.heap.push { cls := .type "set", dict := none, data := .set #[] 0 (.fresh 0 0 (!w.params.followText "set-order")) }).get? s.heap.objs.size = some { cls := .type "set", dict := none, data := .set #[] 0 (.fresh 0 0 (!w.params.followText "set-order")) } := Heap.get?_push_size _ rfl
      have hT : Shared.TypeIs { s with heap := s.heap.push { cls := .type "set", dict := none, data := .set #[] 0 (.fresh 0 0 (!w.params.followText "set-order")) } } (.ref s.heap.objs.size) "set" := ⟨_, hS, rfl⟩
      have hli := F.called_set.init.lookup
      have hbi := F.called_set.init.bind (.ref s.heap.objs.size)
      repeat (any_goals (first | assumption | wp_step))
      refine codeAny_mono (codeAny_call_builtin (R := wants (fun r s₂ => r = .none ∧ ∃ h' tk L, s₂ = { s with heap := h', toks := tk } ∧ Kt.T h' s.heap.objs.size L ∧ Kt.Got ks ks.length L ∧
          (∀ b o, s.heap.get? b = some o → h'.get? b = some o)) E) F.called_set.init.plain F.entry_set_init (check_set_init_1 hT ?_)) fun r₂ s₂ hr₂ => ?_
      · obtain ⟨ol, hol, hcl, nl, hdl⟩ := hl
        obtain ⟨ocls, odict, odata, oslots⟩ := ol
        simp only at hcl hdl
        subst hcl; subst hdl
        have hol' : (s.heap.push { cls := .type "set", dict := none, data := .set #[] 0 (.fresh 0 0 (!w.params.followText "set-order")) }).get? l = some { cls := .type "list", dict := odict, data := .seq items nl, slots := oslots } := Heap.get?_push_of_some _ hol
        have hsls := F.sub_list_set
        have hslf := F.sub_list_frozenset
        have hne : (Value.type "list" == Value.type "dict") = false := by decide
        have hl1 : (s.heap.push { cls := .type "set", dict := none, data := .set #[] 0 (.fresh 0 0 (!w.params.followText "set-order")) }).IsList l items := ⟨_, hol', rfl, nl, rfl⟩
        unfold Builtin.«set.__init__» noKeywords Builtin.Frozenset.updateFrom
        generalize hPI : pyIter = PI
        wp_walk
        subst hPI
        refine wpAny_pyIter_list hl1 ?_
        refine wpAny_bind (wpAny_runValue ?_)
        have hlS : l < s.heap.objs.size := Heap.lt_size hol
        have hh3 : A.in1.in1.in1.handled = none := by simp [hh]
        have hz1 : (s.heap.push { cls := .type "set", dict := none, data := .set #[] 0 (.fresh 0 0 (!w.params.followText "set-order")) }).objs.size = s.heap.objs.size + 1 := Heap.size_push ..
        have hneI : l ≠ (s.heap.push { cls := .type "set", dict := none, data := .set #[] 0 (.fresh 0 0 (!w.params.followText "set-order")) }).objs.size := by
          rw [Heap.size_push]; exact Nat.ne_of_lt (Nat.lt_succ_of_lt hlS)
        have hSf : s.heap.objs.size ∉ [(s.heap.push { cls := .type "set", dict := none, data := .set #[] 0 (.fresh 0 0 (!w.params.followText "set-order")) }).objs.size, l] := by
          rw [Heap.size_push]; simp only [List.mem_cons, List.mem_singleton, List.not_mem_nil, or_false, not_or]
          exact ⟨Nat.ne_of_lt (Nat.lt_succ_self _), Nat.ne_of_gt hlS⟩
        have hval : ∀ (i : Nat) (v : Value), items[i]? = some v → ∃ p, ks[i]? = some p ∧ v = Kt.val p := fun i v hv => by
          have q : items.toList[i]? = some v := by rw [Array.getElem?_toList]; exact hv
          rw [hit, List.getElem?_map] at q
          cases hq : ks[i]? with
          | none => rw [hq] at q; cases q
          | some p => rw [hq] at q; exact ⟨p, rfl, (Option.some.inj q).symm⟩
        have none_of : ∀ b, s.heap.objs.size ≤ b → s.heap.get? b = none := fun b hb => by
          cases q : s.heap.get? b with
          | none => rfl
          | some o => exact absurd (Nat.lt_of_lt_of_le (Heap.lt_size q) hb) (Nat.lt_irrefl _)
        refine update_loop Kt ((Walks.list hh3 _ l hneI items).toS) s.heap.objs.size
          hSf ks hisz F0 hval s.heap hk (none_of _ (Nat.le_refl _)) (fun b hb => none_of b (by
            rw [List.mem_singleton.mp hb, hz1]
            exact Nat.le_succ _)) (by simp only [Around.in1_units]; omega) (items.size - 0) 0 _ (by omega) (Nat.zero_le _)
          ⟨⟨_, Heap.get?_push_size _ rfl, rfl, rfl⟩, (hl1.push _)⟩ (fun b o e => Heap.get?_push_of_some _ (Heap.get?_push_of_some _ e)) ?hS0 ?hR
        case hS0 =>
          exact ⟨[], Kt.fresh (Heap.get?_push_of_some _ hS), Kt.got0 ks⟩
        case hR =>
          intro s' L hm hS' g' hkp
          obtain ⟨h', g2, d', tk', os'⟩ := s'
          have eg : g2 = s.gens := hm.gens
          have ed : d' = s.drawn := hm.drawn
          have eo : os' = s.os := hm.os
          subst eg; subst ed; subst eo
          show wpAny _ _ _ _ _ _
          refine wpAny_pure ?_
          show wpAny _ _ (ret Value.none) _ _ _
          rw [hisz] at g'
          exact wpAny_pure ⟨rfl, h', tk', L, rfl, hS', g', hkp⟩
      · cases r₂ with
        | error e => exact hr₂
        | ok fl₂ =>
          cases fl₂ with
          | ret r =>
            obtain ⟨rfl, h', tk, L, rfl, hS', g', hk'⟩ := hr₂
            repeat (any_goals (first | assumption | wp_step))
            exact h _ _ _ hS' g' hk'
          | _ => exact hr₂.elim
    | _ => exact hr.elim
/-- rows that are nested tuples -/
def tupKit (P : Program) (w : World) : Kit P w where
  ρ := Row
  val := fun p => .ref p.1
  ok := At
  stay := fun h k => h.keep k
  T := fun h a L => ∃ es ep t, Tb P w h a L es ep t
  keep := fun ⟨es, ep, t, R⟩ ha hk => ⟨es, ep, t, R.keep ha hk⟩
  fresh := fun ho => ⟨_, _, _, tb_new ho⟩
  Got := Got
  got0 := fun ks => ⟨fun p hp => (by cases hp), fun p hp => (by rw [List.take_zero] at hp; cases hp)⟩
  sub := fun g p hp => List.mem_of_mem_take (g.sub p hp)
  few := Few
  step := fun {ks i p L S A E s Q} Fw hp g ⟨es, ep, t, hS⟩ hx hu hQ => by
    unfold setAdd
    refine wpAny_holding ?_
    refine wpAny_bind ((nestedKind P w).pyHash (k := p.2) (show A.units + 8 < cLine from hu) hx ?_)
    refine put (s := { s with toks := s.toks + (nestedKind P w).draws p.2 }) hS hx hu (fun hn => Fw.room g hS.one (List.mem_of_getElem? hp) hn) fun b h' L' es' ep' t' hsb hS2 c1 c2 => ?_
    exact hQ b h' _ L' (Nat.le_add_right _ _) hsb ⟨_, _, _, hS2⟩ (g.next hp c1 c2)
/-- set(xs) -/
theorem call_set {l : Addr} {items : Array Value} (ks : List Row) {Q : Value → Shared → Prop} (hh : A.handled = none) (hl : s.heap.IsList l items) (hit : items.toList = ks.map fun p => Value.ref p.1)
    (hk : ∀ p ∈ ks, At s.heap p) (F0 : Few ks) (hu : A.units + 12 < cLine)
    (h : ∀ (h' : Heap) (tk : Nat) L es ep t, Tb P w h' s.heap.objs.size L es ep t → Got ks ks.length L → (∀ b o, s.heap.get? b = some o → h'.get? b = some o) → Q (.ref s.heap.objs.size) { s with heap := h', toks := tk }) :
    wpAny (model P w) A (call (.type "set") [.ref l]) Q E s :=
  call_setG (tupKit P w) ks hh hl hit hk F0 hu fun h' tk L ⟨es, ep, t, R⟩ g k => h h' tk L es ep t R g k
end
end NS

set_option maxRecDepth 100000
set_option maxHeartbeats 3200000
/-! Sets of nested tuples, part 4: sorted(set(xs)) over data. -/
namespace NS
open PySem PySem.Spec PyProof.Rows L2 DL
/-! ### data as keys -/
mutual
def keyD : PyData → NestedKey
  | .int i => .num i
  | .str x => .text x
  | .tuple ds => .tup (keysD ds)
  | .none => .none
  | .bool _ => .none
  | .list _ => .none
  | .dict _ => .none
def keysD : List PyData → List NestedKey
  | [] => []
  | d :: ds => keyD d :: keysD ds
end
/-- ints, texts, tuples of such, at most n deep -/
inductive Kd : Nat → PyData → Prop
  | int {n : Nat} (i : Int) : Kd n (.int i)
  | str {n : Nat} (x : Str) : Kd n (.str x)
  | tuple {n : Nat} {ds : List PyData} (h : ∀ d ∈ ds, Kd n d) : Kd (n + 1) (.tuple ds)
theorem keysD_map : ∀ ds : List PyData, keysD ds = ds.map keyD
  | [] => by simp [keysD]
  | d :: ds => by simp only [keysD, List.map_cons, keysD_map ds]
theorem datas_map : ∀ ks : List NestedKey, NestedKey.datas ks = ks.map NestedKey.data
  | [] => by simp [NestedKey.datas]
  | k :: ks => by simp only [NestedKey.datas, List.map_cons, datas_map ks]
theorem kd_data {n : Nat} {d : PyData} (h : Kd n d) : (keyD d).data = d := by
  induction h with
  | int i => simp [keyD, NestedKey.data]
  | str x => simp [keyD, NestedKey.data]
  | @tuple n ds h ih =>
    simp only [keyD, NestedKey.data, keysD_map, datas_map, List.map_map]
    congr 1
    conv => rhs; rw [← List.map_id ds]
    exact List.map_congr_left fun d hd => ih d hd
theorem kd_depth {n : Nat} {d : PyData} (h : Kd n d) : (keyD d).depth ≤ n := by
  induction h with
  | int i => simp [keyD, NestedKey.depth]
  | str x => simp [keyD, NestedKey.depth]
  | @tuple n ds h ih =>
    have key : ∀ l : List PyData, (∀ d ∈ l, (keyD d).depth ≤ n) → NestedKey.depthAll (keysD l) ≤ n := by
      intro l
      induction l with
      | nil => intro _; simp [keysD, NestedKey.depthAll]
      | cons d l ihl =>
        intro hl
        have h1 := hl d List.mem_cons_self
        have h2 := ihl fun x hx => hl x (List.mem_cons_of_mem _ hx)
        simp only [keysD, NestedKey.depthAll]
        omega
    simp only [keyD, NestedKey.depth]
    have := key ds ih
    omega
theorem kd_is {h : Heap} {n : Nat} {d : PyData} (hk : Kd n d) : ∀ {u : Value} {as : List Addr}, Reads h u d as → NestedIs h (keyD d) u := by
  induction hk with
  | int i => intro u as r; cases r; rw [keyD]; exact .int _ _
  | str x => intro u as r; cases r; rw [keyD]; exact .text _ _
  | @tuple n ds hd ih =>
    intro u as r
    cases r with
    | tuple h1 h2 h3 h4 =>
      rw [keyD]
      refine .tup h1 h2 h3 ?_
      have key : ∀ (l : List PyData) (vs : List Value) (as : List Addr), (∀ d ∈ l, ∀ {u : Value} {as : List Addr}, Reads h u d as → NestedIs h (keyD d) u) → ReadsAll h vs l as → NestedAll h (keysD l) vs := by
        intro l
        induction l with
        | nil => intro vs as _ q; cases q; simp only [keysD]; exact .nil
        | cons d l ihl =>
          intro vs as hl q
          cases q with
          | cons q1 q2 =>
            simp only [keysD]
            exact .cons (hl d List.mem_cons_self q1) (ihl _ _ (fun x hx => hl x (List.mem_cons_of_mem _ hx)) q2)
      exact key ds _ _ ih h4
theorem kd_reads_nil {h : Heap} {n : Nat} {d : PyData} (hk : Kd n d) : ∀ {u : Value} {as : List Addr}, Reads h u d as → as = [] := by
  induction hk with
  | int i => intro u as r; cases r; rfl
  | str x => intro u as r; cases r; rfl
  | @tuple n ds hd ih =>
    intro u as r
    cases r with
    | tuple h1 h2 h3 h4 =>
      have key : ∀ (l : List PyData) (vs : List Value) (as : List Addr), (∀ d ∈ l, ∀ {u : Value} {as : List Addr}, Reads h u d as → as = []) → ReadsAll h vs l as → as = [] := by
        intro l
        induction l with
        | nil => intro vs as _ q; cases q; rfl
        | cons d l ihl =>
          intro vs as hl q
          cases q with
          | cons q1 q2 =>
            rw [hl d List.mem_cons_self q1, ihl _ _ (fun x hx => hl x (List.mem_cons_of_mem _ hx)) q2]
            rfl
      exact key ds _ _ ih h4
/-! ### rows with their data -/
abbrev DRow := Addr × PyData
def toRow (p : DRow) : Row := (p.1, keyD p.2)
theorem perm_map_inv {α β : Type} (f : α → β) : ∀ {l m : List β}, l.Perm m → ∀ L : List α, m = L.map f → ∃ L1 : List α, L1.Perm L ∧ l = L1.map f := by
  intro l m h
  induction h with
  | nil =>
    intro L e
    have : L = [] := by cases L with | nil => rfl | cons x L => simp at e
    exact ⟨[], by rw [this], rfl⟩
  | cons x h ih =>
    intro L e
    cases L with
    | nil => simp at e
    | cons y L =>
      rw [List.map_cons] at e
      injection e with e1 e2
      obtain ⟨L1, h1, h2⟩ := ih L e2
      exact ⟨y :: L1, h1.cons y, by rw [List.map_cons, ← e1, h2]⟩
  | swap x y l =>
    intro L e
    cases L with
    | nil => simp at e
    | cons a L =>
      cases L with
      | nil => simp at e
      | cons b L =>
        rw [List.map_cons, List.map_cons] at e
        injection e with e1 e2
        injection e2 with e2 e3
        exact ⟨b :: a :: L, List.Perm.swap a b L, by rw [List.map_cons, List.map_cons, ← e1, ← e2, e3]⟩
  | trans h1 h2 ih1 ih2 =>
    intro L e
    obtain ⟨L2, p2, e2⟩ := ih2 L e
    obtain ⟨L1, p1, e1⟩ := ih1 L2 e2
    exact ⟨L1, p1.trans p2, e1⟩
section
variable {P : Program} {w : World} {A : Around} {E : Value → Shared → Prop} {s : Shared}
theorem each_refs (R : Value → DRow → Prop) : ∀ L : List DRow, (∀ p ∈ L, R (.ref p.1) p) → PySem.W.EachIs R (L.map fun p => Value.ref p.1) L
  | [], _ => .nil
  | p :: L, h => .cons (h p List.mem_cons_self) (each_refs R L fun q hq => h q (List.mem_cons_of_mem _ hq))
theorem each_eq : ∀ {vs : List Value} {L : List DRow}, PySem.W.EachIs (fun v (p : DRow) => v = .ref p.1) vs L → vs = L.map fun p => Value.ref p.1
  | [], _, .nil => rfl
  | _ :: _, _, .cons r t => by rw [r, each_eq t]; rfl
/-- sorted(s), s such a set -/
theorem sorted_set {a : Addr} {L : List DRow} {es : Array (Int × Value)} {ep : Nat} {t : SetTable} {Q : Value → Shared → Prop} (R : Tb P w s.heap a (L.map toRow) es ep t) (hh : A.handled = none) (hk : ∀ p ∈ L, Kd 8 p.2)
    (hr : ∀ p ∈ L, ∃ as, Reads s.heap (.ref p.1) p.2 as) (hz : Srt (L.map (·.2))) (hu : A.units + 70 < cLine)
    (hQ : ∀ s' p (c : Nat) (L1 : List DRow), (∀ b o, s.heap.get? b = some o → s'.heap.get? b = some o) → s'.gens = s.gens → s'.os = s.os → s.heap.objs.size ≤ p → L1.Perm L →
      s'.heap.get? p = some (seqObj "list" ((L1.mergeSort (PySem.W.dataLe false Prod.snd)).map fun q => Value.ref q.1).toArray c) → Q (.ref p) s') :
    wpAny (model P w) A (call (.builtin "sorted") [.ref a]) Q E s := by
  obtain ⟨o, ho, hex, hd⟩ := R.obj
  have hfew := R.few
  have hsz := len_rows R.row
  rw [List.length_map] at hfew
  rw [List.length_map] at hsz
  refine Calls.call_function_entry kind_sorted plain_sorted entry_sorted (args_sorted1 _) ?_
  unfold Builtin.«sorted»
  refine wpAny_bind (m := checkCount "sorted" 1 1 _) (wpAny_pure ?_)
  refine wpAny_bind (collect_set (A := A.in1) hh ⟨o, ho, hex.1, hd⟩ R.fits (by unfold scanBound; omega) R.tab.ris R.led fun s1 vs k1 hz1 g1 o1 pm => ?_)
  have hes : es.toList.map (·.2) = L.map fun q => Value.ref q.1 := by
    rw [R.row, List.map_map, List.map_map]; rfl
  rw [hes] at pm
  obtain ⟨L1, pL, rfl⟩ := perm_map_inv (fun q : DRow => Value.ref q.1) pm L rfl
  have hl1 : L1.length < 64 := by rw [pL.length_eq]; exact hfew
  refine wpAny_bind (wpAny_newList ?_ (by rw [List.length_map, sizeLine_eq]; omega))
  have hoL : (s1.heap.push (seqObj "list" (L1.map fun q => Value.ref q.1).toArray 0)).get? s1.heap.objs.size = some (seqObj "list" (L1.map fun q => Value.ref q.1).toArray 0) := Heap.get?_push_size _ rfl
  have hperm2 : (L1.map (·.2)).Perm (L.map (·.2)) := pL.map _
  have al : PySem.W.AllAlike (L1.map (·.2)) := fun x hx y hy => hz.al x (hperm2.mem_iff.mp hx) y (hperm2.mem_iff.mp hy)
  have so : PySem.W.Sortable (L1.map (·.2)) := by
    rcases hz.so with h | h
    · exact .inl fun d hd => h d (hperm2.mem_iff.mp hd)
    · exact .inr fun d hd => h d (hperm2.mem_iff.mp hd)
  refine wpAny_bind (wpAny_holding (PySem.W.list_sort_data (R := fun v (p : DRow) => v = .ref p.1) (enc := Prod.snd) (bs := L1) (s := { s1 with heap := s1.heap.push (seqObj "list" (L1.map fun q => Value.ref q.1).toArray 0) }) hoL (each_refs _ L1 fun p _ => rfl) (each_refs _ L1 fun p hp => ?_) al so (by rw [sizeLine_eq]; omega) (fun p hp => ?_) fun out hol he => ?_))
  · have hpL := pL.mem_iff.mp hp
    obtain ⟨as, r⟩ := hr p hpL
    refine ⟨as, Reads.keeps (fun b u e => Heap.get?_push_of_some _ (k1 b u e)) r, ?_⟩
    rw [kd_reads_nil (hk p hpL) r]
    exact List.not_mem_nil
  · have := hz.dep p.2 (List.mem_map.mpr ⟨p, pL.mem_iff.mp hp, rfl⟩)
    simp only [Around.in1_units]
    omega
  · rw [each_eq he]
    obtain ⟨c, hc⟩ := sortedHeap_at (vs := L1.map fun q => Value.ref q.1) (out := ((L1.mergeSort (PySem.W.dataLe false Prod.snd)).map fun q => Value.ref q.1).toArray) hoL
    refine wpAny_pure ⟨_, rfl, hQ _ s1.heap.objs.size c L1 (fun b u e => ?_) g1 o1 hz1 pL hc⟩
    have q := k1 b u e
    have hlt := Heap.lt_size q
    show (sortedHeap (s1.heap.push (seqObj "list" (L1.map fun q => Value.ref q.1).toArray 0)) s1.heap.objs.size _ _).get? b = some u
    rw [sortedHeap_old (Nat.ne_of_lt hlt) (by rw [Heap.size_push]; exact Nat.lt_succ_of_lt hlt)]
    exact Heap.get?_push_of_some _ q
end
end NS

set_option maxRecDepth 100000
set_option maxHeartbeats 3200000
/-! Sets of nested tuples, part 5: the rules. -/
namespace NS
open PySem PySem.Spec PyProof.Rows L2 DL
/-- the set as an object, its keys' tuples told elsewhere -/
def T0 (P : Program) (w : World) (h : Heap) (a : Addr) (L : List Row) : Prop := ∃ (es : Array (Int × Value)) (ep : Nat) (t : SetTable), (∃ o, h.get? a = some o ∧ o.ExactSet ∧ o.data = .set es ep t) ∧ es.toList = (L.map fun p => (p.2.hash w, Value.ref p.1)) ∧
  TabOk t (L.map fun p => p.2.hash w) ∧ (L.map (·.2)).Nodup ∧ (w.params.followText "set-order" = true ∨ t.led = true) ∧ L.length * 5 < t.mask * 3 ∧ L.length < 64
def TO (P : Program) (w : World) (a : Addr) (L : List Row) : HO := .ext fun h => T0 P w h a L
theorem Tb.t0 {P : Program} {w : World} {h : Heap} {a : Addr} {L : List Row} {es : Array (Int × Value)} {ep : Nat} {t : SetTable} (R : Tb P w h a L es ep t) : T0 P w h a L := ⟨es, ep, t, R.obj, R.row, R.tab, R.one, R.led, R.spare, R.few⟩
theorem T0.full {P : Program} {w : World} {h : Heap} {a : Addr} {L : List Row} (R : T0 P w h a L) (k : ∀ p ∈ L, At h p) : ∃ es ep t, Tb P w h a L es ep t := by
  obtain ⟨es, ep, t, h1, h2, h3, h4, h5, h6, h7⟩ := R
  exact ⟨es, ep, t, h1, h2, h3, h4, k, h5, h6, h7⟩
theorem to_new {P : Program} {w : World} {H : Hp} {h : Heap} {a : Addr} {L : List Row} (R : T0 P w h a L) : ObjOk P w H h a (TO P w a L) := by
  refine ⟨R, ?_, fun h1 h2 p k => ?_⟩
  · obtain ⟨es, ep, t, ⟨o, ho, _⟩, _⟩ := R
    exact ⟨o, ho⟩
  · obtain ⟨es, ep, t, ⟨o, ho, r⟩, q⟩ := p
    exact ⟨es, ep, t, ⟨o, k o ho, r⟩, q⟩
theorem vals_refs : ∀ L : List DRow, Vals (L.map fun p => V.ref p.1) (L.map fun p => Value.ref p.1)
  | [] => .nil
  | p :: L => .cons rfl (vals_refs L)
theorem refs_vals : ∀ {L : List DRow} {us : List Value}, Vals (L.map fun p => V.ref p.1) us → us = L.map fun p => Value.ref p.1
  | [], _, .nil => rfl
  | p :: L, _, .cons r t => by
    cases r
    rw [refs_vals t]; rfl
section
variable {X : Cx}
theorem row_at {pins : List (Addr × Obj)} {σ : L2.St} {H : Hp} {s : Shared} (I : Inv X pins σ H s) {p : DRow} (h : Dp X.K H (.ref p.1) p.2) (hk : Kd 8 p.2) : At s.heap (toRow p) ∧ ∃ as, Reads s.heap (.ref p.1) p.2 as := by
  obtain ⟨as, r⟩ := Dp.reads I p.2 _ (.ref p.1) h rfl
  exact ⟨⟨kd_is hk r, kd_depth hk⟩, as, r⟩
def rSetN (K : PySem.W.Frag) (P : Program) (w : World) : List V → Hp → VK → Prop := fun xs H Q => ∃ (l : Addr) (bs : List DRow), xs = [V.ref l] ∧ SqL K H l (bs.map fun p => V.ref p.1) ∧ (∀ p ∈ bs, Dp K H (.ref p.1) p.2 ∧ Kd 8 p.2) ∧
  (∃ M : List PyData, M.length < 64 ∧ ∀ p ∈ bs, p.2 ∈ M) ∧ ∀ a (L : List DRow), H a = none → (∀ p ∈ L, p ∈ bs) → (∀ p ∈ bs, p.2 ∈ L.map (·.2)) → (L.map (·.2)).Nodup → Q (.ref a) (upd H a (TO P w a (L.map toRow)))
theorem cr_setN (hc : X.calm = true) (hu : X.A.units + 64 < cLine) : CallR X (.type "set") (rSetN X.K X.prog X.w) := by
  intro pins s σ H xs us Q I r h
  obtain ⟨l, bs, rfl, hl, hd, ⟨M, hM, hm⟩, q⟩ := h
  rw [Vals.ref1 r]
  obtain ⟨its, rv, pl, hz⟩ := I.list hl
  have hn : H s.heap.objs.size = none := I.hok.fresh (Nat.le_refl _)
  refine call_set (P := X.prog) (w := X.w) (bs.map toRow) (I.ok.hd hc) pl.isList ?_ (fun p hp => ?_) ⟨M.map keyD, by rw [List.length_map]; exact hM, fun p hp => ?_⟩ (by omega) fun h' tk L es ep t R g k => ?_
  · rw [List.map_map]
    show its.toArray.toList = _
    rw [List.toList_toArray]
    exact refs_vals rv
  · obtain ⟨z, hz, rfl⟩ := List.mem_map.mp hp
    exact (row_at I (hd z hz).1 (hd z hz).2).1
  · obtain ⟨z, hz, rfl⟩ := List.mem_map.mp hp
    exact List.mem_map.mpr ⟨z.2, hm z hz, rfl⟩
  · have sub : ∀ p ∈ L, p ∈ bs.map toRow := fun p hp => List.mem_of_mem_take (g.sub p hp)
    obtain ⟨L2, hL2, e2⟩ : ∃ L2 : List DRow, (∀ p ∈ L2, p ∈ bs) ∧ L = L2.map toRow := by
      have key : ∀ L : List Row, (∀ p ∈ L, p ∈ bs.map toRow) → ∃ L2 : List DRow, (∀ p ∈ L2, p ∈ bs) ∧ L = L2.map toRow := by
        intro L
        induction L with
        | nil => intro _; exact ⟨[], (fun p hp => by cases hp), rfl⟩
        | cons x L ih =>
          intro h
          obtain ⟨z, hz, e⟩ := List.mem_map.mp (h x List.mem_cons_self)
          obtain ⟨L2, h2, e2⟩ := ih fun y hy => h y (List.mem_cons_of_mem _ hy)
          refine ⟨z :: L2, fun p hp => ?_, by rw [List.map_cons, e, e2]⟩
          rcases List.mem_cons.mp hp with e | hp
          · rw [e]; exact hz
          · exact h2 p hp
      exact key L sub
    subst e2
    have inj : ∀ x ∈ bs, ∀ y ∈ bs, keyD x.2 = keyD y.2 → x.2 = y.2 := fun x hx y hy e => by
      rw [← kd_data (hd x hx).2, ← kd_data (hd y hy).2, e]
    refine ⟨.ref s.heap.objs.size, upd H s.heap.objs.size (TO X.prog X.w s.heap.objs.size (L2.map toRow)), I.laid (t' := tk) k (Nat.le_refl _) (to_new R.t0), rfl, q _ L2 hn hL2 (fun p hp => ?_) ?_⟩
    · have := g.all (toRow p) (by rw [List.take_length]; exact List.mem_map.mpr ⟨p, hp, rfl⟩)
      rw [List.map_map] at this
      obtain ⟨z, hz, e⟩ := List.mem_map.mp this
      exact List.mem_map.mpr ⟨z, hz, inj z (hL2 z hz) p hp e⟩
    · have one := R.one
      rw [List.map_map] at one
      exact List.Pairwise.map _ (fun _ _ h => h) (List.pairwise_map.mp one |>.imp fun {x y} h e => h (congrArg keyD e))
def rSortedN (K : PySem.W.Frag) (P : Program) (w : World) : List V → Hp → VK → Prop := fun xs H Q => ∃ (a : Addr) (L : List DRow), xs = [V.ref a] ∧ H a = some (TO P w a (L.map toRow)) ∧ (∀ p ∈ L, Dp K H (.ref p.1) p.2 ∧ Kd 8 p.2) ∧ Srt (L.map (·.2)) ∧
  ∀ p (L1 : List DRow), L1.Perm L → H p = none → Q (.ref p) (upd H p (.lst ((L1.mergeSort (PySem.W.dataLe false Prod.snd)).map fun q => V.ref q.1)))
theorem cr_sortedN {k : Nat} (hc : X.calm = true) (hr : Room k X.A) : CallR X (.builtin "sorted") (rSortedN X.K X.prog X.w) := by
  intro pins s σ H xs us Q I r h
  obtain ⟨a, L, rfl, ha, hd, hz, q⟩ := h
  rw [Vals.ref1 r]
  have R0 : T0 X.prog X.w s.heap a (L.map toRow) := (I.hok a _ ha).1
  obtain ⟨es, ep, t, R⟩ := R0.full fun p hp => by
    obtain ⟨z, hz, rfl⟩ := List.mem_map.mp hp
    exact (row_at I (hd z hz).1 (hd z hz).2).1
  have hun := hr.un
  refine sorted_set R (I.ok.hd hc) (fun p hp => (hd p hp).2) (fun p hp => (row_at I (hd p hp).1 (hd p hp).2).2) hz (by omega) fun s' p c L1 k g o hp pL hg => ?_
  have hfew : L1.length < 64 := by
    have := R.few
    rw [List.length_map] at this
    rw [pL.length_eq]; exact this
  have hlen : ((L1.mergeSort (PySem.W.dataLe false Prod.snd)).map fun q => V.ref q.1).length ≤ sizeLine := by rw [List.length_map, List.length_mergeSort, sizeLine_eq]; omega
  have hn : H p = none := I.hok.fresh hp
  have J : Inv X pins σ (upd H p (.lst ((L1.mergeSort (PySem.W.dataLe false Prod.snd)).map fun q => V.ref q.1))) { s with heap := s'.heap, gens := s'.gens, drawn := s'.drawn, toks := s'.toks } :=
    I.call (ch := []) (Un.laid k hp hn) (I.hok.laid k hp ⟨hlen, _, c, vals_refs _, hg⟩) (by rw [g]; exact I.bare) (fun _ z => nomatch z)
  have e : s' = { s with heap := s'.heap, gens := s'.gens, drawn := s'.drawn, toks := s'.toks } := by
    cases s'
    cases s
    cases o
    rfl
  rw [e]
  exact ⟨.ref p, _, J, rfl, q p L1 pL hn⟩
end
section
variable {P : Program} {w : World} {K : PySem.W.Frag} {mg : Str → Option Value} {base : Heap} {C : Ctx P w K mg base} {rho : List SV} {e a b c : Expr} {es : List Expr} {ds zs : List PyData} {pos p p2 p3 : Pos}
theorem rows_of {G : Hp} : ∀ {vs : List V} {ds : List PyData}, DpAll K G vs ds → (∀ d ∈ ds, isTupD d = true) → ∃ bs : List DRow, vs = bs.map (fun p => V.ref p.1) ∧ ds = bs.map (·.2) ∧ ∀ p ∈ bs, Dp K G (.ref p.1) p.2
  | _, _, .nil, _ => ⟨[], rfl, rfl, fun p hp => by cases hp⟩
  | _, _, .cons (v := v) (d := d) h t, hd => by
    obtain ⟨bs, e1, e2, h1⟩ := rows_of t fun x hx => hd x (List.mem_cons_of_mem _ hx)
    have hv : ∃ a, v = .ref a := by
      have := hd d List.mem_cons_self
      cases h with
      | tup s _ => exact ⟨_, rfl⟩
      | non => cases this
      | bl => cases this
      | int => cases this
      | str => cases this
      | lst => cases this
    obtain ⟨a, rfl⟩ := hv
    refine ⟨(a, d) :: bs, by rw [List.map_cons, e1], by rw [List.map_cons, e2], fun p hp => ?_⟩
    rcases List.mem_cons.mp hp with e | hp
    · rw [e]; exact h
    · exact h1 p hp
theorem en_sortedSet (T : Blt mg) (h : EL C rho e true ds) (hd : ∀ d ∈ ds, isTupD d = true ∧ Kd 8 d) (hm : ∃ M : List PyData, M.length < 64 ∧ ∀ d ∈ ds, d ∈ M) (hz : ∀ es : List PyData, es.Nodup → (∀ d, d ∈ es ↔ d ∈ ds) → Srt es ∧ sortD es = zs)
    (hms : mg "set" = none := by exact T.set) (hg : ∀ i, Gl (C.X i) "sorted" := by intro _; rfl) (hg2 : ∀ i, Gl (C.X i) "set" := by intro _; rfl) (he : ∀ i, starEach (e :: []) (C.X i).env = (false, eval e (C.X i).env) :: starEach [] (C.X i).env := by intro _; rfl) : EN C rho (.Call (.Name "sorted" p) [.Call (.Name "set" p2) [e] [] p3] [] pos) zs :=
  EN.of (t := tCB (rSortedN K P w) (tCons (tCB (rSetN K P w) (tCons (wE C e) tNil)) tNil)) (fun i => by
    have h1 : CallR (C.X i) (.builtin "sorted") (rSortedN K P w) := by
      have := cr_sortedN (C.calm i) (C.room i)
      rw [C.hK, C.hP, C.hw] at this
      exact this
    have h2 : CallR (C.X i) (.type "set") (rSetN K P w) := by
      have := cr_setN (C.calm i) (C.hu1 i)
      rw [C.hK, C.hP, C.hw] at this
      exact this
    exact pe_callB h1 (hg i) (by rw [C.hmg]; exact T.sorted) PyProof.Rows.boot_sorted (pa_cons (pe_callTy h2 (hg2 i) (by rw [C.hmg]; exact hms) PyProof.Rows.boot_set (pa_cons (pe_w i) pa_nil (he i)) (he := he i)) pa_nil)) fun B σ G H Q q z => h B σ G H _ q fun l vs G1 H1 x1 s1 t1 => by
    obtain ⟨bs, rfl, rfl, hb⟩ := rows_of t1 fun d hdm => (hd d hdm).1
    refine ⟨l, bs, rfl, of_sq_l s1, fun p hp => ⟨dp_ex x1.s (hb p hp), (hd p.2 (List.mem_map.mpr ⟨p, hp, rfl⟩)).2⟩, ?_, fun a L ha hL1 hL2 one => ?_⟩
    · obtain ⟨M, h1, h2⟩ := hm
      exact ⟨M, h1, fun p hp => h2 p.2 (List.mem_map.mpr ⟨p, hp, rfl⟩)⟩
    · obtain ⟨srt, ez⟩ := hz (L.map (·.2)) one fun d => ⟨fun h => by
        obtain ⟨p, hp, rfl⟩ := List.mem_map.mp h
        exact List.mem_map.mpr ⟨p, hL1 p hp, rfl⟩, fun h => by
        obtain ⟨p, hp, rfl⟩ := List.mem_map.mp h
        exact hL2 p hp⟩
      have x2 : Nx G H G1 (upd H1 a (TO P w a (L.map toRow))) := x1.trans (Nx.priv x1.s ha)
      refine ⟨a, L, rfl, upd_same, fun p hp => ⟨dp_ex x2.s (hb p (hL1 p hp)), (hd p.2 (List.mem_map.mpr ⟨p, hL1 p hp, rfl⟩)).2⟩, srt, fun p L1 pL hp => ?_⟩
      refine z p _ G1 _ (x2.trans (Nx.priv x2.s hp)) (x2.h.free hp) (x2.s.free hp) upd_same ?_
      have hperm := pL.map (·.2)
      have hsort : sortD (L1.map (·.2)) = zs := (hz (L1.map (·.2)) (hperm.nodup_iff.mpr one) fun d => by
        rw [hperm.mem_iff]
        exact ⟨fun h => by
          obtain ⟨p, hp, rfl⟩ := List.mem_map.mp h
          exact List.mem_map.mpr ⟨p, hL1 p hp, rfl⟩, fun h => by
          obtain ⟨p, hp, rfl⟩ := List.mem_map.mp h
          exact hL2 p hp⟩).2
      have em : (L1.mergeSort (PySem.W.dataLe false Prod.snd)).map Prod.snd = zs := by
        rw [← hsort]
        unfold sortD
        exact List.map_mergeSort (fun a _ b _ => rfl)
      rw [← em]
      have key : ∀ l : List DRow, (∀ q ∈ l, Dp K G1 (.ref q.1) q.2) → DpAll K G1 (l.map fun q => V.ref q.1) (l.map Prod.snd) := by
        intro l
        induction l with
        | nil => intro _; exact .nil
        | cons q l ih => intro hq; exact .cons (hq q List.mem_cons_self) (ih fun x hx => hq x (List.mem_cons_of_mem _ hx))
      exact key _ fun q hq => hb q (hL1 q (pL.mem_iff.mp ((List.mergeSort_perm _ _).mem_iff.mp hq)))
end
end NS

set_option maxRecDepth 100000
set_option maxHeartbeats 3200000
/-! Dict comprehensions, whatever the store; dicts with nested tuples as keys. -/
namespace NS
open PySem PySem.Spec PyProof.Rows L2 DL
/-- what a store of z under y in the dict at D leads to -/
abbrev DSt := Hp → Addr → V → V → (Hp → Prop) → Prop
def DStOk (P : Program) (w : World) (K : PySem.W.Frag) (St : DSt) : Prop := ∀ (X : Cx), X.prog = P → X.w = w → X.K = K → X.A.units + 64 < cLine → ∀ (pins : List (Addr × Obj)) (σ : L2.St) (H : Hp) (s : Shared) (E : Value → Shared → Prop) (D : Addr) (y z : V) (u r : Value) (F : Hp → Prop) (Q : Unit → Shared → Prop),
  L2.Inv X pins σ H s → RelV y u → RelV z r → St H D y z F → (∀ s' H', L2.Inv X pins σ H' s' → F H' → Q () s') → wpAny (model X.prog X.w) X.A (dictSet D u r) Q E s
def tDx (St : DSt) (O0 : Addr → HO) (wi : TI) (g : TG) (tt : TT) (tk tv : TE) (vs : List Nat) : TE := fun σ H Q => wi σ H fun J H1 => ∀ D, H1 D = none → ∃ W : Nat → Nat → Hp → Prop, (∃ m, W 0 m (upd H1 D (O0 D))) ∧ ∀ i m H, W i m H →
  (J.stop i H ∧ Q (.ref D) H) ∨ (J.go i H ∧ ∃ Nx : Hp → Prop, (∀ H', Nx H' → ∃ m', m' < m ∧ W (i + 1) m' H') ∧ ∀ x H', J.yld i H x H' → g x (wipe σ vs) H' fun σ2 H2 => wipe σ2 vs = wipe σ vs ∧ tt σ2 H2 fun b H3 =>
    if b = true then tk σ2 H3 fun y H4 => tv σ2 H4 fun z H5 => St H5 D y z Nx else Nx H3)
section
variable {X : Cx}
theorem dx_core {St : DSt} {O0 : Addr → HO} {pins : List (Addr × Obj)} {s : Shared} {σ : L2.St} {H : Hp} {Q : VK} {kx vx tg iter : Expr} {ifs : List Expr} {scope : Scope} {own : List (Str × Nat)} {pos pos' : Pos} {wi : TI} {g : TG} {tt : TT} {tk tv : TE} {use : Option (Value → Sem Unit)} {Qf : Value → Shared → Prop}
    (hSt : DStOk X.prog X.w X.K St) (hO : ∀ (H : Hp) (h : Heap), sysModules < h.objs.size → ObjOk X.prog X.w H (h.push { cls := .type "dict", data := .dict #[] }) h.objs.size (O0 h.objs.size)) (hu : X.A.units + 64 < cLine)
    (hc : X.calm = true) (hN : X.N.Nodup) (I : L2.Inv X pins σ H s) (hi : PI X tg iter wi) (ok : BlkOk X.N X.env.scope scope own)
    (hg : ∀ (s : Shared) (H : Hp) (C : Addr) (cl : List (Str × Addr)) (fp : List Addr), PG (X.blk s H scope (compEnvC scope cl C X.env) fp) tg g) (ht : ∀ (s : Shared) (H : Hp) (C : Addr) (cl : List (Str × Addr)) (fp : List Addr), PTs (X.blk s H scope (compEnvC scope cl C X.env) fp) ifs tt)
    (hk : ∀ (s : Shared) (H : Hp) (C : Addr) (cl : List (Str × Addr)) (fp : List Addr), PE (X.blk s H scope (compEnvC scope cl C X.env) fp) kx tk)
    (he : ∀ (s : Shared) (H : Hp) (C : Addr) (cl : List (Str × Addr)) (fp : List Addr), PE (X.blk s H scope (compEnvC scope cl C X.env) fp) vx tv) (hs : ∀ x, foldedSetIterable iter X.env x = pure x)
    (h : tDx St O0 wi g tt tk tv (own.map (·.2)) σ H Q)
    (hRR : ∀ D C s' m H', L2.Inv X pins σ H' s' → Q (.ref D) H' → s'.heap.Ns C m → FpOk X pins H' C → compPost (model X.prog X.w) X.A X.xe use Qf (.ref D) C (.ok .next) s') :
    wpAny (model X.prog X.w) X.A (comprehension (.DictComp kx vx [⟨tg, iter, ifs, 0⟩] scope pos) scope X.env pos' newDict false (eval iter X.env) use) Qf X.xe s := by
  have hfree : ∀ y ∈ scope.names, y.2 = .free → ∃ c, X.env.cells.lookup y.1 = some c := fun y hy e => by
    rcases ok.free y hy e with k | k
    · exact I.ok.has _ (.inl k)
    · exact I.ok.has _ (.inr k)
  refine wpAny_comprehension_free (use := use) rfl hs (closure_ok hfree) ok.kind (fun y hy e => by rw [ok.uniq y hy, e]) (thn (hi.run pins s σ H _ I h) fun xv s1 hx => thn hx fun itv s2 h2 => ?_)
  obtain ⟨it, fp, tn, J, H2, e, I2, T, st2, f2, q⟩ := h2
  subst e
  refine wpAny_newObj_type (newEnv_comp ?_)
  generalize hD : s2.heap.objs.size = D
  have hDn : H2 D = none := I2.hok.fresh (Nat.le_of_eq hD)
  obtain ⟨W, ⟨m0, w0⟩, turn⟩ := q D hDn
  generalize hs3 : ({ s2 with heap := s2.heap.push { cls := .type "dict", data := .dict #[] } } : Shared) = s3
  have I3 : L2.Inv X pins σ (upd H2 D (O0 D)) s3 := by
    rw [← hs3]
    refine I2.laid (t' := s2.toks) (fun b o e => Heap.get?_push_of_some _ e) (Nat.le_of_eq hD) ?_
    rw [← hD]
    exact hO _ s2.heap I2.big
  have h3 : s3.heap = s2.heap.push { cls := .type "dict", data := .dict #[] } := by rw [← hs3]
  have sz : ∀ b ∈ fp, b < s2.heap.objs.size := fun b hb => by
    obtain ⟨o, e, _⟩ := T.obj _ _ st2 b hb
    exact Heap.lt_size e
  have f3 : ∀ b ∈ fp, FpOk X pins (upd H2 D (O0 D)) b ∧ b < s3.heap.objs.size := fun b hb => by
    have hlt := sz b hb
    refine ⟨⟨?_, (f2 b hb).2⟩, by rw [h3, Heap.size_push]; exact Nat.lt_succ_of_lt hlt⟩
    rw [upd_ne (by rw [← hD]; exact Nat.ne_of_lt hlt)]
    exact (f2 b hb).1
  have st3 : tn 0 s3.heap := T.keep _ _ _ st2 fun b _ o e => by rw [h3]; exact Heap.get?_push_of_some _ e
  have I4 := block_start I3 ok hN f3
  have pg := hg s3 (upd H2 D (O0 D)) s3.heap.objs.size (cellsFrom (s3.heap.objs.size + 1) scope.names (cloFrom X.env.cells scope.names [])) fp
  have pt := ht s3 (upd H2 D (O0 D)) s3.heap.objs.size (cellsFrom (s3.heap.objs.size + 1) scope.names (cloFrom X.env.cells scope.names [])) fp
  have pk := hk s3 (upd H2 D (O0 D)) s3.heap.objs.size (cellsFrom (s3.heap.objs.size + 1) scope.names (cloFrom X.env.cells scope.names [])) fp
  have pe := he s3 (upd H2 D (O0 D)) s3.heap.objs.size (cellsFrom (s3.heap.objs.size + 1) scope.names (cloFrom X.env.cells scope.names [])) fp
  show codeAny _ _ (.compStart (.DictComp kx vx [⟨tg, iter, ifs, 0⟩] scope pos) 0 (.ref it) (.ref D) (compEnvC scope (cellsFrom (s3.heap.objs.size + 1) scope.names (cloFrom X.env.cells scope.names [])) s3.heap.objs.size X.env)) (compPost (model X.prog X.w) X.A X.xe use Qf (.ref D) s3.heap.objs.size) { s3 with heap := pushCells (s3.heap.push { cls := .type "dict", data := .dict #[] }) scope.names }
  have nfp : ∀ b ∈ fp, (upd H2 D (O0 D)) b = none := fun b hb => (f3 b hb).1.1
  generalize hce : compEnvC scope (cellsFrom (s3.heap.objs.size + 1) scope.names (cloFrom X.env.cells scope.names [])) s3.heap.objs.size X.env = ce at I4 pg pt pk pe ⊢
  have cL : ce.locals = s3.heap.objs.size := by subst hce; rfl
  generalize hH3 : upd H2 D (O0 D) = H3 at I3 I4 pg pt pk pe w0 nfp f3
  generalize hs4 : ({ s3 with heap := pushCells (s3.heap.push { cls := .type "dict", data := .dict #[] }) scope.names } : Shared) = s4 at I4 ⊢
  have st4 : tn 0 s4.heap := T.keep _ _ _ st3 fun b _ o e => by rw [← hs4]; exact pushCells_keeps _ _ _ _ (Heap.get?_push_of_some _ e)
  have stat : ∀ {σ' : L2.St} {H' : Hp} {s' : Shared}, L2.Inv (X.blk s3 H3 scope ce fp) [] σ' H' s' → (∀ b ∈ fp, H' b = none) → ∀ b ∈ fp, FpOk (X.blk s3 H3 scope ce fp) [] H' b := fun {σ' H' s'} I' hn b hb =>
    ⟨hn b hb, (I'.ok.exf b hb).1, I'.ok.exfs b hb, .inl hb, fun x c e => (I'.ok.exf b hb).2 x c e, fun p hp => absurd (show p ∈ ([] : List (Addr × Obj)) ++ [] from hp) (by simp)⟩
  have loop : codeAny (model X.prog X.w) X.A (.compLoop (.DictComp kx vx [⟨tg, iter, ifs, 0⟩] scope pos) 0 (.ref it) (.ref D) ce) (compPost (model X.prog X.w) X.A X.xe use Qf (.ref D) s3.heap.objs.size) s4 := by
    refine compLoop_anyD (fun n s' => ∃ i H', L2.Inv (X.blk s3 H3 scope ce fp) [] (wipe σ (own.map (·.2))) H' s' ∧ tn i s'.heap ∧ (∀ b ∈ fp, H' b = none) ∧ W i n H') ?_ m0 ⟨0, H3, I4, st4, nfp, w0⟩
    rintro n s5 ⟨i, H5, I5, st5, n5, w5⟩
    rcases turn i n H5 w5 with ⟨stop, qq⟩ | ⟨go, Nx, hNx, step⟩
    · refine thnF (T.done (X.blk s3 H3 scope ce fp) rfl rfl rfl hc i [] s5 _ H5 (fun _ _ => False) I5 (stat I5 n5) st5 stop) fun r s6 ⟨hr, I6⟩ => ?_
      subst hr
      have I7 : L2.Inv X pins σ H5 s6 := I3.call' (ch := fp) I6.os I6.base I6.hok I6.bare fun b hb => ⟨(f3 b hb).1.2.2.2.1, (f3 b hb).1.2.1, (f3 b hb).1.2.2.2.2.1, (f3 b hb).1.2.2.2.2.2⟩
      have nC : H5 s3.heap.objs.size = none := by
        have z : H5 ce.locals = none := I6.free
        rw [cL] at z
        exact z
      obtain ⟨m, hn, _⟩ := I6.loc
      have hn : s6.heap.Ns ce.locals m := hn
      rw [cL] at hn
      exact hRR D s3.heap.objs.size s6 m H5 I7 qq hn (I3.fpOk (Nat.le_refl _) nC)
    · refine thnF (T.item (X.blk s3 H3 scope ce fp) rfl rfl rfl hc i [] s5 _ H5 (fun _ _ => False) I5 (stat I5 n5) st5 go) fun r s6 ⟨u, hr, h6⟩ => ?_
      subst hr
      refine thnF h6 fun _ s7 ⟨x, H7, I7, r7, y7, st7, n7⟩ => ?_
      have I7' := I7.pinned (stat I7 n7) (T.obj _ _ st7)
      refine thnF (pg.run _ s7 _ H7 x u _ I7' r7 (step x H7 y7)) fun _ s8 ⟨σ8, H8, I8, hw8, q8⟩ => ?_
      refine thnF (pt.run _ s8 σ8 H8 _ I8 q8) fun b s9 ⟨H9, I9, q9⟩ => ?_
      have fin : ∀ {s' : Shared} {H' : Hp}, L2.Inv (X.blk s3 H3 scope ce fp) ([] ++ pinsAt fp s7.heap) σ8 H' s' → Nx H' → ∃ m, m < n ∧ ∃ i H', L2.Inv (X.blk s3 H3 scope ce fp) [] (wipe σ (own.map (·.2))) H' s' ∧ tn i s'.heap ∧ (∀ b ∈ fp, H' b = none) ∧ W i m H' := fun {s' H'} I' nx => by
        obtain ⟨m', hm, w'⟩ := hNx H' nx
        have pin' : ∀ b ∈ fp, ∀ o, s7.heap.get? b = some o → s'.heap.get? b = some o ∧ H' b = none := fun b hb o e =>
          let z := I'.pin (b, o) (List.mem_append_right _ (List.mem_append_right _ (mem_pinsAt hb e)))
          ⟨z.1, z.2.1⟩
        have hl : (wipe σ (own.map (·.2))).length = σ8.length := by rw [← hw8, wipe_length]
        refine ⟨m', hm, i + 1, H', (I'.unpinned (pins := [])).weak hl (fun j v e => ?_), T.keep _ _ _ st7 fun b hb o e => (pin' b hb o e).1, fun b hb => ?_, w'⟩
        · rw [← hw8] at e
          exact (wipe_some e).1
        · obtain ⟨o, e, _⟩ := T.obj _ _ st7 b hb
          exact (pin' b hb o e).2
      cases b with
      | false =>
        simp only [Bool.false_eq_true, if_false] at q9 ⊢
        exact fin I9 q9
      | true =>
        simp only [if_true] at q9 ⊢
        refine thnF (pk.run _ s9 σ8 H9 _ I9 q9) fun z s10 ⟨yk, H10, I10, r10, q10⟩ => ?_
        refine thnF (pe.run _ s10 σ8 H10 _ I10 q10) fun z2 s11 ⟨yv, H11, I11, r11, q11⟩ => ?_
        exact hSt (X.blk s3 H3 scope ce fp) rfl rfl rfl hu _ σ8 H11 s11 _ D yk yv z z2 Nx _ I11 r10 r11 q11 fun s12 H12 I12 nx => fin I12 nx
  exact codeAny_compStart_dict loop (T.self X.A 0 _ _ _ st4 loop)
theorem pe_dx {St : DSt} {O0 : Addr → HO} {kx vx tg iter : Expr} {ifs : List Expr} {scope : Scope} {own : List (Str × Nat)} {pos : Pos} {wi : TI} {g : TG} {tt : TT} {tk tv : TE}
    (hSt : DStOk X.prog X.w X.K St) (hO : ∀ (H : Hp) (h : Heap), sysModules < h.objs.size → ObjOk X.prog X.w H (h.push { cls := .type "dict", data := .dict #[] }) h.objs.size (O0 h.objs.size)) (hu : X.A.units + 64 < cLine)
    (hc : X.calm = true) (hN : X.N.Nodup) (hi : PI X tg iter wi) (ok : BlkOk X.N X.env.scope scope own)
    (hg : ∀ (s : Shared) (H : Hp) (C : Addr) (cl : List (Str × Addr)) (fp : List Addr), PG (X.blk s H scope (compEnvC scope cl C X.env) fp) tg g) (ht : ∀ (s : Shared) (H : Hp) (C : Addr) (cl : List (Str × Addr)) (fp : List Addr), PTs (X.blk s H scope (compEnvC scope cl C X.env) fp) ifs tt)
    (hk : ∀ (s : Shared) (H : Hp) (C : Addr) (cl : List (Str × Addr)) (fp : List Addr), PE (X.blk s H scope (compEnvC scope cl C X.env) fp) kx tk)
    (he : ∀ (s : Shared) (H : Hp) (C : Addr) (cl : List (Str × Addr)) (fp : List Addr), PE (X.blk s H scope (compEnvC scope cl C X.env) fp) vx tv) (hs : ∀ x, foldedSetIterable iter X.env x = pure x := by intro _; rfl) :
    PE X (.DictComp kx vx [⟨tg, iter, ifs, 0⟩] scope pos) (tDx St O0 wi g tt tk tv (own.map (·.2))) := by
  refine ⟨fun pins s σ H Q I h => ?_⟩
  rw [arm_eval_DictComp]
  refine dx_core hSt hO hu hc hN I hi ok hg ht hk he hs h fun D C s' m H' I' q hn f => ⟨m, hn, fun h'' sb => ?_⟩
  obtain ⟨f0, f1, f2, f3, f4, f5⟩ := f
  exact ⟨.ref D, H', I'.turned (t' := s'.toks) (fun b o hb e => (sb.2 b hb).trans e) f0 f1 f3 f4 f5, rfl, q⟩
/-- y = {k: v for ..} -/
theorem ps_setDx {St : DSt} {O0 : Addr → HO} {i : Nat} {y : Str} {py : Pos} {kx vx tg iter : Expr} {ifs : List Expr} {scope : Scope} {own : List (Str × Nat)} {pos spos : Pos} {wi : TI} {g : TG} {tt : TT} {tk tv : TE}
    (hSt : DStOk X.prog X.w X.K St) (hO : ∀ (H : Hp) (h : Heap), sysModules < h.objs.size → ObjOk X.prog X.w H (h.push { cls := .type "dict", data := .dict #[] }) h.objs.size (O0 h.objs.size)) (hu : X.A.units + 64 < cLine)
    (hc : X.calm = true) (hN : X.N.Nodup) (hy : X.N[i]? = some y) (hyl : X.env.scope.names.lookup y = some .local) (hsw : swapsWith (.DictComp kx vx [⟨tg, iter, ifs, 0⟩] scope pos) (some (.Name y py)) spos.line X.env = pure true) (hi : PI X tg iter wi) (ok : BlkOk X.N X.env.scope scope own)
    (hg : ∀ (s : Shared) (H : Hp) (C : Addr) (cl : List (Str × Addr)) (fp : List Addr), PG (X.blk s H scope (compEnvC scope cl C X.env) fp) tg g) (ht : ∀ (s : Shared) (H : Hp) (C : Addr) (cl : List (Str × Addr)) (fp : List Addr), PTs (X.blk s H scope (compEnvC scope cl C X.env) fp) ifs tt)
    (hk : ∀ (s : Shared) (H : Hp) (C : Addr) (cl : List (Str × Addr)) (fp : List Addr), PE (X.blk s H scope (compEnvC scope cl C X.env) fp) kx tk)
    (he : ∀ (s : Shared) (H : Hp) (C : Addr) (cl : List (Str × Addr)) (fp : List Addr), PE (X.blk s H scope (compEnvC scope cl C X.env) fp) vx tv) (hs : ∀ x, foldedSetIterable iter X.env x = pure x := by intro _; rfl) :
    PS X (.Assign [.Name y py] (.DictComp kx vx [⟨tg, iter, ifs, 0⟩] scope pos) spos) (tAsg (tDx St O0 wi g tt tk tv (own.map (·.2))) (gName i)) := by
  refine ⟨fun pins s σ H D I h => ?_⟩
  rw [exec_Assign_Name_used _ _ _ _ hsw]
  refine wpAny_bind (wpAny_standAt (wpAny_bind ?_))
  have h : tDx St O0 wi g tt tk tv (own.map (·.2)) σ H (fun x H1 => gName i x σ H1 D.nx) := h
  refine wpAny_bind (thn (dx_core (use := some (assign (.Name y py) X.env)) (pos' := firstIterPos [⟨tg, iter, ifs, 0⟩] pos) (Qf := fun _ s' => SP X pins D .next s') hSt hO hu hc hN I hi ok hg ht hk he hs h fun L C s' m H' I' q hn f => ?_) fun _ s' hq => wpAny_pure (wpAny_pure hq))
  show wpAny _ _ (assign (.Name y py) X.env (.ref L)) _ _ _
  refine wpAny_assign_Name (store_ok2 (v := V.ref L) I' hN hy (.inl hyl) rfl (fun s2 I2 ⟨a, sb, ha⟩ => ?_) (.inr hyl))
  obtain ⟨f0, f1, f2, f3, f4, f5⟩ := f
  have haC : C ≠ a := by
    rcases ha with z | z
    · rw [z]; exact f1
    · exact fun e => f4 y a z e.symm
  refine ⟨m, hn.sameBut sb haC, fun h3 sb3 => ?_⟩
  exact ⟨_, H', I2.turned (t' := s2.toks) (fun b o hb e => (sb3.2 b hb).trans e) f0 f1 f3 f4 f5, q⟩
/-- .. keys that are texts -/
theorem ps_setDc {i : Nat} {y : Str} {py : Pos} {kx vx tg iter : Expr} {ifs : List Expr} {scope : Scope} {own : List (Str × Nat)} {pos spos : Pos} {wi : TI} {g : TG} {tt : TT} {tk tv : TE}
    (hc : X.calm = true) (hN : X.N.Nodup) (hy : X.N[i]? = some y) (hyl : X.env.scope.names.lookup y = some .local) (hsw : swapsWith (.DictComp kx vx [⟨tg, iter, ifs, 0⟩] scope pos) (some (.Name y py)) spos.line X.env = pure true) (hi : PI X tg iter wi) (ok : BlkOk X.N X.env.scope scope own)
    (hg : ∀ (s : Shared) (H : Hp) (C : Addr) (cl : List (Str × Addr)) (fp : List Addr), PG (X.blk s H scope (compEnvC scope cl C X.env) fp) tg g) (ht : ∀ (s : Shared) (H : Hp) (C : Addr) (cl : List (Str × Addr)) (fp : List Addr), PTs (X.blk s H scope (compEnvC scope cl C X.env) fp) ifs tt)
    (hk : ∀ (s : Shared) (H : Hp) (C : Addr) (cl : List (Str × Addr)) (fp : List Addr), PE (X.blk s H scope (compEnvC scope cl C X.env) fp) kx tk)
    (he : ∀ (s : Shared) (H : Hp) (C : Addr) (cl : List (Str × Addr)) (fp : List Addr), PE (X.blk s H scope (compEnvC scope cl C X.env) fp) vx tv) (hs : ∀ x, foldedSetIterable iter X.env x = pure x := by intro _; rfl) :
    PS X (.Assign [.Name y py] (.DictComp kx vx [⟨tg, iter, ifs, 0⟩] scope pos) spos) (tAsg (tDc wi g tt tk tv (own.map (·.2))) (gName i)) := by
  refine ⟨fun pins s σ H D I h => ?_⟩
  rw [exec_Assign_Name_used _ _ _ _ hsw]
  refine wpAny_bind (wpAny_standAt (wpAny_bind ?_))
  have h : tDc wi g tt tk tv (own.map (·.2)) σ H (fun x H1 => gName i x σ H1 D.nx) := h
  refine wpAny_bind (thn (dc_core (use := some (assign (.Name y py) X.env)) (pos' := firstIterPos [⟨tg, iter, ifs, 0⟩] pos) (Qf := fun _ s' => SP X pins D .next s') hc hN I hi ok hg ht hk he hs h fun L C s' m H' I' q hn f => ?_) fun _ s' hq => wpAny_pure (wpAny_pure hq))
  show wpAny _ _ (assign (.Name y py) X.env (.ref L)) _ _ _
  refine wpAny_assign_Name (store_ok2 (v := V.ref L) I' hN hy (.inl hyl) rfl (fun s2 I2 ⟨a, sb, ha⟩ => ?_) (.inr hyl))
  obtain ⟨f0, f1, f2, f3, f4, f5⟩ := f
  have haC : C ≠ a := by
    rcases ha with z | z
    · rw [z]; exact f1
    · exact fun e => f4 y a z e.symm
  refine ⟨m, hn.sameBut sb haC, fun h3 sb3 => ?_⟩
  exact ⟨_, H', I2.turned (t' := s2.toks) (fun b o hb e => (sb3.2 b hb).trans e) f0 f1 f3 f4 f5, q⟩
end
end NS

set_option maxRecDepth 100000
set_option maxHeartbeats 3200000
/-! Dicts whose keys are nested tuples: as objects; the rules. -/
namespace NS
open PySem PySem.Spec PyProof.Rows L2 DL
abbrev Ent := DRow × V
abbrev MEnt := NestedKey × Addr × Value
/-- a tracked entry, as it stands -/
def EntR (p : Ent) (q : MEnt) : Prop := keyD p.1.2 = q.1 ∧ p.1.1 = q.2.1 ∧ RelV p.2 q.2.2
def D0 (P : Program) (w : World) (h : Heap) (a : Addr) (L : List Ent) : Prop := (a == sysModules) = false ∧ L.length ≤ sizeLine ∧ ∃ xs : List MEnt, Paired EntR L xs ∧
  ∃ o es ep, h.get? a = some o ∧ o.ExactDict ∧ o.data = .dict es ep ∧ es.toList = xs.map (entryOfKey (nestedKind P w)) ∧ (xs.map (·.1)).Nodup
def DO (P : Program) (w : World) (a : Addr) (L : List Ent) : HO := .ext fun h => D0 P w h a L
theorem do_new {P : Program} {w : World} {H : Hp} {h : Heap} {a : Addr} {L : List Ent} (R : D0 P w h a L) : ObjOk P w H h a (DO P w a L) := by
  refine ⟨R, ?_, fun h1 h2 p k => ?_⟩
  · obtain ⟨_, _, xs, _, o, es, ep, ho, _⟩ := R
    exact ⟨o, ho⟩
  · obtain ⟨z1, z2, xs, rel, o, es, ep, ho, r⟩ := p
    exact ⟨z1, z2, xs, rel, o, es, ep, k o ho, r⟩
theorem pr_len {α β : Type} {F : α → β → Prop} : ∀ {l : List α} {m : List β}, Paired F l m → l.length = m.length
  | _, _, .nil => rfl
  | _, _, .cons _ t => congrArg (· + 1) (pr_len t)
theorem pr_app {α β : Type} {F : α → β → Prop} {x : α} {y : β} (h : F x y) : ∀ {l : List α} {m : List β}, Paired F l m → Paired F (l ++ [x]) (m ++ [y])
  | _, _, .nil => .cons h .nil
  | _, _, .cons r t => .cons r (pr_app h t)
theorem pr_map {α β : Type} {F : α → β → Prop} {f : α → α} {g : β → β} (h : ∀ x y, F x y → F (f x) (g y)) : ∀ {l : List α} {m : List β}, Paired F l m → Paired F (l.map f) (m.map g)
  | _, _, .nil => .nil
  | _, _, .cons r t => .cons (h _ _ r) (pr_map h t)
theorem pr_get {α β : Type} {F : α → β → Prop} : ∀ {l : List α} {m : List β} {i : Nat} {y : β}, Paired F l m → m[i]? = some y → ∃ x, l[i]? = some x ∧ F x y
  | _, _, _, _, .nil, h => by simp at h
  | _, _, 0, y, .cons r _, h => by
    have h' := Option.some.inj h
    subst h'
    exact ⟨_, rfl, r⟩
  | _, _, i + 1, y, .cons _ t, h => pr_get (i := i) t h
def putL (L : List Ent) (r : DRow) (z : V) : List Ent := if (L.any fun p => decide (keyD p.1.2 = keyD r.2)) = true then L.map (fun p => if keyD p.1.2 = keyD r.2 then (p.1, z) else p) else L ++ [(r, z)]
theorem len_putL (L : List Ent) (r : DRow) (z : V) : (putL L r z).length ≤ L.length + 1 := by
  unfold putL
  split
  · rw [List.length_map]; omega
  · rw [List.length_append]; simp
theorem at_any : ∀ {L : List Ent} {xs : List MEnt} (k : NestedKey), Paired EntR L xs → (atKey xs k).isSome = L.any fun p => decide (keyD p.1.2 = k)
  | _, _, k, .nil => rfl
  | p :: L, q :: xs, k, .cons r t => by
    have ih := at_any k t
    unfold atKey at ih ⊢
    rw [List.any_cons, ← ih, r.1]
    by_cases h : q.1 = k
    · simp [h]
    · simp [h]
theorem put_rel {L : List Ent} {xs : List MEnt} (rel : Paired EntR L xs) {r : DRow} {z : V} {u : Value} (rz : RelV z u) : Paired EntR (putL L r z) (storedH xs (keyD r.2) r.1 u) := by
  unfold putL storedH
  rw [at_any (keyD r.2) rel]
  split
  · refine pr_map (fun p q h => ?_) rel
    obtain ⟨h1, h2, h3⟩ := h
    unfold putAt
    rw [h1]
    split
    · exact ⟨h1, h2, rz⟩
    · exact ⟨h1, h2, h3⟩
  · exact pr_app ⟨rfl, rfl, rz⟩ rel
/-- the store -/
def rStN (K : PySem.W.Frag) (P : Program) (w : World) : DSt := fun H D y z F => ∃ (L : List Ent) (r : DRow), y = .ref r.1 ∧ H D = some (DO P w D L) ∧ L.length < sizeLine ∧ Dp K H (.ref r.1) r.2 ∧ Kd 8 r.2 ∧ (∀ p ∈ L, Dp K H (.ref p.1.1) p.1.2 ∧ Kd 8 p.1.2) ∧ F (upd H D (DO P w D (putL L r z)))
theorem raw_full {X : Cx} {pins : List (Addr × Obj)} {σ : L2.St} {H : Hp} {s : Shared} (I : L2.Inv X pins σ H s) {a : Addr} {L : List Ent} (h : H a = some (DO X.prog X.w a L)) (hk : ∀ p ∈ L, Dp X.K H (.ref p.1.1) p.1.2 ∧ Kd 8 p.1.2) :
    (a == sysModules) = false ∧ L.length ≤ sizeLine ∧ ∃ xs : List MEnt, Paired EntR L xs ∧ s.heap.DictOfH (nestedKind X.prog X.w) a xs := by
  obtain ⟨z1, z2, xs, rel, o, es, ep, ho, hx, hd, he, hn⟩ := (show D0 X.prog X.w s.heap a L from (I.hok a _ h).1)
  refine ⟨z1, z2, xs, rel, o, es, ep, ho, hx, hd, he, fun x hx' => ?_, hn⟩
  obtain ⟨i, hi⟩ := List.getElem?_of_mem hx'
  obtain ⟨p, hp, e1, e2, _⟩ := pr_get rel hi
  have hpm := List.mem_of_getElem? hp
  have ra := (row_at I (p := p.1) (hk p hpm).1 (hk p hpm).2).1
  rw [← e1, ← e2]
  exact ra
theorem stN_ok (P : Program) (w : World) (K : PySem.W.Frag) : DStOk P w K (rStN K P w) := by
  intro X e1 e2 e3 hu pins σ H s E D y z u r F Q I ry rz h hQ
  subst e1 e2 e3
  obtain ⟨L, row, rfl, hD, hl, hd, hk, hL, hF⟩ := h
  obtain rfl : u = Value.ref row.1 := ry
  obtain ⟨z1, z2, xs, rel, hm⟩ := raw_full I hD hL
  have hxl := pr_len rel
  refine wpAny_dictSet_heap (knd := nestedKind X.prog X.w) (k := keyD row.2) (hsz := by omega) (show X.A.units + 8 < cLine by omega) (row_at I hd hk).1 hm fun h' hm' hs => hQ _ _ ?_ hF
  obtain ⟨o, es, ep, ho, hx, hdt, he, _, hn⟩ := hm'
  have new : D0 X.prog X.w h' D (putL L row z) := ⟨z1, by have := len_putL L row z; omega, _, put_rel rel rz, o, es, ep, ho, hx, hdt, he, hn⟩
  exact d_write I (by rw [hD]; exact True.intro) hs ⟨o, ho⟩ (do_new new)
theorem do_empty {P : Program} {w : World} {H : Hp} (h : Heap) (hb : sysModules < h.objs.size) : ObjOk P w H (h.push { cls := .type "dict", data := .dict #[] }) h.objs.size (DO P w h.objs.size []) :=
  do_new ⟨beq_eq_false_iff_ne.mpr (Ne.symm (Nat.ne_of_lt hb)), Nat.zero_le _, [], .nil, _, #[], 0, Heap.get?_push_size _ rfl, ⟨rfl, rfl, rfl⟩, rfl, rfl, List.nodup_nil⟩

/-! ### as data -/
def putD (kvs : List (PyData × PyData)) (k v : PyData) : List (PyData × PyData) := if (kvs.any fun p => decide (keyD p.1 = keyD k)) = true then kvs.map (fun p => if keyD p.1 = keyD k then (p.1, v) else p) else kvs ++ [(k, v)]
section
variable {K : PySem.W.Frag}
/-- the entries read as kvs -/
structure Ents (K : PySem.W.Frag) (G : Hp) (L : List Ent) (kvs : List (PyData × PyData)) : Prop where
  keys : L.map (·.1.2) = kvs.map (·.1)
  at_ : ∀ p ∈ L, Dp K G (.ref p.1.1) p.1.2 ∧ Kd 8 p.1.2
  vals : DpAll K G (L.map (·.2)) (kvs.map (·.2))
theorem Ents.ex {G G' : Hp} {L : List Ent} {kvs : List (PyData × PyData)} (h : Ents K G L kvs) (e : Ex G G') : Ents K G' L kvs := ⟨h.keys, fun p hp => ⟨dp_ex e (h.at_ p hp).1, (h.at_ p hp).2⟩, dpa_ex e h.vals⟩
theorem Ents.len {G : Hp} {L : List Ent} {kvs : List (PyData × PyData)} (h : Ents K G L kvs) : L.length = kvs.length := by
  have := congrArg List.length h.keys
  rw [List.length_map, List.length_map] at this
  exact this
theorem any_keys : ∀ {L : List Ent} {kvs : List (PyData × PyData)} (k : NestedKey), L.map (·.1.2) = kvs.map (·.1) → (L.any fun p => decide (keyD p.1.2 = k)) = kvs.any fun p => decide (keyD p.1 = k)
  | [], [], k, _ => rfl
  | [], _ :: _, k, h => by simp at h
  | _ :: _, [], k, h => by simp at h
  | p :: L, q :: kvs, k, h => by
    rw [List.map_cons, List.map_cons] at h
    injection h with h1 h2
    rw [List.any_cons, List.any_cons, any_keys k h2, h1]
theorem Ents.put {G : Hp} {L : List Ent} {kvs : List (PyData × PyData)} (h : Ents K G L kvs) {r : DRow} {z : V} {d : PyData} (hr : Dp K G (.ref r.1) r.2) (hk : Kd 8 r.2) (hz : Dp K G z d) : Ents K G (putL L r z) (putD kvs r.2 d) := by
  unfold putL putD
  rw [any_keys (keyD r.2) h.keys]
  split
  · refine ⟨?_, fun p hp => ?_, ?_⟩
    · rw [List.map_map, List.map_map]
      have e1 : ((fun p : Ent => p.1.2) ∘ fun p : Ent => if keyD p.1.2 = keyD r.2 then (p.1, z) else p) = fun p => p.1.2 := by
        funext p
        show (if keyD p.1.2 = keyD r.2 then (p.1, z) else p).1.2 = p.1.2
        split <;> rfl
      have e2 : ((fun p : PyData × PyData => p.1) ∘ fun p : PyData × PyData => if keyD p.1 = keyD r.2 then (p.1, d) else p) = fun p => p.1 := by
        funext p
        show (if keyD p.1 = keyD r.2 then (p.1, d) else p).1 = p.1
        split <;> rfl
      rw [e1, e2]
      exact h.keys
    · obtain ⟨q, hq, rfl⟩ := List.mem_map.mp hp
      split
      · exact h.at_ q hq
      · exact h.at_ q hq
    · have key : ∀ (L : List Ent) (kvs : List (PyData × PyData)), L.map (·.1.2) = kvs.map (·.1) → DpAll K G (L.map (·.2)) (kvs.map (·.2)) →
          DpAll K G ((L.map fun p => if keyD p.1.2 = keyD r.2 then (p.1, z) else p).map (·.2)) ((kvs.map fun p => if keyD p.1 = keyD r.2 then (p.1, d) else p).map (·.2)) := by
        intro L
        induction L with
        | nil =>
          intro kvs e t
          cases kvs with
          | nil => exact .nil
          | cons q kvs => simp at e
        | cons p L ih =>
          intro kvs e t
          cases kvs with
          | nil => simp at e
          | cons q kvs =>
            rw [List.map_cons, List.map_cons] at e
            injection e with e1 e2
            cases t with
            | cons t1 t2 =>
              simp only [List.map_cons]
              refine .cons ?_ (ih kvs e2 t2)
              rw [e1]
              split
              · exact hz
              · exact t1
      exact key L kvs h.keys h.vals
  · refine ⟨by rw [List.map_append, List.map_append, h.keys]; rfl, fun p hp => ?_, ?_⟩
    · rcases List.mem_append.mp hp with hp | hp
      · exact h.at_ p hp
      · rw [List.mem_singleton.mp hp]; exact ⟨hr, hk⟩
    · rw [List.map_append, List.map_append]
      exact dpa_app h.vals (dpa_one hz)
end
/-- at a stands a dict that reads as kvs -/
def isDict (K : PySem.W.Frag) (P : Program) (w : World) (kvs : List (PyData × PyData)) : Hp → Addr → Prop := fun G a => ∃ L : List Ent, G a = some (DO P w a L) ∧ Ents K G L kvs
theorem isDict_ex {K : PySem.W.Frag} {P : Program} {w : World} {kvs : List (PyData × PyData)} : ∀ G G' a, Ex G G' → isDict K P w kvs G a → isDict K P w kvs G' a := fun G G' a e ⟨L, h1, h2⟩ => ⟨L, e a _ h1, h2.ex e⟩
abbrev svD (K : PySem.W.Frag) (P : Program) (w : World) (kvs : List (PyData × PyData)) : SV := .obj (isDict K P w kvs) isDict_ex
section
variable {P : Program} {w : World} {K : PySem.W.Frag} {mg : Str → Option Value} {base : Heap} {C : Ctx P w K mg base} {rho rho' : List SV} {e a b c o tg iter kx vx : Expr} {es : List Expr} {ds zs : List PyData} {pos p p2 p3 : Pos} {d v : PyData} {kvs : List (PyData × PyData)}
theorem putD_len (kvs : List (PyData × PyData)) (k v : PyData) : (putD kvs k v).length ≤ kvs.length + 1 := by
  unfold putD
  split
  · rw [List.length_map]; omega
  · rw [List.length_append]; simp
theorem fold_len {α : Type} (fk fv : α → PyData) : ∀ (l : List α) (kvs : List (PyData × PyData)), (l.foldl (fun acc x => putD acc (fk x) (fv x)) kvs).length ≤ kvs.length + l.length
  | [], _ => Nat.le_refl _
  | x :: l, kvs => by
    rw [List.foldl_cons, List.length_cons]
    have h1 := fold_len fk fv l (putD kvs (fk x) (fv x))
    have h2 := putD_len kvs (fk x) (fv x)
    omega
theorem oko_dc {α : Type} {ifs : List Expr} {scope : Scope} {own : List (Str × Nat)} (xs : List α) (enc : α → PyData) (pr : α → Bool) (fk fv : α → PyData)
    (hi : EIh C rho tg iter (xs.map enc))
    (hb : ∀ x ∈ xs, ∃ rho', EG (C.blk scope) (enc x) (wipeS rho (own.map (·.2))) rho' (own.map (·.2)) tg ∧ ETs (C.blk scope) rho' ifs (pr x) ∧ (pr x = true → EF (C.blk scope) rho' kx (fk x) ∧ EF (C.blk scope) rho' vx (fv x)))
    (hkd : ∀ x ∈ xs, pr x = true → isTupD (fk x) = true ∧ Kd 8 (fk x)) (hz : xs.length ≤ 100000) : OkO K (tDx (rStN K P w) (fun D => DO P w D []) (wI C tg iter) (wG (C.blk scope) tg) (wTs (C.blk scope) ifs) (wE (C.blk scope) kx) (wE (C.blk scope) vx) (own.map (·.2))) rho (isDict K P w ((xs.filter pr).foldl (fun acc x => putD acc (fk x) (fv x)) [])) := by
  intro B σ G0 H0 Q r q
  refine hi B σ G0 H0 _ r fun J G1 H1 x1 it D hD => ?_
  refine ⟨fun i m H => m = xs.length - i ∧ i ≤ xs.length ∧ ∃ G L, Nx G1 H1 G H ∧ G D = none ∧ H D = some (DO P w D L) ∧ Ents K G L (((xs.take i).filter pr).foldl (fun acc x => putD acc (fk x) (fv x)) []),
    ⟨_, rfl, Nat.zero_le _, G1, [], Nx.priv x1.s hD, x1.s.free hD, upd_same, ⟨rfl, fun p hp => (by cases hp), .nil⟩⟩, ?_⟩
  rintro i m H ⟨rfl, hle, G, L, x2, gD, hDl, ta⟩
  obtain ⟨stp, go⟩ := it i G H x2.g x2.h x2.s
  rcases Nat.lt_or_ge i xs.length with hlt | hge
  · have hx : xs[i]? = some xs[i] := List.getElem?_eq_getElem hlt
    generalize hxe : xs[i] = x at hx
    have hmem : x ∈ xs := List.mem_of_getElem? hx
    obtain ⟨g1, g2⟩ := go (enc x) (by rw [List.getElem?_map, hx]; rfl)
    have hta := take_succ_get hx
    have hL : L.length ≤ i := by
      rw [ta.len]
      have h1 := fold_len fk fv ((xs.take i).filter pr) []
      have h2 := List.length_filter_le pr (xs.take i)
      rw [List.length_take] at h2
      rw [List.length_nil] at h1
      omega
    refine .inr ⟨g1, fun H' => ∃ G L, Nx G1 H1 G H' ∧ G D = none ∧ H' D = some (DO P w D L) ∧ Ents K G L (((xs.take (i + 1)).filter pr).foldl (fun acc x => putD acc (fk x) (fv x)) []), fun H' hn => ⟨xs.length - (i + 1), by omega, rfl, hlt, hn⟩, fun v H' y => ?_⟩
    obtain ⟨G', x3, td⟩ := g2 v H' y
    obtain ⟨rho', hg, ht, he⟩ := hb x hmem
    refine hg B _ G' H' v _ (((r.nx x1).nx x2).nx x3 |>.wipe _) td fun σ2 r2 ew => ⟨by rw [ew]; exact wipe_idem, ?_⟩
    refine ht B σ2 G' H' _ r2 fun G4 H4 x4 => ?_
    have hD4 : H4 D = some (DO P w D L) := x4.h _ _ (x3.h _ _ hDl)
    have gD4 : G4 D = none := (x3.trans x4).n D (by rw [hDl]; exact Option.some_ne_none _) gD
    cases hp : pr x with
    | false =>
      refine iteF ⟨G4, L, (x2.trans x3).trans x4, gD4, hD4, ?_⟩
      rw [hta, List.filter_append, List.filter_cons_of_neg (by rw [hp]; decide), List.filter_nil, List.append_nil]
      exact ta.ex (x3.g.trans x4.g)
    | true =>
      obtain ⟨hek, hev⟩ := he hp
      obtain ⟨htup, hkd8⟩ := hkd x hmem hp
      refine iteT (hek B σ2 G4 H4 _ (r2.nx x4) fun y G5 H5 x5 ty => hev B σ2 G5 H5 _ ((r2.nx x4).nx x5) fun u G6 H6 x6 tu => ?_)
      have hD6 : H6 D = some (DO P w D L) := x6.h _ _ (x5.h _ _ hD4)
      have gD6 : G6 D = none := (x5.trans x6).n D (by rw [hD4]; exact Option.some_ne_none _) gD4
      have ty6 := dp_ex x6.g ty
      obtain ⟨ka, rfl⟩ : ∃ ka, y = .ref ka := by
        generalize fk x = kd at htup ty6
        cases ty6 with
        | tup s _ => exact ⟨_, rfl⟩
        | non => cases htup
        | bl => cases htup
        | int => cases htup
        | str => cases htup
        | lst => cases htup
      have en := ta.ex (((x3.trans x4).trans x5).trans x6).g
      refine ⟨L, (ka, fk x), rfl, hD6, by rw [sizeLine_eq]; omega, dp_ex x6.s ty6, hkd8, fun p hp => ⟨dp_ex x6.s (en.at_ p hp).1, (en.at_ p hp).2⟩, G6, _, ((((x2.trans x3).trans x4).trans x5).trans x6).wr hD gD6, gD6, upd_same, ?_⟩
      rw [hta, List.filter_append, List.filter_cons_of_pos hp, List.filter_nil, List.foldl_append, List.foldl_cons, List.foldl_nil]
      exact en.put (r := (ka, fk x)) ty6 hkd8 tu
  · have hie : i = xs.length := by omega
    refine .inl ⟨stp (by rw [List.length_map]; exact hge), ?_⟩
    subst hie
    rw [List.take_length] at ta
    exact q D (upd G D (DO P w D L)) H ((x1.trans x2).freeze (x1.h.free hD) gD hDl) ⟨L, upd_same, ta.ex (Ex.upd gD)⟩
theorem eo_dc {α : Type} {ifs : List Expr} {scope : Scope} {own : List (Str × Nat)} (xs : List α) (enc : α → PyData) (pr : α → Bool) (fk fv : α → PyData)
    (hi : EIh C rho tg iter (xs.map enc)) (ok : ∀ i, blkC (C.X i).N (C.X i).env.scope scope own = true)
    (hb : ∀ x ∈ xs, ∃ rho', EG (C.blk scope) (enc x) (wipeS rho (own.map (·.2))) rho' (own.map (·.2)) tg ∧ ETs (C.blk scope) rho' ifs (pr x) ∧ (pr x = true → EF (C.blk scope) rho' kx (fk x) ∧ EF (C.blk scope) rho' vx (fv x)))
    (hkd : ∀ x ∈ xs, pr x = true → isTupD (fk x) = true ∧ Kd 8 (fk x)) (hz : xs.length ≤ 100000) (hs : ∀ i x, foldedSetIterable iter (C.X i).env x = pure x := by intro _ _; rfl) :
    EO C rho (.DictComp kx vx [⟨tg, iter, ifs, 0⟩] scope pos) (isDict K P w ((xs.filter pr).foldl (fun acc x => putD acc (fk x) (fv x)) [])) := by
  refine EO.of (t := tDx (rStN K P w) (fun D => DO P w D []) (wI C tg iter) (wG (C.blk scope) tg) (wTs (C.blk scope) ifs) (wE (C.blk scope) kx) (wE (C.blk scope) vx) (own.map (·.2))) (fun i => ?_) (oko_dc xs enc pr fk fv hi hb hkd hz)
  · refine pe_dx ?_ ?_ (C.hu1 i) (C.calm i) (by rw [C.hN]; exact C.nd) (pi_w i) (blkOk_by (ok i))
      (fun s H D cl fp => pg_w (C := C.blk scope) (i, s, H, D, cl, fp)) (fun s H D cl fp => pts_w (C := C.blk scope) (i, s, H, D, cl, fp)) (fun s H D cl fp => pe_w (C := C.blk scope) (i, s, H, D, cl, fp)) (fun s H D cl fp => pe_w (C := C.blk scope) (i, s, H, D, cl, fp)) (hs i)
    · rw [C.hK, C.hP, C.hw]; exact stN_ok P w K
    · intro H h hb
      have := do_empty (P := (C.X i).prog) (w := (C.X i).w) (H := H) h hb
      rw [C.hP, C.hw] at this ⊢
      exact this
end
end NS

set_option maxRecDepth 100000
set_option maxHeartbeats 3200000
/-! sorted(d), d[k] for dicts with nested tuples as keys. -/
namespace NS
open PySem PySem.Spec PyProof.Rows L2 DL
section
variable {P : Program} {w : World} {A : Around} {E : Value → Shared → Prop} {s : Shared}
/-- a new list of such tuples, sorted in its place -/
theorem sort_new {L : List DRow} {Q : Value → Shared → Prop} (hk : ∀ p ∈ L, Kd 8 p.2) (hr : ∀ p ∈ L, ∃ as, Reads s.heap (.ref p.1) p.2 as) (hz : Srt (L.map (·.2))) (hl : L.length ≤ 100000) (hu : A.units + 70 < cLine)
    (hQ : ∀ s' p (c : Nat), (∀ b o, s.heap.get? b = some o → s'.heap.get? b = some o) → s'.gens = s.gens → s'.os = s.os → s.heap.objs.size ≤ p →
      s'.heap.get? p = some (seqObj "list" ((L.mergeSort (PySem.W.dataLe false Prod.snd)).map fun q => Value.ref q.1).toArray c) → Q (.ref p) s') :
    wpAny (model P w) A (do let l ← newList (L.map fun q => Value.ref q.1); let _ ← holding [l] (call (.builtin "list.sort") [l] []); ret l) (fun r s' => ∃ v, r = PySem.Fin.done (.ret v) ∧ Q v s') E s := by
  refine wpAny_bind (wpAny_newList ?_ (by rw [List.length_map, sizeLine_eq]; omega))
  have hoL : (s.heap.push (seqObj "list" (L.map fun q => Value.ref q.1).toArray 0)).get? s.heap.objs.size = some (seqObj "list" (L.map fun q => Value.ref q.1).toArray 0) := Heap.get?_push_size _ rfl
  refine wpAny_bind (wpAny_holding (PySem.W.list_sort_data (R := fun v (p : DRow) => v = .ref p.1) (enc := Prod.snd) (bs := L) (s := { s with heap := s.heap.push (seqObj "list" (L.map fun q => Value.ref q.1).toArray 0) }) hoL (each_refs _ L fun p _ => rfl) (each_refs _ L fun p hp => ?_) hz.al hz.so (by rw [sizeLine_eq]; omega) (fun p hp => ?_) fun out hol he => ?_))
  · obtain ⟨as, r⟩ := hr p hp
    refine ⟨as, Reads.keeps (fun b u e => Heap.get?_push_of_some _ e) r, ?_⟩
    rw [kd_reads_nil (hk p hp) r]
    exact List.not_mem_nil
  · have := hz.dep p.2 (List.mem_map.mpr ⟨p, hp, rfl⟩)
    omega
  · rw [each_eq he]
    obtain ⟨c, hc⟩ := sortedHeap_at (vs := L.map fun q => Value.ref q.1) (out := ((L.mergeSort (PySem.W.dataLe false Prod.snd)).map fun q => Value.ref q.1).toArray) hoL
    refine wpAny_pure ⟨_, rfl, hQ _ s.heap.objs.size c (fun b u e => ?_) rfl rfl (Nat.le_refl _) hc⟩
    have hlt := Heap.lt_size e
    show (sortedHeap (s.heap.push (seqObj "list" (L.map fun q => Value.ref q.1).toArray 0)) s.heap.objs.size _ _).get? b = some u
    rw [sortedHeap_old (Nat.ne_of_lt hlt) (by rw [Heap.size_push]; exact Nat.lt_succ_of_lt hlt)]
    exact Heap.get?_push_of_some _ e
theorem pr_refs : ∀ {L : List Ent} {xs : List MEnt}, Paired EntR L xs → xs.map (fun x => Value.ref x.2.1) = L.map fun p => Value.ref p.1.1
  | _, _, .nil => rfl
  | _, _, .cons r t => by rw [List.map_cons, List.map_cons, pr_refs t, r.2.1]
end
def rSortedND (K : PySem.W.Frag) (P : Program) (w : World) : List V → Hp → VK → Prop := fun xs H Q => ∃ (a : Addr) (L : List Ent), xs = [V.ref a] ∧ H a = some (DO P w a L) ∧ (∀ p ∈ L, Dp K H (.ref p.1.1) p.1.2 ∧ Kd 8 p.1.2) ∧ Srt (L.map (·.1.2)) ∧ L.length ≤ 100000 ∧
  ∀ p, H p = none → Q (.ref p) (upd H p (.lst (((L.map (·.1)).mergeSort (PySem.W.dataLe false Prod.snd)).map fun q => V.ref q.1)))
theorem cr_sortedND {X : Cx} {k : Nat} (hc : X.calm = true) (hr : Room k X.A) : CallR X (.builtin "sorted") (rSortedND X.K X.prog X.w) := by
  intro pins s σ H xs us Q I r h
  obtain ⟨a, L, rfl, ha, hd, hz, hl, q⟩ := h
  rw [Vals.ref1 r]
  obtain ⟨z1, z2, ms, rel, hm⟩ := raw_full I ha hd
  obtain ⟨o, es, ep, ho, hx, hdt, he, _, hn⟩ := hm
  have hun := hr.un
  have hes : es.toList.map (·.key) = L.map fun p => Value.ref p.1.1 := by
    rw [he, List.map_map, ← pr_refs rel]; rfl
  have hsz : es.size = L.length := by
    have := congrArg List.length hes
    rw [List.length_map, List.length_map, Array.length_toList] at this
    exact this
  refine Calls.call_function_entry kind_sorted plain_sorted entry_sorted (args_sorted1 _) ?_
  unfold Builtin.«sorted»
  refine wpAny_bind (m := checkCount "sorted" 1 1 _) (wpAny_pure ?_)
  refine wpAny_bind (PySem.W.kdu_collect (A := X.A.in1) (KdlSrc.rawDict (es := es) (ep := ep) z1) (I.ok.hd hc) ⟨o, ho, hx, hdt⟩ (by rw [hsz]; exact z2) fun h' tk acc hk hacc => ?_)
  have hacc2 : acc.toList = (L.map (·.1)).map fun q => Value.ref q.1 := by
    rw [List.map_map]
    refine List.ext_getElem? fun i => ?_
    rw [Array.getElem?_toList]
    by_cases hi : i < es.size
    · obtain ⟨v, hv⟩ : ∃ v, acc[i]? = some v := ⟨_, Array.getElem?_eq_getElem (by rw [hacc.1]; exact hi)⟩
      obtain ⟨hi', ev⟩ := hacc.2 i v hv
      rw [hv, ev]
      have : (es.toList.map (·.key))[i]? = some es[i].key := by rw [List.getElem?_map, Array.getElem?_toList, Array.getElem?_eq_getElem hi]; rfl
      rw [hes] at this
      exact this.symm
    · rw [Array.getElem?_eq_none (by rw [hacc.1]; omega), List.getElem?_eq_none (by rw [List.length_map]; omega)]
  rw [hacc2]
  have hmem : ∀ p ∈ L.map (·.1), Dp X.K H (.ref p.1) p.2 ∧ Kd 8 p.2 := fun p hp => by
    obtain ⟨z, hz, rfl⟩ := List.mem_map.mp hp
    exact hd z hz
  have hu1 : X.A.in1.units + 70 < cLine := by
    simp only [Around.in1_units]; omega
  refine sort_new (A := X.A.in1) (L := L.map (·.1)) (s := { s with heap := h', toks := tk }) (fun p hp => (hmem p hp).2) (fun p hp => ?_) (by rw [List.map_map]; exact hz) (by rw [List.length_map]; exact hl) hu1 fun s' p c k g o' hp hg => ?_
  · obtain ⟨as, r⟩ := (row_at I (hmem p hp).1 (hmem p hp).2).2
    exact ⟨as, Reads.keeps hk r⟩
  · have hlen : (((L.map (·.1)).mergeSort (PySem.W.dataLe false Prod.snd)).map fun q : DRow => V.ref q.1).length ≤ sizeLine := by rw [List.length_map, List.length_mergeSort, List.length_map]; exact z2
    have I1 : L2.Inv X pins σ H { s with heap := h', toks := tk } := I.kept hk
    have hnp : H p = none := I1.hok.fresh hp
    have J := I1.call' (ch := []) (H' := upd H p (.lst (((L.map (·.1)).mergeSort (PySem.W.dataLe false Prod.snd)).map fun q => V.ref q.1))) (s' := s') (by exact o') (Un.laid k hp hnp) (I1.hok.laid k hp ⟨hlen, _, c, vals_refs _, hg⟩) (by rw [g]; exact I.bare) (fun _ z => nomatch z)
    exact ⟨.ref p, _, J, rfl, q p hnp⟩
end NS

set_option maxRecDepth 100000
set_option maxHeartbeats 3200000
/-! Orders of data; the dict rules. -/
namespace Fs
open PySem L2 DL
/-! ### the order of data -/
theorem dle_trans {β : Type} (k : β → PyData) (a b c : β) (h1 : PySem.W.dataLe false k a b = true) (h2 : PySem.W.dataLe false k b c = true) : PySem.W.dataLe false k a c = true := by
  rw [PySem.W.dataLe_eq] at h1 h2 ⊢
  simp only [cond_false, Bool.not_eq_true'] at h1 h2 ⊢
  cases h : PySem.W.dataLt (k c) (k a) with
  | false => rfl
  | true =>
    rcases PyProof.Rows.lex_negTrans _ (PySem.W.keyToks (k b)) _ h with z | z
    · rw [show PySem.W.dataLt (k c) (k b) = true from z] at h2; cases h2
    · rw [show PySem.W.dataLt (k b) (k a) = true from z] at h1; cases h1
theorem dle_total {β : Type} (k : β → PyData) (a b : β) : (PySem.W.dataLe false k a b || PySem.W.dataLe false k b a) = true := by
  rw [PySem.W.dataLe_eq]
  simp only [cond_false]
  cases h1 : PySem.W.dataLt (k b) (k a) with
  | false => rfl
  | true =>
    cases h2 : PySem.W.dataLt (k a) (k b) with
    | false => rfl
    | true =>
      have := PyProof.Rows.lex_trans _ _ _ h1 h2
      rw [show PyProof.Rows.lexLt PyProof.Rows.itemOrd (PySem.W.keyToks (k b)) (PySem.W.keyToks (k b)) = false from PyProof.Rows.lex_irrefl _] at this
      cases this
/-- the row of signs tells the item -/
def Told {β : Type} (k : β → PyData) : Prop := ∀ a b, PySem.W.keyToks (k a) = PySem.W.keyToks (k b) → a = b
theorem dle_anti {β : Type} {k : β → PyData} (T : Told k) {a b : β} (h1 : PySem.W.dataLe false k a b = true) (h2 : PySem.W.dataLe false k b a = true) : a = b := by
  rw [PySem.W.dataLe_eq] at h1 h2
  simp only [cond_false, Bool.not_eq_true'] at h1 h2
  exact T a b (PyProof.Rows.lex_total _ _ h2 h1)
theorem sortE_sorted {β : Type} (k : β → PyData) (l : List β) : (sortE k l).Pairwise fun a b => PySem.W.dataLe false k a b = true := List.pairwise_mergeSort (dle_trans k) (dle_total k) l
theorem sortE_perm_eq {β : Type} {k : β → PyData} (T : Told k) {l m : List β} (h : l.Perm m) : sortE k l = sortE k m :=
  List.Perm.eq_of_pairwise (fun a b _ _ h1 h2 => dle_anti T h1 h2) (sortE_sorted k l) (sortE_sorted k m) (((sortE_perm k l).trans h).trans (sortE_perm k m).symm)
theorem sortE_of_sorted {β : Type} {k : β → PyData} (T : Told k) {l m : List β} (h : l.Perm m) (s : l.Pairwise fun a b => PySem.W.dataLe false k a b = true) : l = sortE k m :=
  List.Perm.eq_of_pairwise (fun a b _ _ h1 h2 => dle_anti T h1 h2) s (sortE_sorted k m) (h.trans (sortE_perm k m).symm)
theorem nodup_perm {β : Type} {l m : List β} (h1 : l.Nodup) (h2 : m.Nodup) (h : ∀ x, x ∈ l ↔ x ∈ m) : l.Perm m := (List.perm_ext_iff_of_nodup h1 h2).mpr h
theorem told_str : Told PyData.str := fun a b h => by
  simp only [PySem.W.keyToks, List.cons.injEq, Sum.inr.injEq, and_true] at h
  exact PySem.W.str_of_cps h
theorem told_int : Told PyData.int := fun a b h => by simpa [PySem.W.keyToks] using h
theorem told_pr : Told ePr := fun a b h => by
  simp only [ePr, PySem.W.keyToks, PySem.W.keyToksAll, List.cons_append, List.nil_append, List.cons.injEq, Sum.inl.injEq, true_and, and_true] at h
  exact Prod.ext h.1 h.2
theorem told_stp : Told eStp := fun a b h => by
  simp only [eStp, PySem.W.keyToks, PySem.W.keyToksAll, List.cons_append, List.nil_append, List.cons.injEq, Sum.inl.injEq, Sum.inr.injEq, true_and, and_true] at h
  obtain ⟨h1, h2, h3⟩ := h
  exact Prod.ext h1 (Prod.ext (PySem.W.str_of_cps h2) h3)
theorem told_out : Told eOut := fun a b h => by
  simp only [eOut, ePr, PySem.W.keyToks, PySem.W.keyToksAll, List.cons_append, List.nil_append, List.cons.injEq, Sum.inl.injEq, Sum.inr.injEq, true_and, and_true] at h
  obtain ⟨h1, h2, h3⟩ := h
  exact Prod.ext (PySem.W.str_of_cps h1) (Prod.ext h2 h3)
/-! ### each once -/
section
variable {α : Type} [DecidableEq α]
def addOne (acc : List α) (x : α) : List α := if x ∈ acc then acc else acc ++ [x]
theorem firsts_eq (l : List α) : firsts l = l.foldl addOne [] := rfl
theorem addOne_nodup {acc : List α} {x : α} (h : acc.Nodup) : (addOne acc x).Nodup := by
  unfold addOne
  split
  · exact h
  · rename_i hx
    rw [List.nodup_append]
    refine ⟨h, by simp, fun a ha b hb e => hx ?_⟩
    rw [List.mem_singleton] at hb
    rw [← hb, ← e]; exact ha
theorem mem_addOne {acc : List α} {x y : α} : y ∈ addOne acc x ↔ y ∈ acc ∨ y = x := by
  unfold addOne
  split
  · rename_i hx
    constructor
    · exact .inl
    · rintro (h | h)
      · exact h
      · rw [h]; exact hx
  · simp
theorem fold_nodup : ∀ (l : List α) {acc : List α}, acc.Nodup → (l.foldl addOne acc).Nodup
  | [], _, h => h
  | x :: l, _, h => fold_nodup l (addOne_nodup h)
theorem mem_fold : ∀ (l : List α) {acc : List α} {y : α}, y ∈ l.foldl addOne acc ↔ y ∈ acc ∨ y ∈ l
  | [], _, y => by simp
  | x :: l, acc, y => by
    rw [List.foldl_cons, mem_fold l, mem_addOne, List.mem_cons, or_assoc]
theorem firsts_nodup (l : List α) : (firsts l).Nodup := fold_nodup l List.nodup_nil
theorem mem_firsts {l : List α} {x : α} : x ∈ firsts l ↔ x ∈ l := by rw [firsts_eq, mem_fold]; simp
theorem firsts_len_le (l : List α) : (firsts l).length ≤ l.length := NS.nodup_le (firsts_nodup l) fun x hx => mem_firsts.mp hx
end
end Fs
namespace NS
open PySem PySem.Spec PyProof.Rows L2 DL
/-! ### what the stores come to -/
theorem keys_fold {α β : Type} [DecidableEq β] (enc : β → PyData) (inj : ∀ x y, keyD (enc x) = keyD (enc y) → x = y) (k : α → β) (fv : α → PyData) : ∀ (l : List α) (kvs : List (PyData × PyData)) (acc : List β), kvs.map (·.1) = acc.map enc →
    (l.foldl (fun a x => putD a (enc (k x)) (fv x)) kvs).map (·.1) = ((l.map k).foldl Fs.addOne acc).map enc
  | [], kvs, acc, h => h
  | x :: l, kvs, acc, h => by
    rw [List.foldl_cons, List.map_cons, List.foldl_cons]
    refine keys_fold enc inj k fv l _ _ ?_
    have ha : (kvs.any fun p => decide (keyD p.1 = keyD (enc (k x)))) = decide (k x ∈ acc) := by
      have e1 : (kvs.any fun p => decide (keyD p.1 = keyD (enc (k x)))) = (kvs.map (·.1)).any fun d => decide (keyD d = keyD (enc (k x))) := by rw [List.any_map]; rfl
      rw [e1, h, List.any_map, Bool.eq_iff_iff, List.any_eq_true, decide_eq_true_eq]
      constructor
      · rintro ⟨y, hy, e⟩
        have e2 : keyD (enc y) = keyD (enc (k x)) := by simpa using e
        rw [← inj _ _ e2]; exact hy
      · intro hy
        exact ⟨_, hy, by simp⟩
    unfold putD Fs.addOne
    rw [ha]
    by_cases hm : k x ∈ acc
    · rw [if_pos (decide_eq_true hm), if_pos hm, List.map_map]
      refine Eq.trans ?_ h
      refine List.map_congr_left fun p _ => ?_
      show (if keyD p.1 = keyD (enc (k x)) then (p.1, fv x) else p).1 = p.1
      split <;> rfl
    · rw [if_neg (by rw [decide_eq_false hm]; exact Bool.false_ne_true), if_neg hm, List.map_append, List.map_append, h]; rfl
theorem fold_new {α β : Type} [DecidableEq β] (enc : β → PyData) (inj : ∀ x y, keyD (enc x) = keyD (enc y) → x = y) (k : α → β) (fv : α → PyData) : ∀ (l : List α) (kvs : List (PyData × PyData)) (acc : List β), kvs.map (·.1) = acc.map enc → (acc ++ l.map k).Nodup →
    l.foldl (fun a x => putD a (enc (k x)) (fv x)) kvs = kvs ++ l.map fun x => (enc (k x), fv x)
  | [], kvs, acc, h, _ => by simp
  | x :: l, kvs, acc, h, hn => by
    rw [List.foldl_cons]
    have hx : k x ∉ acc := fun hm => by
      rw [List.map_cons, List.nodup_append] at hn
      exact hn.2.2 _ hm _ List.mem_cons_self rfl
    have ha : ¬ (kvs.any fun p => decide (keyD p.1 = keyD (enc (k x)))) = true := fun hh => by
      obtain ⟨p, hp, e⟩ := List.any_eq_true.mp hh
      have e2 : keyD p.1 = keyD (enc (k x)) := by simpa using e
      have : p.1 ∈ acc.map enc := by rw [← h]; exact List.mem_map.mpr ⟨p, hp, rfl⟩
      obtain ⟨y, hy, e3⟩ := List.mem_map.mp this
      rw [← e3] at e2
      exact hx (by rw [← inj _ _ e2]; exact hy)
    have hp : putD kvs (enc (k x)) (fv x) = kvs ++ [(enc (k x), fv x)] := by unfold putD; rw [if_neg ha]
    rw [hp, fold_new enc inj k fv l _ (acc ++ [k x]) (by rw [List.map_append, List.map_append, h]; rfl) (by rw [List.append_assoc]; exact hn), List.append_assoc]
    rfl
section
variable {P : Program} {w : World} {K : PySem.W.Frag} {mg : Str → Option Value} {base : Heap} {C : Ctx P w K mg base} {rho rho' : List SV} {e a b c o tg iter kx vx : Expr} {es : List Expr} {ds zs : List PyData} {pos p p2 p3 : Pos} {d v : PyData} {kvs : List (PyData × PyData)}
theorem en_sortedD (T : Blt mg) (h : EO C rho e (isDict K P w kvs)) (hz : Srt (kvs.map (·.1))) (hl : kvs.length ≤ 100000) (hg : ∀ i, Gl (C.X i) "sorted" := by intro _; rfl) (he : ∀ i, starEach (e :: []) (C.X i).env = (false, eval e (C.X i).env) :: starEach [] (C.X i).env := by intro _; rfl) : EN C rho (.Call (.Name "sorted" p) [e] [] pos) (sortD (kvs.map (·.1))) :=
  EN.of (t := tCB (rSortedND K P w) (tCons (wE C e) tNil)) (fun i => by
    have h1 : CallR (C.X i) (.builtin "sorted") (rSortedND K P w) := by
      have := cr_sortedND (C.calm i) (C.room i)
      rw [C.hK, C.hP, C.hw] at this
      exact this
    exact pe_callB h1 (hg i) (by rw [C.hmg]; exact T.sorted) PyProof.Rows.boot_sorted (pa_cons (pe_w i) pa_nil (he i)) (he := he i)) fun B σ G H Q q z => h B σ G H _ q fun a G1 H1 x1 hL => by
    obtain ⟨L, hLa, en⟩ := hL
    have hkeys := en.keys
    refine ⟨a, L, rfl, x1.s _ _ hLa, fun p hp => ⟨dp_ex x1.s (en.at_ p hp).1, (en.at_ p hp).2⟩, by rw [hkeys]; exact hz, by rw [en.len]; exact hl, fun p hp => z p _ G1 _ (x1.trans (Nx.priv x1.s hp)) (x1.h.free hp) (x1.s.free hp) upd_same ?_⟩
    have em : ((L.map (·.1)).mergeSort (PySem.W.dataLe false Prod.snd)).map Prod.snd = sortD (kvs.map (·.1)) := by
      rw [← hkeys]
      unfold sortD
      rw [show (L.map fun p : Ent => p.1.2) = (L.map (·.1)).map Prod.snd by rw [List.map_map]; rfl]
      exact List.map_mergeSort (fun a _ b _ => rfl)
    rw [← em]
    have key : ∀ l : List DRow, (∀ q ∈ l, Dp K G1 (.ref q.1) q.2) → DpAll K G1 (l.map fun q => V.ref q.1) (l.map Prod.snd) := by
      intro l
      induction l with
      | nil => intro _; exact .nil
      | cons q l ih => intro hq; exact .cons (hq q List.mem_cons_self) (ih fun x hx => hq x (List.mem_cons_of_mem _ hx))
    refine key _ fun q hq => ?_
    obtain ⟨p, hp, rfl⟩ := List.mem_map.mp ((List.mergeSort_perm _ _).mem_iff.mp hq)
    exact (en.at_ p hp).1
/-- d[k] -/
def tDGetN (P : Program) (w : World) (K : PySem.W.Frag) (td ty : TE) : TE := fun σ H Q => td σ H fun x H1 => ty σ H1 fun y H2 => ∃ (a : Addr) (L : List Ent) (r : DRow) (z : V), x = .ref a ∧ y = .ref r.1 ∧ H2 a = some (DO P w a L) ∧ (∀ p ∈ L, Dp K H2 (.ref p.1.1) p.1.2 ∧ Kd 8 p.1.2) ∧ Dp K H2 (.ref r.1) r.2 ∧ Kd 8 r.2 ∧
  (L.find? fun p => decide (keyD p.1.2 = keyD r.2)).map (·.2) = some z ∧ Q z H2
theorem at_find : ∀ {L : List Ent} {xs : List MEnt} (k : NestedKey) {z : V}, Paired EntR L xs → (L.find? fun p => decide (keyD p.1.2 = k)).map (·.2) = some z → ∃ q : Addr × Value, atKey xs k = some q ∧ RelV z q.2
  | _, _, k, z, .nil, h => by simp at h
  | p :: L, q :: xs, k, z, .cons r t, h => by
    unfold atKey
    rw [List.find?_cons] at h ⊢
    rw [r.1] at h
    by_cases hq : q.1 = k
    · simp only [hq, decide_true, Option.map_some, Option.some.injEq] at h ⊢
      exact ⟨_, rfl, by rw [← h]; exact r.2.2⟩
    · simp only [hq, decide_false] at h ⊢
      have := at_find k t h
      unfold atKey at this
      exact this
theorem pe_dgetN {X : Cx} {td ty : TE} (hu : X.A.units + 64 < cLine) (ho : PE X a td) (hi : PE X b ty) (hs : L2.NoSl b) : PE X (.Subscript a b pos) (tDGetN X.prog X.w X.K td ty) := by
  refine ⟨fun pins s σ H Q I h => ?_⟩
  refine L2.subD_of PySem.F.slot_dict_getitem.lookup hs (thn (ho.run pins s σ H _ I h) fun u s1 ⟨x, H1, I1, rx, q1⟩ => thn (hi.run pins s1 σ H1 _ I1 q1) fun iv s2 ⟨y, H2, I2, ry, a, L, r, z, ex, ey, hL, hk, hr, hkr, hf, q2⟩ => ?_)
  subst ex ey
  obtain rfl : u = Value.ref a := rx
  obtain rfl : iv = Value.ref r.1 := ry
  obtain ⟨_, _, xs, rel, hm⟩ := raw_full I2 hL hk
  obtain ⟨q, hq, rz⟩ := at_find (keyD r.2) rel hf
  refine ⟨hm.typeIs, wpAny_getItem_heap (knd := nestedKind X.prog X.w) (show X.A.in1.units + 8 < cLine by simp only [Around.in1_units]; omega) (row_at I2 hr hkr).1 hm hq ⟨z, H2, I2.tok _, rz, q2⟩⟩
theorem ents_find {G : Hp} : ∀ {L : List Ent} {kvs : List (PyData × PyData)} (k : NestedKey) {v : PyData}, L.map (·.1.2) = kvs.map (·.1) → DpAll K G (L.map (·.2)) (kvs.map (·.2)) → (kvs.find? fun p => decide (keyD p.1 = k)).map (·.2) = some v →
    ∃ z, (L.find? fun p => decide (keyD p.1.2 = k)).map (·.2) = some z ∧ Dp K G z v
  | _, [], k, v, _, _, h => by simp at h
  | [], _ :: _, k, v, e, _, _ => by simp at e
  | p :: L, q :: kvs, k, v, e, t, h => by
    rw [List.map_cons, List.map_cons] at e
    injection e with e1 e2
    cases t with
    | cons t1 t2 =>
      rw [List.find?_cons] at h ⊢
      rw [e1]
      by_cases hq : keyD q.1 = k
      · simp only [hq, decide_true, Option.map_some, Option.some.injEq] at h ⊢
        exact ⟨_, rfl, by rw [← h]; exact t1⟩
      · simp only [hq, decide_false] at h ⊢
        exact ents_find k e2 t2 h
theorem ef_dget (h : EO C rho a (isDict K P w kvs)) (hb : EF C rho b d) (hd : isTupD d = true ∧ Kd 8 d) (hf : (kvs.find? fun p => decide (keyD p.1 = keyD d)).map (·.2) = some v) (hs : L2.NoSl b := by intro _ _; rfl) : EF C rho (.Subscript a b pos) v :=
  EF.of (t := tDGetN P w K (wE C a) (wE C b)) (fun i => by
    have := pe_dgetN (pos := pos) (C.hu1 i) (pe_w (C := C) (e := a) i) (pe_w (C := C) (e := b) i) hs
    rw [C.hK, C.hP, C.hw] at this
    exact this) fun B σ G H Q q z => h B σ G H _ q fun a G1 H1 x1 hL => hb B σ G1 H1 _ (q.nx x1) fun y G2 H2 x2 ty => by
    obtain ⟨L, hLa, en⟩ := hL
    have en2 := en.ex x2.g
    obtain ⟨ka, rfl⟩ : ∃ ka, y = .ref ka := by
      have ht := hd.1
      generalize d = dd at ht ty
      cases ty with
      | tup s _ => exact ⟨_, rfl⟩
      | non => cases ht
      | bl => cases ht
      | int => cases ht
      | str => cases ht
      | lst => cases ht
    obtain ⟨zv, hz, tz⟩ := ents_find (keyD d) en2.keys en2.vals hf
    exact ⟨a, L, (ka, d), zv, rfl, rfl, x2.s _ _ (x2.g _ _ hLa), fun p hp => ⟨dp_ex x2.s (en2.at_ p hp).1, (en2.at_ p hp).2⟩, dp_ex x2.s ty, hd.2, hz, z zv G2 H2 (x1.trans x2) tz⟩
end
end NS

set_option maxRecDepth 100000
set_option maxHeartbeats 3200000
/-! Sets of texts, sorted. -/
namespace NS
open PySem PySem.Spec PyProof.Rows L2 DL
abbrev TRow := Str × Tok
def tval (p : TRow) : Value := .str p.1 p.2
/-- the set at a holds the texts L -/
def Tx (P : Program) (w : World) (h : Heap) (a : Addr) (L : List TRow) : Prop := ∃ o es ep t, h.get? a = some o ∧ o.ExactSet ∧ o.data = .set es ep t ∧ ElemsOf (PySem.strKind P w) es.toList ∧ es.size < scanBound ∧ t.fits es.size = true ∧ Ris t.place.toList ∧
  (w.params.followText "set-order" = true ∨ t.led = true) ∧ (es.toList.map (·.2)).Perm (L.map tval) ∧ (L.map (·.1)).Nodup
section
variable {P : Program} {w : World} {A : Around} {E : Value → Shared → Prop} {s : Shared} {a : Addr}
theorem Tx.len {h : Heap} {L : List TRow} {es : Array (Int × Value)} (p : (es.toList.map (·.2)).Perm (L.map tval)) : es.size = L.length := by
  have := p.length_eq
  rw [List.length_map, List.length_map, Array.length_toList] at this
  exact this
theorem add_tail {g : Bool → Sem Unit} (hg : ∀ (b : Bool) (s₁ : Shared) (Q' : Unit → Shared → Prop), Q' () s₁ → wpAny (model P w) A (g b) Q' E s₁)
    {o : Obj} {es : Array (Int × Value)} {ep : Nat} {t : SetTable} (ho : s.heap.get? a = some o) (hex : o.ExactSet) (hd : o.data = .set es ep t)
    {es1 : Array (Int × Value)} {t2 : SetTable} {L : List TRow} (el : ElemsOf (PySem.strKind P w) es1.toList) (hb1 : es1.size < scanBound) (hf2 : t2.fits es1.size = true) (hr : Ris t2.place.toList) (hl : w.params.followText "set-order" = true ∨ t2.led = true)
    (pm : (es1.toList.map (·.2)).Perm (L.map tval)) (nd : (L.map (·.1)).Nodup) {wasDummy : Bool} {R : Option Bool → Shared → Prop} (hR : ∀ h', Heap.SameBut a s.heap h' → Tx P w h' a L → R (some true) { s with heap := h' }) :
    wpAny (model P w) A (do
        storeSet a es1 t2
        if (!wasDummy && t2.tooFull) = true then do
            g (relayAll t2 es1 (SetTable.grown es1.size)).2.2
            storeSet a (relayAll t2 es1 (SetTable.grown es1.size)).1 (relayAll t2 es1 (SetTable.grown es1.size)).2.1
            pure (some true)
          else pure (some true)) R E s := by
  refine wpAny_bind (wpAny_storeSet_of ho hd ?_ (fits_of_scanBound hb1))
  have ho1 := store_at (es' := es1) (t' := t2) ho hd
  have sb1 := Heap.SameBut.update s.heap a (Obj.putSet es1 t2)
  split
  · have pm2 := relayAll_perm t2 es1 (SetTable.grown es1.size)
    have hf3 := relayAll_fits t2 es1 (SetTable.grown es1.size)
    have hr3 := relayAll_ris t2 es1 (SetTable.grown es1.size)
    have hl3 := relayAll_led t2 es1 (SetTable.grown es1.size)
    generalize relayAll t2 es1 (SetTable.grown es1.size) = Z at pm2 hf3 hr3 hl3 ⊢
    obtain ⟨es2, t3, gave⟩ := Z
    dsimp only at pm2 hf3 hr3 hl3 ⊢
    have hsz : es2.size = es1.size := by rw [← Array.length_toList, pm2.length_eq, Array.length_toList]
    have hb2 : es2.size < scanBound := by rw [hsz]; exact hb1
    refine wpAny_bind (hg _ _ _ ?_)
    refine wpAny_bind (wpAny_storeSet_of ho1 rfl ?_ (fits_of_scanBound hb2))
    have ho2 := store_at (es' := es2) (t' := t3) ho1 rfl
    exact wpAny_pure (hR _ (sb1.trans (Heap.SameBut.update _ a _)) ⟨_, es2, _, t3, ho2, hex, rfl, el.perm pm2, hb2, hf3, hr3, hl.imp id fun z => by rw [hl3]; exact z, (pm2.map _).trans pm, nd⟩)
  · exact wpAny_pure (hR _ sb1 ⟨_, es1, _, t2, ho1, hex, rfl, el, hb1, hf2, hr, hl, pm, nd⟩)
theorem add_text {x : TRow} {L : List TRow} {Q : Bool → Shared → Prop} (R : Tx P w s.heap a L) (room : L.length + 1 < scanBound)
    (hQ : ∀ b h' L', Heap.SameBut a s.heap h' → Tx P w h' a L' → (x.1 ∈ L.map (·.1) → L' = L) → (x.1 ∉ L.map (·.1) → L' = x :: L) → Q b { s with heap := h' }) : wpAny (model P w) A (setAddHashed a (.str x.1 x.2) ((PySem.strKind P w).hash x.1)) Q E s := by
  obtain ⟨o, es, ep, t, ho, hex, hd, hel, hb, hf, hr, hl, hp, nd⟩ := R
  have hkey : (PySem.strKind P w).is x.1 (.str x.1 x.2) = true := strKind_is P w x.1 x.2
  have hsc : (Value.str x.1 x.2).scannable = true := rfl
  have hn := Tx.len (h := s.heap) hp
  have inside : ∀ e ∈ es.toList, (PySem.strKind P w).is x.1 e.2 = true → x.1 ∈ L.map (·.1) := fun e he hi => by
    obtain ⟨tk, e2⟩ := Value.isStrOf_shape hi
    have hm : e.2 ∈ L.map tval := hp.mem_iff.mp (List.mem_map.mpr ⟨e, he, rfl⟩)
    obtain ⟨q, hq, e3⟩ := List.mem_map.mp hm
    rw [e2] at e3
    have e4 : q.1 = x.1 := by
      unfold tval at e3
      injection e3
    exact List.mem_map.mpr ⟨q, hq, e4⟩
  unfold setAddHashed setAddHashedIn
  refine wpAny_holding (wpAny_bind (wpAny_setState_of ho hd hf ?_))
  dsimp only
  rw [byScan_of hsc hb hel]
  simp only [↓reduceIte]
  unfold setAddByScan
  refine wpAny_bind ?_
  refine wpAny_bind (wpAny_rule ?_)
  refine wpAny_bind (wpAny_setScan_of hkey ho hd hf hel ?_)
  cases hfi : List.findIdx? (fun e => (PySem.strKind P w).is x.1 e.2) es.toList with
  | some j =>
    dsimp only
    obtain ⟨hj, pj, _⟩ := List.findIdx?_eq_some_iff_getElem.mp hfi
    have hm := inside _ (List.getElem_mem hj) pj
    exact wpAny_pure (wpAny_pure (hQ _ s.heap L (Heap.SameBut.refl a s.heap) ⟨o, es, ep, t, ho, hex, hd, hel, hb, hf, hr, hl, hp, nd⟩ (fun _ => rfl) fun z => absurd hm z))
  | none =>
    dsimp only
    have hnk : x.1 ∉ L.map (·.1) := fun z => by
      obtain ⟨q, hq, e⟩ := List.mem_map.mp z
      have hm : tval q ∈ es.toList.map (·.2) := hp.mem_iff.mpr (List.mem_map.mpr ⟨q, hq, rfl⟩)
      obtain ⟨e2, he2, e3⟩ := List.mem_map.mp hm
      have c := List.findIdx?_eq_none_iff.mp hfi e2 he2
      have c2 : (PySem.strKind P w).is x.1 e2.2 = true := by
        rw [e3, ← e]
        exact strKind_is P w q.1 q.2
      rw [c2] at c
      cases c
    have hgw : ∀ (b : Bool) {s₁ : Shared} {Q' : Unit → Shared → Prop}, Q' () s₁ → wpAny (model P w) A (match b with | true => rule "set.scan.the-table-gave-way" | false => pure ()) Q' E s₁ :=
      fun b s₁ Q' q => by cases b <;> first | exact wpAny_pure q | exact wpAny_rule q
    have pm := layNew_perm t es ((PySem.strKind P w).hash x.1) (.str x.1 x.2)
    have hf1 := layNew_fits t es ((PySem.strKind P w).hash x.1) (.str x.1 x.2)
    have hr1 := layNew_ris t es ((PySem.strKind P w).hash x.1) (.str x.1 x.2) hr
    have hl1 := layNew_led t es ((PySem.strKind P w).hash x.1) (.str x.1 x.2)
    generalize layNew t es ((PySem.strKind P w).hash x.1) (.str x.1 x.2) = Z at pm hf1 hr1 hl1 ⊢
    obtain ⟨es1, t1, wasDummy, gave⟩ := Z
    dsimp only at pm hf1 hr1 hl1 ⊢
    rw [Array.toList_push] at pm
    have el1 : ElemsOf (PySem.strKind P w) es1.toList := (hel.push hkey hsc).perm pm
    have pc : (es1.toList.map (·.2)).Perm ((x :: L).map tval) := by
      have h1 := (pm.trans (List.perm_append_singleton _ _)).map (·.2)
      rw [List.map_cons] at h1 ⊢
      exact h1.trans (hp.cons _)
    have nd1 : ((x :: L).map (·.1)).Nodup := by rw [List.map_cons]; exact List.nodup_cons.mpr ⟨hnk, nd⟩
    have hb1 : es1.size < scanBound := by rw [Tx.len (h := s.heap) pc, List.length_cons]; exact room
    have hled : w.params.followText "set-order" = true ∨ t1.led = true := hl.imp id fun z => by rw [hl1]; exact z
    have fin : ∀ h', Heap.SameBut a s.heap h' → Tx P w h' a (x :: L) → Q true { s with heap := h' } := fun h' sb r => hQ _ h' _ sb r (fun z => absurd z hnk) fun _ => rfl
    refine wpAny_bind (hgw _ ?_)
    split
    · refine wpAny_bind ?_
      rw [hashByValue_scannable 8 hsc]
      refine wpAny_pure ?_
      refine add_tail (L := x :: L) ?_ ho hex hd el1 hb1 ?_ ?_ ?_ pc nd1 ?_
      · intro b s₁ Q' q; cases b <;> first | exact wpAny_pure q | exact wpAny_rule q
      · first | (split <;> first | exact hf1 | exact SetTable.fits_plain_off hf1) | exact hf1
      · first | (split <;> exact hr1) | exact hr1
      · first | (split <;> exact hled) | exact hled
      · intro h' sb r; dsimp only; exact wpAny_pure (fin h' sb r)
    · refine wpAny_bind (wpAny_pure ?_)
      simp only [↓reduceIte]
      refine add_tail (L := x :: L) ?_ ho hex hd el1 hb1 hf1 hr1 hled pc nd1 ?_
      · intro b s₁ Q' q; cases b <;> first | exact wpAny_pure q | exact wpAny_rule q
      · intro h' sb r; dsimp only; exact wpAny_pure (fin h' sb r)
structure GotT (ks : List TRow) (i : Nat) (L : List TRow) : Prop where
  sub : ∀ p ∈ L, p ∈ ks
  all : ∀ p ∈ ks.take i, p.1 ∈ L.map (·.1)
  len : L.length ≤ i
def txtKit (P : Program) (w : World) : Kit P w where
  ρ := TRow
  val := tval
  ok := fun _ _ => True
  stay := fun _ _ => trivial
  T := Tx P w
  keep := fun ⟨o, es, ep, t, ho, r⟩ ha _ => ⟨o, es, ep, t, ha o ho, r⟩
  fresh := fun ho => ⟨_, #[], 0, _, ho, ⟨rfl, rfl, rfl⟩, rfl, fun e he => (by simp at he), by unfold scanBound; show 0 < 4096; decide, rfl, List.Pairwise.nil, by
    show _ ∨ (!w.params.followText "set-order") = true
    cases w.params.followText "set-order"
    · exact .inr rfl
    · exact .inl rfl, List.Perm.nil, List.nodup_nil⟩
  Got := GotT
  got0 := fun ks => ⟨fun p hp => (by cases hp), fun p hp => (by rw [List.take_zero] at hp; cases hp), Nat.le_refl _⟩
  sub := fun g => g.sub
  few := fun ks => ks.length < 4000
  step := fun {ks i p L S A E s Q} Fw hp g hS _ hu hQ => by
    unfold setAdd
    refine wpAny_holding ?_
    refine wpAny_bind (wpAny_pyHash_str ?_)
    have hi : i < ks.length := (List.getElem?_eq_some_iff.mp hp).1
    have hl := g.len
    refine add_text (s := { s with toks := s.toks + 1 }) (x := p) hS (by unfold scanBound; omega) fun b h' L' hsb hS2 c1 c2 => hQ b h' _ L' (Nat.le_succ _) hsb hS2 ?_
    have ht : ks.take (i + 1) = ks.take i ++ [p] := by rw [List.take_add_one, hp]; rfl
    by_cases hm : p.1 ∈ L.map (·.1)
    · rw [c1 hm]
      refine ⟨g.sub, fun q hq => ?_, by omega⟩
      rw [ht] at hq
      rcases List.mem_append.mp hq with z | z
      · exact g.all q z
      · rw [List.mem_singleton.mp z]; exact hm
    · rw [c2 hm]
      refine ⟨fun q hq => ?_, fun q hq => ?_, by rw [List.length_cons]; omega⟩
      · rcases List.mem_cons.mp hq with e | z
        · rw [e]; exact List.mem_of_getElem? hp
        · exact g.sub q z
      · rw [List.map_cons]
        rw [ht] at hq
        rcases List.mem_append.mp hq with z | z
        · exact List.mem_cons_of_mem _ (g.all q z)
        · rw [List.mem_singleton.mp z]; exact List.mem_cons_self
end
end NS

set_option maxRecDepth 100000
set_option maxHeartbeats 3200000
/-! Sets of texts, dicts with texts as keys: the rules. -/
namespace NS
open PySem PySem.Spec PyProof.Rows L2 DL
theorem rising_pw : ∀ (p : Str) (l : List Str), risingS p l = true → (p :: l).Pairwise fun a b => PySem.W.dataLe false PyData.str a b = true
  | p, [], _ => List.pairwise_cons.mpr ⟨fun x hx => (by cases hx), List.Pairwise.nil⟩
  | p, x :: r, h => by
    have h' : (!ltCps x.cps.toList p.cps.toList && risingS x r) = true := h
    rw [Bool.and_eq_true] at h'
    have ih := rising_pw x r h'.2
    have h1 : PySem.W.dataLe false PyData.str p x = true := by
      rw [PySem.W.dataLe_str (fun z : Str => z)]
      have := h'.1
      rw [ltCps_eq] at this
      simp only [Bool.not_eq_true', decide_eq_false_iff_not, decide_eq_true_eq] at this ⊢
      exact List.not_lt.mp this
    refine List.pairwise_cons.mpr ⟨fun y hy => ?_, ih⟩
    rcases List.mem_cons.mp hy with e | hy
    · rw [e]; exact h1
    · exact Fs.dle_trans _ _ _ _ h1 (List.rel_of_pairwise_cons ih hy)
theorem sortedS_is {l m : List Str} (h : sortedS l = true) (p : l.Perm m) : l = Fs.sortE PyData.str m := by
  refine Fs.sortE_of_sorted Fs.told_str p ?_
  cases l with
  | nil => exact List.Pairwise.nil
  | cons x r => exact rising_pw x r h
def TXO (P : Program) (w : World) (a : Addr) (L : List Str) : HO := .ext fun h => ∃ Lt : List TRow, Lt.map (·.1) = L ∧ Tx P w h a Lt
theorem txo_new {P : Program} {w : World} {H : Hp} {h : Heap} {a : Addr} {Lt : List TRow} (R : Tx P w h a Lt) : ObjOk P w H h a (TXO P w a (Lt.map (·.1))) := by
  refine ⟨⟨Lt, rfl, R⟩, ?_, fun h1 h2 ⟨Lt', e, o, es, ep, t, ho, r⟩ k => ⟨Lt', e, o, es, ep, t, k o ho, r⟩⟩
  obtain ⟨o, es, ep, t, ho, _⟩ := R
  exact ⟨o, ho⟩
section
variable {X : Cx}
theorem vals_strs : ∀ {ns : List Str} {us : List Value}, Vals (ns.map V.str) us → ∃ Lt : List TRow, us = Lt.map tval ∧ Lt.map (·.1) = ns
  | [], _, .nil => ⟨[], rfl, rfl⟩
  | n :: ns, _, .cons r t => by
    obtain ⟨tk, rfl⟩ := r
    obtain ⟨Lt, e1, e2⟩ := vals_strs t
    exact ⟨(n, tk) :: Lt, by rw [List.map_cons, ← e1]; rfl, by rw [List.map_cons, e2]⟩
theorem strs_vals : ∀ Lt : List TRow, Vals ((Lt.map (·.1)).map V.str) (Lt.map tval)
  | [] => .nil
  | p :: Lt => .cons ⟨p.2, rfl⟩ (strs_vals Lt)
def rSetX (K : PySem.W.Frag) (P : Program) (w : World) : List V → Hp → VK → Prop := fun xs H Q => ∃ (l : Addr) (ns : List Str), xs = [V.ref l] ∧ SqL K H l (ns.map V.str) ∧ ns.length < 4000 ∧ ∀ a (L : List Str), H a = none → L.Nodup → (∀ x, x ∈ L ↔ x ∈ ns) → Q (.ref a) (upd H a (TXO P w a L))
theorem cr_setX (hc : X.calm = true) (hu : X.A.units + 64 < cLine) : CallR X (.type "set") (rSetX X.K X.prog X.w) := by
  intro pins s σ H xs us Q I r h
  obtain ⟨l, ns, rfl, hl, hz0, q⟩ := h
  rw [Vals.ref1 r]
  obtain ⟨its, rv, pl, hz⟩ := I.list hl
  obtain ⟨Lt, rfl, rfl⟩ := vals_strs rv
  have hn : H s.heap.objs.size = none := I.hok.fresh (Nat.le_refl _)
  rw [List.length_map] at hz0
  refine call_setG (txtKit X.prog X.w) Lt (I.ok.hd hc) pl.isList rfl (fun _ _ => trivial) hz0 (by omega) fun h' tk L R g k => ?_
  have g2 : GotT Lt Lt.length L := g
  have R2 : Tx X.prog X.w h' s.heap.objs.size L := R
  refine ⟨.ref s.heap.objs.size, upd H s.heap.objs.size (TXO X.prog X.w s.heap.objs.size (L.map (·.1))), I.laid (t' := tk) k (Nat.le_refl _) (txo_new R2), rfl, q _ (L.map (·.1)) hn ?_ fun x => ⟨fun hx => ?_, fun hx => ?_⟩⟩
  · obtain ⟨_, _, _, _, _, _, _, _, _, _, _, _, _, nd⟩ := R2
    exact nd
  · obtain ⟨p, hp, rfl⟩ := List.mem_map.mp hx
    exact List.mem_map.mpr ⟨p, g2.sub p hp, rfl⟩
  · obtain ⟨p, hp, rfl⟩ := List.mem_map.mp hx
    exact g2.all p (by rw [List.take_length]; exact hp)
theorem each_t (R : Value → TRow → Prop) : ∀ L : List TRow, (∀ p ∈ L, R (tval p) p) → PySem.W.EachIs R (L.map tval) L
  | [], _ => .nil
  | p :: L, h => .cons (h p List.mem_cons_self) (each_t R L fun q hq => h q (List.mem_cons_of_mem _ hq))
theorem each_teq : ∀ {vs : List Value} {L : List TRow}, PySem.W.EachIs (fun v (p : TRow) => v = tval p) vs L → vs = L.map tval
  | [], _, .nil => rfl
  | _ :: _, _, .cons r t => by rw [r, each_teq t]; rfl
def rSortedX (P : Program) (w : World) : List V → Hp → VK → Prop := fun xs H Q => ∃ (a : Addr) (L : List Str), xs = [V.ref a] ∧ H a = some (TXO P w a L) ∧ ∀ p, H p = none → Q (.ref p) (upd H p (.lst ((Fs.sortE PyData.str L).map V.str)))
theorem cr_sortedX {k : Nat} (hc : X.calm = true) (hr : Room k X.A) : CallR X (.builtin "sorted") (rSortedX X.prog X.w) := by
  intro pins s σ H xs us Q I r h
  obtain ⟨a, L, rfl, ha, q⟩ := h
  rw [Vals.ref1 r]
  obtain ⟨Lt, rfl, R⟩ := (show ∃ Lt : List TRow, Lt.map (·.1) = L ∧ Tx X.prog X.w s.heap a Lt from (I.hok a _ ha).1)
  obtain ⟨o, es, ep, t, ho, hex, hd, hel, hb, hf, hri, hl, hp, nd⟩ := R
  have hn := Tx.len (h := s.heap) hp
  have hun := hr.un
  have hbb : es.size < 4096 := hb
  refine Calls.call_function_entry kind_sorted plain_sorted entry_sorted (args_sorted1 _) ?_
  unfold Builtin.«sorted»
  refine wpAny_bind (m := checkCount "sorted" 1 1 _) (wpAny_pure ?_)
  refine wpAny_bind (collect_set (A := X.A.in1) (I.ok.hd hc) ⟨o, ho, hex.1, hd⟩ hf hb hri hl fun s1 vs k1 hz1 g1 o1 pm => ?_)
  obtain ⟨L1, pL, rfl⟩ := perm_map_inv tval (pm.trans hp) Lt rfl
  have hl1 : L1.length < 4096 := by rw [pL.length_eq, ← hn]; exact hbb
  refine wpAny_bind (wpAny_newList ?_ (by rw [List.length_map, sizeLine_eq]; omega))
  have hoL : (s1.heap.push (seqObj "list" (L1.map tval).toArray 0)).get? s1.heap.objs.size = some (seqObj "list" (L1.map tval).toArray 0) := Heap.get?_push_size _ rfl
  have srt : Srt (L1.map fun p : TRow => PyData.str p.1) := by
    have := Fs.srt_strs (L1.map (·.1))
    rw [List.map_map] at this
    exact this
  refine wpAny_bind (wpAny_holding (PySem.W.list_sort_data (R := fun v (p : TRow) => v = tval p) (enc := fun p : TRow => PyData.str p.1) (bs := L1) (s := { s1 with heap := s1.heap.push (seqObj "list" (L1.map tval).toArray 0) }) hoL (each_t _ L1 fun p _ => rfl) (each_t _ L1 fun p hp => ⟨[], Reads.str _ _, List.not_mem_nil⟩) srt.al srt.so (by rw [sizeLine_eq]; omega) (fun p hp => ?_) fun out hol he => ?_))
  · simp only [PyData.depth, Around.in1_units]; omega
  · rw [each_teq he]
    obtain ⟨c, hc2⟩ := sortedHeap_at (vs := L1.map tval) (out := ((L1.mergeSort (PySem.W.dataLe false fun p : TRow => PyData.str p.1)).map tval).toArray) hoL
    have hrow : (L1.mergeSort (PySem.W.dataLe false fun p : TRow => PyData.str p.1)).map (·.1) = Fs.sortE PyData.str (Lt.map (·.1)) := by
      have e1 : (L1.mergeSort (PySem.W.dataLe false fun p : TRow => PyData.str p.1)).map (·.1) = Fs.sortE PyData.str (L1.map (·.1)) := by
        unfold Fs.sortE
        exact List.map_mergeSort (fun a _ b _ => rfl)
      rw [e1]
      exact Fs.sortE_perm_eq Fs.told_str (pL.map _)
    have hkeep : ∀ b u, s.heap.get? b = some u → (sortedHeap (s1.heap.push (seqObj "list" (L1.map tval).toArray 0)) s1.heap.objs.size (L1.map tval) ((L1.mergeSort (PySem.W.dataLe false fun p : TRow => PyData.str p.1)).map tval).toArray).get? b = some u := fun b u e => by
      have q := k1 b u e
      have hlt := Heap.lt_size q
      rw [sortedHeap_old (Nat.ne_of_lt hlt) (by rw [Heap.size_push]; exact Nat.lt_succ_of_lt hlt)]
      exact Heap.get?_push_of_some _ q
    have hnp : H s1.heap.objs.size = none := I.hok.fresh hz1
    have hv : Vals ((Fs.sortE PyData.str (Lt.map (·.1))).map V.str) ((L1.mergeSort (PySem.W.dataLe false fun p : TRow => PyData.str p.1)).map tval) := by
      rw [← hrow]; exact strs_vals _
    have hlen : ((Fs.sortE PyData.str (Lt.map (·.1))).map V.str).length ≤ sizeLine := by
      rw [List.length_map, Fs.sortE_len, List.length_map, sizeLine_eq]
      have := pL.length_eq
      omega
    have J := I.call' (ch := []) (H' := upd H s1.heap.objs.size (.lst ((Fs.sortE PyData.str (Lt.map (·.1))).map V.str))) (s' := { s1 with heap := sortedHeap (s1.heap.push (seqObj "list" (L1.map tval).toArray 0)) s1.heap.objs.size (L1.map tval) ((L1.mergeSort (PySem.W.dataLe false fun p : TRow => PyData.str p.1)).map tval).toArray }) o1
      (Un.laid hkeep hz1 hnp) (I.hok.laid hkeep hz1 ⟨hlen, _, c, hv, hc2⟩) (by show AllBare s1.gens; rw [g1]; exact I.bare) (fun _ z => nomatch z)
    exact wpAny_pure ⟨_, rfl, .ref s1.heap.objs.size, _, J, rfl, q s1.heap.objs.size hnp⟩
end
section
variable {P : Program} {w : World} {K : PySem.W.Frag} {mg : Str → Option Value} {base : Heap} {C : Ctx P w K mg base} {rho rho' : List SV} {e a b c o tg iter kx vx : Expr} {es : List Expr} {ds zs : List PyData} {pos p p2 p3 : Pos} {d v : PyData} {ns ks zn : List Str}
theorem en_sortedSetX (T : Blt mg) (h : EL C rho e true (ns.map .str)) (hl : ns.length < 4000) (hz : ∀ L : List Str, L.Nodup → (∀ x, x ∈ L ↔ x ∈ ns) → Fs.sortE PyData.str L = zn)
    (hms : mg "set" = none := by exact T.set) (hg : ∀ i, Gl (C.X i) "sorted" := by intro _; rfl) (hg2 : ∀ i, Gl (C.X i) "set" := by intro _; rfl) (he : ∀ i, starEach (e :: []) (C.X i).env = (false, eval e (C.X i).env) :: starEach [] (C.X i).env := by intro _; rfl) : EN C rho (.Call (.Name "sorted" p) [.Call (.Name "set" p2) [e] [] p3] [] pos) (zn.map .str) :=
  EN.of (t := tCB (rSortedX P w) (tCons (tCB (rSetX K P w) (tCons (wE C e) tNil)) tNil)) (fun i => by
    have h1 : CallR (C.X i) (.builtin "sorted") (rSortedX P w) := by
      have := cr_sortedX (C.calm i) (C.room i)
      rw [C.hP, C.hw] at this
      exact this
    have h2 : CallR (C.X i) (.type "set") (rSetX K P w) := by
      have := cr_setX (C.calm i) (C.hu1 i)
      rw [C.hK, C.hP, C.hw] at this
      exact this
    exact pe_callB h1 (hg i) (by rw [C.hmg]; exact T.sorted) PyProof.Rows.boot_sorted (pa_cons (pe_callTy h2 (hg2 i) (by rw [C.hmg]; exact hms) PyProof.Rows.boot_set (pa_cons (pe_w i) pa_nil (he i)) (he := he i)) pa_nil)) fun B σ G H Q q z => h B σ G H _ q fun l vs G1 H1 x1 s1 t1 => by
    have ev := dpa_strs t1
    subst ev
    refine ⟨l, ns, rfl, of_sq_l s1, hl, fun a L ha nd hm => ?_⟩
    have x2 : Nx G H G1 (upd H1 a (TXO P w a L)) := x1.trans (Nx.priv x1.s ha)
    refine ⟨a, L, rfl, upd_same, fun p hp => ?_⟩
    rw [hz L nd hm]
    exact z p _ G1 _ (x2.trans (Nx.priv x2.s hp)) (x2.h.free hp) (x2.s.free hp) upd_same (of_dpa_strs zn)
/-- a dict with these texts as keys -/
def isDictS (ks : List Str) : Hp → Addr → Prop := fun G a => ∃ kvs : List (Key × V), G a = some (.dK kvs) ∧ kvs.map (·.1) = ks.map Sum.inr
theorem isDictS_ex {ks : List Str} : ∀ G G' a, Ex G G' → isDictS ks G a → isDictS ks G' a := fun G G' a e ⟨L, h1, h2⟩ => ⟨L, e a _ h1, h2⟩
abbrev svDS (ks : List Str) : SV := .obj (isDictS ks) isDictS_ex
theorem putK_keys {kvs : List (Key × V)} {ks : List Str} (h : kvs.map (·.1) = ks.map Sum.inr) (x : Str) (z : V) : (putK kvs (Sum.inr x) z).map (·.1) = (Fs.addOne ks x).map Sum.inr := by
  have ha : (kvs.any fun kv => decide (kv.1 = (Sum.inr x : Key))) = decide (x ∈ ks) := by
    have e1 : (kvs.any fun kv => decide (kv.1 = (Sum.inr x : Key))) = (kvs.map (·.1)).any fun k => decide (k = (Sum.inr x : Key)) := by rw [List.any_map]; rfl
    rw [e1, h, List.any_map, Bool.eq_iff_iff, List.any_eq_true, decide_eq_true_eq]
    constructor
    · rintro ⟨y, hy, e⟩
      have e2 : (Sum.inr y : Key) = Sum.inr x := by simpa using e
      injection e2 with e2
      rw [← e2]; exact hy
    · intro hy
      exact ⟨x, hy, by simp⟩
  unfold putK Fs.addOne
  rw [ha]
  by_cases hm : x ∈ ks
  · rw [if_pos (decide_eq_true hm), if_pos hm, List.map_map, ← h]
    refine List.map_congr_left fun p _ => ?_
    show (if p.1 = Sum.inr x then (p.1, z) else p).1 = p.1
    split <;> rfl
  · rw [if_neg (by rw [decide_eq_false hm]; exact Bool.false_ne_true), if_neg hm, List.map_append, List.map_append, h]; rfl
theorem oko_dcS {α : Type} {ifs : List Expr} {scope : Scope} {own : List (Str × Nat)} (xs : List α) (enc : α → PyData) (pr : α → Bool) (fk : α → Str) (fv : α → PyData)
    (hi : EIh C rho tg iter (xs.map enc))
    (hb : ∀ x ∈ xs, ∃ rho', EG (C.blk scope) (enc x) (wipeS rho (own.map (·.2))) rho' (own.map (·.2)) tg ∧ ETs (C.blk scope) rho' ifs (pr x) ∧ (pr x = true → EF (C.blk scope) rho' kx (.str (fk x)) ∧ EF (C.blk scope) rho' vx (fv x)))
    (hz : xs.length ≤ 100000) : OkO K (tDc (wI C tg iter) (wG (C.blk scope) tg) (wTs (C.blk scope) ifs) (wE (C.blk scope) kx) (wE (C.blk scope) vx) (own.map (·.2))) rho (isDictS (Fs.firsts ((xs.filter pr).map fk))) := by
  intro B σ G0 H0 Q r q
  refine hi B σ G0 H0 _ r fun J G1 H1 x1 it D hD => ?_
  refine ⟨fun i m H => m = xs.length - i ∧ i ≤ xs.length ∧ ∃ G kvs, Nx G1 H1 G H ∧ G D = none ∧ H D = some (.dK kvs) ∧ kvs.length ≤ i ∧ kvs.map (·.1) = (Fs.firsts (((xs.take i).filter pr).map fk)).map Sum.inr,
    ⟨_, rfl, Nat.zero_le _, G1, [], Nx.priv x1.s hD, x1.s.free hD, upd_same, Nat.le_refl _, rfl⟩, ?_⟩
  rintro i m H ⟨rfl, hle, G, kvs, x2, gD, hDl, hlk, ta⟩
  obtain ⟨stp, go⟩ := it i G H x2.g x2.h x2.s
  rcases Nat.lt_or_ge i xs.length with hlt | hge
  · have hx : xs[i]? = some xs[i] := List.getElem?_eq_getElem hlt
    generalize hxe : xs[i] = x at hx
    have hmem : x ∈ xs := List.mem_of_getElem? hx
    obtain ⟨g1, g2⟩ := go (enc x) (by rw [List.getElem?_map, hx]; rfl)
    have hta := take_succ_get hx
    refine .inr ⟨g1, fun H' => ∃ G kvs, Nx G1 H1 G H' ∧ G D = none ∧ H' D = some (.dK kvs) ∧ kvs.length ≤ i + 1 ∧ kvs.map (·.1) = (Fs.firsts (((xs.take (i + 1)).filter pr).map fk)).map Sum.inr, fun H' hn => ⟨xs.length - (i + 1), by omega, rfl, hlt, hn⟩, fun v H' y => ?_⟩
    obtain ⟨G', x3, td⟩ := g2 v H' y
    obtain ⟨rho', hg, ht, he⟩ := hb x hmem
    refine hg B _ G' H' v _ (((r.nx x1).nx x2).nx x3 |>.wipe _) td fun σ2 r2 ew => ⟨by rw [ew]; exact wipe_idem, ?_⟩
    refine ht B σ2 G' H' _ r2 fun G4 H4 x4 => ?_
    have hD4 : H4 D = some (.dK kvs) := x4.h _ _ (x3.h _ _ hDl)
    have gD4 : G4 D = none := (x3.trans x4).n D (by rw [hDl]; exact Option.some_ne_none _) gD
    cases hp : pr x with
    | false =>
      refine iteF ⟨G4, kvs, (x2.trans x3).trans x4, gD4, hD4, by omega, ?_⟩
      rw [hta, List.filter_append, List.filter_cons_of_neg (by rw [hp]; decide), List.filter_nil, List.append_nil]
      exact ta
    | true =>
      obtain ⟨hek, hev⟩ := he hp
      refine iteT (hek B σ2 G4 H4 _ (r2.nx x4) fun y G5 H5 x5 ty => hev B σ2 G5 H5 _ ((r2.nx x4).nx x5) fun u G6 H6 x6 tu => ?_)
      have hD6 : H6 D = some (.dK kvs) := x6.h _ _ (x5.h _ _ hD4)
      have gD6 : G6 D = none := (x5.trans x6).n D (by rw [hD4]; exact Option.some_ne_none _) gD4
      refine ⟨kvs, .inr (fk x), dp_str ty, hD6, by rw [sizeLine_eq]; omega, G6, _, ((((x2.trans x3).trans x4).trans x5).trans x6).wr hD gD6, gD6, upd_same, ?_, ?_⟩
      · have := length_putK kvs (.inr (fk x)) u
        omega
      · rw [hta, List.filter_append, List.filter_cons_of_pos hp, List.filter_nil, List.map_append, Fs.firsts_eq, List.foldl_append]
        exact putK_keys ta (fk x) u
  · have hie : i = xs.length := by omega
    refine .inl ⟨stp (by rw [List.length_map]; exact hge), ?_⟩
    subst hie
    rw [List.take_length] at ta
    exact q D (upd G D (.dK kvs)) H ((x1.trans x2).freeze (x1.h.free hD) gD hDl) ⟨kvs, upd_same, ta⟩
theorem eo_dcS {α : Type} {ifs : List Expr} {scope : Scope} {own : List (Str × Nat)} (xs : List α) (enc : α → PyData) (pr : α → Bool) (fk : α → Str) (fv : α → PyData)
    (hi : EIh C rho tg iter (xs.map enc)) (ok : ∀ i, blkC (C.X i).N (C.X i).env.scope scope own = true)
    (hb : ∀ x ∈ xs, ∃ rho', EG (C.blk scope) (enc x) (wipeS rho (own.map (·.2))) rho' (own.map (·.2)) tg ∧ ETs (C.blk scope) rho' ifs (pr x) ∧ (pr x = true → EF (C.blk scope) rho' kx (.str (fk x)) ∧ EF (C.blk scope) rho' vx (fv x)))
    (hz : xs.length ≤ 100000) (hs : ∀ i x, foldedSetIterable iter (C.X i).env x = pure x := by intro _ _; rfl) :
    EO C rho (.DictComp kx vx [⟨tg, iter, ifs, 0⟩] scope pos) (isDictS (Fs.firsts ((xs.filter pr).map fk))) :=
  EO.of (t := tDc (wI C tg iter) (wG (C.blk scope) tg) (wTs (C.blk scope) ifs) (wE (C.blk scope) kx) (wE (C.blk scope) vx) (own.map (·.2))) (fun i => pe_dc (C.calm i) (by rw [C.hN]; exact C.nd) (pi_w i) (blkOk_by (ok i))
    (fun s H D cl fp => pg_w (C := C.blk scope) (i, s, H, D, cl, fp)) (fun s H D cl fp => pts_w (C := C.blk scope) (i, s, H, D, cl, fp)) (fun s H D cl fp => pe_w (C := C.blk scope) (i, s, H, D, cl, fp)) (fun s H D cl fp => pe_w (C := C.blk scope) (i, s, H, D, cl, fp)) (hs i)) (oko_dcS xs enc pr fk fv hi hb hz)
theorem en_sortedDS (T : Blt mg) (h : EO C rho e (isDictS ks)) (hl : ks.length < 64) (hg : ∀ i, Gl (C.X i) "sorted" := by intro _; rfl) (he : ∀ i, starEach (e :: []) (C.X i).env = (false, eval e (C.X i).env) :: starEach [] (C.X i).env := by intro _; rfl) : EN C rho (.Call (.Name "sorted" p) [e] [] pos) ((Fs.sortE PyData.str ks).map .str) :=
  EN.of (fun i => pe_callB (call_sortedD (C.calm i)) (hg i) (by rw [C.hmg]; exact T.sorted) PyProof.Rows.boot_sorted (pa_cons (pe_w i) pa_nil (he i)) (he := he i)) fun B σ G H Q q z => h B σ G H _ q fun a G1 H1 x1 hL => by
    obtain ⟨kvs, hLa, hk⟩ := hL
    refine ⟨a, kvs, ks, rfl, .inl (x1.s _ _ hLa), hk, hl, fun ys p pm hs hp => ?_⟩
    rw [sortedS_is hs pm]
    exact z p _ G1 _ (x1.trans (Nx.priv x1.s hp)) (x1.h.free hp) (x1.s.free hp) upd_same (of_dpa_strs _)
end
end NS

set_option maxRecDepth 100000
set_option maxHeartbeats 2000000
/-! DL, part 10: stores with what they come to told ahead; expressions and statements that may raise. -/
namespace DL
open PySem PySem.Spec PyProof.Rows L2
section
variable {P : Program} {w : World} {K : PySem.W.Frag} {mg : Str → Option Value} {base : Heap} {C : Ctx P w K mg base} {rho rho' rho1 rho2 : List SV} {e a b c tg iter : Expr} {es : List Expr} {d d1 d2 d3 : PyData} {ds xs ys : List PyData} {vs : List Nat} {pos p p2 : Pos} {st : Stmt} {rest body : List Stmt} {Pt : Post}
theorem ds_setN (k : Nat) {x : Str} {p' : Pos} (ys : List PyData) (h : ∃ xs, EN C rho e xs ∧ xs = ys) (t : DS C rest (rho.set k (.own ys)) Pt) (hN : C.N[k]? = some x) (hx : ∀ i, Loc (C.X i).env.scope x) (hs : ∀ i, swapsWith e (some (.Name x p')) pos.line (C.X i).env = pure false := by intro _; rfl)
    (hf : ∀ i, (C.X i).fn x = true ∨ (C.X i).env.scope.names.lookup x = some .local := by intro _; exact Or.inl rfl) : DS C (.Assign [.Name x p'] e pos :: rest) rho Pt := ds_set k (by obtain ⟨xs, h, rfl⟩ := h; exact EN.v h) t hN hx hs hf
theorem ds_setF (k : Nat) {x : Str} {p' : Pos} (d2 : PyData) (h : ∃ d1, EF C rho e d1 ∧ d1 = d2) (t : DS C rest (rho.set k (.dat d2)) Pt) (hN : C.N[k]? = some x) (hx : ∀ i, Loc (C.X i).env.scope x) (hs : ∀ i, swapsWith e (some (.Name x p')) pos.line (C.X i).env = pure false := by intro _; rfl)
    (hf : ∀ i, (C.X i).fn x = true ∨ (C.X i).env.scope.names.lookup x = some .local := by intro _; exact Or.inl rfl) : DS C (.Assign [.Name x p'] e pos :: rest) rho Pt := ds_set k (by obtain ⟨xs, h, rfl⟩ := h; exact EF.v h) t hN hx hs hf
theorem ds_setO (k : Nat) {x : Str} {p' : Pos} (phi : Hp → Addr → Prop) (m : ∀ G G' a, Ex G G' → phi G a → phi G' a) (h : EO C rho e phi) (t : DS C rest (rho.set k (.obj phi m)) Pt) (hN : C.N[k]? = some x) (hx : ∀ i, Loc (C.X i).env.scope x) (hs : ∀ i, swapsWith e (some (.Name x p')) pos.line (C.X i).env = pure false := by intro _; rfl)
    (hf : ∀ i, (C.X i).fn x = true ∨ (C.X i).env.scope.names.lookup x = some .local := by intro _; exact Or.inl rfl) : DS C (.Assign [.Name x p'] e pos :: rest) rho Pt := ds_set k (EO.v h) t hN hx hs hf
theorem EF.to (h : EF C rho e d1) (q : d1 = d2) : EF C rho e d2 := q ▸ h
theorem EV.to {sv1 sv2 : SV} (h : EV C rho e sv1) (q : sv1 = sv2) : EV C rho e sv2 := q ▸ h
theorem ds_parV (k l : Nat) (sv1 sv2 : SV) {x y : Str} {px py pt : Pos} {kt k2 : Nat} {pt2 : Pos} (h1 : EV C rho a sv1) (h2 : EV C rho b sv2) (t : DS C rest ((rho.set k sv1).set l sv2) Pt) (hN : C.N[k]? = some x) (hN2 : C.N[l]? = some y) (hne : k ≠ l)
    (hx : ∀ i, (C.X i).env.scope.names.lookup x = some .local) (hy : ∀ i, (C.X i).env.scope.names.lookup y = some .local)
    (hw : ∀ i, swappedStores [.Tuple [.Name x px, .Name y py] kt pt] (.Tuple [a, b] k2 pt2) (C.X i).env = pure (some [x, y])) (hs : ∀ i, swapsWithSole [.Tuple [.Name x px, .Name y py] kt pt] (.Tuple [a, b] k2 pt2) pos.line (C.X i).env = pure false := by intro _; rfl)
    (ha : ∀ i, starEach (a :: [b]) (C.X i).env = (false, eval a (C.X i).env) :: starEach [b] (C.X i).env := by intro _; rfl) (hb : ∀ i, starEach (b :: []) (C.X i).env = (false, eval b (C.X i).env) :: starEach [] (C.X i).env := by intro _; rfl) :
    DS C (.Assign [.Tuple [.Name x px, .Name y py] kt pt] (.Tuple [a, b] k2 pt2) pos :: rest) rho Pt := ds_par k l h1 h2 t hN hN2 hne hx hy hw hs ha hb
theorem ds_asgV (d : PyData) (vs : List Nat) (h : EF C rho e d) (g : EG C d rho rho' vs tg) (t : DS C rest rho' Pt) (hs : ∀ i, swapsWithSole [tg] e pos.line (C.X i).env = pure false := by intro _; rfl) (hw : ∀ i, swappedStores [tg] e (C.X i).env = pure none := by intro _; rfl)
    (h1 : ∀ i, (assignEach [tg] (C.X i).env).map (·.2) = [assign tg (C.X i).env] := by intro _; rfl) : DS C (.Assign [tg] e pos :: rest) rho Pt := ds_asg h g t hs hw h1
theorem ds_ifV (k : Bool) {s1 s2 : List Stmt} (R : List SV → Prop) (h : ∃ k', ET C rho c k' ∧ k' = k) (h1 : k = true → DS C s1 rho { Pt with nx := R }) (h2 : k = false → DS C s2 rho { Pt with nx := R }) (t : ∀ r, R r → DS C rest r Pt) : DS C (.If c s1 s2 pos :: rest) rho Pt :=
  ds_if (by obtain ⟨k', h, rfl⟩ := h; exact h) R h1 h2 t
theorem ds_if1V (k : Bool) {s1 : List Stmt} (h : ∃ k', ET C rho c k' ∧ k' = k) (h1 : k = true → DS C s1 rho { Pt with nx := fun _ => False }) (h2 : k = false → DS C rest rho Pt) : DS C (.If c s1 [] pos :: rest) rho Pt :=
  ds_if1 (by obtain ⟨k', h, rfl⟩ := h; exact h) h1 h2
theorem EI.is (h : EI C rho tg iter xs) (q : xs = ys) : EI C rho tg iter ys := q ▸ h
end
end DL

set_option maxRecDepth 100000
set_option maxHeartbeats 2000000
/-! DL, part 11: loops that fill a list. -/
namespace DL
open PySem PySem.Spec PyProof.Rows L2
section
variable {P : Program} {w : World} {K : PySem.W.Frag} {mg : Str → Option Value} {base : Heap} {C : Ctx P w K mg base} {rho rho' rho1 rho2 : List SV} {e a b c tg iter : Expr} {es : List Expr} {d d1 d2 d3 : PyData} {ds ds0 xs ys : List PyData} {vs : List Nat} {pos p p2 : Pos} {st : Stmt} {rest body sts : List Stmt} {Pt : Post}
theorem Rl.unk {B G H : Hp} {σ : L2.St} (r : Rl K B G H rho σ) (i : Nat) : Rl K B G H (rho.set i .unk) σ :=
  ⟨r.e, by rw [List.length_set]; exact r.len, fun j sv e => by
    rcases set_get e with ⟨rfl, rfl, _⟩ | ⟨_, e⟩
    · trivial
    · exact r.sl j sv e, fun i' j l ds es h1 h2 h3 h4 => by
    rcases set_get h1 with ⟨_, q, _⟩ | ⟨_, h1⟩
    · cases q
    · rcases set_get h2 with ⟨_, q, _⟩ | ⟨_, h2⟩
      · cases q
      · exact r.sep i' j l ds es h1 h2 h3 h4, r.pins.sub (fun i es q => by
    rcases set_get q with ⟨_, z, _⟩ | ⟨_, q⟩
    · cases z
    · exact ⟨es, q, rfl⟩) fun i p cells q => by
    rcases set_get q with ⟨_, z, _⟩ | ⟨_, q⟩
    · cases z
    · exact ⟨cells, q, rfl⟩⟩
theorem Rl.unks {B G H : Hp} {σ : L2.St} (r : Rl K B G H rho σ) : ∀ vs : List Nat, Rl K B G H (wipeS rho vs) σ
  | [] => r
  | v :: vs => (r.unks vs).unk v
/-- less may be known -/
theorem ds_wipe (vs : List Nat) (h : DS C sts (wipeS rho vs) Pt) : DS C sts rho Pt := fun G0 H0 D W σ G H tk x r k => h G0 H0 D W σ G H tk x (r.unks vs) k
theorem ds_end (vs : List Nat) (h : Pt.nx (wipeS rho vs)) : DS C [] rho Pt := ds_wipe vs (ds_nil h)
theorem wipeS_set {k : Nat} {sv : SV} : ∀ {vs : List Nat} {rho : List SV}, k ∉ vs → wipeS (rho.set k sv) vs = (wipeS rho vs).set k sv
  | [], _, _ => rfl
  | v :: vs, rho, h => by
    simp only [List.mem_cons, not_or] at h
    unfold wipeS
    rw [wipeS_set h.2, List.set_comm _ _ (fun z => h.1 z)]
/-- a loop that fills the list in slot k; what its turns store else is forgotten -/
theorem ds_forApp {α : Type} (k : Nat) (vs : List Nat) (xs : List α) (enc : α → PyData) (f : α → List PyData) (hi : EI C rho tg iter (xs.map enc)) (hk : rho[k]? = some (.own ds0))
    (hb : ∀ (i : Nat) (x : α), xs[i]? = some x → ∀ ds, ds = ds0 ++ (xs.take i).flatMap f → ∃ rho2 us, EG C (enc x) (rho.set k (.own ds)) rho2 us tg ∧ DS C body rho2 { nx := fun r => wipeS r vs = rho.set k (.own (ds ++ f x)), rt := Pt.rt, er := Pt.er })
    (t : DS C rest (rho.set k (.own (ds0 ++ xs.flatMap f))) Pt) (hp : ∀ i, PassesOwn (model (C.X i).prog (C.X i).w) (C.X i).A (C.X i).env (C.X i).xe := by exact fun _ => PassesOwn.never) (hfs : ∀ i x, foldedSetIterable iter (C.X i).env x = pure x := by intro _ _; rfl) : DS C (.For tg iter body [] pos :: rest) rho Pt := by
  refine ds_for xs enc hi (fun i r => r = rho.set k (.own (ds0 ++ (xs.take i).flatMap f))) ?_ ?_ ?_ hp hfs
  · rw [List.take_zero, List.flatMap_nil, List.append_nil]
    refine List.ext_getElem? fun j => ?_
    by_cases h : k = j
    · subst h
      rw [List.getElem?_set_self (List.getElem?_eq_some_iff.mp hk).1, hk]
    · rw [List.getElem?_set_ne h]
  · rintro i x r hx rfl
    obtain ⟨rho2, us, hg, hd⟩ := hb i x hx _ rfl
    refine ⟨rho2, us, hg, ?_⟩
    have e1 : ds0 ++ (xs.take (i + 1)).flatMap f = ds0 ++ (xs.take i).flatMap f ++ f x := by
      rw [take_succ_get hx, List.flatMap_append, List.append_assoc]
      simp
    intro G0 H0 D W σ G H tk y r kk
    refine hd G0 H0 D W σ G H tk y r ⟨fun rho3 σ3 G3 H3 z q r3 => ?_, kk.rt, fun _ _ _ _ z => z.elim, fun _ _ _ _ z => z.elim, kk.er⟩
    have r4 := r3.unks vs
    rw [show wipeS rho3 vs = _ from z] at r4
    exact kk.nx _ σ3 G3 H3 (by rw [e1]) q r4
  · rintro r rfl
    rw [List.take_length]
    exact t
/-- for .. if c: x.append(e) -/
theorem ds_forIfApp {α : Type} (k : Nat) (vs : List Nat) (xs : List α) (enc : α → PyData) (pr : α → Bool) (f : α → PyData) {x : Str} {apos cpos pp ip ep : Pos} (hi : EI C rho tg iter (xs.map enc)) (hk : rho[k]? = some (.own ds0))
    (hb : ∀ x ∈ xs, ∀ ds, ∃ rho2 us, EG C (enc x) (rho.set k (.own ds)) rho2 us tg ∧ rho2[k]? = some (.own ds) ∧ wipeS rho2 vs = rho.set k (.own ds) ∧ (∃ k', ET C rho2 c k' ∧ k' = pr x) ∧ (pr x = true → EF C rho2 e (f x)))
    (hl : ds0.length + xs.length ≤ 100000) (t : DS C rest (rho.set k (.own (ds0 ++ (xs.filter pr).map f))) Pt) (hN : C.N[k]? = some x) (hv : ∀ i, Vis (C.X i).env.scope x) (hkv : k ∉ vs := by decide)
    (hd : (x == ("__debug__" : Str)) = false := by decide) (hcd : (x == ("__classdict__" : Str)) = false := by decide)
    (hbase : ∀ i, attributeBase (.Name x pp) "append" (C.X i).env (eval (.Name x pp) (C.X i).env) = eval (.Name x pp) (C.X i).env := by intro _; rfl)
    (hfew : ∀ i, ((backTo cpos (starEach (e :: []) (C.X i).env)).all (fun x => !x.1) && (backToKw cpos (keywordEach [] (C.X i).env)).all (fun x => x.1.isSome)
      && decide ((e :: []).length + ([] : List Keyword).length + (if ([] : List Keyword).isEmpty then 0 else 1) < 30)) = true := by intro _; rfl)
    (hline : (apos.endLine == cpos.line) = true := by rfl) (hs : ∀ i, starEach (e :: []) (C.X i).env = (false, eval e (C.X i).env) :: starEach [] (C.X i).env := by intro _; rfl) (hsw : ∀ i, swapsWith (.Call (.Attribute (.Name x pp) "append" apos) [e] [] cpos) none ep.line (C.X i).env = pure false := by intro _; rfl)
    (hp : ∀ i, PassesOwn (model (C.X i).prog (C.X i).w) (C.X i).A (C.X i).env (C.X i).xe := by exact fun _ => PassesOwn.never) (hfs : ∀ i x, foldedSetIterable iter (C.X i).env x = pure x := by intro _ _; rfl) :
    DS C (.For tg iter [.If c [.Expr (.Call (.Attribute (.Name x pp) "append" apos) [e] [] cpos) ep] [] ip] [] pos :: rest) rho Pt := by
  have ef : xs.flatMap (fun x => if pr x = true then [f x] else []) = (xs.filter pr).map f := by
    induction xs with
    | nil => rfl
    | cons x xs ih =>
      rw [List.flatMap_cons]
      have ih2 : xs.flatMap (fun x => if pr x = true then [f x] else []) = (xs.filter pr).map f := by
        clear ih hi hb hl t
        induction xs with
        | nil => rfl
        | cons y ys ih3 =>
          rw [List.flatMap_cons, ih3]
          cases h : pr y with
          | true => rw [List.filter_cons_of_pos h]; rfl
          | false => rw [List.filter_cons_of_neg (by rw [h]; decide)]; rfl
      rw [ih2]
      cases h : pr x with
      | true => rw [List.filter_cons_of_pos h]; rfl
      | false => rw [List.filter_cons_of_neg (by rw [h]; decide)]; rfl
  refine ds_forApp k vs xs enc (fun x => if pr x = true then [f x] else []) hi hk (fun i x hx ds hds => ?_) (by rw [ef]; exact t) hp hfs
  obtain ⟨rho2, us, hg, h2, h3, hc, he⟩ := hb x (List.mem_of_getElem? hx) ds
  refine ⟨rho2, us, hg, ?_⟩
  have hset : ∀ sv, (rho.set k (.own ds)).set k sv = rho.set k sv := fun sv => by
    rw [List.set_set]
  refine ds_ifV (pr x) (fun r => wipeS r vs = rho.set k (.own (ds ++ if pr x = true then [f x] else []))) hc (fun hT => ?_) (fun hF => ?_) fun r hr => ds_nil hr
  · refine ds_append k h2 (he hT) ?_ (ds_nil ?_) hN hv hd hcd hbase hfew hline hs hsw
    · have hi' : i < xs.length := (List.getElem?_eq_some_iff.mp hx).1
      have hlen : ∀ l : List α, (l.flatMap fun x => if pr x = true then [f x] else []).length ≤ l.length := by
        intro l
        induction l with
        | nil => exact Nat.le_refl _
        | cons y l ih =>
          rw [List.flatMap_cons, List.length_append, List.length_cons]
          have : (if pr y = true then [f y] else []).length ≤ 1 := by split <;> simp
          omega
      have := hlen (xs.take i)
      rw [List.length_take] at this
      rw [hds, List.length_append]
      omega
    · show wipeS _ vs = _
      rw [wipeS_set hkv, h3, hset, if_pos hT]
  · refine ds_nil ?_
    show wipeS rho2 vs = _
    rw [h3, if_neg (by rw [hF]; decide), List.append_nil]
theorem filter_yes {α : Type} (l : List α) : l.filter (fun _ => true) = l := by
  induction l with
  | nil => rfl
  | cons x l ih => rw [List.filter_cons_of_pos rfl, ih]
theorem take_flat_le {α β : Type} (f : α → List β) : ∀ (l : List α) (i : Nat), ((l.take i).flatMap f).length ≤ (l.flatMap f).length
  | [], i => by simp
  | x :: l, 0 => by simp
  | x :: l, i + 1 => by
    rw [List.take_succ_cons, List.flatMap_cons, List.flatMap_cons, List.length_append, List.length_append]
    have := take_flat_le f l i
    omega
/-- a comprehension without tests -/
theorem en_lc0 {α : Type} {elt : Expr} {scope : Scope} {own : List (Str × Nat)} (xs : List α) (enc : α → PyData) (f : α → PyData)
    (hi : EIh C rho tg iter (xs.map enc)) (ok : ∀ i, blkC (C.X i).N (C.X i).env.scope scope own = true)
    (hb : ∀ x ∈ xs, ∃ rho', EG (C.blk scope) (enc x) (wipeS rho (own.map (·.2))) rho' (own.map (·.2)) tg ∧ EF (C.blk scope) rho' elt (f x))
    (hz : xs.length ≤ 100000) (hs : ∀ i x, foldedSetIterable iter (C.X i).env x = pure x := by intro _ _; rfl) : EN C rho (.ListComp elt [⟨tg, iter, [], 0⟩] scope pos) (xs.map f) := by
  have h := en_lc (C := C) (rho := rho) (pos := pos) (elt := elt) (ifs := []) (scope := scope) (own := own) xs enc (fun _ => true) f hi ok (fun x hx => by
    obtain ⟨rho', h1, h2⟩ := hb x hx
    exact ⟨rho', h1, ets_nil, fun _ => h2⟩) hz hs
  rw [filter_yes] at h
  exact h
end
end DL

set_option maxRecDepth 100000
set_option maxHeartbeats 2000000
/-! DL, part 12: names set to comprehensions. -/
namespace DL
open PySem PySem.Spec PyProof.Rows L2 NS
section
variable {P : Program} {w : World} {K : PySem.W.Frag} {mg : Str → Option Value} {base : Heap} {C : Ctx P w K mg base} {rho rho' rho1 rho2 : List SV} {e a b c tg iter kx vx : Expr} {es : List Expr} {d d1 d2 d3 : PyData} {ds ds0 ys0 : List PyData} {vs : List Nat} {pos p p2 spos : Pos} {st : Stmt} {rest body sts : List Stmt} {Pt : Post}
theorem ds_setOkN {t : TE} (k : Nat) {x : Str} {p' : Pos} (h : ∀ i, PS (C.X i) (.Assign [.Name x p'] e spos) (tAsg t (gName k))) (o : OkN K t rho ds) (tl : DS C rest (rho.set k (.own ds)) Pt) : DS C (.Assign [.Name x p'] e spos :: rest) rho Pt :=
  DS.cons (t := tAsg t (gName k)) h fun G0 H0 D W σ G H tk x r kk => o H0 σ G H _ r fun p vs G' H' x2 hp hg hq tv =>
    have n : NewOk K H G' H' (.own ds) (.ref p) := ⟨p, vs, rfl, hp, hg, hq, tv⟩
    tl G0 H0 D W _ G' H' tk (x.trans x2) ((r.nx x2).put x.h n (fun ds e j es l _ h1 h2 => n.apart r ds e j es l h1 h2) r.pinned) kk
theorem ds_setOkO {t : TE} (k : Nat) {x : Str} {p' : Pos} {phi : Hp → Addr → Prop} {m : ∀ G G' a, Ex G G' → phi G a → phi G' a} (h : ∀ i, PS (C.X i) (.Assign [.Name x p'] e spos) (tAsg t (gName k))) (o : OkO K t rho phi) (tl : DS C rest (rho.set k (.obj phi m)) Pt) : DS C (.Assign [.Name x p'] e spos :: rest) rho Pt :=
  DS.cons (t := tAsg t (gName k)) h fun G0 H0 D W σ G H tk x r kk => o H0 σ G H _ r fun a G' H' x2 hq =>
    have n : NewOk K H G' H' (.obj phi m) (.ref a) := ⟨a, rfl, hq⟩
    tl G0 H0 D W _ G' H' tk (x.trans x2) ((r.nx x2).put x.h n (fun ds e j es l _ h1 h2 => n.apart r ds e j es l h1 h2) r.pinned) kk
theorem ds_setLc {α : Type} {elt : Expr} {ifs : List Expr} {scope : Scope} {own : List (Str × Nat)} {x : Str} {p' : Pos} (k : Nat) (xs : List α) (enc : α → PyData) (pr : α → Bool) (f : α → PyData)
    (hi : EIh C rho tg iter (xs.map enc)) (ok : ∀ i, blkC (C.X i).N (C.X i).env.scope scope own = true)
    (hb : ∀ x ∈ xs, ∃ rho', EG (C.blk scope) (enc x) (wipeS rho (own.map (·.2))) rho' (own.map (·.2)) tg ∧ ETs (C.blk scope) rho' ifs (pr x) ∧ (pr x = true → EF (C.blk scope) rho' elt (f x)))
    (hz : xs.length ≤ 100000) (t : DS C rest (rho.set k (.own ((xs.filter pr).map f))) Pt) (hN : C.N[k]? = some x) (hx : ∀ i, (C.X i).env.scope.names.lookup x = some .local)
    (hsw : ∀ i, swapsWith (.ListComp elt [⟨tg, iter, ifs, 0⟩] scope pos) (some (.Name x p')) spos.line (C.X i).env = pure true := by intro _; rfl) (hs : ∀ i x, foldedSetIterable iter (C.X i).env x = pure x := by intro _ _; rfl) :
    DS C (.Assign [.Name x p'] (.ListComp elt [⟨tg, iter, ifs, 0⟩] scope pos) spos :: rest) rho Pt :=
  ds_setOkN k (fun i => ps_setLc (C.calm i) (by rw [C.hN]; exact C.nd) (by rw [C.hN]; exact hN) (hx i) (hsw i) (pi_w i) (blkOk_by (ok i))
    (fun s H D cl fp => pg_w (C := C.blk scope) (i, s, H, D, cl, fp)) (fun s H D cl fp => pts_w (C := C.blk scope) (i, s, H, D, cl, fp)) (fun s H D cl fp => pe_w (C := C.blk scope) (i, s, H, D, cl, fp)) (hs i)) (okn_lc xs enc pr f hi hb hz) t
theorem ds_setLc0 {α : Type} {elt : Expr} {scope : Scope} {own : List (Str × Nat)} {x : Str} {p' : Pos} (k : Nat) (xs : List α) (enc : α → PyData) (f : α → PyData)
    (hi : EIh C rho tg iter (xs.map enc)) (ok : ∀ i, blkC (C.X i).N (C.X i).env.scope scope own = true)
    (hb : ∀ x ∈ xs, ∃ rho', EG (C.blk scope) (enc x) (wipeS rho (own.map (·.2))) rho' (own.map (·.2)) tg ∧ EF (C.blk scope) rho' elt (f x))
    (hz : xs.length ≤ 100000) (t : DS C rest (rho.set k (.own (xs.map f))) Pt) (hN : C.N[k]? = some x) (hx : ∀ i, (C.X i).env.scope.names.lookup x = some .local)
    (hsw : ∀ i, swapsWith (.ListComp elt [⟨tg, iter, [], 0⟩] scope pos) (some (.Name x p')) spos.line (C.X i).env = pure true := by intro _; rfl) (hs : ∀ i x, foldedSetIterable iter (C.X i).env x = pure x := by intro _ _; rfl) :
    DS C (.Assign [.Name x p'] (.ListComp elt [⟨tg, iter, [], 0⟩] scope pos) spos :: rest) rho Pt :=
  ds_setLc (own := own) k xs enc (fun _ => true) f hi ok (fun x hx => by
    obtain ⟨rho', h1, h2⟩ := hb x hx
    exact ⟨rho', h1, ets_nil, fun _ => h2⟩) hz (by rw [filter_yes]; exact t) hN hx hsw hs
theorem ds_setDc {α : Type} {ifs : List Expr} {scope : Scope} {own : List (Str × Nat)} {x : Str} {p' : Pos} (k : Nat) (xs : List α) (enc : α → PyData) (pr : α → Bool) (fk fv : α → PyData)
    (hi : EIh C rho tg iter (xs.map enc)) (ok : ∀ i, blkC (C.X i).N (C.X i).env.scope scope own = true)
    (hb : ∀ x ∈ xs, ∃ rho', EG (C.blk scope) (enc x) (wipeS rho (own.map (·.2))) rho' (own.map (·.2)) tg ∧ ETs (C.blk scope) rho' ifs (pr x) ∧ (pr x = true → EF (C.blk scope) rho' kx (fk x) ∧ EF (C.blk scope) rho' vx (fv x)))
    (hkd : ∀ x ∈ xs, pr x = true → isTupD (fk x) = true ∧ Kd 8 (fk x)) (hz : xs.length ≤ 100000) (t : DS C rest (rho.set k (svD K P w ((xs.filter pr).foldl (fun acc x => putD acc (fk x) (fv x)) []))) Pt) (hN : C.N[k]? = some x) (hx : ∀ i, (C.X i).env.scope.names.lookup x = some .local)
    (hsw : ∀ i, swapsWith (.DictComp kx vx [⟨tg, iter, ifs, 0⟩] scope pos) (some (.Name x p')) spos.line (C.X i).env = pure true := by intro _; rfl) (hs : ∀ i x, foldedSetIterable iter (C.X i).env x = pure x := by intro _ _; rfl) :
    DS C (.Assign [.Name x p'] (.DictComp kx vx [⟨tg, iter, ifs, 0⟩] scope pos) spos :: rest) rho Pt := by
  refine ds_setOkO k (fun i => ?_) (oko_dc xs enc pr fk fv hi hb hkd hz) t
  refine ps_setDx ?_ ?_ (C.hu1 i) (C.calm i) (by rw [C.hN]; exact C.nd) (by rw [C.hN]; exact hN) (hx i) (hsw i) (pi_w i) (blkOk_by (ok i))
    (fun s H D cl fp => pg_w (C := C.blk scope) (i, s, H, D, cl, fp)) (fun s H D cl fp => pts_w (C := C.blk scope) (i, s, H, D, cl, fp)) (fun s H D cl fp => pe_w (C := C.blk scope) (i, s, H, D, cl, fp)) (fun s H D cl fp => pe_w (C := C.blk scope) (i, s, H, D, cl, fp)) (hs i)
  · rw [C.hK, C.hP, C.hw]; exact stN_ok P w K
  · intro H h hb
    have := do_empty (P := (C.X i).prog) (w := (C.X i).w) (H := H) h hb
    rw [C.hP, C.hw] at this ⊢
    exact this
theorem ds_setDcS {α : Type} {ifs : List Expr} {scope : Scope} {own : List (Str × Nat)} {x : Str} {p' : Pos} (k : Nat) (xs : List α) (enc : α → PyData) (pr : α → Bool) (fk : α → Str) (fv : α → PyData)
    (hi : EIh C rho tg iter (xs.map enc)) (ok : ∀ i, blkC (C.X i).N (C.X i).env.scope scope own = true)
    (hb : ∀ x ∈ xs, ∃ rho', EG (C.blk scope) (enc x) (wipeS rho (own.map (·.2))) rho' (own.map (·.2)) tg ∧ ETs (C.blk scope) rho' ifs (pr x) ∧ (pr x = true → EF (C.blk scope) rho' kx (.str (fk x)) ∧ EF (C.blk scope) rho' vx (fv x)))
    (hz : xs.length ≤ 100000) (t : DS C rest (rho.set k (svDS (Fs.firsts ((xs.filter pr).map fk)))) Pt) (hN : C.N[k]? = some x) (hx : ∀ i, (C.X i).env.scope.names.lookup x = some .local)
    (hsw : ∀ i, swapsWith (.DictComp kx vx [⟨tg, iter, ifs, 0⟩] scope pos) (some (.Name x p')) spos.line (C.X i).env = pure true := by intro _; rfl) (hs : ∀ i x, foldedSetIterable iter (C.X i).env x = pure x := by intro _ _; rfl) :
    DS C (.Assign [.Name x p'] (.DictComp kx vx [⟨tg, iter, ifs, 0⟩] scope pos) spos :: rest) rho Pt :=
  ds_setOkO k (fun i => ps_setDc (C.calm i) (by rw [C.hN]; exact C.nd) (by rw [C.hN]; exact hN) (hx i) (hsw i) (pi_w i) (blkOk_by (ok i))
    (fun s H D cl fp => pg_w (C := C.blk scope) (i, s, H, D, cl, fp)) (fun s H D cl fp => pts_w (C := C.blk scope) (i, s, H, D, cl, fp)) (fun s H D cl fp => pe_w (C := C.blk scope) (i, s, H, D, cl, fp)) (fun s H D cl fp => pe_w (C := C.blk scope) (i, s, H, D, cl, fp)) (hs i)) (oko_dcS xs enc pr fk fv hi hb hz) t
theorem ei_rng (T : Blt mg) {n : Int} (h : EF C rho e (.int n)) (h0 : -(2 ^ 62) ≤ n ∧ n < 2 ^ 62) (hg : ∀ i, Gl (C.X i) "range" := by intro _; rfl) (hs : ∀ i, starEach [e] (C.X i).env = [(false, eval e (C.X i).env)] := by intro _; rfl) (he : ∀ i, starEach (e :: []) (C.X i).env = (false, eval e (C.X i).env) :: starEach [] (C.X i).env := by intro _; rfl) : EI C rho tg (.Call (.Name "range" p) [e] [] pos) ((Fs.rng n).map .int) :=
  Fs.rng_D n ▸ ei_range T h h0.1 h0.2 hg hs he
theorem flat_le {α β : Type} (f : α → List β) (b : Nat) : ∀ l : List α, (∀ x ∈ l, (f x).length ≤ b) → (l.flatMap f).length ≤ l.length * b
  | [], _ => by simp
  | x :: l, h => by
    rw [List.flatMap_cons, List.length_append, List.length_cons, Nat.add_mul, Nat.one_mul]
    have h1 := h x List.mem_cons_self
    have h2 := flat_le f b l fun y hy => h y (List.mem_cons_of_mem _ hy)
    omega
theorem lc2_len {α β : Type} (xs : List α) (ys : α → List β) (pr : α → β → Bool) (f : α → β → PyData) (b c : Nat) (h1 : xs.length ≤ c) (h2 : ∀ x ∈ xs, (ys x).length ≤ b) (h3 : (c + 1) * b < 100000) :
    ∀ n m x, xs[n]? = some x → m ≤ (ys x).length → (((xs.take n).flatMap fun x => ((ys x).filter (pr x)).map (f x)) ++ (((ys x).take m).filter (pr x)).map (f x)).length < 100000 := by
  intro n m x hx hm
  rw [List.length_append, List.length_map]
  have e1 := flat_le (fun x => ((ys x).filter (pr x)).map (f x)) b (xs.take n) fun y hy => by
    rw [List.length_map]
    exact Nat.le_trans (List.length_filter_le _ _) (h2 y (List.mem_of_mem_take hy))
  have e2 := List.length_filter_le (pr x) ((ys x).take m)
  rw [List.length_take] at e2
  have e3 := h2 x (List.mem_of_getElem? hx)
  have e4 : (xs.take n).length * b ≤ c * b := Nat.mul_le_mul_right _ (Nat.le_trans (by rw [List.length_take]; omega) h1)
  rw [Nat.add_mul, Nat.one_mul] at h3
  omega
theorem ef_any1 {α : Type} {g : α → Bool} {xs : List α} (T : Blt mg) (h : EL C rho e true (xs.map fun x => .bool (g x))) (hg : ∀ i, Gl (C.X i) "any" := by intro _; rfl) (he : ∀ i, starEach (e :: []) (C.X i).env = (false, eval e (C.X i).env) :: starEach [] (C.X i).env := by intro _; rfl) : EF C rho (.Call (.Name "any" p) [e] [] pos) (.bool (xs.any g)) := by
  have := ef_any (p := p) (pos := pos) (bs := xs.map g) T (by rw [List.map_map]; exact h) hg he
  rw [List.any_map] at this
  exact this
theorem ef_all1 {α : Type} {g : α → Bool} {xs : List α} (T : Blt mg) (h : EL C rho e true (xs.map fun x => .bool (g x))) (hg : ∀ i, Gl (C.X i) "all" := by intro _; rfl) (he : ∀ i, starEach (e :: []) (C.X i).env = (false, eval e (C.X i).env) :: starEach [] (C.X i).env := by intro _; rfl) : EF C rho (.Call (.Name "all" p) [e] [] pos) (.bool (xs.all g)) := by
  have := ef_all (p := p) (pos := pos) (bs := xs.map g) T (by rw [List.map_map]; exact h) hg he
  rw [List.all_map] at this
  exact this
theorem ef_callV (d : PyData) {x : Str} {k : Nat} {ps : List Str} {pre : List PyData → PyData → Prop} (F : Fn P w K mg base x k ps (spD K pre)) (ha : EA C rho (e :: es) ds) (hp : pre ds d) (hk : k ≤ C.j) (hg : ∀ i, Gl (C.X i) x) (hdb : (x == ("__debug__" : Str)) = false := by decide)
    (he : ∀ i, starEach (e :: es) (C.X i).env = (false, eval e (C.X i).env) :: starEach es (C.X i).env := by intro _; rfl) (hpl : ∀ i, (backTo pos (starEach es (C.X i).env)).any (·.1) = false := by intro _; rfl) : EF C rho (.Call (.Name x p) (e :: es) [] pos) d := ef_call F ha hp hk hg hdb he hpl
theorem et_chain {op op' : CmpOp} {k l : Bool} (h1 : EF C rho a d1) (h2 : EF C rho b d2) (h3 : k = true → EF C rho c d3) {r r' : R2} (ho : ∀ i, OpR (C.X i) (compareOp op) r) (ho' : ∀ i, OpR (C.X i) (compareOp op') r')
    (hr : ∀ G H x y Q, Ex G H → Dp K G x d1 → Dp K G y d2 → Q (.bl k) H → r x y H Q) (hr' : k = true → ∀ G H x y Q, Ex G H → Dp K G x d2 → Dp K G y d3 → Q (.bl l) H → r' x y H Q) (hm : lastMarks [op, op'] [b, c] = false) : ET C rho (.Compare a [op, op'] [b, c] pos) (k && l) :=
  ET.of (t := tTest (tChain r r' (wE C a) (wE C b) (wE C c))) (fun i => pt_chain (ho i) (ho' i) (pe_w i) (pe_w i) (pe_w i) hm) fun B σ G H Q q z => h1 B σ G H _ q fun x G1 H1 x1 t1 => h2 B σ G1 H1 _ (q.nx x1) fun y G2 H2 x2 t2 =>
    hr G2 H2 x y _ x2.s (dp_ex x2.g t1) t2 ⟨k, rfl, by
      cases k with
      | true => exact iteT (h3 rfl B σ G2 H2 _ ((q.nx x1).nx x2) fun v G3 H3 x3 t3 => hr' rfl G3 H3 y v _ x3.s (dp_ex x3.g t2) t3 ⟨_, rfl, z G3 H3 ((x1.trans x2).trans x3)⟩)
      | false => exact iteF ⟨_, rfl, z G2 H2 (x1.trans x2)⟩⟩
theorem et_le_le {i j k : Int} (h1 : EF C rho a (.int i)) (h2 : EF C rho b (.int j)) (h3 : EF C rho c (.int k)) (hm : lastMarks [.LtE, .LtE] [b, c] = false := by rfl) : ET C rho (.Compare a [.LtE, .LtE] [b, c] pos) (decide (i ≤ j) && decide (j ≤ k)) :=
  et_chain h1 h2 (fun _ => h3) (fun _ => op_le) (fun _ => op_le) (fun G H x y Q e t1 t2 q => ⟨i, j, dp_int t1, dp_int t2, q⟩) (fun _ G H x y Q e t1 t2 q => ⟨j, k, dp_int t1, dp_int t2, q⟩) hm
theorem ef_gintE {x : Str} {n : Int} (hg : ∀ i, Gl (C.X i) x) (hm : ∃ t, mg x = some (.int n t)) (hd : (x == ("__debug__" : Str)) = false := by decide) : EF C rho (.Name x pos) (.int n) := by
  obtain ⟨t, hm⟩ := hm
  exact ef_gint hg hm hd
theorem ef_gstrE {x : Str} {n : Str} (hg : ∀ i, Gl (C.X i) x) (hm : ∃ t, mg x = some (.str n t)) (hd : (x == ("__debug__" : Str)) = false := by decide) : EF C rho (.Name x pos) (.str n) := by
  obtain ⟨t, hm⟩ := hm
  exact ef_gstr hg hm hd
end
/-- the modules' constants -/
structure Gc (mg : Str → Option Value) : Prop where
  LETTERS : ∃ t, mg "LETTERS" = some (.str "abcdefghijklmnopqrstuvwxyz" t)
  LONGEST : ∃ t, mg "LONGEST" = some (.int 8 t)
  WITHIN : ∃ t, mg "WITHIN" = some (.str "" t)
  STEP : ∃ t, mg "STEP" = some (.int 3 t)
  PARTS : ∃ t, mg "PARTS" = some (.int 4 t)
end DL

set_option maxRecDepth 100000
set_option maxHeartbeats 4000000
namespace Fs
open PySem L2 DL NS
def top (i : Nat) : Stmt := PySem.Challenge.pw_fitssomewhere_k23_whole_what_is_joined.main.body.getD i (.Pass ⟨0, 0, 0, 0⟩)
local macro_rules | `(tactic| walk_at "vis") => `(tactic| (intro _; first | exact Or.inl rfl | exact Or.inr (Or.inl rfl) | exact Or.inr (Or.inr rfl)))
local macro_rules | `(tactic| walk_at "loc") => `(tactic| (intro _; first | exact Or.inl rfl | exact Or.inr rfl))
local macro_rules | `(tactic| walk_at "fnl") => `(tactic| (intro _; first | exact Or.inr rfl | exact Or.inl rfl))
local macro_rules | `(tactic| walk_at "len") => `(tactic| (simp only [List.length_append, List.length_map, List.length_nil, List.length_cons]; omega))
local macro_rules | `(tactic| walk_at "blk") => `(tactic| (intro _; kernel_rfl))
section
variable {P : Program} {w : World} {K : PySem.W.Frag} {mg : Str → Option Value} {base : Heap} {f : Addr} {fd : FuncData}

abbrev s_is_number : Stmt := top 6
theorem sc_is_number : FnScope ["value"] ["value"] (defScope s_is_number) := ⟨rfl, rfl, rfl, by decide +kernel, rfl, by decide +kernel, by decide +kernel⟩
theorem ok_is_number (F : Fun K "is_number" "is_number" s_is_number f fd) (T : Blt mg) : FnOk P w K mg base CX0 1 f fd ["value"] (spD K fun ds r => ∃ d, ds = [d] ∧ r = .bool (isIntD d && !isBoolD d)) :=
  fn_ok F sc_is_number (fun ds d h => by obtain ⟨d, rfl, _⟩ := h; rfl) fun cdv A outer s H E hr ds d hp => by
    obtain ⟨v, rfl, rfl⟩ := hp
    exact ds_ret (ef_and (ef_isi T (ef_var 0 rfl rfl (by walk_at "vis")) T.int PyProof.Rows.boot_int (kit_int _)) (fun _ => (ef_one (ef_not (ef_isi T (ef_var 0 rfl rfl (by walk_at "vis")) T.bool PyProof.Rows.boot_bool (kit_bool _)))))) rfl

abbrev s_leads : Stmt := top 21
theorem sc_leads : FnScope ["part", "standing", "call", "before", "own", "after"] ["part", "standing", "call"] (defScope s_leads) := ⟨rfl, rfl, rfl, by decide +kernel, rfl, by decide +kernel, by decide +kernel⟩
def preLeads (ds : List PyData) (r : PyData) : Prop := ∃ (p : Part) (k : Int) (t : Str), p.Small ∧ ds = [ePart p, .int k, .str t] ∧ r = .list ((lead p k t).map .int)
theorem ok_leads (F : Fun K "leads" "leads" s_leads f fd) : FnOk P w K mg base CX0 1 f fd ["part", "standing", "call"] (spD K preLeads) :=
  fn_ok F sc_leads (fun ds d h => by obtain ⟨p, k, t, _, rfl, _⟩ := h; rfl) fun cdv A outer s H E hr ds d hp => by
    obtain ⟨p, k, t, hs, rfl, rfl⟩ := hp
    refine ds_ret (EN.f (EN.is (en_lc (own := [("before", 3), ("own", 4), ("after", 5)]) (p.steps) (eStp) (fun s => decide (s.1 = k) && decide (s.2.1 = t)) (fun s => .int s.2.2) (EI.h (ei_tup (ef_ixTN 3 (EF.t (ef_var 0 rfl rfl (by walk_at "vis"))) ef_int rfl))) (by walk_at "blk") (fun x hx => ⟨_, (eg_tup (egs_cons (eg_name 3 rfl (by decide) (by walk_at "loc") (by walk_at "fnl")) (egs_cons (eg_name 4 rfl (by decide) (by walk_at "loc") (by walk_at "fnl")) (egs_cons (eg_name 5 rfl (by decide) (by walk_at "loc") (by walk_at "fnl")) egs_nil)))), (ets_one (EW.t (ew_and (et_cmp (ec_eq (ef_var 3 rfl rfl (by walk_at "vis")) (ef_var 1 rfl rfl (by walk_at "vis")))) (fun _ => (ew_and1 (et_cmp (ec_eqS (ef_var 4 rfl rfl (by walk_at "vis")) (ef_var 2 rfl rfl (by walk_at "vis"))))))))), fun hpr => (ef_var 5 rfl rfl (by walk_at "vis"))⟩) ?_) ?_)) rfl
    · have := hs.s; omega
    · unfold lead; rw [List.map_map]; rfl

abbrev s_common_calls : Stmt := top 20
theorem sc_common_calls : FnScope ["one", "other", "known", "call"] ["one", "other"] (defScope s_common_calls) := ⟨rfl, rfl, rfl, by decide +kernel, rfl, by decide +kernel, by decide +kernel⟩
def preCommon (ds : List PyData) (r : PyData) : Prop := ∃ (p q : Part), p.Small ∧ q.Small ∧ ds = [ePart p, ePart q] ∧ r = eNs (known p q)
theorem ok_common_calls (F : Fun K "common_calls" "common_calls" s_common_calls f fd) (T : Blt mg) : FnOk P w K mg base CX0 1 f fd ["one", "other"] (spD K preCommon) :=
  fn_ok F sc_common_calls (fun ds d h => by obtain ⟨p, q, _, _, rfl, _⟩ := h; rfl) fun cdv A outer s H E hr ds d hp => by
    obtain ⟨p, q, hs, ht, rfl, rfl⟩ := hp
    have h1 := ht.t; have h2 := ht.m; have h3 := hs.t; have h4 := hs.m
    refine ds_setN 2 ((q.takes ++ q.makes).map .str) ?_ ?_ rfl (by walk_at "loc")
    · refine ⟨_, (en_lst (ea_star (EF.t (ef_ixTN 0 (EF.t (ef_var 1 rfl rfl (by walk_at "vis"))) ef_int rfl)) (ea_star (EF.t (ef_ixTN 1 (EF.t (ef_var 1 rfl rfl (by walk_at "vis"))) ef_int rfl)) ea_nil)) ?_), ?_⟩
      · simp only [List.length_append, List.length_map, List.length_nil]; omega
      · simp
    refine ds_ret (ef_tupleL T (EN.l (en_sorted T (EN.l (en_lc (own := [("call", 3)]) (p.takes ++ p.makes) (.str) (fun c => decide (c ∈ q.takes ++ q.makes)) (.str) (EI.h (EI.is (ei_list (EN.f (en_lst (ea_star (EF.t (ef_ixTN 0 (EF.t (ef_var 0 rfl rfl (by walk_at "vis"))) ef_int rfl)) (ea_star (EF.t (ef_ixTN 1 (EF.t (ef_var 0 rfl rfl (by walk_at "vis"))) ef_int rfl)) ea_nil)) ?_))) ?_)) (by walk_at "blk") (fun x hx => ⟨_, (eg_name 3 rfl (by decide) (by walk_at "loc") (by walk_at "fnl")), (ets_one (et_cmp (ec_inS (ef_var 3 rfl rfl (by walk_at "vis")) (el_own 2 rfl rfl (by walk_at "vis"))))), fun hpr => (ef_var 3 rfl rfl (by walk_at "vis"))⟩) ?_)) ?_))) ?_
    · walk_at "len"
    · simp
    · walk_at "len"
    · exact srt_strs _
    · show PyData.tuple _ = eNs _
      rw [sortD_map]; rfl
theorem known_len {p q : Part} (hs : p.Small) : (known p q).length ≤ 10 := by
  unfold known
  rw [sortE_len]
  have h1 := hs.t; have h2 := hs.m
  have := List.length_filter_le (fun c => decide (c ∈ q.takes ++ q.makes)) (p.takes ++ p.makes)
  rw [List.length_append] at this
  omega
theorem lead_len {p : Part} (hs : p.Small) (k : Int) (c : Str) : (lead p k c).length ≤ 12 := by
  unfold lead
  rw [List.length_map]
  have h1 := hs.s
  have := List.length_filter_le (fun s : Stp => decide (s.1 = k) && decide (s.2.1 = c)) p.steps
  omega
abbrev s_clash_calls : Stmt := top 22
theorem sc_clash_calls : FnScope ["one", "other", "pair", "found", "call", "mine", "its", "made", "heard"] ["one", "other", "pair"] (defScope s_clash_calls) := ⟨rfl, rfl, rfl, by decide +kernel, rfl, by decide +kernel, by decide +kernel⟩
def preClash (ds : List PyData) (r : PyData) : Prop := ∃ (p q : Part) (z : Pr), p.Small ∧ q.Small ∧ ds = [ePart p, ePart q, ePr z] ∧ r = .list ((clash p q z).map .str)
theorem ok_clash_calls (F : Fun K "clash_calls" "clash_calls" s_clash_calls f fd) (T : Blt mg) (h_common_calls : Fn P w K mg base "common_calls" 1 ["one", "other"] (spD K preCommon)) (h_leads : Fn P w K mg base "leads" 1 ["part", "standing", "call"] (spD K preLeads)) :
    FnOk P w K mg base CX0 2 f fd ["one", "other", "pair"] (spD K preClash) :=
  fn_ok F sc_clash_calls (fun ds d h => by obtain ⟨p, q, z, _, _, rfl, _⟩ := h; rfl) fun cdv A outer s H E hr ds d hp => by
    obtain ⟨p, q, z, hs, ht, rfl, rfl⟩ := hp
    refine ds_setN 3 [] ?_ ?_ rfl (by walk_at "loc")
    · exact ⟨_, (en_lst ea_nil), rfl⟩
    refine ds_for (known p q) .str ?_ (fun i r => ∃ s4 s5 s6 s7 s8, r = [.dat (ePart p), .dat (ePart q), .dat (ePr z), .own ((((known p q).take i).filter (clashB p q z)).map .str), s4, s5, s6, s7, s8]) ⟨_, _, _, _, _, rfl⟩ ?_ ?_ ?_
    · refine (ei_tup (ef_call h_common_calls (ea_cons (ef_var 0 rfl rfl (by walk_at "vis")) (ea_cons (ef_var 1 rfl rfl (by walk_at "vis")) ea_nil)) ?_ (Nat.le_of_ble_eq_true rfl) (by intro _; rfl)))
      exact ⟨p, q, hs, ht, rfl, rfl⟩
    · rintro i x r hx ⟨s4, s5, s6, s7, s8, rfl⟩
      refine ⟨_, [4], (eg_name 4 rfl (by decide) (by walk_at "loc") (by walk_at "fnl")), ?_⟩
      refine ds_parV 5 6 (.dat (.list ((lead p z.1 x).map .int))) (.dat (.list ((lead q z.2 x).map .int))) ?_ ?_ ?_ rfl rfl (by decide) (by intro _; rfl) (by intro _; rfl) (by intro _; rfl)
      · refine EF.v (ef_call h_leads (ea_cons (ef_var 0 rfl rfl (by walk_at "vis")) (ea_cons (ef_ixTN 0 (EF.t (ef_var 2 rfl rfl (by walk_at "vis"))) ef_int rfl) (ea_cons (ef_var 4 rfl rfl (by walk_at "vis")) ea_nil))) ?_ (Nat.le_of_ble_eq_true rfl) (by intro _; rfl))
        exact ⟨p, _, _, hs, rfl, rfl⟩
      · refine EF.v (ef_call h_leads (ea_cons (ef_var 1 rfl rfl (by walk_at "vis")) (ea_cons (ef_ixTN 1 (EF.t (ef_var 2 rfl rfl (by walk_at "vis"))) ef_int rfl) (ea_cons (ef_var 4 rfl rfl (by walk_at "vis")) ea_nil))) ?_ (Nat.le_of_ble_eq_true rfl) (by intro _; rfl))
        exact ⟨q, _, _, ht, rfl, rfl⟩
      by_cases hm : x ∈ p.makes
      · refine ds_asgV (.tuple [.list ((lead p z.1 x).map .int), .list ((lead q z.2 x).map .int)]) [7, 8] ?_ (eg_tup (egs_cons (eg_name 7 rfl (by decide) (by walk_at "loc") (by walk_at "fnl")) (egs_cons (eg_name 8 rfl (by decide) (by walk_at "loc") (by walk_at "fnl")) egs_nil))) ?_
        · exact (ef_if (et_cmp (ec_inS (ef_var 4 rfl rfl (by walk_at "vis")) (EF.t (ef_ixTN 1 (EF.t (ef_var 0 rfl rfl (by walk_at "vis"))) ef_int rfl)))) (fun _ => (ef_tup (ea_cons (ef_var 5 rfl rfl (by walk_at "vis")) (ea_cons (ef_var 6 rfl rfl (by walk_at "vis")) ea_nil)))) (fun hk => absurd hm (of_decide_eq_false hk)))
        · refine ds_ifV (clashB p q z x) (fun r => ∃ s4 s5 s6 s7 s8, r = [.dat (ePart p), .dat (ePart q), .dat (ePr z), .own ((((known p q).take (i + 1)).filter (clashB p q z)).map .str), s4, s5, s6, s7, s8]) ?_ ?_ ?_ ?_
          · refine ⟨_, (EW.t (ew_and (et_cmp (ec_gt (ef_len T (EF.l (ef_var 7 rfl rfl (by walk_at "vis")))) ef_int)) (fun _ => (ew_and1 (et_cmp (ec_eq (ef_len T (EF.l (ef_var 8 rfl rfl (by walk_at "vis")))) ef_int)))))), ?_⟩
            unfold clashB
            rw [if_pos hm]
            simp
          · intro hb
            have e1 : (((known p q).take (i + 1)).filter (clashB p q z)).map PyData.str = (((known p q).take i).filter (clashB p q z)).map PyData.str ++ [.str x] := by
              rw [take_succ_get hx, List.filter_append, List.filter_cons_of_pos hb, List.filter_nil, List.map_append]; rfl
            rw [e1]
            refine ds_append 3 rfl (ef_var 4 rfl rfl (by walk_at "vis")) ?_ (ds_nil ⟨_, _, _, _, _, rfl⟩) rfl (by walk_at "vis")
            · have h1 := List.length_filter_le (clashB p q z) ((known p q).take i)
              have h2 := known_len (q := q) hs
              rw [List.length_take] at h1
              rw [List.length_map]; omega
          · intro hb
            have e1 : ((known p q).take (i + 1)).filter (clashB p q z) = ((known p q).take i).filter (clashB p q z) := by
              rw [take_succ_get hx, List.filter_append, List.filter_cons_of_neg (by rw [hb]; decide), List.filter_nil, List.append_nil]
            rw [e1]
            exact ds_nil ⟨_, _, _, _, _, rfl⟩
          · rintro r ⟨s4, s5, s6, s7, s8, rfl⟩
            exact ds_nil ⟨_, _, _, _, _, rfl⟩
      · refine ds_asgV (.tuple [.list ((lead q z.2 x).map .int), .list ((lead p z.1 x).map .int)]) [7, 8] ?_ (eg_tup (egs_cons (eg_name 7 rfl (by decide) (by walk_at "loc") (by walk_at "fnl")) (egs_cons (eg_name 8 rfl (by decide) (by walk_at "loc") (by walk_at "fnl")) egs_nil))) ?_
        · exact (ef_if (et_cmp (ec_inS (ef_var 4 rfl rfl (by walk_at "vis")) (EF.t (ef_ixTN 1 (EF.t (ef_var 0 rfl rfl (by walk_at "vis"))) ef_int rfl)))) (fun hk => absurd (of_decide_eq_true hk) hm) (fun _ => (ef_tup (ea_cons (ef_var 6 rfl rfl (by walk_at "vis")) (ea_cons (ef_var 5 rfl rfl (by walk_at "vis")) ea_nil)))))
        · refine ds_ifV (clashB p q z x) (fun r => ∃ s4 s5 s6 s7 s8, r = [.dat (ePart p), .dat (ePart q), .dat (ePr z), .own ((((known p q).take (i + 1)).filter (clashB p q z)).map .str), s4, s5, s6, s7, s8]) ?_ ?_ ?_ ?_
          · refine ⟨_, (EW.t (ew_and (et_cmp (ec_gt (ef_len T (EF.l (ef_var 7 rfl rfl (by walk_at "vis")))) ef_int)) (fun _ => (ew_and1 (et_cmp (ec_eq (ef_len T (EF.l (ef_var 8 rfl rfl (by walk_at "vis")))) ef_int)))))), ?_⟩
            unfold clashB
            rw [if_neg hm]
            simp
          · intro hb
            have e1 : (((known p q).take (i + 1)).filter (clashB p q z)).map PyData.str = (((known p q).take i).filter (clashB p q z)).map PyData.str ++ [.str x] := by
              rw [take_succ_get hx, List.filter_append, List.filter_cons_of_pos hb, List.filter_nil, List.map_append]; rfl
            rw [e1]
            refine ds_append 3 rfl (ef_var 4 rfl rfl (by walk_at "vis")) ?_ (ds_nil ⟨_, _, _, _, _, rfl⟩) rfl (by walk_at "vis")
            · have h1 := List.length_filter_le (clashB p q z) ((known p q).take i)
              have h2 := known_len (q := q) hs
              rw [List.length_take] at h1
              rw [List.length_map]; omega
          · intro hb
            have e1 : ((known p q).take (i + 1)).filter (clashB p q z) = ((known p q).take i).filter (clashB p q z) := by
              rw [take_succ_get hx, List.filter_append, List.filter_cons_of_neg (by rw [hb]; decide), List.filter_nil, List.append_nil]
            rw [e1]
            exact ds_nil ⟨_, _, _, _, _, rfl⟩
          · rintro r ⟨s4, s5, s6, s7, s8, rfl⟩
            exact ds_nil ⟨_, _, _, _, _, rfl⟩
    · rintro r ⟨s4, s5, s6, s7, s8, rfl⟩
      rw [List.take_length]
      exact ds_retO 3 rfl rfl rfl (by walk_at "vis")
    · exact fun _ => PassesOwn.never
end
end Fs

set_option maxRecDepth 100000
set_option maxHeartbeats 4000000
namespace Fs
open PySem L2 DL NS
local macro_rules | `(tactic| walk_at "vis") => `(tactic| (intro _; first | exact Or.inl rfl | exact Or.inr (Or.inl rfl) | exact Or.inr (Or.inr rfl)))
local macro_rules | `(tactic| walk_at "loc") => `(tactic| (intro _; first | exact Or.inl rfl | exact Or.inr rfl))
local macro_rules | `(tactic| walk_at "fnl") => `(tactic| (intro _; first | exact Or.inr rfl | exact Or.inl rfl))
local macro_rules | `(tactic| walk_at "len") => `(tactic| (simp only [List.length_append, List.length_map, List.length_nil, List.length_cons]; omega))
local macro_rules | `(tactic| walk_at "blk") => `(tactic| (intro _; kernel_rfl))
section
variable {P : Program} {w : World} {K : PySem.W.Frag} {mg : Str → Option Value} {base : Heap} {f : Addr} {fd : FuncData}


theorem srt_prs (l : List Pr) : Srt (l.map ePr) := ⟨.of fun a b => by simp [ePr, PySem.W.alike, PySem.W.alikeAll], .tuples fun b => ⟨_, _, rfl⟩, fun d hd => by
  obtain ⟨q, _, rfl⟩ := List.mem_map.mp hd
  simp [ePr, PyData.depth, PyData.depthAll]⟩
theorem srt_outs (l : List Out) : Srt (l.map eOut) := ⟨.of fun a b => by simp [eOut, ePr, PySem.W.alike, PySem.W.alikeAll], .tuples fun b => ⟨_, _, rfl⟩, fun d hd => by
  obtain ⟨q, _, rfl⟩ := List.mem_map.mp hd
  simp [eOut, ePr, PyData.depth, PyData.depthAll]⟩
theorem srt_stps (l : List Stp) : Srt (l.map eStp) := ⟨.of fun a b => by simp [eStp, PySem.W.alike, PySem.W.alikeAll], .tuples fun b => ⟨_, _, rfl⟩, fun d hd => by
  obtain ⟨q, _, rfl⟩ := List.mem_map.mp hd
  simp [eStp, PyData.depth, PyData.depthAll]⟩
theorem kd_pr (q : Pr) : isTupD (ePr q) = true ∧ Kd 8 (ePr q) := ⟨rfl, .tuple fun d hd => by
  simp only [List.mem_cons, List.not_mem_nil, or_false] at hd
  rcases hd with rfl | rfl <;> exact .int _⟩
theorem kd_out (q : Out) : isTupD (eOut q) = true ∧ Kd 8 (eOut q) := ⟨rfl, .tuple fun d hd => by
  simp only [List.mem_cons, List.not_mem_nil, or_false] at hd
  rcases hd with rfl | rfl
  · exact .str _
  · exact .tuple fun d hd => by
      simp only [List.mem_cons, List.not_mem_nil, or_false] at hd
      rcases hd with rfl | rfl <;> exact .int _⟩
theorem kd_stp (q : Stp) : isTupD (eStp q) = true ∧ Kd 8 (eStp q) := ⟨rfl, .tuple fun d hd => by
  simp only [List.mem_cons, List.not_mem_nil, or_false] at hd
  rcases hd with rfl | rfl | rfl
  · exact .int _
  · exact .str _
  · exact .int _⟩
theorem key_pr (x y : Pr) (h : keyD (ePr x) = keyD (ePr y)) : x = y := by
  simp only [ePr, keyD, keysD, NestedKey.tup.injEq, List.cons.injEq, NestedKey.num.injEq, and_true] at h
  exact Prod.ext h.1 h.2
theorem key_out (x y : Out) (h : keyD (eOut x) = keyD (eOut y)) : x = y := by
  simp only [eOut, ePr, keyD, keysD, NestedKey.tup.injEq, List.cons.injEq, NestedKey.num.injEq, NestedKey.text.injEq, and_true] at h
  exact Prod.ext h.1 (Prod.ext h.2.1 h.2.2)
theorem raw_len {p q : Part} (hs : p.Small) (ht : q.Small) (r : Pr) : (raw1 p q r).length ≤ 12 ∧ (raw2 p q r).length ≤ 12 ∧ (raw3 p q r).length ≤ 1440 := by
  have h1 := hs.s; have h2 := ht.s
  refine ⟨?_, ?_, ?_⟩
  · unfold raw1
    rw [List.length_map]
    have := List.length_filter_le (fun s : Stp => decide (s.1 = r.1) && !decide (s.2.1 ∈ known p q)) p.steps
    omega
  · unfold raw2
    rw [List.length_map]
    have := List.length_filter_le (fun s : Stp => decide (s.1 = r.2) && !decide (s.2.1 ∈ known p q)) q.steps
    omega
  · unfold raw3
    have key : ∀ l : List Str, (l.flatMap fun c => (lead p r.1 c).flatMap fun m => (lead q r.2 c).map fun i => (("" : Str), ((m, i) : Pr))).length ≤ l.length * 144 := by
      intro l
      induction l with
      | nil => simp
      | cons c l ih =>
        rw [List.flatMap_cons, List.length_append, List.length_cons]
        have h3 := lead_len hs r.1 c
        have h4 := lead_len ht r.2 c
        have k2 : ∀ ms : List Int, (ms.flatMap fun m => (lead q r.2 c).map fun i => (("" : Str), ((m, i) : Pr))).length ≤ ms.length * 12 := by
          intro ms
          induction ms with
          | nil => simp
          | cons m ms ih2 =>
            rw [List.flatMap_cons, List.length_append, List.length_map, List.length_cons]
            omega
        have := k2 (lead p r.1 c)
        omega
    have := key (known p q)
    have h5 := known_len (q := q) hs
    omega
abbrev s_steps_out : Stmt := top 23
theorem sc_steps_out : FnScope ["one", "other", "pair", "call", "known", "found", "before", "after", "mine", "own", "its"] ["one", "other", "pair"] (defScope s_steps_out) := ⟨rfl, rfl, rfl, by decide +kernel, rfl, by decide +kernel, by decide +kernel⟩
def preOut (ds : List PyData) (r : PyData) : Prop := ∃ (p q : Part) (z : Pr), p.Small ∧ q.Small ∧ ds = [ePart p, ePart q, ePr z] ∧ r = .list ((stepsOut p q z).map eOut)
theorem ok_steps_out (F : Fun K "steps_out" "steps_out" s_steps_out f fd) (T : Blt mg) (h_common_calls : Fn P w K mg base "common_calls" 1 ["one", "other"] (spD K preCommon)) (h_leads : Fn P w K mg base "leads" 1 ["part", "standing", "call"] (spD K preLeads)) :
    FnOk P w K mg base CX0 2 f fd ["one", "other", "pair"] (spD K preOut) :=
  fn_ok F sc_steps_out (fun ds d h => by obtain ⟨p, q, z, _, _, rfl, _⟩ := h; rfl) fun cdv A outer s H E hr ds d hp => by
    obtain ⟨p, q, z, hs, ht, rfl, rfl⟩ := hp
    obtain ⟨l1, l2, l3⟩ := raw_len hs ht z
    have hs1 := hs.s; have ht1 := ht.s
    refine ds_parV 4 5 (.dat (eNs (known p q))) (.own []) ?_ ?_ ?_ rfl rfl (by decide) (by intro _; rfl) (by intro _; rfl) (by intro _; rfl)
    · refine EF.v (ef_call h_common_calls (ea_cons (ef_var 0 rfl rfl (by walk_at "vis")) (ea_cons (ef_var 1 rfl rfl (by walk_at "vis")) ea_nil)) ?_ (Nat.le_of_ble_eq_true rfl) (by intro _; rfl))
      exact ⟨p, q, hs, ht, rfl, rfl⟩
    · exact EN.v (en_lst ea_nil)
    refine ds_forIfApp 5 [6, 3, 7] p.steps eStp (fun s => decide (s.1 = z.1) && !decide (s.2.1 ∈ known p q)) (fun s => eOut (s.2.1, (s.2.2, z.2))) ?_ rfl (fun x hx ds => ⟨_, [6, 3, 7], (eg_tup (egs_cons (eg_name 6 rfl (by decide) (by walk_at "loc") (by walk_at "fnl")) (egs_cons (eg_name 3 rfl (by decide) (by walk_at "loc") (by walk_at "fnl")) (egs_cons (eg_name 7 rfl (by decide) (by walk_at "loc") (by walk_at "fnl")) egs_nil)))), rfl, rfl, ?_, fun _ => ?_⟩) ?_ ?_ rfl (by walk_at "vis")
    · exact (ei_tup (ef_ixTN 3 (EF.t (ef_var 0 rfl rfl (by walk_at "vis"))) ef_int rfl))
    · exact ⟨_, (EW.t (ew_and (et_cmp (ec_eq (ef_var 6 rfl rfl (by walk_at "vis")) (ef_ixTN 0 (EF.t (ef_var 2 rfl rfl (by walk_at "vis"))) ef_int rfl))) (fun _ => (ew_and1 (et_cmp (ec_notInS (ef_var 3 rfl rfl (by walk_at "vis")) (EF.t (ef_var 4 rfl rfl (by walk_at "vis"))))))))), rfl⟩
    · exact (ef_tup (ea_cons (ef_var 3 rfl rfl (by walk_at "vis")) (ea_cons (ef_tup (ea_cons (ef_var 7 rfl rfl (by walk_at "vis")) (ea_cons (ef_ixTN 1 (EF.t (ef_var 2 rfl rfl (by walk_at "vis"))) ef_int rfl) ea_nil))) ea_nil)))
    · walk_at "len"
    refine ds_forIfApp 5 [6, 3, 7] q.steps eStp (fun s => decide (s.1 = z.2) && !decide (s.2.1 ∈ known p q)) (fun s => eOut (s.2.1, (z.1, s.2.2))) ?_ rfl (fun x hx ds => ⟨_, [6, 3, 7], (eg_tup (egs_cons (eg_name 6 rfl (by decide) (by walk_at "loc") (by walk_at "fnl")) (egs_cons (eg_name 3 rfl (by decide) (by walk_at "loc") (by walk_at "fnl")) (egs_cons (eg_name 7 rfl (by decide) (by walk_at "loc") (by walk_at "fnl")) egs_nil)))), rfl, rfl, ?_, fun _ => ?_⟩) ?_ ?_ rfl (by walk_at "vis")
    · exact (ei_tup (ef_ixTN 3 (EF.t (ef_var 1 rfl rfl (by walk_at "vis"))) ef_int rfl))
    · exact ⟨_, (EW.t (ew_and (et_cmp (ec_eq (ef_var 6 rfl rfl (by walk_at "vis")) (ef_ixTN 1 (EF.t (ef_var 2 rfl rfl (by walk_at "vis"))) ef_int rfl))) (fun _ => (ew_and1 (et_cmp (ec_notInS (ef_var 3 rfl rfl (by walk_at "vis")) (EF.t (ef_var 4 rfl rfl (by walk_at "vis"))))))))), rfl⟩
    · exact (ef_tup (ea_cons (ef_var 3 rfl rfl (by walk_at "vis")) (ea_cons (ef_tup (ea_cons (ef_ixTN 0 (EF.t (ef_var 2 rfl rfl (by walk_at "vis"))) ef_int rfl) (ea_cons (ef_var 7 rfl rfl (by walk_at "vis")) ea_nil))) ea_nil)))
    · simp only [List.length_append, List.length_map, List.length_nil]
      have := List.length_filter_le (fun s : Stp => decide (s.1 = z.1) && !decide (s.2.1 ∈ known p q)) p.steps
      omega
    refine ds_forApp 5 [3, 8, 10] (known p q) .str (fun c => (lead p z.1 c).flatMap fun m => (lead q z.2 c).map fun i => eOut ("", (m, i))) ?_ rfl ?_ ?_
    · exact (ei_tup (ef_var 4 rfl rfl (by walk_at "vis")))
    · intro i c hc ds hds
      refine ⟨_, [3], (eg_name 3 rfl (by decide) (by walk_at "loc") (by walk_at "fnl")), ?_⟩
      have hds3 : ds.length ≤ 2000 := by
        have h4 := take_flat_le (fun c => (lead p z.1 c).flatMap fun m => (lead q z.2 c).map fun i => eOut ("", (m, i))) (known p q) i
        have h5 : ((known p q).flatMap (fun c => (lead p z.1 c).flatMap fun m => (lead q z.2 c).map fun i => eOut ("", (m, i)))).length = (raw3 p q z).length := by
          unfold raw3
          simp only [List.length_flatMap, List.length_map]
        have l1' := l1; have l2' := l2
        unfold raw1 at l1'; unfold raw2 at l2'
        rw [List.length_map] at l1' l2'
        rw [hds]
        simp only [List.length_append, List.length_map, List.length_nil] at h4 ⊢
        omega
      refine ds_forApp 5 [8, 10] (lead p z.1 c) .int (fun m => (lead q z.2 c).map fun i => eOut ("", (m, i))) ?_ rfl ?_ (ds_nil rfl)
      · refine (ei_list (ef_call h_leads (ea_cons (ef_var 0 rfl rfl (by walk_at "vis")) (ea_cons (ef_ixTN 0 (EF.t (ef_var 2 rfl rfl (by walk_at "vis"))) ef_int rfl) (ea_cons (ef_var 3 rfl rfl (by walk_at "vis")) ea_nil))) ?_ (Nat.le_of_ble_eq_true rfl) (by intro _; rfl)))
        exact ⟨p, _, _, hs, rfl, rfl⟩
      · intro j m hm ds2 hds2
        refine ⟨_, [8], (eg_name 8 rfl (by decide) (by walk_at "loc") (by walk_at "fnl")), ?_⟩
        refine ds_extend 5 rfl ?_ ?_ (ds_nil rfl) rfl (by walk_at "vis")
        · refine (en_lc0 (own := [("its", 10)]) (lead q z.2 c) (.int) (fun i => eOut ("", (m, i))) (EI.h (ei_list (ef_call h_leads (ea_cons (ef_var 1 rfl rfl (by walk_at "vis")) (ea_cons (ef_ixTN 1 (EF.t (ef_var 2 rfl rfl (by walk_at "vis"))) ef_int rfl) (ea_cons (ef_var 3 rfl rfl (by walk_at "vis")) ea_nil))) ?_ (Nat.le_of_ble_eq_true rfl) (by intro _; rfl)))) (by walk_at "blk") (fun x hx => ⟨_, (eg_name 10 rfl (by decide) (by walk_at "loc") (by walk_at "fnl")), (ef_tup (ea_cons ef_str (ea_cons (ef_tup (ea_cons (ef_var 8 rfl rfl (by walk_at "vis")) (ea_cons (ef_var 10 rfl rfl (by walk_at "vis")) ea_nil))) ea_nil)))⟩) ?_)
          · exact ⟨q, _, _, ht, rfl, rfl⟩
          · have := lead_len ht z.2 c; omega
        · have h4 := lead_len ht z.2 c
          have h5 := take_flat_le (fun m => (lead q z.2 c).map fun i => eOut ("", (m, i))) (lead p z.1 c) j
          have h6 := lead_len hs z.1 c
          have h7 : ((lead p z.1 c).flatMap fun m => (lead q z.2 c).map fun i => eOut ("", (m, i))).length ≤ 144 := by
            rw [List.length_flatMap]
            simp only [List.length_map, List.map_const', List.sum_replicate_nat]
            exact Nat.le_trans (Nat.mul_le_mul h6 h4) (by decide)
          rw [hds2, List.length_append, List.length_map]
          omega
    have er : [] ++ (p.steps.filter fun s => decide (s.1 = z.1) && !decide (s.2.1 ∈ known p q)).map (fun s => eOut (s.2.1, (s.2.2, z.2))) ++ (q.steps.filter fun s => decide (s.1 = z.2) && !decide (s.2.1 ∈ known p q)).map (fun s => eOut (s.2.1, (z.1, s.2.2))) ++
        (known p q).flatMap (fun c => (lead p z.1 c).flatMap fun m => (lead q z.2 c).map fun i => eOut ("", (m, i))) = (rawOut p q z).map eOut := by
      unfold rawOut raw1 raw2 raw3
      simp only [List.nil_append, List.map_append, List.map_map, List.map_flatMap]
      rfl
    rw [er]
    have hraw : (rawOut p q z).length ≤ 2000 := by
      unfold rawOut
      rw [List.length_append, List.length_append]
      omega
    have hko : ((rawOut p q z).foldl (fun a x => putD a (eOut x) (.bool true)) []).map (·.1) = (firsts (rawOut p q z)).map eOut := by
      have := keys_fold eOut key_out id (fun _ => .bool true) (rawOut p q z) [] [] rfl
      rw [List.map_id] at this
      exact this
    refine ds_ret (EN.f (en_sortedD T (eo_dc (own := [("own", 9)]) (rawOut p q z) (eOut) (fun _ => true) (eOut) (fun _ => .bool true) (eih_list (el_own 5 rfl rfl (by walk_at "vis"))) (by walk_at "blk") (fun x hx => ⟨_, (eg_name 9 rfl (by decide) (by walk_at "loc") (by walk_at "fnl")), ets_nil, fun hpr => ⟨(ef_var 9 rfl rfl (by walk_at "vis")), ef_bl⟩⟩) ?_ ?_) ?_ ?_)) ?_
    · exact fun x hx _ => kd_out x
    · omega
    · rw [filter_yes, hko]
      exact srt_outs _
    · have := fold_len eOut (fun _ => PyData.bool true) ((rawOut p q z).filter fun _ => true) []
      rw [filter_yes, List.length_nil] at this
      rw [filter_yes]
      omega
    · show PyData.list _ = PyData.list _
      rw [filter_yes, hko, sortD_map]
      rfl
theorem sout_len {p q : Part} (hs : p.Small) (ht : q.Small) (r : Pr) : (stepsOut p q r).length ≤ 2000 := by
  obtain ⟨l1, l2, l3⟩ := raw_len hs ht r
  unfold stepsOut
  rw [sortE_len]
  have := firsts_len_le (rawOut p q r)
  unfold rawOut at this ⊢
  rw [List.length_append, List.length_append] at this
  omega
abbrev s_own_moves : Stmt := top 24
theorem sc_own_moves : FnScope ["one", "other", "pair", "made", "found", "call", "after"] ["one", "other", "pair"] (defScope s_own_moves) := ⟨rfl, rfl, rfl, by decide +kernel, rfl, by decide +kernel, by decide +kernel⟩
def preMoves (ds : List PyData) (r : PyData) : Prop := ∃ (p q : Part) (z : Pr), p.Small ∧ q.Small ∧ ds = [ePart p, ePart q, ePr z] ∧ r = .list ((moves p q z).map ePr)
theorem ok_own_moves (F : Fun K "own_moves" "own_moves" s_own_moves f fd) (T : Blt mg) (h_steps_out : Fn P w K mg base "steps_out" 2 ["one", "other", "pair"] (spD K preOut)) :
    FnOk P w K mg base CX0 3 f fd ["one", "other", "pair"] (spD K preMoves) :=
  fn_ok F sc_own_moves (fun ds d h => by obtain ⟨p, q, z, _, _, rfl, _⟩ := h; rfl) fun cdv A outer s H E hr ds d hp => by
    obtain ⟨p, q, z, hs, ht, rfl, rfl⟩ := hp
    have hs1 := hs.m; have ht1 := ht.m
    have hsl := sout_len hs ht z
    refine ds_setF 3 (eNs (madeOf p q)) ?_ ?_ rfl (by walk_at "loc")
    · refine ⟨_, (ef_tup (ea_cons ef_str (ea_star (EF.t (ef_ixTN 1 (EF.t (ef_var 0 rfl rfl (by walk_at "vis"))) ef_int rfl)) (ea_star (EF.t (ef_ixTN 1 (EF.t (ef_var 1 rfl rfl (by walk_at "vis"))) ef_int rfl)) ea_nil))) ?_), ?_⟩
      · walk_at "len"
      · show PyData.tuple _ = PyData.tuple _
        simp [madeOf]
    refine (ds_setDc (own := [("call", 5), ("after", 6)]) 4 (stepsOut p q z) (eOut) (fun o => decide (o.1 ∈ madeOf p q)) (fun o => ePr o.2) (fun _ => .bool true) (EI.h (ei_list (ef_call h_steps_out (ea_cons (ef_var 0 rfl rfl (by walk_at "vis")) (ea_cons (ef_var 1 rfl rfl (by walk_at "vis")) (ea_cons (ef_var 2 rfl rfl (by walk_at "vis")) ea_nil))) ?_ (Nat.le_of_ble_eq_true rfl) (by intro _; rfl)))) (by walk_at "blk") (fun x hx => ⟨_, (eg_tup (egs_cons (eg_name 5 rfl (by decide) (by walk_at "loc") (by walk_at "fnl")) (egs_cons (eg_name 6 rfl (by decide) (by walk_at "loc") (by walk_at "fnl")) egs_nil))), (ets_one (et_cmp (ec_inS (ef_var 5 rfl rfl (by walk_at "vis")) (EF.t (ef_var 3 rfl rfl (by walk_at "vis")))))), fun hpr => ⟨(ef_var 6 rfl rfl (by walk_at "vis")), ef_bl⟩⟩) ?_ ?_ ?_ rfl (by intro _; rfl))
    · exact ⟨p, q, z, hs, ht, rfl, rfl⟩
    · exact fun x hx _ => kd_pr x.2
    · omega
    have hk := keys_fold ePr key_pr Prod.snd (fun _ => .bool true) ((stepsOut p q z).filter fun o => decide (o.1 ∈ madeOf p q)) [] [] rfl
    refine ds_ret (EN.f (en_sortedD T (eo_var 4 rfl rfl (by walk_at "vis")) ?_ ?_)) ?_
    · rw [hk]; exact srt_prs _
    · have h1 := fold_len (fun x : Out => ePr x.2) (fun _ => PyData.bool true) ((stepsOut p q z).filter fun o => decide (o.1 ∈ madeOf p q)) []
      have h2 := List.length_filter_le (fun o : Out => decide (o.1 ∈ madeOf p q)) (stepsOut p q z)
      rw [List.length_nil] at h1
      omega
    · show PyData.list _ = PyData.list _
      rw [hk, sortD_map]; rfl
end
end Fs

set_option maxRecDepth 100000
set_option maxHeartbeats 4000000
namespace Fs
open PySem L2 DL NS
local macro_rules | `(tactic| walk_at "vis") => `(tactic| (intro _; first | exact Or.inl rfl | exact Or.inr (Or.inl rfl) | exact Or.inr (Or.inr rfl)))
local macro_rules | `(tactic| walk_at "loc") => `(tactic| (intro _; first | exact Or.inl rfl | exact Or.inr rfl))
local macro_rules | `(tactic| walk_at "fnl") => `(tactic| (intro _; first | exact Or.inr rfl | exact Or.inl rfl))
local macro_rules | `(tactic| walk_at "len") => `(tactic| (simp only [List.length_append, List.length_map, List.length_nil, List.length_cons]; omega))
local macro_rules | `(tactic| walk_at "blk") => `(tactic| (intro _; kernel_rfl))
section
variable {P : Program} {w : World} {K : PySem.W.Frag} {mg : Str → Option Value} {base : Heap} {f : Addr} {fd : FuncData}

abbrev s_all_pairs : Stmt := top 25
theorem sc_all_pairs : FnScope ["one", "other", "near", "far"] ["one", "other"] (defScope s_all_pairs) := ⟨rfl, rfl, rfl, by decide +kernel, rfl, by decide +kernel, by decide +kernel⟩
def preEvery (ds : List PyData) (r : PyData) : Prop := ∃ (p q : Part), p.Small ∧ q.Small ∧ ds = [ePart p, ePart q] ∧ r = .list ((every p q).map ePr)
theorem rng_len (n : Int) : (rng n).length = n.toNat := by unfold rng; rw [List.length_map, List.length_range]
theorem ok_all_pairs (F : Fun K "all_pairs" "all_pairs" s_all_pairs f fd) (T : Blt mg) : FnOk P w K mg base CX0 1 f fd ["one", "other"] (spD K preEvery) :=
  fn_ok F sc_all_pairs (fun ds d h => by obtain ⟨p, q, _, _, rfl, _⟩ := h; rfl) fun cdv A outer s H E hr ds d hp => by
    obtain ⟨p, q, hs, ht, rfl, rfl⟩ := hp
    have h1 := hs.n0; have h2 := ht.n0; have h3 := hs.n; have h4 := ht.n
    refine ds_ret (EN.f (en_lc2 (own := [("near", 2), ("far", 3)]) (vs1 := [3]) (rng p.many) (.int) (fun _ => rng q.many) (fun _ => .int) (fun _ _ => true) (fun n f => ePr (n, f)) (EI.h (ei_rng T (ef_ixTN 2 (EF.t (ef_var 0 rfl rfl (by walk_at "vis"))) ef_int rfl) ?_)) (by walk_at "blk") (by decide) (fun x hx => ⟨_, (eg_name 2 rfl (by decide) (by walk_at "loc") (by walk_at "fnl")), ets_nil, (ei_rng T (ef_ixTN 2 (EF.t (ef_var 1 rfl rfl (by walk_at "vis"))) ef_int rfl) ?_), fun y hy => ⟨_, (eg_name 3 rfl (by decide) (by walk_at "loc") (by walk_at "fnl")), ets_nil, fun hpr => (ef_tup (ea_cons (ef_var 2 rfl rfl (by walk_at "vis")) (ea_cons (ef_var 3 rfl rfl (by walk_at "vis")) ea_nil)))⟩⟩) ?_)) ?_
    · constructor <;> omega
    · constructor <;> omega
    · exact lc2_len _ _ _ _ 4 4 (by rw [rng_len]; omega) (fun x hx => by rw [rng_len]; omega) (by decide)
    · show PyData.list _ = PyData.list _
      unfold every
      simp only [filter_yes, List.map_flatMap, List.map_map]
      rfl
theorem every_len {p q : Part} (hs : p.Small) (ht : q.Small) : (every p q).length ≤ 16 := by
  have h1 := hs.n0; have h2 := ht.n0; have h3 := hs.n; have h4 := ht.n
  unfold every
  have := flat_le (fun n => (rng q.many).map fun f => (n, f)) 4 (rng p.many) fun x hx => by rw [List.length_map, rng_len]; omega
  rw [rng_len] at this
  omega
theorem rng_nodup (n : Int) : (rng n).Nodup := by
  unfold rng
  exact List.Pairwise.map _ (fun a b h => by omega) List.nodup_range
theorem mem_rng {n x : Int} : x ∈ rng n ↔ 0 ≤ x ∧ x < n := by
  unfold rng
  rw [List.mem_map]
  constructor
  · rintro ⟨k, hk, rfl⟩
    have := List.mem_range.mp hk
    omega
  · rintro ⟨h1, h2⟩
    exact ⟨x.toNat, List.mem_range.mpr (by omega), by omega⟩
theorem mem_every {p q : Part} {r : Pr} : r ∈ every p q ↔ (0 ≤ r.1 ∧ r.1 < p.many) ∧ (0 ≤ r.2 ∧ r.2 < q.many) := by
  unfold every
  rw [List.mem_flatMap]
  constructor
  · rintro ⟨n, hn, hr⟩
    obtain ⟨f, hf, rfl⟩ := List.mem_map.mp hr
    exact ⟨mem_rng.mp hn, mem_rng.mp hf⟩
  · rintro ⟨h1, h2⟩
    exact ⟨r.1, mem_rng.mpr h1, List.mem_map.mpr ⟨r.2, mem_rng.mpr h2, rfl⟩⟩
theorem every_nodup (p q : Part) : (every p q).Nodup := by
  unfold every
  have key : ∀ l : List Int, l.Nodup → (l.flatMap fun n => (rng q.many).map fun f => (n, f)).Nodup := by
    intro l
    induction l with
    | nil => intro _; exact List.nodup_nil
    | cons x l ih =>
      intro h
      obtain ⟨h1, h2⟩ := List.nodup_cons.mp h
      rw [List.flatMap_cons, List.nodup_append]
      refine ⟨List.Pairwise.map _ (fun a b h e => h (congrArg Prod.snd e)) (rng_nodup _), ih h2, fun a ha b hb e => ?_⟩
      obtain ⟨f, _, rfl⟩ := List.mem_map.mp ha
      obtain ⟨n, hn, hr⟩ := List.mem_flatMap.mp hb
      obtain ⟨g, _, rfl⟩ := List.mem_map.mp hr
      have := congrArg Prod.fst e
      exact h1 (by rw [show x = n from this]; exact hn)
  exact key _ (rng_nodup _)
theorem eqv_pr (a b : Pr) : PyData.eqv (ePr a) (ePr b) = decide (a = b) := by
  rw [Bool.eq_iff_iff]
  simp only [ePr, PyData.eqv, PyData.eqvAll, Bool.and_true, Bool.and_eq_true, decide_eq_true_eq, beq_iff_eq]
  constructor
  · rintro ⟨h1, h2⟩; exact Prod.ext h1 h2
  · rintro rfl; exact ⟨rfl, rfl⟩
theorem any_pr (l : List Pr) (r : Pr) : ((l.map ePr).any fun z => PyData.eqv z (ePr r)) = decide (r ∈ l) := by
  rw [List.any_map, Bool.eq_iff_iff, List.any_eq_true, decide_eq_true_eq]
  constructor
  · rintro ⟨x, hx, e⟩
    have e2 : PyData.eqv (ePr x) (ePr r) = true := e
    rw [eqv_pr, decide_eq_true_eq] at e2
    rw [← e2]; exact hx
  · intro h
    exact ⟨r, h, by show PyData.eqv (ePr r) (ePr r) = true; rw [eqv_pr]; simp⟩
variable {C : Ctx P w K mg base} {rho : List SV} {a b : Expr}
theorem ec_inPr {x : Pr} {l : List Pr} (h1 : EF C rho a (ePr x)) (h2 : EL C rho b true (l.map ePr)) : EC C rho .In a b (decide (x ∈ l)) := any_pr l x ▸ ec_inD h1 h2 sh_pr sh_prs
theorem ec_notInPr {x : Pr} {l : List Pr} (h1 : EF C rho a (ePr x)) (h2 : EL C rho b true (l.map ePr)) : EC C rho .NotIn a b (!decide (x ∈ l)) := any_pr l x ▸ ec_notInD h1 h2 sh_pr sh_prs
end
end Fs

set_option maxRecDepth 100000
set_option maxHeartbeats 4000000
namespace Fs
open PySem L2 DL NS
local macro_rules | `(tactic| walk_at "vis") => `(tactic| (intro _; first | exact Or.inl rfl | exact Or.inr (Or.inl rfl) | exact Or.inr (Or.inr rfl)))
local macro_rules | `(tactic| walk_at "loc") => `(tactic| (intro _; first | exact Or.inl rfl | exact Or.inr rfl))
local macro_rules | `(tactic| walk_at "fnl") => `(tactic| (intro _; first | exact Or.inr rfl | exact Or.inl rfl))
local macro_rules | `(tactic| walk_at "len") => `(tactic| (simp only [List.length_append, List.length_map, List.length_nil, List.length_cons]; omega))
local macro_rules | `(tactic| walk_at "blk") => `(tactic| (intro _; kernel_rfl))
section
variable {P : Program} {w : World} {K : PySem.W.Frag} {mg : Str → Option Value} {base : Heap} {f : Addr} {fd : FuncData}


theorem kvs_find (l : List Pr) (g : Pr → PyData) {r : Pr} (h : r ∈ l) : ((l.map fun x => (ePr x, g x)).find? fun p => decide (keyD p.1 = keyD (ePr r))).map (·.2) = some (g r) := by
  induction l with
  | nil => cases h
  | cons x l ih =>
    rw [List.map_cons, List.find?_cons]
    by_cases e : x = r
    · subst e; simp
    · have hne : decide (keyD (ePr x) = keyD (ePr r)) = false := decide_eq_false fun q => e (key_pr x r q)
      simp only [hne]
      rcases List.mem_cons.mp h with q | q
      · exact absurd q.symm e
      · exact ih q
theorem moves_len {p q : Part} (hs : p.Small) (ht : q.Small) (r : Pr) : (moves p q r).length ≤ 2000 := by
  unfold moves
  rw [sortE_len]
  have h1 := firsts_len_le (((stepsOut p q r).filter fun o => decide (o.1 ∈ madeOf p q)).map Prod.snd)
  have h2 := List.length_filter_le (fun o : Out => decide (o.1 ∈ madeOf p q)) (stepsOut p q r)
  have h3 := sout_len hs ht r
  rw [List.length_map] at h1
  omega
theorem sub_len {l : List Pr} {p q : Part} (hs : p.Small) (ht : q.Small) (h1 : l.Nodup) (h2 : ∀ x ∈ l, x ∈ every p q) : l.length ≤ 16 :=
  Nat.le_trans (nodup_le h1 h2) (every_len hs ht)
abbrev s_bad_of : Stmt := top 26
theorem sc_bad_of : FnScope ["one", "other", "every", "moves", "found", "fresh", "pair", "after"] ["one", "other"] (defScope s_bad_of) := ⟨rfl, rfl, rfl, by decide +kernel, rfl, by decide +kernel, by decide +kernel⟩
def preBad (ds : List PyData) (r : PyData) : Prop := ∃ (p q : Part), p.Small ∧ q.Small ∧ ds = [ePart p, ePart q] ∧ r = .list ((badOf p q).map ePr)
theorem ok_bad_of (F : Fun K "bad_of" "bad_of" s_bad_of f fd) (T : Blt mg) (h_all_pairs : Fn P w K mg base "all_pairs" 1 ["one", "other"] (spD K preEvery)) (h_own_moves : Fn P w K mg base "own_moves" 3 ["one", "other", "pair"] (spD K preMoves)) (h_clash_calls : Fn P w K mg base "clash_calls" 2 ["one", "other", "pair"] (spD K preClash)) :
    FnOk P w K mg base CX0 4 f fd ["one", "other"] (spD K preBad) :=
  fn_ok F sc_bad_of (fun ds d h => by obtain ⟨p, q, _, _, rfl, _⟩ := h; rfl) fun cdv A outer s H E hr ds d hp => by
    obtain ⟨p, q, hs, ht, rfl, rfl⟩ := hp
    have hel := every_len hs ht
    refine ds_setF 2 (.list ((every p q).map ePr)) ?_ ?_ rfl (by walk_at "loc")
    · refine ⟨_, (ef_call h_all_pairs (ea_cons (ef_var 0 rfl rfl (by walk_at "vis")) (ea_cons (ef_var 1 rfl rfl (by walk_at "vis")) ea_nil)) ?_ (Nat.le_of_ble_eq_true rfl) (by intro _; rfl)), rfl⟩
      exact ⟨p, q, hs, ht, rfl, rfl⟩
    refine (ds_set 3 (EO.v (m := isDict_ex) (eo_dc (own := [("pair", 6)]) (every p q) (ePr) (fun _ => true) (ePr) (fun r => .list ((moves p q r).map ePr)) (EI.h (ei_list (ef_var 2 rfl rfl (by walk_at "vis")))) (by walk_at "blk") (fun x hx => ⟨_, (eg_name 6 rfl (by decide) (by walk_at "loc") (by walk_at "fnl")), ets_nil, fun hpr => ⟨(ef_var 6 rfl rfl (by walk_at "vis")), (ef_call h_own_moves (ea_cons (ef_var 0 rfl rfl (by walk_at "vis")) (ea_cons (ef_var 1 rfl rfl (by walk_at "vis")) (ea_cons (ef_var 6 rfl rfl (by walk_at "vis")) ea_nil))) ?_ (Nat.le_of_ble_eq_true rfl) (by intro _; rfl))⟩⟩) ?_ ?_)) ?_ rfl (by walk_at "loc"))
    · exact ⟨p, q, x, hs, ht, rfl, rfl⟩
    · exact fun x hx _ => kd_pr x
    · omega
    have hkv : ((every p q).filter fun _ => true).foldl (fun acc x => putD acc (ePr x) (.list ((moves p q x).map ePr))) [] = (every p q).map fun r => (ePr r, .list ((moves p q r).map ePr)) := by
      rw [filter_yes]
      exact fold_new ePr key_pr id (fun r => .list ((moves p q r).map ePr)) (every p q) [] [] rfl (by rw [List.map_id]; exact every_nodup p q)
    rw [hkv]
    refine (ds_set 4 (EN.v (en_lc (own := [("pair", 6)]) (every p q) (ePr) (fun r => decide (0 < (clash p q r).length)) (ePr) (EI.h (ei_list (ef_var 2 rfl rfl (by walk_at "vis")))) (by walk_at "blk") (fun x hx => ⟨_, (eg_name 6 rfl (by decide) (by walk_at "loc") (by walk_at "fnl")), (ETs.is (ets_one (et_cmp (ec_gt (ef_len T (EF.l (ef_callV (.list ((clash p q x).map .str)) h_clash_calls (ea_cons (ef_var 0 rfl rfl (by walk_at "vis")) (ea_cons (ef_var 1 rfl rfl (by walk_at "vis")) (ea_cons (ef_var 6 rfl rfl (by walk_at "vis")) ea_nil))) ?_ (Nat.le_of_ble_eq_true rfl) (by intro _; rfl)))) ef_int))) ?_), fun hpr => (ef_var 6 rfl rfl (by walk_at "vis"))⟩) ?_)) ?_ rfl (by walk_at "loc"))
    · exact ⟨p, q, x, hs, ht, rfl, rfl⟩
    · simp
    · omega
    refine ds_while (fun m r => ∃ (l : List Pr) (s5 s6 s7 : SV), r = [.dat (ePart p), .dat (ePart q), .dat (.list ((every p q).map ePr)), svD K P w ((every p q).map fun r => (ePr r, .list ((moves p q r).map ePr))), .own (l.map ePr), s5, s6, s7] ∧ l.Nodup ∧ (∀ x ∈ l, x ∈ every p q) ∧ m = (every p q).length + 1 - l.length ∧
      ∃ n, (every p q).length + 1 ≤ n + l.length ∧ badGo p q n l = badGo p q ((every p q).length + 1) (bad0 p q)) ((every p q).length + 1 - (bad0 p q).length) ⟨bad0 p q, _, _, _, rfl, ?_, ?_, rfl, _, by omega, rfl⟩ ?_ (fun _ => PassesOwn.never)
    · exact List.Nodup.sublist List.filter_sublist (every_nodup p q)
    · exact fun x hx => (List.mem_filter.mp hx).1
    rintro m r ⟨l, s5, s6, s7, rfl, nd, sub, rfl, n, hn, hg⟩
    have hl := sub_len hs ht nd sub
    have hle : l.length ≤ (every p q).length := nodup_le nd sub
    refine ⟨true, et_val ef_bl, fun _ => ?_, fun h => nomatch h⟩
    refine (ds_setLc (own := [("pair", 6)]) 5 (every p q) (ePr) (fun r => !decide (r ∈ l) && (moves p q r).any fun a => decide (a ∈ l)) (ePr) (EI.h (ei_list (ef_var 2 rfl rfl (by walk_at "vis")))) (by walk_at "blk") (fun x hx => ⟨_, (eg_name 6 rfl (by decide) (by walk_at "loc") (by walk_at "fnl")), (ets_one (EW.t (ew_and (et_cmp (ec_notInPr (ef_var 6 rfl rfl (by walk_at "vis")) (el_own 4 rfl rfl (by walk_at "vis")))) (fun _ => (ew_and1 (et_val (ef_any1 T (EN.l (en_lc0 (own := [("after", 7)]) (moves p q x) (ePr) (fun a => .bool (decide (a ∈ l))) (EI.h (ei_list (ef_dget (eo_var 3 rfl rfl (by walk_at "vis")) (ef_var 6 rfl rfl (by walk_at "vis")) ?_ ?_))) (by walk_at "blk") (fun x hx => ⟨_, (eg_name 7 rfl (by decide) (by walk_at "loc") (by walk_at "fnl")), (ef_cmp (ec_inPr (ef_var 7 rfl rfl (by walk_at "vis")) (el_own 4 rfl rfl (by walk_at "vis"))))⟩) ?_))))))))), fun hpr => (ef_var 6 rfl rfl (by walk_at "vis"))⟩) ?_ ?_ rfl (by intro _; rfl))
    · exact kd_pr x
    · exact kvs_find _ _ hx
    · have := moves_len hs ht x
      omega
    · omega
    show DS _ _ [.dat (ePart p), .dat (ePart q), .dat (.list ((every p q).map ePr)), svD K P w ((every p q).map fun r => (ePr r, .list ((moves p q r).map ePr))), .own (l.map ePr), .own ((fresh p q l).map ePr), s6, s7] _
    refine ds_if1V (decide ((fresh p q l).length = 0)) ?_ ?_ ?_
    · exact ⟨_, (et_cmp (ec_eq (ef_len T (el_own 5 rfl rfl (by walk_at "vis"))) ef_int)), by simp⟩
    · intro h0
      have h0 := of_decide_eq_true h0
      have hb : badOf p q = sortE ePr l := by
        unfold badOf
        rw [← hg]
        cases n with
        | zero => omega
        | succ n =>
          unfold badGo
          rw [if_pos h0]
      refine ds_ret (EN.f (en_sorted T (el_own 4 rfl rfl (by walk_at "vis")) ?_)) ?_
      · exact srt_prs _
      · show PyData.list _ = PyData.list _
        rw [hb, sortD_map]
    · intro h0
      have h0 := of_decide_eq_false h0
      have nf : (fresh p q l).Nodup := List.Nodup.sublist List.filter_sublist (every_nodup p q)
      have sf : ∀ x ∈ fresh p q l, x ∈ every p q ∧ x ∉ l := fun x hx => by
        obtain ⟨h1, h2⟩ := List.mem_filter.mp hx
        simp only [Bool.and_eq_true, Bool.not_eq_true', decide_eq_false_iff_not] at h2
        exact ⟨h1, h2.1⟩
      have nd2 : (l ++ fresh p q l).Nodup := by
        rw [List.nodup_append]
        exact ⟨nd, nf, fun a ha b hb e => (sf b hb).2 (by rw [← e]; exact ha)⟩
      have sub2 : ∀ x ∈ l ++ fresh p q l, x ∈ every p q := fun x hx => (List.mem_append.mp hx).elim (sub x) fun h => (sf x h).1
      have hl2 := nodup_le nd2 sub2
      have hl3 := sub_len hs ht nd2 sub2
      rw [List.length_append] at hl2 hl3
      refine ds_setN 4 ((l ++ fresh p q l).map ePr) ?_ ?_ rfl (by walk_at "loc")
      · refine ⟨_, (en_catS (es_own 4 rfl rfl (by walk_at "vis")) (es_own 5 rfl rfl (by walk_at "vis")) ?_), by rw [List.map_append]⟩
        walk_at "len"
      · refine ds_nil ⟨_, ?_, l ++ fresh p q l, _, _, _, rfl, nd2, sub2, rfl, n - 1, ?_, ?_⟩
        · rw [List.length_append]; omega
        · rw [List.length_append]; omega
        · rw [← hg]
          cases n with
          | zero => omega
          | succ n =>
            rw [Nat.add_sub_cancel]
            conv => rhs; unfold badGo
            rw [if_neg h0]
theorem badGo_sub {p q : Part} : ∀ (n : Nat) {l : List Pr}, l.Nodup → (∀ x ∈ l, x ∈ every p q) → (badGo p q n l).Nodup ∧ ∀ x ∈ badGo p q n l, x ∈ every p q
  | 0, l, nd, sub => ⟨nd, sub⟩
  | n + 1, l, nd, sub => by
    unfold badGo
    split
    · exact ⟨nd, sub⟩
    · have nf : (fresh p q l).Nodup := List.Nodup.sublist List.filter_sublist (every_nodup p q)
      have sf : ∀ x ∈ fresh p q l, x ∈ every p q ∧ x ∉ l := fun x hx => by
        obtain ⟨h1, h2⟩ := List.mem_filter.mp hx
        simp only [Bool.and_eq_true, Bool.not_eq_true', decide_eq_false_iff_not] at h2
        exact ⟨h1, h2.1⟩
      refine badGo_sub n ?_ fun x hx => (List.mem_append.mp hx).elim (sub x) fun h => (sf x h).1
      rw [List.nodup_append]
      exact ⟨nd, nf, fun a ha b hb e => (sf b hb).2 (by rw [← e]; exact ha)⟩
theorem bad_sub (p q : Part) : (badOf p q).Nodup ∧ ∀ x ∈ badOf p q, x ∈ every p q := by
  obtain ⟨h1, h2⟩ := badGo_sub (p := p) (q := q) ((every p q).length + 1) (l := bad0 p q) (List.Nodup.sublist List.filter_sublist (every_nodup p q)) fun x hx => (List.mem_filter.mp hx).1
  unfold badOf
  exact ⟨(sortE_perm _ _).nodup_iff.mpr h1, fun x hx => h2 x (mem_sortE.mp hx)⟩
end
end Fs

set_option maxRecDepth 100000
set_option maxHeartbeats 4000000
namespace Fs
open PySem L2 DL NS
local macro_rules | `(tactic| walk_at "vis") => `(tactic| (intro _; first | exact Or.inl rfl | exact Or.inr (Or.inl rfl) | exact Or.inr (Or.inr rfl)))
local macro_rules | `(tactic| walk_at "loc") => `(tactic| (intro _; first | exact Or.inl rfl | exact Or.inr rfl))
local macro_rules | `(tactic| walk_at "fnl") => `(tactic| (intro _; first | exact Or.inr rfl | exact Or.inl rfl))
local macro_rules | `(tactic| walk_at "len") => `(tactic| (simp only [List.length_append, List.length_map, List.length_nil, List.length_cons]; omega))
local macro_rules | `(tactic| walk_at "blk") => `(tactic| (intro _; kernel_rfl))
section
variable {P : Program} {w : World} {K : PySem.W.Frag} {mg : Str → Option Value} {base : Heap} {f : Addr} {fd : FuncData}


theorem cut_few {p q : Part} (hs : p.Small) (ht : q.Small) (r : Pr) (g : Out → Bool) : (firsts (((stepsOut p q r).filter fun o => !decide (o.1 ∈ madeOf p q) && g o).map Prod.fst)).length ≤ 10 := by
  have h1 := hs.t; have h2 := ht.t
  refine Nat.le_trans (nodup_le (m := p.takes ++ q.takes) (firsts_nodup _) fun x hx => ?_) (by rw [List.length_append]; omega)
  obtain ⟨o, ho, rfl⟩ := List.mem_map.mp (mem_firsts.mp hx)
  obtain ⟨h3, h4⟩ := List.mem_filter.mp ho
  simp only [Bool.and_eq_true, Bool.not_eq_true', decide_eq_false_iff_not] at h4
  have hn := h4.1
  unfold madeOf at hn
  simp only [List.mem_cons, List.mem_append, not_or] at hn
  have h5 := mem_firsts.mp (mem_sortE.mp h3)
  unfold rawOut at h5
  rcases List.mem_append.mp h5 with h5 | h5
  · rcases List.mem_append.mp h5 with h5 | h5
    · obtain ⟨s, hs', rfl⟩ := List.mem_map.mp h5
      rcases hs.nam s (List.mem_filter.mp hs').1 with e | e | e
      · exact absurd e hn.1
      · exact List.mem_append_left _ e
      · exact absurd e hn.2.1
    · obtain ⟨s, hs', rfl⟩ := List.mem_map.mp h5
      rcases ht.nam s (List.mem_filter.mp hs').1 with e | e | e
      · exact absurd e hn.1
      · exact List.mem_append_right _ e
      · exact absurd e hn.2.2
  · obtain ⟨c, _, h6⟩ := List.mem_flatMap.mp h5
    obtain ⟨m, _, h7⟩ := List.mem_flatMap.mp h6
    obtain ⟨i, _, rfl⟩ := List.mem_map.mp h7
    exact absurd rfl hn.1
abbrev s_cut_calls : Stmt := top 27
theorem sc_cut_calls : FnScope ["one", "other", "pair", "bad", "made", "found", "call", "after"] ["one", "other", "pair", "bad"] (defScope s_cut_calls) := ⟨rfl, rfl, rfl, by decide +kernel, rfl, by decide +kernel, by decide +kernel⟩
def preCut (ds : List PyData) (r : PyData) : Prop := ∃ (p q : Part) (z : Pr) (bad : List Pr), p.Small ∧ q.Small ∧ ds = [ePart p, ePart q, ePr z, .list (bad.map ePr)] ∧ r = .list ((cuts p q z bad).map .str)
theorem ok_cut_calls (F : Fun K "cut_calls" "cut_calls" s_cut_calls f fd) (T : Blt mg) (h_steps_out : Fn P w K mg base "steps_out" 2 ["one", "other", "pair"] (spD K preOut)) :
    FnOk P w K mg base CX0 3 f fd ["one", "other", "pair", "bad"] (spD K preCut) :=
  fn_ok F sc_cut_calls (fun ds d h => by obtain ⟨p, q, z, bad, _, _, rfl, _⟩ := h; rfl) fun cdv A outer s H E hr ds d hp => by
    obtain ⟨p, q, z, bad, hs, ht, rfl, rfl⟩ := hp
    have hs1 := hs.m; have ht1 := ht.m
    have hsl := sout_len hs ht z
    refine ds_setF 4 (eNs (madeOf p q)) ?_ ?_ rfl (by walk_at "loc")
    · refine ⟨_, (ef_tup (ea_cons ef_str (ea_star (EF.t (ef_ixTN 1 (EF.t (ef_var 0 rfl rfl (by walk_at "vis"))) ef_int rfl)) (ea_star (EF.t (ef_ixTN 1 (EF.t (ef_var 1 rfl rfl (by walk_at "vis"))) ef_int rfl)) ea_nil))) ?_), ?_⟩
      · walk_at "len"
      · show PyData.tuple _ = PyData.tuple _
        simp [madeOf]
    refine (ds_setDcS (own := [("call", 6), ("after", 7)]) 5 (stepsOut p q z) (eOut) (fun o => !decide (o.1 ∈ madeOf p q) && decide (o.2 ∈ bad)) (fun o => o.1) (fun _ => .bool true) (EI.h (ei_list (ef_call h_steps_out (ea_cons (ef_var 0 rfl rfl (by walk_at "vis")) (ea_cons (ef_var 1 rfl rfl (by walk_at "vis")) (ea_cons (ef_var 2 rfl rfl (by walk_at "vis")) ea_nil))) ?_ (Nat.le_of_ble_eq_true rfl) (by intro _; rfl)))) (by walk_at "blk") (fun x hx => ⟨_, (eg_tup (egs_cons (eg_name 6 rfl (by decide) (by walk_at "loc") (by walk_at "fnl")) (egs_cons (eg_name 7 rfl (by decide) (by walk_at "loc") (by walk_at "fnl")) egs_nil))), (ets_one (EW.t (ew_and (et_cmp (ec_notInS (ef_var 6 rfl rfl (by walk_at "vis")) (EF.t (ef_var 4 rfl rfl (by walk_at "vis"))))) (fun _ => (ew_and1 (et_cmp (ec_inPr (ef_var 7 rfl rfl (by walk_at "vis")) (EF.l (ef_var 3 rfl rfl (by walk_at "vis")))))))))), fun hpr => ⟨(ef_var 6 rfl rfl (by walk_at "vis")), ef_bl⟩⟩) ?_ ?_ rfl (by intro _; rfl))
    · exact ⟨p, q, z, hs, ht, rfl, rfl⟩
    · omega
    refine ds_ret (EN.f (en_sortedDS T (eo_var 5 rfl rfl (by walk_at "vis")) ?_)) ?_
    · exact Nat.lt_of_le_of_lt (cut_few hs ht z fun o => decide (o.2 ∈ bad)) (by decide)
    · rfl
/-! ### names, steps, parts -/
def letters : List Nat := ("abcdefghijklmnopqrstuvwxyz" : Str).cps.toList
def nameB (s : Str) : Bool := decide (1 ≤ s.length) && decide (s.length ≤ 8) && s.cps.toList.all fun c => decide (c ∈ letters)
def risingB (ds : List PyData) : Bool := (ds.zip ds.tail).all fun z => PySem.W.dataLt z.1 z.2
abbrev s_is_name : Stmt := top 7
theorem sc_is_name : FnScope ["value", "letter"] ["value"] (defScope s_is_name) := ⟨rfl, rfl, rfl, by decide +kernel, rfl, by decide +kernel, by decide +kernel⟩
def preName (ds : List PyData) (r : PyData) : Prop := ∃ s : Str, nameB s = true ∧ ds = [.str s] ∧ r = .bool true
theorem ok_is_name (F : Fun K "is_name" "is_name" s_is_name f fd) (T : Blt mg) (G : Gc mg) : FnOk P w K mg base CX0 1 f fd ["value"] (spD K preName) :=
  fn_ok F sc_is_name (fun ds d h => by obtain ⟨s, _, rfl, _⟩ := h; rfl) fun cdv A outer s H E hr ds d hp => by
    obtain ⟨s, hn, rfl, rfl⟩ := hp
    unfold nameB at hn
    simp only [Bool.and_eq_true, decide_eq_true_eq] at hn
    obtain ⟨⟨h1, h2⟩, h3⟩ := hn
    refine ds_if1V false ⟨_, (EW.t (ew_or (et_not (et_val (ef_isi T (ef_var 0 rfl rfl (by walk_at "vis")) T.str PyProof.Rows.boot_str (kit_str _)))) (fun _ => (ew_or1 (et_not (et_le_le ef_int (ef_lenS T (ef_var 0 rfl rfl (by walk_at "vis")) ?_) (ef_gintE (by intro _; rfl) G.LONGEST))))))), ?_⟩ (fun h => nomatch h) (fun _ => ?_)
    · omega
    · simp only [isStrD, Bool.not_true, Bool.false_or, Bool.not_eq_false', Bool.and_eq_true, decide_eq_true_eq]
      omega
    refine ds_ret (ef_all1 T (EN.l (en_lc0 (own := [("letter", 1)]) (s.cps.toList) (fun c => .str ⟨#[c]⟩) (fun c => .bool (decide (c ∈ letters))) (EI.h (ei_str (ef_var 0 rfl rfl (by walk_at "vis")))) (by walk_at "blk") (fun x hx => ⟨_, (eg_name 1 rfl (by decide) (by walk_at "loc") (by walk_at "fnl")), (ef_cmp (ec_inSign (ef_var 1 rfl rfl (by walk_at "vis")) (ef_gstrE (by intro _; rfl) G.LETTERS)))⟩) ?_))) ?_
    · have : s.cps.toList.length = s.length := by simp [Str.length]
      omega
    · show PyData.bool _ = PyData.bool _
      rw [h3]
theorem cut_tail (xs : List PyData) : cutD xs (some 1) none = xs.tail := by
  cases xs with
  | nil => rfl
  | cons x xs =>
    unfold cutD
    have h1 : HT.sIx (x :: xs).length 0 (some 1) = 1 := by
      unfold HT.sIx
      simp
      try omega
    have h2 : HT.sIx (x :: xs).length (x :: xs).length none = (x :: xs).length := by
      unfold HT.sIx
      rfl
    rw [h1, h2]
    simp
theorem zip_next (xs : List PyData) : zipD xs (cutD xs (some 1) none) = (xs.zip xs.tail).map fun z => .tuple [z.1, z.2] := by
  rw [cut_tail]
  unfold zipD
  rw [List.zip_eq_zipWith, List.map_zipWith]
abbrev s_is_rising : Stmt := top 8
theorem sc_is_rising : FnScope ["row", "one", "other"] ["row"] (defScope s_is_rising) := ⟨rfl, rfl, rfl, by decide +kernel, rfl, by decide +kernel, by decide +kernel⟩
def preRising (ds : List PyData) (r : PyData) : Prop := ∃ xs : List PyData, risingB xs = true ∧ PySem.W.AllAlike xs ∧ (∀ d ∈ xs, d ≠ .none ∧ d.depth ≤ 60) ∧ xs.length ≤ 10000 ∧ ds = [.tuple xs] ∧ r = .bool true
theorem ok_is_rising (F : Fun K "is_rising" "is_rising" s_is_rising f fd) (T : Blt mg) : FnOk P w K mg base CX0 1 f fd ["row"] (spD K preRising) :=
  fn_ok F sc_is_rising (fun ds d h => by obtain ⟨s, _, _, _, _, rfl, _⟩ := h; rfl) fun cdv A outer s H E hr ds d hp => by
    obtain ⟨xs, hb, hal, hd, hl, rfl, rfl⟩ := hp
    refine ds_ret (ef_all1 T (EN.l (en_lc0 (own := [("one", 1), ("other", 2)]) (xs.zip xs.tail) (fun z => .tuple [z.1, z.2]) (fun z => .bool (PySem.W.dataLt z.1 z.2)) (EIh.is (EI.h (ei_zipT T (ea_cons (ef_var 0 rfl rfl (by walk_at "vis")) (ea_cons (ef_sliceT (ef_var 0 rfl rfl (by walk_at "vis")) (ep_some ef_int) ep_none) ea_nil)))) ?_) (by walk_at "blk") (fun x hx => ⟨_, (eg_tup (egs_cons (eg_name 1 rfl (by decide) (by walk_at "loc") (by walk_at "fnl")) (egs_cons (eg_name 2 rfl (by decide) (by walk_at "loc") (by walk_at "fnl")) egs_nil))), (ef_cmp (ec_ltD (ef_var 1 rfl rfl (by walk_at "vis")) (ef_var 2 rfl rfl (by walk_at "vis")) ?_))⟩) ?_))) ?_
    · exact zip_next xs
    · obtain ⟨h1, h2⟩ := List.of_mem_zip (a := x.1) (b := x.2) hx
      exact ⟨hal _ h1 _ (List.mem_of_mem_tail h2), hd _ h1⟩
    · rw [List.length_zip]; omega
    · show PyData.bool _ = PyData.bool _
      unfold risingB at hb
      rw [hb]
abbrev s_is_name_set : Stmt := top 9
theorem sc_is_name_set : FnScope ["value", "own"] ["value"] (defScope s_is_name_set) := ⟨rfl, rfl, rfl, by decide +kernel, rfl, by decide +kernel, by decide +kernel⟩
def preNames (ds : List PyData) (r : PyData) : Prop := ∃ ns : List Str, (∀ s ∈ ns, nameB s = true) ∧ risingB (ns.map .str) = true ∧ ns.length ≤ 1000 ∧ ds = [eNs ns] ∧ r = .bool true
theorem alike_strs (ns : List Str) : PySem.W.AllAlike (ns.map PyData.str) := .of fun a b => by simp [PySem.W.alike]
theorem ok_is_name_set (F : Fun K "is_name_set" "is_name_set" s_is_name_set f fd) (T : Blt mg) (h_is_name : Fn P w K mg base "is_name" 1 ["value"] (spD K preName)) (h_is_rising : Fn P w K mg base "is_rising" 1 ["row"] (spD K preRising)) : FnOk P w K mg base CX0 2 f fd ["value"] (spD K preNames) :=
  fn_ok F sc_is_name_set (fun ds d h => by obtain ⟨s, _, _, _, rfl, _⟩ := h; rfl) fun cdv A outer s H E hr ds d hp => by
    obtain ⟨ns, hn, hri, hl, rfl, rfl⟩ := hp
    refine ds_ret (ef_and (ef_isi T (ef_var 0 rfl rfl (by walk_at "vis")) T.tuple PyProof.Rows.boot_tuple (kit_tuple _)) (fun _ => (ef_and (ef_all1 T (EN.l (en_lc0 (own := [("own", 1)]) (ns) (.str) (fun _ => .bool true) (EI.h (ei_tup (ef_var 0 rfl rfl (by walk_at "vis")))) (by walk_at "blk") (fun x hx => ⟨_, (eg_name 1 rfl (by decide) (by walk_at "loc") (by walk_at "fnl")), (ef_call h_is_name (ea_cons (ef_var 1 rfl rfl (by walk_at "vis")) ea_nil) ?_ (Nat.le_of_ble_eq_true rfl) (by intro _; rfl))⟩) ?_))) (fun _ => (ef_one (ef_callV (.bool true) h_is_rising (ea_cons (ef_var 0 rfl rfl (by walk_at "vis")) ea_nil) ?_ (Nat.le_of_ble_eq_true rfl) (by intro _; rfl))))))) ?_
    · exact ⟨x, hn x hx, rfl, rfl⟩
    · omega
    · exact ⟨ns.map .str, hri, alike_strs ns, fun d hd => by obtain ⟨z, _, rfl⟩ := List.mem_map.mp hd; exact ⟨by simp, by simp [PyData.depth]⟩, by rw [List.length_map]; omega, rfl, rfl⟩
    · show PyData.bool _ = PyData.bool _
      simp [isTupD, eNs]
abbrev s_is_step : Stmt := top 15
theorem sc_is_step : FnScope ["thing", "known", "many"] ["thing", "known", "many"] (defScope s_is_step) := ⟨rfl, rfl, rfl, by decide +kernel, rfl, by decide +kernel, by decide +kernel⟩
def preStep (ds : List PyData) (r : PyData) : Prop := ∃ (s : Stp) (ns : List Str) (m : Int), (s.2.1 = "" ∨ s.2.1 ∈ ns) ∧ (0 ≤ s.1 ∧ s.1 < m) ∧ (0 ≤ s.2.2 ∧ s.2.2 < m) ∧ ds = [eStp s, eNs ns, .int m] ∧ r = .bool true
def preNum (ds : List PyData) (r : PyData) : Prop := ∃ d, ds = [d] ∧ r = .bool (isIntD d && !isBoolD d)
theorem ok_is_step (F : Fun K "is_step" "is_step" s_is_step f fd) (T : Blt mg) (G : Gc mg) (h_is_number : Fn P w K mg base "is_number" 1 ["value"] (spD K preNum)) : FnOk P w K mg base CX0 2 f fd ["thing", "known", "many"] (spD K preStep) :=
  fn_ok F sc_is_step (fun ds d h => by obtain ⟨s, ns, m, _, _, _, rfl, _⟩ := h; rfl) fun cdv A outer s0 H E hr ds d hp => by
    obtain ⟨s, ns, m, hn, h1, h2, rfl, rfl⟩ := hp
    refine ds_if1V false ⟨_, (EW.t (ew_or (et_not (et_val (ef_isi T (ef_var 0 rfl rfl (by walk_at "vis")) T.tuple PyProof.Rows.boot_tuple (kit_tuple _)))) (fun _ => (ew_or (et_cmp (ec_ne (ef_len T (EF.t (ef_var 0 rfl rfl (by walk_at "vis")))) (ef_gintE (by intro _; rfl) G.STEP))) (fun _ => (ew_or1 (et_not (et_val (ef_isi T (ef_ixTN 1 (EF.t (ef_var 0 rfl rfl (by walk_at "vis"))) ef_int rfl) T.str PyProof.Rows.boot_str (kit_str _)))))))))), ?_⟩ (fun h => nomatch h) (fun _ => ?_)
    · rfl
    refine ds_if1V false ⟨_, (EW.t (ew_or (et_not (et_val (ef_callV (.bool true) h_is_number (ea_cons (ef_ixTN 0 (EF.t (ef_var 0 rfl rfl (by walk_at "vis"))) ef_int rfl) ea_nil) ?_ (Nat.le_of_ble_eq_true rfl) (by intro _; rfl)))) (fun _ => (ew_or (et_not (et_val (ef_callV (.bool true) h_is_number (ea_cons (ef_ixTN 2 (EF.t (ef_var 0 rfl rfl (by walk_at "vis"))) ef_int rfl) ea_nil) ?_ (Nat.le_of_ble_eq_true rfl) (by intro _; rfl)))) (fun _ => (ew_or1 (et_not (EW.t (ew_or (et_cmp (ec_eqS (ef_ixTN 1 (EF.t (ef_var 0 rfl rfl (by walk_at "vis"))) ef_int rfl) (ef_gstrE (by intro _; rfl) G.WITHIN))) (fun _ => (ew_or1 (et_cmp (ec_inS (ef_ixTN 1 (EF.t (ef_var 0 rfl rfl (by walk_at "vis"))) ef_int rfl) (EF.t (ef_var 1 rfl rfl (by walk_at "vis")))))))))))))))), ?_⟩ (fun h => nomatch h) (fun _ => ?_)
    · exact ⟨_, rfl, rfl⟩
    · exact ⟨_, rfl, rfl⟩
    · simp only [Bool.not_true, Bool.false_or, Bool.not_eq_false', Bool.or_eq_true, decide_eq_true_eq]
      exact hn
    refine ds_ret (ef_and (ef_le_lt ef_int (ef_ixTN 0 (EF.t (ef_var 0 rfl rfl (by walk_at "vis"))) ef_int rfl) (ef_var 2 rfl rfl (by walk_at "vis"))) (fun _ => (ef_one (ef_le_lt ef_int (ef_ixTN 2 (EF.t (ef_var 0 rfl rfl (by walk_at "vis"))) ef_int rfl) (ef_var 2 rfl rfl (by walk_at "vis")))))) ?_
    show PyData.bool _ = PyData.bool _
    simp [h1.1, h1.2, h2.1, h2.2]
end
end Fs

set_option maxRecDepth 100000
set_option maxHeartbeats 4000000
namespace Fs
open PySem L2 DL NS
local macro_rules | `(tactic| walk_at "vis") => `(tactic| (intro _; first | exact Or.inl rfl | exact Or.inr (Or.inl rfl) | exact Or.inr (Or.inr rfl)))
local macro_rules | `(tactic| walk_at "loc") => `(tactic| (intro _; first | exact Or.inl rfl | exact Or.inr rfl))
local macro_rules | `(tactic| walk_at "fnl") => `(tactic| (intro _; first | exact Or.inr rfl | exact Or.inl rfl))
local macro_rules | `(tactic| walk_at "len") => `(tactic| (simp only [List.length_append, List.length_map, List.length_nil, List.length_cons]; omega))
local macro_rules | `(tactic| walk_at "blk") => `(tactic| (intro _; kernel_rfl))
section
variable {P : Program} {w : World} {K : PySem.W.Frag} {mg : Str → Option Value} {base : Heap} {f : Addr} {fd : FuncData}


/-- a part as the document wants it -/
structure Part.Good (p : Part) : Prop where
  nt : ∀ s ∈ p.takes, nameB s = true
  nm : ∀ s ∈ p.makes, nameB s = true
  rt : risingB (p.takes.map .str) = true
  rm : risingB (p.makes.map .str) = true
  dj : ∀ c ∈ p.takes, c ∉ p.makes
  n1 : 1 ≤ p.many
  st : ∀ s ∈ p.steps, (s.2.1 = "" ∨ s.2.1 ∈ p.takes ++ p.makes) ∧ (0 ≤ s.1 ∧ s.1 < p.many) ∧ (0 ≤ s.2.2 ∧ s.2.2 < p.many)
  rs : risingB (p.steps.map eStp) = true
  lt : p.takes.length ≤ 1000
  lm : p.makes.length ≤ 1000
  ls : p.steps.length ≤ 10000
abbrev s_is_part : Stmt := top 16
theorem sc_is_part : FnScope ["thing", "call", "step"] ["thing"] (defScope s_is_part) := ⟨rfl, rfl, rfl, by decide +kernel, rfl, by decide +kernel, by decide +kernel⟩
def prePart (ds : List PyData) (r : PyData) : Prop := ∃ p : Part, p.Good ∧ ds = [ePart p] ∧ r = .bool true
theorem ok_is_part (F : Fun K "is_part" "is_part" s_is_part f fd) (T : Blt mg) (G : Gc mg) (h_is_number : Fn P w K mg base "is_number" 1 ["value"] (spD K preNum)) (h_is_name_set : Fn P w K mg base "is_name_set" 2 ["value"] (spD K preNames)) (h_is_step : Fn P w K mg base "is_step" 2 ["thing", "known", "many"] (spD K preStep))
    (h_is_rising : Fn P w K mg base "is_rising" 1 ["row"] (spD K preRising)) : FnOk P w K mg base CX0 3 f fd ["thing"] (spD K prePart) :=
  fn_ok F sc_is_part (fun ds d h => by obtain ⟨p, _, rfl, _⟩ := h; rfl) fun cdv A outer s0 H E hr ds d hp => by
    obtain ⟨p, g, rfl, rfl⟩ := hp
    have lt := g.lt; have lm := g.lm; have ls := g.ls
    refine ds_if1V false ⟨_, (EW.t (ew_or (et_not (et_val (ef_isi T (ef_var 0 rfl rfl (by walk_at "vis")) T.tuple PyProof.Rows.boot_tuple (kit_tuple _)))) (fun _ => (ew_or (et_cmp (ec_ne (ef_len T (EF.t (ef_var 0 rfl rfl (by walk_at "vis")))) (ef_gintE (by intro _; rfl) G.PARTS))) (fun _ => (ew_or (et_not (et_val (ef_callV (.bool true) h_is_name_set (ea_cons (ef_ixTN 0 (EF.t (ef_var 0 rfl rfl (by walk_at "vis"))) ef_int rfl) ea_nil) ?_ (Nat.le_of_ble_eq_true rfl) (by intro _; rfl)))) (fun _ => (ew_or1 (et_not (et_val (ef_callV (.bool true) h_is_name_set (ea_cons (ef_ixTN 1 (EF.t (ef_var 0 rfl rfl (by walk_at "vis"))) ef_int rfl) ea_nil) ?_ (Nat.le_of_ble_eq_true rfl) (by intro _; rfl)))))))))))), ?_⟩ (fun h => nomatch h) (fun _ => ?_)
    · exact ⟨p.takes, g.nt, g.rt, lt, rfl, rfl⟩
    · exact ⟨p.makes, g.nm, g.rm, lm, rfl, rfl⟩
    · rfl
    refine ds_if1V false ⟨_, (EW.t (ew_or (et_val (ef_any1 T (EN.l (en_lc0 (own := [("call", 1)]) (p.takes) (.str) (fun c => .bool (decide (c ∈ p.makes))) (EI.h (ei_tup (ef_ixTN 0 (EF.t (ef_var 0 rfl rfl (by walk_at "vis"))) ef_int rfl))) (by walk_at "blk") (fun x hx => ⟨_, (eg_name 1 rfl (by decide) (by walk_at "loc") (by walk_at "fnl")), (ef_cmp (ec_inS (ef_var 1 rfl rfl (by walk_at "vis")) (EF.t (ef_ixTN 1 (EF.t (ef_var 0 rfl rfl (by walk_at "vis"))) ef_int rfl))))⟩) ?_)))) (fun _ => (ew_or (et_not (et_val (ef_callV (.bool true) h_is_number (ea_cons (ef_ixTN 2 (EF.t (ef_var 0 rfl rfl (by walk_at "vis"))) ef_int rfl) ea_nil) ?_ (Nat.le_of_ble_eq_true rfl) (by intro _; rfl)))) (fun _ => (ew_or1 (et_cmp (ec_lt (ef_ixTN 2 (EF.t (ef_var 0 rfl rfl (by walk_at "vis"))) ef_int rfl) ef_int)))))))), ?_⟩ (fun h => nomatch h) (fun _ => ?_)
    · omega
    · exact ⟨_, rfl, rfl⟩
    · have h1 : (p.takes.any fun c => decide (c ∈ p.makes)) = false := by
        rw [List.any_eq_false]
        intro c hc
        simpa using g.dj c hc
      have h2 := g.n1
      rw [h1, decide_eq_false (show ¬ p.many < 1 by omega)]
      rfl
    refine ds_if1V false ⟨_, (et_not (et_val (ef_isi T (ef_ixTN 3 (EF.t (ef_var 0 rfl rfl (by walk_at "vis"))) ef_int rfl) T.tuple PyProof.Rows.boot_tuple (kit_tuple _)))), ?_⟩ (fun h => nomatch h) (fun _ => ?_)
    · rfl
    refine ds_ret (ef_and (ef_all1 T (EN.l (en_lc0 (own := [("step", 2)]) (p.steps) (eStp) (fun _ => .bool true) (EI.h (ei_tup (ef_ixTN 3 (EF.t (ef_var 0 rfl rfl (by walk_at "vis"))) ef_int rfl))) (by walk_at "blk") (fun x hx => ⟨_, (eg_name 2 rfl (by decide) (by walk_at "loc") (by walk_at "fnl")), (ef_callV (.bool true) h_is_step (ea_cons (ef_var 2 rfl rfl (by walk_at "vis")) (ea_cons (ef_catT (ef_ixTN 0 (EF.t (ef_var 0 rfl rfl (by walk_at "vis"))) ef_int rfl) (ef_ixTN 1 (EF.t (ef_var 0 rfl rfl (by walk_at "vis"))) ef_int rfl) ?_) (ea_cons (ef_ixTN 2 (EF.t (ef_var 0 rfl rfl (by walk_at "vis"))) ef_int rfl) ea_nil))) ?_ (Nat.le_of_ble_eq_true rfl) (by intro _; rfl))⟩) ?_))) (fun _ => (ef_one (ef_callV (.bool true) h_is_rising (ea_cons (ef_ixTN 3 (EF.t (ef_var 0 rfl rfl (by walk_at "vis"))) ef_int rfl) ea_nil) ?_ (Nat.le_of_ble_eq_true rfl) (by intro _; rfl))))) ?_
    · walk_at "len"
    · obtain ⟨h1, h2, h3⟩ := g.st x hx
      exact ⟨x, p.takes ++ p.makes, p.many, h1, h2, h3, by simp [eNs], rfl⟩
    · omega
    · exact ⟨p.steps.map eStp, g.rs, fun a ha b hb => (srt_stps p.steps).al a ha b hb, fun d hd => by obtain ⟨z, _, rfl⟩ := List.mem_map.mp hd; exact ⟨by simp [eStp], by simp [eStp, PyData.depth, PyData.depthAll]⟩, by rw [List.length_map]; omega, rfl, rfl⟩
    · show PyData.bool _ = PyData.bool _
      simp
/-! ### lists made tuples -/
mutual
def tupD : PyData → PyData
  | .list ds => .tuple (tupL ds)
  | .tuple ds => .tuple (tupL ds)
  | .none => .none
  | .bool b => .bool b
  | .int i => .int i
  | .str x => .str x
  | .dict k => .dict k
def tupL : List PyData → List PyData
  | [] => []
  | d :: ds => tupD d :: tupL ds
end
theorem tupL_map : ∀ ds : List PyData, tupL ds = ds.map tupD
  | [] => by simp [tupL]
  | d :: ds => by simp only [tupL, List.map_cons, tupL_map ds]
/-- at most n deep, no long lists -/
inductive Tl : Nat → PyData → Prop
  | int {n : Nat} (i : Int) : Tl n (.int i)
  | str {n : Nat} (x : Str) : Tl n (.str x)
  | list {n : Nat} {ds : List PyData} (h : ∀ d ∈ ds, Tl n d) (hl : ds.length ≤ 1000) : Tl (n + 1) (.list ds)
  | tuple {n : Nat} {ds : List PyData} (h : ∀ d ∈ ds, Tl n d) (hl : ds.length ≤ 1000) : Tl (n + 1) (.tuple ds)
abbrev s_tupled : Stmt := top 10
theorem sc_tupled : FnScope ["value", "part"] ["value"] (defScope s_tupled) := ⟨rfl, rfl, rfl, by decide +kernel, rfl, by decide +kernel, by decide +kernel⟩
def preTup (n : Nat) (ds : List PyData) (r : PyData) : Prop := ∃ d, Tl n d ∧ ds = [d] ∧ r = tupD d
theorem ok_tupled (F : Fun K "tupled" "tupled" s_tupled f fd) (T : Blt mg) (hm : mg "tupled" = some (.ref f)) (hb : Binds K fd ["value"] []) : ∀ n, FnOk P w K mg base CX0 (n + 1) f fd ["value"] (spD K (preTup n))
  | 0 => fn_ok F sc_tupled (fun ds d h => by obtain ⟨d, _, rfl, _⟩ := h; rfl) fun cdv A outer s0 H E hr ds d hp => by
    obtain ⟨v, hv, rfl, rfl⟩ := hp
    cases hv with
    | int i => exact ds_ret (ef_if (et_val (ef_isi2 T (ef_var 0 rfl rfl (by walk_at "vis")) T.list PyProof.Rows.boot_list T.tuple PyProof.Rows.boot_tuple (kit_list _) (kit_tuple _))) (fun h => nomatch h) (fun _ => (ef_var 0 rfl rfl (by walk_at "vis")))) (by simp [tupD])
    | str x => exact ds_ret (ef_if (et_val (ef_isi2 T (ef_var 0 rfl rfl (by walk_at "vis")) T.list PyProof.Rows.boot_list T.tuple PyProof.Rows.boot_tuple (kit_list _) (kit_tuple _))) (fun h => nomatch h) (fun _ => (ef_var 0 rfl rfl (by walk_at "vis")))) (by simp [tupD])
  | n + 1 => fn_ok F sc_tupled (fun ds d h => by obtain ⟨d, _, rfl, _⟩ := h; rfl) fun cdv A outer s0 H E hr ds d hp => by
    obtain ⟨v, hv, rfl, rfl⟩ := hp
    have h_tupled : Fn P w K mg base "tupled" (n + 1) ["value"] (spD K (preTup n)) := fn_mk F (ok_tupled F T hm hb n) hm hb
    cases hv with
    | int i => exact ds_ret (ef_if (et_val (ef_isi2 T (ef_var 0 rfl rfl (by walk_at "vis")) T.list PyProof.Rows.boot_list T.tuple PyProof.Rows.boot_tuple (kit_list _) (kit_tuple _))) (fun h => nomatch h) (fun _ => (ef_var 0 rfl rfl (by walk_at "vis")))) (by simp [tupD])
    | str x => exact ds_ret (ef_if (et_val (ef_isi2 T (ef_var 0 rfl rfl (by walk_at "vis")) T.list PyProof.Rows.boot_list T.tuple PyProof.Rows.boot_tuple (kit_list _) (kit_tuple _))) (fun h => nomatch h) (fun _ => (ef_var 0 rfl rfl (by walk_at "vis")))) (by simp [tupD])
    | @list n' xs h hl =>
      refine ds_ret (d := .tuple (xs.map tupD)) (ef_if (et_val (ef_isi2 T (ef_var 0 rfl rfl (by walk_at "vis")) T.list PyProof.Rows.boot_list T.tuple PyProof.Rows.boot_tuple (kit_list _) (kit_tuple _))) (fun _ => ?_) (fun h => nomatch h)) (by show PyData.tuple _ = tupD _; simp [tupD, tupL_map])
      refine (ef_tupleL T (EN.l (en_lc0 (own := [("part", 1)]) (xs) (id) (tupD) (EIh.is (EI.h (ei_list (ef_var 0 rfl rfl (by walk_at "vis")))) ?_) (by walk_at "blk") (fun x hx => ⟨_, (eg_name 1 rfl (by decide) (by walk_at "loc") (by walk_at "fnl")), (ef_callV (tupD x) h_tupled (ea_cons (ef_var 1 rfl rfl (by walk_at "vis")) ea_nil) ?_ (Nat.le_refl _) (by intro _; rfl))⟩) ?_)))
      · exact (List.map_id _).symm
      · exact ⟨x, h x hx, rfl, rfl⟩
      · omega
    | @tuple n' xs h hl =>
      refine ds_ret (d := .tuple (xs.map tupD)) (ef_if (et_val (ef_isi2 T (ef_var 0 rfl rfl (by walk_at "vis")) T.list PyProof.Rows.boot_list T.tuple PyProof.Rows.boot_tuple (kit_list _) (kit_tuple _))) (fun _ => ?_) (fun h => nomatch h)) (by show PyData.tuple _ = tupD _; simp [tupD, tupL_map])
      refine (ef_tupleL T (EN.l (en_lc0 (own := [("part", 1)]) (xs) (id) (tupD) (EIh.is (EI.h (ei_tup (ef_var 0 rfl rfl (by walk_at "vis")))) ?_) (by walk_at "blk") (fun x hx => ⟨_, (eg_name 1 rfl (by decide) (by walk_at "loc") (by walk_at "fnl")), (ef_callV (tupD x) h_tupled (ea_cons (ef_var 1 rfl rfl (by walk_at "vis")) ea_nil) ?_ (Nat.le_refl _) (by intro _; rfl))⟩) ?_)))
      · exact (List.map_id _).symm
      · exact ⟨x, h x hx, rfl, rfl⟩
      · omega
abbrev s_unjoinable : Stmt := top 18
theorem sc_unjoinable : FnScope ["one", "other", "mine", "its", "k", "call"] ["one", "other"] (defScope s_unjoinable) := ⟨rfl, rfl, rfl, by decide +kernel, rfl, by decide +kernel, by decide +kernel⟩
/-- d reads as the part p, lists for tuples too -/
structure Soft (d : PyData) (p : Part) : Prop where
  sm : p.Small
  tl : Tl 3 d
  tu : tupD d = ePart p
def unj (p q : Part) : List Str := (p.takes.filter fun c => decide (c ∈ q.takes)) ++ (p.makes.filter fun c => decide (c ∈ q.makes))
def preUnj (ds : List PyData) (r : PyData) : Prop := ∃ (d e : PyData) (p q : Part), Soft d p ∧ Soft e q ∧ ds = [d, e] ∧ r = eNs (sortE .str (unj p q))
theorem ok_unjoinable (F : Fun K "unjoinable" "unjoinable" s_unjoinable f fd) (T : Blt mg) (h_tupled : Fn P w K mg base "tupled" 4 ["value"] (spD K (preTup 3))) : FnOk P w K mg base CX0 5 f fd ["one", "other"] (spD K preUnj) :=
  fn_ok F sc_unjoinable (fun ds d h => by obtain ⟨_, _, _, _, _, _, rfl, _⟩ := h; rfl) fun cdv A outer s0 H E hr ds d hp => by
    obtain ⟨d1, d2, p, q, g1, g2, rfl, rfl⟩ := hp
    have h1 := g1.sm.t; have h2 := g1.sm.m
    refine ds_asgV (.tuple [ePart p, ePart q]) [2, 3] ?_ (eg_tup (egs_cons (eg_name 2 rfl (by decide) (by walk_at "loc") (by walk_at "fnl")) (egs_cons (eg_name 3 rfl (by decide) (by walk_at "loc") (by walk_at "fnl")) egs_nil))) ?_
    · refine (ef_tup (ea_cons (ef_call h_tupled (ea_cons (ef_var 0 rfl rfl (by walk_at "vis")) ea_nil) ?_ (Nat.le_of_ble_eq_true rfl) (by intro _; rfl)) (ea_cons (ef_call h_tupled (ea_cons (ef_var 1 rfl rfl (by walk_at "vis")) ea_nil) ?_ (Nat.le_of_ble_eq_true rfl) (by intro _; rfl)) ea_nil)))
      · exact ⟨d1, g1.tl, rfl, g1.tu.symm⟩
      · exact ⟨d2, g2.tl, rfl, g2.tu.symm⟩
    refine ds_ret (ef_tupleL T (EN.l (en_sorted T (EN.l (en_lc2 (own := [("k", 4), ("call", 5)]) (vs1 := [5]) (([0, 1] : List Int)) (.int) (fun k => if k = 0 then p.takes else p.makes) (fun _ => .str) (fun k c => decide (c ∈ if k = 0 then q.takes else q.makes)) (fun _ c => .str c) (EI.h (ei_tup (ef_tup (ea_cons ef_int (ea_cons ef_int ea_nil))))) (by walk_at "blk") (by decide) (fun x hx => ⟨_, (eg_name 4 rfl (by decide) (by walk_at "loc") (by walk_at "fnl")), ets_nil, (ei_tup (ef_ixT (EF.t (ef_var 2 rfl rfl (by walk_at "vis"))) (ef_var 4 rfl rfl (by walk_at "vis")) ?_)), fun y hy => ⟨_, (eg_name 5 rfl (by decide) (by walk_at "loc") (by walk_at "fnl")), (ets_one (et_cmp (ec_inS (ef_var 5 rfl rfl (by walk_at "vis")) (EF.t (ef_ixT (EF.t (ef_var 3 rfl rfl (by walk_at "vis"))) (ef_var 4 rfl rfl (by walk_at "vis")) ?_))))), fun hpr => (ef_var 5 rfl rfl (by walk_at "vis"))⟩⟩) ?_)) ?_))) ?_
    · rcases List.mem_cons.mp hx with rfl | hx
      · rfl
      · rw [List.mem_singleton.mp hx]; rfl
    · rcases List.mem_cons.mp hx with rfl | hx
      · rfl
      · rw [List.mem_singleton.mp hx]; rfl
    · exact lc2_len _ _ _ _ 5 2 (by decide) (fun x hx => by split <;> omega) (by decide)
    · rw [show (([0, 1] : List Int).flatMap fun k => ((if k = 0 then p.takes else p.makes).filter fun c => decide (c ∈ if k = 0 then q.takes else q.makes)).map PyData.str) = (unj p q).map .str by simp [unj]]
      exact srt_strs _
    · show PyData.tuple _ = eNs _
      rw [show (([0, 1] : List Int).flatMap fun k => ((if k = 0 then p.takes else p.makes).filter fun c => decide (c ∈ if k = 0 then q.takes else q.makes)).map PyData.str) = (unj p q).map .str by simp [unj], sortD_map]
      rfl
end
end Fs

set_option maxRecDepth 100000
set_option maxHeartbeats 4000000
/-! NotJoinable(call): made. -/
namespace Nj
open PySem PySem.W PySem.Calls PyProof.Rows PySem.HandSPX
/-- the def of __init__ -/
def stI : Stmt := match Fs.top 1 with
  | .ClassDef _ _ _ b _ _ _ _ _ _ _ => b.getD 0 (.Pass ⟨0, 0, 0, 0⟩)
  | s => s
abbrev aI : Arguments := L2.defArgs stI
abbrev bI : List Stmt := L2.defBody stI
abbrev sI : Scope := L2.defScope stI
abbrev veTail : List Value := [.type "ValueError", .type "Exception", .type "BaseException", .type "object"]
/-- what the written part says of NotJoinable, at C, and of its __init__, at fI (its cell at cc, its code at cda) -/
structure Txt (K : Frag) (mg : Str → Option Value) (C fI : Addr) (file : Str) : Prop where
  gC : mg "NotJoinable" = some (.ref C)
  cls : ∃ nm q N bs bm sn sub ab col dd k0 k1 k2 k3 k5, K.lookup C = some (excClassObj nm q C N bs bm true sn sub ab col dd k0 k1 k2 k3 k5 "ValueError.__new__") ∧ bm = veTail
  sa : findIn K (.ref C) "__setattr__" = some (some (.builtin "object.__setattr__"))
  noN : findIn K (.ref C) "name" = some none
  iC : findIn K (.ref C) "__init__" = some (some (.ref fI))
  tC : typeIn K (.ref fI) = some (.type "function")
  kC : keepIn K (.ref C) = true
  exC : subIn K (.ref C) (.type "BaseException") = some true
  veC : subIn K (.ref C) (.type "ValueError") = some true
  sC : mroIn K C (.ref C) = some true
  tyC : typeIn K (.ref C) = some (.type "type")
  noS : nsIn K mainGlobals "super" = some none
  op : nsIn K cStatics "thirdparty.any" = some none
  fn : ∃ (oc : Value) (od : Option Addr) (doc pm : Value) (an : Option Addr) (cda cc : Addr) (ct : Value) (osl : Array (Option Value)) (vs : Array Value) (tf : Tok) (ccl cl : Value) (cdd cld : Option Addr) (ccs csl : Array (Option Value)),
    K.lookup fI = some ⟨oc, od, .func (ksFn "__init__" "NotJoinable.__init__" aI bI sI .none .none doc pm an (.ref cda) ct cc), osl⟩ ∧ codeIn K (.ref cda) "NotJoinable.__init__" = true ∧
    K.lookup cda = some ⟨ccl, cdd, .fields vs, ccs⟩ ∧ vs[2]? = some (.str file tf) ∧ K.lookup cc = some ⟨cl, cld, .cell (some (.ref C)), csl⟩
section
variable {prog : Program} {w : World} {A : Around} {E : Value → Shared → Prop} {h : Heap} {g : Array GenState} {d : Drawn} {t : Nat} {os : OsState}
variable {nm q : Str} {C N : Addr} {bs bm : List Value} {hdct : Bool} {sn : List Str} {sub : List Value} {ab : Bool} {col : Option Bool} {dd : Option Addr} {k0 k1 k2 k3 k5 : Option Value}
/-- the bound __init__ of ValueError called -/
theorem call_mw {u e t0 : Addr} {rest : List Value} {Q : Value → Shared → Prop} (hC : h.get? C = some (excClassObj nm q C N bs bm hdct sn sub ab col dd k0 k1 k2 k3 k5 "ValueError.__new__")) (he : h.get? e = some (HandSPX.excO C t0)) (hu : h.get? u = some (kxs_mw "ValueError.__init__" e)) (hz : rest.length ≤ sizeLine)
    (hq : ∀ h' t1, (∀ b o, b ≠ e → h.get? b = some o → h'.get? b = some o) → h'.get? e = some (HandSPX.excO C t1) → Q .none ⟨h', g, d, t, os⟩) : wpAny (model prog w) A (call (.ref u) rest) Q E ⟨h, g, d, t, os⟩ := by
  refine wpAny_call (codeAny_of_tree ?_)
  show wpAny _ A.in1 (callAny (.ref u) ⟨rest, []⟩) _ _ _
  simp only [callAny]
  refine wpAny_bind (wpAny_load hu ?_)
  simp only [kxs_mw, show (Value.type "method-wrapper" == Value.type "method" || Value.type "method-wrapper" == Value.type "builtin_function_or_method" || Value.type "method-wrapper" == Value.type "method-wrapper") = true by decide, if_true]
  refine KFB.if_so (by decide) ?_
  refine wpAny_bind (check_bound_init F.excBase_ValueError.toExcCallFacts hC he rfl ?_)
  refine wpAny_bind (wpAny_pure (wpAny_pure ?_))
  refine ⟨plainId_quiet F.excBase_ValueError.init.plain _, codeAny_builtin F.excBase_ValueError.initEntry ?_⟩
  exact exc_init_tree (cls := .ref C) (t0 := t0) (dv := none) (c2 := .none) (c3 := .none) (b4 := .bool false) he hz fun h' k he' _ => hq h' _ k he'
end
/-- what __init__ leaves of a fresh exception at x -/
structure InitEnd (h h' : Heap) (x C dx t1 : Addr) (v : Value) : Prop where
  keep : ∀ b o, b ≠ x → h.get? b = some o → h'.get? b = some o
  obj : h'.get? x = some { cls := .ref C, dict := some dx, data := .fields #[.ref t1, .none, .none, .none, .bool false, .none] }
  dbig : h.objs.size ≤ dx
  dne : dx ≠ x
  ns : h'.Ns1 dx (fun y => if y = "name" then some v else none)
section
variable {prog : Program} {w : World} {A : Around} {E : Value → Shared → Prop} {R : Result → Shared → Prop} {s : Shared} {K : Frag} {mg : Str → Option Value} {C fI : Addr} {file : Str}
theorem init (T : Txt K mg C fI file) {x t0 : Addr} {v : Value} (X : K.In s.heap) (hlim : s.heap.NoLimit) (hG : s.heap.Ns mainGlobals mg) (hB : ∃ mb, s.heap.Ns builtinsNs mb ∧ mb "super" = some (.type "super")) (hx : s.heap.get? x = some (HandSPX.excO C t0)) (hnx : K.lookup x = none) (hroom : A.depth < recursionLimit)
    (hfile : ((prog.main.file : Str) == file) = true) (htop : (prog.main.scope.names.lookup ("super" : Str)).isSome = false)
    (hq : ∀ h' tk dx t1, InitEnd s.heap h' x C dx t1 v → R (.ok (.ret .none)) { s with heap := h', toks := tk }) :
    codeAny (model prog w) A (.call (.ref fI) ⟨[.ref x, v], []⟩) R s := by
  obtain ⟨oc, od, doc, pm, an, cda, cc, ct, osl, vs, tf, ccl, cl, cdd, cld, ccs, csl, ho, hcd, hcode, hvs, hcell⟩ := T.fn
  obtain ⟨nm, q, N, bs, bm, sn, sub, ab, col, dd, k0, k1, k2, k3, k5, hC, hbm⟩ := T.cls
  have hcl : clsIn K C = some { name := nm, bases := bs, mro := .ref C :: bm, ns := N, qualname := q, hasDict := true, slotNames := sn, subclasses := sub, abstract := ab, collection := col, hasDel := false } := by unfold clsIn; rw [hC]
  obtain ⟨hp, g, dr, tk, os⟩ := s
  refine ks_codeAny_call_defAt (fd := ksFn "__init__" "NotJoinable.__init__" aI bI sI .none .none doc pm an (.ref cda) ct cc) (body := bI) (binds := [("self", .ref x), ("name", v)]) hroom (X _ _ ho) rfl hlim (codeRec_of X hcd) rfl (BindsTo.of_eq (by first | rfl | with_unfolding_all rfl)) (show ∀ x ∈ sI.names, x.2 ≠ .cell by decide +kernel) (fun y hy => ?_) (fun h₁ hns k => ?_) (show sI.isCoroutine = false by decide +kernel) (show sI.isGenerator = false by decide +kernel) (show sI.kind = .function by decide +kernel)
  · rcases List.mem_cons.mp hy with rfl | hy
    · show sI.names.lookup ("self" : Str) = _
      decide +kernel
    · rw [List.mem_singleton.mp hy]
      show sI.names.lookup ("name" : Str) = _
      decide +kernel
  have hxL : hp.objs.size ≠ x := Nat.ne_of_gt (Heap.lt_size hx)
  have X₁ : K.In h₁ := X.keeps k
  have hx₁ := k _ _ hx
  have hC₁ := X₁ _ _ hC
  have hself : ∀ h' : Heap, (∀ b o, h₁.get? b = some o → h'.get? b = some o) → h'.Ns hp.objs.size (fun y => ([("self", .ref x), ("name", v)] : List (Str × Value)).reverse.lookup y) := fun h' kk => hns.keeps kk
  show _root_.PySem.wpAt (model prog w) _ (.func bI (ksEnv "NotJoinable.__init__" sI hp.objs.size fI (.ref cda) cc)) (execs bI (ksEnv "NotJoinable.__init__" sI hp.objs.size fI (.ref cda) cc)) _ _ _
  generalize hA : A.deeper (callEnv (ksFn "__init__" "NotJoinable.__init__" aI bI sI .none .none doc pm an (.ref cda) ct cc) hp.objs.size fI) = A'
  obtain ⟨mb, hmb, hsup⟩ := hB
  -- super().__init__(name)
  have hkF : sI.kind = .function := by decide +kernel
  have hkS : sI.names.lookup ("super" : Str) = some .globalImplicit := by decide +kernel
  have hkC : sI.names.lookup ("__class__" : Str) = some .free := by decide +kernel
  have hkA : sI.names.lookup ("self" : Str) = some .local := by decide +kernel
  have hkN : sI.names.lookup ("name" : Str) = some .local := by decide +kernel
  have lo_self : (([("self", .ref x), ("name", v)] : List (Str × Value)).reverse.lookup ("self" : Str)) = some (Value.ref x) := by first | rfl | simp [List.lookup]
  have lo_name : (([("self", .ref x), ("name", v)] : List (Str × Value)).reverse.lookup ("name" : Str)) = some v := by first | rfl | simp [List.lookup]
  refine ks_wpAt_execs_cons (ks_wpAt_Expr_any (ks_wpAt_MethodCall ?_))
  refine ks_wpAt_super_base hkS hkC (by decide) rfl (k _ _ (X _ _ ho)) rfl (ar := aI.args.getD 0 { arg := "", annotation := none, pos := ⟨0, 0, 0, 0⟩ }) (by rfl) rfl (X₁ _ _ hcode) rfl hvs hfile htop ?_
  refine ks_loadName_global hkF hkS (loadGlobal_builtin (mg := mg) (hG.keeps k) (mg_none_of X hG T.noS) (hmb.keeps k) hsup ⟨rfl, ?_⟩)
  refine wpAny_loadName_free hkF hkC rfl ⟨_, X₁ _ _ hcell, rfl⟩ ?_
  refine wpAny_loadName_local hkF hkA hns lo_self ?_
  refine ks_wpAny_isType_cls hC₁ rfl ⟨rfl, ?_⟩
  refine ks_wpAny_call_super hC₁ rfl hx₁ rfl (fun c e => by cases e) (looks_mroIn X₁ T.sC) (fun h₂ hso k₂ => ?_)
  have X₂ : K.In h₂ := X₁.keeps k₂
  have hx₂ := k₂ _ _ hx₁
  have I₂ : InstAt h₂ x (HandSPX.excO C t0) C none := ⟨hx₂, rfl, rfl, trivial⟩
  refine kxs_getMethod kxs_ValueError hso (looks_opaque X₂ T.op) (l₀ := .ref C :: bm) (l := veTail) (fun A Q E s k q => wpAny_bind ((looks_clsIn X₂ hcl) A _ E s k (wpAny_pure q))) (by rw [hbm]; simp [List.dropWhile_cons]) X₂ (by kernel_rfl) (I₂.type.andThen (looks_subIn X₂ T.veC)) (ks_ne X₂ I₂ hcl) (by decide) ?_
  have k₃ : ∀ b o, h₂.get? b = some o → (h₂.push (kxs_mw "ValueError.__init__" x)).get? b = some o := fun b o e => Heap.get?_push_of_some _ e
  have hu₃ : (h₂.push (kxs_mw "ValueError.__init__" x)).get? h₂.objs.size = some (kxs_mw "ValueError.__init__" x) := Heap.get?_push_size _ rfl
  refine kxs_callWith (i := "ValueError.__init__") (x := x) (u := h₂.objs.size) (by rfl) ?_
  have k₁₃ : ∀ b o, h₁.get? b = some o → (h₂.push (kxs_mw "ValueError.__init__" x)).get? b = some o := fun b o e => k₃ b o (k₂ b o e)
  refine evalArgs_plain (Calls.spliced_cons (wpAny_Name (wpAny_loadName_local hkF hkN (hns.keeps k₁₃) lo_name (Calls.spliced_nil ⟨hu₃, ?_⟩)) (by decide)))
  refine call_mw (k₁₃ _ _ hC₁) (k₁₃ _ _ hx₁) hu₃ (by rw [sizeLine_eq]; exact (by decide : 1 ≤ 16777216)) fun h₄ t1 k₄ hx₄ => ?_
  -- self.name = name
  have k₁₄ : ∀ b o, b ≠ x → h₁.get? b = some o → h₄.get? b = some o := fun b o hb e => k₄ b o hb (k₁₃ b o e)
  have X₄ : K.In h₄ := fun a o e => k₁₄ a o (fun z => by rw [z, hnx] at e; cases e) (X₁ a o e)
  have hns₄ : h₄.Ns hp.objs.size (fun y => ([("self", .ref x), ("name", v)] : List (Str × Value)).reverse.lookup y) := hns.at fun o e => k₁₄ _ o hxL e
  refine ks_wpAt_execs_cons (ks_wpAt_Assign_Attr (wpAt_of_wpAny (wpAny_Name (wpAny_loadName_local hkF hkN hns₄ lo_name (wpAny_Name (wpAny_loadName_local hkF hkA hns₄ lo_self ?_) (by decide))) (by decide))))
  refine set_plain X₄ (ox := HandSPX.excO C t1) (od := none) ⟨hx₄, rfl, rfl, trivial⟩ T.sa ?_
  refine HandSPX.exc_osa X₄ hx₄ hcl (show refsVE (.ref C :: bm) = true by rw [hbm]; rfl) rfl T.noN (fun h₅ tk₅ dx k₅ dn dne hx₅ hn₅ => ?_)
  have z : hp.objs.size < h₄.objs.size := hns₄.lt
  exact wpAt_of_wpAny (wpAny_execs_nil (hq h₅ tk₅ dx t1 ⟨fun b o hb e => k₅ b o hb (k₁₄ b o hb (k b o e)), hx₅, Nat.le_of_lt (Nat.lt_of_lt_of_le z dn), dne, hn₅⟩))
/-- a made NotJoinable -/
structure Made (h h' : Heap) (e C d : Addr) (v : Value) : Prop where
  keep : ∀ b o, h.get? b = some o → h'.get? b = some o
  new : h.objs.size ≤ e
  obj : ∃ oe vs, h'.get? e = some oe ∧ oe.cls = .ref C ∧ oe.dict = some d ∧ oe.data = .fields vs ∧ vs[1]? = some .none
  dbig : h.objs.size ≤ d
  dne : d ≠ e
  ns : h'.Ns1 d (fun y => if y = "name" then some v else none)
theorem made (T : Txt K mg C fI file) {v : Value} (X : K.In s.heap) (hlim : s.heap.NoLimit) (hG : s.heap.Ns mainGlobals mg) (hB : ∃ mb, s.heap.Ns builtinsNs mb ∧ mb "super" = some (.type "super")) (hroom : A.depth + 1 < recursionLimit)
    (hfile : ((prog.main.file : Str) == file) = true) (htop : (prog.main.scope.names.lookup ("super" : Str)).isSome = false)
    (hq : ∀ h' tk e d, Made s.heap h' e C d v → R (.ok (.ret (.ref e))) { s with heap := h', toks := tk }) :
    codeAny (model prog w) A (.call (.ref C) ⟨[v], []⟩) R s := by
  obtain ⟨nm, q, N, bs, bm, sn, sub, ab, col, dd, k0, k1, k2, k3, k5, hC, hbm⟩ := T.cls
  have hve : refsVE bm = true := by rw [hbm]; rfl
  obtain ⟨hp, g, dr, tk, os⟩ := s
  have k : ∀ b o, hp.get? b = some o → ((hp.push (kdv_tup [v])).push (HandSPX.excO C hp.objs.size)).get? b = some o := fun b o e => Heap.get?_push_of_some _ (Heap.get?_push_of_some _ e)
  have hget : ((hp.push (kdv_tup [v])).push (HandSPX.excO C hp.objs.size)).get? (hp.objs.size + 1) = some (HandSPX.excO C hp.objs.size) := by heap_get
  have hnx : K.lookup (hp.objs.size + 1) = none := by
    cases e : K.lookup (hp.objs.size + 1) with
    | none => rfl
    | some o =>
      have z : hp.get? (hp.objs.size + 1) = some o := X _ _ e
      exact absurd (Nat.lt_of_succ_lt (Heap.lt_size z)) (Nat.lt_irrefl _)
  obtain ⟨mb, hmb, hsup⟩ := hB
  refine HandSPX.call_own F.excBase_ValueError (fun X => HandSPX.refsVE_contains X bm hve) (X _ _ hC) (looks_findIn X T.iC) (fun self => bind_fn X self T.tC) (by rw [sizeLine_eq]; exact (by decide : 1 ≤ 16777216)) ?_
  refine init (s := ⟨(hp.push (kdv_tup [v])).push (HandSPX.excO C hp.objs.size), g, dr, tk, os⟩) T (X.keeps k) (hlim.keeps k) (hG.keeps k) ⟨mb, hmb.keeps k, hsup⟩ hget hnx ?_ hfile htop fun h' tk' dx t1 ⟨k', hx, dn, dne, hns⟩ => ?_
  · show A.depth + 1 < recursionLimit
    exact hroom
  · have old : ∀ b o, hp.get? b = some o → h'.get? b = some o := fun b o e => k' b o (Nat.ne_of_lt (Nat.lt_succ_of_lt (Heap.lt_size e))) (k b o e)
    have z : hp.objs.size + 1 + 1 ≤ dx := by
      first
        | (simpa only [Heap.size_push] using dn)
        | exact dn
        | (have q := dn; rw [Heap.size_push, Heap.size_push] at q; exact q)
    exact ⟨rfl, hq h' tk' (hp.objs.size + 1) dx ⟨old, Nat.le_succ _, ⟨_, _, hx, rfl, rfl, rfl, rfl⟩, Nat.le_trans (Nat.le_trans (Nat.le_succ _) (Nat.le_succ _)) z, dne, hns⟩⟩
end
end Nj
namespace L2
open PySem PySem.Spec PyProof.Rows
theorem relO_nj {v : V} {v' : Value} (r : RelV v v') (f : Str) : RelO (List.lookup f [(("name" : Str), v)]) (if f = "name" then some v' else none) := by
  by_cases hw : f = "name"
  · subst hw
    rw [if_pos rfl]
    have q : List.lookup ("name" : Str) [(("name" : Str), v)] = some v := by simp [List.lookup]
    rw [q]
    exact r
  · rw [if_neg hw]
    have qw : (f == ("name" : Str)) = false := by simpa using hw
    have q2 : List.lookup f [(("name" : Str), v)] = none := by simp [List.lookup, qw]
    rw [q2]
    trivial
/-- what the program must say, so that a class with super().__init__ in it can be made -/
structure SupOk (X : Cx) (file : Str) : Prop where
  hf : ((X.prog.main.file : Str) == file) = true
  ht : (X.prog.main.scope.names.lookup ("super" : Str)).isSome = false
section
variable {X : Cx} {C fI : Addr} {file : Str}
/-- NotJoinable(e) -/
def tMkNj (C : Addr) (ta : TA) : St → Hp → XK → Prop := fun σ H Q => ta σ H fun vs H1 => ∃ v, vs = [v] ∧ ∀ d, H1 d = none → Q (.ref C) (some d) (upd H1 d (.xd [(("name" : Str), v)]))
theorem pmk_nj {a : Expr} {ta : TA} {p pos : Pos} {k : Nat} (T : Nj.Txt X.K X.mg C fI file) (S : SupOk X file) (hr : Room k X.A) (ha : PA X [a] ta) (hg : Gl X "NotJoinable" := by rfl)
    (he : starEach (a :: []) X.env = (false, eval a X.env) :: starEach [] X.env := by rfl) (hpl : (backTo pos (starEach [] X.env)).any (·.1) = false := by rfl) :
    PMk X (.Call (.Name "NotJoinable" p) [a] [] pos) (tMkNj C ta) := by
  intro pins s σ H Q I h
  refine wpAny_Call_Name_kw (ld_glob I hg T.gC ?_)
  refine PySem.W.callWith_K (h₀ := X.base) I.ok.mod.kin T.kC (thn (ha.run pos pins s σ H _ I h) fun us s1 hh => ?_) he hpl
  obtain ⟨vs, H1, I1, r1, v, ev, q1⟩ := hh
  subst ev
  refine ⟨I1.kIn, ?_⟩
  cases r1 with
  | cons rv rn =>
    rename_i v' us'
    cases rn
    show wpAny _ _ (call (.ref C) [v']) _ _ _
    have hlim := I1.nolimit
    obtain ⟨mb, hb1, hb2⟩ := I1.mod.blt
    have hGl := I1.mod.glob.keeps I1.bk
    have hBl := hb1.keeps I1.bk
    obtain ⟨hp, g, dr, tk, os⟩ := s1
    refine wpAny_call (Nj.made T I1.kIn hlim hGl ⟨mb, hBl, (hb2 "super" (by decide)).trans (by first | rfl | kernel_rfl)⟩ (by have := hr.dp; omega) S.hf S.ht fun h' tk' e d M => ?_)
    show MkP X pins σ Q (.ref e) ⟨h', g, dr, tk', os⟩
    obtain ⟨oe, fv, hoe, hc, hd, hdat, h1⟩ := M.obj
    have hns := M.ns
    obtain ⟨G', g1, g2⟩ := restrict h' fun b => decide (b ≠ e)
    have gk : ∀ b, b ≠ e → G'.get? b = h'.get? b := fun b hb => g1 b (decide_eq_true hb)
    have ge : G'.get? e = none := g2 e (by simp)
    have old : ∀ b o, hp.get? b = some o → G'.get? b = some o := fun b o q => (gk b (Nat.ne_of_lt (Nat.lt_of_lt_of_le (Heap.lt_size q) M.new))).trans (M.keep b o q)
    have ob : ObjOk X.prog X.w (upd H1 d (.xd [(("name" : Str), v)])) G' d (.xd [(("name" : Str), v)]) :=
      ⟨_, hns.at (fun o q => (gk d M.dne).trans q), fun f => relO_nj rv f⟩
    have J : Inv X pins σ (upd H1 d (.xd [(("name" : Str), v)])) ⟨G', g, dr, tk', os⟩ := I1.laid (t' := tk') old M.dbig ob
    refine ⟨e, oe, fv, ⟨G', g, dr, tk', os⟩, _, .ref C, some d, rfl, J, fun b o q => ?_, ge, hoe, ⟨hc, hd⟩, hdat, h1, ?_, rfl, I1.bare, raises_own T.exC T.tyC, q1 d (I1.hok.fresh M.dbig)⟩
    · by_cases hb : b = e
      · have q' : G'.get? b = some o := q
        rw [hb, ge] at q'; cases q'
      · exact (gk b hb).symm.trans q
    · rw [upd_ne (Ne.symm M.dne)]
      exact I1.hok.fresh M.new
end
end L2

set_option maxRecDepth 100000
set_option maxHeartbeats 4000000
/-! DL, part 13: what may raise. -/
namespace L2
open PySem PySem.Spec PyProof.Rows
section
variable {X : Cx} {C : Addr} {bmB : List Value} {B newId initId : String}
/-- X() -/
theorem pmk_own0 {x : Str} {p pos : Pos} (F : ExcBaseFacts B newId initId bmB) (q : PySem.W.excIn X.K C bmB newId = true) (gC : X.mg x = some (.ref C)) (kC : PySem.W.keepIn X.K (.ref C) = true) (r : Raises X (.ref C)) (hg : Gl X x)
    (hdb : (x == ("__debug__" : Str)) = false := by decide) : PMk X (.Call (.Name x p) [] [] pos) (fun _ H Q => Q (.ref C) none H) := by
  intro pins s σ H Q I h
  refine wpAny_Call_Name_kw (ld_glob I hg gC ?_ hdb)
  refine PySem.W.callWith_K0 I.kIn kC ?_
  show wpAny _ _ (call (.ref C) []) _ _ _
  obtain ⟨bm, N, nm, qn, bs, hdct, sn, sub, ab, col, dd, k0, k1, k2, k3, k5, mN, hC, hN, hni, T⟩ := exc_obj I.kIn q
  refine wpAny_call_exc_subT F T hC hN hni (fun h' e hm => ?_) (by show 0 ≤ sizeLine; exact Nat.zero_le _)
  exact mk_of I hm r h (I.hok.gone hm.new)
end
end L2
namespace DL
open PySem PySem.Spec PyProof.Rows L2
section
variable {P : Program} {w : World} {K : PySem.W.Frag} {mg : Str → Option Value} {base : Heap}
def spX (K : PySem.W.Frag) (pre : List PyData → PyData → Prop) (preE : List PyData → Value → Option PyData → Prop) : Sp := fun vs H Q E => ∃ G ds, Ex G H ∧ DpAll K G vs ds ∧
  ((∃ d, pre ds d ∧ ∀ v G' H', Nx G H G' H' → Dp K G' v d → Q v H') ∨ (∃ cls dd, preE ds cls dd ∧ ∀ da G' H', Nx G H G' H' → XOk K dd da G' H' → E cls da H'))
structure FnX (P : Program) (w : World) (K : PySem.W.Frag) (mg : Str → Option Value) (base : Heap) (x : Str) (k : Nat) (ps : List Str) (sp : Sp) : Prop where
  ex : ∃ f fd, FnOk P w K mg base (L2.CX P w) k f fd ps sp ∧ mg x = some (.ref f) ∧ PySem.W.keepIn K (.ref f) = true ∧ Binds K fd ps []
abbrev defX (P : Program) (w : World) (K : PySem.W.Frag) (mg : Str → Option Value) (base : Heap) (N : List Str) (qual : Str) (sc : Scope) (f : Addr) (cdv : Value) (A : Around) (outer : List Env) (s : Shared) (H : Hp) (E : XK) (k : Nat) (nd : N.Nodup)
    (hr : Room k (A.deeper (envOfC qual sc s.heap.objs.size f cdv))) : Ctx P w K mg base :=
  bodyC (cxOf (L2.CX P w) P w K mg base N qual sc f cdv A outer s H E) nd rfl k hr
theorem fnX_ok {x qual : Str} {st : Stmt} {f : Addr} {fd : FuncData} {N ps : List Str} {k : Nat} {pre : List PyData → PyData → Prop} {preE : List PyData → Value → Option PyData → Prop} (F : Fun K x qual st f fd) (S : FnScope N ps (defScope st)) (hl : ∀ ds d, pre ds d → ds.length = ps.length) (hl2 : ∀ ds c d, preE ds c d → ds.length = ps.length)
    (hb : ∀ (cdv : Value) (A : Around) (outer : List Env) (s : Shared) (H : Hp) (E : XK) (hr : Room k (A.deeper (envOfC qual (defScope st) s.heap.objs.size f cdv))) (ds : List PyData) (d : PyData), pre ds d →
      DS (defX P w K mg base N qual (defScope st) f cdv A outer s H E k S.nd hr) (defBody st) (entry N ds) { nx := fun _ => d = .none, rt := fun _ r => r = d })
    (hb2 : ∀ (cdv : Value) (A : Around) (outer : List Env) (s : Shared) (H : Hp) (E : XK) (hr : Room k (A.deeper (envOfC qual (defScope st) s.heap.objs.size f cdv))) (ds : List PyData) (c : Value) (d : Option PyData), preE ds c d →
      DS (defX P w K mg base N qual (defScope st) f cdv A outer s H E k S.nd hr) (defBody st) (entry N ds) { er := fun c' d' => c' = c ∧ d' = d }) : FnOk P w K mg base (L2.CX P w) (k + 1) f fd ps (spX K pre preE) := by
  refine F.okX S (fun vs H Q E h => ?_) (fun cdv A outer s H vs Q E hr h => ?_)
  · obtain ⟨G, ds, e, t, h | h⟩ := h
    · obtain ⟨d, hp, _⟩ := h
      rw [dpa_len t]
      exact hl ds d hp
    · obtain ⟨c, d, hp, _⟩ := h
      rw [dpa_len t]
      exact hl2 ds c d hp
  · refine ⟨wS (defX P w K mg base N qual (defScope st) f cdv A outer s H E k S.nd hr) (defBody st), pss_w (C := defX P w K mg base N qual (defScope st) f cdv A outer s H E k S.nd hr) (), ?_⟩
    have tk : ∀ i, Takes ((defX P w K mg base N qual (defScope st) f cdv A outer s H E k S.nd hr).X i) (fun cls d _ H => E cls d H) := fun _ => takes_of rfl rfl rfl rfl
    obtain ⟨G, ds, e, t, h | h⟩ := h
    · obtain ⟨d, hp, q⟩ := h
      refine hb cdv A outer s H E hr ds d hp G H _ (fun cls d _ H => E cls d H) _ G H tk (Nx.refl e) (rl_start e t) ⟨fun rho σ G' H' z x r => ?_, fun _ d' v _ G' H' z x _ tv => ?_, fun _ _ _ _ z => z.elim, fun _ _ _ _ z => z.elim, fun _ _ _ _ _ _ z => z.elim⟩
      · have z' : d = .none := z
        exact q .non G' H' x (z' ▸ .non)
      · have z' : d' = d := z
        exact q v G' H' x (z' ▸ tv)
    · obtain ⟨c, d, hp, q⟩ := h
      refine hb2 cdv A outer s H E hr ds c d hp G H _ (fun cls d _ H => E cls d H) _ G H tk (Nx.refl e) (rl_start e t) ⟨fun rho σ G' H' z x r => z.elim, fun _ d' v _ G' H' z x _ tv => z.elim, fun _ _ _ _ z => z.elim, fun _ _ _ _ z => z.elim, fun cls dd da σ G' H' z x xo => ?_⟩
      obtain ⟨z1, z2⟩ := (show cls = c ∧ dd = d from z)
      subst z1 z2
      exact q da G' H' x xo
variable {C : Ctx P w K mg base} {rho rho' : List SV} {e a b c tg : Expr} {es : List Expr} {d : PyData} {ds : List PyData} {vs : List Nat} {pos p p2 : Pos} {rest : List Stmt} {Pt : Post} {res res' : PyData → Prop} {er : Value → Option PyData → Prop}
/-- an expression that comes to one of res, or raises one of er -/
def EX (C : Ctx P w K mg base) (rho : List SV) (e : Expr) (res : PyData → Prop) (er : Value → Option PyData → Prop) : Prop := ∀ (W : WX), (∀ i, Takes (C.X i) W) → ∀ B σ G H Q, Rl K B G H rho σ → (∀ v d G' H', res d → Nx G H G' H' → Dp K G' v d → Q v H') →
  (∀ cls dd da G' H', er cls dd → Nx G H G' H' → XOk K dd da G' H' → W cls da σ H') → wE C e σ H Q
theorem EF.x (h : EF C rho e d) (hr : res d) : EX C rho e res er := fun W tk B σ G H Q r q _ => h B σ G H Q r fun v G' H' x t => q v d G' H' hr x t
theorem Ctx.fnX {f : Addr} {fd : FuncData} {k : Nat} {ps : List Str} {sp : Sp} (C : Ctx P w K mg base) (i : C.I) (F : FnOk P w K mg base (L2.CX P w) k f fd ps sp) : FnOk (C.X i).prog (C.X i).w (C.X i).K (C.X i).mg (C.X i).base (L2.CX (C.X i).prog (C.X i).w) k f fd ps sp := by
  have h1 := C.hP i
  have h2 := C.hw i
  have h3 := C.hK i
  have h4 := C.hmg i
  have h5 := C.hb i
  generalize C.X i = X at h1 h2 h3 h4 h5 ⊢
  subst h1 h2 h3 h4 h5
  exact F
theorem ex_call {x : Str} {k : Nat} {ps : List Str} {pre : List PyData → PyData → Prop} {preE : List PyData → Value → Option PyData → Prop} (F : FnX P w K mg base x k ps (spX K pre preE)) (ha : EA C rho (e :: es) ds) (h : (∃ d, pre ds d ∧ res d) ∨ (∃ cls dd, preE ds cls dd ∧ er cls dd)) (hk : k ≤ C.j) (hg : ∀ i, Gl (C.X i) x) (hdb : (x == ("__debug__" : Str)) = false := by decide)
    (he : ∀ i, starEach (e :: es) (C.X i).env = (false, eval e (C.X i).env) :: starEach es (C.X i).env := by intro _; rfl) (hpl : ∀ i, (backTo pos (starEach es (C.X i).env)).any (·.1) = false := by intro _; rfl) : EX C rho (.Call (.Name x p) (e :: es) [] pos) res er := by
  obtain ⟨f, fd, F, hm, hkp, hb⟩ := F.ex
  intro W tk B σ G H Q r q qe i pins s I
  refine (pe_callS (E := WE W) (C.fnX i F) ((C.room i).mono hk) (hg i) (by rw [C.hmg]; exact hm) (by rw [C.hK]; exact hkp) (by rw [C.hK]; exact hb) (fun σ => passAt (tk i) σ) (pa_w i) hdb (he i) (hpl i)).run pins s σ H Q I ?_
  refine ha B σ G H _ r fun vs G1 H1 x1 t1 => ?_
  refine ⟨G1, ds, x1.s, t1, ?_⟩
  rcases h with ⟨d, hp, hr⟩ | ⟨cls, dd, hp, hr⟩
  · exact .inl ⟨d, hp, fun v G2 H2 x2 t2 => q v d G2 H2 hr (x1.trans x2) t2⟩
  · exact .inr ⟨cls, dd, hp, fun da G2 H2 x2 xo => qe cls dd da G2 H2 hr (x1.trans x2) xo⟩
theorem ex_ix (j : Nat) (h : EX C rho a (fun d => d = .tuple ds) er) (hj : ds[j]? = some d) {kk : Nat} {cp : Pos} : EX C rho (.Subscript a (.Constant (.int (j : Int)) kk cp) pos) (fun r => r = d) er := by
  intro W tk B σ G H Q r q qe i pins s I
  refine (pe_ix (C.k i (fun k => IxR (C.X i) (rIxT k)) ix_tup) (pe_w (C := C) (e := a) i) (pe_w (C := C) (e := .Constant (.int (j : Int)) kk cp) i) (by intro _ _; rfl)).run pins s σ H Q I ?_
  refine h W tk B σ G H _ r (fun v d' G1 H1 hd x1 t1 => ?_) qe
  subst hd
  refine ef_int B σ G1 H1 _ (r.nx x1) fun y G2 H2 x2 t2 => ?_
  obtain ⟨a', us, rfl, s1, t1'⟩ := dp_tup (dp_ex x2.g t1)
  obtain ⟨v, e1, e2⟩ := atI_dpa t1' (atI_nat hj)
  exact ⟨a', us, j, v, rfl, dp_int t2, SqT.ex x2.s s1, e1, q v d G2 H2 rfl (x1.trans x2) e2⟩
theorem ex_if {k : Bool} (hc : ET C rho c k) (h1 : k = true → EX C rho a res er) (h2 : k = false → EX C rho b res er) : EX C rho (.IfExp c a b pos) res er := by
  intro W tk B σ G H Q r q qe i pins s I
  refine (pe_ifExp (pt_w (C := C) (e := c) i) (pe_w (C := C) (e := a) i) (pe_w (C := C) (e := b) i)).run pins s σ H Q I ?_
  refine hc B σ G H _ r fun G1 H1 x1 => ?_
  cases k with
  | true => exact iteT (h1 rfl W tk B σ G1 H1 Q (r.nx x1) (fun v d G2 H2 hr x2 t2 => q v d G2 H2 hr (x1.trans x2) t2) fun cls dd da G2 H2 hr x2 xo => qe cls dd da G2 H2 hr (x1.trans x2) xo)
  | false => exact iteF (h2 rfl W tk B σ G1 H1 Q (r.nx x1) (fun v d G2 H2 hr x2 t2 => q v d G2 H2 hr (x1.trans x2) t2) fun cls dd da G2 H2 hr x2 xo => qe cls dd da G2 H2 hr (x1.trans x2) xo)
/-! statements -/
theorem ds_exprX (h : EX C rho e res er) (he : ∀ c d, er c d → Pt.er c d) (t : (∃ d, res d) → DS C rest rho Pt) (hs : ∀ i, swapsWith e none pos.line (C.X i).env = pure false := by intro _; rfl) : DS C (.Expr e pos :: rest) rho Pt :=
  DS.cons (t := tDrop (wE C e)) (fun i => ps_expr (pe_w i) (hs i)) fun G0 H0 D W σ G H tk x r kk => h W tk H0 σ G H _ r (fun v d G' H' hr x2 tv => t ⟨d, hr⟩ G0 H0 D W σ G' H' tk (x.trans x2) (r.nx x2) kk) fun cls dd da G' H' hr x2 xo => kk.er cls dd da σ G' H' (he cls dd hr) (x.trans x2) xo
theorem ds_asgX (d : PyData) (vs : List Nat) (h : EX C rho e (fun r => r = d) er) (he : ∀ c d, er c d → Pt.er c d) (g : EG C d rho rho' vs tg) (t : DS C rest rho' Pt) (hs : ∀ i, swapsWithSole [tg] e pos.line (C.X i).env = pure false := by intro _; rfl) (hw : ∀ i, swappedStores [tg] e (C.X i).env = pure none := by intro _; rfl)
    (h1 : ∀ i, (assignEach [tg] (C.X i).env).map (·.2) = [assign tg (C.X i).env] := by intro _; rfl) : DS C (.Assign [tg] e pos :: rest) rho Pt :=
  DS.cons (t := tAsg (wE C e) (wG C tg)) (fun i => ps_asg (pe_w i) (pg_w i) (hs i) (hw i) (h1 i)) fun G0 H0 D W σ G H tk x r kk => h W tk H0 σ G H _ r (fun v d' G' H' hr x2 tv => g H0 σ G' H' v _ (r.nx x2) (by rw [show d' = d from hr] at tv; exact tv) fun σ' r' _ =>
    t G0 H0 D W σ' G' H' tk (x.trans x2) r' kk) fun cls dd da G' H' hr x2 xo => kk.er cls dd da σ G' H' (he cls dd hr) (x.trans x2) xo
theorem ds_retX (h : EX C rho e res er) (hr : ∀ d, res d → Pt.rt rho d) (he : ∀ c d, er c d → Pt.er c d) : DS C (.Return (some e) pos :: rest) rho Pt :=
  DS.cons (t := tRet (wE C e)) (fun i => ps_ret (pe_w i)) fun G0 H0 D W σ G H tk x r kk => h W tk H0 σ G H _ r (fun v d G' H' hd x2 tv => kk.rt rho d v σ G' H' (hr d hd) (x.trans x2) (r.nx x2) tv) fun cls dd da G' H' hd x2 xo => kk.er cls dd da σ G' H' (he cls dd hd) (x.trans x2) xo
/-- raise NotJoinable(e) -/
theorem ds_raiseNj {cN fI : Addr} {file : Str} {e : Expr} (T : Nj.Txt K mg cN fI file) (hf : ((P.main.file : Str) == file) = true) (ht : (P.main.scope.names.lookup ("super" : Str)).isSome = false) (h : EF C rho e d) (hp : Pt.er (.ref cN) (some d)) (hg : ∀ i, Gl (C.X i) "NotJoinable" := by intro _; rfl)
    (he : ∀ i, starEach (e :: []) (C.X i).env = (false, eval e (C.X i).env) :: starEach [] (C.X i).env := by intro _; rfl) : DS C (.Raise (some (.Call (.Name "NotJoinable" p) [e] [] p2)) none pos :: rest) rho Pt := fun G0 H0 D W σ G H tk x r kk i pins s I =>
  (pss_cons (ps_raise (C.calm i) (tk i) (pmk_nj (file := file) (by rw [C.hK, C.hmg]; exact T) ⟨by rw [C.hP]; exact hf, by rw [C.hP]; exact ht⟩ (C.room i) (pa_cons (pe_w (C := C) (e := e) i) pa_nil (he i)) (hg i) (he i))) (pss_w (C := C) (sts := rest) i)).run pins s σ H D I (h H0 σ G H _ r fun v G1 H1 x1 t1 => by
    refine ⟨v, rfl, fun d' hd => kk.er _ (some d) (some d') σ G1 _ hp (x.trans (x1.trans (Nx.priv x1.s hd))) ⟨d', v, rfl, upd_same, t1⟩⟩)
/-- raise X(), an own class of errors -/
theorem ds_raise0 {cX : Addr} {x : Str} (q : PySem.W.excIn K cX [.type "ValueError", .type "Exception", .type "BaseException", .type "object"] "ValueError.__new__" = true) (gC : mg x = some (.ref cX)) (kC : PySem.W.keepIn K (.ref cX) = true) (hs : PySem.W.subIn K (.ref cX) (.type "BaseException") = some true) (hty : PySem.W.typeIn K (.ref cX) = some (.type "type"))
    (hp : Pt.er (.ref cX) none) (hg : ∀ i, Gl (C.X i) x) (hdb : (x == ("__debug__" : Str)) = false := by decide) : DS C (.Raise (some (.Call (.Name x p) [] [] p2)) none pos :: rest) rho Pt := fun G0 H0 D W σ G H tk y r kk i pins s I =>
  (pss_cons (ps_raise (C.calm i) (tk i) (pmk_own0 PySem.F.excBase_ValueError (by rw [C.hK]; exact q) (by rw [C.hmg]; exact gC) (by rw [C.hK]; exact kC) (raises_own (by rw [C.hK]; exact hs) (by rw [C.hK]; exact hty)) (hg i) hdb)) (pss_w (C := C) (sts := rest) i)).run pins s σ H D I
    (kk.er _ none none σ G H hp y rfl)
end
end DL

set_option maxRecDepth 100000
set_option maxHeartbeats 4000000
namespace Fs
open PySem L2 DL NS
local macro_rules | `(tactic| walk_at "vis") => `(tactic| (intro _; first | exact Or.inl rfl | exact Or.inr (Or.inl rfl) | exact Or.inr (Or.inr rfl)))
local macro_rules | `(tactic| walk_at "loc") => `(tactic| (intro _; first | exact Or.inl rfl | exact Or.inr rfl))
local macro_rules | `(tactic| walk_at "fnl") => `(tactic| (intro _; first | exact Or.inr rfl | exact Or.inl rfl))
local macro_rules | `(tactic| walk_at "len") => `(tactic| (simp only [List.length_append, List.length_map, List.length_nil, List.length_cons]; omega))
local macro_rules | `(tactic| walk_at "blk") => `(tactic| (intro _; kernel_rfl))
section
variable {P : Program} {w : World} {K : PySem.W.Frag} {mg : Str → Option Value} {base : Heap} {f : Addr} {fd : FuncData}


/-! ### the walk's mirrors -/
def turnW (barred : List Str) (place : Nat) (st : List Pr × List Stp) (o : Out) : List Pr × List Stp :=
  if o.1 ∈ barred then st else
    (if o.2 ∈ st.1 then st.1 else st.1 ++ [o.2], st.2 ++ [((place : Int), o.1, (((if o.2 ∈ st.1 then st.1 else st.1 ++ [o.2]).idxOf o.2 : Nat) : Int))])
def walkGo (p q : Part) (bad : List Pr) : Nat → Nat → List Pr × List Stp → List Pr × List Stp
  | 0, _, st => st
  | n + 1, place, st => match st.1[place]? with
    | none => st
    | some z => walkGo p q bad n (place + 1) ((stepsOut p q z).foldl (turnW (cuts p q z bad) place) st)
def walkAll (p q : Part) : List Pr × List Stp := walkGo p q (badOf p q) 20 0 ([(0, 0)], [])
def ePw (st : List Pr × List Stp) : PyData := .tuple [.tuple (st.1.map ePr), .tuple ((sortE eStp st.2).map eStp)]
/-! ### check_joinable -/
variable {cN cF fI : Addr} {file : Str}
abbrev s_check_joinable : Stmt := top 19
theorem sc_check_joinable : FnScope ["one", "other", "call"] ["one", "other"] (defScope s_check_joinable) := ⟨rfl, rfl, rfl, by decide +kernel, rfl, by decide +kernel, by decide +kernel⟩
def preChk (ds : List PyData) (r : PyData) : Prop := ∃ (d e : PyData) (p q : Part), Soft d p ∧ Soft e q ∧ unj p q = [] ∧ ds = [d, e] ∧ r = .none
def errChk (cN : Addr) (ds : List PyData) (c : Value) (x : Option PyData) : Prop := ∃ (d e : PyData) (p q : Part) (t : Str) (ts : List Str), Soft d p ∧ Soft e q ∧ sortE .str (unj p q) = t :: ts ∧ ds = [d, e] ∧ c = .ref cN ∧ x = some (.str t)
theorem ok_check_joinable (F : Fun K "check_joinable" "check_joinable" s_check_joinable f fd) (T : Blt mg) (h_unjoinable : Fn P w K mg base "unjoinable" 5 ["one", "other"] (spD K preUnj)) (TN : Nj.Txt K mg cN fI file) (hf : ((P.main.file : Str) == file) = true) (ht : (P.main.scope.names.lookup ("super" : Str)).isSome = false) :
    FnOk P w K mg base (L2.CX P w) 6 f fd ["one", "other"] (spX K preChk (errChk cN)) :=
  fnX_ok F sc_check_joinable (fun ds d h => by obtain ⟨_, _, _, _, _, _, _, rfl, _⟩ := h; rfl) (fun ds c d h => by obtain ⟨_, _, _, _, _, _, _, _, _, rfl, _⟩ := h; rfl)
  (fun cdv A outer s0 H E hr ds d hp => by
    obtain ⟨d1, d2, p, q, g1, g2, hu, rfl, rfl⟩ := hp
    refine ds_for (sortE .str (unj p q)) .str ?_ (fun i r => True) trivial ?_ ?_ (fun _ => passes_of rfl)
    · refine (ei_tup (ef_call h_unjoinable (ea_cons (ef_var 0 rfl rfl (by walk_at "vis")) (ea_cons (ef_var 1 rfl rfl (by walk_at "vis")) ea_nil)) ?_ (Nat.le_of_ble_eq_true rfl) (by intro _; rfl)))
      exact ⟨d1, d2, p, q, g1, g2, rfl, rfl⟩
    · intro i x r hx _
      rw [hu] at hx
      simp [sortE] at hx
    · intro r _
      exact ds_nil rfl)
  (fun cdv A outer s0 H E hr ds c d hp => by
    obtain ⟨d1, d2, p, q, t, ts, g1, g2, hu, rfl, rfl, rfl⟩ := hp
    refine ds_for (sortE .str (unj p q)) .str ?_ (fun i r => i = 0 ∧ r = entry ["one", "other", "call"] [d1, d2]) ⟨rfl, rfl⟩ ?_ ?_ (fun _ => passes_of rfl)
    · refine (ei_tup (ef_call h_unjoinable (ea_cons (ef_var 0 rfl rfl (by walk_at "vis")) (ea_cons (ef_var 1 rfl rfl (by walk_at "vis")) ea_nil)) ?_ (Nat.le_of_ble_eq_true rfl) (by intro _; rfl)))
      exact ⟨d1, d2, p, q, g1, g2, rfl, rfl⟩
    · rintro i x r hx ⟨rfl, rfl⟩
      rw [hu] at hx
      have hx : t = x := Option.some.inj hx
      subst hx
      refine ⟨_, [2], (eg_name 2 rfl (by decide) (by walk_at "loc") (by walk_at "fnl")), ?_⟩
      exact ds_raiseNj TN hf ht (ef_var 2 rfl rfl (by walk_at "vis")) ⟨rfl, rfl⟩
    · rintro r ⟨h0, _⟩
      rw [hu] at h0
      cases h0)
end
end Fs

set_option maxRecDepth 100000
set_option maxHeartbeats 2000000
/-! DL, part 14: three names at once; index of pairs. -/
namespace DL
open PySem PySem.Spec PyProof.Rows L2
section
variable {P : Program} {w : World} {K : PySem.W.Frag} {mg : Str → Option Value} {base : Heap} {C : Ctx P w K mg base} {rho rho' : List SV} {e a b c o tg : Expr} {es : List Expr} {d : PyData} {ds : List PyData} {vs : List Nat} {pos p p2 : Pos} {rest : List Stmt} {Pt : Post}
theorem NewOk.up {H G1 H1 G2 H2 : Hp} {sv : SV} {v : V} (n : NewOk K H G1 H1 sv v) (x : Nx G1 H1 G2 H2) : NewOk K H G2 H2 sv v := by
  cases sv with
  | dat d => exact dp_ex x.g n
  | obj phi m => obtain ⟨a, e, q⟩ := n; exact ⟨a, e, m _ _ _ x.g q⟩
  | unk => trivial
  | pin p cells => exact n.elim
  | own ds => obtain ⟨p, us, e, q1, q2, q3, q4⟩ := n; exact ⟨p, us, e, q1, x.n p (by rw [q3]; exact Option.some_ne_none _) q2, x.h _ _ q3, dpa_ex x.g q4⟩
theorem NewOk.nopin {H G' H' : Hp} {sv : SV} {v : V} (n : NewOk K H G' H' sv v) : ∀ p cells, sv ≠ .pin p cells := fun p cells z => by subst z; exact n.elim
theorem NewOk.two {H G1 H1 H1' G' H' : Hp} {ds1 ds2 : List PyData} {v1 v2 : V} (n1 : NewOk K H G1 H1 (.own ds1) v1) (e : Ex H1 H1') (n2 : NewOk K H1' G' H' (.own ds2) v2) : ∀ l, v1 = .ref l → v2 ≠ .ref l := fun l e1 e2 => by
  obtain ⟨p1, us1, rfl, _, _, q1, _⟩ := n1
  obtain ⟨p2, us2, rfl, q2, _⟩ := n2
  cases e1
  cases e2
  rw [e _ _ q1] at q2
  cases q2
theorem ds_par3V (k l m : Nat) (sv1 sv2 sv3 : SV) {x y z : Str} {px py pz pt : Pos} {kt k2 : Nat} {pt2 : Pos} (h1 : EV C rho a sv1) (h2 : EV C rho b sv2) (h3 : EV C rho c sv3) (t : DS C rest (((rho.set k sv1).set l sv2).set m sv3) Pt) (hN : C.N[k]? = some x) (hN2 : C.N[l]? = some y) (hN3 : C.N[m]? = some z) (hkl : k ≠ l) (hkm : k ≠ m) (hlm : l ≠ m)
    (hx : ∀ i, (C.X i).env.scope.names.lookup x = some .local) (hy : ∀ i, (C.X i).env.scope.names.lookup y = some .local) (hz : ∀ i, (C.X i).env.scope.names.lookup z = some .local)
    (hw : ∀ i, swappedStores [.Tuple [.Name x px, .Name y py, .Name z pz] kt pt] (.Tuple [a, b, c] k2 pt2) (C.X i).env = pure (some [x, y, z])) (hs : ∀ i, swapsWithSole [.Tuple [.Name x px, .Name y py, .Name z pz] kt pt] (.Tuple [a, b, c] k2 pt2) pos.line (C.X i).env = pure false := by intro _; rfl)
    (ha : ∀ i, starEach (a :: [b, c]) (C.X i).env = (false, eval a (C.X i).env) :: starEach [b, c] (C.X i).env := by intro _; rfl) (hb : ∀ i, starEach (b :: [c]) (C.X i).env = (false, eval b (C.X i).env) :: starEach [c] (C.X i).env := by intro _; rfl) (hc : ∀ i, starEach (c :: []) (C.X i).env = (false, eval c (C.X i).env) :: starEach [] (C.X i).env := by intro _; rfl) :
    DS C (.Assign [.Tuple [.Name x px, .Name y py, .Name z pz] kt pt] (.Tuple [a, b, c] k2 pt2) pos :: rest) rho Pt :=
  DS.cons (t := tPar3 k l m (tCons (wE C a) (tCons (wE C b) (tCons (wE C c) tNil)))) (fun i => ps_par3 (C.calm i) (by rw [C.hN]; exact C.nd) (by rw [C.hN]; exact hN) (by rw [C.hN]; exact hN2) (by rw [C.hN]; exact hN3) hkl hkm hlm (hx i) (hy i) (hz i) (pa_cons (pe_w i) (pa_cons (pe_w i) (pa_cons (pe_w i) pa_nil (hc i)) (hb i)) (ha i)) (hw i) (hs i))
    fun G0 H0 D W σ G H tk xx r kk => h1 H0 σ G H _ r fun v1 G1 H1 x1 n1 => h2 H0 σ G1 H1 _ (r.nx x1) fun v2 G2 H2 x2 n2 => h3 H0 σ G2 H2 _ ((r.nx x1).nx x2) fun v3 G3 H3 x3 n3 => by
      refine ⟨v1, v2, v3, rfl, ?_⟩
      have r3 := ((r.nx x1).nx x2).nx x3
      have ra := r3.put (k := k) xx.h (n1.up (x2.trans x3)) (fun ds e j es l' _ q1 q2 => n1.apart r ds e j es l' q1 q2) r.pinned
      have rb := ra.put (k := l) (xx.trans x1).h (n2.up x3) (hpi := (r.nx x1).pinned.set n1.nopin) fun ds e j es l' hj q1 q2 => by
        rcases set_get q1 with ⟨rfl, q, hk⟩ | ⟨hkj, q1'⟩
        · rw [set_sig r3.len hk] at q2
          have ev : v1 = .ref l' := Option.some.inj (Option.some.inj q2)
          subst e
          subst q
          exact NewOk.two n1 (Ex.refl _) n2 l' ev
        · rw [List.getElem?_set_ne hkj] at q2
          exact n2.apart (r.nx x1) ds e j es l' q1' q2
      have rc := rb.put (k := m) ((xx.trans x1).trans x2).h n3 (hpi := (((r.nx x1).nx x2).pinned.set n1.nopin).set n2.nopin) fun ds e j es l' hj q1 q2 => by
        rcases set_get q1 with ⟨rfl, q, hk⟩ | ⟨hkj, q1'⟩
        · rw [set_sig ra.len hk] at q2
          have ev : v2 = .ref l' := Option.some.inj (Option.some.inj q2)
          subst e
          subst q
          exact NewOk.two n2 (Ex.refl _) n3 l' ev
        · rw [List.getElem?_set_ne hkj] at q2
          rcases set_get q1' with ⟨rfl, q, hk⟩ | ⟨hkj2, q1''⟩
          · rw [set_sig r3.len hk] at q2
            have ev : v1 = .ref l' := Option.some.inj (Option.some.inj q2)
            subst e
            subst q
            exact NewOk.two n1 x2.h n3 l' ev
          · rw [List.getElem?_set_ne hkj2] at q2
            exact n3.apart ((r.nx x1).nx x2) ds e j es l' q1'' q2
      exact t G0 H0 D W _ G3 H3 tk (((xx.trans x1).trans x2).trans x3) rc kk
theorem ef_ixLV {i : Int} (d : PyData) (h1 : EL C rho a true ds) (h2 : EF C rho b (.int i)) (h : atI ds i = some d) (hs : PlainIx b := by intro _ _; rfl) : EF C rho (.Subscript a b pos) d := ef_ixL h1 h2 h hs
theorem ef_ixTV {i : Int} (d : PyData) (h1 : EL C rho a false ds) (h2 : EF C rho b (.int i)) (h : atI ds i = some d) (hs : PlainIx b := by intro _ _; rfl) : EF C rho (.Subscript a b pos) d := ef_ixT h1 h2 h hs
theorem ex_ixE {er : Value → Option PyData → Prop} (j : Nat) (h : EX C rho a (fun _ => False) er) {kk : Nat} {cp : Pos} : EX C rho (.Subscript a (.Constant (.int (j : Int)) kk cp) pos) (fun _ => False) er := by
  intro W tk B σ G H Q r q qe i pins s I
  refine (pe_ix (C.k i (fun k => IxR (C.X i) (rIxT k)) ix_tup) (pe_w (C := C) (e := a) i) (pe_w (C := C) (e := .Constant (.int (j : Int)) kk cp) i) (by intro _ _; rfl)).run pins s σ H Q I ?_
  exact h W tk B σ G H _ r (fun v d' G1 H1 hd x1 t1 => hd.elim) qe
theorem ds_asgE {er : Value → Option PyData → Prop} (h : EX C rho e (fun _ => False) er) (he : ∀ c d, er c d → Pt.er c d) (hs : ∀ i, swapsWithSole [tg] e pos.line (C.X i).env = pure false := by intro _; rfl) (hw : ∀ i, swappedStores [tg] e (C.X i).env = pure none := by intro _; rfl)
    (h1 : ∀ i, (assignEach [tg] (C.X i).env).map (·.2) = [assign tg (C.X i).env] := by intro _; rfl) : DS C (.Assign [tg] e pos :: rest) rho Pt :=
  DS.cons (t := tAsg (wE C e) (wG C tg)) (fun i => ps_asg (pe_w i) (pg_w i) (hs i) (hw i) (h1 i)) fun G0 H0 D W σ G H tk x r kk => h W tk H0 σ G H _ r (fun v d' G' H' hr x2 tv => hr.elim) fun cls dd da G' H' hr x2 xo => kk.er cls dd da σ G' H' (he cls dd hr) (x.trans x2) xo
end
end DL

set_option maxRecDepth 100000
set_option maxHeartbeats 4000000
namespace Fs
open PySem L2 DL NS
local macro_rules | `(tactic| walk_at "vis") => `(tactic| (intro _; first | exact Or.inl rfl | exact Or.inr (Or.inl rfl) | exact Or.inr (Or.inr rfl)))
local macro_rules | `(tactic| walk_at "loc") => `(tactic| (intro _; first | exact Or.inl rfl | exact Or.inr rfl))
local macro_rules | `(tactic| walk_at "fnl") => `(tactic| (intro _; first | exact Or.inr rfl | exact Or.inl rfl))
local macro_rules | `(tactic| walk_at "len") => `(tactic| (simp only [List.length_append, List.length_map, List.length_nil, List.length_cons]; omega))
local macro_rules | `(tactic| walk_at "blk") => `(tactic| (intro _; kernel_rfl))
section
variable {P : Program} {w : World} {K : PySem.W.Frag} {mg : Str → Option Value} {base : Heap} {f : Addr} {fd : FuncData}


variable {C : Ctx P w K mg base} {rho : List SV} {a b o e : Expr} {apos cpos : Pos}
theorem ef_indexPr {l : List Pr} {x : Pr} (h : EL C rho o true (l.map ePr)) (ha : EF C rho e (ePr x)) (hx : x ∈ l) (hbase : ∀ i, attributeBase o "index" (C.X i).env (eval o (C.X i).env) = eval o (C.X i).env := by intro _; rfl)
    (hfew : ∀ i, ((backTo cpos (starEach (e :: []) (C.X i).env)).all (fun x => !x.1) && (backToKw cpos (keywordEach [] (C.X i).env)).all (fun x => x.1.isSome)
      && decide ((e :: []).length + ([] : List Keyword).length + (if ([] : List Keyword).isEmpty then 0 else 1) < 30)) = true := by intro _; rfl)
    (hline : (apos.endLine == cpos.line) = true := by rfl) (hs : ∀ i, starEach (e :: []) (C.X i).env = (false, eval e (C.X i).env) :: starEach [] (C.X i).env := by intro _; rfl) : EF C rho (.Call (.Attribute o "index" apos) [e] [] cpos) (.int ((l.idxOf x : Nat) : Int)) := by
  have hlt : l.idxOf x < l.length := List.idxOf_lt_length_iff.mpr hx
  have hget : l[l.idxOf x]? = some x := by rw [List.getElem?_eq_getElem hlt, List.getElem_idxOf]
  refine ef_index (z := ePr x) (n := 1) (m := 2) h ha ⟨by rw [List.getElem?_map, hget]; rfl, by rw [eqv_pr]; simp, fun m z' hm hz' => ?_⟩ sh_pr sh_prs (by decide) (by decide) hbase hfew hline hs
  rw [List.getElem?_map] at hz'
  cases hq : l[m]? with
  | none => rw [hq] at hz'; cases hz'
  | some y =>
    rw [hq] at hz'
    have hz2 : ePr y = z' := Option.some.inj hz'
    subst hz2
    rw [eqv_pr, decide_eq_false_iff_not]
    rintro rfl
    have hl2 : m < l.length := (List.getElem?_eq_some_iff.mp hq).1
    have := List.not_of_lt_findIdx (p := fun z => z == y) (xs := l) (i := m) hm
    rw [List.getElem?_eq_getElem hl2] at hq
    have hq2 := Option.some.inj hq
    simp [hq2] at this
theorem lead_rng {p : Part} (hs : p.Small) {k : Int} {c : Str} {m : Int} (h : m ∈ lead p k c) : 0 ≤ m ∧ m < p.many := by
  obtain ⟨s, hs', rfl⟩ := List.mem_map.mp h
  obtain ⟨_, _, h3, h4⟩ := hs.rng s (List.mem_filter.mp hs').1
  exact ⟨h3, h4⟩
theorem sout_every {p q : Part} (hs : p.Small) (ht : q.Small) {z : Pr} (hz : z ∈ every p q) {o : Out} (ho : o ∈ stepsOut p q z) : o.2 ∈ every p q := by
  obtain ⟨z1, z2⟩ := mem_every.mp hz
  have h5 := mem_firsts.mp (mem_sortE.mp ho)
  unfold rawOut at h5
  rw [mem_every]
  rcases List.mem_append.mp h5 with h5 | h5
  · rcases List.mem_append.mp h5 with h5 | h5
    · obtain ⟨s, hs', rfl⟩ := List.mem_map.mp h5
      obtain ⟨_, _, h3, h4⟩ := hs.rng s (List.mem_filter.mp hs').1
      exact ⟨⟨h3, h4⟩, z2⟩
    · obtain ⟨s, hs', rfl⟩ := List.mem_map.mp h5
      obtain ⟨_, _, h3, h4⟩ := ht.rng s (List.mem_filter.mp hs').1
      exact ⟨z1, ⟨h3, h4⟩⟩
  · obtain ⟨c, _, h6⟩ := List.mem_flatMap.mp h5
    obtain ⟨m, hm, h7⟩ := List.mem_flatMap.mp h6
    obtain ⟨i, hi, rfl⟩ := List.mem_map.mp h7
    exact ⟨lead_rng hs hm, lead_rng ht hi⟩
end
end Fs

set_option maxRecDepth 100000
set_option maxHeartbeats 4000000
namespace Fs
open PySem L2 DL NS
local macro_rules | `(tactic| walk_at "vis") => `(tactic| (intro _; first | exact Or.inl rfl | exact Or.inr (Or.inl rfl) | exact Or.inr (Or.inr rfl)))
local macro_rules | `(tactic| walk_at "loc") => `(tactic| (intro _; first | exact Or.inl rfl | exact Or.inr rfl))
local macro_rules | `(tactic| walk_at "fnl") => `(tactic| (intro _; first | exact Or.inr rfl | exact Or.inl rfl))
local macro_rules | `(tactic| walk_at "len") => `(tactic| (simp only [List.length_append, List.length_map, List.length_nil, List.length_cons]; omega))
local macro_rules | `(tactic| walk_at "blk") => `(tactic| (intro _; kernel_rfl))
section
variable {P : Program} {w : World} {K : PySem.W.Frag} {mg : Str → Option Value} {base : Heap} {f : Addr} {fd : FuncData}


variable {cN cF fI : Addr} {file : Str}
/-- what the top says of NoFit -/
structure Nf (K : PySem.W.Frag) (mg : Str → Option Value) (cF : Addr) : Prop where
  ex : PySem.W.excIn K cF [.type "ValueError", .type "Exception", .type "BaseException", .type "object"] "ValueError.__new__" = true
  gC : mg "NoFit" = some (.ref cF)
  kC : PySem.W.keepIn K (.ref cF) = true
  sb : PySem.W.subIn K (.ref cF) (.type "BaseException") = some true
  ty : PySem.W.typeIn K (.ref cF) = some (.type "type")
abbrev n_walk_all : List Str := ["one", "other", "bad", "mine", "its", "pairs", "steps", "place", "barred", "call", "after"]
abbrev s_walk_all : Stmt := top 28
theorem sc_walk_all : FnScope ["one", "other", "bad", "mine", "its", "pairs", "steps", "place", "barred", "call", "after"] ["one", "other"] (defScope s_walk_all) := ⟨rfl, rfl, rfl, by decide +kernel, rfl, by decide +kernel, by decide +kernel⟩
def preWalk (ds : List PyData) (r : PyData) : Prop := ∃ (d e : PyData) (p q : Part), Soft d p ∧ Soft e q ∧ unj p q = [] ∧ ((0, 0) : Pr) ∉ badOf p q ∧ ds = [d, e] ∧ r = ePw (walkAll p q)
def errWalk (cN cF : Addr) (ds : List PyData) (c : Value) (x : Option PyData) : Prop := errChk cN ds c x ∨ ∃ (d e : PyData) (p q : Part), Soft d p ∧ Soft e q ∧ unj p q = [] ∧ ((0, 0) : Pr) ∈ badOf p q ∧ ds = [d, e] ∧ c = .ref cF ∧ x = none
theorem walk_turn {p q : Part} (hs : p.Small) (ht : q.Small) {bad : List Pr} {place n : Nat} {st : List Pr × List Stp} {z : Pr} (hz : st.1[place]? = some z) (h : walkGo p q bad (n + 1) place st = walkAll p q) : walkGo p q bad n (place + 1) ((stepsOut p q z).foldl (turnW (cuts p q z bad) place) st) = walkAll p q := by
  rw [← h]
  conv => rhs; unfold walkGo
  rw [hz]
abbrev stW (d1 d2 : PyData) (p q : Part) (st : List Pr × List Stp) (place : Nat) (s8 s9 s10 : SV) : List SV := [.dat d1, .dat d2, .dat (.list ((badOf p q).map ePr)), .dat (ePart p), .dat (ePart q), .own (st.1.map ePr), .own (st.2.map eStp), .dat (.int (place : Int)), s8, s9, s10]
/-- what holds of the walk's state -/
structure InW (p q : Part) (st : List Pr × List Stp) : Prop where
  nd : st.1.Nodup
  sub : ∀ x ∈ st.1, x ∈ every p q
theorem InW.turn {p q : Part} {st : List Pr × List Stp} (h : InW p q st) {o : Out} (ho : o.2 ∈ every p q) (barred : List Str) (place : Nat) : InW p q (turnW barred place st o) := by
  unfold turnW
  split
  · exact h
  · refine ⟨?_, fun x hx => ?_⟩
    · show (if o.2 ∈ st.1 then st.1 else st.1 ++ [o.2]).Nodup
      split
      · exact h.nd
      · rename_i hn
        rw [List.nodup_append]
        refine ⟨h.nd, by simp, fun a ha b hb e => hn ?_⟩
        rw [List.mem_singleton] at hb
        rw [← hb, ← e]; exact ha
    · have hx : x ∈ (if o.2 ∈ st.1 then st.1 else st.1 ++ [o.2]) := hx
      split at hx
      · exact h.sub x hx
      · rcases List.mem_append.mp hx with hx | hx
        · exact h.sub x hx
        · rw [List.mem_singleton.mp hx]; exact ho
theorem turn_steps (barred : List Str) (place : Nat) (st : List Pr × List Stp) (o : Out) : (turnW barred place st o).2.length ≤ st.2.length + 1 := by
  unfold turnW
  split
  · omega
  · show (st.2 ++ [_]).length ≤ _
    rw [List.length_append]; simp
theorem turn_pairs (barred : List Str) (place : Nat) (st : List Pr × List Stp) (o : Out) : st.1.length ≤ (turnW barred place st o).1.length := by
  unfold turnW
  split
  · exact Nat.le_refl _
  · show st.1.length ≤ (if o.2 ∈ st.1 then st.1 else st.1 ++ [o.2]).length
    split
    · exact Nat.le_refl _
    · rw [List.length_append]; omega
variable {C : Ctx P w K mg base}
/-- the tail of walk_all: what the loop leaves -/
theorem walk_body (cdv : Value) (A : Around) (outer : List Env) (s0 : Shared) (H : Hp) (E : XK) (hr : Room 6 (A.deeper (PyProof.Rows.envOfC "walk_all" (defScope s_walk_all) s0.heap.objs.size f cdv))) {d1 d2 : PyData} {p q : Part} (g1 : Soft d1 p) (g2 : Soft d2 q) (hu : unj p q = [])
    (T : Blt mg) (NF : Nf K mg cF) (h_check_joinable : FnX P w K mg base "check_joinable" 6 ["one", "other"] (spX K preChk (errChk cN))) (h_tupled : Fn P w K mg base "tupled" 4 ["value"] (spD K (preTup 3)))
    (h_bad_of : Fn P w K mg base "bad_of" 4 ["one", "other"] (spD K preBad)) (h_cut_calls : Fn P w K mg base "cut_calls" 3 ["one", "other", "pair", "bad"] (spD K preCut)) (h_steps_out : Fn P w K mg base "steps_out" 2 ["one", "other", "pair"] (spD K preOut)) :
    DS (defX P w K mg base n_walk_all "walk_all" (defScope s_walk_all) f cdv A outer s0 H E 6 sc_walk_all.nd hr) (defBody s_walk_all) (entry n_walk_all [d1, d2]) { rt := fun _ r => ((0, 0) : Pr) ∉ badOf p q ∧ r = ePw (walkAll p q), er := fun c x => ((0, 0) : Pr) ∈ badOf p q ∧ c = .ref cF ∧ x = none } := by
  have hs := g1.sm; have ht := g2.sm
  have hel := every_len hs ht
  refine ds_exprX (res := fun _ => True) (er := fun _ _ => False) (ex_call h_check_joinable (ea_cons (ef_var 0 rfl rfl (by walk_at "vis")) (ea_cons (ef_var 1 rfl rfl (by walk_at "vis")) ea_nil)) (.inl ⟨.none, ⟨d1, d2, p, q, g1, g2, hu, rfl, rfl⟩, trivial⟩) (Nat.le_of_ble_eq_true rfl) (by intro _; rfl)) (fun _ _ h => h.elim) (fun _ => ?_)
  refine ds_parV 3 4 (.dat (ePart p)) (.dat (ePart q)) ?_ ?_ ?_ rfl rfl (by decide) (by intro _; rfl) (by intro _; rfl) (by intro _; rfl)
  · refine EF.v (ef_call h_tupled (ea_cons (ef_var 0 rfl rfl (by walk_at "vis")) ea_nil) ?_ (Nat.le_of_ble_eq_true rfl) (by intro _; rfl))
    exact ⟨d1, g1.tl, rfl, g1.tu.symm⟩
  · refine EF.v (ef_call h_tupled (ea_cons (ef_var 1 rfl rfl (by walk_at "vis")) ea_nil) ?_ (Nat.le_of_ble_eq_true rfl) (by intro _; rfl))
    exact ⟨d2, g2.tl, rfl, g2.tu.symm⟩
  refine ds_setF 2 (.list ((badOf p q).map ePr)) ?_ ?_ rfl (by walk_at "loc")
  · refine ⟨_, (ef_call h_bad_of (ea_cons (ef_var 3 rfl rfl (by walk_at "vis")) (ea_cons (ef_var 4 rfl rfl (by walk_at "vis")) ea_nil)) ?_ (Nat.le_of_ble_eq_true rfl) (by intro _; rfl)), rfl⟩
    exact ⟨p, q, hs, ht, rfl, rfl⟩
  refine ds_if1V (decide (((0, 0) : Pr) ∈ badOf p q)) ⟨_, et_cmp (ec_inPr (x := (0, 0)) (ef_tup (ea_cons ef_int (ea_cons ef_int ea_nil))) (EF.l (ef_var 2 rfl rfl (by walk_at "vis")))), rfl⟩ (fun hb => ?_) (fun hb => ?_)
  · exact ds_raise0 NF.ex NF.gC NF.kC NF.sb NF.ty ⟨of_decide_eq_true hb, rfl, rfl⟩ (by intro _; rfl)
  have hnb := of_decide_eq_false hb
  refine ds_par3V 5 6 7 (.own [ePr (0, 0)]) (.own []) (.dat (.int 0)) (EN.v (en_lst (ea_cons (ef_tup (ea_cons ef_int (ea_cons ef_int ea_nil))) ea_nil))) (EN.v (en_lst ea_nil)) (EF.v ef_int) ?_ rfl rfl rfl (by decide) (by decide) (by decide) (by intro _; rfl) (by intro _; rfl) (by intro _; rfl) (by intro _; rfl)
  show DS _ _ (stW d1 d2 p q ([(0, 0)], []) 0 _ _ _) _
  refine ds_while (fun m r => ∃ (place : Nat) (st : List Pr × List Stp) (s8 s9 s10 : SV), r = stW d1 d2 p q st place s8 s9 s10 ∧ InW p q st ∧ place ≤ st.1.length ∧ m = 17 - place ∧ st.2.length ≤ place * 2000 ∧ ∃ n, 17 ≤ n + place ∧ walkGo p q (badOf p q) n place st = walkAll p q) 17
    ⟨0, ([(0, 0)], []), _, _, _, rfl, ⟨by simp, fun x hx => ?_⟩, Nat.zero_le _, rfl, Nat.zero_le _, 20, by omega, rfl⟩ ?_ (fun _ => passes_of rfl)
  · rw [List.mem_singleton.mp hx, mem_every]
    have h1 := hs.n0; have h2 := ht.n0
    exact ⟨⟨Int.le_refl _, by omega⟩, ⟨Int.le_refl _, by omega⟩⟩
  rintro m r ⟨place, st, s8, s9, s10, rfl, iw, hpl, rfl, hst, n, hn, hg⟩
  have hlen := sub_len hs ht iw.nd iw.sub
  refine ⟨decide (place < st.1.length), ?_, fun hk => ?_, fun hk => ?_⟩
  · refine ET.is (et_cmp (ec_lt (ef_var 7 rfl rfl (by walk_at "vis")) (ef_len T (el_own 5 rfl rfl (by walk_at "vis"))))) ?_
    rw [List.length_map]
    simp
  · have hk := of_decide_eq_true hk
    obtain ⟨z, hz⟩ : ∃ z, st.1[place]? = some z := ⟨_, List.getElem?_eq_getElem hk⟩
    have hze := iw.sub z (List.mem_of_getElem? hz)
    have hzD : (st.1.map ePr)[place]? = some (ePr z) := by rw [List.getElem?_map, hz]; rfl
    have hsl := sout_len hs ht z
    refine ds_setF 8 (.list ((cuts p q z (badOf p q)).map .str)) ?_ ?_ rfl (by walk_at "loc")
    · refine ⟨_, (ef_call h_cut_calls (ea_cons (ef_var 3 rfl rfl (by walk_at "vis")) (ea_cons (ef_var 4 rfl rfl (by walk_at "vis")) (ea_cons (ef_ixLV (ePr z) (el_own 5 rfl rfl (by walk_at "vis")) (ef_var 7 rfl rfl (by walk_at "vis")) ?_) (ea_cons (ef_var 2 rfl rfl (by walk_at "vis")) ea_nil)))) ?_ (Nat.le_of_ble_eq_true rfl) (by intro _; rfl)), rfl⟩
      · exact atI_nat hzD
      · exact ⟨p, q, z, badOf p q, hs, ht, rfl, rfl⟩
    refine ds_for (stepsOut p q z) eOut ?_ (fun i r => ∃ (st' : List Pr × List Stp) (s9 s10 : SV), r = stW d1 d2 p q st' place (.dat (.list ((cuts p q z (badOf p q)).map .str))) s9 s10 ∧ InW p q st' ∧ st.1.length ≤ st'.1.length ∧ st'.2.length ≤ st.2.length + i ∧ st' = ((stepsOut p q z).take i).foldl (turnW (cuts p q z (badOf p q)) place) st)
      ⟨st, _, _, rfl, iw, Nat.le_refl _, by omega, rfl⟩ ?_ ?_ (fun _ => passes_of rfl)
    · refine (ei_list (ef_call h_steps_out (ea_cons (ef_var 3 rfl rfl (by walk_at "vis")) (ea_cons (ef_var 4 rfl rfl (by walk_at "vis")) (ea_cons (ef_ixLV (ePr z) (el_own 5 rfl rfl (by walk_at "vis")) (ef_var 7 rfl rfl (by walk_at "vis")) ?_) ea_nil))) ?_ (Nat.le_of_ble_eq_true rfl) (by intro _; rfl)))
      · exact atI_nat hzD
      · exact ⟨p, q, z, hs, ht, rfl, rfl⟩
    · rintro i o r ho ⟨st', s9', s10', rfl, iw', hpl', hst', hfold⟩
      refine ⟨_, [9, 10], (eg_tup (egs_cons (eg_name 9 rfl (by decide) (by walk_at "loc") (by walk_at "fnl")) (egs_cons (eg_name 10 rfl (by decide) (by walk_at "loc") (by walk_at "fnl")) egs_nil))), ?_⟩
      have hoe := sout_every hs ht hze (List.mem_of_getElem? ho)
      have hfold2 : turnW (cuts p q z (badOf p q)) place st' o = ((stepsOut p q z).take (i + 1)).foldl (turnW (cuts p q z (badOf p q)) place) st := by
        rw [take_succ_get ho, List.foldl_append, ← hfold]; rfl
      have iw2 := iw'.turn hoe (cuts p q z (badOf p q)) place
      have hl2 := sub_len hs ht iw2.nd iw2.sub
      have hl1 := sub_len hs ht iw'.nd iw'.sub
      have hs2 := turn_steps (cuts p q z (badOf p q)) place st' o
      have hp2 := turn_pairs (cuts p q z (badOf p q)) place st' o
      have hi : i < (stepsOut p q z).length := (List.getElem?_eq_some_iff.mp ho).1
      refine ds_ifV (!decide (o.1 ∈ cuts p q z (badOf p q))) (fun r => ∃ s9 s10, r = stW d1 d2 p q (turnW (cuts p q z (badOf p q)) place st' o) place (.dat (.list ((cuts p q z (badOf p q)).map .str))) s9 s10) ?_ (fun hb => ?_) (fun hb => ?_) ?_
      · exact ⟨_, (et_cmp (ec_notInS (ef_var 9 rfl rfl (by walk_at "vis")) (EF.l (ef_var 8 rfl rfl (by walk_at "vis"))))), rfl⟩
      · have hb : o.1 ∉ cuts p q z (badOf p q) := by simpa using hb
        have et : turnW (cuts p q z (badOf p q)) place st' o = (if o.2 ∈ st'.1 then st'.1 else st'.1 ++ [o.2], st'.2 ++ [((place : Int), o.1, (((if o.2 ∈ st'.1 then st'.1 else st'.1 ++ [o.2]).idxOf o.2 : Nat) : Int))]) := by
          unfold turnW; rw [if_neg hb]
        rw [et]
        refine ds_ifV (!decide (o.2 ∈ st'.1)) (fun r => ∃ s9 s10, r = stW d1 d2 p q (if o.2 ∈ st'.1 then st'.1 else st'.1 ++ [o.2], st'.2) place (.dat (.list ((cuts p q z (badOf p q)).map .str))) (.dat (.str o.1)) (.dat (ePr o.2)) ∧ s9 = SV.unk ∧ s10 = SV.unk) ?_ (fun hc => ?_) (fun hc => ?_) ?_
        · exact ⟨_, (et_cmp (ec_notInPr (ef_var 10 rfl rfl (by walk_at "vis")) (el_own 5 rfl rfl (by walk_at "vis")))), rfl⟩
        · have hc : o.2 ∉ st'.1 := by simpa using hc
          rw [if_neg hc]
          refine ds_append 5 rfl (ef_var 10 rfl rfl (by walk_at "vis")) ?_ (ds_nil ⟨_, _, ?_, rfl, rfl⟩) rfl (by walk_at "vis")
          · rw [List.length_map]; omega
          · show [_, _, _, _, _, _, _, _, _, _, _] = stW _ _ _ _ _ _ _ _ _
            simp only [stW, List.map_append]
            rfl
        · have hc : o.2 ∈ st'.1 := by simpa using hc
          rw [if_pos hc]
          exact ds_nil ⟨_, _, rfl, rfl, rfl⟩
        · rintro r ⟨_, _, rfl, rfl, rfl⟩
          refine ds_append 6 rfl (ef_tup (ea_cons (ef_var 7 rfl rfl (by walk_at "vis")) (ea_cons (ef_var 9 rfl rfl (by walk_at "vis")) (ea_cons (ef_indexPr (el_own 5 rfl rfl (by walk_at "vis")) (ef_var 10 rfl rfl (by walk_at "vis")) ?_) ea_nil)))) ?_ (ds_nil ⟨.dat (.str o.1), .dat (ePr o.2), ?_⟩) rfl (by walk_at "vis")
          · split
            · assumption
            · exact List.mem_append_right _ (List.mem_singleton.mpr rfl)
          · rw [List.length_map]
            show st'.2.length < _
            omega
          · show [_, _, _, _, _, _, _, _, _, _, _] = stW _ _ _ _ _ _ _ _ _
            simp only [stW, List.map_append]
            rfl
      · have hb : o.1 ∈ cuts p q z (badOf p q) := by simpa using hb
        have et : turnW (cuts p q z (badOf p q)) place st' o = st' := by
          unfold turnW; rw [if_pos hb]
        rw [et]
        exact ds_nil ⟨_, _, rfl⟩
      · rintro r ⟨s9, s10, rfl⟩
        exact ds_nil ⟨_, _, _, rfl, iw2, by omega, by omega, hfold2⟩
    · rintro r ⟨st', s9', s10', rfl, iw', hpl', hst', hfold⟩
      rw [List.take_length] at hfold
      have hl1 := sub_len hs ht iw'.nd iw'.sub
      refine ds_setF 7 (.int ((place + 1 : Nat) : Int)) ?_ ?_ rfl (by walk_at "loc")
      · exact ⟨_, (ef_add (ef_var 7 rfl rfl (by walk_at "vis")) ef_int), by simp⟩
      · refine ds_nil ⟨17 - (place + 1), by omega, place + 1, st', _, _, _, rfl, iw', by omega, rfl, by omega, n - 1, by omega, ?_⟩
        rw [hfold]
        cases n with
        | zero => omega
        | succ n =>
          rw [Nat.add_sub_cancel]
          exact walk_turn hs ht hz hg
  · have hk := of_decide_eq_false hk
    have hwalk : walkAll p q = st := by
      rw [← hg]
      cases n with
      | zero => rfl
      | succ n =>
        unfold walkGo
        rw [List.getElem?_eq_none (by omega)]
    refine ds_ret (ef_tup (ea_cons (ef_tupleL T (el_own 5 rfl rfl (by walk_at "vis"))) (ea_cons (ef_tupleL T (EN.l (en_sorted T (el_own 6 rfl rfl (by walk_at "vis")) ?_))) ea_nil))) ⟨hnb, ?_⟩
    · exact srt_stps _
    · rw [hwalk]
      unfold ePw
      rw [sortD_map]
theorem ok_walk_all (F : Fun K "walk_all" "walk_all" s_walk_all f fd) (T : Blt mg) (NF : Nf K mg cF) (h_check_joinable : FnX P w K mg base "check_joinable" 6 ["one", "other"] (spX K preChk (errChk cN))) (h_tupled : Fn P w K mg base "tupled" 4 ["value"] (spD K (preTup 3)))
    (h_bad_of : Fn P w K mg base "bad_of" 4 ["one", "other"] (spD K preBad)) (h_cut_calls : Fn P w K mg base "cut_calls" 3 ["one", "other", "pair", "bad"] (spD K preCut)) (h_steps_out : Fn P w K mg base "steps_out" 2 ["one", "other", "pair"] (spD K preOut)) :
    FnOk P w K mg base (L2.CX P w) 7 f fd ["one", "other"] (spX K preWalk (errWalk cN cF)) :=
  fnX_ok F sc_walk_all (fun ds d h => by obtain ⟨_, _, _, _, _, _, _, _, rfl, _⟩ := h; rfl) (fun ds c d h => by
    rcases h with ⟨_, _, _, _, _, _, _, _, _, rfl, _⟩ | ⟨_, _, _, _, _, _, _, _, rfl, _⟩ <;> rfl)
  (fun cdv A outer s0 H E hr ds d hp => by
    obtain ⟨d1, d2, p, q, g1, g2, hu, hb, rfl, rfl⟩ := hp
    exact (walk_body cdv A outer s0 H E hr g1 g2 hu T NF h_check_joinable h_tupled h_bad_of h_cut_calls h_steps_out).imp (fun _ h => h.elim) (fun _ _ h => h.2) (fun _ h => h.elim) (fun _ h => h.elim) (fun _ _ h => absurd h.1 hb))
  (fun cdv A outer s0 H E hr ds c d hp => by
    rcases hp with ⟨d1, d2, p, q, t, ts, g1, g2, hu, rfl, rfl, rfl⟩ | ⟨d1, d2, p, q, g1, g2, hu, hb, rfl, rfl, rfl⟩
    · exact ds_exprX (res := fun _ => False) (er := fun c x => c = .ref cN ∧ x = some (.str t)) (ex_call h_check_joinable (ea_cons (ef_var 0 rfl rfl (by walk_at "vis")) (ea_cons (ef_var 1 rfl rfl (by walk_at "vis")) ea_nil)) (.inr ⟨.ref cN, some (.str t), ⟨d1, d2, p, q, t, ts, g1, g2, hu, rfl, rfl, rfl⟩, rfl, rfl⟩) (Nat.le_of_ble_eq_true rfl) (by intro _; rfl)) (fun _ _ h => h) (fun h => by obtain ⟨_, h⟩ := h; exact h.elim)
    · exact (walk_body cdv A outer s0 H E hr g1 g2 hu T NF h_check_joinable h_tupled h_bad_of h_cut_calls h_steps_out).imp (fun _ h => h.elim) (fun _ _ h => absurd hb h.1) (fun _ h => h.elim) (fun _ h => h.elim) (fun _ _ h => h.2))
end
end Fs

set_option maxRecDepth 100000
set_option maxHeartbeats 4000000
namespace Fs
open PySem L2 DL NS
local macro_rules | `(tactic| walk_at "vis") => `(tactic| (intro _; first | exact Or.inl rfl | exact Or.inr (Or.inl rfl) | exact Or.inr (Or.inr rfl)))
local macro_rules | `(tactic| walk_at "loc") => `(tactic| (intro _; first | exact Or.inl rfl | exact Or.inr rfl))
local macro_rules | `(tactic| walk_at "fnl") => `(tactic| (intro _; first | exact Or.inr rfl | exact Or.inl rfl))
local macro_rules | `(tactic| walk_at "len") => `(tactic| (simp only [List.length_append, List.length_map, List.length_nil, List.length_cons]; omega))
local macro_rules | `(tactic| walk_at "blk") => `(tactic| (intro _; kernel_rfl))
section
variable {P : Program} {w : World} {K : PySem.W.Frag} {mg : Str → Option Value} {base : Heap} {f : Addr} {fd : FuncData}


variable {cN cF fI : Addr} {file : Str}
abbrev n_joined_pairs : List Str := ["one", "other"]
abbrev s_joined_pairs : Stmt := top 29
theorem sc_joined_pairs : FnScope ["one", "other"] ["one", "other"] (defScope s_joined_pairs) := ⟨rfl, rfl, rfl, by decide +kernel, rfl, by decide +kernel, by decide +kernel⟩
def preJp (ds : List PyData) (r : PyData) : Prop := ∃ (d e : PyData) (p q : Part), Soft d p ∧ Soft e q ∧ unj p q = [] ∧ ((0, 0) : Pr) ∉ badOf p q ∧ ds = [d, e] ∧ r = .tuple ((walkAll p q).1.map ePr)
theorem ok_joined_pairs (F : Fun K "joined_pairs" "joined_pairs" s_joined_pairs f fd) (h_walk_all : FnX P w K mg base "walk_all" 7 ["one", "other"] (spX K preWalk (errWalk cN cF))) : FnOk P w K mg base (L2.CX P w) 8 f fd ["one", "other"] (spX K preJp (errWalk cN cF)) :=
  fnX_ok F sc_joined_pairs (fun ds d h => by obtain ⟨_, _, _, _, _, _, _, _, rfl, _⟩ := h; rfl) (fun ds c d h => by
    rcases h with ⟨_, _, _, _, _, _, _, _, _, rfl, _⟩ | ⟨_, _, _, _, _, _, _, _, rfl, _⟩ <;> rfl)
  (fun cdv A outer s0 H E hr ds d hp => by
    obtain ⟨d1, d2, p, q, g1, g2, hu, hb, rfl, rfl⟩ := hp
    exact ds_retX (er := fun _ _ => False) (ex_ix 0 (ex_call h_walk_all (ea_cons (ef_var 0 rfl rfl (by walk_at "vis")) (ea_cons (ef_var 1 rfl rfl (by walk_at "vis")) ea_nil)) (.inl ⟨ePw (walkAll p q), ⟨d1, d2, p, q, g1, g2, hu, hb, rfl, rfl⟩, rfl⟩) (Nat.le_of_ble_eq_true rfl) (by intro _; rfl)) rfl) (fun _ h => h) (fun _ _ h => h.elim))
  (fun cdv A outer s0 H E hr ds c d hp => by
    have hl : ∃ d1 d2, ds = [d1, d2] := by
      rcases hp with ⟨_, _, _, _, _, _, _, _, _, rfl, _⟩ | ⟨_, _, _, _, _, _, _, _, rfl, _⟩ <;> exact ⟨_, _, rfl⟩
    obtain ⟨d1, d2, rfl⟩ := hl
    exact ds_retX (res := fun _ => False) (er := fun c' x => c' = c ∧ x = d) (ex_ixE 0 (ex_call h_walk_all (ea_cons (ef_var 0 rfl rfl (by walk_at "vis")) (ea_cons (ef_var 1 rfl rfl (by walk_at "vis")) ea_nil)) (.inr ⟨c, d, hp, rfl, rfl⟩) (Nat.le_of_ble_eq_true rfl) (by intro _; rfl))) (fun _ h => h.elim) (fun _ _ h => h))
/-! ### joined -/
def joinPart (p q : Part) : Part :=
  ⟨sortE .str ((p.takes ++ q.takes).filter fun c => !decide (c ∈ known p q)), sortE .str ((p.makes ++ q.makes).filter fun c => !decide (c ∈ known p q)), ((walkAll p q).1.length : Nat), sortE eStp (walkAll p q).2⟩
theorem in01 {x : Int} (h : x ∈ ([0, 1] : List Int)) : x = 0 ∨ x = 1 := by
  rcases List.mem_cons.mp h with h | h
  · exact .inl h
  · rcases List.mem_cons.mp h with h | h
    · exact .inr h
    · cases h
abbrev n_joined : List Str := ["one", "other", "known", "pairs", "steps", "mine", "its", "takes", "makes", "k", "call"]
abbrev s_joined : Stmt := top 30
theorem sc_joined : FnScope ["one", "other", "known", "pairs", "steps", "mine", "its", "takes", "makes", "k", "call"] ["one", "other"] (defScope s_joined) := ⟨rfl, rfl, rfl, by decide +kernel, rfl, by decide +kernel, by decide +kernel⟩
def preJoin (ds : List PyData) (r : PyData) : Prop := ∃ (d e : PyData) (p q : Part), Soft d p ∧ Soft e q ∧ unj p q = [] ∧ ((0, 0) : Pr) ∉ badOf p q ∧ ds = [d, e] ∧ r = ePart (joinPart p q)
theorem ok_joined (F : Fun K "joined" "joined" s_joined f fd) (T : Blt mg) (h_walk_all : FnX P w K mg base "walk_all" 7 ["one", "other"] (spX K preWalk (errWalk cN cF))) (h_tupled : Fn P w K mg base "tupled" 4 ["value"] (spD K (preTup 3)))
    (h_common_calls : Fn P w K mg base "common_calls" 1 ["one", "other"] (spD K preCommon)) : FnOk P w K mg base (L2.CX P w) 8 f fd ["one", "other"] (spX K preJoin (errWalk cN cF)) :=
  fnX_ok F sc_joined (fun ds d h => by obtain ⟨_, _, _, _, _, _, _, _, rfl, _⟩ := h; rfl) (fun ds c d h => by
    rcases h with ⟨_, _, _, _, _, _, _, _, _, rfl, _⟩ | ⟨_, _, _, _, _, _, _, _, rfl, _⟩ <;> rfl)
  (fun cdv A outer s0 H E hr ds d hp => by
    obtain ⟨d1, d2, p, q, g1, g2, hu, hb, rfl, rfl⟩ := hp
    have hs := g1.sm; have ht := g2.sm
    have h1 := hs.t; have h2 := hs.m; have h3 := ht.t; have h4 := ht.m
    refine ds_asgX (ePw (walkAll p q)) [3, 4] (er := fun _ _ => False) (ex_call h_walk_all (ea_cons (ef_var 0 rfl rfl (by walk_at "vis")) (ea_cons (ef_var 1 rfl rfl (by walk_at "vis")) ea_nil)) (.inl ⟨ePw (walkAll p q), ⟨d1, d2, p, q, g1, g2, hu, hb, rfl, rfl⟩, rfl⟩) (Nat.le_of_ble_eq_true rfl) (by intro _; rfl)) (fun _ _ h => h.elim) (eg_tup (egs_cons (eg_name 3 rfl (by decide) (by walk_at "loc") (by walk_at "fnl")) (egs_cons (eg_name 4 rfl (by decide) (by walk_at "loc") (by walk_at "fnl")) egs_nil))) ?_
    refine ds_asgV (.tuple [ePart p, ePart q]) [5, 6] ?_ (eg_tup (egs_cons (eg_name 5 rfl (by decide) (by walk_at "loc") (by walk_at "fnl")) (egs_cons (eg_name 6 rfl (by decide) (by walk_at "loc") (by walk_at "fnl")) egs_nil))) ?_
    · refine (ef_tup (ea_cons (ef_call h_tupled (ea_cons (ef_var 0 rfl rfl (by walk_at "vis")) ea_nil) ?_ (Nat.le_of_ble_eq_true rfl) (by intro _; rfl)) (ea_cons (ef_call h_tupled (ea_cons (ef_var 1 rfl rfl (by walk_at "vis")) ea_nil) ?_ (Nat.le_of_ble_eq_true rfl) (by intro _; rfl)) ea_nil)))
      · exact ⟨d1, g1.tl, rfl, g1.tu.symm⟩
      · exact ⟨d2, g2.tl, rfl, g2.tu.symm⟩
    refine ds_set 2 (EF.v (d := eNs (known p q)) (ef_call h_common_calls (ea_cons (ef_var 5 rfl rfl (by walk_at "vis")) (ea_cons (ef_var 6 rfl rfl (by walk_at "vis")) ea_nil)) ?_ (Nat.le_of_ble_eq_true rfl) (by intro _; rfl))) ?_ rfl (by walk_at "loc")
    · exact ⟨p, q, hs, ht, rfl, rfl⟩
    refine ds_asgV (.list [eNs (joinPart p q).takes, eNs (joinPart p q).makes]) [7, 8] ?_ (eg_unl (egs_cons (eg_name 7 rfl (by decide) (by walk_at "loc") (by walk_at "fnl")) (egs_cons (eg_name 8 rfl (by decide) (by walk_at "loc") (by walk_at "fnl")) egs_nil))) ?_
    · refine EF.to (EN.f (en_lc0 (own := [("k", 9)]) (([0, 1] : List Int)) (.int) (fun k => .tuple (sortD ((((if k = 0 then p.takes else p.makes) ++ (if k = 0 then q.takes else q.makes)).filter fun c => !decide (c ∈ known p q)).map .str))) (EIh.is (EI.h (ei_tup (ef_tup (ea_cons ef_int (ea_cons ef_int ea_nil))))) ?_) (by walk_at "blk") (fun x hx => ⟨_, (eg_name 9 rfl (by decide) (by walk_at "loc") (by walk_at "fnl")), (ef_tupleL T (EN.l (en_sorted T (EN.l (en_lc (own := [("call", 10)]) ((if x = 0 then p.takes else p.makes) ++ (if x = 0 then q.takes else q.makes)) (.str) (fun c => !decide (c ∈ known p q)) (.str) (EI.h (EI.is (ei_tup (ef_tup (ea_star (EF.t (ef_ixTV (.tuple ((if x = 0 then p.takes else p.makes).map .str)) (EF.t (ef_var 5 rfl rfl (by walk_at "vis"))) (ef_var 9 rfl rfl (by walk_at "vis")) ?_)) (ea_star (EF.t (ef_ixTV (.tuple ((if x = 0 then q.takes else q.makes).map .str)) (EF.t (ef_var 6 rfl rfl (by walk_at "vis"))) (ef_var 9 rfl rfl (by walk_at "vis")) ?_)) ea_nil)) ?_)) ?_)) (by walk_at "blk") (fun x hx => ⟨_, (eg_name 10 rfl (by decide) (by walk_at "loc") (by walk_at "fnl")), (ets_one (et_cmp (ec_notInS (ef_var 10 rfl rfl (by walk_at "vis")) (EF.t (ef_var 2 rfl rfl (by walk_at "vis")))))), fun hpr => (ef_var 10 rfl rfl (by walk_at "vis"))⟩) ?_)) ?_)))⟩) ?_)) ?_
      · rfl
      · rcases in01 hx with rfl | rfl <;> rfl
      · rcases in01 hx with rfl | rfl <;> rfl
      · simp only [List.length_append, List.length_map, List.length_nil]
        rcases in01 hx with rfl | rfl
        · rw [if_pos rfl, if_pos rfl]; omega
        · rw [if_neg (by decide), if_neg (by decide)]; omega
      · rw [List.map_append, List.append_nil]
      · rcases in01 hx with rfl | rfl
        · rw [if_pos rfl, if_pos rfl, List.length_append]; omega
        · rw [if_neg (by decide), if_neg (by decide), List.length_append]; omega
      · exact srt_strs _
      · decide
      · show PyData.list [.tuple (sortD _), .tuple (sortD _)] = PyData.list [.tuple (List.map _ (sortE _ _)), .tuple (List.map _ (sortE _ _))]
        rw [← sortD_map, ← sortD_map]
        rfl
    refine ds_ret (ef_tup (ea_cons (ef_var 7 rfl rfl (by walk_at "vis")) (ea_cons (ef_var 8 rfl rfl (by walk_at "vis")) (ea_cons (ef_len T (EF.t (ef_var 3 rfl rfl (by walk_at "vis")))) (ea_cons (ef_var 4 rfl rfl (by walk_at "vis")) ea_nil))))) ?_
    show PyData.tuple [_, _, .int ((_ : List PyData).length : Nat), _] = _
    rw [List.length_map]
    rfl)
  (fun cdv A outer s0 H E hr ds c d hp => by
    have hl : ∃ d1 d2, ds = [d1, d2] := by
      rcases hp with ⟨_, _, _, _, _, _, _, _, _, rfl, _⟩ | ⟨_, _, _, _, _, _, _, _, rfl, _⟩ <;> exact ⟨_, _, rfl⟩
    obtain ⟨d1, d2, rfl⟩ := hl
    exact ds_asgE (er := fun c' x => c' = c ∧ x = d) (ex_call h_walk_all (ea_cons (ef_var 0 rfl rfl (by walk_at "vis")) (ea_cons (ef_var 1 rfl rfl (by walk_at "vis")) ea_nil)) (.inr ⟨c, d, hp, rfl, rfl⟩) (Nat.le_of_ble_eq_true rfl) (by intro _; rfl)) (fun _ _ h => h))
end
end Fs

set_option maxRecDepth 100000
set_option maxHeartbeats 4000000
namespace Fs
open PySem L2 DL NS
local macro_rules | `(tactic| walk_at "vis") => `(tactic| (intro _; first | exact Or.inl rfl | exact Or.inr (Or.inl rfl) | exact Or.inr (Or.inr rfl)))
local macro_rules | `(tactic| walk_at "loc") => `(tactic| (intro _; first | exact Or.inl rfl | exact Or.inr rfl))
local macro_rules | `(tactic| walk_at "fnl") => `(tactic| (intro _; first | exact Or.inr rfl | exact Or.inl rfl))
local macro_rules | `(tactic| walk_at "len") => `(tactic| (simp only [List.length_append, List.length_map, List.length_nil, List.length_cons]; omega))
local macro_rules | `(tactic| walk_at "blk") => `(tactic| (intro _; kernel_rfl))
section
variable {P : Program} {w : World} {K : PySem.W.Frag} {mg : Str → Option Value} {base : Heap} {f : Addr} {fd : FuncData}


variable {cN cF fI : Addr} {file : Str}

theorem eqv_nilL (ds : List PyData) : PyData.eqv (.list ds) (.list []) = decide (ds.length = 0) := by
  cases ds <;> simp [PyData.eqv, PyData.eqvAll]
theorem eqv_nilT (ds : List PyData) : PyData.eqv (.tuple ds) (.tuple []) = decide (ds.length = 0) := by
  cases ds <;> simp [PyData.eqv, PyData.eqvAll]
theorem sh_pr2 {q : Pr} : Sh 6 (ePr q) := .tuple fun d hd => by
  rcases List.mem_cons.mp hd with rfl | hd
  · exact .int _
  · rcases List.mem_cons.mp hd with rfl | hd
    · exact .int _
    · cases hd
section
variable {C : Ctx P w K mg base} {rho : List SV} {a b : Expr} {d1 d2 : PyData}
theorem ec_eqNilL {α : Type} {xs : List α} {enc : α → PyData} {pp : Pos} (h : EF C rho a (.list (xs.map enc))) (sh : ∀ x ∈ xs, Sh 6 (enc x)) : EC C rho .Eq a (.List [] pp) (decide (xs.length = 0)) :=
  (ec_eqD h (EN.f (en_lst ea_nil)) (n := 7) (m := 1) (.list fun d hd => by obtain ⟨x, hx, rfl⟩ := List.mem_map.mp hd; exact sh x hx) (.list fun d hd => nomatch hd)).is (by rw [eqv_nilL, List.length_map])
theorem ec_neNilL {α : Type} {xs : List α} {enc : α → PyData} {pp : Pos} (h : EF C rho a (.list (xs.map enc))) (sh : ∀ x ∈ xs, Sh 6 (enc x)) : EC C rho .NotEq a (.List [] pp) (!decide (xs.length = 0)) :=
  (ec_neD h (EN.f (en_lst ea_nil)) (n := 7) (m := 1) (.list fun d hd => by obtain ⟨x, hx, rfl⟩ := List.mem_map.mp hd; exact sh x hx) (.list fun d hd => nomatch hd)).is (by rw [eqv_nilL, List.length_map])
theorem ec_neNilT {α : Type} {xs : List α} {enc : α → PyData} {k : Nat} {pp : Pos} (h : EF C rho a (.tuple (xs.map enc))) (sh : ∀ x ∈ xs, Sh 6 (enc x)) : EC C rho .NotEq a (.Tuple [] k pp) (!decide (xs.length = 0)) :=
  (ec_neD h (ef_tup ea_nil) (n := 7) (m := 1) (.tuple fun d hd => by obtain ⟨x, hx, rfl⟩ := List.mem_map.mp hd; exact sh x hx) (.tuple fun d hd => nomatch hd)).is (by rw [eqv_nilT, List.length_map])
end
/-! ### the law's own defs -/
def lboth (p q : Part) : List Str := (p.takes ++ p.makes).filter fun t => decide (t ∈ q.takes ++ q.makes)
def lclA (p q : Part) (k j : Int) (t : Str) : Bool := decide (t ∈ q.takes) && ((!decide ((lead p k t).length = 0)) && decide ((lead q j t).length = 0))
def lclash (p q : Part) (k j : Int) : List Str := sortE .str ((p.makes.filter fun t => lclA p q k j t) ++ (q.makes.filter fun t => lclA q p j k t))
def lmvA (p q : Part) (k j : Int) : List Pr := (p.steps.filter fun s => decide (s.1 = k) && (decide (s.2.1 = ("" : Str)) || (decide (s.2.1 ∈ p.makes) && !decide (s.2.1 ∈ lboth p q)))).map fun s => (s.2.2, j)
def lmvB (p q : Part) (k j : Int) : List Pr := (q.steps.filter fun s => decide (s.1 = j) && (decide (s.2.1 = ("" : Str)) || (decide (s.2.1 ∈ q.makes) && !decide (s.2.1 ∈ lboth p q)))).map fun s => (k, s.2.2)
def lmvC (p q : Part) (k j : Int) : List Pr := (lboth p q).flatMap fun t => (lead p k t).flatMap fun m => (lead q j t).map fun i => (m, i)
def lmvRaw (p q : Part) (k j : Int) : List Pr := lmvA p q k j ++ lmvB p q k j ++ lmvC p q k j
def lmoves (p q : Part) (k j : Int) : List Pr := sortE ePr (firsts (lmvRaw p q k j))
abbrev n__law_goes : List Str := ["_law_near", "_law_k", "_law_tag", "_law_own"]
abbrev s__law_goes : Stmt := top 41
theorem sc__law_goes : FnScope ["_law_near", "_law_k", "_law_tag", "_law_own"] ["_law_near", "_law_k", "_law_tag"] (defScope s__law_goes) := ⟨rfl, rfl, rfl, by decide +kernel, rfl, by decide +kernel, by decide +kernel⟩
theorem ok_law_goes (F : Fun K "_law_goes" "_law_goes" s__law_goes f fd) : FnOk P w K mg base CX0 1 f fd ["_law_near", "_law_k", "_law_tag"] (spD K preLeads) :=
  fn_ok F sc__law_goes (fun ds d h => by obtain ⟨p, k, t, _, rfl, _⟩ := h; rfl) fun cdv A outer s H E hr ds d hp => by
    obtain ⟨p, k, t, hs, rfl, rfl⟩ := hp
    refine ds_ret (EN.f (EN.is (en_lc (own := [("_law_own", 3)]) (p.steps) (eStp) (fun s => decide (s.1 = k) && decide (s.2.1 = t)) (fun s => .int s.2.2) (EI.h (ei_tup (ef_ixTN 3 (EF.t (ef_var 0 rfl rfl (by walk_at "vis"))) ef_int rfl))) (by walk_at "blk") (fun x hx => ⟨_, (eg_name 3 rfl (by decide) (by walk_at "loc") (by walk_at "fnl")), (ets_one (EW.t (ew_and (et_cmp (ec_eq (ef_ixTN 0 (EF.t (ef_var 3 rfl rfl (by walk_at "vis"))) ef_int rfl) (ef_var 1 rfl rfl (by walk_at "vis")))) (fun _ => (ew_and1 (et_cmp (ec_eqS (ef_ixTN 1 (EF.t (ef_var 3 rfl rfl (by walk_at "vis"))) ef_int rfl) (ef_var 2 rfl rfl (by walk_at "vis"))))))))), fun hpr => (ef_ixTN 2 (EF.t (ef_var 3 rfl rfl (by walk_at "vis"))) ef_int rfl)⟩) ?_) ?_)) rfl
    · have := hs.s; omega
    · unfold lead; rw [List.map_map]; rfl
abbrev n__law_clash : List Str := ["_law_near", "_law_far", "_law_k", "_law_j", "_law_found", "_law_tag"]
abbrev s__law_clash : Stmt := top 42
theorem sc__law_clash : FnScope ["_law_near", "_law_far", "_law_k", "_law_j", "_law_found", "_law_tag"] ["_law_near", "_law_far", "_law_k", "_law_j"] (defScope s__law_clash) := ⟨rfl, rfl, rfl, by decide +kernel, rfl, by decide +kernel, by decide +kernel⟩
def preLcl (ds : List PyData) (r : PyData) : Prop := ∃ (p q : Part) (k j : Int), p.Small ∧ q.Small ∧ ds = [ePart p, ePart q, .int k, .int j] ∧ r = eNs (lclash p q k j)
theorem ok_law_clash (F : Fun K "_law_clash" "_law_clash" s__law_clash f fd) (T : Blt mg) (h__law_goes : Fn P w K mg base "_law_goes" 1 ["_law_near", "_law_k", "_law_tag"] (spD K preLeads)) : FnOk P w K mg base CX0 2 f fd ["_law_near", "_law_far", "_law_k", "_law_j"] (spD K preLcl) :=
  fn_ok F sc__law_clash (fun ds d h => by obtain ⟨p, q, k, j, _, _, rfl, _⟩ := h; rfl) fun cdv A outer s H E hr ds d hp => by
    obtain ⟨p, q, k, j, hs, ht, rfl, rfl⟩ := hp
    have h1 := hs.m; have h2 := ht.m
    refine ds_setN 4 [] ?_ ?_ rfl (by walk_at "loc")
    · exact ⟨_, (en_lst ea_nil), rfl⟩
    refine ds_forIfApp 4 [5] p.makes .str (fun t => lclA p q k j t) .str ?_ rfl (fun x hx ds => ⟨_, [5], (eg_name 5 rfl (by decide) (by walk_at "loc") (by walk_at "fnl")), rfl, rfl, ?_, fun _ => ?_⟩) ?_ ?_ rfl (by walk_at "vis")
    · exact (ei_tup (ef_ixTN 1 (EF.t (ef_var 0 rfl rfl (by walk_at "vis"))) ef_int rfl))
    · refine ⟨_, (EW.t (ew_and (et_cmp (ec_inS (ef_var 5 rfl rfl (by walk_at "vis")) (EF.t (ef_ixTN 0 (EF.t (ef_var 1 rfl rfl (by walk_at "vis"))) ef_int rfl)))) (fun _ => (ew_and (et_cmp (ec_neNilL (ef_callV (.list ((lead p k x).map .int)) h__law_goes (ea_cons (ef_var 0 rfl rfl (by walk_at "vis")) (ea_cons (ef_var 2 rfl rfl (by walk_at "vis")) (ea_cons (ef_var 5 rfl rfl (by walk_at "vis")) ea_nil))) ?_ (Nat.le_of_ble_eq_true rfl) (by intro _; rfl)) (fun _ _ => .int _))) (fun _ => (ew_and1 (et_cmp (ec_eqNilL (ef_callV (.list ((lead q j x).map .int)) h__law_goes (ea_cons (ef_var 1 rfl rfl (by walk_at "vis")) (ea_cons (ef_var 3 rfl rfl (by walk_at "vis")) (ea_cons (ef_var 5 rfl rfl (by walk_at "vis")) ea_nil))) ?_ (Nat.le_of_ble_eq_true rfl) (by intro _; rfl)) (fun _ _ => .int _))))))))), rfl⟩
      · exact ⟨p, k, x, hs, rfl, rfl⟩
      · exact ⟨q, j, x, ht, rfl, rfl⟩
    · exact (ef_var 5 rfl rfl (by walk_at "vis"))
    · walk_at "len"
    refine ds_forIfApp 4 [5] q.makes .str (fun t => lclA q p j k t) .str ?_ rfl (fun x hx ds => ⟨_, [5], (eg_name 5 rfl (by decide) (by walk_at "loc") (by walk_at "fnl")), rfl, rfl, ?_, fun _ => ?_⟩) ?_ ?_ rfl (by walk_at "vis")
    · exact (ei_tup (ef_ixTN 1 (EF.t (ef_var 1 rfl rfl (by walk_at "vis"))) ef_int rfl))
    · refine ⟨_, (EW.t (ew_and (et_cmp (ec_inS (ef_var 5 rfl rfl (by walk_at "vis")) (EF.t (ef_ixTN 0 (EF.t (ef_var 0 rfl rfl (by walk_at "vis"))) ef_int rfl)))) (fun _ => (ew_and (et_cmp (ec_neNilL (ef_callV (.list ((lead q j x).map .int)) h__law_goes (ea_cons (ef_var 1 rfl rfl (by walk_at "vis")) (ea_cons (ef_var 3 rfl rfl (by walk_at "vis")) (ea_cons (ef_var 5 rfl rfl (by walk_at "vis")) ea_nil))) ?_ (Nat.le_of_ble_eq_true rfl) (by intro _; rfl)) (fun _ _ => .int _))) (fun _ => (ew_and1 (et_cmp (ec_eqNilL (ef_callV (.list ((lead p k x).map .int)) h__law_goes (ea_cons (ef_var 0 rfl rfl (by walk_at "vis")) (ea_cons (ef_var 2 rfl rfl (by walk_at "vis")) (ea_cons (ef_var 5 rfl rfl (by walk_at "vis")) ea_nil))) ?_ (Nat.le_of_ble_eq_true rfl) (by intro _; rfl)) (fun _ _ => .int _))))))))), rfl⟩
      · exact ⟨q, j, x, ht, rfl, rfl⟩
      · exact ⟨p, k, x, hs, rfl, rfl⟩
    · exact (ef_var 5 rfl rfl (by walk_at "vis"))
    · have := List.length_filter_le (fun t => lclA p q k j t) p.makes
      walk_at "len"
    refine ds_ret (ef_tupleL T (EN.l (en_sorted T (el_own 4 rfl rfl (by walk_at "vis")) ?_))) ?_
    · rw [List.nil_append, ← List.map_append]; exact srt_strs _
    · show PyData.tuple _ = PyData.tuple _
      rw [List.nil_append, ← List.map_append, sortD_map]
      rfl
end
end Fs

set_option maxRecDepth 100000
set_option maxHeartbeats 4000000
namespace Fs
open PySem L2 DL NS
local macro_rules | `(tactic| walk_at "vis") => `(tactic| (intro _; first | exact Or.inl rfl | exact Or.inr (Or.inl rfl) | exact Or.inr (Or.inr rfl)))
local macro_rules | `(tactic| walk_at "loc") => `(tactic| (intro _; first | exact Or.inl rfl | exact Or.inr rfl))
local macro_rules | `(tactic| walk_at "fnl") => `(tactic| (intro _; first | exact Or.inr rfl | exact Or.inl rfl))
local macro_rules | `(tactic| walk_at "len") => `(tactic| (simp only [List.length_append, List.length_map, List.length_nil, List.length_cons]; omega))
local macro_rules | `(tactic| walk_at "blk") => `(tactic| (intro _; kernel_rfl))
section
variable {P : Program} {w : World} {K : PySem.W.Frag} {mg : Str → Option Value} {base : Heap} {f : Addr} {fd : FuncData}


variable {cN cF fI : Addr} {file : Str}

section
variable {C : Ctx P w K mg base} {rho : List SV} {e : Expr} {p p2 p3 pos : Pos}
theorem image_of {α : Type} (enc : α → PyData) {xs : List α} : ∀ {es : List PyData}, (∀ d ∈ es, d ∈ xs.map enc) → ∃ L : List α, es = L.map enc
  | [], _ => ⟨[], rfl⟩
  | d :: es, h => by
    obtain ⟨x, hx, rfl⟩ := List.mem_map.mp (h d List.mem_cons_self)
    obtain ⟨L, rfl⟩ := image_of enc fun d hd => h d (List.mem_cons_of_mem _ hd)
    exact ⟨x :: L, rfl⟩
theorem nodup_of_map {α β : Type} {f : α → β} : ∀ {l : List α}, (l.map f).Nodup → l.Nodup
  | [], _ => List.nodup_nil
  | x :: l, h => by
    rw [List.map_cons, List.nodup_cons] at h
    exact List.nodup_cons.mpr ⟨fun hx => h.1 (List.mem_map.mpr ⟨x, hx, rfl⟩), nodup_of_map h.2⟩
theorem told_inj {α : Type} {enc : α → PyData} (told : Told enc) {a b : α} (h : enc a = enc b) : a = b := told a b (by rw [h])
theorem ef_catTS {a b : Expr} {xs ys : List Str} (ha : EF C rho a (.tuple (xs.map .str))) (hb : EF C rho b (.tuple (ys.map .str))) (hl : xs.length + ys.length ≤ 100000) : EF C rho (.BinOp a .Add b pos) (.tuple ((xs ++ ys).map .str)) :=
  (ef_catT ha hb (by rw [List.length_map, List.length_map]; exact hl)).to (by rw [List.map_append])
/-- sorted(set(..)) -/
theorem en_ss {α : Type} [DecidableEq α] {enc : α → PyData} {xs : List α} (told : Told enc) (kd : ∀ x, isTupD (enc x) = true ∧ Kd 8 (enc x)) (srt : ∀ l : List α, Srt (l.map enc)) (T : Blt mg) (h : EL C rho e true (xs.map enc)) (hm : ∃ M : List α, M.length < 64 ∧ ∀ x ∈ xs, x ∈ M)
    (hg : ∀ i, Gl (C.X i) "sorted" := by intro _; rfl) (hg2 : ∀ i, Gl (C.X i) "set" := by intro _; rfl) (he : ∀ i, starEach (e :: []) (C.X i).env = (false, eval e (C.X i).env) :: starEach [] (C.X i).env := by intro _; rfl) : EN C rho (.Call (.Name "sorted" p) [.Call (.Name "set" p2) [e] [] p3] [] pos) ((sortE enc (firsts xs)).map enc) :=
  en_sortedSet T h (fun d hd => by obtain ⟨x, _, rfl⟩ := List.mem_map.mp hd; exact kd x) (by
    obtain ⟨M, h1, h2⟩ := hm
    exact ⟨M.map enc, by rw [List.length_map]; exact h1, fun d hd => by obtain ⟨x, hx, rfl⟩ := List.mem_map.mp hd; exact List.mem_map.mpr ⟨x, h2 x hx, rfl⟩⟩) (fun es nd hes => by
    obtain ⟨L, rfl⟩ := image_of enc fun d hd => (hes d).mp hd
    refine ⟨srt L, ?_⟩
    rw [sortD_map]
    refine congrArg _ (sortE_perm_eq told (nodup_perm (nodup_of_map nd) (firsts_nodup xs) fun x => ?_))
    rw [mem_firsts]
    have := hes (enc x)
    rw [List.mem_map, List.mem_map] at this
    constructor
    · intro hx
      obtain ⟨y, hy, e⟩ := this.mp ⟨x, hx, rfl⟩
      rw [← told_inj told e]; exact hy
    · intro hx
      obtain ⟨y, hy, e⟩ := this.mpr ⟨x, hx, rfl⟩
      rw [← told_inj told e]; exact hy) T.set hg hg2 he
theorem en_sortedSetS {xs : List Str} (T : Blt mg) (h : EL C rho e true (xs.map .str)) (hl : xs.length < 4000) 
    (hg : ∀ i, Gl (C.X i) "sorted" := by intro _; rfl) (hg2 : ∀ i, Gl (C.X i) "set" := by intro _; rfl) (he : ∀ i, starEach (e :: []) (C.X i).env = (false, eval e (C.X i).env) :: starEach [] (C.X i).env := by intro _; rfl) : EN C rho (.Call (.Name "sorted" p) [.Call (.Name "set" p2) [e] [] p3] [] pos) ((sortE .str (firsts xs)).map .str) :=
  en_sortedSetX T h hl (fun L nd hL => sortE_perm_eq told_str (nodup_perm nd (firsts_nodup xs) fun x => by rw [mem_firsts]; exact hL x)) (hg := hg) (hg2 := hg2) (he := he)
end
theorem lboth_len {p q : Part} (hs : p.Small) : (lboth p q).length ≤ 10 := by
  have h1 := hs.t; have h2 := hs.m
  have := List.length_filter_le (fun t => decide (t ∈ q.takes ++ q.makes)) (p.takes ++ p.makes)
  rw [List.length_append] at this
  unfold lboth
  omega
theorem lmv_len {p q : Part} (hs : p.Small) (ht : q.Small) (k j : Int) : (lmvA p q k j).length ≤ 12 ∧ (lmvB p q k j).length ≤ 12 ∧ (lmvC p q k j).length ≤ 1440 := by
  have h1 := hs.s; have h2 := ht.s
  refine ⟨?_, ?_, ?_⟩
  · unfold lmvA
    rw [List.length_map]
    exact Nat.le_trans (List.length_filter_le _ _) h1
  · unfold lmvB
    rw [List.length_map]
    exact Nat.le_trans (List.length_filter_le _ _) h2
  · unfold lmvC
    have := flat_le (fun t => (lead p k t).flatMap fun m => (lead q j t).map fun i => (m, i)) 144 (lboth p q) (fun t _ => by
      have h4 := lead_len ht j t
      have h6 := lead_len hs k t
      have := flat_le (fun m => (lead q j t).map fun i => (m, i)) 12 (lead p k t) (fun m _ => by rw [List.length_map]; exact h4)
      omega)
    have := lboth_len (q := q) hs
    omega
theorem lead_mem {p : Part} (hs : p.Small) {k m : Int} {t : Str} (h : m ∈ lead p k t) : 0 ≤ m ∧ m < p.many := by
  unfold lead at h
  obtain ⟨s, h1, rfl⟩ := List.mem_map.mp h
  have := hs.rng s (List.mem_filter.mp h1).1
  exact ⟨this.2.2.1, this.2.2.2⟩
theorem lmv_every {p q : Part} (hs : p.Small) (ht : q.Small) {k j : Int} (hz : (k, j) ∈ every p q) {x : Pr} (hx : x ∈ lmvRaw p q k j) : x ∈ every p q := by
  rw [mem_every] at hz ⊢
  unfold lmvRaw at hx
  rcases List.mem_append.mp hx with hx | hx
  · rcases List.mem_append.mp hx with hx | hx
    · obtain ⟨s, h1, rfl⟩ := List.mem_map.mp hx
      have := hs.rng s (List.mem_filter.mp h1).1
      exact ⟨this.2.2, hz.2⟩
    · obtain ⟨s, h1, rfl⟩ := List.mem_map.mp hx
      have := ht.rng s (List.mem_filter.mp h1).1
      exact ⟨hz.1, this.2.2⟩
  · unfold lmvC at hx
    obtain ⟨t, _, hx⟩ := List.mem_flatMap.mp hx
    obtain ⟨m, hm, hx⟩ := List.mem_flatMap.mp hx
    obtain ⟨i, hi, rfl⟩ := List.mem_map.mp hx
    exact ⟨lead_mem hs hm, lead_mem ht hi⟩
abbrev n__law_moves : List Str := ["_law_near", "_law_far", "_law_k", "_law_j", "_law_own", "_law_tag", "_law_found", "_law_both_so", "_law_mine_so", "_law_its_so"]
abbrev s__law_moves : Stmt := top 43
theorem sc__law_moves : FnScope ["_law_near", "_law_far", "_law_k", "_law_j", "_law_own", "_law_tag", "_law_found", "_law_both_so", "_law_mine_so", "_law_its_so"] ["_law_near", "_law_far", "_law_k", "_law_j"] (defScope s__law_moves) := ⟨rfl, rfl, rfl, by decide +kernel, rfl, by decide +kernel, by decide +kernel⟩
def preLmv (ds : List PyData) (r : PyData) : Prop := ∃ (p q : Part) (k j : Int), p.Small ∧ q.Small ∧ (k, j) ∈ every p q ∧ ds = [ePart p, ePart q, .int k, .int j] ∧ r = .list ((lmoves p q k j).map ePr)
theorem ok_law_moves (F : Fun K "_law_moves" "_law_moves" s__law_moves f fd) (T : Blt mg) (h__law_goes : Fn P w K mg base "_law_goes" 1 ["_law_near", "_law_k", "_law_tag"] (spD K preLeads)) : FnOk P w K mg base CX0 2 f fd ["_law_near", "_law_far", "_law_k", "_law_j"] (spD K preLmv) :=
  fn_ok F sc__law_moves (fun ds d h => by obtain ⟨p, q, k, j, _, _, _, rfl, _⟩ := h; rfl) fun cdv A outer s H E hr ds d hp => by
    obtain ⟨p, q, k, j, hs, ht, hz, rfl, rfl⟩ := hp
    have h1 := hs.m; have h2 := ht.m; have h3 := hs.t; have h4 := ht.t; have h5 := hs.s; have h6 := ht.s
    obtain ⟨l1, l2, l3⟩ := lmv_len hs ht k j
    refine ds_parV 6 7 (.own []) (.dat (.list ((lboth p q).map .str))) (EN.v (en_lst ea_nil)) ?_ ?_ rfl rfl (by decide) (by intro _; rfl) (by intro _; rfl) (by intro _; rfl)
    · refine EF.v (EN.f (en_lc (own := [("_law_tag", 5)]) (p.takes ++ p.makes) (.str) (fun t => decide (t ∈ q.takes ++ q.makes)) (.str) (EI.h (ei_tup (ef_catTS (ef_ixTN 0 (EF.t (ef_var 0 rfl rfl (by walk_at "vis"))) ef_int rfl) (ef_ixTN 1 (EF.t (ef_var 0 rfl rfl (by walk_at "vis"))) ef_int rfl) ?_))) (by walk_at "blk") (fun x hx => ⟨_, (eg_name 5 rfl (by decide) (by walk_at "loc") (by walk_at "fnl")), (ets_one (et_cmp (ec_inS (ef_var 5 rfl rfl (by walk_at "vis")) (EF.t (ef_catTS (ef_ixTN 0 (EF.t (ef_var 1 rfl rfl (by walk_at "vis"))) ef_int rfl) (ef_ixTN 1 (EF.t (ef_var 1 rfl rfl (by walk_at "vis"))) ef_int rfl) ?_))))), fun hpr => (ef_var 5 rfl rfl (by walk_at "vis"))⟩) ?_))
      · omega
      · omega
      · rw [List.length_append]; omega
    refine ds_forIfApp 6 [4] p.steps eStp (fun s => decide (s.1 = k) && (decide (s.2.1 = ("" : Str)) || (decide (s.2.1 ∈ p.makes) && !decide (s.2.1 ∈ lboth p q)))) (fun s => ePr (s.2.2, j)) ?_ rfl (fun x hx ds => ⟨_, [4], (eg_name 4 rfl (by decide) (by walk_at "loc") (by walk_at "fnl")), rfl, rfl, ?_, fun _ => ?_⟩) ?_ ?_ rfl (by walk_at "vis")
    · exact (ei_tup (ef_ixTN 3 (EF.t (ef_var 0 rfl rfl (by walk_at "vis"))) ef_int rfl))
    · exact ⟨_, (EW.t (ew_and (et_cmp (ec_eq (ef_ixTN 0 (EF.t (ef_var 4 rfl rfl (by walk_at "vis"))) ef_int rfl) (ef_var 2 rfl rfl (by walk_at "vis")))) (fun _ => (ew_and1 (EW.t (ew_or (et_cmp (ec_eqS (ef_ixTN 1 (EF.t (ef_var 4 rfl rfl (by walk_at "vis"))) ef_int rfl) ef_str)) (fun _ => (ew_or1 (EW.t (ew_and (et_cmp (ec_inS (ef_ixTN 1 (EF.t (ef_var 4 rfl rfl (by walk_at "vis"))) ef_int rfl) (EF.t (ef_ixTN 1 (EF.t (ef_var 0 rfl rfl (by walk_at "vis"))) ef_int rfl)))) (fun _ => (ew_and1 (et_cmp (ec_notInS (ef_ixTN 1 (EF.t (ef_var 4 rfl rfl (by walk_at "vis"))) ef_int rfl) (EF.l (ef_var 7 rfl rfl (by walk_at "vis"))))))))))))))))), rfl⟩
    · exact (ef_tup (ea_cons (ef_ixTN 2 (EF.t (ef_var 4 rfl rfl (by walk_at "vis"))) ef_int rfl) (ea_cons (ef_var 3 rfl rfl (by walk_at "vis")) ea_nil)))
    · walk_at "len"
    refine ds_forIfApp 6 [4] q.steps eStp (fun s => decide (s.1 = j) && (decide (s.2.1 = ("" : Str)) || (decide (s.2.1 ∈ q.makes) && !decide (s.2.1 ∈ lboth p q)))) (fun s => ePr (k, s.2.2)) ?_ rfl (fun x hx ds => ⟨_, [4], (eg_name 4 rfl (by decide) (by walk_at "loc") (by walk_at "fnl")), rfl, rfl, ?_, fun _ => ?_⟩) ?_ ?_ rfl (by walk_at "vis")
    · exact (ei_tup (ef_ixTN 3 (EF.t (ef_var 1 rfl rfl (by walk_at "vis"))) ef_int rfl))
    · exact ⟨_, (EW.t (ew_and (et_cmp (ec_eq (ef_ixTN 0 (EF.t (ef_var 4 rfl rfl (by walk_at "vis"))) ef_int rfl) (ef_var 3 rfl rfl (by walk_at "vis")))) (fun _ => (ew_and1 (EW.t (ew_or (et_cmp (ec_eqS (ef_ixTN 1 (EF.t (ef_var 4 rfl rfl (by walk_at "vis"))) ef_int rfl) ef_str)) (fun _ => (ew_or1 (EW.t (ew_and (et_cmp (ec_inS (ef_ixTN 1 (EF.t (ef_var 4 rfl rfl (by walk_at "vis"))) ef_int rfl) (EF.t (ef_ixTN 1 (EF.t (ef_var 1 rfl rfl (by walk_at "vis"))) ef_int rfl)))) (fun _ => (ew_and1 (et_cmp (ec_notInS (ef_ixTN 1 (EF.t (ef_var 4 rfl rfl (by walk_at "vis"))) ef_int rfl) (EF.l (ef_var 7 rfl rfl (by walk_at "vis"))))))))))))))))), rfl⟩
    · exact (ef_tup (ea_cons (ef_var 2 rfl rfl (by walk_at "vis")) (ea_cons (ef_ixTN 2 (EF.t (ef_var 4 rfl rfl (by walk_at "vis"))) ef_int rfl) ea_nil)))
    · simp only [List.length_append, List.length_map, List.length_nil]
      have := List.length_filter_le (fun s : Stp => decide (s.1 = k) && (decide (s.2.1 = ("" : Str)) || (decide (s.2.1 ∈ p.makes) && !decide (s.2.1 ∈ lboth p q)))) p.steps
      omega
    refine ds_forApp 6 [5, 8, 9] (lboth p q) .str (fun c => (lead p k c).flatMap fun m => (lead q j c).map fun i => ePr (m, i)) ?_ rfl ?_ ?_
    · exact (ei_list (ef_var 7 rfl rfl (by walk_at "vis")))
    · intro i c hc ds hds
      refine ⟨_, [5], (eg_name 5 rfl (by decide) (by walk_at "loc") (by walk_at "fnl")), ?_⟩
      have hds3 : ds.length ≤ 1480 := by
        have h4 := take_flat_le (fun c => (lead p k c).flatMap fun m => (lead q j c).map fun i => ePr (m, i)) (lboth p q) i
        have h5 : ((lboth p q).flatMap (fun c => (lead p k c).flatMap fun m => (lead q j c).map fun i => ePr (m, i))).length = (lmvC p q k j).length := by
          unfold lmvC
          simp only [List.length_flatMap, List.length_map]
        have l1' := l1; have l2' := l2
        unfold lmvA at l1'; unfold lmvB at l2'
        rw [List.length_map] at l1' l2'
        rw [hds]
        simp only [List.length_append, List.length_map, List.length_nil] at h4 ⊢
        omega
      refine ds_forApp 6 [8, 9] (lead p k c) .int (fun m => (lead q j c).map fun i => ePr (m, i)) ?_ rfl ?_ (ds_nil rfl)
      · refine (ei_list (ef_call h__law_goes (ea_cons (ef_var 0 rfl rfl (by walk_at "vis")) (ea_cons (ef_var 2 rfl rfl (by walk_at "vis")) (ea_cons (ef_var 5 rfl rfl (by walk_at "vis")) ea_nil))) ?_ (Nat.le_of_ble_eq_true rfl) (by intro _; rfl)))
        exact ⟨p, _, _, hs, rfl, rfl⟩
      · intro j2 m hm ds2 hds2
        refine ⟨_, [8], (eg_name 8 rfl (by decide) (by walk_at "loc") (by walk_at "fnl")), ?_⟩
        refine ds_setN 6 (ds2 ++ (lead q j c).map fun i => ePr (m, i)) ?_ (ds_nil rfl) rfl (by walk_at "loc")
        refine ⟨_, (en_catS (es_own 6 rfl rfl (by walk_at "vis")) (EN.s (en_lc0 (own := [("_law_its_so", 9)]) (lead q j c) (.int) (fun i => ePr (m, i)) (EI.h (ei_list (ef_call h__law_goes (ea_cons (ef_var 1 rfl rfl (by walk_at "vis")) (ea_cons (ef_var 3 rfl rfl (by walk_at "vis")) (ea_cons (ef_var 5 rfl rfl (by walk_at "vis")) ea_nil))) ?_ (Nat.le_of_ble_eq_true rfl) (by intro _; rfl)))) (by walk_at "blk") (fun x hx => ⟨_, (eg_name 9 rfl (by decide) (by walk_at "loc") (by walk_at "fnl")), (ef_tup (ea_cons (ef_var 8 rfl rfl (by walk_at "vis")) (ea_cons (ef_var 9 rfl rfl (by walk_at "vis")) ea_nil)))⟩) ?_)) ?_), rfl⟩
        · exact ⟨q, _, _, ht, rfl, rfl⟩
        · have := lead_len ht j c; omega
        · have h4 := lead_len ht j c
          have h5 := take_flat_le (fun m => (lead q j c).map fun i => ePr (m, i)) (lead p k c) j2
          have h6 := lead_len hs k c
          have h7 : ((lead p k c).flatMap fun m => (lead q j c).map fun i => ePr (m, i)).length ≤ 144 := by
            rw [List.length_flatMap]
            simp only [List.length_map, List.map_const', List.sum_replicate_nat]
            exact Nat.le_trans (Nat.mul_le_mul h6 h4) (by decide)
          rw [hds2, List.length_append, List.length_map]
          omega
    have er : [] ++ (p.steps.filter fun s => decide (s.1 = k) && (decide (s.2.1 = ("" : Str)) || (decide (s.2.1 ∈ p.makes) && !decide (s.2.1 ∈ lboth p q)))).map (fun s => ePr (s.2.2, j)) ++ (q.steps.filter fun s => decide (s.1 = j) && (decide (s.2.1 = ("" : Str)) || (decide (s.2.1 ∈ q.makes) && !decide (s.2.1 ∈ lboth p q)))).map (fun s => ePr (k, s.2.2)) ++
        (lboth p q).flatMap (fun c => (lead p k c).flatMap fun m => (lead q j c).map fun i => ePr (m, i)) = (lmvRaw p q k j).map ePr := by
      unfold lmvRaw lmvA lmvB lmvC
      simp only [List.nil_append, List.map_append, List.map_map, List.map_flatMap]
      rfl
    rw [er]
    refine ds_ret (EN.f (en_ss told_pr kd_pr srt_prs T (el_own 6 rfl rfl (by walk_at "vis")) ?_)) rfl
    exact ⟨every p q, Nat.lt_of_le_of_lt (every_len hs ht) (by decide), fun x hx => lmv_every hs ht hz hx⟩
end
end Fs

set_option maxRecDepth 100000
set_option maxHeartbeats 2000000
/-! DM, part 5: lists put together, tracked or frozen. -/
namespace L2
open PySem PySem.Spec PyProof.Rows
variable {X : Cx}
def rCatL (K : PySem.W.Frag) : R2 := fun x y H Q => ∃ l b xs zs, x = .ref l ∧ y = .ref b ∧ SqL K H l xs ∧ SqL K H b zs ∧ xs.length + zs.length ≤ sizeLine ∧ ∀ p, H p = none → Q (.ref p) (upd H p (.lst (xs ++ zs)))
theorem op_catL : OpR X (binaryOp .Add) (rCatL X.K) := by
  intro pins s σ H x y v u Q I rx ry h
  obtain ⟨l, b, xs, zs, rfl, rfl, hH, hB, hz, q⟩ := h
  cases rx
  cases ry
  obtain ⟨its, r, ⟨⟨c1, k1, t1, d1⟩, n, e, hc, hd, hs⟩, z⟩ := I.list hH
  obtain ⟨its2, r2, ⟨⟨c2, k2, t2, d2⟩, n2, e2, hc2, hd2, hs2⟩, z2⟩ := I.list hB
  simp only at hc hd hs hc2 hd2 hs2
  subst hc hd hs hc2 hd2 hs2
  have hl := r.length
  have hl2 := r2.length
  refine concat_meets ⟨_, e, rfl⟩ ⟨_, e2, rfl⟩ noFill_list_add seq_list_add PySem.F.slot_list_add PySem.F.entry_list_add (PySem.F.args_list_add_2 _ _) (list_addW l b its.toArray its2.toArray n n2 none none d1 d2 (by rw [List.size_toArray, List.size_toArray]; omega)) ⟨e, e2, ?_⟩
  have ea : its.toArray ++ its2.toArray = (its ++ its2).toArray := by simp
  rw [ea]
  exact ⟨.ref _, _, I.lnew (t' := s.toks) (r.append r2) (by rw [List.length_append]; omega), rfl, q _ I.fresh⟩
end L2
namespace DL
open PySem L2
section
variable {P : Program} {w : World} {K : PySem.W.Frag} {mg : Str → Option Value} {base : Heap} {C : Ctx P w K mg base} {rho : List SV} {e a b : Expr} {ds xs ys : List PyData} {pos : Pos}
theorem en_catL (ha : EL C rho a true xs) (hb : EL C rho b true ys) (hl : xs.length + ys.length ≤ 100000) : EN C rho (.BinOp a .Add b pos) (xs ++ ys) :=
  EN.of (t := tOp (rCatL K) (wE C a) (wE C b)) (fun i => C.k i (fun k => PE (C.X i) _ (tOp (rCatL k) _ _)) (pe_op op_catL (pe_w i) (pe_w i))) fun B σ G H Q q z => ha B σ G H _ q fun l vs G1 H1 x1 s1 t1 => hb B σ G1 H1 _ (q.nx x1) fun l2 us G2 H2 x2 s2 t2 =>
    ⟨l, l2, vs, us, rfl, rfl, SqL.ex x2.h (of_sq_l s1), of_sq_l s2, by rw [dpa_len t1, dpa_len t2]; exact sz_of hl, fun p hp => z p _ G2 _ ((x1.trans x2).trans (Nx.priv x2.s hp)) ((x1.trans x2).h.free hp) (x2.s.free hp) upd_same (dpa_app (dpa_ex x2.g t1) t2)⟩
end
end DL

set_option maxRecDepth 100000
set_option maxHeartbeats 4000000
namespace Fs
open PySem L2 DL NS
local macro_rules | `(tactic| walk_at "vis") => `(tactic| (intro _; first | exact Or.inl rfl | exact Or.inr (Or.inl rfl) | exact Or.inr (Or.inr rfl)))
local macro_rules | `(tactic| walk_at "loc") => `(tactic| (intro _; first | exact Or.inl rfl | exact Or.inr rfl))
local macro_rules | `(tactic| walk_at "fnl") => `(tactic| (intro _; first | exact Or.inr rfl | exact Or.inl rfl))
local macro_rules | `(tactic| walk_at "len") => `(tactic| (simp only [List.length_append, List.length_map, List.length_nil, List.length_cons]; omega))
local macro_rules | `(tactic| walk_at "blk") => `(tactic| (intro _; kernel_rfl))
section
variable {P : Program} {w : World} {K : PySem.W.Frag} {mg : Str → Option Value} {base : Heap} {f : Addr} {fd : FuncData}


variable {cN cF fI : Addr} {file : Str}

def ahNew (p q : Part) (found new : List Pr) : List Pr := sortE ePr (firsts ((new.flatMap fun o => lmoves p q o.1 o.2).filter fun o => !decide (o ∈ found)))
def ahGo (p q : Part) : Nat → List Pr → List Pr → List Pr
  | 0, found, _ => found
  | n + 1, found, new => if new.length = 0 then found else ahGo p q n (found ++ ahNew p q found new) (ahNew p q found new)
def ahead (p q : Part) (k j : Int) : List Pr := ahGo p q 20 [(k, j)] [(k, j)]
theorem lmoves_sub {p q : Part} (hs : p.Small) (ht : q.Small) {k j : Int} (hz : (k, j) ∈ every p q) : ∀ x ∈ lmoves p q k j, x ∈ every p q := fun x hx => lmv_every hs ht hz (mem_firsts.mp (mem_sortE.mp hx))
theorem lmoves_nodup (p q : Part) (k j : Int) : (lmoves p q k j).Nodup := (sortE_perm _ _).nodup_iff.mpr (firsts_nodup _)
theorem lmoves_len {p q : Part} (hs : p.Small) (ht : q.Small) {k j : Int} (hz : (k, j) ∈ every p q) : (lmoves p q k j).length ≤ 16 := sub_len hs ht (lmoves_nodup p q k j) (lmoves_sub hs ht hz)
theorem ahNew_sub {p q : Part} (hs : p.Small) (ht : q.Small) {found new : List Pr} (hn : ∀ x ∈ new, x ∈ every p q) : ∀ x ∈ ahNew p q found new, x ∈ every p q ∧ x ∉ found := fun x hx => by
  have := mem_firsts.mp (mem_sortE.mp hx)
  obtain ⟨h1, h2⟩ := List.mem_filter.mp this
  obtain ⟨o, ho, h3⟩ := List.mem_flatMap.mp h1
  refine ⟨lmoves_sub hs ht (hn o ho) x h3, by simpa using h2⟩
theorem ahNew_nodup (p q : Part) (found new : List Pr) : (ahNew p q found new).Nodup := (sortE_perm _ _).nodup_iff.mpr (firsts_nodup _)
theorem ahGo_nil (p q : Part) (n : Nat) (found : List Pr) : ahGo p q n found [] = found := by cases n <;> rfl
/-- what the walk ahead keeps -/
structure InA (p q : Part) (found new : List Pr) : Prop where
  nd : found.Nodup
  sub : ∀ x ∈ found, x ∈ every p q
  ns : ∀ x ∈ new, x ∈ found
  nn : new.Nodup
theorem InA.step {p q : Part} (hs : p.Small) (ht : q.Small) {found new : List Pr} (h : InA p q found new) : InA p q (found ++ ahNew p q found new) (ahNew p q found new) := by
  have hw := ahNew_sub hs ht (found := found) fun x hx => h.sub x (h.ns x hx)
  refine ⟨?_, fun x hx => (List.mem_append.mp hx).elim (h.sub x) fun hx => (hw x hx).1, fun x hx => List.mem_append_right _ hx, ahNew_nodup _ _ _ _⟩
  rw [List.nodup_append]
  exact ⟨h.nd, ahNew_nodup _ _ _ _, fun a ha b hb e => (hw b hb).2 (by rw [← e]; exact ha)⟩
abbrev n__law_ahead : List Str := ["_law_near", "_law_far", "_law_k", "_law_j", "_law_found", "_law_new_so", "_law_later_so", "_law_own"]
abbrev s__law_ahead : Stmt := top 44
theorem sc__law_ahead : FnScope ["_law_near", "_law_far", "_law_k", "_law_j", "_law_found", "_law_new_so", "_law_later_so", "_law_own"] ["_law_near", "_law_far", "_law_k", "_law_j"] (defScope s__law_ahead) := ⟨rfl, rfl, rfl, by decide +kernel, rfl, by decide +kernel, by decide +kernel⟩
def preAh (ds : List PyData) (r : PyData) : Prop := ∃ (p q : Part) (k j : Int), p.Small ∧ q.Small ∧ (k, j) ∈ every p q ∧ ds = [ePart p, ePart q, .int k, .int j] ∧ r = .list ((ahead p q k j).map ePr)
theorem ok_law_ahead (F : Fun K "_law_ahead" "_law_ahead" s__law_ahead f fd) (T : Blt mg) (h__law_moves : Fn P w K mg base "_law_moves" 2 ["_law_near", "_law_far", "_law_k", "_law_j"] (spD K preLmv)) : FnOk P w K mg base CX0 3 f fd ["_law_near", "_law_far", "_law_k", "_law_j"] (spD K preAh) :=
  fn_ok F sc__law_ahead (fun ds d h => by obtain ⟨p, q, k, j, _, _, _, rfl, _⟩ := h; rfl) fun cdv A outer s H E hr ds d hp => by
    obtain ⟨p, q, k, j, hs, ht, hz, rfl, rfl⟩ := hp
    refine ds_asgV (.tuple [.list ([(k, j)].map ePr), .list ([(k, j)].map ePr)]) [4, 5] (ef_tup (ea_cons (EN.f (en_lst (ea_cons (ef_tup (ea_cons (ef_var 2 rfl rfl (by walk_at "vis")) (ea_cons (ef_var 3 rfl rfl (by walk_at "vis")) ea_nil))) ea_nil))) (ea_cons (EN.f (en_lst (ea_cons (ef_tup (ea_cons (ef_var 2 rfl rfl (by walk_at "vis")) (ea_cons (ef_var 3 rfl rfl (by walk_at "vis")) ea_nil))) ea_nil))) ea_nil))) (eg_tup (egs_cons (eg_name 4 rfl (by decide) (by walk_at "loc") (by walk_at "fnl")) (egs_cons (eg_name 5 rfl (by decide) (by walk_at "loc") (by walk_at "fnl")) egs_nil))) ?_
    refine ds_while (fun m r => ∃ (found new : List Pr) (s4 s7 : SV), r = [.dat (ePart p), .dat (ePart q), .dat (.int k), .dat (.int j), .dat (.list (found.map ePr)), .dat (.list (new.map ePr)), s4, s7] ∧ InA p q found new ∧ m = 2 * (17 - found.length) + (if new.length = 0 then 0 else 1) ∧
      ∃ n, (new.length = 0 ∨ 17 ≤ n + found.length) ∧ ahGo p q n found new = ahead p q k j) 33 ⟨[(k, j)], [(k, j)], _, _, rfl, ⟨by simp, fun x hx => ?_, fun x hx => hx, by simp⟩, rfl, 20, .inr (by simp), rfl⟩ ?_ (fun _ => PassesOwn.never)
    · rw [List.mem_singleton.mp hx]; exact hz
    rintro m r ⟨found, new, s4, s7, rfl, iw, rfl, n, hn, hg⟩
    have hl := sub_len hs ht iw.nd iw.sub
    refine ⟨_, (et_cmp (ec_neNilL (ef_var 5 rfl rfl (by walk_at "vis")) (fun _ _ => sh_pr2))), fun hk => ?_, fun hk => ?_⟩
    · have hk : new.length ≠ 0 := by simpa using hk
      have hn : 17 ≤ n + found.length := hn.resolve_left hk
      refine ds_wipe [6, 7] ?_
      refine ds_setN 6 [] ?_ ?_ rfl (by walk_at "loc")
      · exact ⟨_, (en_lst ea_nil), rfl⟩
      have hne : ∀ x ∈ new, x ∈ every p q := fun x hx => iw.sub x (iw.ns x hx)
      have hnl := sub_len hs ht iw.nn hne
      refine ds_forApp 6 [7] new ePr (fun o => (lmoves p q o.1 o.2).map ePr) ?_ rfl ?_ ?_
      · exact (ei_list (ef_var 5 rfl rfl (by walk_at "vis")))
      · intro i o ho ds hds
        refine ⟨_, [7], (eg_name 7 rfl (by decide) (by walk_at "loc") (by walk_at "fnl")), ?_⟩
        refine ds_setN 6 (ds ++ (lmoves p q o.1 o.2).map ePr) ?_ (ds_nil rfl) rfl (by walk_at "loc")
        have ho2 := hne o (List.mem_of_getElem? ho)
        refine ⟨_, (en_catL (el_own 6 rfl rfl (by walk_at "vis")) (EF.l (ef_call h__law_moves (ea_cons (ef_var 0 rfl rfl (by walk_at "vis")) (ea_cons (ef_var 1 rfl rfl (by walk_at "vis")) (ea_cons (ef_ixTN 0 (EF.t (ef_var 7 rfl rfl (by walk_at "vis"))) ef_int rfl) (ea_cons (ef_ixTN 1 (EF.t (ef_var 7 rfl rfl (by walk_at "vis"))) ef_int rfl) ea_nil)))) ?_ (Nat.le_of_ble_eq_true rfl) (by intro _; rfl))) ?_), rfl⟩
        · exact ⟨p, q, _, _, hs, ht, ho2, rfl, rfl⟩
        · have h1 := flat_le (fun o : Pr => (lmoves p q o.1 o.2).map ePr) 16 (new.take i) (fun x hx => by
            rw [List.length_map]
            exact lmoves_len hs ht (hne x (List.mem_of_mem_take hx)))
          have h2 : i < new.length := (List.getElem?_eq_some_iff.mp ho).1
          have h3 := lmoves_len hs ht ho2
          rw [hds, List.length_map, List.length_append, List.length_nil]
          rw [List.length_take] at h1
          omega
      have he : new.flatMap (fun o => (lmoves p q o.1 o.2).map ePr) = (new.flatMap fun o => lmoves p q o.1 o.2).map ePr := by rw [List.map_flatMap]
      rw [List.nil_append, he]
      refine ds_setF 5 (.list ((ahNew p q found new).map ePr)) ?_ ?_ rfl (by walk_at "loc")
      · refine ⟨_, (EN.f (en_ss told_pr kd_pr srt_prs T (EN.l (en_lc (own := [("_law_own", 7)]) (new.flatMap fun o => lmoves p q o.1 o.2) (ePr) (fun o => !decide (o ∈ found)) (ePr) (eih_list (el_own 6 rfl rfl (by walk_at "vis"))) (by walk_at "blk") (fun x hx => ⟨_, (eg_name 7 rfl (by decide) (by walk_at "loc") (by walk_at "fnl")), (ets_one (et_cmp (ec_notInPr (ef_var 7 rfl rfl (by walk_at "vis")) (EF.l (ef_var 4 rfl rfl (by walk_at "vis")))))), fun hpr => (ef_var 7 rfl rfl (by walk_at "vis"))⟩) ?_)) ?_)), rfl⟩
        · have h1 := flat_le (fun o : Pr => lmoves p q o.1 o.2) 16 new (fun x hx => lmoves_len hs ht (hne x hx))
          omega
        · refine ⟨every p q, Nat.lt_of_le_of_lt (every_len hs ht) (by decide), fun x hx => ?_⟩
          obtain ⟨o, ho, h3⟩ := List.mem_flatMap.mp (List.mem_filter.mp hx).1
          exact lmoves_sub hs ht (hne o ho) x h3
      have iw2 := iw.step hs ht
      have hl2 := sub_len hs ht iw2.nd iw2.sub
      rw [List.length_append] at hl2
      refine ds_setF 4 (.list ((found ++ ahNew p q found new).map ePr)) ?_ ?_ rfl (by walk_at "loc")
      · refine ⟨_, (EN.f (en_catL (EF.l (ef_var 4 rfl rfl (by walk_at "vis"))) (EF.l (ef_var 5 rfl rfl (by walk_at "vis"))) ?_)), by rw [List.map_append]⟩
        rw [List.length_map, List.length_map]
        omega
      refine ds_nil ⟨_, ?_, found ++ ahNew p q found new, ahNew p q found new, _, _, rfl, iw2, rfl, n - 1, ?_, ?_⟩
      · rw [List.length_append, if_neg hk]
        split <;> omega
      · rw [List.length_append]
        omega
      · rw [← hg]
        cases n with
        | zero => omega
        | succ n =>
          show ahGo p q n _ _ = ahGo p q (n + 1) _ _
          conv => rhs; unfold ahGo
          rw [if_neg hk]
    · have hk : new.length = 0 := by simpa using hk
      have hk2 : new = [] := List.length_eq_zero_iff.mp hk
      subst hk2
      rw [ahGo_nil] at hg
      refine ds_ret (ef_var 4 rfl rfl (by walk_at "vis")) ?_
      rw [hg]
end
end Fs

set_option maxRecDepth 100000
set_option maxHeartbeats 4000000
namespace Fs
open PySem L2 DL NS
local macro_rules | `(tactic| walk_at "vis") => `(tactic| (intro _; first | exact Or.inl rfl | exact Or.inr (Or.inl rfl) | exact Or.inr (Or.inr rfl)))
local macro_rules | `(tactic| walk_at "loc") => `(tactic| (intro _; first | exact Or.inl rfl | exact Or.inr rfl))
local macro_rules | `(tactic| walk_at "fnl") => `(tactic| (intro _; first | exact Or.inr rfl | exact Or.inl rfl))
local macro_rules | `(tactic| walk_at "len") => `(tactic| (simp only [List.length_append, List.length_map, List.length_nil, List.length_cons]; omega))
local macro_rules | `(tactic| walk_at "blk") => `(tactic| (intro _; kernel_rfl))
section
variable {P : Program} {w : World} {K : PySem.W.Frag} {mg : Str → Option Value} {base : Heap} {f : Addr} {fd : FuncData}


variable {cN cF fI : Addr} {file : Str}

def lbadP (p q : Part) (k j : Int) : Bool := !decide (((ahead p q k j).filter fun o => !decide ((lclash p q o.1 o.2).length = 0)).length = 0)
def lbad (p q : Part) : List Pr := (rng p.many).flatMap fun k => ((rng q.many).filter fun j => lbadP p q k j).map fun j => (k, j)
theorem ahGo_keep {p q : Part} (hs : p.Small) (ht : q.Small) : ∀ (n : Nat) (found new : List Pr), InA p q found new → (ahGo p q n found new).Nodup ∧ ∀ x ∈ ahGo p q n found new, x ∈ every p q
  | 0, found, new, h => ⟨h.nd, h.sub⟩
  | n + 1, found, new, h => by
    unfold ahGo
    split
    · exact ⟨h.nd, h.sub⟩
    · exact ahGo_keep hs ht n _ _ (h.step hs ht)
theorem inA0 {p q : Part} {k j : Int} (hz : (k, j) ∈ every p q) : InA p q [(k, j)] [(k, j)] := ⟨by simp, fun x hx => by rw [List.mem_singleton.mp hx]; exact hz, fun x hx => hx, by simp⟩
theorem ahead_sub {p q : Part} (hs : p.Small) (ht : q.Small) {k j : Int} (hz : (k, j) ∈ every p q) : (ahead p q k j).Nodup ∧ ∀ x ∈ ahead p q k j, x ∈ every p q := ahGo_keep hs ht _ _ _ (inA0 hz)
theorem lclash_ok {p q : Part} (hs : p.Small) (ht : q.Small) {k j : Int} : ∀ c ∈ lclash p q k j, PyData.strOk c = true := fun c hc => by
  rcases List.mem_append.mp (mem_sortE.mp hc) with h | h
  · exact hs.okm c (List.mem_filter.mp h).1
  · exact ht.okm c (List.mem_filter.mp h).1
abbrev n__law_bad : List Str := ["_law_near", "_law_far", "_law_found", "_law_k", "_law_j", "_law_own"]
abbrev s__law_bad : Stmt := top 45
theorem sc__law_bad : FnScope ["_law_near", "_law_far", "_law_found", "_law_k", "_law_j", "_law_own"] ["_law_near", "_law_far"] (defScope s__law_bad) := ⟨rfl, rfl, rfl, by decide +kernel, rfl, by decide +kernel, by decide +kernel⟩
def preLbad (ds : List PyData) (r : PyData) : Prop := ∃ (p q : Part), p.Small ∧ q.Small ∧ ds = [ePart p, ePart q] ∧ r = .list ((lbad p q).map ePr)
theorem ok_law_bad (F : Fun K "_law_bad" "_law_bad" s__law_bad f fd) (T : Blt mg) (h__law_ahead : Fn P w K mg base "_law_ahead" 3 ["_law_near", "_law_far", "_law_k", "_law_j"] (spD K preAh)) (h__law_clash : Fn P w K mg base "_law_clash" 2 ["_law_near", "_law_far", "_law_k", "_law_j"] (spD K preLcl)) : FnOk P w K mg base CX0 4 f fd ["_law_near", "_law_far"] (spD K preLbad) :=
  fn_ok F sc__law_bad (fun ds d h => by obtain ⟨p, q, _, _, rfl, _⟩ := h; rfl) fun cdv A outer s H E hr ds d hp => by
    obtain ⟨p, q, hs, ht, rfl, rfl⟩ := hp
    have h1 := hs.n0; have h2 := ht.n0; have h3 := hs.n; have h4 := ht.n
    refine ds_setN 2 [] ?_ ?_ rfl (by walk_at "loc")
    · exact ⟨_, (en_lst ea_nil), rfl⟩
    refine ds_wipe [3, 4, 5] ?_
    refine ds_forApp 2 [3, 4, 5] (rng p.many) .int (fun k => ((rng q.many).filter fun j => lbadP p q k j).map fun j => ePr (k, j)) ?_ rfl ?_ ?_
    · refine (ei_rng T (ef_ixTN 2 (EF.t (ef_var 0 rfl rfl (by walk_at "vis"))) ef_int rfl) ?_)
      constructor <;> omega
    · intro i k hk ds hds
      have hk2 := mem_rng.mp (List.mem_of_getElem? hk)
      refine ⟨_, [3], (eg_name 3 rfl (by decide) (by walk_at "loc") (by walk_at "fnl")), ?_⟩
      refine ds_forIfApp 2 [4, 5] (rng q.many) .int (fun j => lbadP p q k j) (fun j => ePr (k, j)) ?_ rfl (fun x hx ds => ⟨_, [4], (eg_name 4 rfl (by decide) (by walk_at "loc") (by walk_at "fnl")), rfl, rfl, ?_, fun _ => ?_⟩) ?_ (ds_nil rfl) rfl (by walk_at "vis")
      · refine (ei_rng T (ef_ixTN 2 (EF.t (ef_var 1 rfl rfl (by walk_at "vis"))) ef_int rfl) ?_)
        constructor <;> omega
      · have hx2 := mem_rng.mp hx
        have hz : (k, x) ∈ every p q := mem_every.mpr ⟨hk2, hx2⟩
        obtain ⟨ha1, ha2⟩ := ahead_sub hs ht hz
        have ha3 := sub_len hs ht ha1 ha2
        refine ⟨_, (et_cmp (ec_neNilL (EN.f (en_lc (own := [("_law_own", 5)]) (ahead p q k x) (ePr) (fun o => !decide ((lclash p q o.1 o.2).length = 0)) (ePr) (EI.h (ei_list (ef_callV (.list ((ahead p q k x).map ePr)) h__law_ahead (ea_cons (ef_var 0 rfl rfl (by walk_at "vis")) (ea_cons (ef_var 1 rfl rfl (by walk_at "vis")) (ea_cons (ef_var 3 rfl rfl (by walk_at "vis")) (ea_cons (ef_var 4 rfl rfl (by walk_at "vis")) ea_nil)))) ?_ (Nat.le_of_ble_eq_true rfl) (by intro _; rfl)))) (by walk_at "blk") (fun x hx => ⟨_, (eg_name 5 rfl (by decide) (by walk_at "loc") (by walk_at "fnl")), (ets_one (et_cmp (ec_neNilT (ef_callV (eNs (lclash p q x.1 x.2)) h__law_clash (ea_cons (ef_var 0 rfl rfl (by walk_at "vis")) (ea_cons (ef_var 1 rfl rfl (by walk_at "vis")) (ea_cons (ef_ixTN 0 (EF.t (ef_var 5 rfl rfl (by walk_at "vis"))) ef_int rfl) (ea_cons (ef_ixTN 1 (EF.t (ef_var 5 rfl rfl (by walk_at "vis"))) ef_int rfl) ea_nil)))) ?_ (Nat.le_of_ble_eq_true rfl) (by intro _; rfl)) ?_))), fun hpr => (ef_var 5 rfl rfl (by walk_at "vis"))⟩) ?_)) (fun _ _ => sh_pr2))), rfl⟩
        · exact ⟨p, q, k, x, hs, ht, hz, rfl, rfl⟩
        · exact ⟨p, q, _, _, hs, ht, rfl, rfl⟩
        · exact fun c hc => .str (lclash_ok hs ht c hc)
        · omega
      · exact (ef_tup (ea_cons (ef_var 3 rfl rfl (by walk_at "vis")) (ea_cons (ef_var 4 rfl rfl (by walk_at "vis")) ea_nil)))
      · have h5 := flat_le (fun k => ((rng q.many).filter fun j => lbadP p q k j).map fun j => ePr (k, j)) 4 ((rng p.many).take i) (fun x hx => by
          rw [List.length_map]
          have := List.length_filter_le (fun j => lbadP p q x j) (rng q.many)
          rw [rng_len] at this
          omega)
        have h6 := rng_len p.many
        have h7 := rng_len q.many
        rw [List.length_take] at h5
        rw [hds, List.nil_append, h7]
        omega
    refine ds_retO 2 rfl ?_ rfl (by walk_at "vis")
    show PyData.list _ = PyData.list _
    unfold lbad
    simp only [List.nil_append, List.map_flatMap, List.map_map]
    rfl

end
end Fs

set_option maxRecDepth 100000
set_option maxHeartbeats 2000000
/-! DL, part 11: loops that fill a list. -/
namespace DL
open PySem PySem.Spec PyProof.Rows L2
section
variable {P : Program} {w : World} {K : PySem.W.Frag} {mg : Str → Option Value} {base : Heap} {C : Ctx P w K mg base} {rho rho' rho1 rho2 : List SV} {e a b c tg iter : Expr} {es : List Expr} {d d1 d2 d3 : PyData} {ds ds0 xs ys : List PyData} {vs : List Nat} {pos p p2 : Pos} {st : Stmt} {rest body sts : List Stmt} {Pt : Post}
/-- for .. if c: if c2: x.append(e) -/
theorem ds_forIf2App {α : Type} (k : Nat) (vs : List Nat) (xs : List α) (enc : α → PyData) (pr1 pr2 : α → Bool) (f : α → PyData) {x : Str} {c2 : Expr} {apos cpos pp ip ip2 ep : Pos} (hi : EI C rho tg iter (xs.map enc)) (hk : rho[k]? = some (.own ds0))
    (hb : ∀ x ∈ xs, ∀ ds, ∃ rho2 us, EG C (enc x) (rho.set k (.own ds)) rho2 us tg ∧ rho2[k]? = some (.own ds) ∧ wipeS rho2 vs = rho.set k (.own ds) ∧ (∃ k', ET C rho2 c k' ∧ k' = pr1 x) ∧ (pr1 x = true → ∃ k', ET C rho2 c2 k' ∧ k' = pr2 x) ∧ (pr1 x = true → pr2 x = true → EF C rho2 e (f x)))
    (hl : ds0.length + xs.length ≤ 100000) (t : DS C rest (rho.set k (.own (ds0 ++ (xs.filter fun x => pr1 x && pr2 x).map f))) Pt) (hN : C.N[k]? = some x) (hv : ∀ i, Vis (C.X i).env.scope x) (hkv : k ∉ vs := by decide)
    (hd : (x == ("__debug__" : Str)) = false := by decide) (hcd : (x == ("__classdict__" : Str)) = false := by decide)
    (hbase : ∀ i, attributeBase (.Name x pp) "append" (C.X i).env (eval (.Name x pp) (C.X i).env) = eval (.Name x pp) (C.X i).env := by intro _; rfl)
    (hfew : ∀ i, ((backTo cpos (starEach (e :: []) (C.X i).env)).all (fun x => !x.1) && (backToKw cpos (keywordEach [] (C.X i).env)).all (fun x => x.1.isSome)
      && decide ((e :: []).length + ([] : List Keyword).length + (if ([] : List Keyword).isEmpty then 0 else 1) < 30)) = true := by intro _; rfl)
    (hline : (apos.endLine == cpos.line) = true := by rfl) (hs : ∀ i, starEach (e :: []) (C.X i).env = (false, eval e (C.X i).env) :: starEach [] (C.X i).env := by intro _; rfl) (hsw : ∀ i, swapsWith (.Call (.Attribute (.Name x pp) "append" apos) [e] [] cpos) none ep.line (C.X i).env = pure false := by intro _; rfl)
    (hp : ∀ i, PassesOwn (model (C.X i).prog (C.X i).w) (C.X i).A (C.X i).env (C.X i).xe := by exact fun _ => PassesOwn.never) (hfs : ∀ i x, foldedSetIterable iter (C.X i).env x = pure x := by intro _ _; rfl) :
    DS C (.For tg iter [.If c [.If c2 [.Expr (.Call (.Attribute (.Name x pp) "append" apos) [e] [] cpos) ep] [] ip2] [] ip] [] pos :: rest) rho Pt := by
  obtain ⟨pr, hpr⟩ : ∃ pr : α → Bool, pr = fun x => pr1 x && pr2 x := ⟨_, rfl⟩
  rw [← hpr] at t
  have ef : xs.flatMap (fun x => if pr x = true then [f x] else []) = (xs.filter pr).map f := by
    induction xs with
    | nil => rfl
    | cons x xs ih =>
      rw [List.flatMap_cons]
      have ih2 : xs.flatMap (fun x => if pr x = true then [f x] else []) = (xs.filter pr).map f := by
        clear ih hi hb hl t
        induction xs with
        | nil => rfl
        | cons y ys ih3 =>
          rw [List.flatMap_cons, ih3]
          cases h : pr y with
          | true => rw [List.filter_cons_of_pos h]; rfl
          | false => rw [List.filter_cons_of_neg (by rw [h]; decide)]; rfl
      rw [ih2]
      cases h : pr x with
      | true => rw [List.filter_cons_of_pos h]; rfl
      | false => rw [List.filter_cons_of_neg (by rw [h]; decide)]; rfl
  refine ds_forApp k vs xs enc (fun x => if pr x = true then [f x] else []) hi hk (fun i x hx ds hds => ?_) (by rw [ef]; exact t) hp hfs
  obtain ⟨rho2, us, hg, h2, h3, hc, hc2, he⟩ := hb x (List.mem_of_getElem? hx) ds
  refine ⟨rho2, us, hg, ?_⟩
  have hset : ∀ sv, (rho.set k (.own ds)).set k sv = rho.set k sv := fun sv => by
    rw [List.set_set]
  have hno : pr x = false → wipeS rho2 vs = rho.set k (.own (ds ++ if pr x = true then [f x] else [])) := fun hF => by
    rw [h3, if_neg (by rw [hF]; decide), List.append_nil]
  refine ds_ifV (pr1 x) (fun r => wipeS r vs = rho.set k (.own (ds ++ if pr x = true then [f x] else []))) hc (fun hT => ?_) (fun hF => ds_nil (hno (by rw [hpr]; simp [hF]))) fun r hr => ds_nil hr
  refine ds_ifV (pr2 x) (fun r => wipeS r vs = rho.set k (.own (ds ++ if pr x = true then [f x] else []))) (hc2 hT) (fun hT2 => ?_) (fun hF => ds_nil (hno (by rw [hpr]; simp [hF]))) fun r hr => ds_nil hr
  have hTT : pr x = true := by rw [hpr]; simp [hT, hT2]
  refine ds_append k h2 (he hT hT2) ?_ (ds_nil ?_) hN hv hd hcd hbase hfew hline hs hsw
  · have hi' : i < xs.length := (List.getElem?_eq_some_iff.mp hx).1
    have hlen : ∀ l : List α, (l.flatMap fun x => if pr x = true then [f x] else []).length ≤ l.length := by
      intro l
      induction l with
      | nil => exact Nat.le_refl _
      | cons y l ih =>
        rw [List.flatMap_cons, List.length_append, List.length_cons]
        have : (if pr y = true then [f y] else []).length ≤ 1 := by split <;> simp
        omega
    have := hlen (xs.take i)
    rw [List.length_take] at this
    rw [hds, List.length_append]
    omega
  · show wipeS _ vs = _
    rw [wipeS_set hkv, h3, hset, if_pos hTT]
end
end DL

set_option maxRecDepth 100000
set_option maxHeartbeats 4000000
namespace Fs
open PySem L2 DL NS
local macro_rules | `(tactic| walk_at "vis") => `(tactic| (intro _; first | exact Or.inl rfl | exact Or.inr (Or.inl rfl) | exact Or.inr (Or.inr rfl)))
local macro_rules | `(tactic| walk_at "loc") => `(tactic| (intro _; first | exact Or.inl rfl | exact Or.inr rfl))
local macro_rules | `(tactic| walk_at "fnl") => `(tactic| (intro _; first | exact Or.inr rfl | exact Or.inl rfl))
local macro_rules | `(tactic| walk_at "len") => `(tactic| (simp only [List.length_append, List.length_map, List.length_nil, List.length_cons]; omega))
local macro_rules | `(tactic| walk_at "blk") => `(tactic| (intro _; kernel_rfl))
section
variable {P : Program} {w : World} {K : PySem.W.Frag} {mg : Str → Option Value} {base : Heap} {f : Addr} {fd : FuncData}


variable {cN cF fI : Addr} {file : Str}

/-! ### cuts -/
def lcutA (p q : Part) (k j : Int) (bad : List Pr) : List Str := (p.steps.filter fun s => (decide (s.1 = k) && (decide (s.2.1 ∈ p.takes) && !decide (s.2.1 ∈ lboth p q))) && decide ((s.2.2, j) ∈ bad)).map fun s => s.2.1
def lcutB (p q : Part) (k j : Int) (bad : List Pr) : List Str := (q.steps.filter fun s => (decide (s.1 = j) && (decide (s.2.1 ∈ q.takes) && !decide (s.2.1 ∈ lboth p q))) && decide ((k, s.2.2) ∈ bad)).map fun s => s.2.1
def lcut (p q : Part) (k j : Int) (bad : List Pr) : List Str := sortE .str (firsts (lcutA p q k j bad ++ lcutB p q k j bad))
theorem lcut_len {p q : Part} {bad : List Pr} (hs : p.Small) (ht : q.Small) (k j : Int) : (lcutA p q k j bad).length ≤ 12 ∧ (lcutB p q k j bad).length ≤ 12 := by
  have h1 := hs.s; have h2 := ht.s
  refine ⟨?_, ?_⟩
  · unfold lcutA
    rw [List.length_map]
    exact Nat.le_trans (List.length_filter_le _ _) h1
  · unfold lcutB
    rw [List.length_map]
    exact Nat.le_trans (List.length_filter_le _ _) h2
abbrev n__law_cut : List Str := ["_law_near", "_law_far", "_law_k", "_law_j", "_law_bad_so", "_law_own", "_law_found", "_law_both_so", "_law_tag"]
abbrev s__law_cut : Stmt := top 47
theorem sc__law_cut : FnScope ["_law_near", "_law_far", "_law_k", "_law_j", "_law_bad_so", "_law_own", "_law_found", "_law_both_so", "_law_tag"] ["_law_near", "_law_far", "_law_k", "_law_j", "_law_bad_so"] (defScope s__law_cut) := ⟨rfl, rfl, rfl, by decide +kernel, rfl, by decide +kernel, by decide +kernel⟩
def preLcut (ds : List PyData) (r : PyData) : Prop := ∃ (p q : Part) (k j : Int) (bad : List Pr), p.Small ∧ q.Small ∧ ds = [ePart p, ePart q, .int k, .int j, .list (bad.map ePr)] ∧ r = eNs (lcut p q k j bad)
theorem ok_law_cut (F : Fun K "_law_cut" "_law_cut" s__law_cut f fd) (T : Blt mg) : FnOk P w K mg base CX0 1 f fd ["_law_near", "_law_far", "_law_k", "_law_j", "_law_bad_so"] (spD K preLcut) :=
  fn_ok F sc__law_cut (fun ds d h => by obtain ⟨p, q, k, j, bad, _, _, rfl, _⟩ := h; rfl) fun cdv A outer s H E hr ds d hp => by
    obtain ⟨p, q, k, j, bad, hs, ht, rfl, rfl⟩ := hp
    have h1 := hs.m; have h2 := ht.m; have h3 := hs.t; have h4 := ht.t; have h5 := hs.s; have h6 := ht.s
    refine ds_parV 6 7 (.own []) (.dat (.list ((lboth p q).map .str))) (EN.v (en_lst ea_nil)) ?_ ?_ rfl rfl (by decide) (by intro _; rfl) (by intro _; rfl) (by intro _; rfl)
    · refine EF.v (EN.f (en_lc (own := [("_law_tag", 8)]) (p.takes ++ p.makes) (.str) (fun t => decide (t ∈ q.takes ++ q.makes)) (.str) (EI.h (ei_tup (ef_catTS (ef_ixTN 0 (EF.t (ef_var 0 rfl rfl (by walk_at "vis"))) ef_int rfl) (ef_ixTN 1 (EF.t (ef_var 0 rfl rfl (by walk_at "vis"))) ef_int rfl) ?_))) (by walk_at "blk") (fun x hx => ⟨_, (eg_name 8 rfl (by decide) (by walk_at "loc") (by walk_at "fnl")), (ets_one (et_cmp (ec_inS (ef_var 8 rfl rfl (by walk_at "vis")) (EF.t (ef_catTS (ef_ixTN 0 (EF.t (ef_var 1 rfl rfl (by walk_at "vis"))) ef_int rfl) (ef_ixTN 1 (EF.t (ef_var 1 rfl rfl (by walk_at "vis"))) ef_int rfl) ?_))))), fun hpr => (ef_var 8 rfl rfl (by walk_at "vis"))⟩) ?_))
      · omega
      · omega
      · rw [List.length_append]; omega
    refine ds_wipe [5] ?_
    refine ds_forIf2App 6 [5] p.steps eStp (fun s => decide (s.1 = k) && (decide (s.2.1 ∈ p.takes) && !decide (s.2.1 ∈ lboth p q))) (fun s => decide ((s.2.2, j) ∈ bad)) (fun s => .str s.2.1) ?_ rfl (fun x hx ds => ⟨_, [5], (eg_name 5 rfl (by decide) (by walk_at "loc") (by walk_at "fnl")), rfl, rfl, ?_, fun _ => ?_, fun _ _ => ?_⟩) ?_ ?_ rfl (by walk_at "vis")
    · exact (ei_tup (ef_ixTN 3 (EF.t (ef_var 0 rfl rfl (by walk_at "vis"))) ef_int rfl))
    · exact ⟨_, (EW.t (ew_and (et_cmp (ec_eq (ef_ixTN 0 (EF.t (ef_var 5 rfl rfl (by walk_at "vis"))) ef_int rfl) (ef_var 2 rfl rfl (by walk_at "vis")))) (fun _ => (ew_and (et_cmp (ec_inS (ef_ixTN 1 (EF.t (ef_var 5 rfl rfl (by walk_at "vis"))) ef_int rfl) (EF.t (ef_ixTN 0 (EF.t (ef_var 0 rfl rfl (by walk_at "vis"))) ef_int rfl)))) (fun _ => (ew_and1 (et_cmp (ec_notInS (ef_ixTN 1 (EF.t (ef_var 5 rfl rfl (by walk_at "vis"))) ef_int rfl) (EF.l (ef_var 7 rfl rfl (by walk_at "vis"))))))))))), rfl⟩
    · exact ⟨_, et_cmp (ec_inPr (x := (x.2.2, j)) (ef_tup (ea_cons (ef_ixTN 2 (EF.t (ef_var 5 rfl rfl (by walk_at "vis"))) ef_int rfl) (ea_cons (ef_var 3 rfl rfl (by walk_at "vis")) ea_nil))) (EF.l (ef_var 4 rfl rfl (by walk_at "vis")))), rfl⟩
    · exact (ef_ixTN 1 (EF.t (ef_var 5 rfl rfl (by walk_at "vis"))) ef_int rfl)
    · walk_at "len"
    refine ds_forIf2App 6 [5] q.steps eStp (fun s => decide (s.1 = j) && (decide (s.2.1 ∈ q.takes) && !decide (s.2.1 ∈ lboth p q))) (fun s => decide ((k, s.2.2) ∈ bad)) (fun s => .str s.2.1) ?_ rfl (fun x hx ds => ⟨_, [5], (eg_name 5 rfl (by decide) (by walk_at "loc") (by walk_at "fnl")), rfl, rfl, ?_, fun _ => ?_, fun _ _ => ?_⟩) ?_ ?_ rfl (by walk_at "vis")
    · exact (ei_tup (ef_ixTN 3 (EF.t (ef_var 1 rfl rfl (by walk_at "vis"))) ef_int rfl))
    · exact ⟨_, (EW.t (ew_and (et_cmp (ec_eq (ef_ixTN 0 (EF.t (ef_var 5 rfl rfl (by walk_at "vis"))) ef_int rfl) (ef_var 3 rfl rfl (by walk_at "vis")))) (fun _ => (ew_and (et_cmp (ec_inS (ef_ixTN 1 (EF.t (ef_var 5 rfl rfl (by walk_at "vis"))) ef_int rfl) (EF.t (ef_ixTN 0 (EF.t (ef_var 1 rfl rfl (by walk_at "vis"))) ef_int rfl)))) (fun _ => (ew_and1 (et_cmp (ec_notInS (ef_ixTN 1 (EF.t (ef_var 5 rfl rfl (by walk_at "vis"))) ef_int rfl) (EF.l (ef_var 7 rfl rfl (by walk_at "vis"))))))))))), rfl⟩
    · exact ⟨_, et_cmp (ec_inPr (x := (k, x.2.2)) (ef_tup (ea_cons (ef_var 2 rfl rfl (by walk_at "vis")) (ea_cons (ef_ixTN 2 (EF.t (ef_var 5 rfl rfl (by walk_at "vis"))) ef_int rfl) ea_nil))) (EF.l (ef_var 4 rfl rfl (by walk_at "vis")))), rfl⟩
    · exact (ef_ixTN 1 (EF.t (ef_var 5 rfl rfl (by walk_at "vis"))) ef_int rfl)
    · have hA := lcut_len (bad := bad) hs ht k j
      have hA := hA.1
      unfold lcutA at hA
      rw [List.length_map] at hA
      simp only [List.length_append, List.length_map, List.length_nil]
      omega
    have er : [] ++ (p.steps.filter fun s => (decide (s.1 = k) && (decide (s.2.1 ∈ p.takes) && !decide (s.2.1 ∈ lboth p q))) && decide ((s.2.2, j) ∈ bad)).map (fun s => PyData.str s.2.1) ++ (q.steps.filter fun s => (decide (s.1 = j) && (decide (s.2.1 ∈ q.takes) && !decide (s.2.1 ∈ lboth p q))) && decide ((k, s.2.2) ∈ bad)).map (fun s => PyData.str s.2.1) = (lcutA p q k j bad ++ lcutB p q k j bad).map PyData.str := by
      unfold lcutA lcutB
      simp only [List.nil_append, List.map_append, List.map_map]
      rfl
    rw [er]
    refine ds_ret (ef_tupleL T (EN.l (en_sortedSetS T (el_own 6 rfl rfl (by walk_at "vis")) ?_))) rfl
    have := lcut_len (bad := bad) hs ht k j
    rw [List.length_append]
    omega
end
end Fs

set_option maxRecDepth 100000
set_option maxHeartbeats 2000000
/-! DM, part 7: an own list is changed no more. -/
namespace DL
open PySem PySem.Spec PyProof.Rows L2
section
variable {P : Program} {w : World} {K : PySem.W.Frag} {mg : Str → Option Value} {base : Heap} {C : Ctx P w K mg base} {rho : List SV} {ds : List PyData} {sts : List Stmt} {Pt : Post}
theorem ds_freeze (k : Nat) (hk : rho[k]? = some (.own ds)) (t : DS C sts (rho.set k (.dat (.list ds))) Pt) : DS C sts rho Pt := fun G0 H0 D W σ G H tk x r kk => by
  obtain ⟨l, vs, e, h, g, b, td⟩ := r.sl k _ hk
  have x2 := x.freeze b g h
  exact t G0 H0 D W σ _ H tk x2 (r.frz hk e h g td) kk
end
end DL

set_option maxRecDepth 100000
set_option maxHeartbeats 1000000
namespace Fs
open PySem L2 DL NS
local macro_rules | `(tactic| walk_at "vis") => `(tactic| (intro _; first | exact Or.inl rfl | exact Or.inr (Or.inl rfl) | exact Or.inr (Or.inr rfl)))
local macro_rules | `(tactic| walk_at "loc") => `(tactic| (intro _; first | exact Or.inl rfl | exact Or.inr rfl))
local macro_rules | `(tactic| walk_at "fnl") => `(tactic| (intro _; first | exact Or.inr rfl | exact Or.inl rfl))
local macro_rules | `(tactic| walk_at "len") => `(tactic| (simp only [List.length_append, List.length_map, List.length_nil, List.length_cons]; omega))
local macro_rules | `(tactic| walk_at "blk") => `(tactic| (intro _; kernel_rfl))
section
variable {P : Program} {w : World} {K : PySem.W.Frag} {mg : Str → Option Value} {base : Heap} {f : Addr} {fd : FuncData}


variable {cN cF fI : Addr} {file : Str}

def loff (p q : Part) (k j : Int) (bad : List Pr) : List Str := lboth p q ++ lcut p q k j bad
def lstA (p q : Part) (k j : Int) (bad : List Pr) : List Out := (p.steps.filter fun s => decide (s.1 = k) && !decide (s.2.1 ∈ loff p q k j bad)).map fun s => (s.2.1, (s.2.2, j))
def lstB (p q : Part) (k j : Int) (bad : List Pr) : List Out := (q.steps.filter fun s => decide (s.1 = j) && !decide (s.2.1 ∈ loff p q k j bad)).map fun s => (s.2.1, (k, s.2.2))
def lstC (p q : Part) (k j : Int) : List Out := (lboth p q).flatMap fun t => (lead p k t).flatMap fun m => (lead q j t).map fun i => (("" : Str), (m, i))
def lstRaw (p q : Part) (k j : Int) (bad : List Pr) : List Out := lstA p q k j bad ++ lstB p q k j bad ++ lstC p q k j
def lsteps (p q : Part) (k j : Int) (bad : List Pr) : List Out := sortE eOut (firsts (lstRaw p q k j bad))
theorem lst_len {p q : Part} {bad : List Pr} (hs : p.Small) (ht : q.Small) (k j : Int) : (lstA p q k j bad).length ≤ 12 ∧ (lstB p q k j bad).length ≤ 12 ∧ (lstC p q k j).length ≤ 1440 := by
  have h1 := hs.s; have h2 := ht.s
  refine ⟨?_, ?_, ?_⟩
  · unfold lstA
    rw [List.length_map]
    exact Nat.le_trans (List.length_filter_le _ _) h1
  · unfold lstB
    rw [List.length_map]
    exact Nat.le_trans (List.length_filter_le _ _) h2
  · unfold lstC
    have := flat_le (fun t => (lead p k t).flatMap fun m => (lead q j t).map fun i => (("" : Str), (m, i))) 144 (lboth p q) (fun t _ => by
      have h4 := lead_len ht j t
      have h6 := lead_len hs k t
      have := flat_le (fun m => (lead q j t).map fun i => (("" : Str), (m, i))) 12 (lead p k t) (fun m _ => by rw [List.length_map]; exact h4)
      omega)
    have := lboth_len (q := q) hs
    omega
theorem lcut_len2 {p q : Part} {bad : List Pr} (hs : p.Small) (ht : q.Small) (k j : Int) : (lcut p q k j bad).length ≤ 24 := by
  have := lcut_len (bad := bad) hs ht k j
  unfold lcut
  rw [sortE_len]
  have h2 := firsts_len_le (lcutA p q k j bad ++ lcutB p q k j bad)
  rw [List.length_append] at h2
  omega
theorem lst_fit {p q : Part} {bad : List Pr} (hs : p.Small) (ht : q.Small) (k j : Int) : ∃ M : List Out, M.length < 64 ∧ ∀ x ∈ lstRaw p q k j bad, x ∈ M := by
  obtain ⟨h1, h2, _⟩ := lst_len (bad := bad) hs ht k j
  refine ⟨lstA p q k j bad ++ lstB p q k j bad ++ (every p q).map fun r => (("" : Str), r), ?_, fun x hx => ?_⟩
  · have := every_len hs ht
    rw [List.length_append, List.length_append, List.length_map]
    omega
  · unfold lstRaw at hx
    rcases List.mem_append.mp hx with hx | hx
    · exact List.mem_append_left _ hx
    · refine List.mem_append_right _ ?_
      unfold lstC at hx
      obtain ⟨t, _, hx⟩ := List.mem_flatMap.mp hx
      obtain ⟨m, hm, hx⟩ := List.mem_flatMap.mp hx
      obtain ⟨i, hi, rfl⟩ := List.mem_map.mp hx
      exact List.mem_map.mpr ⟨(m, i), mem_every.mpr ⟨lead_mem hs hm, lead_mem ht hi⟩, rfl⟩
abbrev n__law_steps : List Str := ["_law_near", "_law_far", "_law_k", "_law_j", "_law_bad_so", "_law_both_so", "_law_own", "_law_tag", "_law_off_so", "_law_found", "_law_mine_so", "_law_its_so"]
abbrev s__law_steps : Stmt := top 48
theorem sc__law_steps : FnScope ["_law_near", "_law_far", "_law_k", "_law_j", "_law_bad_so", "_law_both_so", "_law_own", "_law_tag", "_law_off_so", "_law_found", "_law_mine_so", "_law_its_so"] ["_law_near", "_law_far", "_law_k", "_law_j", "_law_bad_so"] (defScope s__law_steps) := ⟨rfl, rfl, rfl, by decide +kernel, rfl, by decide +kernel, by decide +kernel⟩
def preLst (ds : List PyData) (r : PyData) : Prop := ∃ (p q : Part) (k j : Int) (bad : List Pr), p.Small ∧ q.Small ∧ ds = [ePart p, ePart q, .int k, .int j, .list (bad.map ePr)] ∧ r = .list ((lsteps p q k j bad).map eOut)
theorem ok_law_steps (F : Fun K "_law_steps" "_law_steps" s__law_steps f fd) (T : Blt mg) (h__law_goes : Fn P w K mg base "_law_goes" 1 ["_law_near", "_law_k", "_law_tag"] (spD K preLeads)) (h__law_cut : Fn P w K mg base "_law_cut" 1 ["_law_near", "_law_far", "_law_k", "_law_j", "_law_bad_so"] (spD K preLcut)) : FnOk P w K mg base CX0 2 f fd ["_law_near", "_law_far", "_law_k", "_law_j", "_law_bad_so"] (spD K preLst) :=
  fn_ok F sc__law_steps (fun ds d h => by obtain ⟨p, q, k, j, bad, _, _, rfl, _⟩ := h; rfl) fun cdv A outer s H E hr ds d hp => by
    obtain ⟨p, q, k, j, bad, hs, ht, rfl, rfl⟩ := hp
    have h1 := hs.m; have h2 := ht.m; have h3 := hs.t; have h4 := ht.t; have h5 := hs.s; have h6 := ht.s
    obtain ⟨l1, l2, l3⟩ := lst_len (bad := bad) hs ht k j
    have hlb := lboth_len (q := q) hs
    have hlc := lcut_len2 (bad := bad) hs ht k j
    refine (ds_setLc (own := [("_law_tag", 7)]) 5 (p.takes ++ p.makes) (.str) (fun t => decide (t ∈ q.takes ++ q.makes)) (.str) (EI.h (ei_tup (ef_catTS (ef_ixTN 0 (EF.t (ef_var 0 rfl rfl (by walk_at "vis"))) ef_int rfl) (ef_ixTN 1 (EF.t (ef_var 0 rfl rfl (by walk_at "vis"))) ef_int rfl) ?_))) (by walk_at "blk") (fun x hx => ⟨_, (eg_name 7 rfl (by decide) (by walk_at "loc") (by walk_at "fnl")), (ets_one (et_cmp (ec_inS (ef_var 7 rfl rfl (by walk_at "vis")) (EF.t (ef_catTS (ef_ixTN 0 (EF.t (ef_var 1 rfl rfl (by walk_at "vis"))) ef_int rfl) (ef_ixTN 1 (EF.t (ef_var 1 rfl rfl (by walk_at "vis"))) ef_int rfl) ?_))))), fun hpr => (ef_var 7 rfl rfl (by walk_at "vis"))⟩) ?_ ?_ rfl (by intro _; rfl))
    · omega
    · omega
    · rw [List.length_append]; omega
    refine ds_freeze 5 rfl ?_
    refine ds_parV 8 9 (.dat (.list ((loff p q k j bad).map .str))) (.own []) ?_ (EN.v (en_lst ea_nil)) ?_ rfl rfl (by decide) (by intro _; rfl) (by intro _; rfl) (by intro _; rfl)
    · refine EF.v (EF.to (d1 := .list ((lboth p q).map .str ++ (lcut p q k j bad).map .str)) (EN.f (en_catL (EF.l (ef_var 5 rfl rfl (by walk_at "vis"))) (EN.l (en_list T (EF.t (ef_callV (eNs (lcut p q k j bad)) h__law_cut (ea_cons (ef_var 0 rfl rfl (by walk_at "vis")) (ea_cons (ef_var 1 rfl rfl (by walk_at "vis")) (ea_cons (ef_var 2 rfl rfl (by walk_at "vis")) (ea_cons (ef_var 3 rfl rfl (by walk_at "vis")) (ea_cons (ef_var 4 rfl rfl (by walk_at "vis")) ea_nil))))) ?_ (Nat.le_of_ble_eq_true rfl) (by intro _; rfl))))) ?_)) (by rw [← List.map_append]; rfl))
      · exact ⟨p, q, k, j, bad, hs, ht, rfl, rfl⟩
      · rw [List.length_map, List.length_map]; omega
    refine ds_wipe [6, 7, 10, 11] ?_
    show DS _ _ [.dat (ePart p), .dat (ePart q), .dat (.int k), .dat (.int j), .dat (.list (bad.map ePr)), .dat (.list ((lboth p q).map .str)), .unk, .unk, .dat (.list ((loff p q k j bad).map .str)), .own [], .unk, .unk] _
    refine ds_forIfApp 9 [6] p.steps eStp (fun s => decide (s.1 = k) && !decide (s.2.1 ∈ loff p q k j bad)) (fun s => eOut (s.2.1, (s.2.2, j))) ?_ rfl (fun x hx ds => ⟨_, [6], (eg_name 6 rfl (by decide) (by walk_at "loc") (by walk_at "fnl")), rfl, rfl, ?_, fun _ => ?_⟩) ?_ ?_ rfl (by walk_at "vis")
    · exact (ei_tup (ef_ixTN 3 (EF.t (ef_var 0 rfl rfl (by walk_at "vis"))) ef_int rfl))
    · exact ⟨_, (EW.t (ew_and (et_cmp (ec_eq (ef_ixTN 0 (EF.t (ef_var 6 rfl rfl (by walk_at "vis"))) ef_int rfl) (ef_var 2 rfl rfl (by walk_at "vis")))) (fun _ => (ew_and1 (et_cmp (ec_notInS (ef_ixTN 1 (EF.t (ef_var 6 rfl rfl (by walk_at "vis"))) ef_int rfl) (EF.l (ef_var 8 rfl rfl (by walk_at "vis"))))))))), rfl⟩
    · exact (ef_tup (ea_cons (ef_ixTN 1 (EF.t (ef_var 6 rfl rfl (by walk_at "vis"))) ef_int rfl) (ea_cons (ef_tup (ea_cons (ef_ixTN 2 (EF.t (ef_var 6 rfl rfl (by walk_at "vis"))) ef_int rfl) (ea_cons (ef_var 3 rfl rfl (by walk_at "vis")) ea_nil))) ea_nil)))
    · walk_at "len"
    refine ds_forIfApp 9 [6] q.steps eStp (fun s => decide (s.1 = j) && !decide (s.2.1 ∈ loff p q k j bad)) (fun s => eOut (s.2.1, (k, s.2.2))) ?_ rfl (fun x hx ds => ⟨_, [6], (eg_name 6 rfl (by decide) (by walk_at "loc") (by walk_at "fnl")), rfl, rfl, ?_, fun _ => ?_⟩) ?_ ?_ rfl (by walk_at "vis")
    · exact (ei_tup (ef_ixTN 3 (EF.t (ef_var 1 rfl rfl (by walk_at "vis"))) ef_int rfl))
    · exact ⟨_, (EW.t (ew_and (et_cmp (ec_eq (ef_ixTN 0 (EF.t (ef_var 6 rfl rfl (by walk_at "vis"))) ef_int rfl) (ef_var 3 rfl rfl (by walk_at "vis")))) (fun _ => (ew_and1 (et_cmp (ec_notInS (ef_ixTN 1 (EF.t (ef_var 6 rfl rfl (by walk_at "vis"))) ef_int rfl) (EF.l (ef_var 8 rfl rfl (by walk_at "vis"))))))))), rfl⟩
    · exact (ef_tup (ea_cons (ef_ixTN 1 (EF.t (ef_var 6 rfl rfl (by walk_at "vis"))) ef_int rfl) (ea_cons (ef_tup (ea_cons (ef_var 2 rfl rfl (by walk_at "vis")) (ea_cons (ef_ixTN 2 (EF.t (ef_var 6 rfl rfl (by walk_at "vis"))) ef_int rfl) ea_nil))) ea_nil)))
    · have l1' := l1
      unfold lstA at l1'
      rw [List.length_map] at l1'
      simp only [List.length_append, List.length_map, List.length_nil]
      omega
    refine ds_forApp 9 [7, 10, 11] (lboth p q) .str (fun c => (lead p k c).flatMap fun m => (lead q j c).map fun i => eOut (("" : Str), (m, i))) ?_ rfl ?_ ?_
    · exact (ei_list (ef_var 5 rfl rfl (by walk_at "vis")))
    · intro i c hc ds hds
      refine ⟨_, [7], (eg_name 7 rfl (by decide) (by walk_at "loc") (by walk_at "fnl")), ?_⟩
      have hds3 : ds.length ≤ 1480 := by
        have h4 := take_flat_le (fun c => (lead p k c).flatMap fun m => (lead q j c).map fun i => eOut (("" : Str), (m, i))) (lboth p q) i
        have h5 : ((lboth p q).flatMap (fun c => (lead p k c).flatMap fun m => (lead q j c).map fun i => eOut (("" : Str), (m, i)))).length = (lstC p q k j).length := by
          unfold lstC
          simp only [List.length_flatMap, List.length_map]
        have l1' := l1; have l2' := l2
        unfold lstA at l1'; unfold lstB at l2'
        rw [List.length_map] at l1' l2'
        rw [hds]
        simp only [List.length_append, List.length_map, List.length_nil] at h4 ⊢
        omega
      refine ds_forApp 9 [10, 11] (lead p k c) .int (fun m => (lead q j c).map fun i => eOut (("" : Str), (m, i))) ?_ rfl ?_ (ds_nil rfl)
      · refine (ei_list (ef_call h__law_goes (ea_cons (ef_var 0 rfl rfl (by walk_at "vis")) (ea_cons (ef_var 2 rfl rfl (by walk_at "vis")) (ea_cons (ef_var 7 rfl rfl (by walk_at "vis")) ea_nil))) ?_ (Nat.le_of_ble_eq_true rfl) (by intro _; rfl)))
        exact ⟨p, _, _, hs, rfl, rfl⟩
      · intro j2 m hm ds2 hds2
        refine ⟨_, [10], (eg_name 10 rfl (by decide) (by walk_at "loc") (by walk_at "fnl")), ?_⟩
        refine ds_setN 9 (ds2 ++ (lead q j c).map fun i => eOut (("" : Str), (m, i))) ?_ (ds_nil rfl) rfl (by walk_at "loc")
        refine ⟨_, (en_catL (el_own 9 rfl rfl (by walk_at "vis")) (EN.l (en_lc0 (own := [("_law_its_so", 11)]) (lead q j c) (.int) (fun i => eOut (("" : Str), (m, i))) (EI.h (ei_list (ef_call h__law_goes (ea_cons (ef_var 1 rfl rfl (by walk_at "vis")) (ea_cons (ef_var 3 rfl rfl (by walk_at "vis")) (ea_cons (ef_var 7 rfl rfl (by walk_at "vis")) ea_nil))) ?_ (Nat.le_of_ble_eq_true rfl) (by intro _; rfl)))) (by walk_at "blk") (fun x hx => ⟨_, (eg_name 11 rfl (by decide) (by walk_at "loc") (by walk_at "fnl")), (ef_tup (ea_cons ef_str (ea_cons (ef_tup (ea_cons (ef_var 10 rfl rfl (by walk_at "vis")) (ea_cons (ef_var 11 rfl rfl (by walk_at "vis")) ea_nil))) ea_nil)))⟩) ?_)) ?_), rfl⟩
        · exact ⟨q, _, _, ht, rfl, rfl⟩
        · have := lead_len ht j c; omega
        · have h4 := lead_len ht j c
          have h5 := take_flat_le (fun m => (lead q j c).map fun i => eOut (("" : Str), (m, i))) (lead p k c) j2
          have h6 := lead_len hs k c
          have h7 : ((lead p k c).flatMap fun m => (lead q j c).map fun i => eOut (("" : Str), (m, i))).length ≤ 144 := by
            rw [List.length_flatMap]
            simp only [List.length_map, List.map_const', List.sum_replicate_nat]
            exact Nat.le_trans (Nat.mul_le_mul h6 h4) (by decide)
          rw [hds2, List.length_append, List.length_map]
          omega
    have er : [] ++ (p.steps.filter fun s => decide (s.1 = k) && !decide (s.2.1 ∈ loff p q k j bad)).map (fun s => eOut (s.2.1, (s.2.2, j))) ++ (q.steps.filter fun s => decide (s.1 = j) && !decide (s.2.1 ∈ loff p q k j bad)).map (fun s => eOut (s.2.1, (k, s.2.2))) ++
        (lboth p q).flatMap (fun c => (lead p k c).flatMap fun m => (lead q j c).map fun i => eOut (("" : Str), (m, i))) = (lstRaw p q k j bad).map eOut := by
      unfold lstRaw lstA lstB lstC
      simp only [List.nil_append, List.map_append, List.map_map, List.map_flatMap]
      rfl
    rw [er]
    refine ds_ret (EN.f (en_ss told_out kd_out srt_outs T (el_own 9 rfl rfl (by walk_at "vis")) ?_)) rfl
    exact lst_fit hs ht k j
end
end Fs

set_option maxRecDepth 100000
set_option maxHeartbeats 2000000
/-! DM, part 8: four at once. -/
namespace DL
open PySem PySem.Spec PyProof.Rows L2
section
variable {P : Program} {w : World} {K : PySem.W.Frag} {mg : Str → Option Value} {base : Heap} {C : Ctx P w K mg base} {rho : List SV} {a b c o : Expr} {d1 d2 d4 : PyData} {ds : List PyData} {rest : List Stmt} {Pt : Post} {pos : Pos}
/-- a, b, c, d = frozen, frozen, a new list, frozen -/
theorem ds_par4 (k1 k2 k3 k4 : Nat) {x1 x2 x3 x4 : Str} {p1 p2 p3 p4 pt : Pos} {kt kv : Nat} {pt2 : Pos} (h1 : EF C rho a d1) (h2 : EF C rho b d2) (h3 : EN C rho c ds) (h4 : EF C rho o d4)
    (t : DS C rest ((((rho.set k1 (.dat d1)).set k2 (.dat d2)).set k3 (.own ds)).set k4 (.dat d4)) Pt) (hN1 : C.N[k1]? = some x1) (hN2 : C.N[k2]? = some x2) (hN3 : C.N[k3]? = some x3) (hN4 : C.N[k4]? = some x4)
    (hx1 : ∀ i, Loc (C.X i).env.scope x1) (hx2 : ∀ i, Loc (C.X i).env.scope x2) (hx3 : ∀ i, Loc (C.X i).env.scope x3) (hx4 : ∀ i, Loc (C.X i).env.scope x4)
    (hf1 : ∀ i, (C.X i).fn x1 = true ∨ (C.X i).env.scope.names.lookup x1 = some .local) (hf2 : ∀ i, (C.X i).fn x2 = true ∨ (C.X i).env.scope.names.lookup x2 = some .local) (hf3 : ∀ i, (C.X i).fn x3 = true ∨ (C.X i).env.scope.names.lookup x3 = some .local) (hf4 : ∀ i, (C.X i).fn x4 = true ∨ (C.X i).env.scope.names.lookup x4 = some .local)
    (hs : ∀ i, swapsWithSole [.Tuple [.Name x1 p1, .Name x2 p2, .Name x3 p3, .Name x4 p4] kt pt] (.Tuple [a, b, c, o] kv pt2) pos.line (C.X i).env = pure false := by intro _; rfl)
    (hw : ∀ i, swappedStores [.Tuple [.Name x1 p1, .Name x2 p2, .Name x3 p3, .Name x4 p4] kt pt] (.Tuple [a, b, c, o] kv pt2) (C.X i).env = pure none := by intro _; rfl)
    (he : ∀ i, (assignEach [.Tuple [.Name x1 p1, .Name x2 p2, .Name x3 p3, .Name x4 p4] kt pt] (C.X i).env).map (·.2) = [assign (.Tuple [.Name x1 p1, .Name x2 p2, .Name x3 p3, .Name x4 p4] kt pt) (C.X i).env] := by intro _; rfl)
    (ha : ∀ i, starEach (a :: [b, c, o]) (C.X i).env = (false, eval a (C.X i).env) :: starEach [b, c, o] (C.X i).env := by intro _; rfl) (hb : ∀ i, starEach (b :: [c, o]) (C.X i).env = (false, eval b (C.X i).env) :: starEach [c, o] (C.X i).env := by intro _; rfl)
    (hc : ∀ i, starEach (c :: [o]) (C.X i).env = (false, eval c (C.X i).env) :: starEach [o] (C.X i).env := by intro _; rfl) (ho : ∀ i, starEach (o :: []) (C.X i).env = (false, eval o (C.X i).env) :: starEach [] (C.X i).env := by intro _; rfl) :
    DS C (.Assign [.Tuple [.Name x1 p1, .Name x2 p2, .Name x3 p3, .Name x4 p4] kt pt] (.Tuple [a, b, c, o] kv pt2) pos :: rest) rho Pt :=
  DS.cons (t := tAsg (tTup (tCons (wE C a) (tCons (wE C b) (tCons (wE C c) (tCons (wE C o) tNil))))) (gTup K 4 (gCons (gName k1) (gCons (gName k2) (gCons (gName k3) (gCons (gName k4) gNil)))))) (fun i =>
    ps_asg (pe_tup (pa_cons (pe_w i) (pa_cons (pe_w i) (pa_cons (pe_w i) (pa_cons (pe_w i) pa_nil (ho i)) (hc i)) (hb i)) (ha i)))
      (C.k i (fun k => PG (C.X i) _ (gTup k _ _)) (pg_tup (C.calm i) (pgs_cons (pg_name (by rw [C.hN]; exact C.nd) (by rw [C.hN]; exact hN1) (hx1 i) (hf1 i)) (pgs_cons (pg_name (by rw [C.hN]; exact C.nd) (by rw [C.hN]; exact hN2) (hx2 i) (hf2 i))
        (pgs_cons (pg_name (by rw [C.hN]; exact C.nd) (by rw [C.hN]; exact hN3) (hx3 i) (hf3 i)) (pgs_cons (pg_name (by rw [C.hN]; exact C.nd) (by rw [C.hN]; exact hN4) (hx4 i) (hf4 i)) pgs_nil rfl) rfl) rfl) rfl) rfl rfl)) (hs i) (hw i) (he i))
    fun G0 H0 D W σ G H tk xx r kk => h1 H0 σ G H _ r fun v1 G1 H1 y1 n1 => h2 H0 σ G1 H1 _ (r.nx y1) fun v2 G2 H2 y2 n2 => h3 H0 σ G2 H2 _ ((r.nx y1).nx y2) fun p vs G3 H3 y3 hp hg hq n3 => h4 H0 σ G3 H3 _ (((r.nx y1).nx y2).nx y3) fun v4 G4 H4 y4 n4 => by
      refine ⟨(show (4 : Nat) ≤ sizeLine from by decide), fun tp htp => ⟨tp, _, rfl, SqT.of upd_same, rfl, _, _, rfl, _, _, rfl, _, _, rfl, _, _, rfl, rfl, ?_⟩⟩
      have y5 : Nx G4 H4 G4 (upd H4 tp (.tup [v1, v2, .ref p, v4])) := Nx.priv y4.s htp
      have r5 := ((((r.nx y1).nx y2).nx y3).nx y4).nx y5
      have n3' : NewOk K H2 G4 (upd H4 tp (.tup [v1, v2, .ref p, v4])) (.own ds) (.ref p) := (NewOk.up (sv := .own ds) ⟨p, vs, rfl, hp, hg, hq, n3⟩ y4).up y5
      have ra := r5.setD (i := k1) (dp_ex ((y2.g.trans y3.g).trans y4.g) n1)
      have rb := ra.setD (i := k2) (dp_ex (y3.g.trans y4.g) n2)
      have rc := rb.put (k := k3) ((xx.trans y1).trans y2).h n3' (hpi := (((r.nx y1).nx y2).pinned.set (fun _ _ z => by cases z)).set (fun _ _ z => by cases z)) fun ds e j es l' hj q1 q2 => by
        rcases set_get q1 with ⟨_, q, _⟩ | ⟨hk2, q1⟩
        · cases q
        rcases set_get q1 with ⟨_, q, _⟩ | ⟨hk1, q1⟩
        · cases q
        rw [List.getElem?_set_ne hk2, List.getElem?_set_ne hk1] at q2
        exact n3'.apart ((r.nx y1).nx y2) ds e j es l' q1 q2
      have rd := rc.setD (i := k4) (dp_ex (Ex.refl _) n4)
      exact t G0 H0 D W _ G4 _ tk (((((xx.trans y1).trans y2).trans y3).trans y4).trans y5) rd kk
end
end DL

set_option maxRecDepth 100000
set_option maxHeartbeats 4000000
namespace Fs
open PySem L2 DL NS
local macro_rules | `(tactic| walk_at "vis") => `(tactic| (intro _; first | exact Or.inl rfl | exact Or.inr (Or.inl rfl) | exact Or.inr (Or.inr rfl)))
local macro_rules | `(tactic| walk_at "loc") => `(tactic| (intro _; first | exact Or.inl rfl | exact Or.inr rfl))
local macro_rules | `(tactic| walk_at "fnl") => `(tactic| (intro _; first | exact Or.inr rfl | exact Or.inl rfl))
local macro_rules | `(tactic| walk_at "len") => `(tactic| (simp only [List.length_append, List.length_map, List.length_nil, List.length_cons]; omega))
local macro_rules | `(tactic| walk_at "blk") => `(tactic| (intro _; kernel_rfl))
section
variable {P : Program} {w : World} {K : PySem.W.Frag} {mg : Str → Option Value} {base : Heap} {f : Addr} {fd : FuncData}


variable {cN cF fI : Addr} {file : Str}

def laTurn (place : Nat) (st : List Pr × List Stp) (o : Out) : List Pr × List Stp :=
  (if o.2 ∈ st.1 then st.1 else st.1 ++ [o.2], st.2 ++ [((place : Int), o.1, (((if o.2 ∈ st.1 then st.1 else st.1 ++ [o.2]).idxOf o.2 : Nat) : Int))])
def laGo (p q : Part) (bad : List Pr) : Nat → Nat → List Pr × List Stp → List Pr × List Stp
  | 0, _, st => st
  | n + 1, place, st => match st.1[place]? with
    | none => st
    | some z => laGo p q bad n (place + 1) ((lsteps p q z.1 z.2 bad).foldl (laTurn place) st)
def lawAll (p q : Part) : List Pr × List Stp := laGo p q (lbad p q) 20 0 ([(0, 0)], [])
def lawPart (p q : Part) : Part :=
  ⟨sortE .str ((p.takes ++ q.takes).filter fun c => !decide (c ∈ lboth p q)), sortE .str ((p.makes ++ q.makes).filter fun c => !decide (c ∈ lboth p q)), ((lawAll p q).1.length : Nat), sortE eStp (lawAll p q).2⟩
theorem lst_every {p q : Part} {bad : List Pr} (hs : p.Small) (ht : q.Small) {z : Pr} (hz : z ∈ every p q) {o : Out} (ho : o ∈ lsteps p q z.1 z.2 bad) : o.2 ∈ every p q := by
  have hx := mem_firsts.mp (mem_sortE.mp ho)
  rw [mem_every] at hz ⊢
  unfold lstRaw at hx
  rcases List.mem_append.mp hx with hx | hx
  · rcases List.mem_append.mp hx with hx | hx
    · obtain ⟨s, h1, rfl⟩ := List.mem_map.mp hx
      have := hs.rng s (List.mem_filter.mp h1).1
      exact ⟨this.2.2, hz.2⟩
    · obtain ⟨s, h1, rfl⟩ := List.mem_map.mp hx
      have := ht.rng s (List.mem_filter.mp h1).1
      exact ⟨hz.1, this.2.2⟩
  · unfold lstC at hx
    obtain ⟨t, _, hx⟩ := List.mem_flatMap.mp hx
    obtain ⟨m, hm, hx⟩ := List.mem_flatMap.mp hx
    obtain ⟨i, hi, rfl⟩ := List.mem_map.mp hx
    exact ⟨lead_mem hs hm, lead_mem ht hi⟩
theorem lst_len3 {p q : Part} {bad : List Pr} (hs : p.Small) (ht : q.Small) (k j : Int) : (lsteps p q k j bad).length ≤ 1500 := by
  obtain ⟨h1, h2, h3⟩ := lst_len (bad := bad) hs ht k j
  have := firsts_len_le (lstRaw p q k j bad)
  have h4 : (lstRaw p q k j bad).length = (lstA p q k j bad).length + (lstB p q k j bad).length + (lstC p q k j).length := by
    unfold lstRaw; rw [List.length_append, List.length_append]
  unfold lsteps
  rw [sortE_len]
  omega
theorem InW.turnL {p q : Part} {st : List Pr × List Stp} (h : InW p q st) {o : Out} (ho : o.2 ∈ every p q) (place : Nat) : InW p q (laTurn place st o) := by
  unfold laTurn
  refine ⟨?_, fun x hx => ?_⟩
  · show (if o.2 ∈ st.1 then st.1 else st.1 ++ [o.2]).Nodup
    split
    · exact h.nd
    · rename_i hn
      rw [List.nodup_append]
      refine ⟨h.nd, by simp, fun a ha b hb e => hn ?_⟩
      rw [List.mem_singleton] at hb
      rw [← hb, ← e]; exact ha
  · have hx : x ∈ (if o.2 ∈ st.1 then st.1 else st.1 ++ [o.2]) := hx
    split at hx
    · exact h.sub x hx
    · rcases List.mem_append.mp hx with hx | hx
      · exact h.sub x hx
      · rw [List.mem_singleton.mp hx]; exact ho
theorem laTurn_steps (place : Nat) (st : List Pr × List Stp) (o : Out) : (laTurn place st o).2.length = st.2.length + 1 := by
  unfold laTurn
  show (st.2 ++ [_]).length = _
  rw [List.length_append]; rfl
theorem laTurn_pairs (place : Nat) (st : List Pr × List Stp) (o : Out) : st.1.length ≤ (laTurn place st o).1.length := by
  unfold laTurn
  show st.1.length ≤ (if o.2 ∈ st.1 then st.1 else st.1 ++ [o.2]).length
  split
  · exact Nat.le_refl _
  · rw [List.length_append]; omega
theorem la_turn {p q : Part} {bad : List Pr} {place n : Nat} {st : List Pr × List Stp} {z : Pr} {r : List Pr × List Stp} (hz : st.1[place]? = some z) (h : laGo p q bad (n + 1) place st = r) : laGo p q bad n (place + 1) ((lsteps p q z.1 z.2 bad).foldl (laTurn place) st) = r := by
  rw [← h]
  conv => rhs; unfold laGo
  rw [hz]
abbrev stL (p q : Part) (st : List Pr × List Stp) (place : Nat) (s9 s10 : SV) : List SV := [.dat (ePart p), .dat (ePart q), .unk, .unk, .unk, .dat (.list ((lbad p q).map ePr)), .dat (.list (st.1.map ePr)), .own (st.2.map eStp), .dat (.int (place : Int)), s9, s10]
abbrev n__law_all : List Str := ["_law_near", "_law_far", "_law_both_so", "_law_takes_so", "_law_makes_so", "_law_bad_so", "_law_found", "_law_steps_so", "_law_k", "_law_tag", "_law_place_so"]
abbrev s__law_all : Stmt := top 49
theorem sc__law_all : FnScope ["_law_near", "_law_far", "_law_both_so", "_law_takes_so", "_law_makes_so", "_law_bad_so", "_law_found", "_law_steps_so", "_law_k", "_law_tag", "_law_place_so"] ["_law_near", "_law_far"] (defScope s__law_all) := ⟨rfl, rfl, rfl, by decide +kernel, rfl, by decide +kernel, by decide +kernel⟩
def preLall (ds : List PyData) (r : PyData) : Prop := ∃ (p q : Part), p.Small ∧ q.Small ∧ ds = [ePart p, ePart q] ∧ r = .tuple [.tuple ((lawAll p q).1.map ePr), ePart (lawPart p q)]
theorem ok_law_all (F : Fun K "_law_all" "_law_all" s__law_all f fd) (T : Blt mg) (h__law_bad : Fn P w K mg base "_law_bad" 4 ["_law_near", "_law_far"] (spD K preLbad)) (h__law_steps : Fn P w K mg base "_law_steps" 2 ["_law_near", "_law_far", "_law_k", "_law_j", "_law_bad_so"] (spD K preLst)) : FnOk P w K mg base CX0 5 f fd ["_law_near", "_law_far"] (spD K preLall) :=
  fn_ok F sc__law_all (fun ds d h => by obtain ⟨p, q, _, _, rfl, _⟩ := h; rfl) fun cdv A outer s H E hr ds d hp => by
    obtain ⟨p, q, hs, ht, rfl, rfl⟩ := hp
    have h1 := hs.m; have h2 := ht.m; have h3 := hs.t; have h4 := ht.t; have h5 := hs.n0; have h6 := ht.n0
    refine ds_par4 5 6 7 8 (d1 := .list ((lbad p q).map ePr)) (ef_call h__law_bad (ea_cons (ef_var 0 rfl rfl (by walk_at "vis")) (ea_cons (ef_var 1 rfl rfl (by walk_at "vis")) ea_nil)) ?_ (Nat.le_of_ble_eq_true rfl) (by intro _; rfl)) (EN.f (en_lst (ea_cons (ef_tup (ea_cons ef_int (ea_cons ef_int ea_nil))) ea_nil))) (en_lst ea_nil) ef_int ?_ rfl rfl rfl rfl (by walk_at "loc") (by walk_at "loc") (by walk_at "loc") (by walk_at "loc") (by walk_at "fnl") (by walk_at "fnl") (by walk_at "fnl") (by walk_at "fnl")
    · exact ⟨p, q, hs, ht, rfl, rfl⟩
    refine ds_wipe [2, 3, 4] ?_
    show DS _ _ (stL p q ([(0, 0)], []) 0 _ _) _
    refine ds_while (fun m r => ∃ (place : Nat) (st : List Pr × List Stp) (s9 s10 : SV), r = stL p q st place s9 s10 ∧ InW p q st ∧ place ≤ st.1.length ∧ m = 17 - place ∧ st.2.length ≤ place * 1500 ∧ ∃ n, 17 ≤ n + place ∧ laGo p q (lbad p q) n place st = lawAll p q) 17
      ⟨0, ([(0, 0)], []), _, _, rfl, ⟨by simp, fun x hx => ?_⟩, Nat.zero_le _, rfl, Nat.zero_le _, 20, by omega, rfl⟩ ?_ (fun _ => PassesOwn.never)
    · rw [List.mem_singleton.mp hx, mem_every]
      exact ⟨⟨Int.le_refl _, by omega⟩, ⟨Int.le_refl _, by omega⟩⟩
    rintro m r ⟨place, st, s9, s10, rfl, iw, hpl, rfl, hst, n, hn, hg⟩
    have hlen := sub_len hs ht iw.nd iw.sub
    refine ⟨decide (place < st.1.length), ?_, fun hk => ?_, fun hk => ?_⟩
    · refine ET.is (et_cmp (ec_lt (ef_var 8 rfl rfl (by walk_at "vis")) (ef_len T (EF.l (ef_var 6 rfl rfl (by walk_at "vis")))))) ?_
      rw [List.length_map]
      simp
    · have hk := of_decide_eq_true hk
      obtain ⟨z, hz⟩ : ∃ z, st.1[place]? = some z := ⟨_, List.getElem?_eq_getElem hk⟩
      have hze := iw.sub z (List.mem_of_getElem? hz)
      have hzD : (st.1.map ePr)[place]? = some (ePr z) := by rw [List.getElem?_map, hz]; rfl
      have hsl := lst_len3 (bad := lbad p q) hs ht z.1 z.2
      refine ds_for (lsteps p q z.1 z.2 (lbad p q)) eOut ?_ (fun i r => ∃ (st' : List Pr × List Stp) (s9 s10 : SV), r = stL p q st' place s9 s10 ∧ InW p q st' ∧ st.1.length ≤ st'.1.length ∧ st'.2.length = st.2.length + i ∧ st' = ((lsteps p q z.1 z.2 (lbad p q)).take i).foldl (laTurn place) st)
        ⟨st, _, _, rfl, iw, Nat.le_refl _, rfl, rfl⟩ ?_ ?_ (fun _ => PassesOwn.never)
      · refine (ei_list (ef_call h__law_steps (ea_cons (ef_var 0 rfl rfl (by walk_at "vis")) (ea_cons (ef_var 1 rfl rfl (by walk_at "vis")) (ea_cons (ef_ixTN 0 (EF.t (ef_ixLV (ePr z) (EF.l (ef_var 6 rfl rfl (by walk_at "vis"))) (ef_var 8 rfl rfl (by walk_at "vis")) ?_)) ef_int rfl) (ea_cons (ef_ixTN 1 (EF.t (ef_ixLV (ePr z) (EF.l (ef_var 6 rfl rfl (by walk_at "vis"))) (ef_var 8 rfl rfl (by walk_at "vis")) ?_)) ef_int rfl) (ea_cons (ef_var 5 rfl rfl (by walk_at "vis")) ea_nil))))) ?_ (Nat.le_of_ble_eq_true rfl) (by intro _; rfl)))
        · exact atI_nat hzD
        · exact atI_nat hzD
        · exact ⟨p, q, z.1, z.2, lbad p q, hs, ht, rfl, rfl⟩
      · rintro i o r ho ⟨st', s9', s10', rfl, iw', hpl', hst', hfold⟩
        refine ⟨_, [9, 10], (eg_tup (egs_cons (eg_name 9 rfl (by decide) (by walk_at "loc") (by walk_at "fnl")) (egs_cons (eg_name 10 rfl (by decide) (by walk_at "loc") (by walk_at "fnl")) egs_nil))), ?_⟩
        show DS _ _ (stL p q st' place (.dat (.str o.1)) (.dat (ePr o.2))) _
        have hoe := lst_every hs ht hze (List.mem_of_getElem? ho)
        have hfold2 : laTurn place st' o = ((lsteps p q z.1 z.2 (lbad p q)).take (i + 1)).foldl (laTurn place) st := by
          rw [take_succ_get ho, List.foldl_append, ← hfold]; rfl
        have iw2 := iw'.turnL hoe place
        have hl2 := sub_len hs ht iw2.nd iw2.sub
        have hl1 := sub_len hs ht iw'.nd iw'.sub
        have hs2 := laTurn_steps place st' o
        have hp2 := laTurn_pairs place st' o
        have hi : i < (lsteps p q z.1 z.2 (lbad p q)).length := (List.getElem?_eq_some_iff.mp ho).1
        refine ds_setF 6 (.list ((if o.2 ∈ st'.1 then st'.1 else st'.1 ++ [o.2]).map ePr)) ?_ ?_ rfl (by walk_at "loc")
        · refine ⟨_, (EN.f (en_catL (EF.l (ef_var 6 rfl rfl (by walk_at "vis"))) (EN.l (en_rep (EN.s (en_lst (ea_cons (ef_var 10 rfl rfl (by walk_at "vis")) ea_nil))) (ef_intB T (ef_cmp (ec_notInPr (ef_var 10 rfl rfl (by walk_at "vis")) (EF.l (ef_var 6 rfl rfl (by walk_at "vis")))))) ?_ ?_ ?_)) ?_)), ?_⟩
          · split <;> omega
          · split <;> omega
          · split
            · exact (show (1 : Nat) * 1 ≤ 100000 from by decide)
            · exact (show (1 : Nat) * 0 ≤ 100000 from by decide)
          · rw [List.length_map]
            split <;> simp <;> omega
          · refine congrArg _ ?_
            by_cases hc : o.2 ∈ st'.1
            · rw [if_pos hc]; simp [hc]
            · rw [if_neg hc]; simp [hc]
        show DS _ _ (stL p q (if o.2 ∈ st'.1 then st'.1 else st'.1 ++ [o.2], st'.2) place (.dat (.str o.1)) (.dat (ePr o.2))) _
        refine ds_append 7 rfl (ef_tup (ea_cons (ef_var 8 rfl rfl (by walk_at "vis")) (ea_cons (ef_var 9 rfl rfl (by walk_at "vis")) (ea_cons (ef_indexPr (EF.l (ef_var 6 rfl rfl (by walk_at "vis"))) (ef_var 10 rfl rfl (by walk_at "vis")) ?_) ea_nil)))) ?_ (ds_nil ⟨laTurn place st' o, .dat (.str o.1), .dat (ePr o.2), ?_, iw2, by omega, by omega, hfold2⟩) rfl (by walk_at "vis")
        · split
          · assumption
          · exact List.mem_append_right _ (List.mem_singleton.mpr rfl)
        · rw [List.length_map]
          show st'.2.length < _
          omega
        · show [_, _, _, _, _, _, _, _, _, _, _] = stL _ _ _ _ _ _
          simp only [stL, laTurn, List.map_append]
          rfl
      · rintro r ⟨st', s9', s10', rfl, iw', hpl', hst', hfold⟩
        rw [List.take_length] at hfold
        have hl1 := sub_len hs ht iw'.nd iw'.sub
        refine ds_setF 8 (.int ((place + 1 : Nat) : Int)) ?_ ?_ rfl (by walk_at "loc")
        · exact ⟨_, (ef_add (ef_var 8 rfl rfl (by walk_at "vis")) ef_int), by simp⟩
        · refine ds_nil ⟨17 - (place + 1), by omega, place + 1, st', _, _, rfl, iw', by omega, rfl, by omega, n - 1, by omega, ?_⟩
          rw [hfold]
          cases n with
          | zero => omega
          | succ n =>
            rw [Nat.add_sub_cancel]
            exact la_turn hz hg
    · have hk := of_decide_eq_false hk
      have hall : lawAll p q = st := by
        rw [← hg]
        cases n with
        | zero => rfl
        | succ n =>
          unfold laGo
          rw [List.getElem?_eq_none (by omega)]
      refine ds_wipe [9, 10] ?_
      show DS _ _ (stL p q st place .unk .unk) _
      refine (ds_set 2 (EN.v (en_lc (own := [("_law_tag", 9)]) (p.takes ++ p.makes) (.str) (fun t => decide (t ∈ q.takes ++ q.makes)) (.str) (EI.h (ei_tup (ef_catTS (ef_ixTN 0 (EF.t (ef_var 0 rfl rfl (by walk_at "vis"))) ef_int rfl) (ef_ixTN 1 (EF.t (ef_var 0 rfl rfl (by walk_at "vis"))) ef_int rfl) ?_))) (by walk_at "blk") (fun x hx => ⟨_, (eg_name 9 rfl (by decide) (by walk_at "loc") (by walk_at "fnl")), (ets_one (et_cmp (ec_inS (ef_var 9 rfl rfl (by walk_at "vis")) (EF.t (ef_catTS (ef_ixTN 0 (EF.t (ef_var 1 rfl rfl (by walk_at "vis"))) ef_int rfl) (ef_ixTN 1 (EF.t (ef_var 1 rfl rfl (by walk_at "vis"))) ef_int rfl) ?_))))), fun hpr => (ef_var 9 rfl rfl (by walk_at "vis"))⟩) ?_)) ?_ rfl (by walk_at "loc"))
      · omega
      · omega
      · rw [List.length_append]; omega
      refine ds_setF 3 (.list ((lawPart p q).takes.map .str)) ?_ ?_ rfl (by walk_at "loc")
      · refine ⟨_, (EN.f (en_sorted T (EN.l (en_lc (own := [("_law_tag", 9)]) (p.takes ++ q.takes) (.str) (fun c => !decide (c ∈ lboth p q)) (.str) (EI.h (ei_tup (ef_catTS (ef_ixTN 0 (EF.t (ef_var 0 rfl rfl (by walk_at "vis"))) ef_int rfl) (ef_ixTN 0 (EF.t (ef_var 1 rfl rfl (by walk_at "vis"))) ef_int rfl) ?_))) (by walk_at "blk") (fun x hx => ⟨_, (eg_name 9 rfl (by decide) (by walk_at "loc") (by walk_at "fnl")), (ets_one (et_cmp (ec_notInS (ef_var 9 rfl rfl (by walk_at "vis")) (el_own 2 rfl rfl (by walk_at "vis"))))), fun hpr => (ef_var 9 rfl rfl (by walk_at "vis"))⟩) ?_)) ?_)), ?_⟩
        · omega
        · rw [List.length_append]; omega
        · exact srt_strs _
        · rw [sortD_map]; rfl
      refine ds_setF 4 (.list ((lawPart p q).makes.map .str)) ?_ ?_ rfl (by walk_at "loc")
      · refine ⟨_, (EN.f (en_sorted T (EN.l (en_lc (own := [("_law_tag", 9)]) (p.makes ++ q.makes) (.str) (fun c => !decide (c ∈ lboth p q)) (.str) (EI.h (ei_tup (ef_catTS (ef_ixTN 1 (EF.t (ef_var 0 rfl rfl (by walk_at "vis"))) ef_int rfl) (ef_ixTN 1 (EF.t (ef_var 1 rfl rfl (by walk_at "vis"))) ef_int rfl) ?_))) (by walk_at "blk") (fun x hx => ⟨_, (eg_name 9 rfl (by decide) (by walk_at "loc") (by walk_at "fnl")), (ets_one (et_cmp (ec_notInS (ef_var 9 rfl rfl (by walk_at "vis")) (el_own 2 rfl rfl (by walk_at "vis"))))), fun hpr => (ef_var 9 rfl rfl (by walk_at "vis"))⟩) ?_)) ?_)), ?_⟩
        · omega
        · rw [List.length_append]; omega
        · exact srt_strs _
        · rw [sortD_map]; rfl
      refine ds_ret (ef_tup (ea_cons (ef_tupleL T (EF.l (ef_var 6 rfl rfl (by walk_at "vis")))) (ea_cons (ef_tup (ea_cons (ef_tupleL T (EF.l (ef_var 3 rfl rfl (by walk_at "vis")))) (ea_cons (ef_tupleL T (EF.l (ef_var 4 rfl rfl (by walk_at "vis")))) (ea_cons (ef_len T (EF.l (ef_var 6 rfl rfl (by walk_at "vis")))) (ea_cons (ef_tupleL T (EN.l (en_sorted T (el_own 7 rfl rfl (by walk_at "vis")) ?_))) ea_nil))))) ea_nil))) ?_
      · exact srt_stps _
      · show PyData.tuple [.tuple _, .tuple [.tuple _, .tuple _, .int ((List.length _ : Nat) : Int), .tuple _]] = _
        rw [List.length_map, sortD_map]
        unfold lawPart
        rw [hall]
        rfl
end
end Fs

set_option maxRecDepth 100000
set_option maxHeartbeats 2000000
/-! DT, part 1: defs that change the list in their first slot (the tub). -/
namespace DL
open PySem PySem.Spec PyProof.Rows L2
/-- what stands at p taken off -/
def del (H : Hp) (p : Addr) : Hp := fun a => if a = p then none else H a
theorem del_same {H : Hp} {p : Addr} : del H p p = none := by unfold del; rw [if_pos rfl]
theorem del_ne {H : Hp} {p a : Addr} (h : a ≠ p) : del H p a = H a := by unfold del; rw [if_neg h]
theorem del_some {H : Hp} {p a : Addr} {o : HO} (h : del H p a = some o) : a ≠ p ∧ H a = some o := by
  by_cases q : a = p
  · subst q; rw [del_same] at h; cases h
  · rw [del_ne q] at h; exact ⟨q, h⟩
theorem del_none {H : Hp} {p a : Addr} (h : del H p a ≠ none) : a ≠ p ∧ H a ≠ none := by
  by_cases q : a = p
  · subst q; exact absurd del_same h
  · rw [del_ne q] at h; exact ⟨q, h⟩
theorem del_del {H : Hp} {p : Addr} : del (del H p) p = del H p := by
  funext a
  by_cases q : a = p
  · subst q; rw [del_same, del_same]
  · rw [del_ne q]
theorem del_free {H : Hp} {p : Addr} (h : H p = none) : del H p = H := by
  funext a
  by_cases q : a = p
  · subst q; rw [del_same, h]
  · rw [del_ne q]
theorem ex_del {G H : Hp} {p : Addr} (e : Ex G H) (g : G p = none) : Ex G (del H p) := fun a o h => by
  have q : a ≠ p := fun z => by rw [z, g] at h; cases h
  rw [del_ne q]; exact e a o h
theorem Nx.del {G H G' H' : Hp} {p : Addr} (x : Nx G H G' H') (g : G' p = none) : Nx G (DL.del H p) G' (DL.del H' p) :=
  ⟨x.g, fun a o h => by
    obtain ⟨n, h⟩ := del_some h
    rw [del_ne n]; exact x.h a o h, ex_del x.s g, fun a h => x.n a (del_none h).2⟩
/-- the tub at p changed, all else as it stood -/
structure Mv (G H : Hp) (p : Addr) (G' H' : Hp) (ws : List V) : Prop where
  x : Nx G (DL.del H p) G' H'
  g : G' p = none
  h : H' p = some (.lst ws)
theorem Mv.refl {G H : Hp} {p : Addr} {ws : List V} (e : Ex G H) (g : G p = none) (h : H p = some (.lst ws)) : Mv G H p G H ws := ⟨⟨Ex.refl _, fun a o q => (del_some q).2, e, fun _ _ q => q⟩, g, h⟩
/-- .. of what is not the tub no less is known -/
theorem Mv.nx {G H G1 H1 G2 H2 : Hp} {p : Addr} {ws : List V} (m : Mv G H p G1 H1 ws) (x : Nx G1 H1 G2 H2) : Mv G H p G2 H2 ws := ⟨m.x.trans x, x.n p (by rw [m.h]; exact Option.some_ne_none _) m.g, x.h _ _ m.h⟩
theorem Mv.pre {G H G1 H1 G2 H2 : Hp} {p : Addr} {ws us : List V} (x : Nx G H G1 H1) (h : H p = some (.lst us)) (g : G p = none) (m : Mv G1 H1 p G2 H2 ws) : Mv G H p G2 H2 ws :=
  ⟨(x.del (x.n p (by rw [h]; exact Option.some_ne_none _) g)).trans m.x, m.g, m.h⟩
theorem Mv.trans {G H G1 H1 G2 H2 : Hp} {p : Addr} {ws us : List V} (m : Mv G H p G1 H1 us) (n : Mv G1 H1 p G2 H2 ws) : Mv G H p G2 H2 ws :=
  ⟨by have q := m.x.del m.g; rw [del_del] at q; exact q.trans n.x, n.g, n.h⟩
theorem Mv.base {G0 B G H G' H' : Hp} {p : Addr} {ws : List V} (x : Nx G0 B G H) (b : B p = none) (m : Mv G H p G' H' ws) : Nx G0 B G' H' :=
  ⟨x.g.trans m.x.g, fun a o h => m.x.h a o (by
    have n : a ≠ p := fun z => by rw [z, b] at h; cases h
    rw [del_ne n]; exact x.h a o h), m.x.s, fun a h1 h2 => by
    have n : a ≠ p := fun z => h1 (z ▸ b)
    exact m.x.n a (by rw [del_ne n]; exact x.h.some h1) (x.n a h1 h2)⟩
/-- the tub's slot -/
abbrev tubS (p : Addr) (tub : List PyData) : SV := .pin p [(p, .ds tub)]
theorem Rl.tub {K : PySem.W.Frag} {B G H : Hp} {r : List SV} {tub : List PyData} {σ : L2.St} {p : Addr} (q : Rl K B G H (tubS p tub :: r) σ) : σ[0]? = some (some (.ref p)) ∧ G p = none ∧ B p = none ∧ ∃ ws, H p = some (.lst ws) ∧ DpAll K G ws tub := by
  obtain ⟨e, _, h⟩ := q.sl 0 _ rfl
  obtain ⟨g, b, ws, h, t⟩ := h (p, .ds tub) List.mem_cons_self
  exact ⟨e, g, b, ws, h, t⟩
theorem Rl.mv {K : PySem.W.Frag} {B G H G' H' : Hp} {r : List SV} {tub tub' : List PyData} {σ : L2.St} {p : Addr} {ws : List V} (q : Rl K B G H (tubS p tub :: r) σ) (m : Mv G H p G' H' ws) (t : DpAll K G' ws tub') : Rl K B G' H' (tubS p tub' :: r) σ := by
  obtain ⟨e, g, b, us, h, t0⟩ := q.tub
  refine ⟨m.x.s, q.len, fun i sv h => ?_, fun i j l ds es h1 h2 h3 h4 => ?_, q.pins.sub (fun i ds h => ?_) fun i p' cells h => ?_⟩
  · cases i with
    | zero =>
      cases h
      refine ⟨e, by simp, fun c hc => ?_⟩
      rw [List.mem_singleton] at hc
      subst hc
      exact ⟨m.g, b, ws, m.h, t⟩
    | succ i =>
      have h' : (tubS p tub :: r)[i + 1]? = some sv := h
      have s := q.sl (i + 1) sv h'
      cases sv with
      | dat d =>
        obtain ⟨v, ev, tv⟩ := s
        exact ⟨v, ev, dp_ex m.x.g tv⟩
      | obj phi mm =>
        obtain ⟨a, ev, tv⟩ := s
        exact ⟨a, ev, mm _ _ _ m.x.g tv⟩
      | unk => trivial
      | own ds =>
        obtain ⟨l2, us, ev, h2, g2, b2, t2⟩ := s
        have n : l2 ≠ p := fun z => q.pins.1 (i + 1) 0 l2 _ _ _ h' rfl ev (by rw [z]; simp)
        exact ⟨l2, us, ev, m.x.h _ _ (by rw [del_ne n]; exact h2), m.x.n l2 (by rw [del_ne n, h2]; exact Option.some_ne_none _) g2, b2, dpa_ex m.x.g t2⟩
      | pin p2 cells =>
        refine ⟨s.1, s.2.1, fun c hc => ?_⟩
        obtain ⟨g2, b2, z⟩ := s.2.2 c hc
        have n : c.1 ≠ p := fun y => by
          have := q.pins.2 (i + 1) 0 _ _ _ _ p h' rfl (by rw [← y]; exact List.mem_map_of_mem hc) (by simp)
          omega
        obtain ⟨vs, hv⟩ := z.some
        refine ⟨m.x.n _ (by rw [del_ne n, hv]; exact Option.some_ne_none _) g2, b2, ?_⟩
        cases hc2 : c.2 with
        | ds l2 =>
          rw [hc2] at z
          obtain ⟨vs, hv, t⟩ := z
          exact ⟨vs, m.x.h _ _ (by rw [del_ne n]; exact hv), dpa_ex m.x.g t⟩
        | rf l2 =>
          rw [hc2] at z
          exact m.x.h _ _ (by rw [del_ne n]; exact z)
  · cases i with
    | zero => cases h1
    | succ i =>
      cases j with
      | zero => cases h2
      | succ j => exact q.sep (i + 1) (j + 1) l ds es h1 h2 h3 h4
  · cases i with
    | zero => cases h
    | succ i => exact ⟨ds, h, rfl⟩
  · cases i with
    | zero => cases h; exact ⟨_, rfl, rfl⟩
    | succ i => exact ⟨cells, h, rfl⟩
/-- a tub: three whole numbers, none below 0 -/
def Tb (m : Nat) (ds : List PyData) : Prop := ∃ a b c : Int, ds = [.int a, .int b, .int c] ∧ 0 ≤ a ∧ 0 ≤ b ∧ b < 2 ^ 62 ∧ 0 ≤ c ∧ c ≤ m
theorem Tb.mono {m n : Nat} {ds : List PyData} (h : Tb m ds) (q : m ≤ n) : Tb n ds := by
  obtain ⟨a, b, c, e, h1, h2, h3, h4, h5⟩ := h
  exact ⟨a, b, c, e, h1, h2, h3, h4, by omega⟩
/-- a def that changes the tub: the arguments behind it; the draws that may have been made; what it may come to -/
def spM (K : PySem.W.Frag) (pre : List PyData → Nat → Nat → (PyData → Prop) → Prop) : Sp := fun vs H Q _ => ∃ G p us tub ws ds m m' R, vs = .ref p :: us ∧ Ex G H ∧ G p = none ∧ H p = some (.lst ws) ∧ DpAll K G ws tub ∧ Tb m tub ∧ DpAll K G us ds ∧ pre ds m m' R ∧
  ∀ v d tub' ws' G' H', R d → Tb m' tub' → Mv G H p G' H' ws' → DpAll K G' ws' tub' → Dp K G' v d → Q v H'
section
variable {P : Program} {w : World} {K : PySem.W.Frag} {mg : Str → Option Value} {base : Heap}
def entryM (N : List Str) (p : Addr) (tub : List PyData) (ds : List PyData) : List SV := tubS p tub :: (ds.map .dat ++ List.replicate (N.length - (ds.length + 1)) .unk)
theorem rl_startM {N : List Str} {tub ds : List PyData} {ws us : List V} {p : Addr} {G H : Hp} (e : Ex G H) (g : G p = none) (h : H p = some (.lst ws)) (tt : DpAll K G ws tub) (t : DpAll K G us ds) : Rl K (del H p) G H (entryM N p tub ds) (L2.start N (.ref p :: us)) := by
  have hl := dpa_len t
  have tail : ∀ {i : Nat} {sv : SV}, (ds.map SV.dat ++ List.replicate (N.length - (ds.length + 1)) SV.unk)[i]? = some sv → (∃ d, ds[i]? = some d ∧ sv = .dat d ∧ i < ds.length) ∨ sv = .unk := fun {i sv} q' => by
    by_cases hi : i < ds.length
    · rw [List.getElem?_append_left (by rw [List.length_map]; exact hi), List.getElem?_map] at q'
      cases q2 : ds[i]? with
      | none => rw [q2] at q'; cases q'
      | some d =>
        rw [q2] at q'
        exact .inl ⟨d, rfl, (Option.some.inj q').symm, hi⟩
    · rw [List.getElem?_append_right (by rw [List.length_map]; omega), List.getElem?_replicate] at q'
      split at q'
      · exact .inr (Option.some.inj q').symm
      · cases q'
  refine ⟨e, ?_, fun i sv q => ?_, fun i j l d1 d2 h1 h2 => ?_, fun i j l ds' p' cells h1 => ?_, fun i j p1 c1 p2 c2 a h1 h2 => ?_⟩
  · unfold entryM L2.start
    simp only [List.length_cons, List.length_append, List.length_map, List.length_replicate, hl]
    omega
  · cases i with
    | zero =>
      cases q
      refine ⟨rfl, by simp, fun c hc => ?_⟩
      rw [List.mem_singleton] at hc
      subst hc
      exact ⟨g, del_same, ws, h, tt⟩
    | succ i =>
      have es : (L2.start N (.ref p :: us))[i + 1]? = (us.map some ++ List.replicate (N.length - (us.length + 1)) none)[i]? := rfl
      rw [es]
      rcases tail q with ⟨d, q2, rfl, hi⟩ | rfl
      · obtain ⟨v, ev, tv⟩ := dpa_get t q2
        refine ⟨v, ?_, tv⟩
        rw [List.getElem?_append_left (by rw [List.length_map]; omega), List.getElem?_map, ev]
        rfl
      · trivial
  · cases i with
    | zero => cases h1
    | succ i => rcases tail h1 with ⟨d, _, q, _⟩ | q <;> cases q
  · cases i with
    | zero => cases h1
    | succ i => rcases tail h1 with ⟨d, _, q, _⟩ | q <;> cases q
  · cases i with
    | succ i => rcases tail h1 with ⟨d, _, q, _⟩ | q <;> cases q
    | zero =>
      cases j with
      | succ j => rcases tail h2 with ⟨d, _, q, _⟩ | q <;> cases q
      | zero => intros; rfl
theorem fn_okM {x qual : Str} {st : Stmt} {f : Addr} {fd : FuncData} {N ps : List Str} {k : Nat} {pre : List PyData → Nat → Nat → (PyData → Prop) → Prop} (F : Fun K x qual st f fd) (S : FnScope N ps (defScope st)) (hl : ∀ ds m m' R, pre ds m m' R → ds.length + 1 = ps.length)
    (hb : ∀ (cdv : Value) (A : Around) (outer : List Env) (s : Shared) (H : Hp) (E : XK) (hr : Room k (A.deeper (envOfC qual (defScope st) s.heap.objs.size f cdv))) (ds : List PyData) (m m' : Nat) (R : PyData → Prop), pre ds m m' R → ∀ p tub, Tb m tub →
      DS (defC P w K mg base N qual (defScope st) f cdv A outer s H E k S.nd hr) (defBody st) (entryM N p tub ds) { rt := fun rho r => R r ∧ ∃ tub', rho[0]? = some (tubS p tub') ∧ Tb m' tub' }) : FnOk P w K mg base CX0 (k + 1) f fd ps (spM K pre) := by
  refine F.ok S (fun vs H Q E h => ?_) (fun cdv A outer s H vs Q E hr h => ?_)
  · obtain ⟨G, p, us, tub, ws, ds, m, m', R, rfl, e, g, h, tt, tb, t, hp, _⟩ := h
    rw [List.length_cons, dpa_len t]
    exact hl ds m m' R hp
  · obtain ⟨G, p, us, tub, ws, ds, m, m', R, rfl, e, g, h, tt, tb, t, hp, q⟩ := h
    refine ⟨wS (defC P w K mg base N qual (defScope st) f cdv A outer s H E k S.nd hr) (defBody st), pss_w (C := defC P w K mg base N qual (defScope st) f cdv A outer s H E k S.nd hr) (), ?_⟩
    refine hb cdv A outer s H E hr ds m m' R hp p tub tb G (del H p) _ (fun _ _ _ _ => False) _ G H (fun _ => takes0) (Mv.refl e g h).x (rl_startM e g h tt t) ⟨fun _ _ _ _ z => z.elim, fun rho d' v σ G' H' z x r tv => ?_, fun _ _ _ _ z => z.elim, fun _ _ _ _ z => z.elim, fun _ _ _ _ _ _ z => z.elim⟩
    obtain ⟨hR, tub', h0, tb'⟩ := z
    obtain ⟨_, _, hc⟩ := r.sl 0 _ h0
    obtain ⟨g', b', ws', h', t'⟩ := hc (p, .ds tub') List.mem_cons_self
    exact q v d' tub' ws' G' H' hR tb' ⟨x, g', h'⟩ t' tv

variable {C : Ctx P w K mg base} {r rho' : List SV} {p : Addr} {tub : List PyData} {m m1 m2 : Nat} {R R1 R2 : PyData → Prop} {e a b c tg iter : Expr} {es : List Expr} {d d1 d2 d3 : PyData} {ds xs ys : List PyData} {vs : List Nat} {pos ps p2 : Pos} {st : Stmt} {rest body : List Stmt} {Pt : Post}
/-! ### expressions that change the tub (slot 0) -/
def EM (C : Ctx P w K mg base) (r : List SV) (m m' : Nat) (R : PyData → Prop) (e : Expr) : Prop := ∀ p tub, Tb m tub → ∀ B σ G H Q, Rl K B G H (tubS p tub :: r) σ → (∀ v d tub' ws G' H', R d → Tb m' tub' → Mv G H p G' H' ws → DpAll K G' ws tub' → Dp K G' v d → Q v H') → wE C e σ H Q
def EMA (C : Ctx P w K mg base) (r : List SV) (m m' : Nat) (R : List PyData → Prop) (es : List Expr) : Prop := ∀ p tub, Tb m tub → ∀ B σ G H Q, Rl K B G H (tubS p tub :: r) σ → (∀ vs ds tub' ws G' H', R ds → Tb m' tub' → Mv G H p G' H' ws → DpAll K G' ws tub' → DpAll K G' vs ds → Q vs H') → wA C es σ H Q
theorem EM.of {t : TE} (h : ∀ i, PE (C.X i) e t) (o : ∀ p tub, Tb m tub → ∀ B σ G H Q, Rl K B G H (tubS p tub :: r) σ → (∀ v d tub' ws G' H', R d → Tb m1 tub' → Mv G H p G' H' ws → DpAll K G' ws tub' → Dp K G' v d → Q v H') → t σ H Q) : EM C r m m1 R e := fun p tub tb B σ G H Q q k i pins s I => (h i).run pins s σ H Q I (o p tub tb B σ G H Q q k)
theorem EMA.of {t : TA} {R : List PyData → Prop} (h : ∀ i, PA (C.X i) es t) (o : ∀ p tub, Tb m tub → ∀ B σ G H Q, Rl K B G H (tubS p tub :: r) σ → (∀ vs ds tub' ws G' H', R ds → Tb m1 tub' → Mv G H p G' H' ws → DpAll K G' ws tub' → DpAll K G' vs ds → Q vs H') → t σ H Q) : EMA C r m m1 R es := fun p tub tb B σ G H Q q k i pos pins s I => (h i).run pos pins s σ H Q I (o p tub tb B σ G H Q q k)
theorem EM.imp (h : EM C r m m1 R1 e) (q : ∀ d, R1 d → R2 d) (hm : m1 ≤ m2) : EM C r m m2 R2 e := fun p tub tb B σ G H Q z k => h p tub tb B σ G H Q z fun v d tub' ws G' H' a b => k v d tub' ws G' H' (q d a) (b.mono hm)
theorem em_f (h : ∀ p tub, Tb m tub → ∃ d, R d ∧ EF C (tubS p tub :: r) e d) : EM C r m m R e := fun p tub tb B σ G H Q q k => by
  obtain ⟨d, hd, h⟩ := h p tub tb
  obtain ⟨e1, g, b, ws, hq, t⟩ := q.tub
  exact h B σ G H Q q fun v G' H' x tv => k v d tub ws G' H' hd tb ((Mv.refl q.e g hq).nx x) (dpa_ex x.g t) tv
theorem ema_nil : EMA C r m m (fun ds => ds = []) [] := EMA.of (t := tNil) (fun i => pa_nil) fun p tub tb B σ G H Q q k => by
  obtain ⟨e1, g, b, ws, hq, t⟩ := q.tub
  exact k [] [] tub ws G H rfl tb (Mv.refl q.e g hq) t .nil
theorem ema_cons {R2 : List PyData → Prop} (h : EM C r m m1 R1 e) (t : EMA C r m1 m2 R2 es) (hs : ∀ i, starEach (e :: es) (C.X i).env = (false, eval e (C.X i).env) :: starEach es (C.X i).env := by intro _; rfl) : EMA C r m m2 (fun l => ∃ d ds, R1 d ∧ R2 ds ∧ l = d :: ds) (e :: es) :=
  EMA.of (t := tCons (wE C e) (wA C es)) (fun i => pa_cons (pe_w i) (pa_w i) (hs i)) fun p tub tb B σ G H Q q k => h p tub tb B σ G H _ q fun v d tub1 ws1 G1 H1 hd tb1 m1 t1 tv => t p tub1 tb1 B σ G1 H1 _ (q.mv m1 t1) fun vs ds tub2 ws2 G2 H2 hds tb2 m2 t2 tvs =>
    k _ _ tub2 ws2 G2 H2 ⟨d, ds, hd, hds, rfl⟩ tb2 (m1.trans m2) t2 (.cons (dp_ex m2.x.g tv) tvs)
theorem em_tup {R : List PyData → Prop} {k : Nat} (h : EMA C r m m1 R es) (hl : ∀ ds, R ds → ds.length ≤ 100000) : EM C r m m1 (fun d => ∃ ds, R ds ∧ d = .tuple ds) (.Tuple es k pos) :=
  EM.of (t := tTup (wA C es)) (fun i => pe_tup (pa_w i)) fun p tub tb B σ G H Q q k => h p tub tb B σ G H _ q fun vs ds tub1 ws1 G1 H1 hd tb1 m1 t1 tvs => ⟨by rw [dpa_len tvs]; exact sz_of (hl ds hd), fun a ha => by
    have x := Nx.new (o := .tup vs) m1.x.s ha
    exact k _ (.tuple ds) tub1 ws1 _ _ ⟨ds, hd, rfl⟩ tb1 (m1.nx x) (dpa_ex x.g t1) (.tup (SqT.of upd_same) (dpa_ex x.g tvs))⟩
theorem em_add {i : Int} {P1 : Int → Prop} (ha : ∀ p tub, Tb m tub → EF C (tubS p tub :: r) a (.int i)) (hb : EM C r m m1 (fun d => ∃ j, d = .int j ∧ P1 j) b) : EM C r m m1 (fun d => ∃ j, d = .int (i + j) ∧ P1 j) (.BinOp a .Add b pos) :=
  EM.of (t := tOp rAdd (wE C a) (wE C b)) (fun i => pe_op op_add (pe_w i) (pe_w i)) fun p tub tb B σ G H Q q k => by
    obtain ⟨e1, g, b0, ws, hq, t⟩ := q.tub
    refine ha p tub tb B σ G H _ q fun v G1 H1 x1 t1 => hb p tub tb B σ G1 H1 _ (q.nx x1) fun u d tub2 ws2 G2 H2 hd tb2 m2 t2 tu => ?_
    obtain ⟨j, rfl, hj⟩ := hd
    exact ⟨i, j, dp_int t1, dp_int tu, k _ _ tub2 ws2 G2 H2 ⟨j, rfl, hj⟩ tb2 (.pre x1 hq g m2) t2 (.int _)⟩
theorem em_ix {ds : List PyData} {P1 : Int → Prop} (ha : ∀ p tub, Tb m tub → EF C (tubS p tub :: r) a (.list ds)) (hb : EM C r m m1 (fun d => ∃ j, d = .int j ∧ P1 j) b) (h : ∀ j, P1 j → 0 ≤ j ∧ j < ds.length) (hs : PlainIx b := by intro _ _; rfl) : EM C r m m1 (fun d => d ∈ ds) (.Subscript a b pos) :=
  EM.of (t := tOp (rIxL K) (wE C a) (wE C b)) (fun j => pe_ix (C.k j (fun k => IxR (C.X j) (rIxL k)) ix_list) (pe_w j) (pe_w j) hs) fun p tub tb B σ G H Q q k => by
    obtain ⟨e1, g, b0, ws, hq, t⟩ := q.tub
    refine ha p tub tb B σ G H _ q fun v G1 H1 x1 t1 => hb p tub tb B σ G1 H1 _ (q.nx x1) fun u d tub2 ws2 G2 H2 hd tb2 m2 t2 tu => ?_
    obtain ⟨j, rfl, hj⟩ := hd
    obtain ⟨h0, h1⟩ := h j hj
    obtain ⟨a, us, rfl, s1, t1'⟩ := dp_lst t1
    have hn : ds[j.toNat]? = some (ds[j.toNat]'(by omega)) := List.getElem?_eq_getElem _
    have hat : atI ds j = some (ds[j.toNat]'(by omega)) := by
      have := atI_nat hn
      rwa [Int.toNat_of_nonneg h0] at this
    obtain ⟨z, e1, e2⟩ := atI_dpa (dpa_ex m2.x.g t1') hat
    exact ⟨a, us, j, z, rfl, dp_int tu, SqL.ex m2.x.s (SqL.ex m2.x.g s1), e1, k _ _ tub2 ws2 G2 H2 (List.getElem_mem _) tb2 (.pre x1 hq g m2) t2 e2⟩
/-- a call that hands the tub on -/
theorem em_call {x tn : Str} {k : Nat} {pn : List Str} {pre : List PyData → Nat → Nat → (PyData → Prop) → Prop} {np tp : Pos} (F : Fn P w K mg base x k pn (spM K pre)) (ha : ∀ p tub, Tb m tub → EA C (tubS p tub :: r) es ds) (hp : pre ds m m1 R) (hk : k ≤ C.j) (hN : C.N[0]? = some tn) (hv : ∀ i, Vis (C.X i).env.scope tn) (hg : ∀ i, Gl (C.X i) x)
    (hd : (tn == ("__debug__" : Str)) = false := by decide) (hcd : (tn == ("__classdict__" : Str)) = false := by decide) (hdb : (x == ("__debug__" : Str)) = false := by decide)
    (he : ∀ i, starEach (.Name tn tp :: es) (C.X i).env = (false, eval (.Name tn tp) (C.X i).env) :: starEach es (C.X i).env := by intro _; rfl) (hpl : ∀ i, (backTo pos (starEach es (C.X i).env)).any (·.1) = false := by intro _; rfl) : EM C r m m1 R (.Call (.Name x np) (.Name tn tp :: es) [] pos) := by
  obtain ⟨f, fd, F, hm, hkp, hb⟩ := F.ex
  refine EM.of (t := tCall (spM K pre) [] E0 (tCons (tVar 0) (wA C es))) (fun i => pe_call (C.fn i F) ((C.room i).mono hk) (hg i) (by rw [C.hmg]; exact hm) (by rw [C.hK]; exact hkp) (by rw [C.hK]; exact hb) .nil pass0 (pa_cons (pe_var (by rw [C.hN]; exact hN) (hv i) hd hcd) (pa_w i) (he i)) hdb (he i) (hpl i)) fun p tub tb B σ G H Q q z => ?_
  obtain ⟨e1, g, b, ws, hq, t⟩ := q.tub
  refine ⟨_, e1, ha p tub tb B σ G H _ q fun vs G1 H1 x1 t1 => ?_⟩
  show spM K pre ((V.ref p :: vs) ++ []) H1 Q E0
  rw [List.append_nil]
  have g1 := x1.n p (by rw [hq]; exact Option.some_ne_none _) g
  exact ⟨G1, p, vs, tub, ws, ds, m, m1, R, rfl, x1.s, g1, x1.h _ _ hq, dpa_ex x1.g t, tb, t1, hp, fun v d tub' ws' G' H' hd tb' mv t' tv => z v d tub' ws' G' H' hd tb' (.pre x1 hq g mv) t' tv⟩
/-! ### what is walked -/
def EIM (C : Ctx P w K mg base) (r : List SV) (m m' : Nat) (R : List PyData → Prop) (tg iter : Expr) : Prop := ∀ p tub, Tb m tub → ∀ B σ G H Q, Rl K B G H (tubS p tub :: r) σ → (∀ J xs tub' ws G' H', R xs → Tb m' tub' → Mv G H p G' H' ws → DpAll K G' ws tub' → ItOk K J xs G' → Q J H') → wI C tg iter σ H Q
theorem EIM.of {R : List PyData → Prop} {wi : TI} (h : ∀ i, PI (C.X i) tg iter wi) (o : ∀ p tub, Tb m tub → ∀ B σ G H Q, Rl K B G H (tubS p tub :: r) σ → (∀ J xs tub' ws G' H', R xs → Tb m1 tub' → Mv G H p G' H' ws → DpAll K G' ws tub' → ItOk K J xs G' → Q J H') → wi σ H Q) : EIM C r m m1 R tg iter := fun p tub tb B σ G H Q q k i pins s I => (h i).run pins s σ H Q I (o p tub tb B σ G H Q q k)
theorem eim_range (T : Blt mg) {P1 : Int → Prop} {np : Pos} (h : EM C r m m1 (fun d => ∃ j, d = .int j ∧ P1 j) e) (hb : ∀ j, P1 j → 0 ≤ j ∧ j < 1000) (hg : ∀ i, Gl (C.X i) "range" := by intro _; rfl) (hs : ∀ i, starEach [e] (C.X i).env = [(false, eval e (C.X i).env)] := by intro _; rfl) (he : ∀ i, starEach (e :: []) (C.X i).env = (false, eval e (C.X i).env) :: starEach [] (C.X i).env := by intro _; rfl) :
    EIM C r m m1 (fun xs => ∃ j, P1 j ∧ xs = rangeD j.toNat) tg (.Call (.Name "range" np) [e] [] pos) :=
  EIM.of (wi := iRng1 (tCons (wE C e) tNil)) (fun i => pi_range1 (hg i) (by rw [C.hmg]; exact T.range) (pa_cons (pe_w i) pa_nil (he i)) (hs i)) fun p tub tb B σ G H Q q k => h p tub tb B σ G H _ q fun v d tub1 ws1 G1 H1 hd tb1 m1 t1 tv => by
    obtain ⟨n, rfl, hn⟩ := hd
    obtain ⟨h0, h1⟩ := hb n hn
    rw [dp_int tv]
    refine ⟨n, rfl, by omega, by omega, k _ (rangeD n.toNat) tub1 ws1 G1 H1 ⟨n, hn, rfl⟩ tb1 m1 t1 fun i G2 H2 e1 e2 => ⟨fun hi => ?_, fun d hd => ?_⟩⟩
    · rw [rangeD_len] at hi
      exact hi
    · obtain ⟨hl, rfl⟩ := rangeD_get hd
      refine ⟨hl, fun x H' y => ?_⟩
      obtain ⟨rfl, rfl⟩ := y
      rw [Int.zero_add]
      exact ⟨G2, Nx.refl e2, .int _⟩
/-- a frozen list cut behind a drawn place -/
theorem eim_slice {P1 : Int → Prop} (ha : ∀ p tub, Tb m tub → EF C (tubS p tub :: r) a (.list ds)) (h : EM C r m m1 (fun d => ∃ j, d = .int j ∧ P1 j) e) :
    EIM C r m m1 (fun xs => ∃ j, P1 j ∧ xs = cutD ds none (some j)) tg (.Subscript a (.Slice none (some e) none p2) pos) :=
  EIM.of (wi := iList K (tSl (rSlL K) (wE C a) tNoPart (tPart (wE C e)))) (fun i => C.k i (fun k => PI (C.X i) _ _ (iList k (tSl (rSlL k) _ _ _))) (pi_list (pe_slice sl_list (pe_w i) po_none (po_some (pe_w i))))) fun p tub tb B σ G H Q q k => by
    obtain ⟨e1, g, b0, ws, hq, t⟩ := q.tub
    refine ha p tub tb B σ G H _ q fun v G1 H1 x1 t1 => h p tub tb B σ G1 H1 _ (q.nx x1) fun u d tub2 ws2 G2 H2 hd tb2 m2 t2 tu => ?_
    obtain ⟨j, rfl, hj⟩ := hd
    obtain ⟨a, us, rfl, s1, t1'⟩ := dp_lst t1
    refine ⟨j, dp_int tu, a, us, rfl, SqL.ex m2.x.s (SqL.ex m2.x.g s1), fun c hc => ?_⟩
    have x3 := Nx.new (o := .lst (cutV us none (some j))) m2.x.s hc
    have gc : G2 c = none := m2.x.s.free hc
    exact ⟨c, rfl, ⟨_, SqL.of upd_same⟩, k _ (cutD ds none (some j)) tub2 ws2 _ _ ⟨j, hj, rfl⟩ tb2 ((Mv.pre x1 hq g m2).nx x3) (dpa_ex x3.g t2) (it_list (SqL.of upd_same) (dpa_cut (dpa_ex x3.g (dpa_ex m2.x.g t1'))))⟩
end
end DL

set_option maxRecDepth 100000
set_option maxHeartbeats 2000000
/-! DT, part 2: statements that change the tub. -/
namespace DL
open PySem PySem.Spec PyProof.Rows L2
theorem ix_nat {n j : Nat} (h : j < n) : ixN n (j : Int) = some j := by
  have q := atI_nat (xs := List.range n) (j := j) (v := j) (by rw [List.getElem?_range h])
  unfold atI at q
  rw [List.length_range] at q
  cases e : ixN n (j : Int) with
  | none => rw [e] at q; cases q
  | some i =>
    rw [e] at q
    have q' : (List.range n)[i]? = some j := q
    rw [List.getElem?_eq_some_iff] at q'
    obtain ⟨_, q'⟩ := q'
    rw [List.getElem_range] at q'
    rw [q']
theorem Mv.wr {G H G' H' : Hp} {p : Addr} {ws us : List V} (m : Mv G H p G' H' ws) : Mv G H p G' (upd H' p (.lst us)) us :=
  ⟨⟨m.x.g, fun a o h => by
    obtain ⟨n, h'⟩ := del_some h
    rw [upd_ne n]; exact m.x.h a o h, fun a o h => by
    have n : a ≠ p := fun z => by rw [z, m.g] at h; cases h
    rw [upd_ne n]; exact m.x.s a o h, m.x.n⟩, m.g, upd_same⟩
section
variable {P : Program} {w : World} {K : PySem.W.Frag} {mg : Str → Option Value} {base : Heap} {C : Ctx P w K mg base} {r rho rho' : List SV} {p : Addr} {tub : List PyData} {m m1 m2 : Nat} {R R1 R2 : PyData → Prop} {e a b c tg iter : Expr} {es : List Expr} {d d1 d2 d3 : PyData} {ds xs ys : List PyData} {vs : List Nat} {pos ps p2 : Pos} {st : Stmt} {rest body : List Stmt} {Pt : Post}
/-- the tub read -/
theorem el_tub {x : Str} (hN : C.N[0]? = some x) (hv : ∀ i, Vis (C.X i).env.scope x) (hd : (x == ("__debug__" : Str)) = false := by decide) (hcd : (x == ("__classdict__" : Str)) = false := by decide) : EL C (tubS p tub :: r) (.Name x pos) true tub := by
  refine EL.of (t := tVar 0) (fun i => pe_var (by rw [C.hN]; exact hN) (hv i) hd hcd) fun B σ G H Q q k => ?_
  obtain ⟨e1, g, b, ws, h, t⟩ := q.tub
  exact ⟨_, e1, k p ws G H (Nx.refl q.e) (sq_l (SqL.of h)) t⟩
/-- tub[j] = e -/
theorem ds_tubSet (j : Nat) (v : Int) {x : Str} {xp sp : Pos} {kk : Nat} {cp : Pos} (h : EF C (tubS p tub :: r) e (.int v)) (hj : j < tub.length) (t : DS C rest (tubS p (tub.set j (.int v)) :: r) Pt) (hN : C.N[0]? = some x) (hv : ∀ i, Vis (C.X i).env.scope x) (hd : (x == ("__debug__" : Str)) = false := by decide) (hcd : (x == ("__classdict__" : Str)) = false := by decide)
    (hs : ∀ i, swapsWithSole [.Subscript (.Name x xp) (.Constant (.int (j : Int)) kk cp) sp] e pos.line (C.X i).env = pure false := by intro _; rfl) (hw : ∀ i, swappedStores [.Subscript (.Name x xp) (.Constant (.int (j : Int)) kk cp) sp] e (C.X i).env = pure none := by intro _; rfl)
    (h1 : ∀ i, (assignEach [.Subscript (.Name x xp) (.Constant (.int (j : Int)) kk cp) sp] (C.X i).env).map (·.2) = [assign (.Subscript (.Name x xp) (.Constant (.int (j : Int)) kk cp) sp) (C.X i).env] := by intro _; rfl) :
    DS C (.Assign [.Subscript (.Name x xp) (.Constant (.int (j : Int)) kk cp) sp] e pos :: rest) (tubS p tub :: r) Pt :=
  DS.cons (t := tAsg (wE C e) (gSub (tVar 0) (tC (.int (j : Int))) rSetL)) (fun i => ps_asg (pe_w i) (pg_sub (pe_var (by rw [C.hN]; exact hN) (hv i) hd hcd) pe_int set_list) (hs i) (hw i) (h1 i)) fun G0 H0 D W σ G H tk x q kk => h H0 σ G H _ q fun u G' H' x2 tu => by
    have q2 := q.nx x2
    obtain ⟨e1, g, b, ws, hq, tt⟩ := q2.tub
    refine ⟨_, e1, p, ws, (j : Int), j, rfl, rfl, hq, ix_nat (by rw [dpa_len tt]; exact hj), ?_⟩
    have mv : Mv G' H' p G' (upd H' p (.lst (ws.set j u))) (ws.set j u) := (Mv.refl x2.s g hq).wr
    exact t G0 H0 D W σ G' _ tk (mv.base (x.trans x2) b) (q2.mv mv (dpa_set tu j tt)) kk
theorem ds_setM (k : Nat) {x : Str} {p' : Pos} (h : EM C r m m1 R e) (tb : Tb m tub) (t : ∀ d tub', R d → Tb m1 tub' → DS C rest (tubS p tub' :: r.set k (.dat d)) Pt) (hN : C.N[k + 1]? = some x) (hx : ∀ i, Loc (C.X i).env.scope x) (hs : ∀ i, swapsWith e (some (.Name x p')) pos.line (C.X i).env = pure false := by intro _; rfl)
    (hf : ∀ i, (C.X i).fn x = true ∨ (C.X i).env.scope.names.lookup x = some .local := by intro _; exact Or.inl rfl) : DS C (.Assign [.Name x p'] e pos :: rest) (tubS p tub :: r) Pt :=
  DS.cons (t := tAsg (wE C e) (gName (k + 1))) (fun i => ps_set (by rw [C.hN]; exact C.nd) (by rw [C.hN]; exact hN) (hx i) (pe_w i) (hs i) (hf i)) fun G0 H0 D W σ G H tk x q kk => h p tub tb H0 σ G H _ q fun v d tub' ws G' H' hd tb' mv t' tv => by
    obtain ⟨e1, g, b, ws, hq, tt⟩ := q.tub
    exact t d tub' hd tb' G0 H0 D W _ G' H' tk (mv.base x b) ((q.mv mv t').setD (i := k + 1) tv) kk
theorem ds_asgM (h : EM C r m m1 R e) (tb : Tb m tub) (t : ∀ d tub', R d → Tb m1 tub' → ∃ rho' vs, EG C d (tubS p tub' :: r) rho' vs tg ∧ DS C rest rho' Pt) (hs : ∀ i, swapsWithSole [tg] e pos.line (C.X i).env = pure false := by intro _; rfl) (hw : ∀ i, swappedStores [tg] e (C.X i).env = pure none := by intro _; rfl)
    (h1 : ∀ i, (assignEach [tg] (C.X i).env).map (·.2) = [assign tg (C.X i).env] := by intro _; rfl) : DS C (.Assign [tg] e pos :: rest) (tubS p tub :: r) Pt :=
  DS.cons (t := tAsg (wE C e) (wG C tg)) (fun i => ps_asg (pe_w i) (pg_w i) (hs i) (hw i) (h1 i)) fun G0 H0 D W σ G H tk x q kk => h p tub tb H0 σ G H _ q fun v d tub' ws G' H' hd tb' mv t' tv => by
    obtain ⟨e1, g, b, ws, hq, tt⟩ := q.tub
    obtain ⟨rho', vs, hg, t⟩ := t d tub' hd tb'
    exact hg H0 σ G' H' v _ (q.mv mv t') tv fun σ' r' _ => t G0 H0 D W σ' G' H' tk (mv.base x b) r' kk
theorem ds_retM (h : EM C r m m1 R e) (tb : Tb m tub) (hr : ∀ d tub', R d → Tb m1 tub' → Pt.rt (tubS p tub' :: r) d) : DS C (.Return (some e) pos :: rest) (tubS p tub :: r) Pt :=
  DS.cons (t := tRet (wE C e)) (fun i => ps_ret (pe_w i)) fun G0 H0 D W σ G H tk x q kk => h p tub tb H0 σ G H _ q fun v d tub' ws G' H' hd tb' mv t' tv => by
    obtain ⟨e1, g, b, ws, hq, tt⟩ := q.tub
    exact kk.rt _ d v σ G' H' (hr d tub' hd tb') (mv.base x b) (q.mv mv t') tv
/-- x.append(e), x the def's own, e changes the tub -/
theorem ds_appendM (k : Nat) {x : Str} {apos cpos pp : Pos} (hk : r[k]? = some (.own ds)) (h : EM C r m m1 R e) (tb : Tb m tub) (hl : ds.length < 100000) (t : ∀ d tub', R d → Tb m1 tub' → DS C rest (tubS p tub' :: r.set k (.own (ds ++ [d]))) Pt) (hN : C.N[k + 1]? = some x) (hv : ∀ i, Vis (C.X i).env.scope x)
    (hd : (x == ("__debug__" : Str)) = false := by decide) (hcd : (x == ("__classdict__" : Str)) = false := by decide)
    (hbase : ∀ i, attributeBase (.Name x pp) "append" (C.X i).env (eval (.Name x pp) (C.X i).env) = eval (.Name x pp) (C.X i).env := by intro _; rfl)
    (hfew : ∀ i, ((backTo cpos (starEach (e :: []) (C.X i).env)).all (fun x => !x.1) && (backToKw cpos (keywordEach [] (C.X i).env)).all (fun x => x.1.isSome)
      && decide ((e :: []).length + ([] : List Keyword).length + (if ([] : List Keyword).isEmpty then 0 else 1) < 30)) = true := by intro _; rfl)
    (hline : (apos.endLine == cpos.line) = true := by rfl) (hs : ∀ i, starEach (e :: []) (C.X i).env = (false, eval e (C.X i).env) :: starEach [] (C.X i).env := by intro _; rfl) (hsw : ∀ i, swapsWith (.Call (.Attribute (.Name x pp) "append" apos) [e] [] cpos) none pos.line (C.X i).env = pure false := by intro _; rfl) :
    DS C (.Expr (.Call (.Attribute (.Name x pp) "append" apos) [e] [] cpos) pos :: rest) (tubS p tub :: r) Pt :=
  DS.cons (t := tDrop (tBM K "list" rAppend (tVar (k + 1)) (tCons (wE C e) tNil))) (fun i => ps_expr (C.k i (fun q => PE (C.X i) _ (tBM q _ _ _ _)) (pe_bm PySem.F.plainAttrs_list PySem.F.slot_list_append PySem.F.type_list_append mt_append (pe_var (by rw [C.hN]; exact hN) (hv i) hd hcd) (pa_cons (pe_w i) pa_nil (hs i)) (hbase i) (hfew i) hline (hs i))) (hsw i))
    fun G0 H0 D W σ G H tk x q kk => by
      have hk0 : (tubS p tub :: r)[k + 1]? = some (.own ds) := hk
      obtain ⟨l, us, e1, e2, e3, e4, e5⟩ := q.sl (k + 1) _ hk0
      refine ⟨_, e1, .inl ⟨rfl, us, SqL.of e2⟩, h p tub tb H0 σ G H _ q fun v d tub' ws G' H' hd tb' mv t' tv => ?_⟩
      obtain ⟨_, g, b, _, hq, tt⟩ := q.tub
      have q' := q.mv mv t'
      have hk1 : (tubS p tub' :: r)[k + 1]? = some (.own ds) := hk
      obtain ⟨l', us', e1', e2', e3', e4', e5'⟩ := q'.sl (k + 1) _ hk1
      rw [e1] at e1'
      cases e1'
      refine ⟨l, us', v, rfl, rfl, e2', by rw [dpa_len e5']; exact sz_lt hl, ?_⟩
      exact t d tub' hd tb' G0 H0 D W σ G' _ tk ((mv.base x b).wr e4 e3') (q'.wrOwn hk1 e1 (dpa_app e5' (dpa_one tv))) kk
/-- a, b = e1, e2: the first changes the tub -/
theorem ds_parM (k l : Nat) {sv2 : SV} {x y : Str} {px py pt : Pos} {kt k2 : Nat} {pt2 : Pos} (h1 : EM C r m m1 R a) (tb : Tb m tub) (h2 : ∀ tub', Tb m1 tub' → EV C (tubS p tub' :: r) b sv2) (t : ∀ d tub', R d → Tb m1 tub' → DS C rest (tubS p tub' :: (r.set k (.dat d)).set l sv2) Pt) (hN : C.N[k + 1]? = some x) (hN2 : C.N[l + 1]? = some y) (hne : k ≠ l)
    (hx : ∀ i, (C.X i).env.scope.names.lookup x = some .local) (hy : ∀ i, (C.X i).env.scope.names.lookup y = some .local)
    (hw : ∀ i, swappedStores [.Tuple [.Name x px, .Name y py] kt pt] (.Tuple [a, b] k2 pt2) (C.X i).env = pure (some [x, y])) (hs : ∀ i, swapsWithSole [.Tuple [.Name x px, .Name y py] kt pt] (.Tuple [a, b] k2 pt2) pos.line (C.X i).env = pure false := by intro _; rfl)
    (ha : ∀ i, starEach (a :: [b]) (C.X i).env = (false, eval a (C.X i).env) :: starEach [b] (C.X i).env := by intro _; rfl) (hb : ∀ i, starEach (b :: []) (C.X i).env = (false, eval b (C.X i).env) :: starEach [] (C.X i).env := by intro _; rfl) :
    DS C (.Assign [.Tuple [.Name x px, .Name y py] kt pt] (.Tuple [a, b] k2 pt2) pos :: rest) (tubS p tub :: r) Pt :=
  DS.cons (t := tPar (k + 1) (l + 1) (tCons (wE C a) (tCons (wE C b) tNil))) (fun i => ps_par (C.calm i) (by rw [C.hN]; exact C.nd) (by rw [C.hN]; exact hN) (by rw [C.hN]; exact hN2) (by omega) (hx i) (hy i) (pa_cons (pe_w i) (pa_cons (pe_w i) pa_nil (hb i)) (ha i)) (hw i) (hs i))
    fun G0 H0 D W σ G H tk x q kk => h1 p tub tb H0 σ G H _ q fun v1 d tub1 ws1 G1 H1 hd tb1 mv t1 tv => h2 tub1 tb1 H0 σ G1 H1 _ (q.mv mv t1) fun v2 G2 H2 x2 n2 => by
      obtain ⟨_, g, b, _, hq, tt⟩ := q.tub
      have q1 := q.mv mv t1
      have xb := mv.base x b
      have r2 := q1.nx x2
      refine ⟨v1, v2, rfl, ?_⟩
      have ra := r2.setD (i := k + 1) (dp_ex x2.g tv)
      have rb := ra.put (k := l + 1) xb.h n2 (hpi := q1.pinned.set fun _ _ z => by cases z) fun ds e j es l' hj h1' h2' => by
        rcases set_get h1' with ⟨_, z, _⟩ | ⟨hkj, h1''⟩
        · cases z
        · rw [List.getElem?_set_ne hkj] at h2'
          exact n2.apart q1 ds e j es l' h1'' h2'
      exact t d tub1 hd tb1 G0 H0 D W _ G2 H2 tk (xb.trans x2) rb kk
/-- for: what is walked changes the tub -/
theorem ds_forM {RX : List PyData → Prop} (hi : EIM C r m m1 RX tg iter) (tb : Tb m tub) (Iv : List PyData → Nat → List SV → Prop) (h0 : ∀ xs tub', RX xs → Tb m1 tub' → Iv xs 0 (tubS p tub' :: r))
    (hs : ∀ xs i x rho1, RX xs → xs[i]? = some x → Iv xs i rho1 → ∃ rho2 vs, EG C x rho1 rho2 vs tg ∧ DS C body rho2 { Pt with nx := Iv xs (i + 1), ct := Iv xs (i + 1), bk := fun r => DS C rest r Pt }) (hd : ∀ xs r, RX xs → Iv xs xs.length r → DS C rest r Pt)
    (hp : ∀ i, PassesOwn (model (C.X i).prog (C.X i).w) (C.X i).A (C.X i).env (C.X i).xe) (hfs : ∀ i x, foldedSetIterable iter (C.X i).env x = pure x := by intro _ _; rfl) : DS C (.For tg iter body [] pos :: rest) (tubS p tub :: r) Pt :=
  DS.cons (t := tFor (wI C tg iter) (wG C tg) (wS C body)) (fun i => ps_for (hp i) (C.calm i) (pi_w i) (pg_w i) (pss_w i) (hfs i)) fun G0 H0 D W σ G H tk x q kk => hi p tub tb H0 σ G H _ q fun J xs tub1 ws1 G1 H1 hx tb1 mv t1 it => by
    obtain ⟨_, g, b, _, hq, tt⟩ := q.tub
    refine ⟨fun i m σ H => m = xs.length - i ∧ i ≤ xs.length ∧ ∃ rho G, Iv xs i rho ∧ Nx G0 H0 G H ∧ Ex G1 G ∧ Rl K H0 G H rho σ, ⟨_, rfl, Nat.zero_le _, _, G1, h0 xs tub1 hx tb1, mv.base x b, Ex.refl _, q.mv mv t1⟩, ?_⟩
    rintro i m σ2 H2 ⟨rfl, hle, rho2, G2, iv, x2, e2, r2⟩
    obtain ⟨stp, go⟩ := it i G2 H2 e2 r2.e
    rcases Nat.lt_or_ge i xs.length with hlt | hge
    · have hx2 : xs[i]? = some xs[i] := List.getElem?_eq_getElem hlt
      generalize hxe : xs[i] = y at hx2
      obtain ⟨g1, g2⟩ := go y hx2
      refine .inr ⟨g1, fun σ H => ∃ rho G, Iv xs (i + 1) rho ∧ Nx G0 H0 G H ∧ Ex G1 G ∧ Rl K H0 G H rho σ, fun σ' H' hn => ⟨xs.length - (i + 1), by omega, rfl, hlt, hn⟩, fun v H' hy => ?_⟩
      obtain ⟨G3, x3, td⟩ := g2 v H' hy
      obtain ⟨rho3, vs3, hg, hb⟩ := hs xs i y rho2 hx hx2 iv
      refine hg H0 σ2 G3 H' v _ (r2.nx x3) td fun σ4 r4 _ => ?_
      have x4 := x2.trans x3
      have up : ∀ {G H : Hp}, Nx G3 H0 G H → Nx G0 H0 G H := fun {G H} y => ⟨x4.g.trans y.g, y.h, y.s, fun a h1 h2 => y.n a h1 (x4.n a h1 h2)⟩
      refine hb G3 H0 { nx := _, rt := D.rt, bk := wS C rest D, ct := _ } W σ4 G3 H' tk ⟨Ex.refl _, x4.h, x4.s, fun a h1 h2 => h2⟩ r4 ⟨fun rho σ G H z y q => ?_, fun rho d v σ G H z y q t => ?_, fun rho σ G H z y q => ?_, fun rho σ G H z y q => ?_, fun cls dd da σ G H z y q => ?_⟩
      · exact ⟨rho, G, z, up y, e2.trans (x3.g.trans y.g), q⟩
      · exact kk.rt rho d v σ G H z (up y) q t
      · exact z G0 H0 D W σ G H tk (up y) q kk
      · exact ⟨rho, G, z, up y, e2.trans (x3.g.trans y.g), q⟩
      · exact kk.er cls dd da σ G H z (up y) q
    · have hie : i = xs.length := by omega
      subst hie
      exact .inl ⟨stp hge, hd xs rho2 hx iv G0 H0 D W σ2 G2 H2 tk x2 r2 kk⟩
end
end DL

set_option maxRecDepth 100000
set_option maxHeartbeats 2000000
/-! DT, part 3: a list of four lists of the def's own. -/
namespace DL
open PySem PySem.Spec PyProof.Rows L2
section
variable {P : Program} {w : World} {K : PySem.W.Frag} {mg : Str → Option Value} {base : Heap} {C : Ctx P w K mg base} {rho rho' : List SV} {e a b c o tg iter : Expr} {es : List Expr} {d : PyData} {ds xs ys : List PyData} {pos ps p2 : Pos} {rest : List Stmt} {Pt : Post} {B G H : Hp} {σ : L2.St}
abbrev nestS (lo l0 l1 l2 l3 : Addr) (d0 d1 d2 d3 : List PyData) : SV := .pin lo [(lo, .rf [l0, l1, l2, l3]), (l0, .ds d0), (l1, .ds d1), (l2, .ds d2), (l3, .ds d3)]
/-- a slot is set to a list of known place: its lists are new since H0 -/
theorem Rl.setPin {H0 : Hp} (r : Rl K B G H rho σ) (r0 : ∀ (j : Nat) sv, rho[j]? = some sv → ∀ l ds, sv = .own ds → σ[j]? = some (some (.ref l)) → H0 l ≠ none) (rp : Pins rho H0) {k : Nat} {p : Addr} {cells : List (Addr × Cl)} (h : PinOk K B G H cells) (hn : ∀ x ∈ cells.map Prod.fst, H0 x = none) :
    Rl K B G H (rho.set k (.pin p cells)) (σ.set k (some (.ref p))) := by
  refine ⟨r.e, by rw [List.length_set, List.length_set]; exact r.len, fun j sv' e => ?_, fun a b l ds es e1 e2 e3 e4 => ?_, fun a b l ds p' cells' e1 e2 e3 hm => ?_, fun a b p1 c1 p2 c2 x e1 e2 m1 m2 => ?_⟩
  · rcases set_get e with ⟨rfl, rfl, hi⟩ | ⟨hne, e⟩
    · rw [set_sig r.len hi]; exact ⟨rfl, h⟩
    · rw [List.getElem?_set_ne hne]; exact r.sl j sv' e
  · rcases set_get e1 with ⟨_, q, _⟩ | ⟨n1, e1⟩
    · cases q
    · rcases set_get e2 with ⟨_, q, _⟩ | ⟨n2, e2⟩
      · cases q
      · rw [List.getElem?_set_ne n1] at e3
        rw [List.getElem?_set_ne n2] at e4
        exact r.sep a b l ds es e1 e2 e3 e4
  · rcases set_get e1 with ⟨_, q, _⟩ | ⟨n1, e1⟩
    · cases q
    · rw [List.getElem?_set_ne n1] at e3
      rcases set_get e2 with ⟨_, q, _⟩ | ⟨n2, e2⟩
      · cases q
        exact r0 a _ e1 l ds rfl e3 (hn l hm)
      · exact r.pins.1 a b l ds p' cells' e1 e2 e3 hm
  · rcases set_get e1 with ⟨z1, q, _⟩ | ⟨n1, e1⟩
    · rcases set_get e2 with ⟨z2, q2, _⟩ | ⟨n2, e2⟩
      · rw [← z1, ← z2]
      · cases q
        exact absurd (hn x m1) (rp b p2 c2 x e2 m2)
    · rcases set_get e2 with ⟨z2, q2, _⟩ | ⟨n2, e2⟩
      · cases q2
        exact absurd (hn x m2) (rp a p1 c1 x e1 m1)
      · exact r.pins.2 a b p1 c1 p2 c2 x e1 e2 m1 m2
theorem Rl.ownsSome (r : Rl K B G H rho σ) : ∀ (j : Nat) sv, rho[j]? = some sv → ∀ l ds, sv = .own ds → σ[j]? = some (some (.ref l)) → H l ≠ none := fun j sv h l ds e hs => by
  subst e
  obtain ⟨l', us, e1, e2, _⟩ := r.sl j _ h
  rw [hs] at e1
  cases e1
  rw [e2]; exact Option.some_ne_none _
/-- x = [e0, e1, e2, e3], four new lists -/
theorem ds_nest4 (k : Nat) {x : Str} {p' lp : Pos} {e0 e1 e2 e3 : Expr} {d0 d1 d2 d3 : List PyData} (h0 : EN C rho e0 d0) (h1 : EN C rho e1 d1) (h2 : EN C rho e2 d2) (h3 : EN C rho e3 d3) (t : ∀ lo l0 l1 l2 l3, DS C rest (rho.set k (nestS lo l0 l1 l2 l3 d0 d1 d2 d3)) Pt) (hN : C.N[k]? = some x) (hx : ∀ i, Loc (C.X i).env.scope x)
    (hs : ∀ i, swapsWith (.List [e0, e1, e2, e3] lp) (some (.Name x p')) pos.line (C.X i).env = pure false := by intro _; rfl) (hf : ∀ i, (C.X i).fn x = true ∨ (C.X i).env.scope.names.lookup x = some .local := by intro _; exact Or.inl rfl)
    (s0 : ∀ i, starEach (e0 :: [e1, e2, e3]) (C.X i).env = (false, eval e0 (C.X i).env) :: starEach [e1, e2, e3] (C.X i).env := by intro _; rfl) (s1 : ∀ i, starEach (e1 :: [e2, e3]) (C.X i).env = (false, eval e1 (C.X i).env) :: starEach [e2, e3] (C.X i).env := by intro _; rfl)
    (s2 : ∀ i, starEach (e2 :: [e3]) (C.X i).env = (false, eval e2 (C.X i).env) :: starEach [e3] (C.X i).env := by intro _; rfl) (s3 : ∀ i, starEach (e3 :: []) (C.X i).env = (false, eval e3 (C.X i).env) :: starEach [] (C.X i).env := by intro _; rfl) :
    DS C (.Assign [.Name x p'] (.List [e0, e1, e2, e3] lp) pos :: rest) rho Pt :=
  DS.cons (t := tAsg (tLst (tCons (wE C e0) (tCons (wE C e1) (tCons (wE C e2) (tCons (wE C e3) tNil))))) (gName k)) (fun i => ps_set (by rw [C.hN]; exact C.nd) (by rw [C.hN]; exact hN) (hx i) (pe_lst (pa_cons (pe_w i) (pa_cons (pe_w i) (pa_cons (pe_w i) (pa_cons (pe_w i) pa_nil (s3 i)) (s2 i)) (s1 i)) (s0 i))) (hs i) (hf i))
    fun G0 H0 D W σ G H tk x r kk => h0 H0 σ G H _ r fun p0 v0 G1 H1 x1 a1 b1 c1 t1 => h1 H0 σ G1 H1 _ (r.nx x1) fun p1 v1 G2 H2 x2 a2 b2 c2 t2 => h2 H0 σ G2 H2 _ ((r.nx x1).nx x2) fun p2 v2 G3 H3 x3 a3 b3 c3 t3 => h3 H0 σ G3 H3 _ (((r.nx x1).nx x2).nx x3) fun p3 v3 G4 H4 x4 a4 b4 c4 t4 => by
      refine ⟨(show (4 : Nat) ≤ sizeLine from by decide), fun lo hlo => ?_⟩
      have x5 : Nx G4 H4 G4 (upd H4 lo (.lst [.ref p0, .ref p1, .ref p2, .ref p3])) := Nx.priv x4.s hlo
      have sm : ∀ {H : Hp} {a : Addr} {o : HO}, H a = some o → H a ≠ none := fun h => by rw [h]; exact Option.some_ne_none _
      -- the later stand apart from the earlier
      have f1 : H p1 = none := x1.h.free a2
      have f2 : H p2 = none := (x1.h.trans x2.h).free a3
      have f3 : H p3 = none := ((x1.h.trans x2.h).trans x3.h).free a4
      have f4 : H lo = none := (((x1.h.trans x2.h).trans x3.h).trans x4.h).free hlo
      have n01 : p0 ≠ p1 := ne_of_none c1 a2
      have n02 : p0 ≠ p2 := ne_of_none (x2.h _ _ c1) a3
      have n03 : p0 ≠ p3 := ne_of_none (x3.h _ _ (x2.h _ _ c1)) a4
      have n04 : p0 ≠ lo := ne_of_none (x4.h _ _ (x3.h _ _ (x2.h _ _ c1))) hlo
      have n12 : p1 ≠ p2 := ne_of_none c2 a3
      have n13 : p1 ≠ p3 := ne_of_none (x3.h _ _ c2) a4
      have n14 : p1 ≠ lo := ne_of_none (x4.h _ _ (x3.h _ _ c2)) hlo
      have n23 : p2 ≠ p3 := ne_of_none c3 a4
      have n24 : p2 ≠ lo := ne_of_none (x4.h _ _ c3) hlo
      have n34 : p3 ≠ lo := ne_of_none c4 hlo
      have g0 : G4 p0 = none := x4.n p0 (sm (x3.h _ _ (x2.h _ _ c1))) (x3.n p0 (sm (x2.h _ _ c1)) (x2.n p0 (sm c1) b1))
      have g1 : G4 p1 = none := x4.n p1 (sm (x3.h _ _ c2)) (x3.n p1 (sm c2) b2)
      have g2 : G4 p2 = none := x4.n p2 (sm c3) b3
      have gl : G4 lo = none := x4.s.free hlo
      have B0 := x.h
      refine t lo p0 p1 p2 p3 G0 H0 D W _ G4 _ tk (((((x.trans x1).trans x2).trans x3).trans x4).trans x5) ?_ kk
      refine ((((r.nx x1).nx x2).nx x3).nx x4 |>.nx x5).setPin (H0 := H) r.ownsSome r.pinned ⟨?_, ?_⟩ ?_
      · simp only [List.map_cons, List.map_nil, List.nodup_cons, List.mem_cons, List.not_mem_nil, or_false, not_or, List.nodup_nil, and_true, not_false_eq_true]
        exact ⟨⟨n04.symm, n14.symm, n24.symm, n34.symm⟩, ⟨n01, n02, n03⟩, ⟨n12, n13⟩, n23⟩
      · intro c hc
        simp only [List.mem_cons, List.not_mem_nil, or_false] at hc
        rcases hc with rfl | rfl | rfl | rfl | rfl
        · exact ⟨gl, B0.free f4, upd_same⟩
        · exact ⟨g0, B0.free a1, v0, by rw [upd_ne n04]; exact x4.h _ _ (x3.h _ _ (x2.h _ _ c1)), dpa_ex ((x2.g.trans x3.g).trans x4.g) t1⟩
        · exact ⟨g1, B0.free f1, v1, by rw [upd_ne n14]; exact x4.h _ _ (x3.h _ _ c2), dpa_ex (x3.g.trans x4.g) t2⟩
        · exact ⟨g2, B0.free f2, v2, by rw [upd_ne n24]; exact x4.h _ _ c3, dpa_ex x4.g t3⟩
        · exact ⟨b4, B0.free f3, v3, by rw [upd_ne n34]; exact c4, t4⟩
      · intro c hc
        simp only [List.map_cons, List.map_nil, List.mem_cons, List.not_mem_nil, or_false] at hc
        rcases hc with rfl | rfl | rfl | rfl | rfl
        · exact f4
        · exact a1
        · exact f1
        · exact f2
        · exact f3
/-- a list of known place is changed -/
theorem Rl.wrPin (r : Rl K B G H rho σ) {k : Nat} {p a : Addr} {cells : List (Addr × Cl)} {us : List V} {l l' : List PyData} {i : Nat} (hk : rho[k]? = some (.pin p cells)) (hi : cells[i]? = some (a, .ds l)) (t : DpAll K G us l') : Rl K B G (upd H a (.lst us)) (rho.set k (.pin p (cells.set i (a, .ds l')))) σ := by
  have hma : a ∈ cells.map Prod.fst := List.mem_map.mpr ⟨_, List.mem_of_getElem? hi, rfl⟩
  obtain ⟨es, hnd, hc⟩ := r.sl k _ hk
  obtain ⟨ga, ba, _⟩ := hc _ (List.mem_of_getElem? hi)
  have fst : (cells.set i (a, Cl.ds l')).map Prod.fst = cells.map Prod.fst := by
    rw [List.map_set]
    apply List.ext_getElem?
    intro j
    by_cases e : i = j
    · subst e
      have hl : i < (cells.map Prod.fst).length := by rw [List.length_map]; exact (List.getElem?_eq_some_iff.mp hi).1
      rw [List.getElem?_set_self hl, List.getElem?_map, hi]; rfl
    · rw [List.getElem?_set_ne e]
  refine ⟨fun x u ea => ?_, by rw [List.length_set]; exact r.len, fun j sv q => ?_, fun x y l1 d1 d2 e1 e2 e3 e4 => ?_, r.pins.sub (fun j es q => ?_) fun j p' cells' q => ?_⟩
  · have hne : x ≠ a := fun z => by
      have ga' : G a = none := ga
      rw [z, ga'] at ea; cases ea
    rw [upd_ne hne]; exact r.e x u ea
  · rcases set_get q with ⟨rfl, rfl, _⟩ | ⟨hne, q⟩
    · refine ⟨es, by rw [fst]; exact hnd, fun c hm => ?_⟩
      obtain ⟨j, hj⟩ := List.getElem?_of_mem hm
      rcases set_get hj with ⟨rfl, rfl, _⟩ | ⟨hij, hj⟩
      · exact ⟨ga, ba, us, upd_same, t⟩
      · obtain ⟨g2, b2, z⟩ := hc c (List.mem_of_getElem? hj)
        have n : c.1 ≠ a := fun y => by
          have e1 : (cells.map Prod.fst)[j]? = some a := by rw [List.getElem?_map, hj]; exact congrArg some y
          have e2 : (cells.map Prod.fst)[i]? = some a := by rw [List.getElem?_map, hi]; rfl
          exact hij ((List.getElem?_inj (by exact (List.getElem?_eq_some_iff.mp e2).1) hnd).mp (e2.trans e1.symm))
        exact ⟨g2, b2, z.upd n⟩
    · have s := r.sl j sv q
      cases sv with
      | dat d => exact s
      | obj phi mm => exact s
      | unk => trivial
      | own dd =>
        obtain ⟨l2, u2, q1, q2, q3, q4, q5⟩ := s
        have n : l2 ≠ a := fun z => r.pins.1 j k l2 dd p cells q hk q1 (by rw [z]; exact hma)
        exact ⟨l2, u2, q1, by rw [upd_ne n]; exact q2, q3, q4, q5⟩
      | pin p2 cells2 =>
        refine ⟨s.1, s.2.1, fun c hm => ?_⟩
        obtain ⟨g2, b2, z⟩ := s.2.2 c hm
        have n : c.1 ≠ a := fun y => hne (r.pins.2 k j p cells p2 cells2 a hk q hma (by rw [← y]; exact List.mem_map_of_mem hm))
        exact ⟨g2, b2, z.upd n⟩
  · rcases set_get e1 with ⟨_, z, _⟩ | ⟨_, e1⟩
    · cases z
    · rcases set_get e2 with ⟨_, z, _⟩ | ⟨_, e2⟩
      · cases z
      · exact r.sep x y l1 d1 d2 e1 e2 e3 e4
  · rcases set_get q with ⟨_, z, _⟩ | ⟨_, q⟩
    · cases z
    · exact ⟨es, q, rfl⟩
  · rcases set_get q with ⟨rfl, z, _⟩ | ⟨_, q⟩
    · cases z
      exact ⟨cells, hk, fst.symm⟩
    · exact ⟨cells', q, rfl⟩
/-- x[e1].append(e2), x a list of lists of the def's own -/
theorem ds_nestApp (k i : Nat) {lo a : Addr} {ls : List Addr} {cells : List (Addr × Cl)} {l : List PyData} {e1 e2 : Expr} {x : Str} {xp sp apos cpos : Pos} (hk : rho[k]? = some (.pin lo cells)) (hlo : cells[0]? = some (lo, .rf ls)) (hla : ls[i]? = some a) (hi : cells[i + 1]? = some (a, .ds l)) (h1 : EF C rho e1 (.int (i : Int))) (h2 : EF C rho e2 d) (hl : l.length < 100000)
    (t : DS C rest (rho.set k (.pin lo (cells.set (i + 1) (a, .ds (l ++ [d]))))) Pt) (hN : C.N[k]? = some x) (hv : ∀ i, Vis (C.X i).env.scope x) (hd : (x == ("__debug__" : Str)) = false := by decide) (hcd : (x == ("__classdict__" : Str)) = false := by decide) (hix : PlainIx e1 := by intro _ _; rfl)
    (hbase : ∀ i, attributeBase (.Subscript (.Name x xp) e1 sp) "append" (C.X i).env (eval (.Subscript (.Name x xp) e1 sp) (C.X i).env) = eval (.Subscript (.Name x xp) e1 sp) (C.X i).env := by intro _; rfl)
    (hfew : ∀ i, ((backTo cpos (starEach (e2 :: []) (C.X i).env)).all (fun x => !x.1) && (backToKw cpos (keywordEach [] (C.X i).env)).all (fun x => x.1.isSome)
      && decide ((e2 :: []).length + ([] : List Keyword).length + (if ([] : List Keyword).isEmpty then 0 else 1) < 30)) = true := by intro _; rfl)
    (hline : (apos.endLine == cpos.line) = true := by rfl) (hs : ∀ i, starEach (e2 :: []) (C.X i).env = (false, eval e2 (C.X i).env) :: starEach [] (C.X i).env := by intro _; rfl) (hsw : ∀ i, swapsWith (.Call (.Attribute (.Subscript (.Name x xp) e1 sp) "append" apos) [e2] [] cpos) none pos.line (C.X i).env = pure false := by intro _; rfl) :
    DS C (.Expr (.Call (.Attribute (.Subscript (.Name x xp) e1 sp) "append" apos) [e2] [] cpos) pos :: rest) rho Pt :=
  DS.cons (t := tDrop (tBM K "list" rAppend (tOp (rIxL K) (tVar k) (wE C e1)) (tCons (wE C e2) tNil))) (fun i => ps_expr (C.k i (fun q => PE (C.X i) _ (tBM q "list" rAppend (tOp (rIxL q) (tVar k) (wE C e1)) (tCons (wE C e2) tNil))) (pe_bm PySem.F.plainAttrs_list PySem.F.slot_list_append PySem.F.type_list_append mt_append
      (pe_ix ix_list (pe_var (by rw [C.hN]; exact hN) (hv i) hd hcd) (pe_w i) hix) (pa_cons (pe_w i) pa_nil (hs i)) (hbase i) (hfew i) hline (hs i))) (hsw i))
    fun G0 H0 D W σ G H tk x r kk => by
      obtain ⟨e1', hnd, hc⟩ := r.sl k _ hk
      refine ⟨_, e1', h1 H0 σ G H _ r fun y G1 H1 x1 t1 => ?_⟩
      have r1 := r.nx x1
      obtain ⟨_, _, hc1⟩ := r1.sl k _ hk
      obtain ⟨glo, blo, hlo1⟩ := hc1 _ (List.mem_of_getElem? hlo)
      obtain ⟨ga, ba, us, hua, tua⟩ := hc1 _ (List.mem_of_getElem? hi)
      have hat : atI (ls.map V.ref) (i : Int) = some (.ref a) := atI_nat (by rw [List.getElem?_map, hla]; rfl)
      refine ⟨lo, ls.map .ref, (i : Int), .ref a, rfl, dp_int t1, SqL.of hlo1, hat, .inl ⟨rfl, us, SqL.of hua⟩, h2 H0 σ G1 H1 _ r1 fun u G2 H2 x2 t2 => ?_⟩
      have hua2 := x2.h _ _ hua
      refine ⟨a, us, u, rfl, rfl, hua2, by rw [dpa_len tua]; exact sz_lt hl, ?_⟩
      have ga2 : G2 a = none := x2.n a (by
        have hua' : H1 a = some (.lst us) := hua
        rw [hua']; exact Option.some_ne_none _) ga
      exact t G0 H0 D W σ G2 _ tk (((x.trans x1).trans x2).wr ba ga2) ((r1.nx x2).wrPin hk hi (dpa_app (dpa_ex x2.g tua) (dpa_one t2))) kk
/-- the four lists are changed no more -/
theorem ds_unnest (k : Nat) {sts : List Stmt} {lo l0 l1 l2 l3 : Addr} {d0 d1 d2 d3 : List PyData} (hk : rho[k]? = some (nestS lo l0 l1 l2 l3 d0 d1 d2 d3)) (t : DS C sts (rho.set k (.dat (.list [.list d0, .list d1, .list d2, .list d3]))) Pt) : DS C sts rho Pt := fun G0 H0 D W σ G H tk x r kk => by
  obtain ⟨es, hnd, hc⟩ := r.sl k _ hk
  simp only [List.map_cons, List.map_nil, List.nodup_cons, List.mem_cons, List.not_mem_nil, or_false, not_or, List.nodup_nil, and_true, not_false_eq_true] at hnd
  obtain ⟨⟨n40, n41, n42, n43⟩, ⟨n01, n02, n03⟩, ⟨n12, n13⟩, n23⟩ := hnd
  obtain ⟨gl, bl, hl⟩ := hc (lo, .rf [l0, l1, l2, l3]) (by simp)
  obtain ⟨g0, b0, v0, h0, t0⟩ := hc (l0, .ds d0) (by simp)
  obtain ⟨g1, b1, v1, h1, t1⟩ := hc (l1, .ds d1) (by simp)
  obtain ⟨g2, b2, v2, h2, t2⟩ := hc (l2, .ds d2) (by simp)
  obtain ⟨g3, b3, v3, h3, t3⟩ := hc (l3, .ds d3) (by simp)
  let G' := upd (upd (upd (upd (upd G l0 (.lst v0)) l1 (.lst v1)) l2 (.lst v2)) l3 (.lst v3)) lo (.lst [.ref l0, .ref l1, .ref l2, .ref l3])
  have k1 : upd G l0 (.lst v0) l1 = none := by rw [upd_ne (Ne.symm n01)]; exact g1
  have k2 : upd (upd G l0 (.lst v0)) l1 (.lst v1) l2 = none := by rw [upd_ne (Ne.symm n12), upd_ne (Ne.symm n02)]; exact g2
  have k3 : upd (upd (upd G l0 (.lst v0)) l1 (.lst v1)) l2 (.lst v2) l3 = none := by rw [upd_ne (Ne.symm n23), upd_ne (Ne.symm n13), upd_ne (Ne.symm n03)]; exact g3
  have k4 : upd (upd (upd (upd G l0 (.lst v0)) l1 (.lst v1)) l2 (.lst v2)) l3 (.lst v3) lo = none := by rw [upd_ne n43, upd_ne n42, upd_ne n41, upd_ne n40]; exact gl
  have x2 : Nx G0 H0 G' H := ((((x.freeze b0 g0 h0).freeze b1 k1 h1).freeze b2 k2 h2).freeze b3 k3 h3).freeze bl k4 hl
  have up : Ex G G' := ((((Ex.upd g0).trans (Ex.upd k1)).trans (Ex.upd k2)).trans (Ex.upd k3)).trans (Ex.upd k4)
  have q0 : G' l0 = some (.lst v0) := by show upd _ _ _ _ = _; rw [upd_ne (Ne.symm n40), upd_ne n03, upd_ne n02, upd_ne n01, upd_same]
  have q1 : G' l1 = some (.lst v1) := by show upd _ _ _ _ = _; rw [upd_ne (Ne.symm n41), upd_ne n13, upd_ne n12, upd_same]
  have q2 : G' l2 = some (.lst v2) := by show upd _ _ _ _ = _; rw [upd_ne (Ne.symm n42), upd_ne n23, upd_same]
  have q3 : G' l3 = some (.lst v3) := by show upd _ _ _ _ = _; rw [upd_ne (Ne.symm n43), upd_same]
  have q4 : G' lo = some (.lst [.ref l0, .ref l1, .ref l2, .ref l3]) := upd_same
  have apart : ∀ {a : Addr}, a ≠ lo → a ≠ l0 → a ≠ l1 → a ≠ l2 → a ≠ l3 → G' a = G a := fun h4 h0 h1 h2 h3 => by show upd _ _ _ _ = _; rw [upd_ne h4, upd_ne h3, upd_ne h2, upd_ne h1, upd_ne h0]
  refine t G0 H0 D W σ G' H tk x2 ⟨x2.s, by rw [List.length_set]; exact r.len, fun j sv q => ?_, fun i j l ds es h1 h2 h3 h4 => ?_, r.pins.sub (fun j es q => ?_) fun j p' cells' q => ?_⟩ kk
  · rcases set_get q with ⟨rfl, rfl, _⟩ | ⟨hne, q⟩
    · exact ⟨_, es, .lst (SqL.of q4) (.cons (.lst (SqL.of q0) (dpa_ex up t0)) (.cons (.lst (SqL.of q1) (dpa_ex up t1)) (.cons (.lst (SqL.of q2) (dpa_ex up t2)) (.cons (.lst (SqL.of q3) (dpa_ex up t3)) .nil))))⟩
    · have s := r.sl j sv q
      cases sv with
      | dat d => obtain ⟨v, ev, tv⟩ := s; exact ⟨v, ev, dp_ex up tv⟩
      | obj phi mm => obtain ⟨a, ev, tv⟩ := s; exact ⟨a, ev, mm _ _ _ up tv⟩
      | unk => trivial
      | own dd =>
        obtain ⟨a, u2, s1, s2, s3, s4, s5⟩ := s
        have n := r.pins.1 j k a dd _ _ q hk s1
        simp only [List.map_cons, List.map_nil, List.mem_cons, List.not_mem_nil, or_false, not_or] at n
        exact ⟨a, u2, s1, s2, by rw [apart n.1 n.2.1 n.2.2.1 n.2.2.2.1 n.2.2.2.2]; exact s3, s4, dpa_ex up s5⟩
      | pin p2 cells2 =>
        refine ⟨s.1, s.2.1, fun c hm => ?_⟩
        obtain ⟨s2, s3, z⟩ := s.2.2 c hm
        have n : c.1 ∉ [lo, l0, l1, l2, l3] := fun y => hne (r.pins.2 k j _ _ p2 cells2 c.1 hk q y (List.mem_map_of_mem hm))
        simp only [List.mem_cons, List.not_mem_nil, or_false, not_or] at n
        refine ⟨by rw [apart n.1 n.2.1 n.2.2.1 n.2.2.2.1 n.2.2.2.2]; exact s2, s3, ?_⟩
        cases hc2 : c.2 with
        | ds l2 =>
          rw [hc2] at z
          obtain ⟨vs, hv, t⟩ := z
          exact ⟨vs, hv, dpa_ex up t⟩
        | rf l2 => rw [hc2] at z; exact z
  · rcases set_get h1 with ⟨_, z, _⟩ | ⟨_, h1⟩
    · cases z
    · rcases set_get h2 with ⟨_, z, _⟩ | ⟨_, h2⟩
      · cases z
      · exact r.sep i j l ds es h1 h2 h3 h4
  · rcases set_get q with ⟨_, z, _⟩ | ⟨_, q⟩
    · cases z
    · exact ⟨es, q, rfl⟩
  · rcases set_get q with ⟨_, z, _⟩ | ⟨_, q⟩
    · cases z
    · exact ⟨cells', q, rfl⟩
end
end DL

set_option maxRecDepth 100000
set_option maxHeartbeats 2000000
/-! DT, part 4: lists handed back new; or of lists; an item of an own list set. -/
namespace DL
open PySem PySem.Spec PyProof.Rows L2
section
variable {P : Program} {w : World} {K : PySem.W.Frag} {mg : Str → Option Value} {base : Heap}
def spN (K : PySem.W.Frag) (pre : List PyData → List PyData → Prop) : Sp := fun vs H Q _ => ∃ G ds xs, Ex G H ∧ DpAll K G vs ds ∧ pre ds xs ∧ ∀ p us G' H', Nx G H G' H' → H p = none → G' p = none → H' p = some (.lst us) → DpAll K G' us xs → Q (.ref p) H'
theorem fn_okN {x qual : Str} {st : Stmt} {f : Addr} {fd : FuncData} {N ps : List Str} {k : Nat} {pre : List PyData → List PyData → Prop} (F : Fun K x qual st f fd) (S : FnScope N ps (defScope st)) (hl : ∀ ds xs, pre ds xs → ds.length = ps.length)
    {j : Nat} {y : Str} {p' q1 q2 : Pos} {e1 e2 : Expr} (hst : defBody st = [.Assign [.Name y p'] e1 q1, .Return (some e2) q2])
    (hb : ∀ (cdv : Value) (A : Around) (outer : List Env) (s : Shared) (H : Hp) (E : XK) (hr : Room k (A.deeper (envOfC qual (defScope st) s.heap.objs.size f cdv))) (ds xs : List PyData), pre ds xs →
      (∃ d, EF (defC P w K mg base N qual (defScope st) f cdv A outer s H E k S.nd hr) (entry N ds) e1 d ∧ EN (defC P w K mg base N qual (defScope st) f cdv A outer s H E k S.nd hr) ((entry N ds).set j (.dat d)) e2 xs) ∧
      N[j]? = some y ∧ Loc ((defC P w K mg base N qual (defScope st) f cdv A outer s H E k S.nd hr).X ()).env.scope y ∧ swapsWith e1 (some (.Name y p')) q1.line ((defC P w K mg base N qual (defScope st) f cdv A outer s H E k S.nd hr).X ()).env = pure false ∧
      (((defC P w K mg base N qual (defScope st) f cdv A outer s H E k S.nd hr).X ()).fn y = true ∨ ((defC P w K mg base N qual (defScope st) f cdv A outer s H E k S.nd hr).X ()).env.scope.names.lookup y = some .local)) : FnOk P w K mg base CX0 (k + 1) f fd ps (spN K pre) := by
  refine F.ok S (fun vs H Q E h => ?_) (fun cdv A outer s H vs Q E hr h => ?_)
  · obtain ⟨G, ds, xs, e, t, hp, _⟩ := h
    rw [dpa_len t]
    exact hl ds xs hp
  · obtain ⟨G, ds, xs, e, t, hp, q⟩ := h
    obtain ⟨⟨d, h1, h2⟩, hN, hx, hs, hf⟩ := hb cdv A outer s H E hr ds xs hp
    rw [hst]
    refine ⟨_, pss_cons (ps_set (i := j) S.nd hN hx (pe_w (C := defC P w K mg base N qual (defScope st) f cdv A outer s H E k S.nd hr) ()) hs hf) (pss_cons (ps_ret (pe_w (C := defC P w K mg base N qual (defScope st) f cdv A outer s H E k S.nd hr) ())) pss_nil), ?_⟩
    exact h1 H _ G H _ (rl_start e t) fun v G1 H1 x1 t1 => h2 H _ G1 H1 _ (((rl_start e t).nx x1).setD (i := j) t1) fun p us G2 H2 x2 a2 b2 c2 t2 => q p us G2 H2 (x1.trans x2) (x1.h.free a2) b2 c2 t2
variable {C : Ctx P w K mg base} {rho : List SV} {e ei a b : Expr} {es : List Expr} {d : PyData} {ds xs ys : List PyData} {pos p p2 : Pos} {rest : List Stmt} {Pt : Post}
theorem en_callN {x : Str} {k : Nat} {ps : List Str} {pre : List PyData → List PyData → Prop} (F : Fn P w K mg base x k ps (spN K pre)) (ha : EA C rho (e :: es) ds) (hp : pre ds xs) (hk : k ≤ C.j) (hg : ∀ i, Gl (C.X i) x) (hdb : (x == ("__debug__" : Str)) = false := by decide)
    (he : ∀ i, starEach (e :: es) (C.X i).env = (false, eval e (C.X i).env) :: starEach es (C.X i).env := by intro _; rfl) (hpl : ∀ i, (backTo pos (starEach es (C.X i).env)).any (·.1) = false := by intro _; rfl) : EN C rho (.Call (.Name x p) (e :: es) [] pos) xs := by
  obtain ⟨f, fd, F, hm, hkp, hb⟩ := F.ex
  refine EN.of (t := tCall (spN K pre) [] E0 (wA C (e :: es))) (fun i => pe_call (C.fn i F) ((C.room i).mono hk) (hg i) (by rw [C.hmg]; exact hm) (by rw [C.hK]; exact hkp) (by rw [C.hK]; exact hb) .nil pass0 (pa_w i) hdb (he i) (hpl i)) fun B σ G H Q q z => ha B σ G H _ q fun vs G1 H1 x1 t1 => ?_
  rw [List.append_nil]
  exact ⟨G1, ds, xs, x1.s, t1, hp, fun p us G2 H2 x2 a2 b2 c2 t2 => z p us G2 H2 (x1.trans x2) (x1.h.free a2) b2 c2 t2⟩
/-- a call that is given a new tub -/
theorem ef_callTub {x : Str} {k m m1 : Nat} {pn : List Str} {pre : List PyData → Nat → Nat → (PyData → Prop) → Prop} (F : Fn P w K mg base x k pn (spM K pre)) (h : EN C rho e xs) (tb : Tb m xs) (hp : pre [] m m1 (fun r => r = d)) (hk : k ≤ C.j) (hg : ∀ i, Gl (C.X i) x) (hdb : (x == ("__debug__" : Str)) = false := by decide)
    (he : ∀ i, starEach (e :: []) (C.X i).env = (false, eval e (C.X i).env) :: starEach [] (C.X i).env := by intro _; rfl) (hpl : ∀ i, (backTo pos (starEach ([] : List Expr) (C.X i).env)).any (·.1) = false := by intro _; rfl) : EF C rho (.Call (.Name x p) [e] [] pos) d := by
  obtain ⟨f, fd, F, hm, hkp, hb⟩ := F.ex
  refine EF.of (t := tCall (spM K pre) [] E0 (tCons (wE C e) tNil)) (fun i => pe_call (C.fn i F) ((C.room i).mono hk) (hg i) (by rw [C.hmg]; exact hm) (by rw [C.hK]; exact hkp) (by rw [C.hK]; exact hb) .nil pass0 (pa_cons (pe_w i) pa_nil (he i)) hdb (he i) (hpl i)) fun B σ G H Q q z => h B σ G H _ q fun p us G1 H1 x1 a1 b1 c1 t1 => ?_
  refine ⟨G1, p, [], xs, us, [], m, m1, _, rfl, x1.s, b1, c1, t1, tb, .nil, hp, fun v d' tub' ws' G' H' hd tb' mv t' tv => ?_⟩
  have hd' : d' = d := hd
  subst hd'
  exact z v G' H' (mv.base x1 a1) tv
/-- a or b, lists -/
theorem en_or (ha : EN C rho a xs) (hb : EN C rho b ys) : EN C rho (.BoolOp .Or [a, b] pos) (if xs = [] then ys else xs) :=
  EN.of (t := tOrT K (wE C a) (wE C b)) (fun i => C.k i (fun k => PE (C.X i) _ (tOrT k _ _)) (pe_orT (pe_w i) (pe_one (pe_w i)))) fun B σ G H Q q z => ha B σ G H _ q fun p vs G1 H1 x1 a1 b1 c1 t1 => by
    refine ⟨!vs.isEmpty, .inl ⟨vs, SqL.of c1, rfl⟩, ?_⟩
    cases t1 with
    | nil => exact iteF (hb B σ G1 H1 _ (q.nx x1) fun p2 us G2 H2 x2 a2 b2 c2 t2 => by
        rw [if_pos rfl] at z
        exact z p2 us G2 H2 (x1.trans x2) (x1.h.free a2) b2 c2 t2)
    | cons h t =>
      rw [if_neg (by simp)] at z
      exact iteT (z p _ G1 H1 x1 a1 b1 c1 (.cons h t))
/-- x[ei] = e, x the def's own -/
theorem ds_ownSet (k j : Nat) {x : Str} {xp sp : Pos} (hk : rho[k]? = some (.own ds)) (h : EF C rho e d) (hi : EF C rho ei (.int (j : Int))) (hj : j < ds.length) (t : DS C rest (rho.set k (.own (ds.set j d))) Pt) (hN : C.N[k]? = some x) (hv : ∀ i, Vis (C.X i).env.scope x) (hd : (x == ("__debug__" : Str)) = false := by decide) (hcd : (x == ("__classdict__" : Str)) = false := by decide)
    (hs : ∀ i, swapsWithSole [.Subscript (.Name x xp) ei sp] e pos.line (C.X i).env = pure false := by intro _; rfl) (hw : ∀ i, swappedStores [.Subscript (.Name x xp) ei sp] e (C.X i).env = pure none := by intro _; rfl)
    (h1 : ∀ i, (assignEach [.Subscript (.Name x xp) ei sp] (C.X i).env).map (·.2) = [assign (.Subscript (.Name x xp) ei sp) (C.X i).env] := by intro _; rfl) 
    (h2 : ∀ i v, assign (.Subscript (.Name x xp) ei sp) (C.X i).env v = (do
      let ov ← holding [v] (eval (.Name x xp) (C.X i).env)
      let iv ← holding [v, ov] (eval ei (C.X i).env)
      standAt sp
      holding [v, ov, iv] (setItem ov iv v)
      release [v, ov, iv] []) := by intro _ _; rfl) : DS C (.Assign [.Subscript (.Name x xp) ei sp] e pos :: rest) rho Pt :=
  DS.cons (t := tAsg (wE C e) (gSub (tVar k) (wE C ei) rSetL)) (fun i => ps_asg (pe_w i) (pg_sub (pe_var (by rw [C.hN]; exact hN) (hv i) hd hcd) (pe_w i) set_list (h2 i)) (hs i) (hw i) (h1 i)) fun G0 H0 D W σ G H tk x r kk => h H0 σ G H _ r fun u G1 H1 x1 tu => by
    have r1 := r.nx x1
    obtain ⟨l, us, e1, e2, e3, e4, e5⟩ := r1.sl k _ hk
    refine ⟨_, e1, hi H0 σ G1 H1 _ r1 fun y G2 H2 x2 ty => ?_⟩
    refine ⟨l, us, (j : Int), j, rfl, dp_int ty, x2.h _ _ e2, ix_nat (by rw [dpa_len e5]; exact hj), ?_⟩
    have gl : G2 l = none := x2.n l (by rw [e2]; exact Option.some_ne_none _) e3
    exact t G0 H0 D W σ G2 _ tk (((x.trans x1).trans x2).wr e4 gl) ((r1.nx x2).wrOwn hk e1 (dpa_set (dp_ex x2.g tu) j (dpa_ex x2.g e5))) kk
end
end DL

set_option maxRecDepth 100000
set_option maxHeartbeats 4000000
namespace Fs
open PySem L2 DL NS
local macro_rules | `(tactic| walk_at "vis") => `(tactic| (intro _; first | exact Or.inl rfl | exact Or.inr (Or.inl rfl) | exact Or.inr (Or.inr rfl)))
local macro_rules | `(tactic| walk_at "loc") => `(tactic| (intro _; first | exact Or.inl rfl | exact Or.inr rfl))
local macro_rules | `(tactic| walk_at "fnl") => `(tactic| (intro _; first | exact Or.inr rfl | exact Or.inl rfl))
local macro_rules | `(tactic| walk_at "len") => `(tactic| (simp only [List.length_append, List.length_map, List.length_nil, List.length_cons]; omega))
local macro_rules | `(tactic| walk_at "blk") => `(tactic| (intro _; kernel_rfl))
section
variable {P : Program} {w : World} {K : PySem.W.Frag} {mg : Str → Option Value} {base : Heap} {f : Addr} {fd : FuncData}


variable {cN cF fI : Addr} {file : Str}
/-! ### draws -/
abbrev n__law_take : List Str := ["_law_tub", "_law_top_to", "_law_once", "_law_odd", "_law_twice", "_law_drawn"]
abbrev s__law_take : Stmt := top 33
theorem sc__law_take : FnScope ["_law_tub", "_law_top_to", "_law_once", "_law_odd", "_law_twice", "_law_drawn"] ["_law_tub", "_law_top_to"] (defScope s__law_take) := ⟨rfl, rfl, rfl, by decide +kernel, rfl, by decide +kernel, by decide +kernel⟩
def preTake (ds : List PyData) (m m' : Nat) (R : PyData → Prop) : Prop := ∃ t : Int, 0 < t ∧ t ≤ 1000 ∧ m < 2 ^ 40 ∧ ds = [.int t] ∧ m' = m + 1 ∧ R = fun d => ∃ j, d = .int j ∧ (0 ≤ j ∧ j < t)
theorem mod_in {a t : Int} (h : 0 < t) : 0 ≤ a % t ∧ a % t < t := ⟨Int.emod_nonneg _ (by omega), Int.emod_lt_of_pos _ h⟩
theorem ok_law_take (F : Fun K "_law_take" "_law_take" s__law_take f fd) (T : Blt mg) : FnOk P w K mg base CX0 1 f fd ["_law_tub", "_law_top_to"] (spM K preTake) :=
  fn_okM F sc__law_take (fun ds m m' R h => by obtain ⟨t, _, _, _, rfl, _⟩ := h; rfl) fun cdv A outer s H E hr ds m m' R hp p tub tb => by
    obtain ⟨t, h0, h1, hm, rfl, rfl, rfl⟩ := hp
    obtain ⟨a, b, c, rfl, ha, hb, hb2, hc, hcm⟩ := tb
    show DS _ _ [tubS p [.int a, .int b, .int c], .dat (.int t), .unk, .unk, .unk, .unk] _
    refine ds_if1 (et_cmp (ec_gt (ef_ixLN 0 (el_tub rfl (by walk_at "vis")) ef_int rfl) ef_int)) (fun _ => ?_) (fun _ => ?_)
    · refine ds_setF 5 (.int (a % t)) ⟨_, (ef_mod (ef_intI T (ef_ixLN 0 (el_tub rfl (by walk_at "vis")) ef_int rfl)) (ef_var 1 rfl rfl (by walk_at "vis")) ?_), rfl⟩ ?_ rfl (by walk_at "loc")
      · exact h0
      show DS _ _ [tubS p [.int a, .int b, .int c], .dat (.int t), .unk, .unk, .unk, .dat (.int (a % t))] _
      refine ds_tubSet 0 (a / t) (ef_div (ef_ixLN 0 (el_tub rfl (by walk_at "vis")) ef_int rfl) (ef_var 1 rfl rfl (by walk_at "vis")) ?_) (show 0 < 3 from by decide) ?_ rfl (by walk_at "vis")
      · exact ⟨h0, by omega⟩
      show DS _ _ [tubS p [.int (a / t), .int b, .int c], .dat (.int t), .unk, .unk, .unk, .dat (.int (a % t))] _
      exact ds_ret (ef_var 5 rfl rfl (by walk_at "vis")) ⟨⟨a % t, rfl, mod_in h0⟩, _, rfl, a / t, b, c, rfl, Int.ediv_nonneg ha (by omega), hb, hb2, hc, by omega⟩
    · refine ds_tubSet 2 (c + 1) (ef_add (ef_ixLN 2 (el_tub rfl (by walk_at "vis")) ef_int rfl) ef_int) (show 2 < 3 from by decide) ?_ rfl (by walk_at "vis")
      show DS _ _ [tubS p [.int a, .int b, .int (c + 1)], .dat (.int t), .unk, .unk, .unk, .unk] _
      refine ds_setF 2 (.int (((b + 48271 * (c + 1)) * (39373 + (c + 1))) % 2147483647)) ⟨_, (ef_mod (ef_intI T (ef_mul (ef_add (ef_ixLN 1 (el_tub rfl (by walk_at "vis")) ef_int rfl) (ef_mul ef_int (ef_ixLN 2 (el_tub rfl (by walk_at "vis")) ef_int rfl) ?_)) (ef_add ef_int (ef_ixLN 2 (el_tub rfl (by walk_at "vis")) ef_int rfl)) ?_)) ef_int ?_), rfl⟩ ?_ rfl (by walk_at "loc")
      · exact .inl ⟨by decide, by decide⟩
      · exact .inr ⟨by omega, by omega⟩
      · decide
      have ho := mod_in (a := (b + 48271 * (c + 1)) * (39373 + (c + 1))) (t := 2147483647) (by decide)
      generalize ((b + 48271 * (c + 1)) * (39373 + (c + 1))) % 2147483647 = o at ho
      show DS _ _ [tubS p [.int a, .int b, .int (c + 1)], .dat (.int t), .dat (.int o), .unk, .unk, .unk] _
      refine ds_setF 3 (.int (o % 40009 + 7)) ⟨_, (ef_add (ef_mod (ef_intI T (ef_var 2 rfl rfl (by walk_at "vis"))) ef_int ?_) ef_int), rfl⟩ ?_ rfl (by walk_at "loc")
      · decide
      have hd := mod_in (a := o) (t := 40009) (by decide)
      generalize o % 40009 = od at hd
      show DS _ _ [tubS p [.int a, .int b, .int (c + 1)], .dat (.int t), .dat (.int o), .dat (.int (od + 7)), .unk, .unk] _
      refine ds_setF 4 (.int (((o + (c + 1) + b / 1000003) * (od + 7)) % 2147483629)) ⟨_, (ef_mod (ef_intI T (ef_mul (ef_add (ef_add (ef_var 2 rfl rfl (by walk_at "vis")) (ef_ixLN 2 (el_tub rfl (by walk_at "vis")) ef_int rfl)) (ef_div (ef_ixLN 1 (el_tub rfl (by walk_at "vis")) ef_int rfl) ef_int ?_)) (ef_var 3 rfl rfl (by walk_at "vis")) ?_)) ef_int ?_), rfl⟩ ?_ rfl (by walk_at "loc")
      · exact ⟨by decide, by decide⟩
      · exact .inr ⟨by omega, by omega⟩
      · decide
      generalize ((o + (c + 1) + b / 1000003) * (od + 7)) % 2147483629 = tw
      show DS _ _ [tubS p [.int a, .int b, .int (c + 1)], .dat (.int t), .dat (.int o), .dat (.int (od + 7)), .dat (.int tw), .unk] _
      refine ds_ret (d := .int (((tw * 48271 + o) % 2147483587 / 64) % t)) (ef_mod (ef_intI T (ef_div (ef_mod (ef_intI T (ef_add (ef_mul (ef_var 4 rfl rfl (by walk_at "vis")) ef_int ?_) (ef_var 2 rfl rfl (by walk_at "vis")))) ef_int ?_) ef_int ?_)) (ef_var 1 rfl rfl (by walk_at "vis")) ?_) ⟨⟨_, rfl, mod_in h0⟩, _, rfl, a, b, c + 1, rfl, ha, hb, hb2, by omega, by omega⟩
      · exact .inr ⟨by decide, by decide⟩
      · decide
      · exact ⟨by decide, by decide⟩
      · exact h0
variable (h__law_take : Fn P w K mg base "_law_take" 1 ["_law_tub", "_law_top_to"] (spM K preTake))
abbrev n__law_of : List Str := ["_law_tub", "_law_few_so"]
abbrev s__law_of : Stmt := top 35
theorem sc__law_of : FnScope ["_law_tub", "_law_few_so"] ["_law_tub", "_law_few_so"] (defScope s__law_of) := ⟨rfl, rfl, rfl, by decide +kernel, rfl, by decide +kernel, by decide +kernel⟩
def preOf (ds : List PyData) (m m' : Nat) (R : PyData → Prop) : Prop := ∃ few : List PyData, 0 < few.length ∧ few.length ≤ 1000 ∧ m < 2 ^ 40 ∧ ds = [.list few] ∧ m' = m + 1 ∧ R = fun d => d ∈ few
include h__law_take in
theorem ok_law_of (F : Fun K "_law_of" "_law_of" s__law_of f fd) (T : Blt mg) : FnOk P w K mg base CX0 2 f fd ["_law_tub", "_law_few_so"] (spM K preOf) :=
  fn_okM F sc__law_of (fun ds m m' R h => by obtain ⟨t, _, _, _, rfl, _⟩ := h; rfl) fun cdv A outer s H E hr ds m m' R hp p tub tb => by
    obtain ⟨few, h0, h1, hm, rfl, rfl, rfl⟩ := hp
    show DS _ _ [tubS p tub, .dat (.list few)] _
    exact ds_retM (em_ix (fun p tub _ => (ef_var 1 rfl rfl (by walk_at "vis"))) (em_call h__law_take (fun p tub _ => (ea_cons (ef_len T (EF.l (ef_var 1 rfl rfl (by walk_at "vis")))) ea_nil)) ⟨(few.length : Int), by omega, by omega, hm, rfl, rfl, rfl⟩ (Nat.le_of_ble_eq_true rfl) rfl (by walk_at "vis") (by intro _; rfl)) (fun j hj => hj)) tb (fun d tub' hd tb' => ⟨hd, tub', rfl, tb'⟩)
variable (h__law_of : Fn P w K mg base "_law_of" 2 ["_law_tub", "_law_few_so"] (spM K preOf))
end
end Fs

set_option maxRecDepth 100000
set_option maxHeartbeats 4000000
namespace Fs
open PySem L2 DL NS
local macro_rules | `(tactic| walk_at "vis") => `(tactic| (intro _; first | exact Or.inl rfl | exact Or.inr (Or.inl rfl) | exact Or.inr (Or.inr rfl)))
local macro_rules | `(tactic| walk_at "loc") => `(tactic| (intro _; first | exact Or.inl rfl | exact Or.inr rfl))
local macro_rules | `(tactic| walk_at "fnl") => `(tactic| (intro _; first | exact Or.inr rfl | exact Or.inl rfl))
local macro_rules | `(tactic| walk_at "len") => `(tactic| (simp only [List.length_append, List.length_map, List.length_nil, List.length_cons]; omega))
local macro_rules | `(tactic| walk_at "blk") => `(tactic| (intro _; kernel_rfl))
section
variable {P : Program} {w : World} {K : PySem.W.Frag} {mg : Str → Option Value} {base : Heap} {f : Addr} {fd : FuncData}


variable {cN cF fI : Addr} {file : Str}
variable (h__law_take : Fn P w K mg base "_law_take" 1 ["_law_tub", "_law_top_to"] (spM K preTake))
variable (h__law_of : Fn P w K mg base "_law_of" 2 ["_law_tub", "_law_few_so"] (spM K preOf))
/-! ### drawn parts -/
/-- a step among the first n standings with one of these calls or none -/
def StIn (ts ms : List Str) (n : Int) (s : Stp) : Prop := (0 ≤ s.1 ∧ s.1 < n) ∧ (s.2.1 ∈ ts ++ ms ++ [("" : Str)]) ∧ (0 ≤ s.2.2 ∧ s.2.2 < n)
/-- a drawn part with these calls -/
def Drawn (ts ms : List Str) (p : Part) : Prop := p.takes = ts ∧ p.makes = ms ∧ 1 ≤ p.many ∧ p.many ≤ 4 ∧ ∃ l : List Stp, l.length ≤ 11 ∧ (∀ s ∈ l, StIn ts ms p.many s) ∧ p.steps = sortE eStp (firsts l)
abbrev n__law_part : List Str := ["_law_tub", "_law_takes_so", "_law_makes_so", "_law_many_so", "_law_lap", "_law_wide_so", "_law_found", "_law_tag"]
abbrev s__law_part : Stmt := top 39
theorem sc__law_part : FnScope ["_law_tub", "_law_takes_so", "_law_makes_so", "_law_many_so", "_law_lap", "_law_wide_so", "_law_found", "_law_tag"] ["_law_tub", "_law_takes_so", "_law_makes_so", "_law_many_so"] (defScope s__law_part) := ⟨rfl, rfl, rfl, by decide +kernel, rfl, by decide +kernel, by decide +kernel⟩
def prePt (ds : List PyData) (m m' : Nat) (R : PyData → Prop) : Prop := ∃ (ts ms : List Str) (n : Int), ts.length ≤ 5 ∧ ms.length ≤ 5 ∧ 0 < n ∧ n ≤ 4 ∧ m < 2 ^ 39 ∧ ds = [.list (ts.map .str), .list (ms.map .str), .int n] ∧ m' = m + 40 ∧ R = fun d => ∃ p : Part, d = ePart p ∧ Drawn ts ms p
abbrev slPt (p : Addr) (tub : List PyData) (ts ms : List Str) (n : Int) (s4 : SV) (j : Int) (l : List Stp) (s7 : SV) : List SV := [tubS p tub, .dat (.list (ts.map .str)), .dat (.list (ms.map .str)), .dat (.int n), s4, .dat (.int (1 + j)), .own (l.map eStp), s7]
include h__law_take h__law_of in
theorem ok_law_part (F : Fun K "_law_part" "_law_part" s__law_part f fd) (T : Blt mg) : FnOk P w K mg base CX0 3 f fd ["_law_tub", "_law_takes_so", "_law_makes_so", "_law_many_so"] (spM K prePt) :=
  fn_okM F sc__law_part (fun ds m m' R h => by obtain ⟨_, _, _, _, _, _, _, _, rfl, _⟩ := h; rfl) fun cdv A outer s H E hr ds m m' R hp p tub tb => by
    obtain ⟨ts, ms, n, ht, hms, h0, h1, hm, rfl, rfl, rfl⟩ := hp
    show DS _ _ [tubS p tub, .dat (.list (ts.map .str)), .dat (.list (ms.map .str)), .dat (.int n), .unk, .unk, .unk, .unk] _
    refine ds_parM 4 5 (em_add (fun p tub _ => ef_int) (em_call h__law_take (fun p tub _ => (ea_cons (ef_var 3 rfl rfl (by walk_at "vis")) ea_nil)) ⟨n, h0, by omega, by omega, rfl, rfl, rfl⟩ (Nat.le_of_ble_eq_true rfl) rfl (by walk_at "vis") (by intro _; rfl))) tb (fun tub' _ => EN.v (en_lst ea_nil)) (fun d tub1 hd tb1 => ?_) rfl rfl (by decide) (by intro _; rfl) (by intro _; rfl) (by intro _; rfl)
    obtain ⟨j, rfl, hj0, hj1⟩ := hd
    show DS _ _ (slPt p tub1 ts ms n .unk j [] .unk) _
    refine ds_forM (eim_range T (em_call h__law_take (fun p tub _ => (ea_cons ef_int ea_nil)) ⟨12, by decide, by decide, by omega, rfl, rfl, rfl⟩ (Nat.le_of_ble_eq_true rfl) rfl (by walk_at "vis") (by intro _; rfl)) (fun j hj => ⟨hj.1, by omega⟩)) tb1
      (fun xs i rho => ∃ tub' l s4 s7, rho = slPt p tub' ts ms n s4 j l s7 ∧ Tb (m + 2 + 3 * i) tub' ∧ l.length = i ∧ ∀ s ∈ l, StIn ts ms (1 + j) s) (fun xs tub' _ tb' => ⟨tub', [], _, _, rfl, tb', rfl, fun s hs => by cases hs⟩) ?_ ?_ (fun _ => PassesOwn.never)
    · rintro xs i x rho ⟨jj, hjj, rfl⟩ hx ⟨tub', l, s4, s7, rfl, tb', hll, hl⟩
      obtain ⟨hi, rfl⟩ := rangeD_get hx
      refine ⟨_, [4], (eg_name 4 rfl (by decide) (by walk_at "loc") (by walk_at "fnl")), ?_⟩
      show DS _ _ (slPt p tub' ts ms n (.dat (.int (i : Int))) j l s7) _
      have hi12 : i < 12 := by omega
      refine ds_setM 6 (em_call h__law_of (fun p tub _ => (ea_cons (EN.f (en_catL (EN.l (en_catL (EN.l (en_list T (EF.l (ef_var 1 rfl rfl (by walk_at "vis"))))) (EN.l (en_list T (EF.l (ef_var 2 rfl rfl (by walk_at "vis"))))) ?_)) (EN.l (en_lst (ea_cons ef_str ea_nil))) ?_)) ea_nil)) ⟨ts.map .str ++ ms.map .str ++ [.str ("" : Str)], by simp; omega, by simp; omega, by omega, rfl, rfl, rfl⟩ (Nat.le_of_ble_eq_true rfl) rfl (by walk_at "vis") (by intro _; rfl)) tb' (fun d tub2 hd tb2 => ?_) rfl (by walk_at "loc")
      · rw [List.length_map, List.length_map]; omega
      · simp; omega
      have hd' : ∃ t : Str, d = .str t ∧ t ∈ ts ++ ms ++ [("" : Str)] := by
        have : d ∈ (ts ++ ms ++ [("" : Str)]).map PyData.str := by simpa using hd
        obtain ⟨t, h, rfl⟩ := List.mem_map.mp this
        exact ⟨t, rfl, h⟩
      obtain ⟨t, rfl, ht2⟩ := hd'
      show DS _ _ (slPt p tub2 ts ms n (.dat (.int (i : Int))) j l (.dat (.str t))) _
      refine ds_appendM 5 rfl (em_tup (ema_cons (em_call h__law_take (fun p tub _ => (ea_cons (ef_var 5 rfl rfl (by walk_at "vis")) ea_nil)) ⟨1 + j, by omega, by omega, by omega, rfl, rfl, rfl⟩ (Nat.le_of_ble_eq_true rfl) rfl (by walk_at "vis") (by intro _; rfl)) (ema_cons (em_f (R := fun d => d = .str t) (fun p tub _ => ⟨_, rfl, (ef_var 7 rfl rfl (by walk_at "vis"))⟩)) (ema_cons (em_call h__law_take (fun p tub _ => (ea_cons (ef_var 5 rfl rfl (by walk_at "vis")) ea_nil)) ⟨1 + j, by omega, by omega, by omega, rfl, rfl, rfl⟩ (Nat.le_of_ble_eq_true rfl) rfl (by walk_at "vis") (by intro _; rfl)) ema_nil)))
        (fun ds h => by obtain ⟨_, _, _, ⟨_, _, _, ⟨_, _, _, rfl, rfl⟩, rfl⟩, rfl⟩ := h; exact (by decide : 3 ≤ 100000))) tb2 (by rw [List.length_map]; omega) (fun d tub3 hd tb3 => ?_) rfl (by walk_at "vis")
      obtain ⟨_, ⟨_, _, ⟨j1, rfl, hj1⟩, ⟨_, _, rfl, ⟨_, _, ⟨j3, rfl, hj3⟩, rfl, rfl⟩, rfl⟩, rfl⟩, rfl⟩ := hd
      refine ds_nil ⟨tub3, l ++ [(j1, t, j3)], .dat (.int (i : Int)), .dat (.str t), ?_, tb3.mono (by omega), by rw [List.length_append, hll]; rfl, fun s hs => ?_⟩
      · simp only [slPt, List.map_append]
        rfl
      · rcases List.mem_append.mp hs with hs | hs
        · exact hl s hs
        · rw [List.mem_singleton] at hs
          subst hs
          exact ⟨hj1, ht2, hj3⟩
    · rintro xs rho ⟨jj, hjj, rfl⟩ ⟨tub', l, s4, s7, rfl, tb', hll, hl⟩
      rw [rangeD_len] at hll tb'
      have hl11 : l.length ≤ 11 := by omega
      refine ds_ret (ef_tup (ea_cons (ef_tupleL T (EF.l (ef_var 1 rfl rfl (by walk_at "vis")))) (ea_cons (ef_tupleL T (EF.l (ef_var 2 rfl rfl (by walk_at "vis")))) (ea_cons (ef_var 5 rfl rfl (by walk_at "vis")) (ea_cons (ef_tupleL T (EN.l (en_ss told_stp kd_stp srt_stps T (el_own 6 rfl rfl (by walk_at "vis")) ?_))) ea_nil))))) ⟨⟨⟨ts, ms, 1 + j, sortE eStp (firsts l)⟩, rfl, rfl, rfl, ?_, ?_, l, hl11, hl, rfl⟩, tub', rfl, tb'.mono (by omega)⟩
      · exact ⟨l, by omega, fun x hx => hx⟩
      · show 1 ≤ 1 + j
        omega
      · show 1 + j ≤ 4
        omega
variable (h__law_part : Fn P w K mg base "_law_part" 3 ["_law_tub", "_law_takes_so", "_law_makes_so", "_law_many_so"] (spM K prePt))
end
end Fs

set_option maxRecDepth 100000
set_option maxHeartbeats 4000000
namespace Fs
open PySem L2 DL NS
local macro_rules | `(tactic| walk_at "vis") => `(tactic| (intro _; first | exact Or.inl rfl | exact Or.inr (Or.inl rfl) | exact Or.inr (Or.inr rfl)))
local macro_rules | `(tactic| walk_at "loc") => `(tactic| (intro _; first | exact Or.inl rfl | exact Or.inr rfl))
local macro_rules | `(tactic| walk_at "fnl") => `(tactic| (intro _; first | exact Or.inr rfl | exact Or.inl rfl))
local macro_rules | `(tactic| walk_at "len") => `(tactic| (simp only [List.length_append, List.length_map, List.length_nil, List.length_cons]; omega))
local macro_rules | `(tactic| walk_at "blk") => `(tactic| (intro _; kernel_rfl))
section
variable {P : Program} {w : World} {K : PySem.W.Frag} {mg : Str → Option Value} {base : Heap} {f : Addr} {fd : FuncData}


variable {cN cF fI : Addr} {file : Str}

variable (h__law_take : Fn P w K mg base "_law_take" 1 ["_law_tub", "_law_top_to"] (spM K preTake))
variable (h__law_part : Fn P w K mg base "_law_part" 3 ["_law_tub", "_law_takes_so", "_law_makes_so", "_law_many_so"] (spM K prePt))
/-! ### two drawn parts -/
abbrev tagL : List Str := ["ask", "b", "go", "ok", "x"]
/-- four lists out of T: the first and the second apart, the third and the fourth, the first and the third, the second and the fourth -/
structure Four (T s0 s1 s2 s3 : List Str) : Prop where
  b0 : s0.Sublist T
  b1 : s1.Sublist T
  b2 : s2.Sublist T
  b3 : s3.Sublist T
  n01 : ∀ x ∈ s0, x ∉ s1
  n23 : ∀ x ∈ s2, x ∉ s3
  n02 : ∀ x ∈ s0, x ∉ s2
  n13 : ∀ x ∈ s1, x ∉ s3
theorem app_apart {t : Str} {T a b : List Str} (ha : a.Sublist T) (hb : b.Sublist T) (ht : t ∉ T) (h : ∀ x ∈ a, x ∉ b) : (∀ x ∈ a ++ [t], x ∉ b) ∧ (∀ x ∈ a, x ∉ b ++ [t]) := by
  refine ⟨fun x hx hb' => ?_, fun x hx hb' => ?_⟩
  · rcases List.mem_append.mp hx with hx | hx
    · exact h x hx hb'
    · rw [List.mem_singleton] at hx
      subst hx
      exact ht (hb.subset hb')
  · rcases List.mem_append.mp hb' with hb' | hb'
    · exact h x hx hb'
    · rw [List.mem_singleton] at hb'
      subst hb'
      exact ht (ha.subset hx)
section
variable {T s0 s1 s2 s3 : List Str} {t : Str}
theorem sub_app {a T : List Str} {t : Str} (h : a.Sublist T) : (a ++ [t]).Sublist (T ++ [t]) := h.append_right _
theorem sub_keep {a T : List Str} {t : Str} (h : a.Sublist T) : a.Sublist (T ++ [t]) := h.trans (List.sublist_append_left _ _)
theorem Four.one0 (f : Four T s0 s1 s2 s3) (h : t ∉ T) : Four (T ++ [t]) (s0 ++ [t]) s1 s2 s3 := ⟨sub_app f.b0, sub_keep f.b1, sub_keep f.b2, sub_keep f.b3, (app_apart f.b0 f.b1 h f.n01).1, f.n23, (app_apart f.b0 f.b2 h f.n02).1, f.n13⟩
theorem Four.one1 (f : Four T s0 s1 s2 s3) (h : t ∉ T) : Four (T ++ [t]) s0 (s1 ++ [t]) s2 s3 := ⟨sub_keep f.b0, sub_app f.b1, sub_keep f.b2, sub_keep f.b3, (app_apart f.b0 f.b1 h f.n01).2, f.n23, f.n02, (app_apart f.b1 f.b3 h f.n13).1⟩
theorem Four.one2 (f : Four T s0 s1 s2 s3) (h : t ∉ T) : Four (T ++ [t]) s0 s1 (s2 ++ [t]) s3 := ⟨sub_keep f.b0, sub_keep f.b1, sub_app f.b2, sub_keep f.b3, f.n01, (app_apart f.b2 f.b3 h f.n23).1, (app_apart f.b0 f.b2 h f.n02).2, f.n13⟩
theorem Four.one3 (f : Four T s0 s1 s2 s3) (h : t ∉ T) : Four (T ++ [t]) s0 s1 s2 (s3 ++ [t]) := ⟨sub_keep f.b0, sub_keep f.b1, sub_keep f.b2, sub_app f.b3, f.n01, (app_apart f.b2 f.b3 h f.n23).2, f.n02, (app_apart f.b1 f.b3 h f.n13).2⟩
theorem Four.both03 (f : Four T s0 s1 s2 s3) (h : t ∉ T) : Four (T ++ [t]) (s0 ++ [t]) s1 s2 (s3 ++ [t]) := ⟨sub_app f.b0, sub_keep f.b1, sub_keep f.b2, sub_app f.b3, (app_apart f.b0 f.b1 h f.n01).1, (app_apart f.b2 f.b3 h f.n23).2, (app_apart f.b0 f.b2 h f.n02).1, (app_apart f.b1 f.b3 h f.n13).2⟩
theorem Four.both12 (f : Four T s0 s1 s2 s3) (h : t ∉ T) : Four (T ++ [t]) s0 (s1 ++ [t]) (s2 ++ [t]) s3 := ⟨sub_keep f.b0, sub_app f.b1, sub_app f.b2, sub_keep f.b3, (app_apart f.b0 f.b1 h f.n01).2, (app_apart f.b2 f.b3 h f.n23).1, (app_apart f.b0 f.b2 h f.n02).2, (app_apart f.b1 f.b3 h f.n13).1⟩
end
/-- two drawn parts -/
def Pair2 (p q : Part) : Prop := ∃ s0 s1 s2 s3, Four tagL s0 s1 s2 s3 ∧ Drawn s0 s1 p ∧ Drawn s2 s3 q
abbrev n__law_two : List Str := ["_law_tub", "_law_many_so", "_law_names_so", "_law_tag", "_law_k"]
abbrev s__law_two : Stmt := top 40
theorem sc__law_two : FnScope ["_law_tub", "_law_many_so", "_law_names_so", "_law_tag", "_law_k"] ["_law_tub", "_law_many_so"] (defScope s__law_two) := ⟨rfl, rfl, rfl, by decide +kernel, rfl, by decide +kernel, by decide +kernel⟩
def preTwo (ds : List PyData) (m m' : Nat) (R : PyData → Prop) : Prop := m < 2 ^ 38 ∧ ds = [.int 4] ∧ m' = m + 100 ∧ R = fun d => ∃ p q : Part, d = .tuple [ePart p, ePart q] ∧ Pair2 p q
abbrev slTw (p : Addr) (tub : List PyData) (lo l0 l1 l2 l3 : Addr) (d0 d1 d2 d3 : List PyData) (s3 s4 : SV) : List SV := [tubS p tub, .dat (.int 4), nestS lo l0 l1 l2 l3 d0 d1 d2 d3, s3, s4]
def Iv (m : Nat) (lo l0 l1 l2 l3 p : Addr) (i : Nat) (rho : List SV) : Prop := ∃ tub s0 s1 s2 s3 v3 v4, rho = slTw p tub lo l0 l1 l2 l3 (s0.map .str) (s1.map .str) (s2.map .str) (s3.map .str) v3 v4 ∧ DL.Tb (m + 1 + i) tub ∧ Four (tagL.take i) s0 s1 s2 s3
theorem cut_get {α : Type} {xs : List α} {j : Int} {i : Nat} {x : α} (h : (cutD xs none (some j))[i]? = some x) : xs[i]? = some x := by
  unfold cutD at h
  have h0 : HT.sIx xs.length 0 none = 0 := rfl
  rw [h0, List.drop_zero] at h
  rw [List.getElem?_take] at h
  split at h
  · exact h
  · cases h
theorem tag_len {T s : List Str} (h : s.Sublist T) (hT : T.length ≤ 5) : s.length ≤ 5 := Nat.le_trans h.length_le hT
include h__law_take h__law_part in
theorem ok_law_two (F : Fun K "_law_two" "_law_two" s__law_two f fd) (T : Blt mg) : FnOk P w K mg base CX0 4 f fd ["_law_tub", "_law_many_so"] (spM K preTwo) :=
  fn_okM F sc__law_two (fun ds m m' R h => by obtain ⟨_, rfl, _⟩ := h; rfl) fun cdv A outer s H E hr ds m m' R hp p tub tb => by
    obtain ⟨hm, rfl, rfl, rfl⟩ := hp
    show DS _ _ [tubS p tub, .dat (.int 4), .unk, .unk, .unk] _
    refine ds_nest4 2 (en_lst ea_nil) (en_lst ea_nil) (en_lst ea_nil) (en_lst ea_nil) (fun lo l0 l1 l2 l3 => ?_) rfl (by walk_at "loc")
    show DS _ _ (slTw p tub lo l0 l1 l2 l3 [] [] [] [] .unk .unk) _
    refine ds_forM (eim_slice (ds := tagL.map .str) (fun p tub _ => (EN.f (en_lst (ea_cons ef_str (ea_cons ef_str (ea_cons ef_str (ea_cons ef_str (ea_cons ef_str ea_nil)))))))) (EM.imp (R2 := fun d => ∃ j, d = .int j ∧ (1 ≤ j ∧ j ≤ 5)) (em_add (fun p tub _ => ef_int) (em_call h__law_take (fun p tub _ => (ea_cons ef_int ea_nil)) ⟨5, by decide, by decide, by omega, rfl, rfl, rfl⟩ (Nat.le_of_ble_eq_true rfl) rfl (by walk_at "vis") (by intro _; rfl))) (fun d h => by obtain ⟨j, rfl, h⟩ := h; exact ⟨1 + j, rfl, by omega, by omega⟩) (Nat.le_refl _))) tb
      (fun xs i rho => i ≤ 5 ∧ Iv m lo l0 l1 l2 l3 p i rho) (fun xs tub' _ tb' => ⟨by omega, tub', [], [], [], [], _, _, rfl, tb', ⟨.slnil, .slnil, .slnil, .slnil, fun _ h => (by cases h), fun _ h => (by cases h), fun _ h => (by cases h), fun _ h => (by cases h)⟩⟩) ?_ ?_ (fun _ => PassesOwn.never)
    · rintro xs i x rho ⟨jj, hjj, rfl⟩ hx ⟨hi5, tub', s0, s1, s2, s3, v3, v4, rfl, tb', n4⟩
      obtain ⟨t, hti, rfl⟩ : ∃ t, tagL[i]? = some t ∧ x = .str t := by
        have hx' : (tagL.map PyData.str)[i]? = some x := cut_get hx
        rw [List.getElem?_map] at hx'
        cases q : tagL[i]? with
        | none => rw [q] at hx'; cases hx'
        | some t => rw [q] at hx'; exact ⟨t, rfl, (Option.some.inj hx').symm⟩
      have hi : i < 5 := (List.getElem?_eq_some_iff.mp hti).1
      have htk : tagL.take (i + 1) = tagL.take i ++ [t] := take_succ_get hti
      have hnt : t ∉ tagL.take i := fun h => by
        have nd : (tagL.take i ++ [t]).Nodup := by rw [← htk]; exact List.Nodup.sublist (List.take_sublist _ _) (by decide)
        exact (List.nodup_append.mp nd).2.2 t h t (List.mem_singleton.mpr rfl) rfl
      have hT5 : (tagL.take i).length ≤ 5 := Nat.le_trans (List.length_take_le _ _) (by omega)
      have c0 := tag_len n4.b0 hT5
      have c1 := tag_len n4.b1 hT5
      have c2 := tag_len n4.b2 hT5
      have c3 := tag_len n4.b3 hT5
      refine ⟨_, [3], (eg_name 3 rfl (by decide) (by walk_at "loc") (by walk_at "fnl")), ?_⟩
      show DS _ _ (slTw p tub' lo l0 l1 l2 l3 (s0.map .str) (s1.map .str) (s2.map .str) (s3.map .str) (.dat (.str t)) v4) _
      refine ds_setM 3 (em_call h__law_take (fun p tub _ => (ea_cons ef_int ea_nil)) ⟨8, by decide, by decide, by omega, rfl, rfl, rfl⟩ (Nat.le_of_ble_eq_true rfl) rfl (by walk_at "vis") (by intro _; rfl)) tb' (fun d tub2 hd tb2 => ?_) rfl (by walk_at "loc")
      obtain ⟨k, rfl, hk0, hk8⟩ := hd
      show DS _ _ (slTw p tub2 lo l0 l1 l2 l3 (s0.map .str) (s1.map .str) (s2.map .str) (s3.map .str) (.dat (.str t)) (.dat (.int k))) _
      have hk : k = 0 ∨ k = 1 ∨ k = 2 ∨ k = 3 ∨ k = 4 ∨ k = 5 ∨ k = 6 ∨ k = 7 := by omega
      refine DS.imp (Pu := { nx := Iv m lo l0 l1 l2 l3 p (i + 1) }) ?_ (fun r h => ⟨by omega, h⟩) (fun _ _ h => h.elim) (fun _ h => h.elim) (fun _ h => h.elim) (fun _ _ h => h.elim)
      rcases hk with rfl | rfl | rfl | rfl | rfl | rfl | rfl | rfl
      · -- 0
        refine ds_nestApp 2 0 rfl rfl rfl rfl (EF.is (ef_mod (ef_var 4 rfl rfl (by walk_at "vis")) ef_int ?_) rfl) (ef_var 3 rfl rfl (by walk_at "vis")) (by rw [List.length_map]; omega) ?_ rfl (by walk_at "vis")
        · decide
        show DS _ _ (slTw p tub2 lo l0 l1 l2 l3 (s0.map .str ++ [.str t]) (s1.map .str) (s2.map .str) (s3.map .str) (.dat (.str t)) (.dat (.int 0))) _
        refine ds_ifV true (Iv m lo l0 l1 l2 l3 p (i + 1)) ⟨_, (et_cmp (ec_lt (ef_var 4 rfl rfl (by walk_at "vis")) ef_int)), rfl⟩ (fun hk => ?_) (fun hk => ?_) (fun r h => ds_nil h)
        · refine ds_nestApp 2 3 rfl rfl rfl rfl (EF.is (ef_sub ef_int (ef_var 4 rfl rfl (by walk_at "vis"))) rfl) (ef_var 3 rfl rfl (by walk_at "vis")) (by rw [List.length_map]; omega) (ds_nil ⟨tub2, (s0 ++ [t]), s1, s2, (s3 ++ [t]), .dat (.str t), .dat (.int 0), ?_, tb2.mono (by omega), ?_⟩) rfl (by walk_at "vis")
          · simp only [slTw, List.map_append]; rfl
          · rw [htk]; exact n4.both03 hnt
        · cases hk
      · -- 1
        refine ds_nestApp 2 1 rfl rfl rfl rfl (EF.is (ef_mod (ef_var 4 rfl rfl (by walk_at "vis")) ef_int ?_) rfl) (ef_var 3 rfl rfl (by walk_at "vis")) (by rw [List.length_map]; omega) ?_ rfl (by walk_at "vis")
        · decide
        show DS _ _ (slTw p tub2 lo l0 l1 l2 l3 (s0.map .str) (s1.map .str ++ [.str t]) (s2.map .str) (s3.map .str) (.dat (.str t)) (.dat (.int 1))) _
        refine ds_ifV true (Iv m lo l0 l1 l2 l3 p (i + 1)) ⟨_, (et_cmp (ec_lt (ef_var 4 rfl rfl (by walk_at "vis")) ef_int)), rfl⟩ (fun hk => ?_) (fun hk => ?_) (fun r h => ds_nil h)
        · refine ds_nestApp 2 2 rfl rfl rfl rfl (EF.is (ef_sub ef_int (ef_var 4 rfl rfl (by walk_at "vis"))) rfl) (ef_var 3 rfl rfl (by walk_at "vis")) (by rw [List.length_map]; omega) (ds_nil ⟨tub2, s0, (s1 ++ [t]), (s2 ++ [t]), s3, .dat (.str t), .dat (.int 1), ?_, tb2.mono (by omega), ?_⟩) rfl (by walk_at "vis")
          · simp only [slTw, List.map_append]; rfl
          · rw [htk]; exact n4.both12 hnt
        · cases hk
      · -- 2
        refine ds_nestApp 2 2 rfl rfl rfl rfl (EF.is (ef_mod (ef_var 4 rfl rfl (by walk_at "vis")) ef_int ?_) rfl) (ef_var 3 rfl rfl (by walk_at "vis")) (by rw [List.length_map]; omega) ?_ rfl (by walk_at "vis")
        · decide
        show DS _ _ (slTw p tub2 lo l0 l1 l2 l3 (s0.map .str) (s1.map .str) (s2.map .str ++ [.str t]) (s3.map .str) (.dat (.str t)) (.dat (.int 2))) _
        refine ds_ifV true (Iv m lo l0 l1 l2 l3 p (i + 1)) ⟨_, (et_cmp (ec_lt (ef_var 4 rfl rfl (by walk_at "vis")) ef_int)), rfl⟩ (fun hk => ?_) (fun hk => ?_) (fun r h => ds_nil h)
        · refine ds_nestApp 2 1 rfl rfl rfl rfl (EF.is (ef_sub ef_int (ef_var 4 rfl rfl (by walk_at "vis"))) rfl) (ef_var 3 rfl rfl (by walk_at "vis")) (by rw [List.length_map]; omega) (ds_nil ⟨tub2, s0, (s1 ++ [t]), (s2 ++ [t]), s3, .dat (.str t), .dat (.int 2), ?_, tb2.mono (by omega), ?_⟩) rfl (by walk_at "vis")
          · simp only [slTw, List.map_append]; rfl
          · rw [htk]; exact n4.both12 hnt
        · cases hk
      · -- 3
        refine ds_nestApp 2 3 rfl rfl rfl rfl (EF.is (ef_mod (ef_var 4 rfl rfl (by walk_at "vis")) ef_int ?_) rfl) (ef_var 3 rfl rfl (by walk_at "vis")) (by rw [List.length_map]; omega) ?_ rfl (by walk_at "vis")
        · decide
        show DS _ _ (slTw p tub2 lo l0 l1 l2 l3 (s0.map .str) (s1.map .str) (s2.map .str) (s3.map .str ++ [.str t]) (.dat (.str t)) (.dat (.int 3))) _
        refine ds_ifV true (Iv m lo l0 l1 l2 l3 p (i + 1)) ⟨_, (et_cmp (ec_lt (ef_var 4 rfl rfl (by walk_at "vis")) ef_int)), rfl⟩ (fun hk => ?_) (fun hk => ?_) (fun r h => ds_nil h)
        · refine ds_nestApp 2 0 rfl rfl rfl rfl (EF.is (ef_sub ef_int (ef_var 4 rfl rfl (by walk_at "vis"))) rfl) (ef_var 3 rfl rfl (by walk_at "vis")) (by rw [List.length_map]; omega) (ds_nil ⟨tub2, (s0 ++ [t]), s1, s2, (s3 ++ [t]), .dat (.str t), .dat (.int 3), ?_, tb2.mono (by omega), ?_⟩) rfl (by walk_at "vis")
          · simp only [slTw, List.map_append]; rfl
          · rw [htk]; exact n4.both03 hnt
        · cases hk
      · -- 4
        refine ds_nestApp 2 0 rfl rfl rfl rfl (EF.is (ef_mod (ef_var 4 rfl rfl (by walk_at "vis")) ef_int ?_) rfl) (ef_var 3 rfl rfl (by walk_at "vis")) (by rw [List.length_map]; omega) ?_ rfl (by walk_at "vis")
        · decide
        show DS _ _ (slTw p tub2 lo l0 l1 l2 l3 (s0.map .str ++ [.str t]) (s1.map .str) (s2.map .str) (s3.map .str) (.dat (.str t)) (.dat (.int 4))) _
        refine ds_ifV false (Iv m lo l0 l1 l2 l3 p (i + 1)) ⟨_, (et_cmp (ec_lt (ef_var 4 rfl rfl (by walk_at "vis")) ef_int)), rfl⟩ (fun hk => ?_) (fun hk => ?_) (fun r h => ds_nil h)
        · cases hk
        · refine ds_nil ⟨tub2, (s0 ++ [t]), s1, s2, s3, .dat (.str t), .dat (.int 4), ?_, tb2.mono (by omega), ?_⟩
          · simp only [slTw, List.map_append]; rfl
          · rw [htk]; exact n4.one0 hnt
      · -- 5
        refine ds_nestApp 2 1 rfl rfl rfl rfl (EF.is (ef_mod (ef_var 4 rfl rfl (by walk_at "vis")) ef_int ?_) rfl) (ef_var 3 rfl rfl (by walk_at "vis")) (by rw [List.length_map]; omega) ?_ rfl (by walk_at "vis")
        · decide
        show DS _ _ (slTw p tub2 lo l0 l1 l2 l3 (s0.map .str) (s1.map .str ++ [.str t]) (s2.map .str) (s3.map .str) (.dat (.str t)) (.dat (.int 5))) _
        refine ds_ifV false (Iv m lo l0 l1 l2 l3 p (i + 1)) ⟨_, (et_cmp (ec_lt (ef_var 4 rfl rfl (by walk_at "vis")) ef_int)), rfl⟩ (fun hk => ?_) (fun hk => ?_) (fun r h => ds_nil h)
        · cases hk
        · refine ds_nil ⟨tub2, s0, (s1 ++ [t]), s2, s3, .dat (.str t), .dat (.int 5), ?_, tb2.mono (by omega), ?_⟩
          · simp only [slTw, List.map_append]; rfl
          · rw [htk]; exact n4.one1 hnt
      · -- 6
        refine ds_nestApp 2 2 rfl rfl rfl rfl (EF.is (ef_mod (ef_var 4 rfl rfl (by walk_at "vis")) ef_int ?_) rfl) (ef_var 3 rfl rfl (by walk_at "vis")) (by rw [List.length_map]; omega) ?_ rfl (by walk_at "vis")
        · decide
        show DS _ _ (slTw p tub2 lo l0 l1 l2 l3 (s0.map .str) (s1.map .str) (s2.map .str ++ [.str t]) (s3.map .str) (.dat (.str t)) (.dat (.int 6))) _
        refine ds_ifV false (Iv m lo l0 l1 l2 l3 p (i + 1)) ⟨_, (et_cmp (ec_lt (ef_var 4 rfl rfl (by walk_at "vis")) ef_int)), rfl⟩ (fun hk => ?_) (fun hk => ?_) (fun r h => ds_nil h)
        · cases hk
        · refine ds_nil ⟨tub2, s0, s1, (s2 ++ [t]), s3, .dat (.str t), .dat (.int 6), ?_, tb2.mono (by omega), ?_⟩
          · simp only [slTw, List.map_append]; rfl
          · rw [htk]; exact n4.one2 hnt
      · -- 7
        refine ds_nestApp 2 3 rfl rfl rfl rfl (EF.is (ef_mod (ef_var 4 rfl rfl (by walk_at "vis")) ef_int ?_) rfl) (ef_var 3 rfl rfl (by walk_at "vis")) (by rw [List.length_map]; omega) ?_ rfl (by walk_at "vis")
        · decide
        show DS _ _ (slTw p tub2 lo l0 l1 l2 l3 (s0.map .str) (s1.map .str) (s2.map .str) (s3.map .str ++ [.str t]) (.dat (.str t)) (.dat (.int 7))) _
        refine ds_ifV false (Iv m lo l0 l1 l2 l3 p (i + 1)) ⟨_, (et_cmp (ec_lt (ef_var 4 rfl rfl (by walk_at "vis")) ef_int)), rfl⟩ (fun hk => ?_) (fun hk => ?_) (fun r h => ds_nil h)
        · cases hk
        · refine ds_nil ⟨tub2, s0, s1, s2, (s3 ++ [t]), .dat (.str t), .dat (.int 7), ?_, tb2.mono (by omega), ?_⟩
          · simp only [slTw, List.map_append]; rfl
          · rw [htk]; exact n4.one3 hnt
    · rintro xs rho ⟨jj, hjj, rfl⟩ ⟨hi5, tub', s0, s1, s2, s3, v3, v4, rfl, tb', n4⟩
      refine ds_unnest 2 rfl ?_
      show DS _ _ [tubS p tub', .dat (.int 4), .dat (.list [.list (s0.map .str), .list (s1.map .str), .list (s2.map .str), .list (s3.map .str)]), v3, v4] _
      have hT5 : (tagL.take (cutD (tagL.map PyData.str) none (some jj)).length).length ≤ 5 := Nat.le_trans (List.length_take_le _ _) hi5
      have c0 := tag_len n4.b0 hT5
      have c1 := tag_len n4.b1 hT5
      have c2 := tag_len n4.b2 hT5
      have c3 := tag_len n4.b3 hT5
      have n5 : Four tagL s0 s1 s2 s3 := ⟨n4.b0.trans (List.take_sublist _ _), n4.b1.trans (List.take_sublist _ _), n4.b2.trans (List.take_sublist _ _), n4.b3.trans (List.take_sublist _ _), n4.n01, n4.n23, n4.n02, n4.n13⟩
      refine ds_retM (em_tup (ema_cons (em_call h__law_part (fun p tub _ => (ea_cons (ef_ixLN 0 (EF.l (ef_var 2 rfl rfl (by walk_at "vis"))) ef_int rfl) (ea_cons (ef_ixLN 1 (EF.l (ef_var 2 rfl rfl (by walk_at "vis"))) ef_int rfl) (ea_cons (ef_var 1 rfl rfl (by walk_at "vis")) ea_nil)))) ⟨s0, s1, 4, c0, c1, by decide, by decide, by omega, rfl, rfl, rfl⟩ (Nat.le_of_ble_eq_true rfl) rfl (by walk_at "vis") (by intro _; rfl))
        (ema_cons (em_call h__law_part (fun p tub _ => (ea_cons (ef_ixLN 2 (EF.l (ef_var 2 rfl rfl (by walk_at "vis"))) ef_int rfl) (ea_cons (ef_ixLN 3 (EF.l (ef_var 2 rfl rfl (by walk_at "vis"))) ef_int rfl) (ea_cons (ef_var 1 rfl rfl (by walk_at "vis")) ea_nil)))) ⟨s2, s3, 4, c2, c3, by decide, by decide, by omega, rfl, rfl, rfl⟩ (Nat.le_of_ble_eq_true rfl) rfl (by walk_at "vis") (by intro _; rfl)) ema_nil))
        (fun ds h => by obtain ⟨_, _, _, ⟨_, _, _, rfl, rfl⟩, rfl⟩ := h; exact (by decide : 2 ≤ 100000))) tb' (fun d tub2 hd tb2 => ?_)
      obtain ⟨_, ⟨_, _, ⟨p1, rfl, hp1⟩, ⟨_, _, ⟨q1, rfl, hq1⟩, rfl, rfl⟩, rfl⟩, rfl⟩ := hd
      exact ⟨⟨p1, q1, rfl, s0, s1, s2, s3, n5, hp1, hq1⟩, tub2, rfl, tb2.mono (by omega)⟩
end
end Fs

set_option maxRecDepth 100000
set_option maxHeartbeats 4000000
namespace Fs
open PySem L2 DL NS
local macro_rules | `(tactic| walk_at "vis") => `(tactic| (intro _; first | exact Or.inl rfl | exact Or.inr (Or.inl rfl) | exact Or.inr (Or.inr rfl)))
local macro_rules | `(tactic| walk_at "loc") => `(tactic| (intro _; first | exact Or.inl rfl | exact Or.inr rfl))
local macro_rules | `(tactic| walk_at "fnl") => `(tactic| (intro _; first | exact Or.inr rfl | exact Or.inl rfl))
local macro_rules | `(tactic| walk_at "len") => `(tactic| (simp only [List.length_append, List.length_map, List.length_nil, List.length_cons]; omega))
local macro_rules | `(tactic| walk_at "blk") => `(tactic| (intro _; kernel_rfl))
section
variable {P : Program} {w : World} {K : PySem.W.Frag} {mg : Str → Option Value} {base : Heap} {f : Addr} {fd : FuncData}


variable {cN cF fI : Addr} {file : Str}
/-! ### the source of draws, the cells -/
def absI (n : Int) : Int := if n < 0 then -n else n
def boxOf (c : Int) (k : Nat) : List PyData := [.int (absI c * (if (10 : Int) ^ (18 : Int).toNat ≤ absI c then 1 else 0)), .int (c % 2305843009213693951 + 39373 * (k : Int) + 1190523), .int 0]
theorem boxOf_tb (c : Int) (k : Nat) (hk : k ≤ 10) : DL.Tb 0 (boxOf c k) := by
  have h := mod_in (a := c) (t := 2305843009213693951) (by decide)
  refine ⟨_, _, 0, rfl, ?_, by omega, by omega, by decide, by decide⟩
  have h2 : 0 ≤ absI c := by unfold absI; split <;> omega
  split
  · omega
  · omega
theorem bit_rng (b : Bool) : -(2 ^ 64) < (if b = true then (1 : Int) else 0) ∧ (if b = true then (1 : Int) else 0) < 2 ^ 64 := by cases b <;> decide
abbrev n__law_box : List Str := ["_law_script", "_law_k", "_law_cell"]
abbrev s__law_box : Stmt := top 32
theorem sc__law_box : FnScope ["_law_script", "_law_k", "_law_cell"] ["_law_script", "_law_k"] (defScope s__law_box) := ⟨rfl, rfl, rfl, by decide +kernel, rfl, by decide +kernel, by decide +kernel⟩
def preBox (ds : List PyData) (xs : List PyData) : Prop := ∃ (l : List Int) (k : Nat) (c : Int), k ≤ 10 ∧ l[k]? = some c ∧ ds = [.list (l.map .int), .int (k : Int)] ∧ xs = boxOf c k
theorem ok_law_box (F : Fun K "_law_box" "_law_box" s__law_box f fd) (T : Blt mg) : FnOk P w K mg base CX0 1 f fd ["_law_script", "_law_k"] (spN K preBox) :=
  fn_okN (j := 2) F sc__law_box (fun ds xs h => by obtain ⟨_, _, _, _, _, rfl, _⟩ := h; rfl) rfl fun cdv A outer s H E hr ds xs hp => by
    obtain ⟨l, k, c, hk, hc, rfl, rfl⟩ := hp
    have hkl : k < l.length := (List.getElem?_eq_some_iff.mp hc).1
    refine ⟨⟨.int c, ef_if (k := true) (ET.is (et_cmp (ec_lt (ef_var 1 rfl rfl (by walk_at "vis")) (ef_len T (EF.l (ef_var 0 rfl rfl (by walk_at "vis")))))) ?_) (fun _ => (ef_ixLV (.int c) (EF.l (ef_var 0 rfl rfl (by walk_at "vis"))) (ef_var 1 rfl rfl (by walk_at "vis")) ?_)) (fun h => nomatch h), ?_⟩, rfl, (show Loc _ _ from Or.inl rfl), rfl, .inl rfl⟩
    · exact decide_eq_true (by rw [List.length_map]; omega)
    · exact atI_nat (by rw [List.getElem?_map, hc]; rfl)
    refine EN.is (en_lst (ea_cons (ef_mul (ef_abs T (ef_var 2 rfl rfl (by walk_at "vis"))) (ef_intB T (ef_cmp (ec_ge (ef_abs T (ef_var 2 rfl rfl (by walk_at "vis"))) (ef_pow ef_int ef_int ?_)))) ?_) (ea_cons (ef_add (ef_add (ef_mod (ef_intI T (ef_var 2 rfl rfl (by walk_at "vis"))) ef_int ?_) (ef_mul ef_int (ef_var 1 rfl rfl (by walk_at "vis")) ?_)) ef_int) (ea_cons ef_int ea_nil)))) ?_
    · exact ⟨by decide, by decide, by decide⟩
    · exact .inr (bit_rng _)
    · decide
    · exact .inl ⟨by decide, by decide⟩
    · unfold boxOf absI
      simp only [decide_eq_true_eq]
/-! cells -/
def cellStep (acc : List Int) (q : Int × Nat) : List Int := acc.set (q.2 % 2) (acc.getD (q.2 % 2) 0 + q.1 * ((q.2 : Int) + 2))
def cells0 (s : List Int) : List Int := if cutD s none (some 2) = [] then [0] else cutD s none (some 2)
def lawCells (s : List Int) : List Int := (cutD s (some 2) (some 63)).zipIdx.foldl cellStep (cells0 s)
theorem cut_map {α β : Type} (g : α → β) (xs : List α) (lo hi : Option Int) : cutD (xs.map g) lo hi = (cutD xs lo hi).map g := by
  unfold cutD
  rw [List.length_map, List.map_take, List.map_drop]
theorem sIx_pos (n d k : Nat) : HT.sIx n d (some (k : Int)) = min k n := HT.sIx_nat n d k
theorem cut_two (s : List Int) : cutD s none (some 2) = s.take 2 := by
  unfold cutD
  rw [show HT.sIx s.length s.length (some 2) = min 2 s.length from sIx_pos _ _ 2]
  show (s.drop 0).take (min 2 s.length - 0) = _
  rw [List.drop_zero, Nat.sub_zero, Nat.min_def]
  split
  · rfl
  · rw [List.take_of_length_le (by omega), List.take_of_length_le (by omega)]
theorem cut_rest (s : List Int) : (cutD s (some 2) (some 63)).length ≤ s.length - 2 ∧ (cutD s (some 2) (some 63)).length ≤ 63 := by
  unfold cutD
  rw [show HT.sIx s.length 0 (some 2) = min 2 s.length from sIx_pos _ _ 2, show HT.sIx s.length s.length (some 63) = min 63 s.length from sIx_pos _ _ 63, List.length_take, List.length_drop]
  omega
theorem cells0_len (s : List Int) : (cells0 s).length = (if s.length = 0 then 1 else min 2 s.length) := by
  unfold cells0
  rw [cut_two]
  cases s with
  | nil => rfl
  | cons a s => cases s with
    | nil => rfl
    | cons b s => simp
theorem cellStep_len (acc : List Int) (q : Int × Nat) : (cellStep acc q).length = acc.length := by unfold cellStep; rw [List.length_set]
theorem cellFold_len (l : List (Int × Nat)) (acc : List Int) : (l.foldl cellStep acc).length = acc.length := by
  induction l generalizing acc with
  | nil => rfl
  | cons q l ih => rw [List.foldl_cons, ih, cellStep_len]
theorem lawCells_len (s : List Int) : 1 ≤ (lawCells s).length ∧ (lawCells s).length ≤ 2 := by
  unfold lawCells
  rw [cellFold_len, cells0_len]
  split <;> omega
theorem enum_ints (ys : List Int) : enumD (ys.map .int) = ys.zipIdx.map fun q => .tuple [.int (q.2 : Int), .int q.1] := by
  unfold enumD
  rw [List.zipIdx_map, List.map_map]
  rfl
abbrev n__law_cells : List Str := ["_law_script", "_law_most_so", "_law_cells_so", "_law_k", "_law_far_so", "_law_spot_so"]
abbrev s__law_cells : Stmt := top 34
theorem sc__law_cells : FnScope ["_law_script", "_law_most_so", "_law_cells_so", "_law_k", "_law_far_so", "_law_spot_so"] ["_law_script", "_law_most_so"] (defScope s__law_cells) := ⟨rfl, rfl, rfl, by decide +kernel, rfl, by decide +kernel, by decide +kernel⟩
def preCells (ds : List PyData) (r : PyData) : Prop := ∃ s : List Int, s.length ≤ 63 ∧ ds = [.list (s.map .int), .int 2] ∧ r = .list ((lawCells s).map .int)
abbrev slCe' (s : List Int) (acc : List PyData) (a b c : SV) : List SV := [.dat (.list (s.map .int)), .dat (.int 2), .own acc, a, b, c]
abbrev slCe (s : List Int) (acc : List Int) (a b c : SV) : List SV := slCe' s (acc.map .int) a b c
theorem ok_law_cells (F : Fun K "_law_cells" "_law_cells" s__law_cells f fd) (T : Blt mg) : FnOk P w K mg base CX0 1 f fd ["_law_script", "_law_most_so"] (spD K preCells) :=
  fn_ok F sc__law_cells (fun ds d h => by obtain ⟨_, _, rfl, _⟩ := h; rfl) fun cdv A outer s0 H E hr ds d hp => by
    obtain ⟨s, hs, rfl, rfl⟩ := hp
    show DS _ _ [.dat (.list (s.map .int)), .dat (.int 2), .unk, .unk, .unk, .unk] _
    refine ds_setN 2 ((cells0 s).map .int) ⟨_, en_or (en_list T (EN.l (en_slice (EF.l (ef_var 0 rfl rfl (by walk_at "vis"))) ep_none (ep_some (ef_var 1 rfl rfl (by walk_at "vis")))))) (en_lst (ea_cons ef_int ea_nil)), ?_⟩ ?_ rfl (by walk_at "loc")
    · rw [cut_map]
      unfold cells0
      cases cutD s none (some 2) <;> rfl
    have hr2 := cut_rest s
    show DS _ _ (slCe s (cells0 s) .unk .unk .unk) _
    refine ds_for (cutD s (some 2) (some 63)).zipIdx (fun q : Int × Nat => .tuple [.int (q.2 : Int), .int q.1]) (EI.is (ei_enum T (EN.f (en_slice (EF.l (ef_var 0 rfl rfl (by walk_at "vis"))) (ep_some (ef_var 1 rfl rfl (by walk_at "vis"))) (ep_some ef_int)))) (by rw [cut_map, enum_ints])) (fun i rho => ∃ a b c, rho = slCe s (((cutD s (some 2) (some 63)).zipIdx.take i).foldl cellStep (cells0 s)) a b c)
      ⟨_, _, _, rfl⟩ ?_ ?_ (fun _ => PassesOwn.never)
    · rintro i ⟨x, k⟩ rho hx ⟨a, b, c, rfl⟩
      refine ⟨_, [3, 4], (eg_tup (egs_cons (eg_name 3 rfl (by decide) (by walk_at "loc") (by walk_at "fnl")) (egs_cons (eg_name 4 rfl (by decide) (by walk_at "loc") (by walk_at "fnl")) egs_nil))), ?_⟩
      have hlen := (List.getElem?_eq_some_iff.mp hx).1
      rw [List.length_zipIdx] at hlen
      have hk : k = i := by
        rw [List.getElem?_zipIdx] at hx
        cases q : (cutD s (some 2) (some 63))[i]? with
        | none => rw [q] at hx; cases hx
        | some y =>
          rw [q] at hx
          have e := Option.some.inj hx
          have e2 := congrArg Prod.snd e
          simp only at e2
          omega
      subst hk
      have htk := take_succ_get hx
      generalize hacc : ((cutD s (some 2) (some 63)).zipIdx.take k).foldl cellStep (cells0 s) = acc
      have hal : acc.length = 2 := by
        rw [← hacc, cellFold_len, cells0_len, if_neg (by omega)]
        omega
      show DS _ _ (slCe s acc (.dat (.int (k : Int))) (.dat (.int x)) c) _
      refine ds_setF 5 (.int ((k % 2 : Nat) : Int)) ⟨_, (ef_mod (ef_intI T (ef_var 3 rfl rfl (by walk_at "vis"))) (ef_var 1 rfl rfl (by walk_at "vis")) ?_), ?_⟩ ?_ rfl (by walk_at "loc")
      · decide
      · simp
      show DS _ _ (slCe s acc (.dat (.int (k : Int))) (.dat (.int x)) (.dat (.int ((k % 2 : Nat) : Int)))) _
      refine ds_ownSet 2 (k % 2) (d := .int (acc.getD (k % 2) 0 + x * ((k : Int) + 2))) rfl (ef_add (ef_ixLV (.int (acc.getD (k % 2) 0)) (el_own 2 rfl rfl (by walk_at "vis")) (ef_var 5 rfl rfl (by walk_at "vis")) ?_) (ef_mul (ef_var 4 rfl rfl (by walk_at "vis")) (ef_add (ef_var 3 rfl rfl (by walk_at "vis")) ef_int) ?_)) (ef_var 5 rfl rfl (by walk_at "vis")) ?_ (ds_nil ⟨.dat (.int (k : Int)), .dat (.int x), .dat (.int ((k % 2 : Nat) : Int)), ?_⟩) rfl (by walk_at "vis")
      · refine atI_nat ?_
        have hg : acc[k % 2]? = some (acc.getD (k % 2) 0) := by
          rw [List.getD_eq_getElem?_getD, List.getElem?_eq_getElem (by omega)]; rfl
        rw [List.getElem?_map, hg]
        rfl
      · exact .inr ⟨by omega, by omega⟩
      · rw [List.length_map]; omega
      · rw [htk, List.foldl_append, hacc]
        show slCe' s ((acc.map PyData.int).set (k % 2) (.int (acc.getD (k % 2) 0 + x * ((k : Int) + 2)))) _ _ _ = slCe s (cellStep acc (x, k)) _ _ _
        unfold slCe cellStep
        rw [List.map_set]
    · rintro r ⟨a, b, c, rfl⟩
      rw [List.take_of_length_le (Nat.le_refl _)]
      exact ds_retO 2 rfl rfl rfl (by walk_at "vis")
end
end Fs

set_option maxRecDepth 100000
set_option maxHeartbeats 4000000
namespace Fs
open PySem L2 DL NS
local macro_rules | `(tactic| walk_at "vis") => `(tactic| (intro _; first | exact Or.inl rfl | exact Or.inr (Or.inl rfl) | exact Or.inr (Or.inr rfl)))
local macro_rules | `(tactic| walk_at "loc") => `(tactic| (intro _; first | exact Or.inl rfl | exact Or.inr rfl))
local macro_rules | `(tactic| walk_at "fnl") => `(tactic| (intro _; first | exact Or.inr rfl | exact Or.inl rfl))
local macro_rules | `(tactic| walk_at "len") => `(tactic| (simp only [List.length_append, List.length_map, List.length_nil, List.length_cons]; omega))
local macro_rules | `(tactic| walk_at "blk") => `(tactic| (intro _; kernel_rfl))
section
variable {P : Program} {w : World} {K : PySem.W.Frag} {mg : Str → Option Value} {base : Heap} {f : Addr} {fd : FuncData}


variable {cN cF fI : Addr} {file : Str}
/-! ### the same; lists for tuples -/
inductive Ps : Nat → PyData → Prop
  | non {n : Nat} : Ps n .none
  | bool {n : Nat} (b : Bool) : Ps n (.bool b)
  | int {n : Nat} (i : Int) : Ps n (.int i)
  | str {n : Nat} (x : Str) : Ps n (.str x)
  | list {n : Nat} {ds : List PyData} (h : ∀ d ∈ ds, Ps n d) (hl : ds.length ≤ 1000) : Ps (n + 1) (.list ds)
  | tuple {n : Nat} {ds : List PyData} (h : ∀ d ∈ ds, Ps n d) (hl : ds.length ≤ 1000) : Ps (n + 1) (.tuple ds)
theorem zip_self (xs : List PyData) : zipD xs xs = xs.map fun x => .tuple [x, x] := by
  unfold zipD
  rw [List.zipWith_self]
abbrev n__law_same : List Str := ["_law_got", "_law_due", "_law_like", "_law_mine", "_law_its"]
abbrev s__law_same : Stmt := top 36
theorem sc__law_same : FnScope ["_law_got", "_law_due", "_law_like", "_law_mine", "_law_its"] ["_law_got", "_law_due"] (defScope s__law_same) := ⟨rfl, rfl, rfl, by decide +kernel, rfl, by decide +kernel, by decide +kernel⟩
def preSame (n : Nat) (ds : List PyData) (r : PyData) : Prop := ∃ d, Ps n d ∧ ds = [d, d] ∧ r = .bool true
theorem same_flat {cdv : Value} {A : Around} {outer : List Env} {s0 : Shared} {H : Hp} {E : XK} {k : Nat} (T : Blt mg) (hr : Room k (A.deeper (PyProof.Rows.envOfC "_law_same" (defScope s__law_same) s0.heap.objs.size f cdv))) (d : PyData) (h : d = .none ∨ (∃ b, d = .bool b) ∨ (∃ i, d = .int i) ∨ ∃ x, d = .str x) :
    DS (defC P w K mg base n__law_same "_law_same" (defScope s__law_same) f cdv A outer s0 H E k sc__law_same.nd hr) (defBody s__law_same) (entry n__law_same [d, d]) { nx := fun _ => PyData.bool true = .none, rt := fun _ r => r = .bool true } := by
  rcases h with rfl | ⟨b, rfl⟩ | ⟨i, rfl⟩ | ⟨x, rfl⟩
  · -- None
    refine ds_if1V false ⟨_, (et_val (ef_isi2 T (ef_var 1 rfl rfl (by walk_at "vis")) T.list PyProof.Rows.boot_list T.tuple PyProof.Rows.boot_tuple (kit_list _) (kit_tuple _))), rfl⟩ (fun h => nomatch h) fun _ => ?_
    refine ds_if1V true ⟨_, (EW.t (ew_or (et_cmp (ec_isN (ef_var 1 rfl rfl (by walk_at "vis")) ef_non)) (fun _ => (ew_or1 (et_val (ef_isi2 T (ef_var 1 rfl rfl (by walk_at "vis")) T.bool PyProof.Rows.boot_bool T.str PyProof.Rows.boot_str (kit_bool _) (kit_str _))))))), rfl⟩ (fun _ => ?_) (fun h => nomatch h)
    refine ds_setF 2 (.bool true) ⟨_, (ef_and (ef_cmp (ec_eqB (ef_isi T (ef_var 0 rfl rfl (by walk_at "vis")) T.bool PyProof.Rows.boot_bool (kit_bool _)) (ef_isi T (ef_var 1 rfl rfl (by walk_at "vis")) T.bool PyProof.Rows.boot_bool (kit_bool _)))) (fun _ => (ef_one (ef_cmp (ec_eqB (ef_cmp (ec_isN (ef_var 0 rfl rfl (by walk_at "vis")) ef_non)) (ef_cmp (ec_isN (ef_var 1 rfl rfl (by walk_at "vis")) ef_non))))))), rfl⟩ ?_ rfl (by walk_at "loc")
    refine ds_ret (ef_and (ef_var 2 rfl rfl (by walk_at "vis")) (fun _ => ef_one (ef_cmp (ec_eqD (n := 0) (m := 0) (ef_var 0 rfl rfl (by walk_at "vis")) (ef_var 1 rfl rfl (by walk_at "vis")) .non .non)))) ?_
    show PyData.bool (true && PyData.eqv .none .none) = _
    simp [PyData.eqv]
  · -- a bool
    refine ds_if1V false ⟨_, (et_val (ef_isi2 T (ef_var 1 rfl rfl (by walk_at "vis")) T.list PyProof.Rows.boot_list T.tuple PyProof.Rows.boot_tuple (kit_list _) (kit_tuple _))), rfl⟩ (fun h => nomatch h) fun _ => ?_
    refine ds_if1V true ⟨_, (EW.t (ew_or (et_cmp (ec_isN (ef_var 1 rfl rfl (by walk_at "vis")) ef_non)) (fun _ => (ew_or1 (et_val (ef_isi2 T (ef_var 1 rfl rfl (by walk_at "vis")) T.bool PyProof.Rows.boot_bool T.str PyProof.Rows.boot_str (kit_bool _) (kit_str _))))))), rfl⟩ (fun _ => ?_) (fun h => nomatch h)
    refine ds_setF 2 (.bool true) ⟨_, (ef_and (ef_cmp (ec_eqB (ef_isi T (ef_var 0 rfl rfl (by walk_at "vis")) T.bool PyProof.Rows.boot_bool (kit_bool _)) (ef_isi T (ef_var 1 rfl rfl (by walk_at "vis")) T.bool PyProof.Rows.boot_bool (kit_bool _)))) (fun _ => (ef_one (ef_cmp (ec_eqB (ef_cmp (ec_isN (ef_var 0 rfl rfl (by walk_at "vis")) ef_non)) (ef_cmp (ec_isN (ef_var 1 rfl rfl (by walk_at "vis")) ef_non))))))), rfl⟩ ?_ rfl (by walk_at "loc")
    refine ds_ret (ef_and (ef_var 2 rfl rfl (by walk_at "vis")) (fun _ => (ef_one (ef_cmp (ec_eqB (ef_var 0 rfl rfl (by walk_at "vis")) (ef_var 1 rfl rfl (by walk_at "vis"))))))) ?_
    show PyData.bool (true && (b == b)) = _
    simp
  · -- a whole number
    refine ds_if1V false ⟨_, (et_val (ef_isi2 T (ef_var 1 rfl rfl (by walk_at "vis")) T.list PyProof.Rows.boot_list T.tuple PyProof.Rows.boot_tuple (kit_list _) (kit_tuple _))), rfl⟩ (fun h => nomatch h) fun _ => ?_
    refine ds_if1V false ⟨_, (EW.t (ew_or (et_cmp (ec_isN (ef_var 1 rfl rfl (by walk_at "vis")) ef_non)) (fun _ => (ew_or1 (et_val (ef_isi2 T (ef_var 1 rfl rfl (by walk_at "vis")) T.bool PyProof.Rows.boot_bool T.str PyProof.Rows.boot_str (kit_bool _) (kit_str _))))))), rfl⟩ (fun h => nomatch h) fun _ => ?_
    refine ds_ret (ef_and (ef_isi T (ef_var 0 rfl rfl (by walk_at "vis")) T.int PyProof.Rows.boot_int (kit_int _)) (fun _ => (ef_and (ef_not (ef_isi T (ef_var 0 rfl rfl (by walk_at "vis")) T.bool PyProof.Rows.boot_bool (kit_bool _))) (fun _ => (ef_one (ef_cmp (ec_eq (ef_var 0 rfl rfl (by walk_at "vis")) (ef_var 1 rfl rfl (by walk_at "vis"))))))))) ?_
    show PyData.bool (true && (true && decide (i = i))) = _
    simp
  · -- a text
    refine ds_if1V false ⟨_, (et_val (ef_isi2 T (ef_var 1 rfl rfl (by walk_at "vis")) T.list PyProof.Rows.boot_list T.tuple PyProof.Rows.boot_tuple (kit_list _) (kit_tuple _))), rfl⟩ (fun h => nomatch h) fun _ => ?_
    refine ds_if1V true ⟨_, (EW.t (ew_or (et_cmp (ec_isN (ef_var 1 rfl rfl (by walk_at "vis")) ef_non)) (fun _ => (ew_or1 (et_val (ef_isi2 T (ef_var 1 rfl rfl (by walk_at "vis")) T.bool PyProof.Rows.boot_bool T.str PyProof.Rows.boot_str (kit_bool _) (kit_str _))))))), rfl⟩ (fun _ => ?_) (fun h => nomatch h)
    refine ds_setF 2 (.bool true) ⟨_, (ef_and (ef_cmp (ec_eqB (ef_isi T (ef_var 0 rfl rfl (by walk_at "vis")) T.bool PyProof.Rows.boot_bool (kit_bool _)) (ef_isi T (ef_var 1 rfl rfl (by walk_at "vis")) T.bool PyProof.Rows.boot_bool (kit_bool _)))) (fun _ => (ef_one (ef_cmp (ec_eqB (ef_cmp (ec_isN (ef_var 0 rfl rfl (by walk_at "vis")) ef_non)) (ef_cmp (ec_isN (ef_var 1 rfl rfl (by walk_at "vis")) ef_non))))))), rfl⟩ ?_ rfl (by walk_at "loc")
    refine ds_ret (ef_and (ef_var 2 rfl rfl (by walk_at "vis")) (fun _ => (ef_one (ef_cmp (ec_eqS (ef_var 0 rfl rfl (by walk_at "vis")) (ef_var 1 rfl rfl (by walk_at "vis"))))))) ?_
    show PyData.bool (true && decide (x = x)) = _
    simp
theorem ok_law_same (F : Fun K "_law_same" "_law_same" s__law_same f fd) (T : Blt mg) (hm : mg "_law_same" = some (.ref f)) (hb : Binds K fd ["_law_got", "_law_due"] []) : ∀ n, FnOk P w K mg base CX0 (n + 1) f fd ["_law_got", "_law_due"] (spD K (preSame n))
  | 0 => fn_ok F sc__law_same (fun ds d h => by obtain ⟨d, _, rfl, _⟩ := h; rfl) fun cdv A outer s0 H E hr ds d hp => by
    obtain ⟨v, hv, rfl, rfl⟩ := hp
    cases hv with
    | non => exact same_flat T hr _ (.inl rfl)
    | bool b => exact same_flat T hr _ (.inr (.inl ⟨b, rfl⟩))
    | int i => exact same_flat T hr _ (.inr (.inr (.inl ⟨i, rfl⟩)))
    | str x => exact same_flat T hr _ (.inr (.inr (.inr ⟨x, rfl⟩)))
  | n + 1 => fn_ok F sc__law_same (fun ds d h => by obtain ⟨d, _, rfl, _⟩ := h; rfl) fun cdv A outer s0 H E hr ds d hp => by
    obtain ⟨v, hv, rfl, rfl⟩ := hp
    have h__law_same : Fn P w K mg base "_law_same" (n + 1) ["_law_got", "_law_due"] (spD K (preSame n)) := fn_mk F (ok_law_same F T hm hb n) hm hb
    cases hv with
    | non => exact same_flat T hr _ (.inl rfl)
    | bool b => exact same_flat T hr _ (.inr (.inl ⟨b, rfl⟩))
    | int i => exact same_flat T hr _ (.inr (.inr (.inl ⟨i, rfl⟩)))
    | str x => exact same_flat T hr _ (.inr (.inr (.inr ⟨x, rfl⟩)))
    | @list n' xs h hl =>
      refine ds_if1V true ⟨_, (et_val (ef_isi2 T (ef_var 1 rfl rfl (by walk_at "vis")) T.list PyProof.Rows.boot_list T.tuple PyProof.Rows.boot_tuple (kit_list _) (kit_tuple _))), rfl⟩ (fun _ => ?_) (fun h => nomatch h)
      refine ds_if1V false ⟨_, (et_cmp (ec_neB (ef_isi T (ef_var 0 rfl rfl (by walk_at "vis")) T.list PyProof.Rows.boot_list (kit_list _)) (ef_isi T (ef_var 1 rfl rfl (by walk_at "vis")) T.list PyProof.Rows.boot_list (kit_list _)))), rfl⟩ (fun h => nomatch h) (fun _ => ?_)
      refine ds_if1V false ⟨_, (et_cmp (ec_neB (ef_isi T (ef_var 0 rfl rfl (by walk_at "vis")) T.tuple PyProof.Rows.boot_tuple (kit_tuple _)) (ef_isi T (ef_var 1 rfl rfl (by walk_at "vis")) T.tuple PyProof.Rows.boot_tuple (kit_tuple _)))), rfl⟩ (fun h => nomatch h) (fun _ => ?_)
      refine ds_ret (ef_and (ef_cmp (ec_eq (ef_len T (EF.l (ef_var 0 rfl rfl (by walk_at "vis")))) (ef_len T (EF.l (ef_var 1 rfl rfl (by walk_at "vis")))))) (fun _ => (ef_one (ef_all1 T (EN.l (en_lc0 (own := [("_law_mine", 3), ("_law_its", 4)]) (xs) (fun x => .tuple [x, x]) (fun _ => .bool true) (EIh.is (EI.h (ei_zipL T (ea_cons (ef_var 0 rfl rfl (by walk_at "vis")) (ea_cons (ef_var 1 rfl rfl (by walk_at "vis")) ea_nil)))) ?_) (by walk_at "blk") (fun x hx => ⟨_, (eg_tup (egs_cons (eg_name 3 rfl (by decide) (by walk_at "loc") (by walk_at "fnl")) (egs_cons (eg_name 4 rfl (by decide) (by walk_at "loc") (by walk_at "fnl")) egs_nil))), (ef_callV (.bool true) h__law_same (ea_cons (ef_var 3 rfl rfl (by walk_at "vis")) (ea_cons (ef_var 4 rfl rfl (by walk_at "vis")) ea_nil)) ?_ (Nat.le_refl _) (by intro _; rfl))⟩) ?_)))))) ?_
      · exact zip_self xs
      · exact ⟨x, h x hx, rfl, rfl⟩
      · omega
      · simp
    | @tuple n' xs h hl =>
      refine ds_if1V true ⟨_, (et_val (ef_isi2 T (ef_var 1 rfl rfl (by walk_at "vis")) T.list PyProof.Rows.boot_list T.tuple PyProof.Rows.boot_tuple (kit_list _) (kit_tuple _))), rfl⟩ (fun _ => ?_) (fun h => nomatch h)
      refine ds_if1V false ⟨_, (et_cmp (ec_neB (ef_isi T (ef_var 0 rfl rfl (by walk_at "vis")) T.list PyProof.Rows.boot_list (kit_list _)) (ef_isi T (ef_var 1 rfl rfl (by walk_at "vis")) T.list PyProof.Rows.boot_list (kit_list _)))), rfl⟩ (fun h => nomatch h) (fun _ => ?_)
      refine ds_if1V false ⟨_, (et_cmp (ec_neB (ef_isi T (ef_var 0 rfl rfl (by walk_at "vis")) T.tuple PyProof.Rows.boot_tuple (kit_tuple _)) (ef_isi T (ef_var 1 rfl rfl (by walk_at "vis")) T.tuple PyProof.Rows.boot_tuple (kit_tuple _)))), rfl⟩ (fun h => nomatch h) (fun _ => ?_)
      refine ds_ret (ef_and (ef_cmp (ec_eq (ef_len T (EF.t (ef_var 0 rfl rfl (by walk_at "vis")))) (ef_len T (EF.t (ef_var 1 rfl rfl (by walk_at "vis")))))) (fun _ => (ef_one (ef_all1 T (EN.l (en_lc0 (own := [("_law_mine", 3), ("_law_its", 4)]) (xs) (fun x => .tuple [x, x]) (fun _ => .bool true) (EIh.is (EI.h (ei_zipT T (ea_cons (ef_var 0 rfl rfl (by walk_at "vis")) (ea_cons (ef_var 1 rfl rfl (by walk_at "vis")) ea_nil)))) ?_) (by walk_at "blk") (fun x hx => ⟨_, (eg_tup (egs_cons (eg_name 3 rfl (by decide) (by walk_at "loc") (by walk_at "fnl")) (egs_cons (eg_name 4 rfl (by decide) (by walk_at "loc") (by walk_at "fnl")) egs_nil))), (ef_callV (.bool true) h__law_same (ea_cons (ef_var 3 rfl rfl (by walk_at "vis")) (ea_cons (ef_var 4 rfl rfl (by walk_at "vis")) ea_nil)) ?_ (Nat.le_refl _) (by intro _; rfl))⟩) ?_)))))) ?_
      · exact zip_self xs
      · exact ⟨x, h x hx, rfl, rfl⟩
      · omega
      · simp
mutual
def listD : PyData → PyData
  | .list ds => .list (listL ds)
  | .tuple ds => .list (listL ds)
  | .none => .none
  | .bool b => .bool b
  | .int i => .int i
  | .str x => .str x
  | .dict k => .dict k
def listL : List PyData → List PyData
  | [] => []
  | d :: ds => listD d :: listL ds
end
theorem listL_map : ∀ ds : List PyData, listL ds = ds.map listD
  | [] => by simp [listL]
  | d :: ds => by simp only [listL, List.map_cons, listL_map ds]
abbrev n__law_lists : List Str := ["_law_matter", "_law_bit"]
abbrev s__law_lists : Stmt := top 37
theorem sc__law_lists : FnScope ["_law_matter", "_law_bit"] ["_law_matter"] (defScope s__law_lists) := ⟨rfl, rfl, rfl, by decide +kernel, rfl, by decide +kernel, by decide +kernel⟩
def preLists (n : Nat) (ds : List PyData) (r : PyData) : Prop := ∃ d, Ps n d ∧ ds = [d] ∧ r = listD d
theorem ok_law_lists (F : Fun K "_law_lists" "_law_lists" s__law_lists f fd) (T : Blt mg) (hm : mg "_law_lists" = some (.ref f)) (hb : Binds K fd ["_law_matter"] []) : ∀ n, FnOk P w K mg base CX0 (n + 1) f fd ["_law_matter"] (spD K (preLists n))
  | 0 => fn_ok F sc__law_lists (fun ds d h => by obtain ⟨d, _, rfl, _⟩ := h; rfl) fun cdv A outer s0 H E hr ds d hp => by
    obtain ⟨v, hv, rfl, rfl⟩ := hp
    cases hv <;> exact ds_ret (ef_if (et_val (ef_isi2 T (ef_var 0 rfl rfl (by walk_at "vis")) T.list PyProof.Rows.boot_list T.tuple PyProof.Rows.boot_tuple (kit_list _) (kit_tuple _))) (fun h => nomatch h) (fun _ => (ef_var 0 rfl rfl (by walk_at "vis")))) (by simp [listD])
  | n + 1 => fn_ok F sc__law_lists (fun ds d h => by obtain ⟨d, _, rfl, _⟩ := h; rfl) fun cdv A outer s0 H E hr ds d hp => by
    obtain ⟨v, hv, rfl, rfl⟩ := hp
    have h__law_lists : Fn P w K mg base "_law_lists" (n + 1) ["_law_matter"] (spD K (preLists n)) := fn_mk F (ok_law_lists F T hm hb n) hm hb
    cases hv with
    | non => exact ds_ret (ef_if (et_val (ef_isi2 T (ef_var 0 rfl rfl (by walk_at "vis")) T.list PyProof.Rows.boot_list T.tuple PyProof.Rows.boot_tuple (kit_list _) (kit_tuple _))) (fun h => nomatch h) (fun _ => (ef_var 0 rfl rfl (by walk_at "vis")))) (by simp [listD])
    | bool b => exact ds_ret (ef_if (et_val (ef_isi2 T (ef_var 0 rfl rfl (by walk_at "vis")) T.list PyProof.Rows.boot_list T.tuple PyProof.Rows.boot_tuple (kit_list _) (kit_tuple _))) (fun h => nomatch h) (fun _ => (ef_var 0 rfl rfl (by walk_at "vis")))) (by simp [listD])
    | int i => exact ds_ret (ef_if (et_val (ef_isi2 T (ef_var 0 rfl rfl (by walk_at "vis")) T.list PyProof.Rows.boot_list T.tuple PyProof.Rows.boot_tuple (kit_list _) (kit_tuple _))) (fun h => nomatch h) (fun _ => (ef_var 0 rfl rfl (by walk_at "vis")))) (by simp [listD])
    | str x => exact ds_ret (ef_if (et_val (ef_isi2 T (ef_var 0 rfl rfl (by walk_at "vis")) T.list PyProof.Rows.boot_list T.tuple PyProof.Rows.boot_tuple (kit_list _) (kit_tuple _))) (fun h => nomatch h) (fun _ => (ef_var 0 rfl rfl (by walk_at "vis")))) (by simp [listD])
    | @list n' xs h hl =>
      refine ds_ret (d := .list (xs.map listD)) (ef_if (et_val (ef_isi2 T (ef_var 0 rfl rfl (by walk_at "vis")) T.list PyProof.Rows.boot_list T.tuple PyProof.Rows.boot_tuple (kit_list _) (kit_tuple _))) (fun _ => ?_) (fun h => nomatch h)) (by show PyData.list _ = listD _; simp [listD, listL_map])
      refine (EN.f (en_lc0 (own := [("_law_bit", 1)]) (xs) (id) (listD) (EIh.is (EI.h (ei_list (ef_var 0 rfl rfl (by walk_at "vis")))) ?_) (by walk_at "blk") (fun x hx => ⟨_, (eg_name 1 rfl (by decide) (by walk_at "loc") (by walk_at "fnl")), (ef_callV (listD x) h__law_lists (ea_cons (ef_var 1 rfl rfl (by walk_at "vis")) ea_nil) ?_ (Nat.le_refl _) (by intro _; rfl))⟩) ?_))
      · exact (List.map_id _).symm
      · exact ⟨x, h x hx, rfl, rfl⟩
      · omega
    | @tuple n' xs h hl =>
      refine ds_ret (d := .list (xs.map listD)) (ef_if (et_val (ef_isi2 T (ef_var 0 rfl rfl (by walk_at "vis")) T.list PyProof.Rows.boot_list T.tuple PyProof.Rows.boot_tuple (kit_list _) (kit_tuple _))) (fun _ => ?_) (fun h => nomatch h)) (by show PyData.list _ = listD _; simp [listD, listL_map])
      refine (EN.f (en_lc0 (own := [("_law_bit", 1)]) (xs) (id) (listD) (EIh.is (EI.h (ei_tup (ef_var 0 rfl rfl (by walk_at "vis")))) ?_) (by walk_at "blk") (fun x hx => ⟨_, (eg_name 1 rfl (by decide) (by walk_at "loc") (by walk_at "fnl")), (ef_callV (listD x) h__law_lists (ea_cons (ef_var 1 rfl rfl (by walk_at "vis")) ea_nil) ?_ (Nat.le_refl _) (by intro _; rfl))⟩) ?_))
      · exact (List.map_id _).symm
      · exact ⟨x, h x hx, rfl, rfl⟩
      · omega
abbrev n__law_half : List Str := ["_law_matter", "_law_bit"]
abbrev s__law_half : Stmt := top 38
theorem sc__law_half : FnScope ["_law_matter", "_law_bit"] ["_law_matter"] (defScope s__law_half) := ⟨rfl, rfl, rfl, by decide +kernel, rfl, by decide +kernel, by decide +kernel⟩
def preHalf (ds : List PyData) (r : PyData) : Prop := ∃ xs, (∀ x ∈ xs, Ps 3 x) ∧ xs.length ≤ 1000 ∧ ds = [.tuple xs] ∧ r = .tuple (xs.map listD)
theorem ok_law_half (F : Fun K "_law_half" "_law_half" s__law_half f fd) (T : Blt mg) (h__law_lists : Fn P w K mg base "_law_lists" 4 ["_law_matter"] (spD K (preLists 3))) : FnOk P w K mg base CX0 5 f fd ["_law_matter"] (spD K preHalf) :=
  fn_ok F sc__law_half (fun ds d h => by obtain ⟨_, _, _, rfl, _⟩ := h; rfl) fun cdv A outer s0 H E hr ds d hp => by
    obtain ⟨xs, hx1, hl, rfl, rfl⟩ := hp
    refine ds_ret (ef_tupleL T (EN.l (en_lc0 (own := [("_law_bit", 1)]) (xs) (id) (listD) (EIh.is (EI.h (ei_tup (ef_var 0 rfl rfl (by walk_at "vis")))) ?_) (by walk_at "blk") (fun x hx => ⟨_, (eg_name 1 rfl (by decide) (by walk_at "loc") (by walk_at "fnl")), (ef_callV (listD x) h__law_lists (ea_cons (ef_var 1 rfl rfl (by walk_at "vis")) ea_nil) ?_ (Nat.le_of_ble_eq_true rfl) (by intro _; rfl))⟩) ?_))) rfl
    · exact (List.map_id _).symm
    · exact ⟨x, hx1 x hx, rfl, rfl⟩
    · omega
end
end Fs

set_option maxRecDepth 100000
set_option maxHeartbeats 4000000
/-! TM, part 1: several except clauses, each with a name of its own; isinstance of what is caught. -/
namespace L2
open PySem PySem.Spec PyProof.Rows
/-- what the named clauses ask of what the body raises, in turn (slot i is the name's) -/
def askAll (K : PySem.W.Frag) (i : Nat) (out : WX) (D : Ends) : List (Value × (Addr → Value → Option Addr → TS)) → WX
  | [] => out
  | (c, ts) :: more => fun cl dd σ H => ∃ b, PySem.W.exmOne K cl c = some b ∧
      (b = true → ∀ a, H a = none → ts a cl dd ⟨fun σ' H' => D.nx (σ'.set i none) H', D.rt, fun σ' H' => D.bk (σ'.set i none) H', fun σ' H' => D.ct (σ'.set i none) H'⟩ (σ.set i (some (.ref a))) H) ∧ (b = false → askAll K i out D more cl dd σ H)
inductive Clauses (X : Cx) (nm : Str) : List ExceptHandler → List (Value × (Addr → Value → Option Addr → TS)) → Prop
  | done : Clauses X nm [] []
  | more {x : Str} {c : Value} {ts : Addr → Value → Option Addr → TS} {first : Stmt} {others : List Stmt} {q1 q2 : Pos} {tail : List ExceptHandler} {l : List (Value × (Addr → Value → Option Addr → TS))} (known : Names X x c)
      (walk : ∀ (a : Addr) (ob : Obj) (cl : Value) (dd : Option Addr) (pn : List (Addr × Obj)), Zc cl dd ob → (∃ vs, ob.data = .fields vs) → PSs (X.suite a ((a, ob) :: pn)) (first :: others) (ts a cl dd)) (tl : Clauses X nm tail l) :
      Clauses X nm (.ExceptHandler (some (.Name x q1)) (some nm) (first :: others) q2 :: tail) ((c, ts) :: l)
section
variable {X : Cx} {nm : Str} {i : Nat} {body : List Stmt} {hd1 : ExceptHandler} {hds : List ExceptHandler} {l : List (Value × (Addr → Value → Option Addr → TS))} {pos : Pos} {tb : WX → TS} {out : WX}
theorem ps_clauses (hs : X.stack = X.env :: X.outer) (hf : X.env.frame = some X.env.locals) (hN : X.N.Nodup) (hi : X.N[i]? = some nm) (hln : X.env.kindOf nm = some .local) (tk : Takes X out)
    (hb : ∀ (V : WX) (pn : List (Addr × Obj)) (xe : Value → Shared → Prop), Takes (X.tr pn xe) V → PassesOwn (model X.prog X.w) X.A X.env xe → PSs (X.tr pn xe) body (tb V)) (hh : Clauses X nm (hd1 :: hds) l) :
    PS X (.Try body (hd1 :: hds) [] [] pos) (fun D σ H => tb (askAll X.K i out D l) D σ H) := by
  refine ⟨fun pins s σ H D I h => ?_⟩
  have okX := I.ok
  have frames : X.A.frames = some (X.env :: X.outer) := by rw [okX.frames, hs]
  refine wpAny_Try_except (wpAny_mono ((hb (askAll X.K i out D l) (X.pn ++ pins)
    (fun e t1 => wpAny (model X.prog X.w) X.A (noteFrame e X.env) (fun _ t2 => wpAny (model X.prog X.w) X.A (setFlight e none) (fun _ t3 => wpAny (model X.prog X.w) X.A (handleBy e X.env (hd1 :: hds)) (SP X pins D) X.xe t3) X.xe t2) X.xe t1)
    (fun u t xx => ?_) PassesOwn.looking).run [] s σ H D (I.toTry _) h) (fun f t hsp => ?_) (fun e t he => he))
  · obtain ⟨a, B, sI, pins', σ1, H1, cl, dd, rfl, Ja, nb, up, sk, na, os, ag, wish⟩ := xx
    have Jb : Inv X pins σ1 H1 sI := Ja.ofTry okX
    have sk1 : Sky B (X.env :: X.outer) a (Zc cl dd) X.env.locals t.heap := by rw [← hs]; exact sk
    show wpAny (model X.prog X.w) X.A (noteFrame (.ref a) X.env) _ _ _
    refine Sky.land Zc.steady frames hf sk1 fun g1 fl1 up1 => ?_
    have Jc : Inv X pins σ1 H1 { t with heap := g1 } := Jb.landed nb fl1.1 (up.trans up1) os ag
    obtain ⟨ob1, fs1, at1, z1, dt1⟩ := fl1.there
    have noFrame : a ∉ frs (X.env :: X.outer) := fun hm => by
      obtain ⟨_, ob2, at2, no⟩ := fl1.2.2.1.mem hm
      rw [at1] at at2
      cases at2
      exact no _ dt1
    have notL : a ≠ X.env.locals := fun z => noFrame (List.mem_filterMap.mpr ⟨X.env, List.mem_cons_self, by rw [hf, z]⟩)
    have notF : a ∉ X.fs := fun hm => by
      obtain ⟨en, hen, q⟩ := List.mem_filterMap.mp hm
      exact noFrame (List.mem_filterMap.mpr ⟨en, List.mem_cons_of_mem _ hen, q⟩)
    have Sa := Jc.suite at1 dt1 na notL notF
    have each : ∀ {hs' : List ExceptHandler} {l' : List (Value × (Addr → Value → Option Addr → TS))}, Clauses X nm hs' l' → askAll X.K i out D l' cl dd σ1 H1 →
        wpAny (model X.prog X.w) X.A (handleBy (.ref a) X.env hs') (SP X pins D) X.xe { t with heap := g1 } := by
      intro hs' l' cs
      induction cs with
      | done =>
        intro wish
        refine wpAny_handleBy_nil ?_
        obtain ⟨_, _, _, ob, vs, T, oT, ts', hat, hz, hdt, hT, hr⟩ := id fl1
        unfold PySem.passOn
        refine wpAny_bind (wpAny_field hat hdt hT ?_)
        rw [if_neg (show ¬ ((Value.ref T == Value.none) = true) by simp)]
        have last : wpAny (model X.prog X.w) X.A (setFlight (.ref a) X.env.frame) (fun _ t4 => wpAny (model X.prog X.w) X.A (throw (.ref a) : Sem Flow) (SP X pins D) X.xe t4) X.xe { t with heap := g1 } := by
          rw [hf]
          refine HandSPX.setFlight_upZ fl1 fun g2 held up2 => wpAny_throw (tk _ _ ?_)
          exact ⟨a, B, sI, pins, σ1, H1, cl, dd, rfl, Jb, nb, (up.trans up1).trans up2, .inr (.inr (by rw [hs]; exact held)), na, os, ag, wish⟩
        first
          | exact wpAny_bind (wpAny_pure (wpAny_bind last))
          | exact wpAny_bind last
      | @more x c ts first others q1 q2 tail l2 known walk tl ih =>
        intro wish
        obtain ⟨b, hb1, yes, no⟩ := wish
        refine wpAny_handleBy_cons (codeAny_handlers_test ?_) (by intro q; cases q)
        have LT : PySem.W.Looks (model X.prog X.w) g1 (typeOf (.ref a)) cl := fun _ _ _ _ k q => wpAny_typeOf_ref (k _ _ at1) (by rw [z1.1]; exact q)
        have LM := PySem.W.exm_one (M := model X.prog X.w) (Jc.kIn) LT hb1
        have ask : ∀ {Q : Value → Shared → Prop} {E : Value → Shared → Prop}, Q c { t with heap := g1 } → wpAny (model X.prog X.w) (X.A.mark (some (.ref a))) (eval (.Name x q1) X.env) Q E { t with heap := g1 } := fun {Q E} q => by
          obtain ⟨hg, hdbg, hm | ⟨hm, hv, hnn⟩⟩ := known
          · exact ld_glob (X := X.suite a ((a, ob1) :: (X.pn ++ pins))) Sa hg hm q hdbg
          · exact ld_blt (X := X.suite a ((a, ob1) :: (X.pn ++ pins))) Sa hg hm hv q hnn hdbg
        refine ask (LM.here ?_)
        cases b with
        | false =>
          show wpAny _ X.A (handleBy (.ref a) X.env tail) _ _ _
          exact ih (no rfl)
        | true =>
          refine codeAny_handlers_suite_as (HandSPX.lands_againZ fl1 fun g2 fl2 up2 => ?_)
          have Jd : Inv X pins σ1 H1 { t with heap := g2 } := Jb.landed nb fl2.1 ((up.trans up1).trans up2) os ag
          obtain ⟨ob2, fs2, at2, z2, dt2⟩ := fl2.there
          have Sb := Jd.suite at2 dt2 na notL notF
          refine store_ok (X := X.suite a ((a, ob2) :: (X.pn ++ pins))) (v := .ref a) Sb hN hi (.inl hln) rfl (fun t5 Sc => ?_) (.inr hln)
          refine wpAny_mono ((walk a ob2 cl dd (X.pn ++ pins) z2 ⟨_, dt2⟩).run [] t5 _ H1 _ Sc (yes rfl a na)) (fun f t6 ends => ?_) (fun _ _ z => False.elim z)
          have off : ∀ {σ6 : St} {H6 : Hp} {Q : Shared → Prop}, Inv (X.suite a ((a, ob2) :: (X.pn ++ pins))) [] σ6 H6 t6 → (∀ t7, Inv X pins (σ6.set i none) H6 t7 → Q t7) →
              wpAny (model X.prog X.w) X.A (do bindName X.env nm .none; unbindBehindTheSuite X.env nm q2) (fun _ t7 => Q t7) X.xe t6 := fun {σ6 H6 Q} S6 hq => gone_ok (S6.unsuite okX) hN hi hln hq
          cases f with
          | next => obtain ⟨σ6, H6, S6, q6⟩ := ends; exact off S6 fun t7 J7 => ⟨_, _, J7, q6⟩
          | brk => obtain ⟨σ6, H6, S6, q6⟩ := ends; exact off S6 fun t7 J7 => ⟨_, _, J7, q6⟩
          | cont => obtain ⟨σ6, H6, S6, q6⟩ := ends; exact off S6 fun t7 J7 => ⟨_, _, J7, q6⟩
          | ret u => obtain ⟨v6, σ6, H6, S6, r6, q6⟩ := ends; exact off S6 fun t7 J7 => ⟨_, _, _, J7, r6, q6⟩
    exact each hh wish
  · cases f with
    | next => obtain ⟨σ1, H1, J1, q⟩ := hsp; exact wpAny_execs_nil ⟨σ1, H1, J1.ofTry okX, q⟩
    | brk => obtain ⟨σ1, H1, J1, q⟩ := hsp; exact ⟨σ1, H1, J1.ofTry okX, q⟩
    | cont => obtain ⟨σ1, H1, J1, q⟩ := hsp; exact ⟨σ1, H1, J1.ofTry okX, q⟩
    | ret u => obtain ⟨v, σ1, H1, J1, r, q⟩ := hsp; exact ⟨v, σ1, H1, J1.ofTry okX, r, q⟩
end
end L2
namespace PySem.W
open PySem PySem.Spec PySem.Calls PyProof.Rows
section
variable {K : Frag} {x t : Value} {H : Heap → Prop}
/-- isinstance, where the type itself says yes -/
theorem yes_ans {c : Value} (LT0 : ∀ (M : Model) (h : Heap), K.In h → H h → Looks M h (typeOf x) t) (e : kitOne K t c = some true) : Answers (fun s => K.In s.heap ∧ H s.heap) x c true := by
  intro dep tk prog w A R s hs
  obtain ⟨h0, g, d, tt, os⟩ := s
  obtain ⟨⟨hk, p⟩, fin⟩ := hs
  have ty := LT0 (model prog w) h0 hk p
  unfold kitOne at e
  unfold Builtin.«isinstance.nested»
  refine wpAny_bind (ty.at ?_)
  by_cases q : (t == c) = true
  · rw [if_pos q] at e ⊢
    first
      | ((repeat lk); exact fin tt)
      | exact wpAny_bind (wpAny_rule (fin tt))
      | exact wpAny_bind (wpAny_rule (wpAny_pure (fin tt)))
  · rw [if_neg q] at e ⊢
    obtain ⟨h1, h2, h3⟩ := kit_cls (M := model prog w) hk e
    have li : Looks (model prog w) h0 (isInstance x c) true := ty.andThen h3
    refine wpAny_bind (h1.at ?_)
    rw [if_pos (by decide)]
    k_delta "plainIsInstance"
    refine wpAny_bind (wpAny_bind (h2.at ?_))
    simp only [Bool.not_true, Bool.false_eq_true, if_false]
    refine wpAny_bind (li.at ?_)
    first
      | exact wpAny_pure (wpAny_pure (fin tt))
      | (simp only [if_true]; first | exact wpAny_pure (wpAny_pure (fin tt)) | exact wpAny_pure (fin tt) | exact wpAny_bind (wpAny_pure (wpAny_pure (fin tt))))
theorem yes_call {prog : Program} {w : World} {A : Around} {E : Value → Shared → Prop} {s : Shared} {Q : Value → Shared → Prop} {c : Value} (LT0 : ∀ (M : Model) (h : Heap), K.In h → H h → Looks M h (typeOf x) t) (hk : K.In s.heap) (p : H s.heap) (e : kitOne K t c = some true) (hx : x ≠ .builtin "__main__.__loader__#opaque")
    (h : ∀ tk, Q (.bool true) { s with toks := tk }) : wpAny (model prog w) A (call (.builtin "isinstance") [x, c]) Q E s :=
  call_isinstance (S := fun _ R s => (K.In s.heap ∧ H s.heap) ∧ ∀ tk, R (.ok (.ret (.bool true))) { s with toks := tk }) (fun prog w A R s hs => isinstance_outer (yes_ans LT0 e 0 _ prog w A R s hs) hx) ⟨⟨hk, p⟩, h⟩
end
end PySem.W
namespace L2
open PySem PySem.Spec PyProof.Rows
/-- isinstance(e, c) of what the suite holds, where its class says yes -/
def rYesE (K : PySem.W.Frag) (cl : Value) (a : Addr) : List V → Hp → VK → Prop := fun xs H Q => ∃ (c : V) (cv : Value), xs = [.ref a, c] ∧ (∀ u, RelV c u → u = cv) ∧ PySem.W.kitOne K cl cv = some true ∧ Q (.bl true) H
theorem call_yesE {X : Cx} {a : Addr} {cl : Value} {dd : Option Addr} {ob : Obj} {pn : List (Addr × Obj)} (hz : Zc cl dd ob) : CallR (X.suite a ((a, ob) :: pn)) (.builtin "isinstance") (rYesE X.K cl a) := by
  intro pins s σ H xs us Q I r h
  obtain ⟨c, cv, rfl, hcv, e, q⟩ := h
  cases r with
  | cons rx rr =>
    cases rr with
    | cons rt rr =>
      cases rr
      cases rx
      have ec := hcv _ rt
      subst ec
      obtain ⟨hget, _⟩ := I.pin (a, ob) (List.mem_append_left _ List.mem_cons_self)
      exact PySem.W.yes_call (H := fun h => h.get? a = some ob) (fun M h _ hh A Q E s k q => wpAny_typeOf_ref (k _ _ hh) (by rw [hz.1]; exact q)) I.kIn hget e (fun z => nomatch z) fun tk => ⟨.bl true, H, I.kept (t' := tk) fun _ _ z => z, rfl, q⟩
end L2

set_option maxRecDepth 100000
set_option maxHeartbeats 4000000
/-! TM, part 2: try: x = e / except A as n: .. / except B as n: .. -/
namespace DL
open PySem PySem.Spec PyProof.Rows L2
section
variable {P : Program} {w : World} {K : PySem.W.Frag} {mg : Str → Option Value} {base : Heap} {C : Ctx P w K mg base} {rho rho' : List SV} {e : Expr} {d : PyData} {pos : Pos} {rest : List Stmt} {Pt : Post} {res : PyData → Prop} {er : Value → Option PyData → Prop}
/-- nothing is known of a slot any more, whatever it holds -/
theorem Rl.unkSet {B G H : Hp} {σ : L2.St} (r : Rl K B G H rho σ) (i : Nat) (v : Option V) : Rl K B G H (rho.set i .unk) (σ.set i v) := by
  refine ⟨r.e, by rw [List.length_set, List.length_set]; exact r.len, fun j sv' e => ?_, fun a b l ds es e1 e2 e3 e4 => ?_, r.pins.sub (fun i ds e => ?_) fun i p cells e => ?_⟩
  · rcases set_get e with ⟨rfl, rfl, hi⟩ | ⟨hne, e⟩
    · trivial
    · rw [List.getElem?_set_ne hne]; exact r.sl j sv' e
  · rcases set_get e1 with ⟨_, q1, _⟩ | ⟨n1, e1⟩
    · cases q1
    · rcases set_get e2 with ⟨_, q2, _⟩ | ⟨n2, e2⟩
      · cases q2
      · rw [List.getElem?_set_ne n1] at e3
        rw [List.getElem?_set_ne n2] at e4
        exact r.sep a b l ds es e1 e2 e3 e4
  · rcases set_get e with ⟨_, q', _⟩ | ⟨hne, e⟩
    · cases q'
    · exact ⟨ds, e, List.getElem?_set_ne hne⟩
  · rcases set_get e with ⟨_, q', _⟩ | ⟨hne, e⟩
    · cases q'
    · exact ⟨cells, e, rfl⟩
/-- the context of a try's body -/
abbrev tryC (C : Ctx P w K mg base) (V : WX) : Ctx P w K mg base :=
  ⟨{ q : C.I × List (Addr × Obj) × (Value → Shared → Prop) // Takes ((C.X q.1).tr q.2.1 q.2.2) V ∧ PassesOwn (model (C.X q.1).prog (C.X q.1).w) (C.X q.1).A (C.X q.1).env q.2.2 }, fun q => (C.X q.1.1).tr q.1.2.1 q.1.2.2, C.N, C.j,
    fun q => C.hP q.1.1, fun q => C.hw q.1.1, fun q => C.hK q.1.1, fun q => C.hmg q.1.1, fun q => C.hb q.1.1, fun q => C.hN q.1.1, C.nd, fun q => C.calm q.1.1, fun q => C.room q.1.1⟩
/-- what the clauses make of an error -/
def Caught (K : PySem.W.Frag) (rho : List SV) (i : Nat) (l : List (Value × (Addr → Value → Option Addr → TS))) (cls : Value) (dd : Option PyData) (R : List SV → Prop) : Prop := ∀ (D : Ends) (G0 H0 : Hp) σ G H da, Nx G0 H0 G H → Rl K H0 G H rho σ → XOk K dd da G H →
  (∀ rho' σ' G' H', R rho' → Nx G0 H0 G' H' → Rl K H0 G' H' rho' σ' → D.nx σ' H') → askAll K i (fun _ _ _ _ => False) D l cls da σ H
theorem ds_tryAsg (k i : Nat) {x nm : Str} {xp bp : Pos} {hd1 : ExceptHandler} {hds : List ExceptHandler} (l : List (Value × (Addr → Value → Option Addr → TS))) (R : List SV → Prop) (hst : ∀ i, (C.X i).stack = (C.X i).env :: (C.X i).outer) (hfr : ∀ i, (C.X i).env.frame = some (C.X i).env.locals) (hNi : C.N[i]? = some nm) (hln : ∀ i, (C.X i).env.kindOf nm = some .local)
    (hh : ∀ i, Clauses (C.X i) nm (hd1 :: hds) l) (he : ∀ V, EX (tryC C V) rho e res er) (ok : ∀ d, res d → DS C rest (rho.set k (.dat d)) Pt) (bad : ∀ cls dd, er cls dd → Caught K rho i l cls dd R) (t : ∀ rho', R rho' → DS C rest rho' Pt) (hN : C.N[k]? = some x) (hx : ∀ i, Loc (C.X i).env.scope x)
    (hs : ∀ i, swapsWith e (some (.Name x xp)) bp.line (C.X i).env = pure false := by intro _; rfl) (hf : ∀ i, (C.X i).fn x = true ∨ (C.X i).env.scope.names.lookup x = some .local := by intro _; exact Or.inl rfl) :
    DS C (.Try [.Assign [.Name x xp] e bp] (hd1 :: hds) [] [] pos :: rest) rho Pt :=
  DS.cons (t := fun D σ H => tSeq (tAsg (wE (tryC C (askAll K i (fun _ _ _ _ => False) D l)) e) (gName k)) tNext D σ H)
    (fun j => by
      have q := ps_clauses (X := C.X j) (pos := pos) (body := [.Assign [.Name x xp] e bp]) (tb := fun V => tSeq (tAsg (wE (tryC C V) e) (gName k)) tNext) (out := fun _ _ _ _ => False) (hst j) (hfr j) (by rw [C.hN]; exact C.nd) (by rw [C.hN]; exact hNi) (hln j) takes0
        (fun V pn xe h1 h2 => pss_cons (ps_set (X := (C.X j).tr pn xe) (show (C.X j).N.Nodup by rw [C.hN]; exact C.nd) (show (C.X j).N[k]? = some x by rw [C.hN]; exact hN) (hx j) (pe_w (C := tryC C V) ⟨(j, pn, xe), h1, h2⟩) (hs j) (hf j)) pss_nil) (hh j)
      rw [C.hK] at q
      exact q)
    fun G0 H0 D W σ G H tk xx r kk => by
      refine he _ _ (fun q => q.2.1) H0 σ G H _ r (fun v d G' H' hr x2 tv => ?_) fun cls dd da G' H' hr x2 xo => ?_
      · exact ok d hr G0 H0 D W _ G' H' tk (xx.trans x2) ((r.nx x2).setD (i := k) tv) kk
      · exact bad cls dd hr _ G0 H0 σ G' H' da (xx.trans x2) (r.nx x2) xo fun rho' σ' G2 H2 hR x3 r3 => t rho' hR G0 H0 D W σ' G2 H2 tk x3 r3 kk
/-! the suites x = [text, n.name, isinstance(n, ValueError)] and x = [text, isinstance(n, ValueError)] -/
def ts3 (K : PySem.W.Frag) (C : Addr) (i k : Nat) (s : Str) : Addr → Value → Option Addr → TS := fun a cl dd => tSeq (tAsg (tLst (tCons (tC (.str s)) (tCons (tXf a cl dd C "name" (tVar i)) (tCons (tCB (rYesE K cl a) (tCons (tVar i) (tCons (tC (.ty "ValueError")) tNil))) tNil)))) (gName k)) tNext
def ts2 (K : PySem.W.Frag) (i k : Nat) (s : Str) : Addr → Value → Option Addr → TS := fun a cl _ => tSeq (tAsg (tLst (tCons (tC (.str s)) (tCons (tCB (rYesE K cl a) (tCons (tVar i) (tCons (tC (.ty "ValueError")) tNil))) tNil))) (gName k)) tNext
theorem caught3 {cN : Addr} {i k : Nat} {s : Str} {l} {t : Str} (hik : i ≠ k) (hi : i < rho.length) (h1 : PySem.W.exmOne K (.ref cN) (.ref cN) = some true) (h2 : PySem.W.kitOne K (.ref cN) (.type "ValueError") = some true) : Caught K rho i ((.ref cN, ts3 K cN i k s) :: l) (.ref cN) (some (.str t)) (fun rho' => rho' = ((rho.set k (.dat (.list [.str s, .str t, .bool true]))).set i .unk)) := by
  intro D G0 H0 σ G H da x r xo fin
  obtain ⟨d', v, rfl, hd, tv⟩ := xo
  refine ⟨true, h1, fun _ a ha => ?_, fun h => nomatch h⟩
  have hsi : (σ.set i (some (V.ref a)))[i]? = some (some (.ref a)) := by rw [List.getElem?_set_self (by rw [r.len]; exact hi)]
  refine ⟨_, hsi, rfl, rfl, d', _, v, rfl, hd, rfl, _, hsi, .ty "ValueError", .type "ValueError", rfl, fun u hu => ?_, h2, (show (3 : Nat) ≤ sizeLine from by decide), fun p hp => ?_⟩
  · first
      | exact hu
      | (cases hu; rfl)
  · have x2 := Nx.new (o := .lst [.str s, v, .bl true]) x.s hp
    have r2 := ((r.nx x2).setD (i := k) (v := .ref p) (d := .list [.str s, .str t, .bool true]) (.lst (SqL.of upd_same) (.cons (.str s) (.cons (dp_ex x2.g tv) (.cons (.bl true) .nil))))).unkSet i none
    have es : ((σ.set i (some (V.ref a))).set k (some (.ref p))).set i none = (σ.set k (some (.ref p))).set i none := by
      apply List.ext_getElem?
      intro j
      by_cases e : i = j
      · subst e
        rw [List.getElem?_set_self (by simp only [List.length_set]; rw [r.len]; exact hi), List.getElem?_set_self (by simp only [List.length_set]; rw [r.len]; exact hi)]
      · rw [List.getElem?_set_ne e, List.getElem?_set_ne e]
        by_cases e2 : k = j
        · subst e2
          by_cases hl : k < σ.length
          · rw [List.getElem?_set_self (by rw [List.length_set]; exact hl), List.getElem?_set_self hl]
          · rw [List.getElem?_eq_none (by simp only [List.length_set]; omega), List.getElem?_eq_none (by simp only [List.length_set]; omega)]
        · rw [List.getElem?_set_ne e2, List.getElem?_set_ne e2, List.getElem?_set_ne e]
    show D.nx (((σ.set i (some (V.ref a))).set k (some (.ref p))).set i none) _
    rw [es]
    exact fin _ _ _ _ rfl (x.trans x2) r2
theorem caught2 {cN cF : Addr} {i k : Nat} {s : Str} {ts1} {l} (hik : i ≠ k) (hi : i < rho.length) (h0 : PySem.W.exmOne K (.ref cF) (.ref cN) = some false) (h1 : PySem.W.exmOne K (.ref cF) (.ref cF) = some true) (h2 : PySem.W.kitOne K (.ref cF) (.type "ValueError") = some true) : Caught K rho i ((.ref cN, ts1) :: (.ref cF, ts2 K i k s) :: l) (.ref cF) none (fun rho' => rho' = ((rho.set k (.dat (.list [.str s, .bool true]))).set i .unk)) := by
  intro D G0 H0 σ G H da x r xo fin
  refine ⟨false, h0, (fun h => nomatch h), fun _ => ⟨true, h1, fun _ a ha => ?_, fun h => nomatch h⟩⟩
  have hsi : (σ.set i (some (V.ref a)))[i]? = some (some (.ref a)) := by rw [List.getElem?_set_self (by rw [r.len]; exact hi)]
  refine ⟨_, hsi, .ty "ValueError", .type "ValueError", rfl, fun u hu => ?_, h2, (show (2 : Nat) ≤ sizeLine from by decide), fun p hp => ?_⟩
  · first
      | exact hu
      | (cases hu; rfl)
  · have x2 := Nx.new (o := .lst [.str s, .bl true]) x.s hp
    have r2 := ((r.nx x2).setD (i := k) (v := .ref p) (d := .list [.str s, .bool true]) (.lst (SqL.of upd_same) (.cons (.str s) (.cons (.bl true) .nil)))).unkSet i none
    have es : ((σ.set i (some (V.ref a))).set k (some (.ref p))).set i none = (σ.set k (some (.ref p))).set i none := by
      apply List.ext_getElem?
      intro j
      by_cases e : i = j
      · subst e
        rw [List.getElem?_set_self (by simp only [List.length_set]; rw [r.len]; exact hi), List.getElem?_set_self (by simp only [List.length_set]; rw [r.len]; exact hi)]
      · rw [List.getElem?_set_ne e, List.getElem?_set_ne e]
        by_cases e2 : k = j
        · subst e2
          by_cases hl : k < σ.length
          · rw [List.getElem?_set_self (by rw [List.length_set]; exact hl), List.getElem?_set_self hl]
          · rw [List.getElem?_eq_none (by simp only [List.length_set]; omega), List.getElem?_eq_none (by simp only [List.length_set]; omega)]
        · rw [List.getElem?_set_ne e2, List.getElem?_set_ne e2, List.getElem?_set_ne e]
    show D.nx (((σ.set i (some (V.ref a))).set k (some (.ref p))).set i none) _
    rw [es]
    exact fin _ _ _ _ rfl (x.trans x2) r2
end
end DL

set_option maxRecDepth 100000
set_option maxHeartbeats 4000000
namespace Fs
open PySem L2 DL NS
local macro_rules | `(tactic| walk_at "vis") => `(tactic| (intro _; first | exact Or.inl rfl | exact Or.inr (Or.inl rfl) | exact Or.inr (Or.inr rfl)))
local macro_rules | `(tactic| walk_at "loc") => `(tactic| (intro _; first | exact Or.inl rfl | exact Or.inr rfl))
local macro_rules | `(tactic| walk_at "fnl") => `(tactic| (intro _; first | exact Or.inr rfl | exact Or.inl rfl))
local macro_rules | `(tactic| walk_at "len") => `(tactic| (simp only [List.length_append, List.length_map, List.length_nil, List.length_cons]; omega))
local macro_rules | `(tactic| walk_at "blk") => `(tactic| (intro _; kernel_rfl))
section
variable {P : Program} {w : World} {K : PySem.W.Frag} {mg : Str → Option Value} {base : Heap} {f : Addr} {fd : FuncData}


variable {cN cF fI : Addr} {file : Str}
/-! ### what is heard -/
structure Hd (K : PySem.W.Frag) (mg : Str → Option Value) (cN cF : Addr) : Prop where
  eNN : PySem.W.exmOne K (.ref cN) (.ref cN) = some true
  eFN : PySem.W.exmOne K (.ref cF) (.ref cN) = some false
  eFF : PySem.W.exmOne K (.ref cF) (.ref cF) = some true
  kN : PySem.W.kitOne K (.ref cN) (.type "ValueError") = some true
  kF : PySem.W.kitOne K (.ref cF) (.type "ValueError") = some true
  xf : XfC K cN
  noN : PySem.W.findIn K (.ref cN) "name" = some none
  gN : mg "NotJoinable" = some (.ref cN)
  gF : mg "NoFit" = some (.ref cF)
  gV : mg "ValueError" = none
def heardD (door : Int) (p q : Part) : PyData := match sortE .str (unj p q) with
  | t :: _ => .list [.str "joinable", .str t, .bool true]
  | [] => if ((0, 0) : Pr) ∈ badOf p q then .list [.str "no fit", .bool true] else if door = 0 then ePart (joinPart p q) else .tuple ((walkAll p q).1.map ePr)
abbrev n__law_heard : List Str := ["_law_door", "_law_mine_so", "_law_its_so", "error", "_law_caught", "_law_said_so"]
abbrev s__law_heard : Stmt := top 50
theorem sc__law_heard : FnScope ["_law_door", "_law_mine_so", "_law_its_so", "error", "_law_caught", "_law_said_so"] ["_law_door", "_law_mine_so", "_law_its_so"] (defScope s__law_heard) := ⟨rfl, rfl, rfl, by decide +kernel, rfl, by decide +kernel, by decide +kernel⟩
def preHeard (ds : List PyData) (r : PyData) : Prop := ∃ (door : Int) (d e : PyData) (p q : Part), Soft d p ∧ Soft e q ∧ ds = [.int door, d, e] ∧ r = heardD door p q
theorem ok_law_heard (F : Fun K "_law_heard" "_law_heard" s__law_heard f fd) (T : Blt mg) (D : Hd K mg cN cF) (h_joined : FnX P w K mg base "joined" 8 ["one", "other"] (spX K preJoin (errWalk cN cF))) (h_joined_pairs : FnX P w K mg base "joined_pairs" 8 ["one", "other"] (spX K preJp (errWalk cN cF))) :
    FnOk P w K mg base CX0 9 f fd ["_law_door", "_law_mine_so", "_law_its_so"] (spD K preHeard) :=
  fn_ok F sc__law_heard (fun ds d h => by obtain ⟨_, _, _, _, _, _, _, rfl, _⟩ := h; rfl) fun cdv A outer s0 H E hr ds d hp => by
    obtain ⟨door, d1, d2, p, q, g1, g2, rfl, rfl⟩ := hp
    refine ds_asgV (.tuple [.none, .none]) [4, 5] (ef_tup (ea_cons ef_non (ea_cons ef_non ea_nil))) (eg_tup (egs_cons (eg_name 4 rfl (by decide) (by walk_at "loc") (by walk_at "fnl")) (egs_cons (eg_name 5 rfl (by decide) (by walk_at "loc") (by walk_at "fnl")) egs_nil))) ?_
    show DS _ _ [.dat (.int door), .dat d1, .dat d2, .unk, .dat .none, .dat .none] _
    refine ds_tryAsg (res := fun r => sortE .str (unj p q) = [] ∧ ((0, 0) : Pr) ∉ badOf p q ∧ r = (if door = 0 then ePart (joinPart p q) else .tuple ((walkAll p q).1.map ePr)))
      (er := fun c x => (∃ t ts, sortE .str (unj p q) = t :: ts ∧ c = .ref cN ∧ x = some (.str t)) ∨ (sortE .str (unj p q) = [] ∧ ((0, 0) : Pr) ∈ badOf p q ∧ c = .ref cF ∧ x = none))
      5 3 [(.ref cN, ts3 K cN 3 4 "joinable"), (.ref cF, ts2 K 3 4 "no fit")]
      (fun r => ∃ x, x ≠ .none ∧ r = [.dat (.int door), .dat d1, .dat d2, .unk, .dat x, .dat .none] ∧ x = heardD door p q) (fun _ => rfl) (fun _ => rfl) rfl (fun _ => rfl) (fun i => ?_) (fun V => ?_) (fun d hd => ?_) (fun cls dd he => ?_) (fun r hr => ?_) rfl (by walk_at "loc")
    · refine .more ⟨rfl, by decide, .inl (show mg "NotJoinable" = _ from D.gN)⟩ (fun a ob cl dd pn hz hf => ?_) (.more ⟨rfl, by decide, .inl (show mg "NoFit" = _ from D.gF)⟩ (fun a ob cl dd pn hz hf => ?_) .done)
      · refine pss_cons (ps_set (i := 4) (show n__law_heard.Nodup from sc__law_heard.nd) rfl (.inl rfl) (pe_lst (pa_cons pe_str (pa_cons (pe_xf D.xf D.noN hz hf (pe_var (i := 3) rfl (.inl rfl) (by decide) (by decide))) (pa_cons (pe_callB (call_yesE hz) rfl (show mg "isinstance" = _ from T.isi) PyProof.Rows.boot_isinstance
          (pa_cons (pe_var (i := 3) rfl (.inl rfl) (by decide) (by decide)) (pa_cons (pe_bltn rfl (show mg "ValueError" = _ from D.gV) (show bootBuiltins "ValueError" = some (.type "ValueError") from by first | rfl | decide +kernel) rfl) pa_nil))) pa_nil)))) rfl (.inl rfl)) pss_nil
      · refine pss_cons (ps_set (i := 4) (show n__law_heard.Nodup from sc__law_heard.nd) rfl (.inl rfl) (pe_lst (pa_cons pe_str (pa_cons (pe_callB (call_yesE hz) rfl (show mg "isinstance" = _ from T.isi) PyProof.Rows.boot_isinstance
          (pa_cons (pe_var (i := 3) rfl (.inl rfl) (by decide) (by decide)) (pa_cons (pe_bltn rfl (show mg "ValueError" = _ from D.gV) (show bootBuiltins "ValueError" = some (.type "ValueError") from by first | rfl | decide +kernel) rfl) pa_nil))) pa_nil))) rfl (.inl rfl)) pss_nil
    · cases hU : sortE .str (unj p q) with
      | cons t ts =>
        have er1 : ∃ cls dd, errWalk cN cF [d1, d2] cls dd ∧ ((∃ t' ts', t :: ts = t' :: ts' ∧ cls = .ref cN ∧ dd = some (.str t')) ∨ ((t :: ts : List Str) = [] ∧ ((0, 0) : Pr) ∈ badOf p q ∧ cls = .ref cF ∧ dd = none)) := ⟨.ref cN, some (.str t), .inl ⟨d1, d2, p, q, t, ts, g1, g2, hU, rfl, rfl, rfl⟩, .inl ⟨t, ts, rfl, rfl, rfl⟩⟩
        exact ex_if (et_cmp (ec_eq (ef_var 0 rfl rfl (by walk_at "vis")) ef_int)) (fun h => ex_call h_joined (ea_cons (ef_var 1 rfl rfl (by walk_at "vis")) (ea_cons (ef_var 2 rfl rfl (by walk_at "vis")) ea_nil)) (.inr er1) (Nat.le_of_ble_eq_true rfl) (by intro _; rfl)) (fun h => ex_call h_joined_pairs (ea_cons (ef_var 1 rfl rfl (by walk_at "vis")) (ea_cons (ef_var 2 rfl rfl (by walk_at "vis")) ea_nil)) (.inr er1) (Nat.le_of_ble_eq_true rfl) (by intro _; rfl))
      | nil =>
        have hu : unj p q = [] := List.eq_nil_of_length_eq_zero (by rw [← sortE_len .str, hU]; rfl)
        by_cases hb : ((0, 0) : Pr) ∈ badOf p q
        · have er1 : ∃ cls dd, errWalk cN cF [d1, d2] cls dd ∧ ((∃ t' ts', ([] : List Str) = t' :: ts' ∧ cls = .ref cN ∧ dd = some (.str t')) ∨ (([] : List Str) = [] ∧ ((0, 0) : Pr) ∈ badOf p q ∧ cls = .ref cF ∧ dd = none)) := ⟨.ref cF, none, .inr ⟨d1, d2, p, q, g1, g2, hu, hb, rfl, rfl, rfl⟩, .inr ⟨rfl, hb, rfl, rfl⟩⟩
          exact ex_if (et_cmp (ec_eq (ef_var 0 rfl rfl (by walk_at "vis")) ef_int)) (fun h => ex_call h_joined (ea_cons (ef_var 1 rfl rfl (by walk_at "vis")) (ea_cons (ef_var 2 rfl rfl (by walk_at "vis")) ea_nil)) (.inr er1) (Nat.le_of_ble_eq_true rfl) (by intro _; rfl)) (fun h => ex_call h_joined_pairs (ea_cons (ef_var 1 rfl rfl (by walk_at "vis")) (ea_cons (ef_var 2 rfl rfl (by walk_at "vis")) ea_nil)) (.inr er1) (Nat.le_of_ble_eq_true rfl) (by intro _; rfl))
        · exact ex_if (et_cmp (ec_eq (ef_var 0 rfl rfl (by walk_at "vis")) ef_int)) (fun h => ex_call h_joined (ea_cons (ef_var 1 rfl rfl (by walk_at "vis")) (ea_cons (ef_var 2 rfl rfl (by walk_at "vis")) ea_nil)) (.inl ⟨_, ⟨d1, d2, p, q, g1, g2, hu, hb, rfl, rfl⟩, rfl, hb, (if_pos (of_decide_eq_true h)).symm⟩) (Nat.le_of_ble_eq_true rfl) (by intro _; rfl))
            (fun h => ex_call h_joined_pairs (ea_cons (ef_var 1 rfl rfl (by walk_at "vis")) (ea_cons (ef_var 2 rfl rfl (by walk_at "vis")) ea_nil)) (.inl ⟨_, ⟨d1, d2, p, q, g1, g2, hu, hb, rfl, rfl⟩, rfl, hb, (if_neg (of_decide_eq_false h)).symm⟩) (Nat.le_of_ble_eq_true rfl) (by intro _; rfl))
    · obtain ⟨hU, hb, rfl⟩ := hd
      generalize hz : (if door = 0 then ePart (joinPart p q) else .tuple ((walkAll p q).1.map ePr)) = z
      show DS _ _ [.dat (.int door), .dat d1, .dat d2, .unk, .dat .none, .dat z] _
      refine ds_ret (ef_if (k := true) (ET.is (k := isNoneD .none) (et_cmp (ec_isN (ef_var 4 rfl rfl (by walk_at "vis")) ef_non)) rfl) (fun _ => (ef_var 5 rfl rfl (by walk_at "vis"))) (fun h => nomatch h)) ?_
      show z = heardD door p q
      unfold heardD
      rw [hU, if_neg hb, hz]
    · rcases he with ⟨t, ts, hU, rfl, rfl⟩ | ⟨hU, hb, rfl, rfl⟩
      · exact fun D' G0 H0 σ G H da x r xo fin => caught3 (by decide) (show 3 < 6 from by decide) D.eNN D.kN D' G0 H0 σ G H da x r xo fun rho' σ' G' H' h => fin rho' σ' G' H' ⟨_, (by simp), h, (by unfold heardD; rw [hU])⟩
      · exact fun D' G0 H0 σ G H da x r xo fin => caught2 (by decide) (show 3 < 6 from by decide) D.eFN D.eFF D.kF D' G0 H0 σ G H da x r xo fun rho' σ' G' H' h => fin rho' σ' G' H' ⟨_, (by simp), h, (by unfold heardD; rw [hU, if_pos hb])⟩
    · obtain ⟨x, hx, rfl, rfl⟩ := hr
      have hk : isNoneD (heardD door p q) = false := by revert hx; cases heardD door p q <;> simp [isNoneD]
      refine ds_ret (d := heardD door p q) (ef_if (k := false) (ET.is (et_cmp (ec_isN (ef_var 4 rfl rfl (by walk_at "vis")) ef_non)) hk) (fun h => nomatch h) (fun _ => (ef_var 4 rfl rfl (by walk_at "vis")))) ?_
      rfl
end
end Fs

set_option maxRecDepth 100000
set_option maxHeartbeats 4000000
namespace Fs
open PySem L2 DL NS
local macro_rules | `(tactic| walk_at "vis") => `(tactic| (intro _; first | exact Or.inl rfl | exact Or.inr (Or.inl rfl) | exact Or.inr (Or.inr rfl)))
local macro_rules | `(tactic| walk_at "loc") => `(tactic| (intro _; first | exact Or.inl rfl | exact Or.inr rfl))
local macro_rules | `(tactic| walk_at "fnl") => `(tactic| (intro _; first | exact Or.inr rfl | exact Or.inl rfl))
local macro_rules | `(tactic| walk_at "len") => `(tactic| (simp only [List.length_append, List.length_map, List.length_nil, List.length_cons]; omega))
local macro_rules | `(tactic| walk_at "blk") => `(tactic| (intro _; kernel_rfl))
section
variable {P : Program} {w : World} {K : PySem.W.Frag} {mg : Str → Option Value} {base : Heap} {f : Addr} {fd : FuncData}


variable {cN cF fI : Addr} {file : Str}
theorem exF {C : Ctx P w K mg base} {rho : List SV} {e : Expr} {d : PyData} (h : EX C rho e (fun r => r = d) (fun _ _ => False)) : EF C rho e d := fun B σ G H Q r q => h (fun _ _ _ _ => False) (fun _ => takes0) B σ G H Q r (fun v d' G' H' hd x t => by
  have hd' : d' = d := hd
  subst hd'
  exact q v G' H' x t) (fun _ _ _ _ _ z => z.elim)
theorem ef_callX {C : Ctx P w K mg base} {rho : List SV} {e : Expr} {es : List Expr} {ds : List PyData} {pos pn : Pos} {x : Str} {k : Nat} {ps : List Str} {pre : List PyData → PyData → Prop} {preE : List PyData → Value → Option PyData → Prop} (d : PyData) (F : FnX P w K mg base x k ps (spX K pre preE)) (ha : EA C rho (e :: es) ds) (hp : pre ds d) (hk : k ≤ C.j) (hg : ∀ i, Gl (C.X i) x) (hdb : (x == ("__debug__" : Str)) = false := by decide)
    (he : ∀ i, starEach (e :: es) (C.X i).env = (false, eval e (C.X i).env) :: starEach es (C.X i).env := by intro _; rfl) (hpl : ∀ i, (backTo pos (starEach es (C.X i).env)).any (·.1) = false := by intro _; rfl) : EF C rho (.Call (.Name x pn) (e :: es) [] pos) d := exF (ex_call F ha (.inl ⟨d, hp, rfl⟩) hk hg hdb he hpl)
/-- what the law's drawn pairs are -/
structure PairOk (p q : Part) : Prop where
  s1 : Soft (ePart p) p
  s2 : Soft (ePart q) q
  l1 : Soft (listD (ePart p)) p
  l2 : Soft (listD (ePart q)) q
  u : unj p q = []
  bad : ((0, 0) : Pr) ∈ badOf p q ↔ ((0, 0) : Pr) ∈ lbad p q
  all : ((0, 0) : Pr) ∉ badOf p q → joinPart p q = lawPart p q ∧ (walkAll p q).1 = (lawAll p q).1 ∧ (joinPart p q).Good
  short : ((walkAll p q).1).length ≤ 1000 ∧ (walkAll p q).2.length ≤ 1000 ∧ (joinPart p q).takes.length ≤ 1000 ∧ (joinPart p q).makes.length ≤ 1000
theorem ps_ePart {n : Nat} {p : Part} (h1 : p.takes.length ≤ 1000) (h2 : p.makes.length ≤ 1000) (h3 : p.steps.length ≤ 1000) : Ps (n + 3) (ePart p) := by
  refine .tuple (fun d hd => ?_) (show 4 ≤ 1000 from by decide)
  simp only [List.mem_cons, List.not_mem_nil, or_false] at hd
  rcases hd with rfl | rfl | rfl | rfl
  · exact .tuple (fun d hd => by obtain ⟨c, _, rfl⟩ := List.mem_map.mp hd; exact .str c) (by rw [List.length_map]; exact h1)
  · exact .tuple (fun d hd => by obtain ⟨c, _, rfl⟩ := List.mem_map.mp hd; exact .str c) (by rw [List.length_map]; exact h2)
  · exact .int _
  · refine .tuple (fun d hd => ?_) (by rw [List.length_map]; exact h3)
    obtain ⟨c, _, rfl⟩ := List.mem_map.mp hd
    refine .tuple (fun d hd => ?_) (show 3 ≤ 1000 from by decide)
    simp only [List.mem_cons, List.not_mem_nil, or_false] at hd
    rcases hd with rfl | rfl | rfl
    · exact .int _
    · exact .str _
    · exact .int _
def dueD (p q : Part) : List PyData := if ((0, 0) : Pr) ∈ lbad p q then [.list [.str "no fit", .bool true], .list [.str "no fit", .bool true]] else [ePart (lawPart p q), .tuple ((lawAll p q).1.map ePr)]
theorem ps_prs {n : Nat} {l : List Pr} (h : l.length ≤ 1000) : Ps (n + 2) (.tuple (l.map ePr)) := by
  refine .tuple (fun d hd => ?_) (by rw [List.length_map]; exact h)
  obtain ⟨c, _, rfl⟩ := List.mem_map.mp hd
  refine .tuple (fun d hd => ?_) (show 2 ≤ 1000 from by decide)
  simp only [List.mem_cons, List.not_mem_nil, or_false] at hd
  rcases hd with rfl | rfl
  · exact .int _
  · exact .int _
abbrev n__law_right : List Str := ["_law_tub", "_law_turn", "_law_soft", "_law_got", "_law_near", "_law_far", "_law_due", "_law_door"]
abbrev s__law_right : Stmt := top 54
theorem sc__law_right : FnScope ["_law_tub", "_law_turn", "_law_soft", "_law_got", "_law_near", "_law_far", "_law_due", "_law_door"] ["_law_tub"] (defScope s__law_right) := ⟨rfl, rfl, rfl, by decide +kernel, rfl, by decide +kernel, by decide +kernel⟩
def preRight (ds : List PyData) (m m' : Nat) (R : PyData → Prop) : Prop := m < 2 ^ 30 ∧ ds = [] ∧ m' = m + 1000 ∧ R = fun d => d = .bool true
theorem ok_law_right (F : Fun K "_law_right" "_law_right" s__law_right f fd) (T : Blt mg) (pair : ∀ p q, Pair2 p q → PairOk p q) (h__law_two : Fn P w K mg base "_law_two" 4 ["_law_tub", "_law_many_so"] (spM K preTwo)) (h__law_bad : Fn P w K mg base "_law_bad" 4 ["_law_near", "_law_far"] (spD K preLbad))
    (h__law_all : Fn P w K mg base "_law_all" 5 ["_law_near", "_law_far"] (spD K preLall)) (h_is_part : Fn P w K mg base "is_part" 3 ["thing"] (spD K prePart)) (h_joined : FnX P w K mg base "joined" 8 ["one", "other"] (spX K preJoin (errWalk cN cF)))
    (h__law_lists : Fn P w K mg base "_law_lists" 4 ["_law_matter"] (spD K (preLists 3))) (h__law_heard : Fn P w K mg base "_law_heard" 9 ["_law_door", "_law_mine_so", "_law_its_so"] (spD K preHeard)) (h__law_same : Fn P w K mg base "_law_same" 6 ["_law_got", "_law_due"] (spD K (preSame 5))) :
    FnOk P w K mg base CX0 10 f fd ["_law_tub"] (spM K preRight) :=
  fn_okM F sc__law_right (fun ds m m' R h => by obtain ⟨_, rfl, _⟩ := h; rfl) fun cdv A outer s H E hr ds m m' R hp p tub tb => by
    obtain ⟨hm, rfl, rfl, rfl⟩ := hp
    show DS _ _ [tubS p tub, .unk, .unk, .unk, .unk, .unk, .unk, .unk] _
    refine ds_for (rng 10) .int (ei_rng T ef_int ?_) (fun i rho => ∃ tub' s1 s2 s3 s4 s5 s6 s7, rho = [tubS p tub', s1, s2, s3, s4, s5, s6, s7] ∧ DL.Tb (m + 100 * i) tub') ⟨tub, _, _, _, _, _, _, _, rfl, tb⟩ ?_ ?_ (fun _ => PassesOwn.never)
    · constructor <;> decide
    · rintro i x rho hx ⟨tub', s1, s2, s3, s4, s5, s6, s7, rfl, tb'⟩
      have hi : i < 10 := by
        have := (List.getElem?_eq_some_iff.mp hx).1
        rw [rng_len] at this
        exact this
      refine ⟨_, [1], (eg_name 1 rfl (by decide) (by walk_at "loc") (by walk_at "fnl")), ?_⟩
      show DS _ _ [tubS p tub', .dat (.int x), s2, s3, s4, s5, s6, s7] _
      refine ds_asgM (em_call h__law_two (fun p tub _ => (ea_cons ef_int ea_nil)) ⟨by omega, rfl, rfl, rfl⟩ (Nat.le_of_ble_eq_true rfl) rfl (by walk_at "vis") (by intro _; rfl)) tb' (fun d tub2 hd tb2 => ?_)
      obtain ⟨np, nq, rfl, hpr⟩ := hd
      have ok := pair np nq hpr
      refine ⟨_, [4, 5], (eg_tup (egs_cons (eg_name 4 rfl (by decide) (by walk_at "loc") (by walk_at "fnl")) (egs_cons (eg_name 5 rfl (by decide) (by walk_at "loc") (by walk_at "fnl")) egs_nil))), ?_⟩
      show DS _ _ [tubS p tub2, .dat (.int x), s2, s3, .dat (ePart np), .dat (ePart nq), s6, s7] _
      refine ds_ifV (decide (((0, 0) : Pr) ∈ lbad np nq)) (fun r => r = [tubS p tub2, .dat (.int x), s2, s3, .dat (ePart np), .dat (ePart nq), .dat (.list (dueD np nq)), s7]) ⟨_, et_cmp (ec_inPr (x := ((0, 0) : Pr)) (ef_tup (ea_cons ef_int (ea_cons ef_int ea_nil))) (EF.l (ef_callV (.list ((lbad np nq).map ePr)) h__law_bad (ea_cons (ef_var 4 rfl rfl (by walk_at "vis")) (ea_cons (ef_var 5 rfl rfl (by walk_at "vis")) ea_nil)) ?_ (Nat.le_of_ble_eq_true rfl) (by intro _; rfl)))), rfl⟩ (fun hb => ?_) (fun hb => ?_) (fun r hr => ?_)
      · exact ⟨np, nq, ok.s1.sm, ok.s2.sm, rfl, rfl⟩
      · have hb := of_decide_eq_true hb
        refine ds_setF 6 (.list (dueD np nq)) ⟨_, (EN.f (en_rep (EN.s (en_lst (ea_cons (EN.f (en_lst (ea_cons ef_str (ea_cons ef_bl ea_nil)))) ea_nil))) ef_int ?_ ?_ ?_)), ?_⟩ (ds_nil rfl) rfl (by walk_at "loc")
        · decide
        · decide
        · exact (by decide : (1 : Nat) * 2 ≤ 100000)
        · unfold dueD
          rw [if_pos hb]
          rfl
      · have hb := of_decide_eq_false hb
        have hb2 : ((0, 0) : Pr) ∉ badOf np nq := fun h => hb (ok.bad.mp h)
        refine ds_setF 6 (.list (dueD np nq)) ⟨_, (EN.f (en_rev (EN.l (en_list T (EF.t (ef_callV (.tuple [.tuple ((lawAll np nq).1.map ePr), ePart (lawPart np nq)]) h__law_all (ea_cons (ef_var 4 rfl rfl (by walk_at "vis")) (ea_cons (ef_var 5 rfl rfl (by walk_at "vis")) ea_nil)) ?_ (Nat.le_of_ble_eq_true rfl) (by intro _; rfl))))))), ?_⟩ ?_ rfl (by walk_at "loc")
        · exact ⟨np, nq, ok.s1.sm, ok.s2.sm, rfl, rfl⟩
        · unfold dueD
          rw [if_neg hb]
          rfl
        refine ds_if1V false ⟨_, et_not (et_val (ef_callV (.bool true) h_is_part (ea_cons (ef_callX (ePart (joinPart np nq)) h_joined (ea_cons (ef_var 4 rfl rfl (by walk_at "vis")) (ea_cons (ef_var 5 rfl rfl (by walk_at "vis")) ea_nil)) ?_ (Nat.le_of_ble_eq_true rfl) (by intro _; rfl)) ea_nil) ⟨_, (ok.all hb2).2.2, rfl, rfl⟩ (Nat.le_of_ble_eq_true rfl) (by intro _; rfl))), rfl⟩ (fun h => nomatch h) (fun _ => ds_nil rfl)
        exact ⟨_, _, np, nq, ok.s1, ok.s2, ok.u, hb2, rfl, rfl⟩
      · subst hr
        have a1 := ok.s1.sm.t; have a2 := ok.s1.sm.m; have a3 := ok.s1.sm.s; have b1 := ok.s2.sm.t; have b2 := ok.s2.sm.m; have b3 := ok.s2.sm.s
        refine ds_setF 2 (.list [listD (ePart np), listD (ePart nq)]) ⟨_, (EN.f (en_lst (ea_cons (ef_callV (listD (ePart np)) h__law_lists (ea_cons (ef_var 4 rfl rfl (by walk_at "vis")) ea_nil) ?_ (Nat.le_of_ble_eq_true rfl) (by intro _; rfl)) (ea_cons (ef_callV (listD (ePart nq)) h__law_lists (ea_cons (ef_var 5 rfl rfl (by walk_at "vis")) ea_nil) ?_ (Nat.le_of_ble_eq_true rfl) (by intro _; rfl)) ea_nil)))), rfl⟩ ?_ rfl (by walk_at "loc") (by intro _; rfl) (by walk_at "fnl")
        · exact ⟨_, ps_ePart (n := 0) (by omega) (by omega) (by omega), rfl, rfl⟩
        · exact ⟨_, ps_ePart (n := 0) (by omega) (by omega) (by omega), rfl, rfl⟩
        show DS _ _ [tubS p tub2, .dat (.int x), .dat (.list [listD (ePart np), listD (ePart nq)]), s3, .dat (ePart np), .dat (ePart nq), .dat (.list (dueD np nq)), s7] _
        refine ds_setF 3 (.list (dueD np nq ++ dueD np nq)) ⟨_, (EN.f (en_catL (EN.l (en_lc0 (own := [("_law_door", 7)]) (rng 2) (.int) (fun x => heardD x np nq) (EI.h (ei_rng T ef_int ?_)) (by walk_at "blk") (fun x hx => ⟨_, (eg_name 7 rfl (by decide) (by walk_at "loc") (by walk_at "fnl")), (ef_callV (heardD x np nq) h__law_heard (ea_cons (ef_var 7 rfl rfl (by walk_at "vis")) (ea_cons (ef_var 4 rfl rfl (by walk_at "vis")) (ea_cons (ef_var 5 rfl rfl (by walk_at "vis")) ea_nil))) ?_ (Nat.le_of_ble_eq_true rfl) (by intro _; rfl))⟩) ?_)) (EN.l (en_lc0 (own := [("_law_door", 7)]) (rng 2) (.int) (fun x => heardD x np nq) (EI.h (ei_rng T ef_int ?_)) (by walk_at "blk") (fun x hx => ⟨_, (eg_name 7 rfl (by decide) (by walk_at "loc") (by walk_at "fnl")), (ef_callV (heardD x np nq) h__law_heard (ea_cons (ef_var 7 rfl rfl (by walk_at "vis")) (ea_cons (ef_ixLN 0 (EF.l (ef_var 2 rfl rfl (by walk_at "vis"))) ef_int rfl) (ea_cons (ef_ixLN 1 (EF.l (ef_var 2 rfl rfl (by walk_at "vis"))) ef_int rfl) ea_nil))) ?_ (Nat.le_of_ble_eq_true rfl) (by intro _; rfl))⟩) ?_)) ?_)), ?_⟩ ?_ rfl (by walk_at "loc")
        · constructor <;> decide
        · exact ⟨x, _, _, np, nq, ok.s1, ok.s2, rfl, rfl⟩
        · rw [rng_len]; decide
        · constructor <;> decide
        · exact ⟨x, _, _, np, nq, ok.l1, ok.l2, rfl, rfl⟩
        · rw [rng_len]; decide
        · simp only [List.length_map, rng_len]; decide
        · have hU : sortE .str (unj np nq) = [] := List.eq_nil_of_length_eq_zero (by rw [sortE_len, ok.u]; rfl)
          refine congrArg _ ?_
          show [heardD 0 np nq, heardD 1 np nq, heardD 0 np nq, heardD 1 np nq] = _
          unfold dueD heardD
          rw [hU]
          by_cases hb : ((0, 0) : Pr) ∈ lbad np nq
          · simp only [if_pos hb, if_pos (ok.bad.mpr hb)]
            rfl
          · have hb2 : ((0, 0) : Pr) ∉ badOf np nq := fun h => hb (ok.bad.mp h)
            obtain ⟨q1, q2, _⟩ := ok.all hb2
            simp only [if_neg hb, if_neg hb2, q1, q2]
            rfl
        show DS _ _ [tubS p tub2, .dat (.int x), .dat (.list [listD (ePart np), listD (ePart nq)]), .dat (.list (dueD np nq ++ dueD np nq)), .dat (ePart np), .dat (ePart nq), .dat (.list (dueD np nq)), s7] _
        have hps : ∀ d ∈ dueD np nq, Ps 4 d := fun d hd => by
          unfold dueD at hd
          by_cases hb : ((0, 0) : Pr) ∈ lbad np nq
          · rw [if_pos hb] at hd
            simp only [List.mem_cons, List.not_mem_nil, or_false, or_self] at hd
            subst hd
            refine .list (fun d hd => ?_) (by decide)
            simp only [List.mem_cons, List.not_mem_nil, or_false] at hd
            rcases hd with rfl | rfl
            · exact .str _
            · exact .bool _
          · rw [if_neg hb] at hd
            obtain ⟨q1, q2, _⟩ := ok.all (fun h => hb (ok.bad.mp h))
            obtain ⟨l1, l2, l3, l4⟩ := ok.short
            simp only [List.mem_cons, List.not_mem_nil, or_false] at hd
            rcases hd with rfl | rfl
            · rw [← q1]
              exact ps_ePart (n := 1) l3 l4 (by show (sortE eStp _).length ≤ _; rw [sortE_len]; exact l2)
            · rw [← q2]
              exact ps_prs (n := 2) l1
        have hdl : (dueD np nq).length = 2 := by unfold dueD; split <;> rfl
        refine ds_if1V false ⟨_, (et_not (et_val (ef_callV (.bool true) h__law_same (ea_cons (ef_var 3 rfl rfl (by walk_at "vis")) (ea_cons (EN.f (en_catL (EF.l (ef_var 6 rfl rfl (by walk_at "vis"))) (EF.l (ef_var 6 rfl rfl (by walk_at "vis"))) ?_)) ea_nil)) ?_ (Nat.le_of_ble_eq_true rfl) (by intro _; rfl)))), rfl⟩ (fun h => nomatch h) (fun _ => ds_nil ⟨tub2, _, _, _, _, _, _, _, rfl, tb2.mono (by omega)⟩)
        · rw [hdl]; decide
        · refine ⟨.list (dueD np nq ++ dueD np nq), .list (fun d hd => ?_) (by rw [List.length_append, hdl]; decide), rfl, rfl⟩
          rcases List.mem_append.mp hd with hd | hd
          · exact hps d hd
          · exact hps d hd
    · rintro rho ⟨tub', s1, s2, s3, s4, s5, s6, s7, rfl, tb'⟩
      rw [rng_len] at tb'
      exact ds_ret ef_bl ⟨rfl, tub', rfl, tb'.mono (by show m + 100 * 10 ≤ _; omega)⟩
end
end Fs

set_option maxRecDepth 100000
set_option maxHeartbeats 4000000
namespace Fs
open PySem L2 DL NS
local macro_rules | `(tactic| walk_at "vis") => `(tactic| (intro _; first | exact Or.inl rfl | exact Or.inr (Or.inl rfl) | exact Or.inr (Or.inr rfl)))
local macro_rules | `(tactic| walk_at "loc") => `(tactic| (intro _; first | exact Or.inl rfl | exact Or.inr rfl))
local macro_rules | `(tactic| walk_at "fnl") => `(tactic| (intro _; first | exact Or.inr rfl | exact Or.inl rfl))
local macro_rules | `(tactic| walk_at "len") => `(tactic| (simp only [List.length_append, List.length_map, List.length_nil, List.length_cons]; omega))
local macro_rules | `(tactic| walk_at "blk") => `(tactic| (intro _; kernel_rfl))
section
variable {P : Program} {w : World} {K : PySem.W.Frag} {mg : Str → Option Value} {base : Heap} {f : Addr} {fd : FuncData}


variable {cN cF fI : Addr} {file : Str}
abbrev n_law : List Str := ["_law_script", "_law_cells_so", "_law_k"]
abbrev s_law : Stmt := top 55
theorem sc_law : FnScope ["_law_script", "_law_cells_so", "_law_k"] ["_law_script"] (defScope s_law) := ⟨rfl, rfl, rfl, by decide +kernel, rfl, by decide +kernel, by decide +kernel⟩
def preLaw (ds : List PyData) (r : PyData) : Prop := ∃ s : List Int, s.length ≤ 63 ∧ ds = [.list (s.map .int)] ∧ r = .bool true
theorem ok_law (F : Fun K "law" "law" s_law f fd) (T : Blt mg) (h__law_by_hand_right : Fn P w K mg base "_law_by_hand_right" 12 [] (spD K fun ds r => ds = [] ∧ r = .bool true)) (h__law_cells : Fn P w K mg base "_law_cells" 1 ["_law_script", "_law_most_so"] (spD K preCells))
    (h__law_box : Fn P w K mg base "_law_box" 1 ["_law_script", "_law_k"] (spN K preBox)) (h__law_right : Fn P w K mg base "_law_right" 10 ["_law_tub"] (spM K preRight)) : FnOk P w K mg base CX0 13 f fd ["_law_script"] (spD K preLaw) :=
  fn_ok F sc_law (fun ds d h => by obtain ⟨_, _, rfl, _⟩ := h; rfl) fun cdv A outer s0 H E hr ds d hp => by
    obtain ⟨s, hs, rfl, rfl⟩ := hp
    show DS _ _ [.dat (.list (s.map .int)), .unk, .unk] _
    refine ds_if1V false ⟨_, et_not (et_val (ef_call0 (d := .bool true) h__law_by_hand_right ⟨rfl, rfl⟩ (Nat.le_of_ble_eq_true rfl) (by intro _; rfl))), rfl⟩ (fun h => nomatch h) (fun _ => ?_)
    refine ds_setF 1 (.list ((lawCells s).map .int)) ⟨_, (ef_callV (.list ((lawCells s).map .int)) h__law_cells (ea_cons (ef_var 0 rfl rfl (by walk_at "vis")) (ea_cons ef_int ea_nil)) ?_ (Nat.le_of_ble_eq_true rfl) (by intro _; rfl)), rfl⟩ ?_ rfl (by walk_at "loc") (by intro _; rfl) (by walk_at "fnl")
    · exact ⟨s, hs, rfl, rfl⟩
    show DS _ _ [.dat (.list (s.map .int)), .dat (.list ((lawCells s).map .int)), .unk] _
    have hl := lawCells_len s
    refine ds_ret (EF.to (ef_all1 (g := fun _ : Int => true) T (EN.l (en_lc0 (own := [("_law_k", 2)]) (rng ((lawCells s).map PyData.int).length) .int (fun _ => .bool true) (EI.h (ei_rng T (ef_len T (EF.l (ef_var 1 rfl rfl (by walk_at "vis")))) ?_)) (by walk_at "blk")
      (fun x hx => ⟨_, (eg_name 2 rfl (by decide) (by walk_at "loc") (by walk_at "fnl")), ?_⟩) ?_))) ?_) rfl
    · constructor <;> (rw [List.length_map]; omega)
    · have hx2 := mem_rng.mp hx
      rw [List.length_map] at hx2
      obtain ⟨k, rfl⟩ : ∃ k : Nat, x = (k : Int) := ⟨x.toNat, by omega⟩
      have hk : k < (lawCells s).length := by omega
      refine ef_callTub (m1 := 1000) h__law_right (en_callN h__law_box (ea_cons (ef_var 1 rfl rfl (by walk_at "vis")) (ea_cons (ef_var 2 rfl rfl (by walk_at "vis")) ea_nil)) ⟨lawCells s, k, (lawCells s)[k], by omega, List.getElem?_eq_getElem hk, rfl, rfl⟩ (Nat.le_of_ble_eq_true rfl) (by intro _; rfl)) (boxOf_tb _ k (by omega)) ⟨by decide, rfl, rfl, rfl⟩ (Nat.le_of_ble_eq_true rfl) (by intro _; rfl)
    · rw [rng_len, List.length_map]; omega
    · simp
end
end Fs

set_option maxRecDepth 100000
set_option maxHeartbeats 4000000
/-! The mirrors made for the kernel: an own sort. -/
namespace Fs
open PySem L2 DL NS
section
variable {α : Type}
def ins (lt : α → α → Bool) (x : α) : List α → List α
  | [] => [x]
  | y :: ys => if lt y x then y :: ins lt x ys else x :: y :: ys
def isort (lt : α → α → Bool) : List α → List α
  | [] => []
  | x :: xs => ins lt x (isort lt xs)
theorem ins_perm (lt : α → α → Bool) (x : α) : ∀ l : List α, (ins lt x l).Perm (x :: l)
  | [] => .refl _
  | y :: ys => by
    unfold ins
    split
    · exact ((ins_perm lt x ys).cons y).trans (List.Perm.swap x y ys)
    · exact .refl _
theorem isort_perm (lt : α → α → Bool) : ∀ l : List α, (isort lt l).Perm l
  | [] => .refl _
  | x :: xs => (ins_perm lt x _).trans ((isort_perm lt xs).cons x)
abbrev ltK (tk : α → List (Int ⊕ List Nat)) (a b : α) : Bool := PyProof.Rows.lexLt PyProof.Rows.itemOrd (tk a) (tk b)
theorem dle_tk {enc : α → PyData} {tk : α → List (Int ⊕ List Nat)} (ht : ∀ a, PySem.W.keyToks (enc a) = tk a) (a b : α) : PySem.W.dataLe false enc a b = !ltK tk b a := by
  rw [PySem.W.dataLe_eq]
  simp only [cond_false]
  show (!PySem.W.dataLt (enc b) (enc a)) = _
  unfold PySem.W.dataLt
  rw [ht, ht]
theorem ins_sorted {enc : α → PyData} {tk : α → List (Int ⊕ List Nat)} (ht : ∀ a, PySem.W.keyToks (enc a) = tk a) (x : α) : ∀ l : List α, (l.Pairwise fun a b => PySem.W.dataLe false enc a b = true) → (ins (ltK tk) x l).Pairwise fun a b => PySem.W.dataLe false enc a b = true
  | [], _ => by simp [ins]
  | y :: ys, h => by
    have h1 := List.pairwise_cons.mp h
    unfold ins
    split
    · rename_i hl
      refine List.pairwise_cons.mpr ⟨fun z hz => ?_, ins_sorted ht x ys h1.2⟩
      rcases List.mem_cons.mp ((ins_perm _ x ys).mem_iff.mp hz) with rfl | hz
      · have tot := dle_total enc y z
        rw [dle_tk ht z y, hl] at tot
        simpa using tot
      · exact h1.1 z hz
    · rename_i hl
      have hxy : PySem.W.dataLe false enc x y = true := by
        rw [dle_tk ht x y]
        simpa using hl
      refine List.pairwise_cons.mpr ⟨fun z hz => ?_, h⟩
      rcases List.mem_cons.mp hz with rfl | hz
      · exact hxy
      · exact dle_trans enc _ _ _ hxy (h1.1 z hz)
theorem isort_sorted {enc : α → PyData} {tk : α → List (Int ⊕ List Nat)} (ht : ∀ a, PySem.W.keyToks (enc a) = tk a) : ∀ l : List α, (isort (ltK tk) l).Pairwise fun a b => PySem.W.dataLe false enc a b = true
  | [] => List.Pairwise.nil
  | x :: xs => ins_sorted ht x _ (isort_sorted ht xs)
theorem sortE_is {enc : α → PyData} {tk : α → List (Int ⊕ List Nat)} (T : Told enc) (ht : ∀ a, PySem.W.keyToks (enc a) = tk a) (l : List α) : sortE enc l = isort (ltK tk) l :=
  (sortE_of_sorted T (isort_perm _ l) (isort_sorted ht l)).symm
end
def tkS (s : Str) : List (Int ⊕ List Nat) := [.inr s.cps.toList]
def tkP (r : Pr) : List (Int ⊕ List Nat) := [.inl 1, .inl r.1, .inl 1, .inl r.2, .inl 0]
def tkO (o : Out) : List (Int ⊕ List Nat) := [.inl 1, .inr o.1.cps.toList, .inl 1, .inl 1, .inl o.2.1, .inl 1, .inl o.2.2, .inl 0, .inl 0]
def tkT (s : Stp) : List (Int ⊕ List Nat) := [.inl 1, .inl s.1, .inl 1, .inr s.2.1.cps.toList, .inl 1, .inl s.2.2, .inl 0]
theorem is_str (l : List Str) : sortE .str l = isort (ltK tkS) l := sortE_is told_str (fun a => by simp [PySem.W.keyToks, tkS]) l
theorem is_pr (l : List Pr) : sortE ePr l = isort (ltK tkP) l := sortE_is told_pr (fun a => by simp [ePr, PySem.W.keyToks, PySem.W.keyToksAll, tkP]) l
theorem is_out (l : List Out) : sortE eOut l = isort (ltK tkO) l := sortE_is told_out (fun a => by simp [eOut, ePr, PySem.W.keyToks, PySem.W.keyToksAll, tkO]) l
theorem is_stp (l : List Stp) : sortE eStp l = isort (ltK tkT) l := sortE_is told_stp (fun a => by simp [eStp, PySem.W.keyToks, PySem.W.keyToksAll, tkT]) l
def knownI (p q : Part) : List Str := isort (ltK tkS) ((p.takes ++ p.makes).filter fun c => decide (c ∈ q.takes ++ q.makes))
theorem known_is (p q : Part) : known p q = knownI p q := is_str _
def clashI (p q : Part) (r : Pr) : List Str := (knownI p q).filter (clashB p q r)
theorem clash_is (p q : Part) (r : Pr) : clash p q r = clashI p q r := by unfold clash clashI; rw [known_is]
def raw1I (p q : Part) (r : Pr) : List Out := (p.steps.filter fun s => decide (s.1 = r.1) && !decide (s.2.1 ∈ knownI p q)).map fun s => (s.2.1, (s.2.2, r.2))
def raw2I (p q : Part) (r : Pr) : List Out := (q.steps.filter fun s => decide (s.1 = r.2) && !decide (s.2.1 ∈ knownI p q)).map fun s => (s.2.1, (r.1, s.2.2))
def raw3I (p q : Part) (r : Pr) : List Out := (knownI p q).flatMap fun c => (lead p r.1 c).flatMap fun m => (lead q r.2 c).map fun i => ("", (m, i))
def stepsOutI (p q : Part) (r : Pr) : List Out := isort (ltK tkO) (firsts (raw1I p q r ++ raw2I p q r ++ raw3I p q r))
theorem stepsOut_is (p q : Part) (r : Pr) : stepsOut p q r = stepsOutI p q r := by
  unfold stepsOut stepsOutI rawOut raw1 raw2 raw3 raw1I raw2I raw3I
  rw [is_out, known_is]
def movesI (p q : Part) (r : Pr) : List Pr := isort (ltK tkP) (firsts (((stepsOutI p q r).filter fun o => decide (o.1 ∈ madeOf p q)).map Prod.snd))
theorem moves_is (p q : Part) (r : Pr) : moves p q r = movesI p q r := by unfold moves movesI; rw [is_pr, stepsOut_is]
def freshI (p q : Part) (found : List Pr) : List Pr := (every p q).filter fun r => !decide (r ∈ found) && (movesI p q r).any fun a => decide (a ∈ found)
theorem fresh_is (p q : Part) (found : List Pr) : fresh p q found = freshI p q found := by unfold fresh freshI; simp only [moves_is]
def badGoI (p q : Part) : Nat → List Pr → List Pr
  | 0, found => found
  | n + 1, found => match freshI p q found with
    | [] => found
    | x :: xs => badGoI p q n (found ++ x :: xs)
theorem badGo_is (p q : Part) : ∀ (n : Nat) (found : List Pr), badGo p q n found = badGoI p q n found
  | 0, _ => rfl
  | n + 1, found => by
    unfold badGo badGoI
    rw [fresh_is]
    cases freshI p q found with
    | nil => rfl
    | cons x xs => exact badGo_is p q n _
def badOfI (p q : Part) : List Pr := isort (ltK tkP) (badGoI p q ((every p q).length + 1) ((every p q).filter fun r => decide (0 < (clashI p q r).length)))
theorem badOf_is (p q : Part) : badOf p q = badOfI p q := by unfold badOf badOfI bad0; simp only [is_pr, badGo_is, clash_is]
def cutsI (p q : Part) (r : Pr) (bad : List Pr) : List Str := isort (ltK tkS) (firsts (((stepsOutI p q r).filter fun o => !decide (o.1 ∈ madeOf p q) && decide (o.2 ∈ bad)).map Prod.fst))
theorem cuts_is (p q : Part) (r : Pr) (bad : List Pr) : cuts p q r bad = cutsI p q r bad := by unfold cuts cutsI; rw [is_str, stepsOut_is]
def walkGoI (p q : Part) (bad : List Pr) : Nat → Nat → List Pr × List Stp → List Pr × List Stp
  | 0, _, st => st
  | n + 1, place, st => match st.1[place]? with
    | none => st
    | some z => walkGoI p q bad n (place + 1) ((stepsOutI p q z).foldl (turnW (cutsI p q z bad) place) st)
theorem walkGo_is (p q : Part) (bad : List Pr) : ∀ (n place : Nat) (st : List Pr × List Stp), walkGo p q bad n place st = walkGoI p q bad n place st
  | 0, _, _ => rfl
  | n + 1, place, st => by
    unfold walkGo walkGoI
    cases st.1[place]? with
    | none => rfl
    | some z =>
      show walkGo p q bad n (place + 1) _ = walkGoI p q bad n (place + 1) _
      rw [stepsOut_is, cuts_is, walkGo_is p q bad n]
def walkAllI (p q : Part) : List Pr × List Stp := walkGoI p q (badOfI p q) 20 0 ([(0, 0)], [])
theorem walkAll_is (p q : Part) : walkAll p q = walkAllI p q := by unfold walkAll walkAllI; rw [walkGo_is, badOf_is]
def joinPartI (p q : Part) (wa : List Pr × List Stp) : Part :=
  ⟨isort (ltK tkS) ((p.takes ++ q.takes).filter fun c => !decide (c ∈ knownI p q)), isort (ltK tkS) ((p.makes ++ q.makes).filter fun c => !decide (c ∈ knownI p q)), (wa.1.length : Nat), isort (ltK tkT) wa.2⟩
theorem joinPart_is (p q : Part) : joinPart p q = joinPartI p q (walkAllI p q) := by unfold joinPart joinPartI; simp only [is_str, is_stp, known_is, walkAll_is]
/-! the law's own parts -/
def pClient : Part := ⟨["err", "ok"], ["ask"], 2, [(0, "ask", 1), (1, "ok", 0)]⟩
def pServer : Part := ⟨["ask"], ["err", "ok"], 2, [(0, "ask", 1), (1, "err", 0), (1, "ok", 0)]⟩
def pWait : Part := ⟨["err", "go", "ok"], ["ask"], 3, [(0, "go", 1), (1, "ask", 2), (2, "ok", 0)]⟩
def pTwo : Part := ⟨["ask", "mode"], ["err", "ok"], 4, [(0, "ask", 1), (0, "mode", 2), (1, "err", 0), (1, "ok", 0), (2, "ask", 3), (3, "ok", 2)]⟩
theorem ev_wt : walkAllI pWait pTwo = (([(0, 0), (0, 2), (1, 2), (2, 3)] : List Pr), ([(0, "mode", 1), (1, "go", 2), (2, "", 3), (3, "", 1)] : List Stp)) := by decide +kernel
end Fs

set_option maxRecDepth 100000
set_option maxHeartbeats 4000000
/-! The parts written by hand, and what they come to. -/
namespace Fs
open PySem L2 DL NS
def smallB (p : Part) : Bool := decide (p.takes.length ≤ 5) && decide (p.makes.length ≤ 5) && decide (p.steps.length ≤ 12) && decide (1 ≤ p.many) && decide (p.many ≤ 4) && p.takes.all PyData.strOk && p.makes.all PyData.strOk &&
  p.steps.all (fun s => decide (s.2.1 = "" ∨ s.2.1 ∈ p.takes ∨ s.2.1 ∈ p.makes)) && p.steps.all (fun s => decide (0 ≤ s.1 ∧ s.1 < p.many ∧ 0 ≤ s.2.2 ∧ s.2.2 < p.many))
theorem small_of {p : Part} (h : smallB p = true) : p.Small := by
  unfold smallB at h
  simp only [Bool.and_eq_true, decide_eq_true_eq, List.all_eq_true] at h
  obtain ⟨⟨⟨⟨⟨⟨⟨⟨h1, h2⟩, h3⟩, h4⟩, h5⟩, h6⟩, h7⟩, h8⟩, h9⟩ := h
  exact ⟨h1, h2, h3, h4, h5, h6, h7, h8, h9⟩
theorem tupD_ePart (p : Part) : tupD (ePart p) = ePart p := by
  simp only [ePart, eNs, tupD, tupL, tupL_map, List.map_map]
  simp only [PyData.tuple.injEq, List.cons.injEq, and_true, true_and]
  refine ⟨?_, ?_, ?_⟩
  · exact List.map_congr_left fun c _ => by simp [tupD]
  · exact List.map_congr_left fun c _ => by simp [tupD]
  · exact List.map_congr_left fun c _ => by simp [tupD, tupL, eStp]
theorem tl_ePart {p : Part} (h : p.Small) : Tl 3 (ePart p) := by
  have h1 := h.t; have h2 := h.m; have h3 := h.s
  refine .tuple (fun d hd => ?_) (show 4 ≤ 1000 from by decide)
  simp only [List.mem_cons, List.not_mem_nil, or_false] at hd
  rcases hd with rfl | rfl | rfl | rfl
  · exact .tuple (fun d hd => by obtain ⟨c, _, rfl⟩ := List.mem_map.mp hd; exact .str c) (by rw [List.length_map]; omega)
  · exact .tuple (fun d hd => by obtain ⟨c, _, rfl⟩ := List.mem_map.mp hd; exact .str c) (by rw [List.length_map]; omega)
  · exact .int _
  · refine .tuple (fun d hd => ?_) (by rw [List.length_map]; omega)
    obtain ⟨c, _, rfl⟩ := List.mem_map.mp hd
    refine .tuple (fun d hd => ?_) (show 3 ≤ 1000 from by decide)
    simp only [List.mem_cons, List.not_mem_nil, or_false] at hd
    rcases hd with rfl | rfl | rfl
    · exact .int _
    · exact .str _
    · exact .int _
theorem soft_ePart {p : Part} (h : p.Small) : Soft (ePart p) p := ⟨h, tl_ePart h, tupD_ePart p⟩
theorem listD_steps (l : List Stp) : (l.map eStp).map listD = l.map fun s => .list [.int s.1, .str s.2.1, .int s.2.2] := by
  rw [List.map_map]
  exact List.map_congr_left fun c _ => by simp [listD, listL, eStp]
theorem listD_strs (l : List Str) : (l.map PyData.str).map listD = l.map .str := by
  rw [List.map_map]
  exact List.map_congr_left fun c _ => by simp [listD]
theorem listD_ePart (p : Part) : listD (ePart p) = .list [.list (p.takes.map .str), .list (p.makes.map .str), .int p.many, .list (p.steps.map fun s => .list [.int s.1, .str s.2.1, .int s.2.2])] := by
  simp only [ePart, eNs, listD, listL, listL_map]
  rw [listD_steps, listD_strs, listD_strs]
theorem tl_parts {p : Part} (h : p.Small) : ∀ d ∈ [PyData.list (p.takes.map .str), .list (p.makes.map .str), .int p.many, .list (p.steps.map fun s => .list [.int s.1, .str s.2.1, .int s.2.2])], Tl 2 d := by
  have h1 := h.t; have h2 := h.m; have h3 := h.s
  intro d hd
  simp only [List.mem_cons, List.not_mem_nil, or_false] at hd
  rcases hd with rfl | rfl | rfl | rfl
  · exact .list (fun d hd => by obtain ⟨c, _, rfl⟩ := List.mem_map.mp hd; exact .str c) (by rw [List.length_map]; omega)
  · exact .list (fun d hd => by obtain ⟨c, _, rfl⟩ := List.mem_map.mp hd; exact .str c) (by rw [List.length_map]; omega)
  · exact .int _
  · refine .list (fun d hd => ?_) (by rw [List.length_map]; omega)
    obtain ⟨c, _, rfl⟩ := List.mem_map.mp hd
    refine .list (fun d hd => ?_) (show 3 ≤ 1000 from by decide)
    simp only [List.mem_cons, List.not_mem_nil, or_false] at hd
    rcases hd with rfl | rfl | rfl
    · exact .int _
    · exact .str _
    · exact .int _
theorem tup_parts (p : Part) : tupL [PyData.list (p.takes.map .str), .list (p.makes.map .str), .int p.many, .list (p.steps.map fun s => .list [.int s.1, .str s.2.1, .int s.2.2])] = [eNs p.takes, eNs p.makes, .int p.many, .tuple (p.steps.map eStp)] := by
  simp only [eNs, tupD, tupL, tupL_map, List.map_map]
  simp only [PyData.tuple.injEq, List.cons.injEq, and_true, true_and]
  refine ⟨?_, ?_, ?_⟩
  · exact List.map_congr_left fun c _ => by simp [tupD]
  · exact List.map_congr_left fun c _ => by simp [tupD]
  · exact List.map_congr_left fun c _ => by simp [tupD, tupL, eStp]
theorem soft_list {p : Part} (h : p.Small) : Soft (listD (ePart p)) p := by
  rw [listD_ePart]
  refine ⟨h, .list (tl_parts h) (show 4 ≤ 1000 from by decide), ?_⟩
  unfold tupD
  rw [tup_parts]
  rfl
/-- a tuple with lists in it -/
def halfD (p : Part) : PyData := .tuple ([eNs p.takes, eNs p.makes, .int p.many, .tuple (p.steps.map eStp)].map listD)
theorem halfD_is (p : Part) : halfD p = .tuple [PyData.list (p.takes.map .str), .list (p.makes.map .str), .int p.many, .list (p.steps.map fun s => .list [.int s.1, .str s.2.1, .int s.2.2])] := by
  have := listD_ePart p
  simp only [ePart, listD, PyData.list.injEq, listL_map] at this
  unfold halfD
  rw [this]
theorem soft_half {p : Part} (h : p.Small) : Soft (halfD p) p := by
  rw [halfD_is]
  refine ⟨h, .tuple (tl_parts h) (show 4 ≤ 1000 from by decide), ?_⟩
  unfold tupD
  rw [tup_parts]
  rfl
theorem ps_listD {n : Nat} {p : Part} (h : p.Small) : Ps (n + 3) (listD (ePart p)) := by
  have h1 := h.t; have h2 := h.m; have h3 := h.s
  rw [listD_ePart]
  refine .list (fun d hd => ?_) (show 4 ≤ 1000 from by decide)
  simp only [List.mem_cons, List.not_mem_nil, or_false] at hd
  rcases hd with rfl | rfl | rfl | rfl
  · exact .list (fun d hd => by obtain ⟨c, _, rfl⟩ := List.mem_map.mp hd; exact .str c) (by rw [List.length_map]; omega)
  · exact .list (fun d hd => by obtain ⟨c, _, rfl⟩ := List.mem_map.mp hd; exact .str c) (by rw [List.length_map]; omega)
  · exact .int _
  · refine .list (fun d hd => ?_) (by rw [List.length_map]; omega)
    obtain ⟨c, _, rfl⟩ := List.mem_map.mp hd
    refine .list (fun d hd => ?_) (show 3 ≤ 1000 from by decide)
    simp only [List.mem_cons, List.not_mem_nil, or_false] at hd
    rcases hd with rfl | rfl | rfl
    · exact .int _
    · exact .str _
    · exact .int _
theorem sh_ePart {p : Part} (h1 : p.takes.all PyData.strOk = true) (h2 : p.makes.all PyData.strOk = true) (h3 : p.steps.all (fun s => PyData.strOk s.2.1) = true) : Sh 4 (ePart p) := by
  rw [List.all_eq_true] at h1 h2 h3
  refine .tuple (fun d hd => ?_)
  simp only [List.mem_cons, List.not_mem_nil, or_false] at hd
  rcases hd with rfl | rfl | rfl | rfl
  · exact .tuple (fun d hd => by obtain ⟨c, hc, rfl⟩ := List.mem_map.mp hd; exact .str (h1 c hc))
  · exact .tuple (fun d hd => by obtain ⟨c, hc, rfl⟩ := List.mem_map.mp hd; exact .str (h2 c hc))
  · exact .int _
  · refine .tuple (fun d hd => ?_)
    obtain ⟨c, hc, rfl⟩ := List.mem_map.mp hd
    refine .tuple (fun d hd => ?_)
    simp only [List.mem_cons, List.not_mem_nil, or_false] at hd
    rcases hd with rfl | rfl | rfl
    · exact .int _
    · exact .str (h3 c hc)
    · exact .int _
/-- what two parts come to -/
structure Ev (p q : Part) (prs : List Pr) (j : Part) : Prop where
  u : unj p q = []
  b : ((0, 0) : Pr) ∉ badOf p q
  w : (walkAll p q).1 = prs
  jp : joinPart p q = j
theorem ev_of {p q : Part} {prs : List Pr} {j : Part} (h : unj p q = [] ∧ ((0, 0) : Pr) ∉ badOfI p q ∧ (walkAllI p q).1 = prs ∧ joinPartI p q (walkAllI p q) = j) : Ev p q prs j :=
  ⟨h.1, by rw [badOf_is]; exact h.2.1, by rw [walkAll_is]; exact h.2.2.1, by rw [joinPart_is]; exact h.2.2.2⟩
theorem Ev.pj {p q : Part} {prs : List Pr} {j : Part} (E : Ev p q prs j) {d e : PyData} (h1 : Soft d p) (h2 : Soft e q) : preJp [d, e] (.tuple (prs.map ePr)) := ⟨d, e, p, q, h1, h2, E.u, E.b, rfl, by rw [E.w]⟩
theorem Ev.jn {p q : Part} {prs : List Pr} {j : Part} (E : Ev p q prs j) {d e : PyData} (h1 : Soft d p) (h2 : Soft e q) : preJoin [d, e] (ePart j) := ⟨d, e, p, q, h1, h2, E.u, E.b, rfl, by rw [E.jp]⟩
def pN1 : Part := ⟨["t"], ["m", "n"], 3, [(0, "n", 2), (0, "t", 1), (1, "", 1), (1, "m", 0), (2, "n", 2), (2, "t", 0)]⟩
def pF1 : Part := ⟨["m", "x"], ["a"], 2, [(0, "", 1), (0, "a", 1), (0, "m", 1), (1, "m", 0), (1, "x", 0)]⟩
def pN2 : Part := ⟨["t", "u"], ["m", "n"], 4, [(0, "t", 1), (0, "t", 2), (0, "u", 1), (1, "t", 0), (2, "n", 3), (3, "m", 3)]⟩
def pF2 : Part := ⟨["m", "v"], [], 2, [(0, "v", 0), (0, "v", 1), (1, "m", 1), (1, "v", 0)]⟩
def pBare : Part := ⟨[], [], 1, []⟩
def pA : Part := ⟨["a"], [], 2, [(0, "a", 1)]⟩
def pB : Part := ⟨["b"], [], 1, [(0, "b", 0)]⟩
def jWT : Part := ⟨["go", "mode"], [], 4, [(0, "mode", 1), (1, "go", 2), (2, "", 3), (3, "", 1)]⟩
def handL : List Stp := [(0, "", 1), (0, "a", 1), (0, "n", 2), (0, "t", 3), (1, "n", 4), (1, "t", 5), (1, "x", 0), (2, "", 4), (2, "a", 4), (2, "n", 2), (2, "t", 0), (3, "", 1), (3, "", 3), (3, "", 5), (3, "a", 5), (4, "n", 4), (4, "t", 1), (4, "x", 2), (5, "", 0), (5, "", 5), (5, "x", 3)]
def jNF1 : Part := ⟨["t", "x"], ["a", "n"], 6, handL⟩
def jNF2 : Part := ⟨["t", "u", "v"], ["n"], 6, [(0, "u", 1), (0, "v", 0), (0, "v", 2), (1, "t", 0), (1, "v", 1), (1, "v", 3), (2, "t", 3), (2, "t", 4), (2, "u", 3), (2, "v", 0), (3, "t", 2), (3, "v", 1), (4, "n", 5), (5, "", 5)]⟩
def jAB : Part := ⟨["a", "b"], [], 2, [(0, "a", 1), (0, "b", 0), (1, "b", 1)]⟩
theorem evWT : Ev pWait pTwo [(0, 0), (0, 2), (1, 2), (2, 3)] jWT := ev_of (by decide +kernel)
theorem evTW : Ev pTwo pWait [(0, 0), (2, 0), (2, 1), (3, 2)] jWT := ev_of (by decide +kernel)
theorem evNF1 : Ev pN1 pF1 [(0, 0), (0, 1), (2, 0), (1, 0), (2, 1), (1, 1)] jNF1 := ev_of (by decide +kernel)
theorem evNF2 : Ev pN2 pF2 [(0, 0), (1, 0), (0, 1), (1, 1), (2, 1), (3, 1)] jNF2 := ev_of (by decide +kernel)
theorem evWB : Ev pWait pBare [(0, 0), (1, 0), (2, 0)] pWait := ev_of (by decide +kernel)
theorem evBB : Ev pBare pBare [(0, 0)] pBare := ev_of (by decide +kernel)
theorem evAB : Ev pA pB [(0, 0), (1, 0)] jAB := ev_of (by decide +kernel)
theorem smWait : pWait.Small := small_of (by decide +kernel)
theorem smTwo : pTwo.Small := small_of (by decide +kernel)
theorem smClient : pClient.Small := small_of (by decide +kernel)
theorem smServer : pServer.Small := small_of (by decide +kernel)
theorem smN1 : pN1.Small := small_of (by decide +kernel)
theorem smF1 : pF1.Small := small_of (by decide +kernel)
theorem smN2 : pN2.Small := small_of (by decide +kernel)
theorem smF2 : pF2.Small := small_of (by decide +kernel)
theorem smBare : pBare.Small := small_of (by decide +kernel)
theorem smA : pA.Small := small_of (by decide +kernel)
theorem smB : pB.Small := small_of (by decide +kernel)
theorem heard_cs (door : Int) : heardD door pClient pServer = .list [.str "no fit", .bool true] := by
  have h1 : unj pClient pServer = [] := by decide +kernel
  have h2 : ((0, 0) : Pr) ∈ badOf pClient pServer := by rw [badOf_is]; decide +kernel
  have hU : sortE .str (unj pClient pServer) = [] := List.eq_nil_of_length_eq_zero (by rw [sortE_len, h1]; rfl)
  unfold heardD
  rw [hU, if_pos h2]
theorem heard_ss (door : Int) : heardD door pServer pServer = .list [.str "joinable", .str "ask", .bool true] := by
  have hU : sortE .str (unj pServer pServer) = (["ask", "err", "ok"] : List Str) := by rw [is_str]; decide +kernel
  unfold heardD
  rw [hU]
end Fs

set_option maxRecDepth 100000
set_option maxHeartbeats 2000000
/-! DT, part 5: a call by keywords alone. -/
namespace L2
open PySem PySem.Spec PyProof.Rows
section
variable {X : Cx} {CX : CXT} {k : Nat} {f : Addr} {fd : FuncData} {ps ks : List Str} {sp : Sp} {E : XK} {x : Str} {p pos : Pos} {kws : List Keyword} {tk : TA} {g : List Value → List Value → List Value} {gV : List V → List V → List V}
theorem pe_kwOnly (F : FnOk X.prog X.w X.K X.mg X.base CX k f fd ps sp) (hr : Room k X.A) (hg : Gl X x) (hm : X.mg x = some (.ref f)) (hk : PySem.W.keepIn X.K (.ref f) = true) (hb : KBn X.K fd ps 0 ks g gV) (hx : Passes CX X E) (hkw : PK X kws tk)
    (hall : (backToKw pos (keywordEach kws X.env)).all (·.1.isSome) = true) (hks : (backToKw pos (keywordEach kws X.env)).filterMap (·.1) = ks) (hpl : ((backTo pos (starEach [] X.env)).any (·.1) || (backToKw pos (keywordEach kws X.env)).any (·.1.isNone)) = false) (hdb : (x == ("__debug__" : Str)) = false := by decide) :
    PE X (.Call (.Name x p) [] kws pos) (tCallN 0 ks.length sp gV E tNil tk) := by
  refine ⟨fun pins s σ H Q I h => wpAny_Call_Name_kw (ld_glob I hg hm ?_ hdb)⟩
  refine PySem.W.callWith_KW0 (h₀ := X.base) I.ok.mod.kin hk hall (thn (hkw.run pos pins s σ H _ I h) ?_) hpl
  intro ws t ⟨zs, H2, I2, rz, l1, l2, q2⟩
  refine ⟨I2.kIn, ?_⟩
  rw [hks]
  exact run_fnN (us := []) (vs := []) F hr hb hx I2 .nil rz l1 l2 q2
end
end L2
namespace DL
open PySem PySem.Spec PyProof.Rows L2
section
variable {P : Program} {w : World} {K : PySem.W.Frag} {mg : Str → Option Value} {base : Heap}
/-- a def of two, called with the second's name ahead of the first's -/
structure FnXK (P : Program) (w : World) (K : PySem.W.Frag) (mg : Str → Option Value) (base : Heap) (x : Str) (k : Nat) (a b : Str) (sp : Sp) : Prop where
  ex : ∃ f fd, FnOk P w K mg base (L2.CX P w) k f fd [a, b] sp ∧ mg x = some (.ref f) ∧ PySem.W.keepIn K (.ref f) = true ∧ KBn K fd [a, b] 0 [b, a] (fun _ ws => ws.reverse) (fun _ zs => zs.reverse)
theorem kbn2 {x qual a b : Str} {st : Stmt} {f : Addr} {fd : FuncData} (F : Fun K x qual st f fd)
    (h : ∀ (kV doc pm : Value) (an : Option Addr) (cdv ct u v : Value), bindArgs (PySem.W.fnOf x qual (defArgs st) (defBody st) (defScope st) .none kV doc pm an cdv ct) ⟨[], [(b, u), (a, v)]⟩ = pure [(a, v), (b, u)]) : KBn K fd [a, b] 0 [b, a] (fun _ ws => ws.reverse) (fun _ zs => zs.reverse) := by
  obtain ⟨oc, od, kV, doc, pm, an, cdv, ct, osl, rfl, lk, hcd⟩ := F.ex
  refine ⟨fun s us ws _ l1 l2 => ?_, fun _ r => ?_⟩
  · match us, ws, l1, l2 with
    | [], [u, v], _, _ => exact .of_eq (h kV doc pm an cdv ct u v)
  · have rev : ∀ {vs : List V} {us : List Value}, Vals vs us → Vals vs.reverse us.reverse := by
      intro vs us r
      induction r with
      | nil => exact .nil
      | cons a b ih =>
        rw [List.reverse_cons, List.reverse_cons]
        exact ih.append (.cons a .nil)
    exact rev r
variable {C : Ctx P w K mg base} {rho : List SV} {e1 e2 : Expr} {d d1 d2 : PyData} {pos p q1 q2 : Pos}
theorem ef_kw2 {x a b : Str} {k : Nat} {pre : List PyData → PyData → Prop} {preE : List PyData → Value → Option PyData → Prop} (d : PyData) (F : FnXK P w K mg base x k a b (spX K pre preE)) (h1 : EF C rho e1 d1) (h2 : EF C rho e2 d2) (hp : pre [d2, d1] d) (hk : k ≤ C.j) (hg : ∀ i, Gl (C.X i) x) (hdb : (x == ("__debug__" : Str)) = false := by decide)
    (hall : ∀ i, (backToKw pos (keywordEach [⟨some b, e1, q1⟩, ⟨some a, e2, q2⟩] (C.X i).env)).all (·.1.isSome) = true := by intro _; rfl) (hks : ∀ i, (backToKw pos (keywordEach [⟨some b, e1, q1⟩, ⟨some a, e2, q2⟩] (C.X i).env)).filterMap (·.1) = [b, a] := by intro _; rfl)
    (hpl : ∀ i, ((backTo pos (starEach [] (C.X i).env)).any (·.1) || (backToKw pos (keywordEach [⟨some b, e1, q1⟩, ⟨some a, e2, q2⟩] (C.X i).env)).any (·.1.isNone)) = false := by intro _; rfl) : EF C rho (.Call (.Name x p) [] [⟨some b, e1, q1⟩, ⟨some a, e2, q2⟩] pos) d := by
  obtain ⟨f, fd, F, hm, hkp, hb⟩ := F.ex
  refine EF.of (t := tCallN 0 2 (spX K pre preE) (fun _ zs => zs.reverse) (fun _ _ _ => False) tNil (tCons (wE C e1) (tCons (wE C e2) tNil))) (fun i => ?_) fun B σ G H Q r z => ?_
  · exact pe_kwOnly (E := fun _ _ _ => False) (C.fnX i F) ((C.room i).mono hk) (hg i) (by rw [C.hmg]; exact hm) (by rw [C.hK]; exact hkp) (by rw [C.hK]; exact hb) (fun pins σ H s e s' I c => passAt (W := fun _ _ _ _ => False) takes0 σ pins H s e s' I c) (pk_cons (pe_w i) (pk_cons (pe_w i) pk_nil)) (hall i) (hks i) (hpl i) hdb
  · exact h1 B σ G H _ r fun v1 G1 H1 x1 t1 => h2 B σ G1 H1 _ (r.nx x1) fun v2 G2 H2 x2 t2 => ⟨rfl, rfl, G2, [d2, d1], x2.s, .cons t2 (.cons (dp_ex x2.g t1) .nil), .inl ⟨d, hp, fun v G' H' x3 t3 => z v G' H' ((x1.trans x2).trans x3) t3⟩⟩
end
end DL

set_option maxRecDepth 100000
set_option maxHeartbeats 2000000
/-! DT, part 6: tuples written out. -/
namespace DL
open PySem PySem.Spec PyProof.Rows L2
def allD (f : Expr → Option PyData) : List Expr → Option (List PyData)
  | [] => some []
  | e :: es => match f e with
    | none => none
    | some d => match allD f es with
      | none => none
      | some ds => some (d :: ds)
/-- what a written tuple is (n: how deep one looks) -/
def constD : Nat → Expr → Option PyData
  | 0, _ => none
  | _ + 1, .Constant (.int i) _ _ => some (.int i)
  | _ + 1, .Constant (.str s) _ _ => some (.str s)
  | _ + 1, .Constant (.bool b) _ _ => some (.bool b)
  | n + 1, .Tuple es _ _ => match allD (constD n) es with
    | none => none
    | some ds => if ds.length ≤ 1000 then some (.tuple ds) else none
  | _ + 1, _ => none
section
variable {P : Program} {w : World} {K : PySem.W.Frag} {mg : Str → Option Value} {base : Heap} {C : Ctx P w K mg base} {rho : List SV}
theorem ea_const {n : Nat} (ih : ∀ (e : Expr) (d : PyData), constD n e = some d → EF C rho e d) : ∀ (es : List Expr) (ds : List PyData), allD (constD n) es = some ds → EA C rho es ds
  | [], ds, h => by
    cases h
    exact ea_nil
  | e :: es, ds, h => by
    unfold allD at h
    cases h1 : constD n e with
    | none => rw [h1] at h; cases h
    | some d =>
      rw [h1] at h
      cases h2 : allD (constD n) es with
      | none => rw [h2] at h; cases h
      | some ds2 =>
        rw [h2] at h
        cases h
        refine ea_cons (ih e d h1) (ea_const ih es ds2 h2) fun i => ?_
        cases n with
        | zero => cases h1
        | succ n =>
          cases e <;> first | rfl | cases h1
theorem ef_const : ∀ {n : Nat} {e : Expr} {d : PyData}, constD n e = some d → EF C rho e d
  | 0, _, _, h => by cases h
  | n + 1, e, d, h => by
    unfold constD at h
    split at h
    · cases h
    · cases h; exact ef_int
    · cases h; exact ef_str
    · cases h; exact ef_bl
    · rename_i n2 es k2 p2 en
      have en2 : n = n2 := Nat.succ.inj en
      subst en2
      split at h
      · cases h
      · rename_i ds hds
        split at h
        · rename_i hl
          cases h
          exact ef_tup (ea_const (fun e d h => ef_const h) es ds hds) (by omega)
        · cases h
    · cases h
theorem en_constL {n : Nat} {es : List Expr} {ds : List PyData} {pos : Pos} (h : allD (constD n) es = some ds) (hl : ds.length ≤ 1000) : EN C rho (.List es pos) ds := en_lst (ea_const (fun e d h => ef_const h) es ds h) (by omega)
/-- a block, its meaning closed up -/
structure DSb (C : Ctx P w K mg base) (sts : List Stmt) (rho : List SV) (Pt : Post) : Prop where
  h : DS C sts rho Pt
variable {rho' : List SV} {e a b c tg : Expr} {d : PyData} {vs : List Nat} {pos p p2 : Pos} {rest s1 s2 : List Stmt} {Pt : Post}
theorem bs_setF (k : Nat) {x : Str} {p' : Pos} (d2 : PyData) (h : ∃ d1, EF C rho e d1 ∧ d1 = d2) (t : DSb C rest (rho.set k (.dat d2)) Pt) (hN : C.N[k]? = some x) (hx : ∀ i, Loc (C.X i).env.scope x) (hs : ∀ i, swapsWith e (some (.Name x p')) pos.line (C.X i).env = pure false)
    (hf : ∀ i, (C.X i).fn x = true ∨ (C.X i).env.scope.names.lookup x = some .local) : DSb C (.Assign [.Name x p'] e pos :: rest) rho Pt := ⟨ds_setF k d2 h t.h hN hx hs hf⟩
theorem bs_asgV (d : PyData) (vs : List Nat) (h : EF C rho e d) (g : EG C d rho rho' vs tg) (t : DSb C rest rho' Pt) (hs : ∀ i, swapsWithSole [tg] e pos.line (C.X i).env = pure false) (hw : ∀ i, swappedStores [tg] e (C.X i).env = pure none)
    (h1 : ∀ i, (assignEach [tg] (C.X i).env).map (·.2) = [assign tg (C.X i).env]) : DSb C (.Assign [tg] e pos :: rest) rho Pt := ⟨ds_asgV d vs h g t.h hs hw h1⟩
theorem bs_ret (h : EF C rho e d) (hr : Pt.rt rho d) : DSb C (.Return (some e) pos :: rest) rho Pt := ⟨ds_ret h hr⟩
theorem bs_of (h : DS C rest rho Pt) : DSb C rest rho Pt := ⟨h⟩
theorem fn_okB {x qual : Str} {st : Stmt} {f : Addr} {fd : FuncData} {N ps : List Str} {k : Nat} {pre : List PyData → PyData → Prop} (F : Fun K x qual st f fd) (S : FnScope N ps (defScope st)) (hl : ∀ ds d, pre ds d → ds.length = ps.length) (sts : List Stmt) (hst : defBody st = sts)
    (hb : ∀ (cdv : Value) (A : Around) (outer : List Env) (s : Shared) (H : Hp) (E : XK) (hr : Room k (A.deeper (envOfC qual (defScope st) s.heap.objs.size f cdv))) (ds : List PyData) (d : PyData), pre ds d →
      DSb (defC P w K mg base N qual (defScope st) f cdv A outer s H E k S.nd hr) sts (entry N ds) { nx := fun _ => d = .none, rt := fun _ r => r = d }) : FnOk P w K mg base CX0 (k + 1) f fd ps (spD K pre) :=
  fn_ok F S hl fun cdv A outer s H E hr ds d hp => by rw [hst]; exact (hb cdv A outer s H E hr ds d hp).h
/-! expressions, their meaning closed up -/
structure EFb (C : Ctx P w K mg base) (rho : List SV) (e : Expr) (d : PyData) : Prop where
  h : EF C rho e d
structure EAb (C : Ctx P w K mg base) (rho : List SV) (es : List Expr) (ds : List PyData) : Prop where
  h : EA C rho es ds
variable {es : List Expr} {d1 d2 : PyData} {ds xs ys : List PyData}
theorem eb_const {n : Nat} (h : constD n e = some d) : EFb C rho e d := ⟨ef_const h⟩
theorem eb_of (h : EF C rho e d) : EFb C rho e d := ⟨h⟩
theorem EFb.to (h : EFb C rho e d1) (q : d1 = d2) : EFb C rho e d2 := q ▸ h
theorem eab_nil : EAb C rho [] [] := ⟨ea_nil⟩
theorem eab_cons (h : EFb C rho e d) (t : EAb C rho es ds) (hs : ∀ i, starEach (e :: es) (C.X i).env = (false, eval e (C.X i).env) :: starEach es (C.X i).env) : EAb C rho (e :: es) (d :: ds) := ⟨ea_cons h.h t.h hs⟩
theorem eb_lst (h : EAb C rho es ds) (hl : ds.length ≤ 1000) : EFb C rho (.List es pos) (.list ds) := ⟨EN.f (en_lst h.h (by omega))⟩
theorem eb_tup {k : Nat} (h : EAb C rho es ds) (hl : ds.length ≤ 1000) : EFb C rho (.Tuple es k pos) (.tuple ds) := ⟨ef_tup h.h (by omega)⟩
theorem eb_catT (ha : EFb C rho a (.tuple xs)) (hb : EFb C rho b (.tuple ys)) (hl : xs.length + ys.length ≤ 1000) : EFb C rho (.BinOp a .Add b pos) (.tuple (xs ++ ys)) := ⟨ef_catT ha.h hb.h (by omega)⟩
theorem eb_callX {x : Str} {k : Nat} {ps : List Str} {pre : List PyData → PyData → Prop} {preE : List PyData → Value → Option PyData → Prop} (d : PyData) (F : FnX P w K mg base x k ps (spX K pre preE)) (ha : EAb C rho (e :: es) ds) (hp : pre ds d) (hk : k ≤ C.j) (hg : ∀ i, Gl (C.X i) x) (hdb : (x == ("__debug__" : Str)) = false)
    (he : ∀ i, starEach (e :: es) (C.X i).env = (false, eval e (C.X i).env) :: starEach es (C.X i).env) (hpl : ∀ i, (backTo pos (starEach es (C.X i).env)).any (·.1) = false) : EFb C rho (.Call (.Name x p) (e :: es) [] pos) d := ⟨fun B σ G H Q r q => ex_call (res := fun r => r = d) (er := fun _ _ => False) F ha.h (.inl ⟨d, hp, rfl⟩) hk hg hdb he hpl (fun _ _ _ _ => False) (fun _ => takes0) B σ G H Q r (fun v d' G' H' hd x t => by
  have hd' : d' = d := hd
  subst hd'
  exact q v G' H' x t) (fun _ _ _ _ _ z => z.elim)⟩
theorem bs_setB (k : Nat) {x : Str} {p' : Pos} (d : PyData) (h : EFb C rho e d) (t : DSb C rest (rho.set k (.dat d)) Pt) (hN : C.N[k]? = some x) (hx : ∀ i, Loc (C.X i).env.scope x) (hs : ∀ i, swapsWith e (some (.Name x p')) pos.line (C.X i).env = pure false)
    (hf : ∀ i, (C.X i).fn x = true ∨ (C.X i).env.scope.names.lookup x = some .local) : DSb C (.Assign [.Name x p'] e pos :: rest) rho Pt := ⟨ds_setF k d ⟨d, h.h, rfl⟩ t.h hN hx hs hf⟩
theorem bs_asgB (d : PyData) (vs : List Nat) (h : EFb C rho e d) (g : EG C d rho rho' vs tg) (t : DSb C rest rho' Pt) (hs : ∀ i, swapsWithSole [tg] e pos.line (C.X i).env = pure false) (hw : ∀ i, swappedStores [tg] e (C.X i).env = pure none)
    (h1 : ∀ i, (assignEach [tg] (C.X i).env).map (·.2) = [assign tg (C.X i).env]) : DSb C (.Assign [tg] e pos :: rest) rho Pt := ⟨ds_asgV d vs h.h g t.h hs hw h1⟩
theorem bs_retB (h : EFb C rho e d) (hr : Pt.rt rho d) : DSb C (.Return (some e) pos :: rest) rho Pt := ⟨ds_ret h.h hr⟩
end
end DL

set_option maxRecDepth 100000
set_option maxHeartbeats 2000000
/-! DT, part 7: lists put together, closed up. -/
namespace DL
open PySem PySem.Spec PyProof.Rows L2
section
variable {P : Program} {w : World} {K : PySem.W.Frag} {mg : Str → Option Value} {base : Heap} {C : Ctx P w K mg base} {rho : List SV} {a b : Expr} {xs ys : List PyData} {pos : Pos}
theorem eb_cat (ha : EFb C rho a (.list xs)) (hb : EFb C rho b (.list ys)) (hl : xs.length + ys.length ≤ 1000) : EFb C rho (.BinOp a .Add b pos) (.list (xs ++ ys)) := ⟨EN.f (en_catL (EF.l ha.h) (EF.l hb.h) (by omega))⟩
end
end DL

set_option maxRecDepth 100000
set_option maxHeartbeats 4000000
namespace Fs
open PySem L2 DL NS
local macro_rules | `(tactic| walk_at "vis") => `(tactic| (intro _; first | exact Or.inl rfl | exact Or.inr (Or.inl rfl) | exact Or.inr (Or.inr rfl)))
local macro_rules | `(tactic| walk_at "loc") => `(tactic| (intro _; first | exact Or.inl rfl | exact Or.inr rfl))
local macro_rules | `(tactic| walk_at "fnl") => `(tactic| (intro _; first | exact Or.inr rfl | exact Or.inl rfl))
local macro_rules | `(tactic| walk_at "len") => `(tactic| (simp only [List.length_append, List.length_map, List.length_nil, List.length_cons]; omega))
local macro_rules | `(tactic| walk_at "blk") => `(tactic| (intro _; kernel_rfl))
section
variable {P : Program} {w : World} {K : PySem.W.Frag} {mg : Str → Option Value} {base : Heap} {f : Addr} {fd : FuncData}


variable {cN cF fI : Addr} {file : Str}

/-! ### what is written by hand -/
abbrev n__law_kit : List Str := ["_law_waiting_so", "_law_both_so", "_law_twoway_so", "_law_client_so", "_law_server_so"]
abbrev s__law_kit : Stmt := top 46
theorem sc__law_kit : FnScope ["_law_waiting_so", "_law_both_so", "_law_twoway_so", "_law_client_so", "_law_server_so"] [] (defScope s__law_kit) := ⟨rfl, rfl, rfl, by decide +kernel, rfl, by decide +kernel, by decide +kernel⟩
theorem ok_law_kit (F : Fun K "_law_kit" "_law_kit" s__law_kit f fd) : FnOk P w K mg base CX0 1 f fd [] (spD K fun ds r => ds = [] ∧ r = .tuple [ePart pClient, ePart pServer, ePart pWait, ePart pTwo]) :=
  fn_okB F sc__law_kit (fun ds d h => by rw [h.1]; rfl) _ rfl fun cdv A outer s0 H E hr ds d hp => by
    obtain ⟨rfl, rfl⟩ := hp
    show DSb _ (.Assign _ _ _ :: _) [.unk, .unk, .unk, .unk, .unk] _
    refine bs_asgB (.tuple [.tuple (pClient.steps.map eStp), .tuple (pServer.steps.map eStp)]) [3, 4] (EFb.to (eb_const (n := 6) (d := .tuple [.tuple [.tuple [.int 0, .str "ask", .int 1], .tuple [.int 1, .str "ok", .int 0]], .tuple [.tuple [.int 0, .str "ask", .int 1], .tuple [.int 1, .str "err", .int 0], .tuple [.int 1, .str "ok", .int 0]]]) (by kernel_rfl)) rfl) (eg_tup (egs_cons (eg_name 3 rfl (by decide) (by walk_at "loc") (by walk_at "fnl")) (egs_cons (eg_name 4 rfl (by decide) (by walk_at "loc") (by walk_at "fnl")) egs_nil))) ?_ (by intro _; kernel_rfl) (by intro _; kernel_rfl) (by intro _; kernel_rfl)
    show DSb _ _ [.unk, .unk, .unk, .dat (.tuple (pClient.steps.map eStp)), .dat (.tuple (pServer.steps.map eStp))] _
    refine bs_setB 0 (ePart pWait) (EFb.to (eb_const (n := 6) (d := .tuple [.tuple [.str "err", .str "go", .str "ok"], .tuple [.str "ask"], .int 3, .tuple [.tuple [.int 0, .str "go", .int 1], .tuple [.int 1, .str "ask", .int 2], .tuple [.int 2, .str "ok", .int 0]]]) (by kernel_rfl)) rfl) ?_ rfl (by walk_at "loc") (by intro _; kernel_rfl) (by walk_at "fnl")
    show DSb _ _ [.dat (ePart pWait), .unk, .unk, .dat (.tuple (pClient.steps.map eStp)), .dat (.tuple (pServer.steps.map eStp))] _
    refine bs_setB 1 (.tuple (pTwo.steps.map eStp)) (EFb.to (eb_const (n := 6) (d := .tuple [.tuple [.int 0, .str "ask", .int 1], .tuple [.int 0, .str "mode", .int 2], .tuple [.int 1, .str "err", .int 0], .tuple [.int 1, .str "ok", .int 0], .tuple [.int 2, .str "ask", .int 3], .tuple [.int 3, .str "ok", .int 2]]) (by kernel_rfl)) rfl) ?_ rfl (by walk_at "loc") (by intro _; kernel_rfl) (by walk_at "fnl")
    show DSb _ _ [.dat (ePart pWait), .dat (.tuple (pTwo.steps.map eStp)), .unk, .dat (.tuple (pClient.steps.map eStp)), .dat (.tuple (pServer.steps.map eStp))] _
    refine bs_setB 2 (ePart pTwo) (EFb.to (eb_tup (eab_cons (eb_const (n := 6) (d := .tuple [.str "ask", .str "mode"]) (by kernel_rfl)) (eab_cons (eb_const (n := 6) (d := .tuple [.str "err", .str "ok"]) (by kernel_rfl)) (eab_cons (eb_const (n := 6) (d := .int 4) (by kernel_rfl)) (eab_cons (eb_of (ef_var 1 rfl rfl (by walk_at "vis"))) eab_nil (by intro _; rfl)) (by intro _; rfl)) (by intro _; rfl)) (by intro _; rfl)) (by decide)) rfl) ?_ rfl (by walk_at "loc") (by intro _; kernel_rfl) (by walk_at "fnl")
    show DSb _ _ [.dat (ePart pWait), .dat (.tuple (pTwo.steps.map eStp)), .dat (ePart pTwo), .dat (.tuple (pClient.steps.map eStp)), .dat (.tuple (pServer.steps.map eStp))] _
    exact bs_retB (eb_tup (eab_cons (eb_tup (eab_cons (eb_const (n := 6) (d := .tuple [.str "err", .str "ok"]) (by kernel_rfl)) (eab_cons (eb_const (n := 6) (d := .tuple [.str "ask"]) (by kernel_rfl)) (eab_cons (eb_const (n := 6) (d := .int 2) (by kernel_rfl)) (eab_cons (eb_of (ef_var 3 rfl rfl (by walk_at "vis"))) eab_nil (by intro _; rfl)) (by intro _; rfl)) (by intro _; rfl)) (by intro _; rfl)) (by decide)) (eab_cons (eb_tup (eab_cons (eb_const (n := 6) (d := .tuple [.str "ask"]) (by kernel_rfl)) (eab_cons (eb_const (n := 6) (d := .tuple [.str "err", .str "ok"]) (by kernel_rfl)) (eab_cons (eb_const (n := 6) (d := .int 2) (by kernel_rfl)) (eab_cons (eb_of (ef_var 4 rfl rfl (by walk_at "vis"))) eab_nil (by intro _; rfl)) (by intro _; rfl)) (by intro _; rfl)) (by intro _; rfl)) (by decide)) (eab_cons (eb_of (ef_var 0 rfl rfl (by walk_at "vis"))) (eab_cons (eb_of (ef_var 2 rfl rfl (by walk_at "vis"))) eab_nil (by intro _; rfl)) (by intro _; rfl)) (by intro _; rfl)) (by intro _; rfl)) (by decide)) rfl
abbrev n__law_hand_steps : List Str := ["_law_zero_so", "_law_two_so"]
abbrev s__law_hand_steps : Stmt := top 53
theorem sc__law_hand_steps : FnScope ["_law_zero_so", "_law_two_so"] [] (defScope s__law_hand_steps) := ⟨rfl, rfl, rfl, by decide +kernel, rfl, by decide +kernel, by decide +kernel⟩
def handZ : List Stp := [(0, "", 1), (0, "a", 1), (0, "n", 2), (0, "t", 3), (1, "n", 4), (1, "t", 5), (1, "x", 0)]
def handT : List Stp := [(2, "", 4), (2, "a", 4), (2, "n", 2), (2, "t", 0), (3, "", 1), (3, "", 3), (3, "", 5), (3, "a", 5)]
theorem ok_law_hand_steps (F : Fun K "_law_hand_steps" "_law_hand_steps" s__law_hand_steps f fd) : FnOk P w K mg base CX0 1 f fd [] (spD K fun ds r => ds = [] ∧ r = .tuple (handL.map eStp)) :=
  fn_okB F sc__law_hand_steps (fun ds d h => by rw [h.1]; rfl) _ rfl fun cdv A outer s0 H E hr ds d hp => by
    obtain ⟨rfl, rfl⟩ := hp
    show DSb _ (.Assign _ _ _ :: _) [.unk, .unk] _
    refine bs_setB 0 (.tuple (handZ.map eStp)) (EFb.to (eb_const (n := 6) (d := .tuple [.tuple [.int 0, .str "", .int 1], .tuple [.int 0, .str "a", .int 1], .tuple [.int 0, .str "n", .int 2], .tuple [.int 0, .str "t", .int 3], .tuple [.int 1, .str "n", .int 4], .tuple [.int 1, .str "t", .int 5], .tuple [.int 1, .str "x", .int 0]]) (by kernel_rfl)) rfl) ?_ rfl (by walk_at "loc") (by intro _; kernel_rfl) (by walk_at "fnl")
    refine bs_setB 1 (.tuple (handT.map eStp)) (EFb.to (eb_const (n := 6) (d := .tuple [.tuple [.int 2, .str "", .int 4], .tuple [.int 2, .str "a", .int 4], .tuple [.int 2, .str "n", .int 2], .tuple [.int 2, .str "t", .int 0], .tuple [.int 3, .str "", .int 1], .tuple [.int 3, .str "", .int 3], .tuple [.int 3, .str "", .int 5], .tuple [.int 3, .str "a", .int 5]]) (by kernel_rfl)) rfl) ?_ rfl (by walk_at "loc") (by intro _; kernel_rfl) (by walk_at "fnl")
    show DSb _ _ [.dat (.tuple (handZ.map eStp)), .dat (.tuple (handT.map eStp))] _
    refine bs_retB (eb_catT (eb_catT (eb_of (ef_var 0 rfl rfl (by walk_at "vis"))) (eb_of (ef_var 1 rfl rfl (by walk_at "vis"))) (by decide)) (eb_const (n := 6) (d := .tuple [.tuple [.int 4, .str "n", .int 4], .tuple [.int 4, .str "t", .int 1], .tuple [.int 4, .str "x", .int 2], .tuple [.int 5, .str "", .int 0], .tuple [.int 5, .str "", .int 5], .tuple [.int 5, .str "x", .int 3]]) (by kernel_rfl)) (by decide)) rfl
end
end Fs

set_option maxRecDepth 100000
set_option maxHeartbeats 4000000
namespace Fs
open PySem L2 DL NS
local macro_rules | `(tactic| walk_at "vis") => `(tactic| (intro _; first | exact Or.inl rfl | exact Or.inr (Or.inl rfl) | exact Or.inr (Or.inr rfl)))
local macro_rules | `(tactic| walk_at "loc") => `(tactic| (intro _; first | exact Or.inl rfl | exact Or.inr rfl))
local macro_rules | `(tactic| walk_at "fnl") => `(tactic| (intro _; first | exact Or.inr rfl | exact Or.inl rfl))
local macro_rules | `(tactic| walk_at "len") => `(tactic| (simp only [List.length_append, List.length_map, List.length_nil, List.length_cons]; omega))
local macro_rules | `(tactic| walk_at "blk") => `(tactic| (intro _; kernel_rfl))
section
variable {P : Program} {w : World} {K : PySem.W.Frag} {mg : Str → Option Value} {base : Heap} {f : Addr} {fd : FuncData}


variable {cN cF fI : Addr} {file : Str}

variable (h__law_kit : Fn P w K mg base "_law_kit" 1 [] (spD K fun ds r => ds = [] ∧ r = .tuple [ePart pClient, ePart pServer, ePart pWait, ePart pTwo]))
variable (h__law_hand_steps : Fn P w K mg base "_law_hand_steps" 1 [] (spD K fun ds r => ds = [] ∧ r = .tuple (handL.map eStp)))
variable (h_joined : FnX P w K mg base "joined" 8 ["one", "other"] (spX K preJoin (errWalk cN cF))) (h_joined_pairs : FnX P w K mg base "joined_pairs" 8 ["one", "other"] (spX K preJp (errWalk cN cF)))
variable (hk_joined : FnXK P w K mg base "joined" 8 "one" "other" (spX K preJoin (errWalk cN cF))) (hk_joined_pairs : FnXK P w K mg base "joined_pairs" 8 "one" "other" (spX K preJp (errWalk cN cF)))
variable (h__law_lists : Fn P w K mg base "_law_lists" 4 ["_law_matter"] (spD K (preLists 3))) (h__law_half : Fn P w K mg base "_law_half" 5 ["_law_matter"] (spD K preHalf))
variable (h__law_heard : Fn P w K mg base "_law_heard" 9 ["_law_door", "_law_mine_so", "_law_its_so"] (spD K preHeard)) (h__law_same : Fn P w K mg base "_law_same" 6 ["_law_got", "_law_due"] (spD K (preSame 5)))
def vWT : PyData := .tuple (([(0, 0), (0, 2), (1, 2), (2, 3)] : List Pr).map ePr)
def vTW : PyData := .tuple (([(0, 0), (2, 0), (2, 1), (3, 2)] : List Pr).map ePr)
def vN1 : PyData := .tuple (([(0, 0), (0, 1), (2, 0), (1, 0), (2, 1), (1, 1)] : List Pr).map ePr)
def vN2 : PyData := .tuple (([(0, 0), (1, 0), (0, 1), (1, 1), (2, 1), (3, 1)] : List Pr).map ePr)
def nf : PyData := .list [.str "no fit", .bool true]
def nj : PyData := .list [.str "joinable", .str "ask", .bool true]
def gb1 : List PyData := [vWT, ePart jWT]
def gb2 : List PyData := [vWT, ePart jWT, vTW]
def gb3 : List PyData := [vWT, ePart jWT, vTW, .bool true]
def gb4 : List PyData := [vWT, ePart jWT, vTW, .bool true, vN1, ePart jNF1]
def gb5 : List PyData := [vWT, ePart jWT, vTW, .bool true, vN1, ePart jNF1, vN2, ePart jNF2]
def db1 : List PyData := [vWT]
def db2 : List PyData := [vWT, ePart jWT]
def db3 : List PyData := [vWT, ePart jWT, vTW, .bool true]
def db4 : List PyData := [vWT, ePart jWT, vTW, .bool true, vN1]
def db5 : List PyData := [vWT, ePart jWT, vTW, .bool true, vN1, ePart jNF1]
def db6 : List PyData := [vWT, ePart jWT, vTW, .bool true, vN1, ePart jNF1, vN2]
def db7 : List PyData := [vWT, ePart jWT, vTW, .bool true, vN1, ePart jNF1, vN2, ePart jNF2]
def ma1 : List PyData := [vWT, ePart jWT]
def ma2 : List PyData := [vWT, ePart jWT, .bool true, ePart pBare]
def ma3 : List PyData := [vWT, ePart jWT, .bool true, ePart pBare, ePart jAB]
def ma4 : List PyData := [vWT, ePart jWT, .bool true, ePart pBare, ePart jAB, .list [nf, nf], .list [nj, nj]]
def ma5 : List PyData := [vWT, ePart jWT, .bool true, ePart pBare, ePart jAB, .list [nf, nf], .list [nj, nj], vWT, ePart jWT]
def ma6 : List PyData := [vWT, ePart jWT, .bool true, ePart pBare, ePart jAB, .list [nf, nf], .list [nj, nj], vWT, ePart jWT, vWT, ePart jWT]
def sfL : List PyData := [listD (ePart pWait), listD (ePart pTwo)]
theorem eq_wt : PyData.eqv (ePart jWT) (ePart jWT) = true := PySem.SeqAt.eqv_refl _ (sh_ePart (p := jWT) (by decide +kernel) (by decide +kernel) (by decide +kernel)).both.1
theorem sh_wt : Sh 4 (ePart jWT) := sh_ePart (by decide +kernel) (by decide +kernel) (by decide +kernel)
theorem eq_w : PyData.eqv (ePart pWait) (ePart pWait) = true := PySem.SeqAt.eqv_refl _ (sh_ePart (p := pWait) (by decide +kernel) (by decide +kernel) (by decide +kernel)).both.1
theorem sh_w : Sh 4 (ePart pWait) := sh_ePart (by decide +kernel) (by decide +kernel) (by decide +kernel)
theorem ps_gb : Ps 5 (.list gb5) := by
  refine .list (fun d hd => ?_) (by decide)
  simp only [gb5, List.mem_cons, List.not_mem_nil, or_false] at hd
  rcases hd with rfl | rfl | rfl | rfl | rfl | rfl | rfl | rfl
  all_goals first | exact .bool _ | exact ps_ePart (n := 1) (by decide) (by decide) (by decide) | exact ps_prs (n := 2) (by decide)
theorem ps_nf {n : Nat} : Ps (n + 1) nf := .list (fun d hd => by
  simp only [List.mem_cons, List.not_mem_nil, or_false] at hd
  rcases hd with rfl | rfl
  · exact .str _
  · exact .bool _) (by decide)
theorem ps_nj {n : Nat} : Ps (n + 1) nj := .list (fun d hd => by
  simp only [List.mem_cons, List.not_mem_nil, or_false] at hd
  rcases hd with rfl | rfl | rfl
  · exact .str _
  · exact .str _
  · exact .bool _) (by decide)
theorem ps_half (p : Part) (h : p.Small) : ∀ x ∈ [eNs p.takes, eNs p.makes, .int p.many, .tuple (p.steps.map eStp)], Ps 3 x := fun x hx => by
  have h1 := h.t; have h2 := h.m; have h3 := h.s
  cases ps_ePart (n := 1) (p := p) (by omega) (by omega) (by omega) with
  | tuple q _ => exact q x hx
theorem ps_half_w : ∀ x ∈ [eNs pWait.takes, eNs pWait.makes, .int pWait.many, .tuple (pWait.steps.map eStp)], Ps 3 x := ps_half pWait smWait
theorem ps_half_t : ∀ x ∈ [eNs pTwo.takes, eNs pTwo.makes, .int pTwo.many, .tuple (pTwo.steps.map eStp)], Ps 3 x := ps_half pTwo smTwo
theorem ps_ma : Ps 5 (.list (ma6 ++ sfL)) := by
  refine .list (fun d hd => ?_) (by decide)
  rcases List.mem_append.mp hd with hd | hd
  · simp only [ma6, List.mem_cons, List.not_mem_nil, or_false] at hd
    rcases hd with rfl | rfl | rfl | rfl | rfl | rfl | rfl | rfl | rfl | rfl | rfl
    all_goals first | exact .bool _ | exact ps_ePart (n := 1) (by decide) (by decide) (by decide) | exact ps_prs (n := 2) (by decide) | skip
    · refine .list (fun d hd => ?_) (by decide)
      simp only [List.mem_cons, List.not_mem_nil, or_false, or_self] at hd
      subst hd
      exact ps_nf
    · refine .list (fun d hd => ?_) (by decide)
      simp only [List.mem_cons, List.not_mem_nil, or_false, or_self] at hd
      subst hd
      exact ps_nj
  · simp only [sfL, List.mem_cons, List.not_mem_nil, or_false] at hd
    rcases hd with rfl | rfl
    · exact ps_listD (n := 1) smWait
    · exact ps_listD (n := 1) smTwo
abbrev n__law_more_right : List Str := ["_law_client_so", "_law_server_so", "_law_waiting_so", "_law_twoway_so", "_law_due", "_law_bare_so", "_law_got", "_law_soft", "_law_own", "_law_door"]
abbrev s__law_more_right : Stmt := top 52
theorem sc__law_more_right : FnScope ["_law_client_so", "_law_server_so", "_law_waiting_so", "_law_twoway_so", "_law_due", "_law_bare_so", "_law_got", "_law_soft", "_law_own", "_law_door"] ["_law_client_so", "_law_server_so", "_law_waiting_so", "_law_twoway_so"] (defScope s__law_more_right) := ⟨rfl, rfl, rfl, by decide +kernel, rfl, by decide +kernel, by decide +kernel⟩
def preMore (ds : List PyData) (r : PyData) : Prop := ds = [ePart pClient, ePart pServer, ePart pWait, ePart pTwo] ∧ r = .bool true
include h_joined h_joined_pairs hk_joined hk_joined_pairs h__law_lists h__law_half h__law_heard h__law_same in
theorem ok_law_more_right (F : Fun K "_law_more_right" "_law_more_right" s__law_more_right f fd) (T : Blt mg) : FnOk P w K mg base CX0 10 f fd ["_law_client_so", "_law_server_so", "_law_waiting_so", "_law_twoway_so"] (spD K preMore) :=
  fn_okB F sc__law_more_right (fun ds d h => by rw [h.1]; rfl) _ rfl fun cdv A outer s0 H E hr ds d hp => by
    obtain ⟨rfl, rfl⟩ := hp
    show DSb _ (.Assign _ _ _ :: _) [.dat (ePart pClient), .dat (ePart pServer), .dat (ePart pWait), .dat (ePart pTwo), .unk, .unk, .unk, .unk, .unk, .unk] _
    refine bs_of (ds_parV 6 4 (.dat (.list ma1)) (.dat (.list [])) (EF.v (EF.to (EN.f (en_lst (ea_cons (ef_callX (vWT) h_joined_pairs (ea_cons (ef_var 2 rfl rfl (by walk_at "vis")) (ea_cons (ef_var 3 rfl rfl (by walk_at "vis")) ea_nil)) ?_ (Nat.le_of_ble_eq_true rfl) (by intro _; rfl)) (ea_cons (ef_callX (ePart jWT) h_joined (ea_cons (ef_var 2 rfl rfl (by walk_at "vis")) (ea_cons (ef_var 3 rfl rfl (by walk_at "vis")) ea_nil)) ?_ (Nat.le_of_ble_eq_true rfl) (by intro _; rfl)) ea_nil)))) (by kernel_rfl))) (EF.v (EN.f (en_lst ea_nil))) (DSb.h ?_) rfl rfl (by decide) (by intro _; rfl) (by intro _; rfl) (by intro _; rfl))
    · exact evWT.pj (soft_ePart smWait) (soft_ePart smTwo)
    · exact evWT.jn (soft_ePart smWait) (soft_ePart smTwo)
    show DSb _ _ [.dat (ePart pClient), .dat (ePart pServer), .dat (ePart pWait), .dat (ePart pTwo), .dat (.list []), .unk, .dat (.list ma1), .unk, .unk, .unk] _
    refine bs_setB 4 (.list db1) (EFb.to (eb_lst (eab_cons (eb_const (n := 6) (d := .tuple [.tuple [.int 0, .int 0], .tuple [.int 0, .int 2], .tuple [.int 1, .int 2], .tuple [.int 2, .int 3]]) (by kernel_rfl)) eab_nil (by intro _; rfl)) (by decide)) (by kernel_rfl)) ?_ rfl (by walk_at "loc") (by intro _; kernel_rfl) (by walk_at "fnl")
    show DSb _ _ [.dat (ePart pClient), .dat (ePart pServer), .dat (ePart pWait), .dat (ePart pTwo), .dat (.list db1), .unk, .dat (.list ma1), .unk, .unk, .unk] _
    refine bs_setB 4 (.list db2) (EFb.to (eb_cat (eb_of (ef_var 4 rfl rfl (by walk_at "vis"))) (eb_lst (eab_cons (eb_const (n := 6) (d := .tuple [.tuple [.str "go", .str "mode"], .tuple [], .int 4, .tuple [.tuple [.int 0, .str "mode", .int 1], .tuple [.int 1, .str "go", .int 2], .tuple [.int 2, .str "", .int 3], .tuple [.int 3, .str "", .int 1]]]) (by kernel_rfl)) eab_nil (by intro _; rfl)) (by decide)) (by decide)) (by kernel_rfl)) ?_ rfl (by walk_at "loc") (by intro _; kernel_rfl) (by walk_at "fnl")
    show DSb _ _ [.dat (ePart pClient), .dat (ePart pServer), .dat (ePart pWait), .dat (ePart pTwo), .dat (.list db2), .unk, .dat (.list ma1), .unk, .unk, .unk] _
    refine bs_setB 5 (ePart pBare) (EFb.to (eb_const (n := 6) (d := .tuple [.tuple [], .tuple [], .int 1, .tuple []]) (by kernel_rfl)) (by kernel_rfl)) ?_ rfl (by walk_at "loc") (by intro _; kernel_rfl) (by walk_at "fnl")
    show DSb _ _ [.dat (ePart pClient), .dat (ePart pServer), .dat (ePart pWait), .dat (ePart pTwo), .dat (.list db2), .dat (ePart pBare), .dat (.list ma1), .unk, .unk, .unk] _
    refine bs_setB 6 (.list ma2) (EFb.to (eb_cat (eb_of (ef_var 6 rfl rfl (by walk_at "vis"))) (eb_lst (eab_cons (eb_of (ef_cmp (ec_eqD (n := 4) (m := 4) (ef_callX (ePart pWait) h_joined (ea_cons (ef_var 2 rfl rfl (by walk_at "vis")) (ea_cons (ef_var 5 rfl rfl (by walk_at "vis")) ea_nil)) ?_ (Nat.le_of_ble_eq_true rfl) (by intro _; rfl)) (ef_var 2 rfl rfl (by walk_at "vis")) ?_ ?_))) (eab_cons (eb_of (ef_callX (ePart pBare) h_joined (ea_cons (ef_var 5 rfl rfl (by walk_at "vis")) (ea_cons (ef_var 5 rfl rfl (by walk_at "vis")) ea_nil)) ?_ (Nat.le_of_ble_eq_true rfl) (by intro _; rfl))) eab_nil (by intro _; rfl)) (by intro _; rfl)) (by decide)) (by decide)) (by rw [eq_w]; kernel_rfl)) ?_ rfl (by walk_at "loc") (by intro _; kernel_rfl) (by walk_at "fnl")
    · exact evWB.jn (soft_ePart smWait) (soft_ePart smBare)
    · exact sh_w
    · exact sh_w
    · exact evBB.jn (soft_ePart smBare) (soft_ePart smBare)
    show DSb _ _ [.dat (ePart pClient), .dat (ePart pServer), .dat (ePart pWait), .dat (ePart pTwo), .dat (.list db2), .dat (ePart pBare), .dat (.list ma2), .unk, .unk, .unk] _
    refine bs_setB 6 (.list ma3) (EFb.to (eb_cat (eb_of (ef_var 6 rfl rfl (by walk_at "vis"))) (eb_lst (eab_cons (eb_callX (ePart jAB) h_joined (eab_cons (eb_const (n := 6) (d := .tuple [.tuple [.str "a"], .tuple [], .int 2, .tuple [.tuple [.int 0, .str "a", .int 1]]]) (by kernel_rfl)) (eab_cons (eb_const (n := 6) (d := .tuple [.tuple [.str "b"], .tuple [], .int 1, .tuple [.tuple [.int 0, .str "b", .int 0]]]) (by kernel_rfl)) eab_nil (by intro _; rfl)) (by intro _; rfl)) ?_ (Nat.le_of_ble_eq_true rfl) (by intro _; rfl) (by decide) (by intro _; rfl) (by intro _; rfl)) eab_nil (by intro _; rfl)) (by decide)) (by decide)) (by kernel_rfl)) ?_ rfl (by walk_at "loc") (by intro _; kernel_rfl) (by walk_at "fnl")
    · exact evAB.jn (soft_ePart smA) (soft_ePart smB)
    show DSb _ _ [.dat (ePart pClient), .dat (ePart pServer), .dat (ePart pWait), .dat (ePart pTwo), .dat (.list db2), .dat (ePart pBare), .dat (.list ma3), .unk, .unk, .unk] _
    refine bs_setB 4 (.list ma3) (EFb.to (eb_cat (eb_of (ef_var 4 rfl rfl (by walk_at "vis"))) (eb_lst (eab_cons (eb_const (n := 6) (d := .bool true) (by kernel_rfl)) (eab_cons (eb_of (ef_var 5 rfl rfl (by walk_at "vis"))) (eab_cons (eb_const (n := 6) (d := .tuple [.tuple [.str "a", .str "b"], .tuple [], .int 2, .tuple [.tuple [.int 0, .str "a", .int 1], .tuple [.int 0, .str "b", .int 0], .tuple [.int 1, .str "b", .int 1]]]) (by kernel_rfl)) eab_nil (by intro _; rfl)) (by intro _; rfl)) (by intro _; rfl)) (by decide)) (by decide)) (by kernel_rfl)) ?_ rfl (by walk_at "loc") (by intro _; kernel_rfl) (by walk_at "fnl")
    show DSb _ _ [.dat (ePart pClient), .dat (ePart pServer), .dat (ePart pWait), .dat (ePart pTwo), .dat (.list ma3), .dat (ePart pBare), .dat (.list ma3), .unk, .unk, .unk] _
    refine bs_setB 6 (.list ma4) (EFb.to (eb_cat (eb_of (ef_var 6 rfl rfl (by walk_at "vis"))) (eb_lst (eab_cons (eb_of (EN.f (en_lc0 (own := [("_law_door", 9)]) (rng 2) (.int) (fun x => nf) (EI.h (ei_rng T ef_int ?_)) (by walk_at "blk") (fun x hx => ⟨_, (eg_name 9 rfl (by decide) (by walk_at "loc") (by walk_at "fnl")), (ef_callV (nf) h__law_heard (ea_cons (ef_var 9 rfl rfl (by walk_at "vis")) (ea_cons (ef_var 0 rfl rfl (by walk_at "vis")) (ea_cons (ef_var 1 rfl rfl (by walk_at "vis")) ea_nil))) ?_ (Nat.le_of_ble_eq_true rfl) (by intro _; rfl))⟩) ?_))) (eab_cons (eb_of (EN.f (en_lc0 (own := [("_law_door", 9)]) (rng 2) (.int) (fun x => nj) (EI.h (ei_rng T ef_int ?_)) (by walk_at "blk") (fun x hx => ⟨_, (eg_name 9 rfl (by decide) (by walk_at "loc") (by walk_at "fnl")), (ef_callV (nj) h__law_heard (ea_cons (ef_var 9 rfl rfl (by walk_at "vis")) (ea_cons (ef_var 1 rfl rfl (by walk_at "vis")) (ea_cons (ef_var 1 rfl rfl (by walk_at "vis")) ea_nil))) ?_ (Nat.le_of_ble_eq_true rfl) (by intro _; rfl))⟩) ?_))) eab_nil (by intro _; rfl)) (by intro _; rfl)) (by decide)) (by decide)) (by kernel_rfl)) ?_ rfl (by walk_at "loc") (by intro _; kernel_rfl) (by walk_at "fnl")
    · constructor <;> decide
    · exact ⟨x, _, _, pClient, pServer, soft_ePart smClient, soft_ePart smServer, rfl, (heard_cs x).symm⟩
    · rw [rng_len]; decide
    · constructor <;> decide
    · exact ⟨x, _, _, pServer, pServer, soft_ePart smServer, soft_ePart smServer, rfl, (heard_ss x).symm⟩
    · rw [rng_len]; decide
    show DSb _ _ [.dat (ePart pClient), .dat (ePart pServer), .dat (ePart pWait), .dat (ePart pTwo), .dat (.list ma3), .dat (ePart pBare), .dat (.list ma4), .unk, .unk, .unk] _
    refine bs_setB 4 (.list ma4) (EFb.to (eb_cat (eb_of (ef_var 4 rfl rfl (by walk_at "vis"))) (eb_lst (eab_cons (eb_of (EN.f (en_rep (EN.s (en_lst (ea_cons (EN.f (en_lst (ea_cons ef_str (ea_cons ef_bl ea_nil)))) ea_nil))) ef_int ?_ ?_ ?_))) (eab_cons (eb_of (EN.f (en_rep (EN.s (en_lst (ea_cons (EN.f (en_lst (ea_cons ef_str (ea_cons ef_str (ea_cons ef_bl ea_nil))))) ea_nil))) ef_int ?_ ?_ ?_))) eab_nil (by intro _; rfl)) (by intro _; rfl)) (by decide)) (by decide)) (by kernel_rfl)) ?_ rfl (by walk_at "loc") (by intro _; kernel_rfl) (by walk_at "fnl")
    · decide
    · decide
    · exact (by decide : (1 : Nat) * 2 ≤ 100000)
    · decide
    · decide
    · exact (by decide : (1 : Nat) * 2 ≤ 100000)
    show DSb _ _ [.dat (ePart pClient), .dat (ePart pServer), .dat (ePart pWait), .dat (ePart pTwo), .dat (.list ma4), .dat (ePart pBare), .dat (.list ma4), .unk, .unk, .unk] _
    refine bs_setB 7 (.list sfL) (EFb.to (eb_lst (eab_cons (eb_of (ef_callV (listD (ePart pWait)) h__law_lists (ea_cons (ef_var 2 rfl rfl (by walk_at "vis")) ea_nil) ?_ (Nat.le_of_ble_eq_true rfl) (by intro _; rfl))) (eab_cons (eb_of (ef_callV (listD (ePart pTwo)) h__law_lists (ea_cons (ef_var 3 rfl rfl (by walk_at "vis")) ea_nil) ?_ (Nat.le_of_ble_eq_true rfl) (by intro _; rfl))) eab_nil (by intro _; rfl)) (by intro _; rfl)) (by decide)) (by kernel_rfl)) ?_ rfl (by walk_at "loc") (by intro _; kernel_rfl) (by walk_at "fnl")
    · exact ⟨_, ps_ePart (n := 0) (by decide) (by decide) (by decide), rfl, rfl⟩
    · exact ⟨_, ps_ePart (n := 0) (by decide) (by decide) (by decide), rfl, rfl⟩
    show DSb _ _ [.dat (ePart pClient), .dat (ePart pServer), .dat (ePart pWait), .dat (ePart pTwo), .dat (.list ma4), .dat (ePart pBare), .dat (.list ma4), .dat (.list sfL), .unk, .unk] _
    refine bs_of ?_
    refine ds_for [false, true] (fun b => .list [cond b (halfD pWait) (listD (ePart pWait)), cond b (halfD pTwo) (listD (ePart pTwo))]) (EI.is (ei_tup (ef_tup (ea_cons (ef_var 7 rfl rfl (by walk_at "vis")) (ea_cons (EN.f (en_lst (ea_cons (ef_callV (halfD pWait) h__law_half (ea_cons (ef_var 2 rfl rfl (by walk_at "vis")) ea_nil) ?_ (Nat.le_of_ble_eq_true rfl) (by intro _; rfl)) (ea_cons (ef_callV (halfD pTwo) h__law_half (ea_cons (ef_var 3 rfl rfl (by walk_at "vis")) ea_nil) ?_ (Nat.le_of_ble_eq_true rfl) (by intro _; rfl)) ea_nil)))) ea_nil)))) rfl)
      (fun i rho => ∃ v, rho = [.dat (ePart pClient), .dat (ePart pServer), .dat (ePart pWait), .dat (ePart pTwo), .dat (.list ma4), .dat (ePart pBare), .dat (.list (match i with | 0 => ma4 | 1 => ma5 | _ => ma6)), .dat (.list sfL), v, .unk]) ⟨_, rfl⟩ ?_ ?_ (fun _ => PassesOwn.never)
    · exact ⟨_, ps_half_w, (show 4 ≤ 1000 from by decide), rfl, rfl⟩
    · exact ⟨_, ps_half_t, (show 4 ≤ 1000 from by decide), rfl, rfl⟩
    · rintro i b rho hx ⟨v, rfl⟩
      have s1 : Soft (cond b (halfD pWait) (listD (ePart pWait))) pWait := by cases b; exact soft_list smWait; exact soft_half smWait
      have s2 : Soft (cond b (halfD pTwo) (listD (ePart pTwo))) pTwo := by cases b; exact soft_list smTwo; exact soft_half smTwo
      refine ⟨_, [8], (eg_name 8 rfl (by decide) (by walk_at "loc") (by walk_at "fnl")), ?_⟩
      have hi : i = 0 ∨ i = 1 := by
        have := (List.getElem?_eq_some_iff.mp hx).1
        simp at this
        omega
      rcases hi with rfl | rfl
      · show DS _ _ [.dat (ePart pClient), .dat (ePart pServer), .dat (ePart pWait), .dat (ePart pTwo), .dat (.list ma4), .dat (ePart pBare), .dat (.list ma4), .dat (.list sfL), .dat (.list [cond b (halfD pWait) (listD (ePart pWait)), cond b (halfD pTwo) (listD (ePart pTwo))]), .unk] _
        refine ds_setF 6 (.list ma5) ⟨_, (EN.f (en_catL (EF.l (ef_var 6 rfl rfl (by walk_at "vis"))) (EN.l (en_lst (ea_cons (ef_kw2 (vWT) hk_joined_pairs (ef_ixLN 1 (EF.l (ef_var 8 rfl rfl (by walk_at "vis"))) ef_int rfl) (ef_ixLN 0 (EF.l (ef_var 8 rfl rfl (by walk_at "vis"))) ef_int rfl) ?_ (Nat.le_of_ble_eq_true rfl) (by intro _; rfl)) (ea_cons (ef_kw2 (ePart jWT) hk_joined (ef_ixLN 1 (EF.l (ef_var 8 rfl rfl (by walk_at "vis"))) ef_int rfl) (ef_ixLN 0 (EF.l (ef_var 8 rfl rfl (by walk_at "vis"))) ef_int rfl) ?_ (Nat.le_of_ble_eq_true rfl) (by intro _; rfl)) ea_nil)))) ?_)), rfl⟩ (ds_nil ⟨_, rfl⟩) rfl (by walk_at "loc") (by intro _; rfl) (by walk_at "fnl")
        · exact evWT.pj s1 s2
        · exact evWT.jn s1 s2
        · exact (by decide : 9 ≤ 100000)
      · show DS _ _ [.dat (ePart pClient), .dat (ePart pServer), .dat (ePart pWait), .dat (ePart pTwo), .dat (.list ma4), .dat (ePart pBare), .dat (.list ma5), .dat (.list sfL), .dat (.list [cond b (halfD pWait) (listD (ePart pWait)), cond b (halfD pTwo) (listD (ePart pTwo))]), .unk] _
        refine ds_setF 6 (.list ma6) ⟨_, (EN.f (en_catL (EF.l (ef_var 6 rfl rfl (by walk_at "vis"))) (EN.l (en_lst (ea_cons (ef_kw2 (vWT) hk_joined_pairs (ef_ixLN 1 (EF.l (ef_var 8 rfl rfl (by walk_at "vis"))) ef_int rfl) (ef_ixLN 0 (EF.l (ef_var 8 rfl rfl (by walk_at "vis"))) ef_int rfl) ?_ (Nat.le_of_ble_eq_true rfl) (by intro _; rfl)) (ea_cons (ef_kw2 (ePart jWT) hk_joined (ef_ixLN 1 (EF.l (ef_var 8 rfl rfl (by walk_at "vis"))) ef_int rfl) (ef_ixLN 0 (EF.l (ef_var 8 rfl rfl (by walk_at "vis"))) ef_int rfl) ?_ (Nat.le_of_ble_eq_true rfl) (by intro _; rfl)) ea_nil)))) ?_)), rfl⟩ (ds_nil ⟨_, rfl⟩) rfl (by walk_at "loc") (by intro _; rfl) (by walk_at "fnl")
        · exact evWT.pj s1 s2
        · exact evWT.jn s1 s2
        · exact (by decide : 11 ≤ 100000)
    · rintro rho ⟨v, rfl⟩
      show DS _ _ [.dat (ePart pClient), .dat (ePart pServer), .dat (ePart pWait), .dat (ePart pTwo), .dat (.list ma4), .dat (ePart pBare), .dat (.list ma6), .dat (.list sfL), v, .unk] _
      refine ds_ret (ef_callV (.bool true) h__law_same (ea_cons (EN.f (en_catL (EF.l (ef_var 6 rfl rfl (by walk_at "vis"))) (EF.l (ef_var 7 rfl rfl (by walk_at "vis"))) ?_)) (ea_cons (EN.f (en_catL (EN.l (en_catL (EF.l (ef_var 4 rfl rfl (by walk_at "vis"))) (EN.l (en_rep (EN.s (en_slice (EF.l (ef_var 4 rfl rfl (by walk_at "vis"))) ep_none (ep_some ef_int))) ef_int ?_ ?_ ?_)) ?_)) (EN.l (en_lst (ea_cons (ef_callV (listD (ePart pWait)) h__law_lists (ea_cons (ef_var 2 rfl rfl (by walk_at "vis")) ea_nil) ?_ (Nat.le_of_ble_eq_true rfl) (by intro _; rfl)) (ea_cons (ef_callV (listD (ePart pTwo)) h__law_lists (ea_cons (ef_var 3 rfl rfl (by walk_at "vis")) ea_nil) ?_ (Nat.le_of_ble_eq_true rfl) (by intro _; rfl)) ea_nil)))) ?_)) ea_nil)) ?_ (Nat.le_of_ble_eq_true rfl) (by intro _; rfl)) rfl
      all_goals first
        | decide
        | exact ⟨_, ps_ePart (n := 0) (by decide) (by decide) (by decide), rfl, rfl⟩
        | exact ⟨.list (ma6 ++ sfL), ps_ma, rfl, rfl⟩
variable (h__law_more_right : Fn P w K mg base "_law_more_right" 10 ["_law_client_so", "_law_server_so", "_law_waiting_so", "_law_twoway_so"] (spD K preMore))
abbrev n__law_by_hand_right : List Str := ["_law_got", "_law_due", "_law_near", "_law_far", "_law_steps_so", "_law_client_so", "_law_server_so", "_law_waiting_so", "_law_twoway_so"]
abbrev s__law_by_hand_right : Stmt := top 51
theorem sc__law_by_hand_right : FnScope ["_law_got", "_law_due", "_law_near", "_law_far", "_law_steps_so", "_law_client_so", "_law_server_so", "_law_waiting_so", "_law_twoway_so"] [] (defScope s__law_by_hand_right) := ⟨rfl, rfl, rfl, by decide +kernel, rfl, by decide +kernel, by decide +kernel⟩
include h__law_kit h__law_hand_steps h_joined h_joined_pairs h__law_same h__law_more_right in
theorem ok_law_by_hand_right (F : Fun K "_law_by_hand_right" "_law_by_hand_right" s__law_by_hand_right f fd) (T : Blt mg) : FnOk P w K mg base CX0 12 f fd [] (spD K fun ds r => ds = [] ∧ r = .bool true) :=
  fn_okB F sc__law_by_hand_right (fun ds d h => by rw [h.1]; rfl) _ rfl fun cdv A outer s0 H E hr ds d hp => by
    obtain ⟨rfl, rfl⟩ := hp
    show DSb _ (.Assign _ _ _ :: _) [.unk, .unk, .unk, .unk, .unk, .unk, .unk, .unk, .unk] _
    refine bs_asgB (.tuple [ePart pClient, ePart pServer, ePart pWait, ePart pTwo]) [5, 6, 7, 8] (eb_of (ef_call0 (d := .tuple [ePart pClient, ePart pServer, ePart pWait, ePart pTwo]) h__law_kit ?_ (Nat.le_of_ble_eq_true rfl) (by intro _; rfl))) (eg_tup (egs_cons (eg_name 5 rfl (by decide) (by walk_at "loc") (by walk_at "fnl")) (egs_cons (eg_name 6 rfl (by decide) (by walk_at "loc") (by walk_at "fnl")) (egs_cons (eg_name 7 rfl (by decide) (by walk_at "loc") (by walk_at "fnl")) (egs_cons (eg_name 8 rfl (by decide) (by walk_at "loc") (by walk_at "fnl")) egs_nil))))) ?_ (by intro _; kernel_rfl) (by intro _; kernel_rfl) (by intro _; kernel_rfl)
    · exact ⟨rfl, rfl⟩
    show DSb _ _ [.unk, .unk, .unk, .unk, .unk, .dat (ePart pClient), .dat (ePart pServer), .dat (ePart pWait), .dat (ePart pTwo)] _
    refine bs_setB 0 (.list gb1) (EFb.to (eb_lst (eab_cons (eb_of (ef_callX (vWT) h_joined_pairs (ea_cons (ef_var 7 rfl rfl (by walk_at "vis")) (ea_cons (ef_var 8 rfl rfl (by walk_at "vis")) ea_nil)) ?_ (Nat.le_of_ble_eq_true rfl) (by intro _; rfl))) (eab_cons (eb_of (ef_callX (ePart jWT) h_joined (ea_cons (ef_var 7 rfl rfl (by walk_at "vis")) (ea_cons (ef_var 8 rfl rfl (by walk_at "vis")) ea_nil)) ?_ (Nat.le_of_ble_eq_true rfl) (by intro _; rfl))) eab_nil (by intro _; rfl)) (by intro _; rfl)) (by decide)) (by kernel_rfl)) ?_ rfl (by walk_at "loc") (by intro _; kernel_rfl) (by walk_at "fnl")
    · exact evWT.pj (soft_ePart smWait) (soft_ePart smTwo)
    · exact evWT.jn (soft_ePart smWait) (soft_ePart smTwo)
    show DSb _ _ [.dat (.list gb1), .unk, .unk, .unk, .unk, .dat (ePart pClient), .dat (ePart pServer), .dat (ePart pWait), .dat (ePart pTwo)] _
    refine bs_setB 1 (.list db1) (EFb.to (eb_lst (eab_cons (eb_const (n := 6) (d := .tuple [.tuple [.int 0, .int 0], .tuple [.int 0, .int 2], .tuple [.int 1, .int 2], .tuple [.int 2, .int 3]]) (by kernel_rfl)) eab_nil (by intro _; rfl)) (by decide)) (by kernel_rfl)) ?_ rfl (by walk_at "loc") (by intro _; kernel_rfl) (by walk_at "fnl")
    show DSb _ _ [.dat (.list gb1), .dat (.list db1), .unk, .unk, .unk, .dat (ePart pClient), .dat (ePart pServer), .dat (ePart pWait), .dat (ePart pTwo)] _
    refine bs_setB 1 (.list db2) (EFb.to (eb_cat (eb_of (ef_var 1 rfl rfl (by walk_at "vis"))) (eb_lst (eab_cons (eb_const (n := 6) (d := .tuple [.tuple [.str "go", .str "mode"], .tuple [], .int 4, .tuple [.tuple [.int 0, .str "mode", .int 1], .tuple [.int 1, .str "go", .int 2], .tuple [.int 2, .str "", .int 3], .tuple [.int 3, .str "", .int 1]]]) (by kernel_rfl)) eab_nil (by intro _; rfl)) (by decide)) (by decide)) (by kernel_rfl)) ?_ rfl (by walk_at "loc") (by intro _; kernel_rfl) (by walk_at "fnl")
    show DSb _ _ [.dat (.list gb1), .dat (.list db2), .unk, .unk, .unk, .dat (ePart pClient), .dat (ePart pServer), .dat (ePart pWait), .dat (ePart pTwo)] _
    refine bs_setB 0 (.list gb2) (EFb.to (eb_cat (eb_of (ef_var 0 rfl rfl (by walk_at "vis"))) (eb_lst (eab_cons (eb_of (ef_callX (vTW) h_joined_pairs (ea_cons (ef_var 8 rfl rfl (by walk_at "vis")) (ea_cons (ef_var 7 rfl rfl (by walk_at "vis")) ea_nil)) ?_ (Nat.le_of_ble_eq_true rfl) (by intro _; rfl))) eab_nil (by intro _; rfl)) (by decide)) (by decide)) (by kernel_rfl)) ?_ rfl (by walk_at "loc") (by intro _; kernel_rfl) (by walk_at "fnl")
    · exact evTW.pj (soft_ePart smTwo) (soft_ePart smWait)
    show DSb _ _ [.dat (.list gb2), .dat (.list db2), .unk, .unk, .unk, .dat (ePart pClient), .dat (ePart pServer), .dat (ePart pWait), .dat (ePart pTwo)] _
    refine bs_setB 0 (.list gb3) (EFb.to (eb_cat (eb_of (ef_var 0 rfl rfl (by walk_at "vis"))) (eb_lst (eab_cons (eb_of (ef_cmp (ec_eqD (n := 4) (m := 4) (ef_callX (ePart jWT) h_joined (ea_cons (ef_var 8 rfl rfl (by walk_at "vis")) (ea_cons (ef_var 7 rfl rfl (by walk_at "vis")) ea_nil)) ?_ (Nat.le_of_ble_eq_true rfl) (by intro _; rfl)) (ef_callX (ePart jWT) h_joined (ea_cons (ef_var 7 rfl rfl (by walk_at "vis")) (ea_cons (ef_var 8 rfl rfl (by walk_at "vis")) ea_nil)) ?_ (Nat.le_of_ble_eq_true rfl) (by intro _; rfl)) ?_ ?_))) eab_nil (by intro _; rfl)) (by decide)) (by decide)) (by rw [eq_wt]; kernel_rfl)) ?_ rfl (by walk_at "loc") (by intro _; kernel_rfl) (by walk_at "fnl")
    · exact evTW.jn (soft_ePart smTwo) (soft_ePart smWait)
    · exact evWT.jn (soft_ePart smWait) (soft_ePart smTwo)
    · exact sh_wt
    · exact sh_wt
    show DSb _ _ [.dat (.list gb3), .dat (.list db2), .unk, .unk, .unk, .dat (ePart pClient), .dat (ePart pServer), .dat (ePart pWait), .dat (ePart pTwo)] _
    refine bs_setB 1 (.list db3) (EFb.to (eb_cat (eb_of (ef_var 1 rfl rfl (by walk_at "vis"))) (eb_lst (eab_cons (eb_const (n := 6) (d := .tuple [.tuple [.int 0, .int 0], .tuple [.int 2, .int 0], .tuple [.int 2, .int 1], .tuple [.int 3, .int 2]]) (by kernel_rfl)) (eab_cons (eb_const (n := 6) (d := .bool true) (by kernel_rfl)) eab_nil (by intro _; rfl)) (by intro _; rfl)) (by decide)) (by decide)) (by kernel_rfl)) ?_ rfl (by walk_at "loc") (by intro _; kernel_rfl) (by walk_at "fnl")
    show DSb _ _ [.dat (.list gb3), .dat (.list db3), .unk, .unk, .unk, .dat (ePart pClient), .dat (ePart pServer), .dat (ePart pWait), .dat (ePart pTwo)] _
    refine bs_setB 2 (ePart pN1) (EFb.to (eb_const (n := 6) (d := .tuple [.tuple [.str "t"], .tuple [.str "m", .str "n"], .int 3, .tuple [.tuple [.int 0, .str "n", .int 2], .tuple [.int 0, .str "t", .int 1], .tuple [.int 1, .str "", .int 1], .tuple [.int 1, .str "m", .int 0], .tuple [.int 2, .str "n", .int 2], .tuple [.int 2, .str "t", .int 0]]]) (by kernel_rfl)) (by kernel_rfl)) ?_ rfl (by walk_at "loc") (by intro _; kernel_rfl) (by walk_at "fnl")
    show DSb _ _ [.dat (.list gb3), .dat (.list db3), .dat (ePart pN1), .unk, .unk, .dat (ePart pClient), .dat (ePart pServer), .dat (ePart pWait), .dat (ePart pTwo)] _
    refine bs_setB 3 (ePart pF1) (EFb.to (eb_const (n := 6) (d := .tuple [.tuple [.str "m", .str "x"], .tuple [.str "a"], .int 2, .tuple [.tuple [.int 0, .str "", .int 1], .tuple [.int 0, .str "a", .int 1], .tuple [.int 0, .str "m", .int 1], .tuple [.int 1, .str "m", .int 0], .tuple [.int 1, .str "x", .int 0]]]) (by kernel_rfl)) (by kernel_rfl)) ?_ rfl (by walk_at "loc") (by intro _; kernel_rfl) (by walk_at "fnl")
    show DSb _ _ [.dat (.list gb3), .dat (.list db3), .dat (ePart pN1), .dat (ePart pF1), .unk, .dat (ePart pClient), .dat (ePart pServer), .dat (ePart pWait), .dat (ePart pTwo)] _
    refine bs_setB 0 (.list gb4) (EFb.to (eb_cat (eb_of (ef_var 0 rfl rfl (by walk_at "vis"))) (eb_lst (eab_cons (eb_of (ef_callX (vN1) h_joined_pairs (ea_cons (ef_var 2 rfl rfl (by walk_at "vis")) (ea_cons (ef_var 3 rfl rfl (by walk_at "vis")) ea_nil)) ?_ (Nat.le_of_ble_eq_true rfl) (by intro _; rfl))) (eab_cons (eb_of (ef_callX (ePart jNF1) h_joined (ea_cons (ef_var 2 rfl rfl (by walk_at "vis")) (ea_cons (ef_var 3 rfl rfl (by walk_at "vis")) ea_nil)) ?_ (Nat.le_of_ble_eq_true rfl) (by intro _; rfl))) eab_nil (by intro _; rfl)) (by intro _; rfl)) (by decide)) (by decide)) (by kernel_rfl)) ?_ rfl (by walk_at "loc") (by intro _; kernel_rfl) (by walk_at "fnl")
    · exact evNF1.pj (soft_ePart smN1) (soft_ePart smF1)
    · exact evNF1.jn (soft_ePart smN1) (soft_ePart smF1)
    show DSb _ _ [.dat (.list gb4), .dat (.list db3), .dat (ePart pN1), .dat (ePart pF1), .unk, .dat (ePart pClient), .dat (ePart pServer), .dat (ePart pWait), .dat (ePart pTwo)] _
    refine bs_setB 1 (.list db4) (EFb.to (eb_cat (eb_of (ef_var 1 rfl rfl (by walk_at "vis"))) (eb_lst (eab_cons (eb_const (n := 6) (d := .tuple [.tuple [.int 0, .int 0], .tuple [.int 0, .int 1], .tuple [.int 2, .int 0], .tuple [.int 1, .int 0], .tuple [.int 2, .int 1], .tuple [.int 1, .int 1]]) (by kernel_rfl)) eab_nil (by intro _; rfl)) (by decide)) (by decide)) (by kernel_rfl)) ?_ rfl (by walk_at "loc") (by intro _; kernel_rfl) (by walk_at "fnl")
    show DSb _ _ [.dat (.list gb4), .dat (.list db4), .dat (ePart pN1), .dat (ePart pF1), .unk, .dat (ePart pClient), .dat (ePart pServer), .dat (ePart pWait), .dat (ePart pTwo)] _
    refine bs_setB 1 (.list db5) (EFb.to (eb_cat (eb_of (ef_var 1 rfl rfl (by walk_at "vis"))) (eb_lst (eab_cons (eb_tup (eab_cons (eb_const (n := 6) (d := .tuple [.str "t", .str "x"]) (by kernel_rfl)) (eab_cons (eb_const (n := 6) (d := .tuple [.str "a", .str "n"]) (by kernel_rfl)) (eab_cons (eb_const (n := 6) (d := .int 6) (by kernel_rfl)) (eab_cons (eb_of (ef_call0 (d := .tuple (handL.map eStp)) h__law_hand_steps ?_ (Nat.le_of_ble_eq_true rfl) (by intro _; rfl))) eab_nil (by intro _; rfl)) (by intro _; rfl)) (by intro _; rfl)) (by intro _; rfl)) (by decide)) eab_nil (by intro _; rfl)) (by decide)) (by decide)) (by kernel_rfl)) ?_ rfl (by walk_at "loc") (by intro _; kernel_rfl) (by walk_at "fnl")
    · exact ⟨rfl, rfl⟩
    show DSb _ _ [.dat (.list gb4), .dat (.list db5), .dat (ePart pN1), .dat (ePart pF1), .unk, .dat (ePart pClient), .dat (ePart pServer), .dat (ePart pWait), .dat (ePart pTwo)] _
    refine bs_setB 2 (ePart pN2) (EFb.to (eb_const (n := 6) (d := .tuple [.tuple [.str "t", .str "u"], .tuple [.str "m", .str "n"], .int 4, .tuple [.tuple [.int 0, .str "t", .int 1], .tuple [.int 0, .str "t", .int 2], .tuple [.int 0, .str "u", .int 1], .tuple [.int 1, .str "t", .int 0], .tuple [.int 2, .str "n", .int 3], .tuple [.int 3, .str "m", .int 3]]]) (by kernel_rfl)) (by kernel_rfl)) ?_ rfl (by walk_at "loc") (by intro _; kernel_rfl) (by walk_at "fnl")
    show DSb _ _ [.dat (.list gb4), .dat (.list db5), .dat (ePart pN2), .dat (ePart pF1), .unk, .dat (ePart pClient), .dat (ePart pServer), .dat (ePart pWait), .dat (ePart pTwo)] _
    refine bs_setB 3 (ePart pF2) (EFb.to (eb_const (n := 6) (d := .tuple [.tuple [.str "m", .str "v"], .tuple [], .int 2, .tuple [.tuple [.int 0, .str "v", .int 0], .tuple [.int 0, .str "v", .int 1], .tuple [.int 1, .str "m", .int 1], .tuple [.int 1, .str "v", .int 0]]]) (by kernel_rfl)) (by kernel_rfl)) ?_ rfl (by walk_at "loc") (by intro _; kernel_rfl) (by walk_at "fnl")
    show DSb _ _ [.dat (.list gb4), .dat (.list db5), .dat (ePart pN2), .dat (ePart pF2), .unk, .dat (ePart pClient), .dat (ePart pServer), .dat (ePart pWait), .dat (ePart pTwo)] _
    refine bs_setB 0 (.list gb5) (EFb.to (eb_cat (eb_of (ef_var 0 rfl rfl (by walk_at "vis"))) (eb_lst (eab_cons (eb_of (ef_callX (vN2) h_joined_pairs (ea_cons (ef_var 2 rfl rfl (by walk_at "vis")) (ea_cons (ef_var 3 rfl rfl (by walk_at "vis")) ea_nil)) ?_ (Nat.le_of_ble_eq_true rfl) (by intro _; rfl))) (eab_cons (eb_of (ef_callX (ePart jNF2) h_joined (ea_cons (ef_var 2 rfl rfl (by walk_at "vis")) (ea_cons (ef_var 3 rfl rfl (by walk_at "vis")) ea_nil)) ?_ (Nat.le_of_ble_eq_true rfl) (by intro _; rfl))) eab_nil (by intro _; rfl)) (by intro _; rfl)) (by decide)) (by decide)) (by kernel_rfl)) ?_ rfl (by walk_at "loc") (by intro _; kernel_rfl) (by walk_at "fnl")
    · exact evNF2.pj (soft_ePart smN2) (soft_ePart smF2)
    · exact evNF2.jn (soft_ePart smN2) (soft_ePart smF2)
    show DSb _ _ [.dat (.list gb5), .dat (.list db5), .dat (ePart pN2), .dat (ePart pF2), .unk, .dat (ePart pClient), .dat (ePart pServer), .dat (ePart pWait), .dat (ePart pTwo)] _
    refine bs_setB 4 (.tuple ((jNF2.steps.take 7).map eStp)) (EFb.to (eb_const (n := 6) (d := .tuple [.tuple [.int 0, .str "u", .int 1], .tuple [.int 0, .str "v", .int 0], .tuple [.int 0, .str "v", .int 2], .tuple [.int 1, .str "t", .int 0], .tuple [.int 1, .str "v", .int 1], .tuple [.int 1, .str "v", .int 3], .tuple [.int 2, .str "t", .int 3]]) (by kernel_rfl)) (by kernel_rfl)) ?_ rfl (by walk_at "loc") (by intro _; kernel_rfl) (by walk_at "fnl")
    show DSb _ _ [.dat (.list gb5), .dat (.list db5), .dat (ePart pN2), .dat (ePart pF2), .dat (.tuple ((jNF2.steps.take 7).map eStp)), .dat (ePart pClient), .dat (ePart pServer), .dat (ePart pWait), .dat (ePart pTwo)] _
    refine bs_setB 4 (.tuple (jNF2.steps.map eStp)) (EFb.to (eb_catT (eb_of (ef_var 4 rfl rfl (by walk_at "vis"))) (eb_const (n := 6) (d := .tuple [.tuple [.int 2, .str "t", .int 4], .tuple [.int 2, .str "u", .int 3], .tuple [.int 2, .str "v", .int 0], .tuple [.int 3, .str "t", .int 2], .tuple [.int 3, .str "v", .int 1], .tuple [.int 4, .str "n", .int 5], .tuple [.int 5, .str "", .int 5]]) (by kernel_rfl)) (by decide)) (by kernel_rfl)) ?_ rfl (by walk_at "loc") (by intro _; kernel_rfl) (by walk_at "fnl")
    show DSb _ _ [.dat (.list gb5), .dat (.list db5), .dat (ePart pN2), .dat (ePart pF2), .dat (.tuple (jNF2.steps.map eStp)), .dat (ePart pClient), .dat (ePart pServer), .dat (ePart pWait), .dat (ePart pTwo)] _
    refine bs_setB 1 (.list db6) (EFb.to (eb_cat (eb_of (ef_var 1 rfl rfl (by walk_at "vis"))) (eb_lst (eab_cons (eb_const (n := 6) (d := .tuple [.tuple [.int 0, .int 0], .tuple [.int 1, .int 0], .tuple [.int 0, .int 1], .tuple [.int 1, .int 1], .tuple [.int 2, .int 1], .tuple [.int 3, .int 1]]) (by kernel_rfl)) eab_nil (by intro _; rfl)) (by decide)) (by decide)) (by kernel_rfl)) ?_ rfl (by walk_at "loc") (by intro _; kernel_rfl) (by walk_at "fnl")
    show DSb _ _ [.dat (.list gb5), .dat (.list db6), .dat (ePart pN2), .dat (ePart pF2), .dat (.tuple (jNF2.steps.map eStp)), .dat (ePart pClient), .dat (ePart pServer), .dat (ePart pWait), .dat (ePart pTwo)] _
    refine bs_setB 1 (.list db7) (EFb.to (eb_cat (eb_of (ef_var 1 rfl rfl (by walk_at "vis"))) (eb_lst (eab_cons (eb_tup (eab_cons (eb_const (n := 6) (d := .tuple [.str "t", .str "u", .str "v"]) (by kernel_rfl)) (eab_cons (eb_const (n := 6) (d := .tuple [.str "n"]) (by kernel_rfl)) (eab_cons (eb_const (n := 6) (d := .int 6) (by kernel_rfl)) (eab_cons (eb_of (ef_var 4 rfl rfl (by walk_at "vis"))) eab_nil (by intro _; rfl)) (by intro _; rfl)) (by intro _; rfl)) (by intro _; rfl)) (by decide)) eab_nil (by intro _; rfl)) (by decide)) (by decide)) (by kernel_rfl)) ?_ rfl (by walk_at "loc") (by intro _; kernel_rfl) (by walk_at "fnl")
    show DSb _ _ [.dat (.list gb5), .dat (.list db7), .dat (ePart pN2), .dat (ePart pF2), .dat (.tuple (jNF2.steps.map eStp)), .dat (ePart pClient), .dat (ePart pServer), .dat (ePart pWait), .dat (ePart pTwo)] _
    refine bs_retB (eb_of (ef_and (ef_callV (.bool true) h__law_same (ea_cons (ef_var 0 rfl rfl (by walk_at "vis")) (ea_cons (ef_var 1 rfl rfl (by walk_at "vis")) ea_nil)) ?_ (Nat.le_of_ble_eq_true rfl) (by intro _; rfl)) (fun _ => (ef_one (ef_callV (.bool true) h__law_more_right (ea_cons (ef_var 5 rfl rfl (by walk_at "vis")) (ea_cons (ef_var 6 rfl rfl (by walk_at "vis")) (ea_cons (ef_var 7 rfl rfl (by walk_at "vis")) (ea_cons (ef_var 8 rfl rfl (by walk_at "vis")) ea_nil)))) ?_ (Nat.le_of_ble_eq_true rfl) (by intro _; rfl)))))) rfl
    · exact ⟨.list gb5, ps_gb, rfl, rfl⟩
    · exact ⟨rfl, rfl⟩
end
end Fs

set_option maxRecDepth 100000
set_option maxHeartbeats 2000000
/-! The plain law: two joinable parts; the program's moves, clashes, cuts and steps against the law's. -/
namespace Fs
open PySem L2 DL NS
/-- joinable parts, as they are drawn -/
structure Jb (p q : Part) : Prop where
  sp : p.Small
  sq : q.Small
  dp : ∀ c ∈ p.takes, c ∉ p.makes
  dq : ∀ c ∈ q.takes, c ∉ q.makes
  tt : ∀ c ∈ p.takes, c ∉ q.takes
  mm : ∀ c ∈ p.makes, c ∉ q.makes
  ep : ∀ c ∈ p.takes ++ p.makes, c ≠ ""
  eq : ∀ c ∈ q.takes ++ q.makes, c ≠ ""
  np : (p.takes ++ p.makes).Nodup
  nq : (q.takes ++ q.makes).Nodup
  vp : ∀ c ∈ p.takes ++ p.makes, nameB c = true
  vq : ∀ c ∈ q.takes ++ q.makes, nameB c = true
theorem mem_known {p q : Part} {c : Str} : c ∈ known p q ↔ (c ∈ p.takes ∨ c ∈ p.makes) ∧ (c ∈ q.takes ∨ c ∈ q.makes) := by
  unfold known
  rw [mem_sortE, List.mem_filter, List.mem_append, decide_eq_true_eq, List.mem_append]
theorem mem_lboth {p q : Part} {c : Str} : c ∈ lboth p q ↔ (c ∈ p.takes ∨ c ∈ p.makes) ∧ (c ∈ q.takes ∨ c ∈ q.makes) := by
  unfold lboth
  rw [List.mem_filter, List.mem_append, decide_eq_true_eq, List.mem_append]
theorem known_iff {p q : Part} {c : Str} : c ∈ known p q ↔ c ∈ lboth p q := mem_known.trans mem_lboth.symm
theorem srt_congr {α : Type} [DecidableEq α] {enc : α → PyData} (T : Told enc) {a b : List α} (h : ∀ x, x ∈ a ↔ x ∈ b) : sortE enc (firsts a) = sortE enc (firsts b) :=
  sortE_perm_eq T (nodup_perm (firsts_nodup a) (firsts_nodup b) fun x => by rw [mem_firsts, mem_firsts]; exact h x)
theorem mem_lead {p : Part} {k m : Int} {t : Str} : m ∈ lead p k t ↔ ∃ s ∈ p.steps, s.1 = k ∧ s.2.1 = t ∧ s.2.2 = m := by
  unfold lead
  rw [List.mem_map]
  constructor
  · rintro ⟨s, h, rfl⟩
    obtain ⟨h1, h2⟩ := List.mem_filter.mp h
    simp only [Bool.and_eq_true, decide_eq_true_eq] at h2
    exact ⟨s, h1, h2.1, h2.2, rfl⟩
  · rintro ⟨s, h1, h2, h3, rfl⟩
    exact ⟨s, List.mem_filter.mpr ⟨h1, by simp [h2, h3]⟩, rfl⟩
theorem mem_rawOut {p q : Part} {r : Pr} {o : Out} : o ∈ rawOut p q r ↔
    (∃ s ∈ p.steps, s.1 = r.1 ∧ s.2.1 ∉ known p q ∧ o = (s.2.1, (s.2.2, r.2))) ∨ (∃ s ∈ q.steps, s.1 = r.2 ∧ s.2.1 ∉ known p q ∧ o = (s.2.1, (r.1, s.2.2))) ∨ (∃ c ∈ known p q, ∃ m ∈ lead p r.1 c, ∃ i ∈ lead q r.2 c, o = (("" : Str), (m, i))) := by
  unfold rawOut raw1 raw2 raw3
  rw [List.mem_append, List.mem_append, or_assoc]
  refine or_congr ?_ (or_congr ?_ ?_)
  · rw [List.mem_map]
    constructor
    · rintro ⟨s, h, rfl⟩
      obtain ⟨h1, h2⟩ := List.mem_filter.mp h
      simp only [Bool.and_eq_true, decide_eq_true_eq, Bool.not_eq_true', decide_eq_false_iff_not] at h2
      exact ⟨s, h1, h2.1, h2.2, rfl⟩
    · rintro ⟨s, h1, h2, h3, rfl⟩
      exact ⟨s, List.mem_filter.mpr ⟨h1, by simp [h2, h3]⟩, rfl⟩
  · rw [List.mem_map]
    constructor
    · rintro ⟨s, h, rfl⟩
      obtain ⟨h1, h2⟩ := List.mem_filter.mp h
      simp only [Bool.and_eq_true, decide_eq_true_eq, Bool.not_eq_true', decide_eq_false_iff_not] at h2
      exact ⟨s, h1, h2.1, h2.2, rfl⟩
    · rintro ⟨s, h1, h2, h3, rfl⟩
      exact ⟨s, List.mem_filter.mpr ⟨h1, by simp [h2, h3]⟩, rfl⟩
  · rw [List.mem_flatMap]
    constructor
    · rintro ⟨c, hc, h⟩
      obtain ⟨m, hm, h⟩ := List.mem_flatMap.mp h
      obtain ⟨i, hi, rfl⟩ := List.mem_map.mp h
      exact ⟨c, hc, m, hm, i, hi, rfl⟩
    · rintro ⟨c, hc, m, hm, i, hi, rfl⟩
      exact ⟨c, hc, List.mem_flatMap.mpr ⟨m, hm, List.mem_map.mpr ⟨i, hi, rfl⟩⟩⟩
theorem mem_stepsOut {p q : Part} {r : Pr} {o : Out} : o ∈ stepsOut p q r ↔ o ∈ rawOut p q r := by
  unfold stepsOut
  rw [mem_sortE, mem_firsts]
theorem mem_madeOf {p q : Part} {c : Str} : c ∈ madeOf p q ↔ c = "" ∨ c ∈ p.makes ∨ c ∈ q.makes := by
  unfold madeOf
  rw [List.mem_cons, List.mem_append]
theorem e_known {p q : Part} (J : Jb p q) : ("" : Str) ∉ known p q := fun h => by
  obtain ⟨h1, _⟩ := mem_known.mp h
  exact J.ep "" (List.mem_append.mpr h1) rfl
theorem mem_moves {p q : Part} {r x : Pr} : x ∈ moves p q r ↔ ∃ o ∈ rawOut p q r, o.1 ∈ madeOf p q ∧ o.2 = x := by
  unfold moves
  rw [mem_sortE, mem_firsts, List.mem_map]
  constructor
  · rintro ⟨o, h, rfl⟩
    obtain ⟨h1, h2⟩ := List.mem_filter.mp h
    exact ⟨o, mem_stepsOut.mp h1, of_decide_eq_true h2, rfl⟩
  · rintro ⟨o, h1, h2, rfl⟩
    exact ⟨o, List.mem_filter.mpr ⟨mem_stepsOut.mpr h1, decide_eq_true h2⟩, rfl⟩
theorem mem_lmvRaw {p q : Part} {k j : Int} {x : Pr} : x ∈ lmvRaw p q k j ↔
    (∃ s ∈ p.steps, s.1 = k ∧ (s.2.1 = "" ∨ (s.2.1 ∈ p.makes ∧ s.2.1 ∉ lboth p q)) ∧ x = (s.2.2, j)) ∨ (∃ s ∈ q.steps, s.1 = j ∧ (s.2.1 = "" ∨ (s.2.1 ∈ q.makes ∧ s.2.1 ∉ lboth p q)) ∧ x = (k, s.2.2)) ∨ (∃ c ∈ lboth p q, ∃ m ∈ lead p k c, ∃ i ∈ lead q j c, x = (m, i)) := by
  unfold lmvRaw lmvA lmvB lmvC
  rw [List.mem_append, List.mem_append, or_assoc]
  refine or_congr ?_ (or_congr ?_ ?_)
  · rw [List.mem_map]
    constructor
    · rintro ⟨s, h, rfl⟩
      obtain ⟨h1, h2⟩ := List.mem_filter.mp h
      simp only [Bool.and_eq_true, Bool.or_eq_true, decide_eq_true_eq, Bool.not_eq_true', decide_eq_false_iff_not] at h2
      exact ⟨s, h1, h2.1, h2.2, rfl⟩
    · rintro ⟨s, h1, h2, h3, rfl⟩
      refine ⟨s, List.mem_filter.mpr ⟨h1, ?_⟩, rfl⟩
      simp only [Bool.and_eq_true, Bool.or_eq_true, decide_eq_true_eq, Bool.not_eq_true', decide_eq_false_iff_not]
      exact ⟨h2, h3⟩
  · rw [List.mem_map]
    constructor
    · rintro ⟨s, h, rfl⟩
      obtain ⟨h1, h2⟩ := List.mem_filter.mp h
      simp only [Bool.and_eq_true, Bool.or_eq_true, decide_eq_true_eq, Bool.not_eq_true', decide_eq_false_iff_not] at h2
      exact ⟨s, h1, h2.1, h2.2, rfl⟩
    · rintro ⟨s, h1, h2, h3, rfl⟩
      refine ⟨s, List.mem_filter.mpr ⟨h1, ?_⟩, rfl⟩
      simp only [Bool.and_eq_true, Bool.or_eq_true, decide_eq_true_eq, Bool.not_eq_true', decide_eq_false_iff_not]
      exact ⟨h2, h3⟩
  · rw [List.mem_flatMap]
    constructor
    · rintro ⟨c, hc, h⟩
      obtain ⟨m, hm, h⟩ := List.mem_flatMap.mp h
      obtain ⟨i, hi, rfl⟩ := List.mem_map.mp h
      exact ⟨c, hc, m, hm, i, hi, rfl⟩
    · rintro ⟨c, hc, m, hm, i, hi, rfl⟩
      exact ⟨c, hc, List.mem_flatMap.mpr ⟨m, hm, List.mem_map.mpr ⟨i, hi, rfl⟩⟩⟩
theorem moves_eq {p q : Part} (J : Jb p q) (k j : Int) : moves p q (k, j) = lmoves p q k j := by
  unfold lmoves
  rw [show moves p q (k, j) = sortE ePr (firsts (((stepsOut p q (k, j)).filter fun o => decide (o.1 ∈ madeOf p q)).map Prod.snd)) from rfl]
  refine srt_congr told_pr fun x => ?_
  have e : (x ∈ ((stepsOut p q (k, j)).filter fun o => decide (o.1 ∈ madeOf p q)).map Prod.snd) ↔ ∃ o ∈ rawOut p q (k, j), o.1 ∈ madeOf p q ∧ o.2 = x := by
    have := mem_moves (p := p) (q := q) (r := (k, j)) (x := x)
    unfold moves at this
    rw [mem_sortE, mem_firsts] at this
    exact this
  rw [e, mem_lmvRaw]
  have ek := e_known J
  constructor
  · rintro ⟨o, ho, hm, rfl⟩
    rcases mem_rawOut.mp ho with ⟨s, h1, h2, h3, rfl⟩ | ⟨s, h1, h2, h3, rfl⟩ | ⟨c, h1, m, h2, i, h3, rfl⟩
    · refine .inl ⟨s, h1, h2, ?_, rfl⟩
      rcases mem_madeOf.mp hm with e | e | e
      · exact .inl e
      · exact .inr ⟨e, fun z => h3 (known_iff.mpr z)⟩
      · rcases J.sp.nam s h1 with n | n | n
        · exact .inl n
        · exact absurd (mem_known.mpr ⟨.inl n, .inr e⟩) h3
        · exact .inr ⟨n, fun z => h3 (known_iff.mpr z)⟩
    · refine .inr (.inl ⟨s, h1, h2, ?_, rfl⟩)
      rcases mem_madeOf.mp hm with e | e | e
      · exact .inl e
      · rcases J.sq.nam s h1 with n | n | n
        · exact .inl n
        · exact absurd (mem_known.mpr ⟨.inr e, .inl n⟩) h3
        · exact .inr ⟨n, fun z => h3 (known_iff.mpr z)⟩
      · exact .inr ⟨e, fun z => h3 (known_iff.mpr z)⟩
    · exact .inr (.inr ⟨c, known_iff.mp h1, m, h2, i, h3, rfl⟩)
  · rintro (⟨s, h1, h2, h3, rfl⟩ | ⟨s, h1, h2, h3, rfl⟩ | ⟨c, h1, m, h2, i, h3, rfl⟩)
    · refine ⟨(s.2.1, (s.2.2, j)), mem_rawOut.mpr (.inl ⟨s, h1, h2, ?_, rfl⟩), ?_, rfl⟩
      · rcases h3 with e | ⟨_, e⟩
        · rw [e]; exact ek
        · exact fun z => e (known_iff.mp z)
      · rcases h3 with e | ⟨e, _⟩
        · exact mem_madeOf.mpr (.inl e)
        · exact mem_madeOf.mpr (.inr (.inl e))
    · refine ⟨(s.2.1, (k, s.2.2)), mem_rawOut.mpr (.inr (.inl ⟨s, h1, h2, ?_, rfl⟩)), ?_, rfl⟩
      · rcases h3 with e | ⟨_, e⟩
        · rw [e]; exact ek
        · exact fun z => e (known_iff.mp z)
      · rcases h3 with e | ⟨e, _⟩
        · exact mem_madeOf.mpr (.inl e)
        · exact mem_madeOf.mpr (.inr (.inr e))
    · exact ⟨("", (m, i)), mem_rawOut.mpr (.inr (.inr ⟨c, known_iff.mpr h1, m, h2, i, h3, rfl⟩)), mem_madeOf.mpr (.inl rfl), rfl⟩
theorem clash_iff {p q : Part} (J : Jb p q) (k j : Int) : 0 < (clash p q (k, j)).length ↔ (lclash p q k j).length ≠ 0 := by
  have e1 : 0 < (clash p q (k, j)).length ↔ ∃ c ∈ known p q, clashB p q (k, j) c = true := by
    rw [List.length_pos_iff_exists_mem]
    unfold clash
    exact ⟨fun ⟨c, h⟩ => ⟨c, (List.mem_filter.mp h).1, (List.mem_filter.mp h).2⟩, fun ⟨c, h1, h2⟩ => ⟨c, List.mem_filter.mpr ⟨h1, h2⟩⟩⟩
  have e2 : (lclash p q k j).length ≠ 0 ↔ (∃ c ∈ p.makes, lclA p q k j c = true) ∨ ∃ c ∈ q.makes, lclA q p j k c = true := by
    rw [← Nat.pos_iff_ne_zero, List.length_pos_iff_exists_mem]
    unfold lclash
    constructor
    · rintro ⟨c, h⟩
      rcases List.mem_append.mp (mem_sortE.mp h) with h | h
      · exact .inl ⟨c, (List.mem_filter.mp h).1, (List.mem_filter.mp h).2⟩
      · exact .inr ⟨c, (List.mem_filter.mp h).1, (List.mem_filter.mp h).2⟩
    · rintro (⟨c, h1, h2⟩ | ⟨c, h1, h2⟩)
      · exact ⟨c, mem_sortE.mpr (List.mem_append_left _ (List.mem_filter.mpr ⟨h1, h2⟩))⟩
      · exact ⟨c, mem_sortE.mpr (List.mem_append_right _ (List.mem_filter.mpr ⟨h1, h2⟩))⟩
  rw [e1, e2]
  unfold clashB lclA
  constructor
  · rintro ⟨c, hc, h⟩
    obtain ⟨c1, c2⟩ := mem_known.mp hc
    by_cases hm : c ∈ p.makes
    · rw [if_pos hm] at h
      simp only [Bool.and_eq_true, decide_eq_true_eq] at h
      have ht : c ∈ q.takes := c2.resolve_right (J.mm c hm)
      refine .inl ⟨c, hm, ?_⟩
      simp only [Bool.and_eq_true, decide_eq_true_eq, Bool.not_eq_true', decide_eq_false_iff_not]
      exact ⟨ht, by omega, h.2⟩
    · rw [if_neg hm] at h
      simp only [Bool.and_eq_true, decide_eq_true_eq] at h
      have hp : c ∈ p.takes := c1.resolve_right hm
      have hq : c ∈ q.makes := c2.resolve_left (J.tt c hp)
      refine .inr ⟨c, hq, ?_⟩
      simp only [Bool.and_eq_true, decide_eq_true_eq, Bool.not_eq_true', decide_eq_false_iff_not]
      exact ⟨hp, by omega, h.2⟩
  · rintro (⟨c, hm, h⟩ | ⟨c, hm, h⟩)
    · simp only [Bool.and_eq_true, decide_eq_true_eq, Bool.not_eq_true', decide_eq_false_iff_not] at h
      refine ⟨c, mem_known.mpr ⟨.inr hm, .inl h.1⟩, ?_⟩
      rw [if_pos hm]
      simp only [Bool.and_eq_true, decide_eq_true_eq]
      exact ⟨by omega, h.2.2⟩
    · simp only [Bool.and_eq_true, decide_eq_true_eq, Bool.not_eq_true', decide_eq_false_iff_not] at h
      refine ⟨c, mem_known.mpr ⟨.inl h.1, .inr hm⟩, ?_⟩
      rw [if_neg (J.dp c h.1)]
      simp only [Bool.and_eq_true, decide_eq_true_eq]
      exact ⟨by omega, h.2.2⟩
end Fs

set_option maxRecDepth 100000
set_option maxHeartbeats 2000000
/-! The plain law: bad pairs, by what can be come to. -/
namespace Fs
open PySem L2 DL NS
/-- by moves of its own from a to c -/
inductive Rch (p q : Part) : Pr → Pr → Prop
  | here (a : Pr) : Rch p q a a
  | move {a b c : Pr} (h : b ∈ moves p q a) (t : Rch p q b c) : Rch p q a c
theorem moves_every {p q : Part} (J : Jb p q) {a b : Pr} (ha : a ∈ every p q) (hb : b ∈ moves p q a) : b ∈ every p q := by
  have e : moves p q a = lmoves p q a.1 a.2 := moves_eq J a.1 a.2
  rw [e] at hb
  exact lmoves_sub J.sp J.sq (k := a.1) (j := a.2) ha b hb
section
variable {p q : Part}
theorem badGo_mono : ∀ (n : Nat) (l : List Pr), ∀ x ∈ l, x ∈ badGo p q n l
  | 0, _, _, h => h
  | n + 1, l, x, h => by
    unfold badGo
    split
    · exact h
    · exact badGo_mono n _ x (List.mem_append_left _ h)
theorem badGo_closed : ∀ (n : Nat) (l : List Pr), l.Nodup → (∀ x ∈ l, x ∈ every p q) → (every p q).length < n + l.length → fresh p q (badGo p q n l) = []
  | 0, l, nd, sub, h => by
    have := nodup_le nd sub
    omega
  | n + 1, l, nd, sub, h => by
    unfold badGo
    split
    · rename_i h0
      exact List.eq_nil_of_length_eq_zero h0
    · rename_i h0
      have nf : (fresh p q l).Nodup := List.Nodup.sublist List.filter_sublist (every_nodup p q)
      have sf : ∀ x ∈ fresh p q l, x ∈ every p q ∧ x ∉ l := fun x hx => by
        obtain ⟨h1, h2⟩ := List.mem_filter.mp hx
        simp only [Bool.and_eq_true, Bool.not_eq_true', decide_eq_false_iff_not] at h2
        exact ⟨h1, h2.1⟩
      refine badGo_closed n _ ?_ (fun x hx => (List.mem_append.mp hx).elim (sub x) fun h => (sf x h).1) ?_
      · rw [List.nodup_append]
        exact ⟨nd, nf, fun a ha b hb e => (sf b hb).2 (by rw [← e]; exact ha)⟩
      · rw [List.length_append]
        omega
theorem badGo_sound (Bd : Pr → Prop) (hst : ∀ a b, b ∈ moves p q a → Bd b → Bd a) : ∀ (n : Nat) (l : List Pr), (∀ x ∈ l, Bd x) → ∀ x ∈ badGo p q n l, Bd x
  | 0, _, h => h
  | n + 1, l, h => by
    unfold badGo
    split
    · exact h
    · refine badGo_sound Bd hst n _ fun x hx => ?_
      rcases List.mem_append.mp hx with hx | hx
      · exact h x hx
      · obtain ⟨_, h2⟩ := List.mem_filter.mp hx
        simp only [Bool.and_eq_true, List.any_eq_true, decide_eq_true_eq] at h2
        obtain ⟨_, a, ha, hal⟩ := h2
        exact hst x a ha (h a hal)
theorem mem_badOf (J : Jb p q) (r : Pr) : r ∈ badOf p q ↔ r ∈ every p q ∧ ∃ z, Rch p q r z ∧ 0 < (clash p q z).length := by
  have h0 : ∀ x, x ∈ bad0 p q ↔ x ∈ every p q ∧ 0 < (clash p q x).length := fun x => by
    unfold bad0
    rw [List.mem_filter, decide_eq_true_eq]
  have nd0 : (bad0 p q).Nodup := List.Nodup.sublist List.filter_sublist (every_nodup p q)
  constructor
  · intro h
    refine ⟨(bad_sub p q).2 r h, ?_⟩
    unfold badOf at h
    exact badGo_sound (fun r => ∃ z, Rch p q r z ∧ 0 < (clash p q z).length) (fun a b hb ⟨z, hz, hc⟩ => ⟨z, .move hb hz, hc⟩) _ _ (fun x hx => ⟨x, .here x, ((h0 x).mp hx).2⟩) r (mem_sortE.mp h)
  · rintro ⟨hr, z, hz, hc⟩
    unfold badOf
    rw [mem_sortE]
    have closed := badGo_closed (p := p) (q := q) ((every p q).length + 1) (bad0 p q) nd0 (fun x hx => ((h0 x).mp hx).1) (by omega)
    generalize hF : badGo p q ((every p q).length + 1) (bad0 p q) = F at closed ⊢
    have base : ∀ x ∈ bad0 p q, x ∈ F := fun x hx => by rw [← hF]; exact badGo_mono _ _ x hx
    induction hz with
    | here a => exact base a ((h0 a).mpr ⟨hr, hc⟩)
    | @move a b c hb _ ih =>
      have hbF := ih (moves_every J hr hb) hc
      by_cases ha : a ∈ F
      · exact ha
      · have : a ∈ fresh p q F := List.mem_filter.mpr ⟨hr, by
          simp only [Bool.and_eq_true, Bool.not_eq_true', decide_eq_false_iff_not, List.any_eq_true, decide_eq_true_eq]
          exact ⟨ha, b, hb, hbF⟩⟩
        rw [closed] at this
        cases this
/-! the law's walk ahead -/
theorem mem_ahNew {found new : List Pr} {x : Pr} : x ∈ ahNew p q found new ↔ (∃ o ∈ new, x ∈ lmoves p q o.1 o.2) ∧ x ∉ found := by
  unfold ahNew
  rw [mem_sortE, mem_firsts, List.mem_filter, List.mem_flatMap]
  simp only [Bool.not_eq_true', decide_eq_false_iff_not]
theorem ahGo_spec (J : Jb p q) : ∀ (n : Nat) (found new : List Pr), InA p q found new → (∀ x ∈ found, x ∉ new → ∀ y ∈ lmoves p q x.1 x.2, y ∈ found) → (new.length = 0 ∨ 17 ≤ n + found.length) →
    (∀ x ∈ found, x ∈ ahGo p q n found new) ∧ ∀ x ∈ ahGo p q n found new, ∀ y ∈ lmoves p q x.1 x.2, y ∈ ahGo p q n found new
  | 0, found, new, I, cl, hn => by
    unfold ahGo
    have hl := sub_len J.sp J.sq I.nd I.sub
    have h0 : new.length = 0 := by omega
    have e := List.eq_nil_of_length_eq_zero h0
    subst e
    exact ⟨fun x h => h, fun x hx => cl x hx (by simp)⟩
  | n + 1, found, new, I, cl, hn => by
    unfold ahGo
    split
    · rename_i h0
      have e := List.eq_nil_of_length_eq_zero h0
      subst e
      exact ⟨fun x h => h, fun x hx => cl x hx (by simp)⟩
    · rename_i h0
      have I2 := I.step J.sp J.sq
      have cl2 : ∀ x ∈ found ++ ahNew p q found new, x ∉ ahNew p q found new → ∀ y ∈ lmoves p q x.1 x.2, y ∈ found ++ ahNew p q found new := fun x hx hnx y hy => by
        have hxf : x ∈ found := (List.mem_append.mp hx).resolve_right hnx
        by_cases hxn : x ∈ new
        · by_cases hyf : y ∈ found
          · exact List.mem_append_left _ hyf
          · exact List.mem_append_right _ (mem_ahNew.mpr ⟨⟨x, hxn, hy⟩, hyf⟩)
        · exact List.mem_append_left _ (cl x hxf hxn y hy)
      have hn2 : (ahNew p q found new).length = 0 ∨ 17 ≤ n + (found ++ ahNew p q found new).length := by
        rw [List.length_append]
        omega
      obtain ⟨h1, h2⟩ := ahGo_spec J n _ _ I2 cl2 hn2
      exact ⟨fun x hx => h1 x (List.mem_append_left _ hx), h2⟩
theorem ahGo_sound (Ok : Pr → Prop) (hst : ∀ a b : Pr, Ok a → b ∈ lmoves p q a.1 a.2 → Ok b) : ∀ (n : Nat) (found new : List Pr), (∀ x ∈ found, Ok x) → (∀ x ∈ new, Ok x) → ∀ x ∈ ahGo p q n found new, Ok x
  | 0, _, _, h, _ => h
  | n + 1, found, new, h, h2 => by
    unfold ahGo
    split
    · exact h
    · have hn : ∀ x ∈ ahNew p q found new, Ok x := fun x hx => by
        obtain ⟨⟨o, ho, hm⟩, _⟩ := mem_ahNew.mp hx
        exact hst o x (h2 o ho) hm
      exact ahGo_sound Ok hst n _ _ (fun x hx => (List.mem_append.mp hx).elim (h x) (hn x)) hn
theorem Rch.snoc {a b c : Pr} (h : Rch p q a b) (m : c ∈ moves p q b) : Rch p q a c := by
  induction h with
  | here a => exact .move m (.here c)
  | move h _ ih => exact .move h (ih m)
theorem mem_ahead (J : Jb p q) {k j : Int} (hz : (k, j) ∈ every p q) (o : Pr) : o ∈ ahead p q k j ↔ Rch p q (k, j) o := by
  unfold ahead
  constructor
  · intro h
    exact ahGo_sound (fun o => Rch p q (k, j) o) (fun a b ha hb => ha.snoc (by rw [show moves p q a = lmoves p q a.1 a.2 from moves_eq J a.1 a.2]; exact hb)) 20 _ _ (fun x hx => by rw [List.mem_singleton.mp hx]; exact .here _) (fun x hx => by rw [List.mem_singleton.mp hx]; exact .here _) o h
  · intro h
    obtain ⟨h1, h2⟩ := ahGo_spec J 20 [(k, j)] [(k, j)] ⟨by simp, fun x hx => by rw [List.mem_singleton.mp hx]; exact hz, fun x hx => hx, by simp⟩ (fun x hx hn => absurd hx hn) (.inr (by simp))
    generalize ahGo p q 20 [(k, j)] [(k, j)] = F at h1 h2 ⊢
    have h0 := h1 (k, j) (List.mem_singleton.mpr rfl)
    generalize (k, j) = s at h h0
    clear hz h1
    induction h with
    | here a => exact h0
    | @move a b c hb _ ih => exact ih (h2 a h0 b (by rw [← show moves p q a = lmoves p q a.1 a.2 from moves_eq J a.1 a.2]; exact hb))
theorem mem_lbad (J : Jb p q) (r : Pr) : r ∈ lbad p q ↔ r ∈ every p q ∧ ∃ z, Rch p q r z ∧ 0 < (clash p q z).length := by
  have e : r ∈ lbad p q ↔ r ∈ every p q ∧ lbadP p q r.1 r.2 = true := by
    unfold lbad
    rw [List.mem_flatMap, mem_every]
    constructor
    · rintro ⟨k, hk, h⟩
      obtain ⟨j, hj, rfl⟩ := List.mem_map.mp h
      obtain ⟨h1, h2⟩ := List.mem_filter.mp hj
      exact ⟨⟨mem_rng.mp hk, mem_rng.mp h1⟩, h2⟩
    · rintro ⟨⟨h1, h2⟩, h3⟩
      exact ⟨r.1, mem_rng.mpr h1, List.mem_map.mpr ⟨r.2, List.mem_filter.mpr ⟨mem_rng.mpr h2, h3⟩, rfl⟩⟩
  rw [e]
  refine and_congr_right fun hr => ?_
  unfold lbadP
  simp only [Bool.not_eq_true', decide_eq_false_iff_not]
  rw [← ne_eq, ← Nat.pos_iff_ne_zero, List.length_pos_iff_exists_mem]
  constructor
  · rintro ⟨o, ho⟩
    obtain ⟨h1, h2⟩ := List.mem_filter.mp ho
    simp only [Bool.not_eq_true', decide_eq_false_iff_not] at h2
    exact ⟨o, (mem_ahead J (k := r.1) (j := r.2) hr o).mp h1, (clash_iff J o.1 o.2).mpr h2⟩
  · rintro ⟨z, hz, hc⟩
    refine ⟨z, List.mem_filter.mpr ⟨(mem_ahead J (k := r.1) (j := r.2) hr z).mpr hz, ?_⟩⟩
    simp only [Bool.not_eq_true', decide_eq_false_iff_not]
    exact (clash_iff J z.1 z.2).mp hc
theorem bad_iff (J : Jb p q) (r : Pr) : r ∈ badOf p q ↔ r ∈ lbad p q := (mem_badOf J r).trans (mem_lbad J r).symm
end
end Fs

set_option maxRecDepth 100000
set_option maxHeartbeats 2000000
/-! The plain law: cuts, steps, what is joined. -/
namespace Fs
open PySem L2 DL NS
section
variable {p q : Part}
theorem mem_cuts {r : Pr} {bad : List Pr} {c : Str} : c ∈ ((stepsOut p q r).filter fun o => !decide (o.1 ∈ madeOf p q) && decide (o.2 ∈ bad)).map Prod.fst ↔ ∃ o ∈ rawOut p q r, o.1 ∉ madeOf p q ∧ o.2 ∈ bad ∧ o.1 = c := by
  rw [List.mem_map]
  constructor
  · rintro ⟨o, h, rfl⟩
    obtain ⟨h1, h2⟩ := List.mem_filter.mp h
    simp only [Bool.and_eq_true, Bool.not_eq_true', decide_eq_false_iff_not, decide_eq_true_eq] at h2
    exact ⟨o, mem_stepsOut.mp h1, h2.1, h2.2, rfl⟩
  · rintro ⟨o, h1, h2, h3, rfl⟩
    refine ⟨o, List.mem_filter.mpr ⟨mem_stepsOut.mpr h1, ?_⟩, rfl⟩
    simp only [Bool.and_eq_true, Bool.not_eq_true', decide_eq_false_iff_not, decide_eq_true_eq]
    exact ⟨h2, h3⟩
theorem mem_lcutRaw {k j : Int} {bad : List Pr} {c : Str} : c ∈ lcutA p q k j bad ++ lcutB p q k j bad ↔
    (∃ s ∈ p.steps, s.1 = k ∧ s.2.1 ∈ p.takes ∧ s.2.1 ∉ lboth p q ∧ (s.2.2, j) ∈ bad ∧ s.2.1 = c) ∨ (∃ s ∈ q.steps, s.1 = j ∧ s.2.1 ∈ q.takes ∧ s.2.1 ∉ lboth p q ∧ (k, s.2.2) ∈ bad ∧ s.2.1 = c) := by
  rw [List.mem_append]
  unfold lcutA lcutB
  refine or_congr ?_ ?_
  · rw [List.mem_map]
    constructor
    · rintro ⟨s, h, rfl⟩
      obtain ⟨h1, h2⟩ := List.mem_filter.mp h
      simp only [Bool.and_eq_true, decide_eq_true_eq, Bool.not_eq_true', decide_eq_false_iff_not] at h2
      exact ⟨s, h1, h2.1.1, h2.1.2.1, h2.1.2.2, h2.2, rfl⟩
    · rintro ⟨s, h1, h2, h3, h4, h5, rfl⟩
      refine ⟨s, List.mem_filter.mpr ⟨h1, ?_⟩, rfl⟩
      simp only [Bool.and_eq_true, decide_eq_true_eq, Bool.not_eq_true', decide_eq_false_iff_not]
      exact ⟨⟨h2, h3, h4⟩, h5⟩
  · rw [List.mem_map]
    constructor
    · rintro ⟨s, h, rfl⟩
      obtain ⟨h1, h2⟩ := List.mem_filter.mp h
      simp only [Bool.and_eq_true, decide_eq_true_eq, Bool.not_eq_true', decide_eq_false_iff_not] at h2
      exact ⟨s, h1, h2.1.1, h2.1.2.1, h2.1.2.2, h2.2, rfl⟩
    · rintro ⟨s, h1, h2, h3, h4, h5, rfl⟩
      refine ⟨s, List.mem_filter.mpr ⟨h1, ?_⟩, rfl⟩
      simp only [Bool.and_eq_true, decide_eq_true_eq, Bool.not_eq_true', decide_eq_false_iff_not]
      exact ⟨⟨h2, h3, h4⟩, h5⟩
theorem cuts_eq (J : Jb p q) {bad bad' : List Pr} (hb : ∀ r, r ∈ bad ↔ r ∈ bad') (k j : Int) : cuts p q (k, j) bad = lcut p q k j bad' := by
  unfold cuts lcut
  refine srt_congr told_str fun c => ?_
  rw [mem_cuts, mem_lcutRaw]
  constructor
  · rintro ⟨o, ho, hm, hbad, rfl⟩
    rw [mem_madeOf, not_or, not_or] at hm
    obtain ⟨m1, m2, m3⟩ := hm
    rcases mem_rawOut.mp ho with ⟨s, h1, h2, h3, rfl⟩ | ⟨s, h1, h2, h3, rfl⟩ | ⟨c, h1, m, h2, i, h3, rfl⟩
    · refine .inl ⟨s, h1, h2, ?_, fun z => h3 (known_iff.mpr z), (hb _).mp hbad, rfl⟩
      rcases J.sp.nam s h1 with n | n | n
      · exact absurd n m1
      · exact n
      · exact absurd n m2
    · refine .inr ⟨s, h1, h2, ?_, fun z => h3 (known_iff.mpr z), (hb _).mp hbad, rfl⟩
      rcases J.sq.nam s h1 with n | n | n
      · exact absurd n m1
      · exact n
      · exact absurd n m3
    · exact absurd rfl m1
  · rintro (⟨s, h1, h2, h3, h4, h5, rfl⟩ | ⟨s, h1, h2, h3, h4, h5, rfl⟩)
    · refine ⟨(s.2.1, (s.2.2, j)), mem_rawOut.mpr (.inl ⟨s, h1, h2, fun z => h4 (known_iff.mp z), rfl⟩), ?_, (hb _).mpr h5, rfl⟩
      rw [mem_madeOf, not_or, not_or]
      exact ⟨J.ep _ (List.mem_append_left _ h3), J.dp _ h3, fun z => h4 (mem_lboth.mpr ⟨.inl h3, .inr z⟩)⟩
    · refine ⟨(s.2.1, (k, s.2.2)), mem_rawOut.mpr (.inr (.inl ⟨s, h1, h2, fun z => h4 (known_iff.mp z), rfl⟩)), ?_, (hb _).mpr h5, rfl⟩
      rw [mem_madeOf, not_or, not_or]
      exact ⟨J.eq _ (List.mem_append_left _ h3), fun z => h4 (mem_lboth.mpr ⟨.inr z, .inl h3⟩), J.dq _ h3⟩
theorem mem_lstRaw {k j : Int} {bad : List Pr} {o : Out} : o ∈ lstRaw p q k j bad ↔
    (∃ s ∈ p.steps, s.1 = k ∧ (s.2.1 ∉ lboth p q ∧ s.2.1 ∉ lcut p q k j bad) ∧ o = (s.2.1, (s.2.2, j))) ∨ (∃ s ∈ q.steps, s.1 = j ∧ (s.2.1 ∉ lboth p q ∧ s.2.1 ∉ lcut p q k j bad) ∧ o = (s.2.1, (k, s.2.2))) ∨ (∃ c ∈ lboth p q, ∃ m ∈ lead p k c, ∃ i ∈ lead q j c, o = (("" : Str), (m, i))) := by
  unfold lstRaw lstA lstB lstC loff
  rw [List.mem_append, List.mem_append, or_assoc]
  refine or_congr ?_ (or_congr ?_ ?_)
  · rw [List.mem_map]
    constructor
    · rintro ⟨s, h, rfl⟩
      obtain ⟨h1, h2⟩ := List.mem_filter.mp h
      simp only [Bool.and_eq_true, decide_eq_true_eq, Bool.not_eq_true', decide_eq_false_iff_not, List.mem_append, not_or] at h2
      exact ⟨s, h1, h2.1, h2.2, rfl⟩
    · rintro ⟨s, h1, h2, h3, rfl⟩
      refine ⟨s, List.mem_filter.mpr ⟨h1, ?_⟩, rfl⟩
      simp only [Bool.and_eq_true, decide_eq_true_eq, Bool.not_eq_true', decide_eq_false_iff_not, List.mem_append, not_or]
      exact ⟨h2, h3⟩
  · rw [List.mem_map]
    constructor
    · rintro ⟨s, h, rfl⟩
      obtain ⟨h1, h2⟩ := List.mem_filter.mp h
      simp only [Bool.and_eq_true, decide_eq_true_eq, Bool.not_eq_true', decide_eq_false_iff_not, List.mem_append, not_or] at h2
      exact ⟨s, h1, h2.1, h2.2, rfl⟩
    · rintro ⟨s, h1, h2, h3, rfl⟩
      refine ⟨s, List.mem_filter.mpr ⟨h1, ?_⟩, rfl⟩
      simp only [Bool.and_eq_true, decide_eq_true_eq, Bool.not_eq_true', decide_eq_false_iff_not, List.mem_append, not_or]
      exact ⟨h2, h3⟩
  · rw [List.mem_flatMap]
    constructor
    · rintro ⟨c, hc, h⟩
      obtain ⟨m, hm, h⟩ := List.mem_flatMap.mp h
      obtain ⟨i, hi, rfl⟩ := List.mem_map.mp h
      exact ⟨c, hc, m, hm, i, hi, rfl⟩
    · rintro ⟨c, hc, m, hm, i, hi, rfl⟩
      exact ⟨c, hc, List.mem_flatMap.mpr ⟨m, hm, List.mem_map.mpr ⟨i, hi, rfl⟩⟩⟩
theorem lcut_ne (J : Jb p q) {k j : Int} {bad : List Pr} {c : Str} (h : c ∈ lcut p q k j bad) : c ≠ "" := by
  unfold lcut at h
  rw [mem_sortE, mem_firsts, mem_lcutRaw] at h
  rcases h with ⟨s, _, _, h3, _, _, rfl⟩ | ⟨s, _, _, h3, _, _, rfl⟩
  · exact J.ep _ (List.mem_append_left _ h3)
  · exact J.eq _ (List.mem_append_left _ h3)
theorem steps_eq (J : Jb p q) {bad bad' : List Pr} (hb : ∀ r, r ∈ bad ↔ r ∈ bad') (k j : Int) : (stepsOut p q (k, j)).filter (fun o => !decide (o.1 ∈ cuts p q (k, j) bad)) = lsteps p q k j bad' := by
  have nd : (stepsOut p q (k, j)).Nodup := by
    unfold stepsOut
    exact (sortE_perm _ _).nodup_iff.mpr (firsts_nodup _)
  unfold lsteps
  refine sortE_of_sorted told_out (nodup_perm (List.Nodup.sublist List.filter_sublist nd) (firsts_nodup _) fun o => ?_) ?_
  · rw [List.mem_filter, mem_stepsOut, mem_firsts, mem_lstRaw, mem_rawOut, cuts_eq J hb]
    simp only [Bool.not_eq_true', decide_eq_false_iff_not]
    constructor
    · rintro ⟨h, hc⟩
      rcases h with ⟨s, h1, h2, h3, rfl⟩ | ⟨s, h1, h2, h3, rfl⟩ | ⟨c, h1, m, h2, i, h3, rfl⟩
      · exact .inl ⟨s, h1, h2, ⟨fun z => h3 (known_iff.mpr z), hc⟩, rfl⟩
      · exact .inr (.inl ⟨s, h1, h2, ⟨fun z => h3 (known_iff.mpr z), hc⟩, rfl⟩)
      · exact .inr (.inr ⟨c, known_iff.mp h1, m, h2, i, h3, rfl⟩)
    · rintro (⟨s, h1, h2, h3, rfl⟩ | ⟨s, h1, h2, h3, rfl⟩ | ⟨c, h1, m, h2, i, h3, rfl⟩)
      · exact ⟨.inl ⟨s, h1, h2, fun z => h3.1 (known_iff.mp z), rfl⟩, h3.2⟩
      · exact ⟨.inr (.inl ⟨s, h1, h2, fun z => h3.1 (known_iff.mp z), rfl⟩), h3.2⟩
      · exact ⟨.inr (.inr ⟨c, known_iff.mpr h1, m, h2, i, h3, rfl⟩), fun z => lcut_ne J z rfl⟩
  · unfold stepsOut
    exact List.Pairwise.sublist List.filter_sublist (sortE_sorted eOut _)
theorem fold_turn (barred : List Str) (place : Nat) : ∀ (l : List Out) (st : List Pr × List Stp), l.foldl (turnW barred place) st = (l.filter fun o => !decide (o.1 ∈ barred)).foldl (laTurn place) st
  | [], _ => rfl
  | o :: l, st => by
    rw [List.foldl_cons, fold_turn barred place l]
    by_cases h : o.1 ∈ barred
    · rw [List.filter_cons_of_neg (by simp [h])]
      unfold turnW
      rw [if_pos h]
    · rw [List.filter_cons_of_pos (by simp [h]), List.foldl_cons]
      unfold turnW laTurn
      rw [if_neg h]
theorem walkGo_eq (J : Jb p q) : ∀ (n place : Nat) (st : List Pr × List Stp), walkGo p q (badOf p q) n place st = laGo p q (lbad p q) n place st
  | 0, _, _ => rfl
  | n + 1, place, st => by
    unfold walkGo laGo
    cases st.1[place]? with
    | none => rfl
    | some z =>
      show walkGo p q (badOf p q) n (place + 1) _ = laGo p q (lbad p q) n (place + 1) _
      rw [walkGo_eq J n, fold_turn]
      have := steps_eq J (bad_iff J) z.1 z.2
      rw [show ((z.1, z.2) : Pr) = z from rfl] at this
      rw [this]
theorem walkAll_eq (J : Jb p q) : walkAll p q = lawAll p q := walkGo_eq J 20 0 _
theorem join_eq (J : Jb p q) : joinPart p q = lawPart p q := by
  unfold joinPart lawPart
  rw [walkAll_eq J]
  have e : ∀ c : Str, decide (c ∈ known p q) = decide (c ∈ lboth p q) := fun c => decide_eq_decide.mpr known_iff
  simp only [e]
end
end Fs

set_option maxRecDepth 100000
set_option maxHeartbeats 2000000
/-! The plain law: what is joined is a part; the drawn pairs. -/
namespace Fs
open PySem L2 DL NS
theorem rising_of {α : Type} {enc : α → PyData} : ∀ {l : List α}, (l.Pairwise fun a b => PySem.W.dataLt (enc a) (enc b) = true) → risingB (l.map enc) = true
  | [], _ => rfl
  | [x], _ => rfl
  | x :: y :: ys, h => by
    have h1 := List.pairwise_cons.mp h
    have ih := rising_of (enc := enc) h1.2
    unfold risingB at ih ⊢
    show (PySem.W.dataLt (enc x) (enc y) && _) = true
    rw [h1.1 y List.mem_cons_self, Bool.true_and]
    exact ih
theorem rising_sort {α : Type} {enc : α → PyData} (T : Told enc) {l : List α} (nd : l.Nodup) : risingB ((sortE enc l).map enc) = true := by
  refine rising_of ?_
  have h1 := sortE_sorted enc l
  have h2 : (sortE enc l).Nodup := (sortE_perm enc l).nodup_iff.mpr nd
  refine List.Pairwise.imp₂ (fun a b hle hne => ?_) h1 h2
  cases h : PySem.W.dataLt (enc a) (enc b) with
  | true => rfl
  | false =>
    refine absurd (dle_anti T hle ?_) hne
    rw [PySem.W.dataLe_eq]
    simp only [cond_false, Bool.not_eq_true']
    exact h
section
variable {p q : Part}
/-- a call of the part that is joined, or none -/
def Lab (p q : Part) (t : Str) : Prop := t = "" ∨ ((t ∈ p.takes ∨ t ∈ p.makes ∨ t ∈ q.takes ∨ t ∈ q.makes) ∧ t ∉ lboth p q)
structure Tn (p q : Part) (place : Nat) (done : List Out) (st : List Pr × List Stp) : Prop where
  nd : st.1.Nodup
  sub : ∀ x ∈ st.1, x ∈ every p q
  pl : place < st.1.length
  old : ∀ s ∈ st.2, (0 ≤ s.1 ∧ s.1 ≤ place) ∧ (0 ≤ s.2.2 ∧ s.2.2 < (st.1.length : Nat)) ∧ Lab p q s.2.1
  new : ∀ s ∈ st.2, s.1 = place → ∃ o ∈ done, ∃ i : Nat, s.2.1 = o.1 ∧ s.2.2 = (i : Int) ∧ st.1[i]? = some o.2
  sn : st.2.Nodup
theorem Tn.turn {place : Nat} {done : List Out} {st : List Pr × List Stp} (h : Tn p q place done st) {o : Out} (hd : o ∉ done) (ho : o.2 ∈ every p q) (hl : Lab p q o.1) : Tn p q place (done ++ [o]) (laTurn place st o) := by
  have fst : (laTurn place st o).1 = if o.2 ∈ st.1 then st.1 else st.1 ++ [o.2] := rfl
  have snd : (laTurn place st o).2 = st.2 ++ [((place : Int), o.1, (((laTurn place st o).1.idxOf o.2 : Nat) : Int))] := rfl
  generalize hst : laTurn place st o = st' at fst snd ⊢
  have hmem : o.2 ∈ st'.1 := by
    rw [fst]
    split
    · assumption
    · exact List.mem_append_right _ (List.mem_singleton.mpr rfl)
  have hpre : ∀ (i : Nat) x, st.1[i]? = some x → st'.1[i]? = some x := fun i x hx => by
    rw [fst]
    split
    · exact hx
    · rw [List.getElem?_append_left (List.getElem?_eq_some_iff.mp hx).1]; exact hx
  have hlen : st.1.length ≤ st'.1.length := by
    rw [fst]
    split
    · exact Nat.le_refl _
    · rw [List.length_append]; omega
  have hidx : st'.1.idxOf o.2 < st'.1.length := List.idxOf_lt_length_iff.mpr hmem
  have hget : st'.1[st'.1.idxOf o.2]? = some o.2 := by
    rw [List.getElem?_eq_getElem hidx, List.getElem_idxOf]
  have hpl := h.pl
  refine ⟨?_, ?_, by omega, fun s hs => ?_, fun s hs he => ?_, ?_⟩
  · rw [fst]
    split
    · exact h.nd
    · rename_i hn
      rw [List.nodup_append]
      exact ⟨h.nd, by simp, fun a ha b hb e => hn (by rw [List.mem_singleton] at hb; rw [← hb, ← e]; exact ha)⟩
  · rw [fst]
    split
    · exact h.sub
    · intro x hx
      rcases List.mem_append.mp hx with hx | hx
      · exact h.sub x hx
      · rw [List.mem_singleton.mp hx]; exact ho
  · rw [snd] at hs
    rcases List.mem_append.mp hs with hs | hs
    · obtain ⟨h1, h2, h3⟩ := h.old s hs
      exact ⟨h1, ⟨h2.1, by omega⟩, h3⟩
    · rw [List.mem_singleton] at hs
      subst hs
      exact ⟨⟨by show (0 : Int) ≤ (place : Int); omega, by show (place : Int) ≤ (place : Int); omega⟩, ⟨by show (0 : Int) ≤ ((st'.1.idxOf o.2 : Nat) : Int); omega, by show ((st'.1.idxOf o.2 : Nat) : Int) < _; omega⟩, hl⟩
  · rw [snd] at hs
    rcases List.mem_append.mp hs with hs | hs
    · obtain ⟨o', ho', i, e1, e2, e3⟩ := h.new s hs he
      exact ⟨o', List.mem_append_left _ ho', i, e1, e2, hpre i _ e3⟩
    · rw [List.mem_singleton] at hs
      subst hs
      exact ⟨o, List.mem_append_right _ (List.mem_singleton.mpr rfl), st'.1.idxOf o.2, rfl, rfl, hget⟩
  · rw [snd, List.nodup_append]
    refine ⟨h.sn, by simp, fun a ha b hb e => ?_⟩
    rw [List.mem_singleton] at hb
    subst e
    subst hb
    obtain ⟨o', ho', i, e1, e2, e3⟩ := h.new _ ha rfl
    have e2' : st'.1.idxOf o.2 = i := by
      have e2'' : ((st'.1.idxOf o.2 : Nat) : Int) = (i : Int) := e2
      omega
    have e4 := hpre i _ e3
    rw [← e2', hget] at e4
    have e5 : o.2 = o'.2 := Option.some.inj e4
    have e6 : o.1 = o'.1 := e1
    exact hd (by rw [show o = o' from Prod.ext e6 e5]; exact ho')
theorem Tn.fold {place : Nat} : ∀ (rest : List Out) {done : List Out} {st : List Pr × List Stp}, Tn p q place done st → (done ++ rest).Nodup → (∀ o ∈ rest, o.2 ∈ every p q ∧ Lab p q o.1) → Tn p q place (done ++ rest) (rest.foldl (laTurn place) st)
  | [], done, st, h, _, _ => by rw [List.append_nil]; exact h
  | o :: rest, done, st, h, nd, hr => by
    have e : done ++ o :: rest = (done ++ [o]) ++ rest := by simp
    rw [e] at nd ⊢
    have hd : o ∉ done := fun z => by
      have := (List.nodup_append.mp (List.nodup_append.mp nd).1).2.2 o z o (List.mem_singleton.mpr rfl)
      exact this rfl
    obtain ⟨h1, h2⟩ := hr o List.mem_cons_self
    exact Tn.fold rest (h.turn hd h1 h2) nd fun o' ho' => hr o' (List.mem_cons_of_mem _ ho')
theorem fold_len (place : Nat) : ∀ (l : List Out) (st : List Pr × List Stp), (l.foldl (laTurn place) st).2.length = st.2.length + l.length
  | [], _ => rfl
  | o :: l, st => by
    rw [List.foldl_cons, fold_len place l, laTurn_steps, List.length_cons]
    omega
structure Lw (p q : Part) (place : Nat) (st : List Pr × List Stp) : Prop where
  nd : st.1.Nodup
  sub : ∀ x ∈ st.1, x ∈ every p q
  ne : 1 ≤ st.1.length
  pl : place ≤ st.1.length
  old : ∀ s ∈ st.2, (0 ≤ s.1 ∧ s.1 < place) ∧ (0 ≤ s.2.2 ∧ s.2.2 < (st.1.length : Nat)) ∧ Lab p q s.2.1
  sn : st.2.Nodup
  cnt : st.2.length ≤ 40 * place
theorem lsteps_short (J : Jb p q) {bad : List Pr} {z : Pr} (hz : z ∈ every p q) : (lsteps p q z.1 z.2 bad).length ≤ 40 := by
  obtain ⟨h1, h2, _⟩ := lst_len (bad := bad) J.sp J.sq z.1 z.2
  have nd : (lsteps p q z.1 z.2 bad).Nodup := (sortE_perm _ _).nodup_iff.mpr (firsts_nodup _)
  have sub : ∀ o ∈ lsteps p q z.1 z.2 bad, o ∈ (lstA p q z.1 z.2 bad ++ lstB p q z.1 z.2 bad) ++ (every p q).map fun x => (("" : Str), x) := fun o ho => by
    have h3 := lst_every J.sp J.sq hz ho
    have h4 := mem_firsts.mp (mem_sortE.mp ho)
    unfold lstRaw at h4
    rcases List.mem_append.mp h4 with h4 | h4
    · exact List.mem_append_left _ h4
    · refine List.mem_append_right _ (List.mem_map.mpr ⟨o.2, h3, ?_⟩)
      unfold lstC at h4
      obtain ⟨t, _, h4⟩ := List.mem_flatMap.mp h4
      obtain ⟨m, _, h4⟩ := List.mem_flatMap.mp h4
      obtain ⟨i, _, rfl⟩ := List.mem_map.mp h4
      rfl
  have h5 := nodup_le nd sub
  have h6 := every_len J.sp J.sq
  rw [List.length_append, List.length_append, List.length_map] at h5
  omega
theorem lsteps_lab (J : Jb p q) {bad : List Pr} {k j : Int} {o : Out} (ho : o ∈ lsteps p q k j bad) : Lab p q o.1 := by
  rcases mem_lstRaw.mp (mem_firsts.mp (mem_sortE.mp ho)) with ⟨s, h1, _, h3, rfl⟩ | ⟨s, h1, _, h3, rfl⟩ | ⟨c, _, m, _, i, _, rfl⟩
  · rcases J.sp.nam s h1 with n | n | n
    · exact .inl n
    · exact .inr ⟨.inl n, h3.1⟩
    · exact .inr ⟨.inr (.inl n), h3.1⟩
  · rcases J.sq.nam s h1 with n | n | n
    · exact .inl n
    · exact .inr ⟨.inr (.inr (.inl n)), h3.1⟩
    · exact .inr ⟨.inr (.inr (.inr n)), h3.1⟩
  · exact .inl rfl
theorem laGo_ok (J : Jb p q) (bad : List Pr) : ∀ (n place : Nat) (st : List Pr × List Stp), Lw p q place st → ∃ place', Lw p q place' (laGo p q bad n place st)
  | 0, place, st, h => ⟨place, h⟩
  | n + 1, place, st, h => by
    unfold laGo
    cases hz : st.1[place]? with
    | none => exact ⟨place, h⟩
    | some z =>
      have hpl := (List.getElem?_eq_some_iff.mp hz).1
      have hze := h.sub z (List.mem_of_getElem? hz)
      have t0 : Tn p q place [] st := ⟨h.nd, h.sub, hpl, fun s hs => ⟨⟨(h.old s hs).1.1, by have := (h.old s hs).1.2; omega⟩, (h.old s hs).2⟩, fun s hs he => by have := (h.old s hs).1.2; omega, h.sn⟩
      have nd : (lsteps p q z.1 z.2 bad).Nodup := (sortE_perm _ _).nodup_iff.mpr (firsts_nodup _)
      have t1 := Tn.fold (lsteps p q z.1 z.2 bad) t0 (by simpa using nd) fun o ho => ⟨lst_every J.sp J.sq hze ho, lsteps_lab J ho⟩
      have hc := h.cnt
      have h40 := lsteps_short J (bad := bad) hze
      have hfl := fold_len place (lsteps p q z.1 z.2 bad) st
      have hp1 := t1.pl
      refine laGo_ok J bad n (place + 1) _ ⟨t1.nd, t1.sub, by omega, by omega, fun s hs => ?_, t1.sn, by omega⟩
      obtain ⟨h1, h2, h3⟩ := t1.old s hs
      exact ⟨⟨h1.1, by have := h1.2; omega⟩, h2, h3⟩
theorem lawAll_ok (J : Jb p q) : ∃ place, Lw p q place (lawAll p q) := by
  have h1 := J.sp.n0
  have h2 := J.sq.n0
  refine laGo_ok J _ 20 0 _ ⟨by simp, fun x hx => ?_, Nat.le_refl _, Nat.zero_le _, fun s hs => (by cases hs), List.nodup_nil, Nat.zero_le _⟩
  rw [List.mem_singleton.mp hx]
  exact mem_every.mpr ⟨⟨Int.le_refl _, by show (0 : Int) < _; omega⟩, ⟨Int.le_refl _, by show (0 : Int) < _; omega⟩⟩
theorem mem_lt {c : Str} : c ∈ (lawPart p q).takes ↔ (c ∈ p.takes ∨ c ∈ q.takes) ∧ c ∉ lboth p q := by
  show c ∈ sortE .str _ ↔ _
  rw [mem_sortE, List.mem_filter, List.mem_append]
  simp only [Bool.not_eq_true', decide_eq_false_iff_not]
theorem mem_lm {c : Str} : c ∈ (lawPart p q).makes ↔ (c ∈ p.makes ∨ c ∈ q.makes) ∧ c ∉ lboth p q := by
  show c ∈ sortE .str _ ↔ _
  rw [mem_sortE, List.mem_filter, List.mem_append]
  simp only [Bool.not_eq_true', decide_eq_false_iff_not]
theorem law_short (J : Jb p q) : (lawAll p q).1.length ≤ 16 ∧ (lawAll p q).2.length ≤ 640 ∧ (lawPart p q).takes.length ≤ 10 ∧ (lawPart p q).makes.length ≤ 10 := by
  obtain ⟨place, L⟩ := lawAll_ok J
  have h1 := sub_len J.sp J.sq L.nd L.sub
  have h2 := L.cnt
  have h3 := L.pl
  have t1 := J.sp.t; have t2 := J.sq.t; have m1 := J.sp.m; have m2 := J.sq.m
  refine ⟨h1, by omega, ?_, ?_⟩
  · show (sortE .str _).length ≤ 10
    rw [sortE_len]
    have := List.length_filter_le (fun c => !decide (c ∈ lboth p q)) (p.takes ++ q.takes)
    rw [List.length_append] at this
    omega
  · show (sortE .str _).length ≤ 10
    rw [sortE_len]
    have := List.length_filter_le (fun c => !decide (c ∈ lboth p q)) (p.makes ++ q.makes)
    rw [List.length_append] at this
    omega
theorem law_good (J : Jb p q) : (lawPart p q).Good := by
  obtain ⟨place, L⟩ := lawAll_ok J
  obtain ⟨s1, s2, s3, s4⟩ := law_short J
  have npt := List.nodup_append.mp J.np
  have nqt := List.nodup_append.mp J.nq
  refine ⟨fun c hc => ?_, fun c hc => ?_, ?_, ?_, fun c h1 h2 => ?_, ?_, fun s hs => ?_, ?_, by omega, by omega, ?_⟩
  · rcases (mem_lt.mp hc).1 with h | h
    · exact J.vp c (List.mem_append_left _ h)
    · exact J.vq c (List.mem_append_left _ h)
  · rcases (mem_lm.mp hc).1 with h | h
    · exact J.vp c (List.mem_append_right _ h)
    · exact J.vq c (List.mem_append_right _ h)
  · refine rising_sort told_str (List.Nodup.sublist List.filter_sublist ?_)
    rw [List.nodup_append]
    exact ⟨npt.1, nqt.1, fun a ha b hb e => J.tt a ha (by rw [e]; exact hb)⟩
  · refine rising_sort told_str (List.Nodup.sublist List.filter_sublist ?_)
    rw [List.nodup_append]
    exact ⟨npt.2.1, nqt.2.1, fun a ha b hb e => J.mm a ha (by rw [e]; exact hb)⟩
  · obtain ⟨a1, a2⟩ := mem_lt.mp h1
    obtain ⟨b1, _⟩ := mem_lm.mp h2
    rcases a1 with a1 | a1 <;> rcases b1 with b1 | b1
    · exact J.dp c a1 b1
    · exact a2 (mem_lboth.mpr ⟨.inl a1, .inr b1⟩)
    · exact a2 (mem_lboth.mpr ⟨.inr b1, .inl a1⟩)
    · exact J.dq c a1 b1
  · show (1 : Int) ≤ (((lawAll p q).1.length : Nat) : Int)
    have := L.ne
    omega
  · obtain ⟨h1, h2, h3⟩ := L.old s (mem_sortE.mp hs)
    have hpl := L.pl
    refine ⟨?_, ⟨h1.1, ?_⟩, h2⟩
    · rcases h3 with e | ⟨e, hn⟩
      · exact .inl e
      · refine .inr (List.mem_append.mpr ?_)
        rcases e with e | e | e | e
        · exact .inl (mem_lt.mpr ⟨.inl e, hn⟩)
        · exact .inr (mem_lm.mpr ⟨.inl e, hn⟩)
        · exact .inl (mem_lt.mpr ⟨.inr e, hn⟩)
        · exact .inr (mem_lm.mpr ⟨.inr e, hn⟩)
    · show s.1 < (((lawAll p q).1.length : Nat) : Int)
      have := h1.2
      omega
  · exact rising_sort told_stp L.sn
  · show (sortE eStp _).length ≤ 10000
    rw [sortE_len]
    omega
theorem jb_pair (J : Jb p q) : PairOk p q := by
  obtain ⟨s1, s2, s3, s4⟩ := law_short J
  refine ⟨soft_ePart J.sp, soft_ePart J.sq, soft_list J.sp, soft_list J.sq, ?_, bad_iff J _, fun _ => ⟨join_eq J, by rw [walkAll_eq J], by rw [join_eq J]; exact law_good J⟩, ?_⟩
  · unfold unj
    rw [List.append_eq_nil_iff]
    refine ⟨List.filter_eq_nil_iff.mpr fun c hc => ?_, List.filter_eq_nil_iff.mpr fun c hc => ?_⟩
    · simpa using J.tt c hc
    · simpa using J.mm c hc
  · rw [walkAll_eq J, join_eq J]
    omega
end
/-! the drawn pairs -/
theorem tag_ok : ∀ c ∈ tagL, PyData.strOk c = true ∧ c ≠ "" ∧ nameB c = true := by decide +kernel
theorem drawn_small {ts ms : List Str} {p : Part} (h : Drawn ts ms p) (ht : ts.Sublist tagL) (hm : ms.Sublist tagL) : p.Small := by
  obtain ⟨rfl, rfl, h1, h2, l, hl, hs, he⟩ := h
  have h3 : ∀ s ∈ p.steps, StIn p.takes p.makes p.many s := fun s hx => by
    rw [he] at hx
    exact hs s (mem_firsts.mp (mem_sortE.mp hx))
  refine ⟨ht.length_le, hm.length_le, ?_, h1, h2, fun c hc => (tag_ok c (ht.subset hc)).1, fun c hc => (tag_ok c (hm.subset hc)).1, fun s hx => ?_, fun s hx => ?_⟩
  · rw [he, sortE_len]
    have := firsts_len_le l
    omega
  · obtain ⟨_, h4, _⟩ := h3 s hx
    rcases List.mem_append.mp h4 with h4 | h4
    · rcases List.mem_append.mp h4 with h4 | h4
      · exact .inr (.inl h4)
      · exact .inr (.inr h4)
    · exact .inl (List.mem_singleton.mp h4)
  · obtain ⟨h4, _, h5⟩ := h3 s hx
    exact ⟨h4.1, h4.2, h5.1, h5.2⟩
theorem pair_ok : ∀ p q, Pair2 p q → PairOk p q := by
  rintro p q ⟨s0, s1, s2, s3, F, h1, h2⟩
  have sp := drawn_small h1 F.b0 F.b1
  have sq := drawn_small h2 F.b2 F.b3
  obtain ⟨rfl, rfl, _⟩ := h1
  obtain ⟨rfl, rfl, _⟩ := h2
  have ndT : tagL.Nodup := by decide
  have both : ∀ {a b : List Str}, a.Sublist tagL → b.Sublist tagL → ∀ c ∈ a ++ b, c ∈ tagL := fun ha hb c hc => (List.mem_append.mp hc).elim (fun h => ha.subset h) fun h => hb.subset h
  refine jb_pair ⟨sp, sq, F.n01, F.n23, F.n02, F.n13, fun c hc => (tag_ok c (both F.b0 F.b1 c hc)).2.1, fun c hc => (tag_ok c (both F.b2 F.b3 c hc)).2.1, ?_, ?_, fun c hc => (tag_ok c (both F.b0 F.b1 c hc)).2.2, fun c hc => (tag_ok c (both F.b2 F.b3 c hc)).2.2⟩
  · rw [List.nodup_append]
    exact ⟨List.Nodup.sublist F.b0 ndT, List.Nodup.sublist F.b1 ndT, fun a ha b hb e => F.n01 a ha (by rw [e]; exact hb)⟩
  · rw [List.nodup_append]
    exact ⟨List.Nodup.sublist F.b2 ndT, List.Nodup.sublist F.b3 ndT, fun a ha b hb e => F.n23 a ha (by rw [e]; exact hb)⟩
end Fs

set_option maxRecDepth 100000
set_option maxHeartbeats 4000000
namespace Fs
open PySem L2 DL NS
/-- a def as it stands behind the top -/
def Dfn (K : PySem.W.Frag) (x qual : Str) (st : Stmt) (f : Addr) : Prop := PySem.W.nsIn K mainGlobals x = some (some (.ref f)) ∧ ∃ fd, Fun K x qual st f fd
theorem dfn_mk {K : PySem.W.Frag} {x qual : Str} {st : Stmt} {f : Addr} {oc : Value} {od an : Option Addr} {osl : Array (Option Value)} {kV doc pm cdv ct : Value} (a : PySem.W.nsIn K mainGlobals x = some (some (.ref f)))
    (l : K.lookup f = some ⟨oc, od, .func (PySem.W.fnOf x qual (defArgs st) (defBody st) (defScope st) .none kV doc pm an cdv ct), osl⟩) (c : PySem.W.codeIn K cdv qual = true) (k : PySem.W.keepIn K (.ref f) = true) : Dfn K x qual st f := ⟨a, _, fun_mk l c k⟩
theorem kit_ve {K : PySem.W.Frag} {C : Addr} (h : PySem.W.subIn K (.ref C) (.type "ValueError") = some true) : PySem.W.kitOne K (.ref C) (.type "ValueError") = some true := by
  unfold PySem.W.kitOne PySem.W.kitCls
  rw [if_neg (by simp)]
  show (if PySem.W.kitMeta "ValueError" = true then PySem.W.subIn K (.ref C) (.type "ValueError") else none) = _
  rw [if_pos (by decide +kernel)]
  exact h
/-- what the top leaves of the two errors -/
structure ErrF (K : PySem.W.Frag) (cN cF fI : Addr) (file : Str) : Prop where
  aN : PySem.W.nsIn K mainGlobals "NotJoinable" = some (some (.ref cN))
  xL : ∃ nm q N bs sn sub ab col dd k0 k1 k2 k3 k5, K.lookup cN = some (excClassObj nm q cN N bs Nj.veTail true sn sub ab col dd k0 k1 k2 k3 k5 "ValueError.__new__")
  sa : PySem.W.findIn K (.ref cN) "__setattr__" = some (some (.builtin "object.__setattr__"))
  ga : PySem.W.findIn K (.ref cN) "__getattribute__" = some (some (.builtin "BaseException.__getattribute__"))
  gg : PySem.W.findIn K (.ref cN) "__getattr__" = some none
  nb : PySem.W.findIn K (.ref cN) "name" = some none
  iC : PySem.W.findIn K (.ref cN) "__init__" = some (some (.ref fI))
  tC : PySem.W.typeIn K (.ref fI) = some (.type "function")
  kC : PySem.W.keepIn K (.ref cN) = true
  eC : PySem.W.subIn K (.ref cN) (.type "BaseException") = some true
  vC : PySem.W.subIn K (.ref cN) (.type "ValueError") = some true
  sC : PySem.W.mroIn K cN (.ref cN) = some true
  tyC : PySem.W.typeIn K (.ref cN) = some (.type "type")
  hC : PySem.W.hasDictIn K cN = true
  ssC : PySem.W.subIn K (.ref cN) (.ref cN) = some true
  noS : PySem.W.nsIn K mainGlobals "super" = some none
  op : PySem.W.nsIn K cStatics "thirdparty.any" = some none
  fn : ∃ (oc : Value) (od : Option Addr) (doc pm : Value) (an : Option Addr) (cda cc : Addr) (ct : Value) (osl : Array (Option Value)) (vs : Array Value) (tf : Tok) (ccl cl : Value) (cdd cld : Option Addr) (ccs csl : Array (Option Value)),
    K.lookup fI = some ⟨oc, od, .func (PySem.W.ksFn "__init__" "NotJoinable.__init__" Nj.aI Nj.bI Nj.sI .none .none doc pm an (.ref cda) ct cc), osl⟩ ∧ PySem.W.codeIn K (.ref cda) "NotJoinable.__init__" = true ∧
    K.lookup cda = some ⟨ccl, cdd, .fields vs, ccs⟩ ∧ vs[2]? = some (.str file tf) ∧ K.lookup cc = some ⟨cl, cld, .cell (some (.ref cN)), csl⟩
  aF : PySem.W.nsIn K mainGlobals "NoFit" = some (some (.ref cF))
  xF : PySem.W.excIn K cF [.type "ValueError", .type "Exception", .type "BaseException", .type "object"] "ValueError.__new__" = true
  kF : PySem.W.keepIn K (.ref cF) = true
  eF : PySem.W.subIn K (.ref cF) (.type "BaseException") = some true
  vF : PySem.W.subIn K (.ref cF) (.type "ValueError") = some true
  tF : PySem.W.typeIn K (.ref cF) = some (.type "type")
  hF : PySem.W.hasDictIn K cF = true
  ssF : PySem.W.subIn K (.ref cF) (.ref cF) = some true
  nFN : PySem.W.subIn K (.ref cF) (.ref cN) = some false
/-- the names of built-ins, and the constants -/
structure NamF (K : PySem.W.Frag) : Prop where
  len : PySem.W.nsIn K mainGlobals "len" = some none
  isi : PySem.W.nsIn K mainGlobals "isinstance" = some none
  int : PySem.W.nsIn K mainGlobals "int" = some none
  str : PySem.W.nsIn K mainGlobals "str" = some none
  bool : PySem.W.nsIn K mainGlobals "bool" = some none
  list : PySem.W.nsIn K mainGlobals "list" = some none
  tuple : PySem.W.nsIn K mainGlobals "tuple" = some none
  all : PySem.W.nsIn K mainGlobals "all" = some none
  any : PySem.W.nsIn K mainGlobals "any" = some none
  zip : PySem.W.nsIn K mainGlobals "zip" = some none
  sorted : PySem.W.nsIn K mainGlobals "sorted" = some none
  set : PySem.W.nsIn K mainGlobals "set" = some none
  range : PySem.W.nsIn K mainGlobals "range" = some none
  enumerate : PySem.W.nsIn K mainGlobals "enumerate" = some none
  abs : PySem.W.nsIn K mainGlobals "abs" = some none
  verr : PySem.W.nsIn K mainGlobals "ValueError" = some none
  LETTERS : ∃ t, PySem.W.nsIn K mainGlobals "LETTERS" = some (some (.str "abcdefghijklmnopqrstuvwxyz" t))
  LONGEST : ∃ t, PySem.W.nsIn K mainGlobals "LONGEST" = some (some (.int 8 t))
  WITHIN : ∃ t, PySem.W.nsIn K mainGlobals "WITHIN" = some (some (.str "" t))
  STEP : ∃ t, PySem.W.nsIn K mainGlobals "STEP" = some (some (.int 3 t))
  PARTS : ∃ t, PySem.W.nsIn K mainGlobals "PARTS" = some (some (.int 4 t))
theorem of_ints {K : PySem.W.Frag} {H : Hp} : ∀ ns : List Int, DpAll K H (ns.map V.int) (ns.map PyData.int)
  | [] => .nil
  | n :: ns => .cons (.int n) (of_ints ns)
section
variable {P : Program} {w : World} {K : PySem.W.Frag} {h : Heap} {mg : Str → Option Value} {fa cN cF fI : Addr} {file : Str}
theorem all_fn (X : K.In h) (G : h.Ns mainGlobals mg) (hfa : mg "law" = some (.ref fa)) (hf : ((P.main.file : Str) == file) = true) (ht : (P.main.scope.names.lookup ("super" : Str)).isSome = false) (EF : ErrF K cN cF fI file) (NM : NamF K)
    (d__law_kit : ∃ f, Dfn K "_law_kit" "_law_kit" s__law_kit f)
    (d__law_hand_steps : ∃ f, Dfn K "_law_hand_steps" "_law_hand_steps" s__law_hand_steps f)
    (d_tupled : ∃ f, Dfn K "tupled" "tupled" s_tupled f)
    (d_unjoinable : ∃ f, Dfn K "unjoinable" "unjoinable" s_unjoinable f)
    (d_check_joinable : ∃ f, Dfn K "check_joinable" "check_joinable" s_check_joinable f)
    (d_all_pairs : ∃ f, Dfn K "all_pairs" "all_pairs" s_all_pairs f)
    (d_common_calls : ∃ f, Dfn K "common_calls" "common_calls" s_common_calls f)
    (d_leads : ∃ f, Dfn K "leads" "leads" s_leads f)
    (d_steps_out : ∃ f, Dfn K "steps_out" "steps_out" s_steps_out f)
    (d_own_moves : ∃ f, Dfn K "own_moves" "own_moves" s_own_moves f)
    (d_clash_calls : ∃ f, Dfn K "clash_calls" "clash_calls" s_clash_calls f)
    (d_bad_of : ∃ f, Dfn K "bad_of" "bad_of" s_bad_of f)
    (d_cut_calls : ∃ f, Dfn K "cut_calls" "cut_calls" s_cut_calls f)
    (d_walk_all : ∃ f, Dfn K "walk_all" "walk_all" s_walk_all f)
    (d_joined : ∃ f, Dfn K "joined" "joined" s_joined f)
    (d_joined_pairs : ∃ f, Dfn K "joined_pairs" "joined_pairs" s_joined_pairs f)
    (d__law_same : ∃ f, Dfn K "_law_same" "_law_same" s__law_same f)
    (d__law_lists : ∃ f, Dfn K "_law_lists" "_law_lists" s__law_lists f)
    (d__law_half : ∃ f, Dfn K "_law_half" "_law_half" s__law_half f)
    (d__law_heard : ∃ f, Dfn K "_law_heard" "_law_heard" s__law_heard f)
    (d__law_more_right : ∃ f, Dfn K "_law_more_right" "_law_more_right" s__law_more_right f)
    (d__law_by_hand_right : ∃ f, Dfn K "_law_by_hand_right" "_law_by_hand_right" s__law_by_hand_right f)
    (d__law_cells : ∃ f, Dfn K "_law_cells" "_law_cells" s__law_cells f)
    (d__law_box : ∃ f, Dfn K "_law_box" "_law_box" s__law_box f)
    (d__law_take : ∃ f, Dfn K "_law_take" "_law_take" s__law_take f)
    (d__law_of : ∃ f, Dfn K "_law_of" "_law_of" s__law_of f)
    (d__law_part : ∃ f, Dfn K "_law_part" "_law_part" s__law_part f)
    (d__law_two : ∃ f, Dfn K "_law_two" "_law_two" s__law_two f)
    (d__law_goes : ∃ f, Dfn K "_law_goes" "_law_goes" s__law_goes f)
    (d__law_moves : ∃ f, Dfn K "_law_moves" "_law_moves" s__law_moves f)
    (d__law_ahead : ∃ f, Dfn K "_law_ahead" "_law_ahead" s__law_ahead f)
    (d__law_clash : ∃ f, Dfn K "_law_clash" "_law_clash" s__law_clash f)
    (d__law_bad : ∃ f, Dfn K "_law_bad" "_law_bad" s__law_bad f)
    (d__law_cut : ∃ f, Dfn K "_law_cut" "_law_cut" s__law_cut f)
    (d__law_steps : ∃ f, Dfn K "_law_steps" "_law_steps" s__law_steps f)
    (d__law_all : ∃ f, Dfn K "_law_all" "_law_all" s__law_all f)
    (d_is_number : ∃ f, Dfn K "is_number" "is_number" s_is_number f)
    (d_is_name : ∃ f, Dfn K "is_name" "is_name" s_is_name f)
    (d_is_rising : ∃ f, Dfn K "is_rising" "is_rising" s_is_rising f)
    (d_is_name_set : ∃ f, Dfn K "is_name_set" "is_name_set" s_is_name_set f)
    (d_is_step : ∃ f, Dfn K "is_step" "is_step" s_is_step f)
    (d_is_part : ∃ f, Dfn K "is_part" "is_part" s_is_part f)
    (d__law_right : ∃ f, Dfn K "_law_right" "_law_right" s__law_right f)
    (d_law : ∃ f, Dfn K "law" "law" s_law f)
    : ∃ fd : FuncData, (∀ (s : Shared) (v : Value), BindsTo s fd ⟨[v], []⟩ [("_law_script", v)]) ∧ ∀ base : Heap, K.In base → base.Ns mainGlobals mg → FnOk P w K mg base CX0 13 fa fd ["_law_script"] (spD K preLaw) := by
  obtain ⟨f__law_kit, a__law_kit, fd__law_kit, F__law_kit⟩ := d__law_kit
  obtain ⟨f__law_hand_steps, a__law_hand_steps, fd__law_hand_steps, F__law_hand_steps⟩ := d__law_hand_steps
  obtain ⟨f_tupled, a_tupled, fd_tupled, F_tupled⟩ := d_tupled
  obtain ⟨f_unjoinable, a_unjoinable, fd_unjoinable, F_unjoinable⟩ := d_unjoinable
  obtain ⟨f_check_joinable, a_check_joinable, fd_check_joinable, F_check_joinable⟩ := d_check_joinable
  obtain ⟨f_all_pairs, a_all_pairs, fd_all_pairs, F_all_pairs⟩ := d_all_pairs
  obtain ⟨f_common_calls, a_common_calls, fd_common_calls, F_common_calls⟩ := d_common_calls
  obtain ⟨f_leads, a_leads, fd_leads, F_leads⟩ := d_leads
  obtain ⟨f_steps_out, a_steps_out, fd_steps_out, F_steps_out⟩ := d_steps_out
  obtain ⟨f_own_moves, a_own_moves, fd_own_moves, F_own_moves⟩ := d_own_moves
  obtain ⟨f_clash_calls, a_clash_calls, fd_clash_calls, F_clash_calls⟩ := d_clash_calls
  obtain ⟨f_bad_of, a_bad_of, fd_bad_of, F_bad_of⟩ := d_bad_of
  obtain ⟨f_cut_calls, a_cut_calls, fd_cut_calls, F_cut_calls⟩ := d_cut_calls
  obtain ⟨f_walk_all, a_walk_all, fd_walk_all, F_walk_all⟩ := d_walk_all
  obtain ⟨f_joined, a_joined, fd_joined, F_joined⟩ := d_joined
  obtain ⟨f_joined_pairs, a_joined_pairs, fd_joined_pairs, F_joined_pairs⟩ := d_joined_pairs
  obtain ⟨f__law_same, a__law_same, fd__law_same, F__law_same⟩ := d__law_same
  obtain ⟨f__law_lists, a__law_lists, fd__law_lists, F__law_lists⟩ := d__law_lists
  obtain ⟨f__law_half, a__law_half, fd__law_half, F__law_half⟩ := d__law_half
  obtain ⟨f__law_heard, a__law_heard, fd__law_heard, F__law_heard⟩ := d__law_heard
  obtain ⟨f__law_more_right, a__law_more_right, fd__law_more_right, F__law_more_right⟩ := d__law_more_right
  obtain ⟨f__law_by_hand_right, a__law_by_hand_right, fd__law_by_hand_right, F__law_by_hand_right⟩ := d__law_by_hand_right
  obtain ⟨f__law_cells, a__law_cells, fd__law_cells, F__law_cells⟩ := d__law_cells
  obtain ⟨f__law_box, a__law_box, fd__law_box, F__law_box⟩ := d__law_box
  obtain ⟨f__law_take, a__law_take, fd__law_take, F__law_take⟩ := d__law_take
  obtain ⟨f__law_of, a__law_of, fd__law_of, F__law_of⟩ := d__law_of
  obtain ⟨f__law_part, a__law_part, fd__law_part, F__law_part⟩ := d__law_part
  obtain ⟨f__law_two, a__law_two, fd__law_two, F__law_two⟩ := d__law_two
  obtain ⟨f__law_goes, a__law_goes, fd__law_goes, F__law_goes⟩ := d__law_goes
  obtain ⟨f__law_moves, a__law_moves, fd__law_moves, F__law_moves⟩ := d__law_moves
  obtain ⟨f__law_ahead, a__law_ahead, fd__law_ahead, F__law_ahead⟩ := d__law_ahead
  obtain ⟨f__law_clash, a__law_clash, fd__law_clash, F__law_clash⟩ := d__law_clash
  obtain ⟨f__law_bad, a__law_bad, fd__law_bad, F__law_bad⟩ := d__law_bad
  obtain ⟨f__law_cut, a__law_cut, fd__law_cut, F__law_cut⟩ := d__law_cut
  obtain ⟨f__law_steps, a__law_steps, fd__law_steps, F__law_steps⟩ := d__law_steps
  obtain ⟨f__law_all, a__law_all, fd__law_all, F__law_all⟩ := d__law_all
  obtain ⟨f_is_number, a_is_number, fd_is_number, F_is_number⟩ := d_is_number
  obtain ⟨f_is_name, a_is_name, fd_is_name, F_is_name⟩ := d_is_name
  obtain ⟨f_is_rising, a_is_rising, fd_is_rising, F_is_rising⟩ := d_is_rising
  obtain ⟨f_is_name_set, a_is_name_set, fd_is_name_set, F_is_name_set⟩ := d_is_name_set
  obtain ⟨f_is_step, a_is_step, fd_is_step, F_is_step⟩ := d_is_step
  obtain ⟨f_is_part, a_is_part, fd_is_part, F_is_part⟩ := d_is_part
  obtain ⟨f__law_right, a__law_right, fd__law_right, F__law_right⟩ := d__law_right
  obtain ⟨f_law, a_law, fd_law, F_law⟩ := d_law
  have e := hfa.symm.trans (PySem.W.mg_of X G a_law)
  cases e
  have T : Blt mg := ⟨PySem.W.mg_none_of X G NM.len, PySem.W.mg_none_of X G NM.isi, PySem.W.mg_none_of X G NM.int, PySem.W.mg_none_of X G NM.str, PySem.W.mg_none_of X G NM.bool, PySem.W.mg_none_of X G NM.list, PySem.W.mg_none_of X G NM.tuple, PySem.W.mg_none_of X G NM.all, PySem.W.mg_none_of X G NM.any, PySem.W.mg_none_of X G NM.zip, PySem.W.mg_none_of X G NM.sorted, PySem.W.mg_none_of X G NM.set, PySem.W.mg_none_of X G NM.range, PySem.W.mg_none_of X G NM.enumerate, PySem.W.mg_none_of X G NM.abs, PySem.W.mg_none_of X G NM.verr⟩
  have GG : Gc mg := ⟨(NM.LETTERS.elim fun t q => ⟨t, PySem.W.mg_of X G q⟩), (NM.LONGEST.elim fun t q => ⟨t, PySem.W.mg_of X G q⟩), (NM.WITHIN.elim fun t q => ⟨t, PySem.W.mg_of X G q⟩), (NM.STEP.elim fun t q => ⟨t, PySem.W.mg_of X G q⟩), (NM.PARTS.elim fun t q => ⟨t, PySem.W.mg_of X G q⟩)⟩
  have TN : Nj.Txt K mg cN fI file := by
    obtain ⟨nm, q, N, bs, sn, sub, ab, col, dd, k0, k1, k2, k3, k5, xL⟩ := EF.xL
    exact ⟨PySem.W.mg_of X G EF.aN, ⟨nm, q, N, bs, _, sn, sub, ab, col, dd, k0, k1, k2, k3, k5, xL, rfl⟩, EF.sa, EF.nb, EF.iC, EF.tC, EF.kC, EF.eC, EF.vC, EF.sC, EF.tyC, EF.noS, EF.op, EF.fn⟩
  have NF : Nf K mg cF := ⟨EF.xF, PySem.W.mg_of X G EF.aF, EF.kF, EF.eF, EF.tF⟩
  have D : Hd K mg cN cF := ⟨PySem.W.exm_ref EF.eC EF.hC EF.tyC EF.ssC, PySem.W.exm_ref EF.eC EF.hC EF.tyC EF.nFN, PySem.W.exm_ref EF.eF EF.hF EF.tF EF.ssF, kit_ve EF.vC, kit_ve EF.vF, ⟨EF.ga, EF.gg, EF.eC, EF.hC⟩, EF.nb, PySem.W.mg_of X G EF.aN, PySem.W.mg_of X G EF.aF, PySem.W.mg_none_of X G NM.verr⟩
  have b__law_kit : Binds K fd__law_kit [] [] := F__law_kit.binds fun _ _ _ _ _ _ us hl => match us, hl with | [], _ => rfl
  have b__law_hand_steps : Binds K fd__law_hand_steps [] [] := F__law_hand_steps.binds fun _ _ _ _ _ _ us hl => match us, hl with | [], _ => rfl
  have b_tupled : Binds K fd_tupled ["value"] [] := F_tupled.binds fun _ _ _ _ _ _ us hl => match us, hl with | [_], _ => rfl
  have b_unjoinable : Binds K fd_unjoinable ["one", "other"] [] := F_unjoinable.binds fun _ _ _ _ _ _ us hl => match us, hl with | [_, _], _ => rfl
  have b_check_joinable : Binds K fd_check_joinable ["one", "other"] [] := F_check_joinable.binds fun _ _ _ _ _ _ us hl => match us, hl with | [_, _], _ => rfl
  have b_all_pairs : Binds K fd_all_pairs ["one", "other"] [] := F_all_pairs.binds fun _ _ _ _ _ _ us hl => match us, hl with | [_, _], _ => rfl
  have b_common_calls : Binds K fd_common_calls ["one", "other"] [] := F_common_calls.binds fun _ _ _ _ _ _ us hl => match us, hl with | [_, _], _ => rfl
  have b_leads : Binds K fd_leads ["part", "standing", "call"] [] := F_leads.binds fun _ _ _ _ _ _ us hl => match us, hl with | [_, _, _], _ => rfl
  have b_steps_out : Binds K fd_steps_out ["one", "other", "pair"] [] := F_steps_out.binds fun _ _ _ _ _ _ us hl => match us, hl with | [_, _, _], _ => rfl
  have b_own_moves : Binds K fd_own_moves ["one", "other", "pair"] [] := F_own_moves.binds fun _ _ _ _ _ _ us hl => match us, hl with | [_, _, _], _ => rfl
  have b_clash_calls : Binds K fd_clash_calls ["one", "other", "pair"] [] := F_clash_calls.binds fun _ _ _ _ _ _ us hl => match us, hl with | [_, _, _], _ => rfl
  have b_bad_of : Binds K fd_bad_of ["one", "other"] [] := F_bad_of.binds fun _ _ _ _ _ _ us hl => match us, hl with | [_, _], _ => rfl
  have b_cut_calls : Binds K fd_cut_calls ["one", "other", "pair", "bad"] [] := F_cut_calls.binds fun _ _ _ _ _ _ us hl => match us, hl with | [_, _, _, _], _ => rfl
  have b_walk_all : Binds K fd_walk_all ["one", "other"] [] := F_walk_all.binds fun _ _ _ _ _ _ us hl => match us, hl with | [_, _], _ => rfl
  have b_joined : Binds K fd_joined ["one", "other"] [] := F_joined.binds fun _ _ _ _ _ _ us hl => match us, hl with | [_, _], _ => rfl
  have b_joined_pairs : Binds K fd_joined_pairs ["one", "other"] [] := F_joined_pairs.binds fun _ _ _ _ _ _ us hl => match us, hl with | [_, _], _ => rfl
  have b__law_same : Binds K fd__law_same ["_law_got", "_law_due"] [] := F__law_same.binds fun _ _ _ _ _ _ us hl => match us, hl with | [_, _], _ => rfl
  have b__law_lists : Binds K fd__law_lists ["_law_matter"] [] := F__law_lists.binds fun _ _ _ _ _ _ us hl => match us, hl with | [_], _ => rfl
  have b__law_half : Binds K fd__law_half ["_law_matter"] [] := F__law_half.binds fun _ _ _ _ _ _ us hl => match us, hl with | [_], _ => rfl
  have b__law_heard : Binds K fd__law_heard ["_law_door", "_law_mine_so", "_law_its_so"] [] := F__law_heard.binds fun _ _ _ _ _ _ us hl => match us, hl with | [_, _, _], _ => rfl
  have b__law_more_right : Binds K fd__law_more_right ["_law_client_so", "_law_server_so", "_law_waiting_so", "_law_twoway_so"] [] := F__law_more_right.binds fun _ _ _ _ _ _ us hl => match us, hl with | [_, _, _, _], _ => rfl
  have b__law_by_hand_right : Binds K fd__law_by_hand_right [] [] := F__law_by_hand_right.binds fun _ _ _ _ _ _ us hl => match us, hl with | [], _ => rfl
  have b__law_cells : Binds K fd__law_cells ["_law_script", "_law_most_so"] [] := F__law_cells.binds fun _ _ _ _ _ _ us hl => match us, hl with | [_, _], _ => rfl
  have b__law_box : Binds K fd__law_box ["_law_script", "_law_k"] [] := F__law_box.binds fun _ _ _ _ _ _ us hl => match us, hl with | [_, _], _ => rfl
  have b__law_take : Binds K fd__law_take ["_law_tub", "_law_top_to"] [] := F__law_take.binds fun _ _ _ _ _ _ us hl => match us, hl with | [_, _], _ => rfl
  have b__law_of : Binds K fd__law_of ["_law_tub", "_law_few_so"] [] := F__law_of.binds fun _ _ _ _ _ _ us hl => match us, hl with | [_, _], _ => rfl
  have b__law_part : Binds K fd__law_part ["_law_tub", "_law_takes_so", "_law_makes_so", "_law_many_so"] [] := F__law_part.binds fun _ _ _ _ _ _ us hl => match us, hl with | [_, _, _, _], _ => rfl
  have b__law_two : Binds K fd__law_two ["_law_tub", "_law_many_so"] [] := F__law_two.binds fun _ _ _ _ _ _ us hl => match us, hl with | [_, _], _ => rfl
  have b__law_goes : Binds K fd__law_goes ["_law_near", "_law_k", "_law_tag"] [] := F__law_goes.binds fun _ _ _ _ _ _ us hl => match us, hl with | [_, _, _], _ => rfl
  have b__law_moves : Binds K fd__law_moves ["_law_near", "_law_far", "_law_k", "_law_j"] [] := F__law_moves.binds fun _ _ _ _ _ _ us hl => match us, hl with | [_, _, _, _], _ => rfl
  have b__law_ahead : Binds K fd__law_ahead ["_law_near", "_law_far", "_law_k", "_law_j"] [] := F__law_ahead.binds fun _ _ _ _ _ _ us hl => match us, hl with | [_, _, _, _], _ => rfl
  have b__law_clash : Binds K fd__law_clash ["_law_near", "_law_far", "_law_k", "_law_j"] [] := F__law_clash.binds fun _ _ _ _ _ _ us hl => match us, hl with | [_, _, _, _], _ => rfl
  have b__law_bad : Binds K fd__law_bad ["_law_near", "_law_far"] [] := F__law_bad.binds fun _ _ _ _ _ _ us hl => match us, hl with | [_, _], _ => rfl
  have b__law_cut : Binds K fd__law_cut ["_law_near", "_law_far", "_law_k", "_law_j", "_law_bad_so"] [] := F__law_cut.binds fun _ _ _ _ _ _ us hl => match us, hl with | [_, _, _, _, _], _ => rfl
  have b__law_steps : Binds K fd__law_steps ["_law_near", "_law_far", "_law_k", "_law_j", "_law_bad_so"] [] := F__law_steps.binds fun _ _ _ _ _ _ us hl => match us, hl with | [_, _, _, _, _], _ => rfl
  have b__law_all : Binds K fd__law_all ["_law_near", "_law_far"] [] := F__law_all.binds fun _ _ _ _ _ _ us hl => match us, hl with | [_, _], _ => rfl
  have b_is_number : Binds K fd_is_number ["value"] [] := F_is_number.binds fun _ _ _ _ _ _ us hl => match us, hl with | [_], _ => rfl
  have b_is_name : Binds K fd_is_name ["value"] [] := F_is_name.binds fun _ _ _ _ _ _ us hl => match us, hl with | [_], _ => rfl
  have b_is_rising : Binds K fd_is_rising ["row"] [] := F_is_rising.binds fun _ _ _ _ _ _ us hl => match us, hl with | [_], _ => rfl
  have b_is_name_set : Binds K fd_is_name_set ["value"] [] := F_is_name_set.binds fun _ _ _ _ _ _ us hl => match us, hl with | [_], _ => rfl
  have b_is_step : Binds K fd_is_step ["thing", "known", "many"] [] := F_is_step.binds fun _ _ _ _ _ _ us hl => match us, hl with | [_, _, _], _ => rfl
  have b_is_part : Binds K fd_is_part ["thing"] [] := F_is_part.binds fun _ _ _ _ _ _ us hl => match us, hl with | [_], _ => rfl
  have b__law_right : Binds K fd__law_right ["_law_tub"] [] := F__law_right.binds fun _ _ _ _ _ _ us hl => match us, hl with | [_], _ => rfl
  have b_law : Binds K fd_law ["_law_script"] [] := F_law.binds fun _ _ _ _ _ _ us hl => match us, hl with | [_], _ => rfl
  have bl : ∀ (s : Shared) (v : Value), BindsTo s fd_law ⟨[v], []⟩ [("_law_script", v)] := fun s v => by
    obtain ⟨oc, od, kV, doc, pm, an, cdv, ct, osl, rfl, _, _⟩ := F_law.ex
    exact .of_eq rfl
  refine ⟨fd_law, bl, fun base _ _ => ?_⟩
  have h__law_kit := fn_mk F__law_kit (ok_law_kit (P := P) (w := w) (mg := mg) (base := base) (F := F__law_kit)) (PySem.W.mg_of X G a__law_kit) b__law_kit
  have h__law_hand_steps := fn_mk F__law_hand_steps (ok_law_hand_steps (P := P) (w := w) (mg := mg) (base := base) (F := F__law_hand_steps)) (PySem.W.mg_of X G a__law_hand_steps) b__law_hand_steps
  have h_tupled := fn_mk F_tupled ((ok_tupled (P := P) (w := w) (mg := mg) (base := base) (F := F_tupled) (T := T) (hm := PySem.W.mg_of X G a_tupled) (hb := b_tupled)) 3) (PySem.W.mg_of X G a_tupled) b_tupled
  have h_unjoinable := fn_mk F_unjoinable (ok_unjoinable (P := P) (w := w) (mg := mg) (base := base) (F := F_unjoinable) (T := T) (h_tupled := h_tupled)) (PySem.W.mg_of X G a_unjoinable) b_unjoinable
  have k_check_joinable := ok_check_joinable (P := P) (w := w) (mg := mg) (base := base) (F := F_check_joinable) (T := T) (TN := TN) (hf := hf) (ht := ht) (h_unjoinable := h_unjoinable)
  have h_check_joinable : FnX P w K mg base "check_joinable" _ ["one", "other"] _ := ⟨⟨_, _, k_check_joinable, PySem.W.mg_of X G a_check_joinable, F_check_joinable.kp, b_check_joinable⟩⟩
  have h_all_pairs := fn_mk F_all_pairs (ok_all_pairs (P := P) (w := w) (mg := mg) (base := base) (F := F_all_pairs) (T := T)) (PySem.W.mg_of X G a_all_pairs) b_all_pairs
  have h_common_calls := fn_mk F_common_calls (ok_common_calls (P := P) (w := w) (mg := mg) (base := base) (F := F_common_calls) (T := T)) (PySem.W.mg_of X G a_common_calls) b_common_calls
  have h_leads := fn_mk F_leads (ok_leads (P := P) (w := w) (mg := mg) (base := base) (F := F_leads)) (PySem.W.mg_of X G a_leads) b_leads
  have h_steps_out := fn_mk F_steps_out (ok_steps_out (P := P) (w := w) (mg := mg) (base := base) (F := F_steps_out) (T := T) (h_common_calls := h_common_calls) (h_leads := h_leads)) (PySem.W.mg_of X G a_steps_out) b_steps_out
  have h_own_moves := fn_mk F_own_moves (ok_own_moves (P := P) (w := w) (mg := mg) (base := base) (F := F_own_moves) (T := T) (h_steps_out := h_steps_out)) (PySem.W.mg_of X G a_own_moves) b_own_moves
  have h_clash_calls := fn_mk F_clash_calls (ok_clash_calls (P := P) (w := w) (mg := mg) (base := base) (F := F_clash_calls) (T := T) (h_common_calls := h_common_calls) (h_leads := h_leads)) (PySem.W.mg_of X G a_clash_calls) b_clash_calls
  have h_bad_of := fn_mk F_bad_of (ok_bad_of (P := P) (w := w) (mg := mg) (base := base) (F := F_bad_of) (T := T) (h_all_pairs := h_all_pairs) (h_own_moves := h_own_moves) (h_clash_calls := h_clash_calls)) (PySem.W.mg_of X G a_bad_of) b_bad_of
  have h_cut_calls := fn_mk F_cut_calls (ok_cut_calls (P := P) (w := w) (mg := mg) (base := base) (F := F_cut_calls) (T := T) (h_steps_out := h_steps_out)) (PySem.W.mg_of X G a_cut_calls) b_cut_calls
  have k_walk_all := ok_walk_all (P := P) (w := w) (mg := mg) (base := base) (F := F_walk_all) (T := T) (NF := NF) (h_check_joinable := h_check_joinable) (h_tupled := h_tupled) (h_bad_of := h_bad_of) (h_cut_calls := h_cut_calls) (h_steps_out := h_steps_out)
  have h_walk_all : FnX P w K mg base "walk_all" _ ["one", "other"] _ := ⟨⟨_, _, k_walk_all, PySem.W.mg_of X G a_walk_all, F_walk_all.kp, b_walk_all⟩⟩
  have k_joined := ok_joined (P := P) (w := w) (mg := mg) (base := base) (F := F_joined) (T := T) (h_walk_all := h_walk_all) (h_tupled := h_tupled) (h_common_calls := h_common_calls)
  have h_joined : FnX P w K mg base "joined" _ ["one", "other"] _ := ⟨⟨_, _, k_joined, PySem.W.mg_of X G a_joined, F_joined.kp, b_joined⟩⟩
  have hk_joined : FnXK P w K mg base "joined" _ "one" "other" _ := ⟨⟨_, _, k_joined, PySem.W.mg_of X G a_joined, F_joined.kp, kbn2 F_joined fun _ _ _ _ _ _ _ _ => rfl⟩⟩
  have k_joined_pairs := ok_joined_pairs (P := P) (w := w) (mg := mg) (base := base) (F := F_joined_pairs) (h_walk_all := h_walk_all)
  have h_joined_pairs : FnX P w K mg base "joined_pairs" _ ["one", "other"] _ := ⟨⟨_, _, k_joined_pairs, PySem.W.mg_of X G a_joined_pairs, F_joined_pairs.kp, b_joined_pairs⟩⟩
  have hk_joined_pairs : FnXK P w K mg base "joined_pairs" _ "one" "other" _ := ⟨⟨_, _, k_joined_pairs, PySem.W.mg_of X G a_joined_pairs, F_joined_pairs.kp, kbn2 F_joined_pairs fun _ _ _ _ _ _ _ _ => rfl⟩⟩
  have h__law_same := fn_mk F__law_same ((ok_law_same (P := P) (w := w) (mg := mg) (base := base) (F := F__law_same) (T := T) (hm := PySem.W.mg_of X G a__law_same) (hb := b__law_same)) 5) (PySem.W.mg_of X G a__law_same) b__law_same
  have h__law_lists := fn_mk F__law_lists ((ok_law_lists (P := P) (w := w) (mg := mg) (base := base) (F := F__law_lists) (T := T) (hm := PySem.W.mg_of X G a__law_lists) (hb := b__law_lists)) 3) (PySem.W.mg_of X G a__law_lists) b__law_lists
  have h__law_half := fn_mk F__law_half (ok_law_half (P := P) (w := w) (mg := mg) (base := base) (F := F__law_half) (T := T) (h__law_lists := h__law_lists)) (PySem.W.mg_of X G a__law_half) b__law_half
  have h__law_heard := fn_mk F__law_heard (ok_law_heard (P := P) (w := w) (mg := mg) (base := base) (F := F__law_heard) (T := T) (D := D) (h_joined := h_joined) (h_joined_pairs := h_joined_pairs)) (PySem.W.mg_of X G a__law_heard) b__law_heard
  have h__law_more_right := fn_mk F__law_more_right (ok_law_more_right (P := P) (w := w) (mg := mg) (base := base) (F := F__law_more_right) (T := T) (h_joined := h_joined) (h_joined_pairs := h_joined_pairs) (hk_joined := hk_joined) (hk_joined_pairs := hk_joined_pairs) (h__law_lists := h__law_lists) (h__law_half := h__law_half) (h__law_heard := h__law_heard) (h__law_same := h__law_same)) (PySem.W.mg_of X G a__law_more_right) b__law_more_right
  have h__law_by_hand_right := fn_mk F__law_by_hand_right (ok_law_by_hand_right (P := P) (w := w) (mg := mg) (base := base) (F := F__law_by_hand_right) (T := T) (h__law_kit := h__law_kit) (h__law_hand_steps := h__law_hand_steps) (h_joined := h_joined) (h_joined_pairs := h_joined_pairs) (h__law_same := h__law_same) (h__law_more_right := h__law_more_right)) (PySem.W.mg_of X G a__law_by_hand_right) b__law_by_hand_right
  have h__law_cells := fn_mk F__law_cells (ok_law_cells (P := P) (w := w) (mg := mg) (base := base) (F := F__law_cells) (T := T)) (PySem.W.mg_of X G a__law_cells) b__law_cells
  have h__law_box := fn_mk F__law_box (ok_law_box (P := P) (w := w) (mg := mg) (base := base) (F := F__law_box) (T := T)) (PySem.W.mg_of X G a__law_box) b__law_box
  have h__law_take := fn_mk F__law_take (ok_law_take (P := P) (w := w) (mg := mg) (base := base) (F := F__law_take) (T := T)) (PySem.W.mg_of X G a__law_take) b__law_take
  have h__law_of := fn_mk F__law_of (ok_law_of (P := P) (w := w) (mg := mg) (base := base) (F := F__law_of) (T := T) (h__law_take := h__law_take)) (PySem.W.mg_of X G a__law_of) b__law_of
  have h__law_part := fn_mk F__law_part (ok_law_part (P := P) (w := w) (mg := mg) (base := base) (F := F__law_part) (T := T) (h__law_take := h__law_take) (h__law_of := h__law_of)) (PySem.W.mg_of X G a__law_part) b__law_part
  have h__law_two := fn_mk F__law_two (ok_law_two (P := P) (w := w) (mg := mg) (base := base) (F := F__law_two) (T := T) (h__law_take := h__law_take) (h__law_part := h__law_part)) (PySem.W.mg_of X G a__law_two) b__law_two
  have h__law_goes := fn_mk F__law_goes (ok_law_goes (P := P) (w := w) (mg := mg) (base := base) (F := F__law_goes)) (PySem.W.mg_of X G a__law_goes) b__law_goes
  have h__law_moves := fn_mk F__law_moves (ok_law_moves (P := P) (w := w) (mg := mg) (base := base) (F := F__law_moves) (T := T) (h__law_goes := h__law_goes)) (PySem.W.mg_of X G a__law_moves) b__law_moves
  have h__law_ahead := fn_mk F__law_ahead (ok_law_ahead (P := P) (w := w) (mg := mg) (base := base) (F := F__law_ahead) (T := T) (h__law_moves := h__law_moves)) (PySem.W.mg_of X G a__law_ahead) b__law_ahead
  have h__law_clash := fn_mk F__law_clash (ok_law_clash (P := P) (w := w) (mg := mg) (base := base) (F := F__law_clash) (T := T) (h__law_goes := h__law_goes)) (PySem.W.mg_of X G a__law_clash) b__law_clash
  have h__law_bad := fn_mk F__law_bad (ok_law_bad (P := P) (w := w) (mg := mg) (base := base) (F := F__law_bad) (T := T) (h__law_ahead := h__law_ahead) (h__law_clash := h__law_clash)) (PySem.W.mg_of X G a__law_bad) b__law_bad
  have h__law_cut := fn_mk F__law_cut (ok_law_cut (P := P) (w := w) (mg := mg) (base := base) (F := F__law_cut) (T := T)) (PySem.W.mg_of X G a__law_cut) b__law_cut
  have h__law_steps := fn_mk F__law_steps (ok_law_steps (P := P) (w := w) (mg := mg) (base := base) (F := F__law_steps) (T := T) (h__law_goes := h__law_goes) (h__law_cut := h__law_cut)) (PySem.W.mg_of X G a__law_steps) b__law_steps
  have h__law_all := fn_mk F__law_all (ok_law_all (P := P) (w := w) (mg := mg) (base := base) (F := F__law_all) (T := T) (h__law_bad := h__law_bad) (h__law_steps := h__law_steps)) (PySem.W.mg_of X G a__law_all) b__law_all
  have h_is_number := fn_mk F_is_number (ok_is_number (P := P) (w := w) (mg := mg) (base := base) (F := F_is_number) (T := T)) (PySem.W.mg_of X G a_is_number) b_is_number
  have h_is_name := fn_mk F_is_name (ok_is_name (P := P) (w := w) (mg := mg) (base := base) (F := F_is_name) (T := T) (G := GG)) (PySem.W.mg_of X G a_is_name) b_is_name
  have h_is_rising := fn_mk F_is_rising (ok_is_rising (P := P) (w := w) (mg := mg) (base := base) (F := F_is_rising) (T := T)) (PySem.W.mg_of X G a_is_rising) b_is_rising
  have h_is_name_set := fn_mk F_is_name_set (ok_is_name_set (P := P) (w := w) (mg := mg) (base := base) (F := F_is_name_set) (T := T) (h_is_name := h_is_name) (h_is_rising := h_is_rising)) (PySem.W.mg_of X G a_is_name_set) b_is_name_set
  have h_is_step := fn_mk F_is_step (ok_is_step (P := P) (w := w) (mg := mg) (base := base) (F := F_is_step) (T := T) (G := GG) (h_is_number := h_is_number)) (PySem.W.mg_of X G a_is_step) b_is_step
  have h_is_part := fn_mk F_is_part (ok_is_part (P := P) (w := w) (mg := mg) (base := base) (F := F_is_part) (T := T) (G := GG) (h_is_number := h_is_number) (h_is_name_set := h_is_name_set) (h_is_step := h_is_step) (h_is_rising := h_is_rising)) (PySem.W.mg_of X G a_is_part) b_is_part
  have h__law_right := fn_mk F__law_right (ok_law_right (P := P) (w := w) (mg := mg) (base := base) (F := F__law_right) (T := T) (pair := pair_ok) (h__law_two := h__law_two) (h__law_bad := h__law_bad) (h__law_all := h__law_all) (h_is_part := h_is_part) (h_joined := h_joined) (h__law_lists := h__law_lists) (h__law_heard := h__law_heard) (h__law_same := h__law_same)) (PySem.W.mg_of X G a__law_right) b__law_right
  exact ok_law (P := P) (w := w) (mg := mg) (base := base) (F := F_law) (T := T) (h__law_by_hand_right := h__law_by_hand_right) (h__law_cells := h__law_cells) (h__law_box := h__law_box) (h__law_right := h__law_right)
end
theorem law_walk {l : PySem.W.OpenLaw} {q : Program} {loose : List Str} {XP : (Str → Option Value) → Heap → Prop} {YP : World → Heap → Prop} {d : DefRec} {K : Params → PySem.W.Frag} (hn : l.most = some 63) (hdf : d.params.defaults = [])
    (hY : ∀ (w : World) (h : Heap), YP w h → (K w.params).In h)
    (F : ∀ (w : World) (mg : Str → Option Value) (fa : Addr) (h : Heap), (K w.params).In h → h.Ns mainGlobals mg → mg d.name = some (.ref fa) →
      ∃ fd : FuncData, (∀ (s : Shared) (u : Value), BindsTo s fd ⟨[u], []⟩ [("_law_script", u)]) ∧ ∀ base : Heap, (K w.params).In base → base.Ns mainGlobals mg → FnOk l.prog w (K w.params) mg base CX0 13 fa fd ["_law_script"] (spD (K w.params) preLaw)) :
    PySem.W.WalkO q loose XP YP l.row.toRowW d [] (fun f vs => PySem.call f vs) :=
  L2.walk_of (n := 63) (k := 13) (x := "_law_script") (CX := fun _ => CX0) (sp := fun w => spD (K w.params) preLaw) hn (by decide) hdf ⟨rfl, by decide, by decide⟩ hY F (fun w H a ns hl _ hS => ⟨H, [.list (ns.map .int)], .bool true, Ex.refl H, .cons (.lst hS (of_ints ns)) .nil, ⟨ns, hl, rfl, rfl⟩, fun v G' H' _ t => dp_bl t⟩) fun _ _ _ _ _ z => z
theorem all_W {P : Program} {w : World} {K : PySem.W.Frag} {h : Heap} {mg : Str → Option Value} {fa cN cF fI : Addr} {file : Str} (X : K.In h) (G : h.Ns mainGlobals mg) (hfa : mg "law" = some (.ref fa)) (ht : (P.main.scope.names.lookup ("super" : Str)).isSome = false)
    {f0 : Addr} {od0 an0 : Option Addr} {sl0 : Array (Option Value)} {oc0 kV0 dc0 pm0 cd0 ct0 : Value}
    (a0 : PySem.W.nsIn K mainGlobals "_law_kit" = some (some (.ref f0))) (l0 : K.lookup f0 = some ⟨oc0, od0, .func (PySem.W.fnOf "_law_kit" "_law_kit" (defArgs s__law_kit) (defBody s__law_kit) (defScope s__law_kit) .none kV0 dc0 pm0 an0 cd0 ct0), sl0⟩) (c0 : PySem.W.codeIn K cd0 "_law_kit" = true) (k0 : PySem.W.keepIn K (.ref f0) = true)
    {f1 : Addr} {od1 an1 : Option Addr} {sl1 : Array (Option Value)} {oc1 kV1 dc1 pm1 cd1 ct1 : Value}
    (a1 : PySem.W.nsIn K mainGlobals "_law_hand_steps" = some (some (.ref f1))) (l1 : K.lookup f1 = some ⟨oc1, od1, .func (PySem.W.fnOf "_law_hand_steps" "_law_hand_steps" (defArgs s__law_hand_steps) (defBody s__law_hand_steps) (defScope s__law_hand_steps) .none kV1 dc1 pm1 an1 cd1 ct1), sl1⟩) (c1 : PySem.W.codeIn K cd1 "_law_hand_steps" = true) (k1 : PySem.W.keepIn K (.ref f1) = true)
    {f2 : Addr} {od2 an2 : Option Addr} {sl2 : Array (Option Value)} {oc2 kV2 dc2 pm2 cd2 ct2 : Value}
    (a2 : PySem.W.nsIn K mainGlobals "tupled" = some (some (.ref f2))) (l2 : K.lookup f2 = some ⟨oc2, od2, .func (PySem.W.fnOf "tupled" "tupled" (defArgs s_tupled) (defBody s_tupled) (defScope s_tupled) .none kV2 dc2 pm2 an2 cd2 ct2), sl2⟩) (c2 : PySem.W.codeIn K cd2 "tupled" = true) (k2 : PySem.W.keepIn K (.ref f2) = true)
    {f3 : Addr} {od3 an3 : Option Addr} {sl3 : Array (Option Value)} {oc3 kV3 dc3 pm3 cd3 ct3 : Value}
    (a3 : PySem.W.nsIn K mainGlobals "unjoinable" = some (some (.ref f3))) (l3 : K.lookup f3 = some ⟨oc3, od3, .func (PySem.W.fnOf "unjoinable" "unjoinable" (defArgs s_unjoinable) (defBody s_unjoinable) (defScope s_unjoinable) .none kV3 dc3 pm3 an3 cd3 ct3), sl3⟩) (c3 : PySem.W.codeIn K cd3 "unjoinable" = true) (k3 : PySem.W.keepIn K (.ref f3) = true)
    {f4 : Addr} {od4 an4 : Option Addr} {sl4 : Array (Option Value)} {oc4 kV4 dc4 pm4 cd4 ct4 : Value}
    (a4 : PySem.W.nsIn K mainGlobals "check_joinable" = some (some (.ref f4))) (l4 : K.lookup f4 = some ⟨oc4, od4, .func (PySem.W.fnOf "check_joinable" "check_joinable" (defArgs s_check_joinable) (defBody s_check_joinable) (defScope s_check_joinable) .none kV4 dc4 pm4 an4 cd4 ct4), sl4⟩) (c4 : PySem.W.codeIn K cd4 "check_joinable" = true) (k4 : PySem.W.keepIn K (.ref f4) = true)
    {f5 : Addr} {od5 an5 : Option Addr} {sl5 : Array (Option Value)} {oc5 kV5 dc5 pm5 cd5 ct5 : Value}
    (a5 : PySem.W.nsIn K mainGlobals "all_pairs" = some (some (.ref f5))) (l5 : K.lookup f5 = some ⟨oc5, od5, .func (PySem.W.fnOf "all_pairs" "all_pairs" (defArgs s_all_pairs) (defBody s_all_pairs) (defScope s_all_pairs) .none kV5 dc5 pm5 an5 cd5 ct5), sl5⟩) (c5 : PySem.W.codeIn K cd5 "all_pairs" = true) (k5 : PySem.W.keepIn K (.ref f5) = true)
    {f6 : Addr} {od6 an6 : Option Addr} {sl6 : Array (Option Value)} {oc6 kV6 dc6 pm6 cd6 ct6 : Value}
    (a6 : PySem.W.nsIn K mainGlobals "common_calls" = some (some (.ref f6))) (l6 : K.lookup f6 = some ⟨oc6, od6, .func (PySem.W.fnOf "common_calls" "common_calls" (defArgs s_common_calls) (defBody s_common_calls) (defScope s_common_calls) .none kV6 dc6 pm6 an6 cd6 ct6), sl6⟩) (c6 : PySem.W.codeIn K cd6 "common_calls" = true) (k6 : PySem.W.keepIn K (.ref f6) = true)
    {f7 : Addr} {od7 an7 : Option Addr} {sl7 : Array (Option Value)} {oc7 kV7 dc7 pm7 cd7 ct7 : Value}
    (a7 : PySem.W.nsIn K mainGlobals "leads" = some (some (.ref f7))) (l7 : K.lookup f7 = some ⟨oc7, od7, .func (PySem.W.fnOf "leads" "leads" (defArgs s_leads) (defBody s_leads) (defScope s_leads) .none kV7 dc7 pm7 an7 cd7 ct7), sl7⟩) (c7 : PySem.W.codeIn K cd7 "leads" = true) (k7 : PySem.W.keepIn K (.ref f7) = true)
    {f8 : Addr} {od8 an8 : Option Addr} {sl8 : Array (Option Value)} {oc8 kV8 dc8 pm8 cd8 ct8 : Value}
    (a8 : PySem.W.nsIn K mainGlobals "steps_out" = some (some (.ref f8))) (l8 : K.lookup f8 = some ⟨oc8, od8, .func (PySem.W.fnOf "steps_out" "steps_out" (defArgs s_steps_out) (defBody s_steps_out) (defScope s_steps_out) .none kV8 dc8 pm8 an8 cd8 ct8), sl8⟩) (c8 : PySem.W.codeIn K cd8 "steps_out" = true) (k8 : PySem.W.keepIn K (.ref f8) = true)
    {f9 : Addr} {od9 an9 : Option Addr} {sl9 : Array (Option Value)} {oc9 kV9 dc9 pm9 cd9 ct9 : Value}
    (a9 : PySem.W.nsIn K mainGlobals "own_moves" = some (some (.ref f9))) (l9 : K.lookup f9 = some ⟨oc9, od9, .func (PySem.W.fnOf "own_moves" "own_moves" (defArgs s_own_moves) (defBody s_own_moves) (defScope s_own_moves) .none kV9 dc9 pm9 an9 cd9 ct9), sl9⟩) (c9 : PySem.W.codeIn K cd9 "own_moves" = true) (k9 : PySem.W.keepIn K (.ref f9) = true)
    {f10 : Addr} {od10 an10 : Option Addr} {sl10 : Array (Option Value)} {oc10 kV10 dc10 pm10 cd10 ct10 : Value}
    (a10 : PySem.W.nsIn K mainGlobals "clash_calls" = some (some (.ref f10))) (l10 : K.lookup f10 = some ⟨oc10, od10, .func (PySem.W.fnOf "clash_calls" "clash_calls" (defArgs s_clash_calls) (defBody s_clash_calls) (defScope s_clash_calls) .none kV10 dc10 pm10 an10 cd10 ct10), sl10⟩) (c10 : PySem.W.codeIn K cd10 "clash_calls" = true) (k10 : PySem.W.keepIn K (.ref f10) = true)
    {f11 : Addr} {od11 an11 : Option Addr} {sl11 : Array (Option Value)} {oc11 kV11 dc11 pm11 cd11 ct11 : Value}
    (a11 : PySem.W.nsIn K mainGlobals "bad_of" = some (some (.ref f11))) (l11 : K.lookup f11 = some ⟨oc11, od11, .func (PySem.W.fnOf "bad_of" "bad_of" (defArgs s_bad_of) (defBody s_bad_of) (defScope s_bad_of) .none kV11 dc11 pm11 an11 cd11 ct11), sl11⟩) (c11 : PySem.W.codeIn K cd11 "bad_of" = true) (k11 : PySem.W.keepIn K (.ref f11) = true)
    {f12 : Addr} {od12 an12 : Option Addr} {sl12 : Array (Option Value)} {oc12 kV12 dc12 pm12 cd12 ct12 : Value}
    (a12 : PySem.W.nsIn K mainGlobals "cut_calls" = some (some (.ref f12))) (l12 : K.lookup f12 = some ⟨oc12, od12, .func (PySem.W.fnOf "cut_calls" "cut_calls" (defArgs s_cut_calls) (defBody s_cut_calls) (defScope s_cut_calls) .none kV12 dc12 pm12 an12 cd12 ct12), sl12⟩) (c12 : PySem.W.codeIn K cd12 "cut_calls" = true) (k12 : PySem.W.keepIn K (.ref f12) = true)
    {f13 : Addr} {od13 an13 : Option Addr} {sl13 : Array (Option Value)} {oc13 kV13 dc13 pm13 cd13 ct13 : Value}
    (a13 : PySem.W.nsIn K mainGlobals "walk_all" = some (some (.ref f13))) (l13 : K.lookup f13 = some ⟨oc13, od13, .func (PySem.W.fnOf "walk_all" "walk_all" (defArgs s_walk_all) (defBody s_walk_all) (defScope s_walk_all) .none kV13 dc13 pm13 an13 cd13 ct13), sl13⟩) (c13 : PySem.W.codeIn K cd13 "walk_all" = true) (k13 : PySem.W.keepIn K (.ref f13) = true)
    {f14 : Addr} {od14 an14 : Option Addr} {sl14 : Array (Option Value)} {oc14 kV14 dc14 pm14 cd14 ct14 : Value}
    (a14 : PySem.W.nsIn K mainGlobals "joined" = some (some (.ref f14))) (l14 : K.lookup f14 = some ⟨oc14, od14, .func (PySem.W.fnOf "joined" "joined" (defArgs s_joined) (defBody s_joined) (defScope s_joined) .none kV14 dc14 pm14 an14 cd14 ct14), sl14⟩) (c14 : PySem.W.codeIn K cd14 "joined" = true) (k14 : PySem.W.keepIn K (.ref f14) = true)
    {f15 : Addr} {od15 an15 : Option Addr} {sl15 : Array (Option Value)} {oc15 kV15 dc15 pm15 cd15 ct15 : Value}
    (a15 : PySem.W.nsIn K mainGlobals "joined_pairs" = some (some (.ref f15))) (l15 : K.lookup f15 = some ⟨oc15, od15, .func (PySem.W.fnOf "joined_pairs" "joined_pairs" (defArgs s_joined_pairs) (defBody s_joined_pairs) (defScope s_joined_pairs) .none kV15 dc15 pm15 an15 cd15 ct15), sl15⟩) (c15 : PySem.W.codeIn K cd15 "joined_pairs" = true) (k15 : PySem.W.keepIn K (.ref f15) = true)
    {f16 : Addr} {od16 an16 : Option Addr} {sl16 : Array (Option Value)} {oc16 kV16 dc16 pm16 cd16 ct16 : Value}
    (a16 : PySem.W.nsIn K mainGlobals "_law_same" = some (some (.ref f16))) (l16 : K.lookup f16 = some ⟨oc16, od16, .func (PySem.W.fnOf "_law_same" "_law_same" (defArgs s__law_same) (defBody s__law_same) (defScope s__law_same) .none kV16 dc16 pm16 an16 cd16 ct16), sl16⟩) (c16 : PySem.W.codeIn K cd16 "_law_same" = true) (k16 : PySem.W.keepIn K (.ref f16) = true)
    {f17 : Addr} {od17 an17 : Option Addr} {sl17 : Array (Option Value)} {oc17 kV17 dc17 pm17 cd17 ct17 : Value}
    (a17 : PySem.W.nsIn K mainGlobals "_law_lists" = some (some (.ref f17))) (l17 : K.lookup f17 = some ⟨oc17, od17, .func (PySem.W.fnOf "_law_lists" "_law_lists" (defArgs s__law_lists) (defBody s__law_lists) (defScope s__law_lists) .none kV17 dc17 pm17 an17 cd17 ct17), sl17⟩) (c17 : PySem.W.codeIn K cd17 "_law_lists" = true) (k17 : PySem.W.keepIn K (.ref f17) = true)
    {f18 : Addr} {od18 an18 : Option Addr} {sl18 : Array (Option Value)} {oc18 kV18 dc18 pm18 cd18 ct18 : Value}
    (a18 : PySem.W.nsIn K mainGlobals "_law_half" = some (some (.ref f18))) (l18 : K.lookup f18 = some ⟨oc18, od18, .func (PySem.W.fnOf "_law_half" "_law_half" (defArgs s__law_half) (defBody s__law_half) (defScope s__law_half) .none kV18 dc18 pm18 an18 cd18 ct18), sl18⟩) (c18 : PySem.W.codeIn K cd18 "_law_half" = true) (k18 : PySem.W.keepIn K (.ref f18) = true)
    {f19 : Addr} {od19 an19 : Option Addr} {sl19 : Array (Option Value)} {oc19 kV19 dc19 pm19 cd19 ct19 : Value}
    (a19 : PySem.W.nsIn K mainGlobals "_law_heard" = some (some (.ref f19))) (l19 : K.lookup f19 = some ⟨oc19, od19, .func (PySem.W.fnOf "_law_heard" "_law_heard" (defArgs s__law_heard) (defBody s__law_heard) (defScope s__law_heard) .none kV19 dc19 pm19 an19 cd19 ct19), sl19⟩) (c19 : PySem.W.codeIn K cd19 "_law_heard" = true) (k19 : PySem.W.keepIn K (.ref f19) = true)
    {f20 : Addr} {od20 an20 : Option Addr} {sl20 : Array (Option Value)} {oc20 kV20 dc20 pm20 cd20 ct20 : Value}
    (a20 : PySem.W.nsIn K mainGlobals "_law_more_right" = some (some (.ref f20))) (l20 : K.lookup f20 = some ⟨oc20, od20, .func (PySem.W.fnOf "_law_more_right" "_law_more_right" (defArgs s__law_more_right) (defBody s__law_more_right) (defScope s__law_more_right) .none kV20 dc20 pm20 an20 cd20 ct20), sl20⟩) (c20 : PySem.W.codeIn K cd20 "_law_more_right" = true) (k20 : PySem.W.keepIn K (.ref f20) = true)
    {f21 : Addr} {od21 an21 : Option Addr} {sl21 : Array (Option Value)} {oc21 kV21 dc21 pm21 cd21 ct21 : Value}
    (a21 : PySem.W.nsIn K mainGlobals "_law_by_hand_right" = some (some (.ref f21))) (l21 : K.lookup f21 = some ⟨oc21, od21, .func (PySem.W.fnOf "_law_by_hand_right" "_law_by_hand_right" (defArgs s__law_by_hand_right) (defBody s__law_by_hand_right) (defScope s__law_by_hand_right) .none kV21 dc21 pm21 an21 cd21 ct21), sl21⟩) (c21 : PySem.W.codeIn K cd21 "_law_by_hand_right" = true) (k21 : PySem.W.keepIn K (.ref f21) = true)
    {f22 : Addr} {od22 an22 : Option Addr} {sl22 : Array (Option Value)} {oc22 kV22 dc22 pm22 cd22 ct22 : Value}
    (a22 : PySem.W.nsIn K mainGlobals "_law_cells" = some (some (.ref f22))) (l22 : K.lookup f22 = some ⟨oc22, od22, .func (PySem.W.fnOf "_law_cells" "_law_cells" (defArgs s__law_cells) (defBody s__law_cells) (defScope s__law_cells) .none kV22 dc22 pm22 an22 cd22 ct22), sl22⟩) (c22 : PySem.W.codeIn K cd22 "_law_cells" = true) (k22 : PySem.W.keepIn K (.ref f22) = true)
    {f23 : Addr} {od23 an23 : Option Addr} {sl23 : Array (Option Value)} {oc23 kV23 dc23 pm23 cd23 ct23 : Value}
    (a23 : PySem.W.nsIn K mainGlobals "_law_box" = some (some (.ref f23))) (l23 : K.lookup f23 = some ⟨oc23, od23, .func (PySem.W.fnOf "_law_box" "_law_box" (defArgs s__law_box) (defBody s__law_box) (defScope s__law_box) .none kV23 dc23 pm23 an23 cd23 ct23), sl23⟩) (c23 : PySem.W.codeIn K cd23 "_law_box" = true) (k23 : PySem.W.keepIn K (.ref f23) = true)
    {f24 : Addr} {od24 an24 : Option Addr} {sl24 : Array (Option Value)} {oc24 kV24 dc24 pm24 cd24 ct24 : Value}
    (a24 : PySem.W.nsIn K mainGlobals "_law_take" = some (some (.ref f24))) (l24 : K.lookup f24 = some ⟨oc24, od24, .func (PySem.W.fnOf "_law_take" "_law_take" (defArgs s__law_take) (defBody s__law_take) (defScope s__law_take) .none kV24 dc24 pm24 an24 cd24 ct24), sl24⟩) (c24 : PySem.W.codeIn K cd24 "_law_take" = true) (k24 : PySem.W.keepIn K (.ref f24) = true)
    {f25 : Addr} {od25 an25 : Option Addr} {sl25 : Array (Option Value)} {oc25 kV25 dc25 pm25 cd25 ct25 : Value}
    (a25 : PySem.W.nsIn K mainGlobals "_law_of" = some (some (.ref f25))) (l25 : K.lookup f25 = some ⟨oc25, od25, .func (PySem.W.fnOf "_law_of" "_law_of" (defArgs s__law_of) (defBody s__law_of) (defScope s__law_of) .none kV25 dc25 pm25 an25 cd25 ct25), sl25⟩) (c25 : PySem.W.codeIn K cd25 "_law_of" = true) (k25 : PySem.W.keepIn K (.ref f25) = true)
    {f26 : Addr} {od26 an26 : Option Addr} {sl26 : Array (Option Value)} {oc26 kV26 dc26 pm26 cd26 ct26 : Value}
    (a26 : PySem.W.nsIn K mainGlobals "_law_part" = some (some (.ref f26))) (l26 : K.lookup f26 = some ⟨oc26, od26, .func (PySem.W.fnOf "_law_part" "_law_part" (defArgs s__law_part) (defBody s__law_part) (defScope s__law_part) .none kV26 dc26 pm26 an26 cd26 ct26), sl26⟩) (c26 : PySem.W.codeIn K cd26 "_law_part" = true) (k26 : PySem.W.keepIn K (.ref f26) = true)
    {f27 : Addr} {od27 an27 : Option Addr} {sl27 : Array (Option Value)} {oc27 kV27 dc27 pm27 cd27 ct27 : Value}
    (a27 : PySem.W.nsIn K mainGlobals "_law_two" = some (some (.ref f27))) (l27 : K.lookup f27 = some ⟨oc27, od27, .func (PySem.W.fnOf "_law_two" "_law_two" (defArgs s__law_two) (defBody s__law_two) (defScope s__law_two) .none kV27 dc27 pm27 an27 cd27 ct27), sl27⟩) (c27 : PySem.W.codeIn K cd27 "_law_two" = true) (k27 : PySem.W.keepIn K (.ref f27) = true)
    {f28 : Addr} {od28 an28 : Option Addr} {sl28 : Array (Option Value)} {oc28 kV28 dc28 pm28 cd28 ct28 : Value}
    (a28 : PySem.W.nsIn K mainGlobals "_law_goes" = some (some (.ref f28))) (l28 : K.lookup f28 = some ⟨oc28, od28, .func (PySem.W.fnOf "_law_goes" "_law_goes" (defArgs s__law_goes) (defBody s__law_goes) (defScope s__law_goes) .none kV28 dc28 pm28 an28 cd28 ct28), sl28⟩) (c28 : PySem.W.codeIn K cd28 "_law_goes" = true) (k28 : PySem.W.keepIn K (.ref f28) = true)
    {f29 : Addr} {od29 an29 : Option Addr} {sl29 : Array (Option Value)} {oc29 kV29 dc29 pm29 cd29 ct29 : Value}
    (a29 : PySem.W.nsIn K mainGlobals "_law_moves" = some (some (.ref f29))) (l29 : K.lookup f29 = some ⟨oc29, od29, .func (PySem.W.fnOf "_law_moves" "_law_moves" (defArgs s__law_moves) (defBody s__law_moves) (defScope s__law_moves) .none kV29 dc29 pm29 an29 cd29 ct29), sl29⟩) (c29 : PySem.W.codeIn K cd29 "_law_moves" = true) (k29 : PySem.W.keepIn K (.ref f29) = true)
    {f30 : Addr} {od30 an30 : Option Addr} {sl30 : Array (Option Value)} {oc30 kV30 dc30 pm30 cd30 ct30 : Value}
    (a30 : PySem.W.nsIn K mainGlobals "_law_ahead" = some (some (.ref f30))) (l30 : K.lookup f30 = some ⟨oc30, od30, .func (PySem.W.fnOf "_law_ahead" "_law_ahead" (defArgs s__law_ahead) (defBody s__law_ahead) (defScope s__law_ahead) .none kV30 dc30 pm30 an30 cd30 ct30), sl30⟩) (c30 : PySem.W.codeIn K cd30 "_law_ahead" = true) (k30 : PySem.W.keepIn K (.ref f30) = true)
    {f31 : Addr} {od31 an31 : Option Addr} {sl31 : Array (Option Value)} {oc31 kV31 dc31 pm31 cd31 ct31 : Value}
    (a31 : PySem.W.nsIn K mainGlobals "_law_clash" = some (some (.ref f31))) (l31 : K.lookup f31 = some ⟨oc31, od31, .func (PySem.W.fnOf "_law_clash" "_law_clash" (defArgs s__law_clash) (defBody s__law_clash) (defScope s__law_clash) .none kV31 dc31 pm31 an31 cd31 ct31), sl31⟩) (c31 : PySem.W.codeIn K cd31 "_law_clash" = true) (k31 : PySem.W.keepIn K (.ref f31) = true)
    {f32 : Addr} {od32 an32 : Option Addr} {sl32 : Array (Option Value)} {oc32 kV32 dc32 pm32 cd32 ct32 : Value}
    (a32 : PySem.W.nsIn K mainGlobals "_law_bad" = some (some (.ref f32))) (l32 : K.lookup f32 = some ⟨oc32, od32, .func (PySem.W.fnOf "_law_bad" "_law_bad" (defArgs s__law_bad) (defBody s__law_bad) (defScope s__law_bad) .none kV32 dc32 pm32 an32 cd32 ct32), sl32⟩) (c32 : PySem.W.codeIn K cd32 "_law_bad" = true) (k32 : PySem.W.keepIn K (.ref f32) = true)
    {f33 : Addr} {od33 an33 : Option Addr} {sl33 : Array (Option Value)} {oc33 kV33 dc33 pm33 cd33 ct33 : Value}
    (a33 : PySem.W.nsIn K mainGlobals "_law_cut" = some (some (.ref f33))) (l33 : K.lookup f33 = some ⟨oc33, od33, .func (PySem.W.fnOf "_law_cut" "_law_cut" (defArgs s__law_cut) (defBody s__law_cut) (defScope s__law_cut) .none kV33 dc33 pm33 an33 cd33 ct33), sl33⟩) (c33 : PySem.W.codeIn K cd33 "_law_cut" = true) (k33 : PySem.W.keepIn K (.ref f33) = true)
    {f34 : Addr} {od34 an34 : Option Addr} {sl34 : Array (Option Value)} {oc34 kV34 dc34 pm34 cd34 ct34 : Value}
    (a34 : PySem.W.nsIn K mainGlobals "_law_steps" = some (some (.ref f34))) (l34 : K.lookup f34 = some ⟨oc34, od34, .func (PySem.W.fnOf "_law_steps" "_law_steps" (defArgs s__law_steps) (defBody s__law_steps) (defScope s__law_steps) .none kV34 dc34 pm34 an34 cd34 ct34), sl34⟩) (c34 : PySem.W.codeIn K cd34 "_law_steps" = true) (k34 : PySem.W.keepIn K (.ref f34) = true)
    {f35 : Addr} {od35 an35 : Option Addr} {sl35 : Array (Option Value)} {oc35 kV35 dc35 pm35 cd35 ct35 : Value}
    (a35 : PySem.W.nsIn K mainGlobals "_law_all" = some (some (.ref f35))) (l35 : K.lookup f35 = some ⟨oc35, od35, .func (PySem.W.fnOf "_law_all" "_law_all" (defArgs s__law_all) (defBody s__law_all) (defScope s__law_all) .none kV35 dc35 pm35 an35 cd35 ct35), sl35⟩) (c35 : PySem.W.codeIn K cd35 "_law_all" = true) (k35 : PySem.W.keepIn K (.ref f35) = true)
    {f36 : Addr} {od36 an36 : Option Addr} {sl36 : Array (Option Value)} {oc36 kV36 dc36 pm36 cd36 ct36 : Value}
    (a36 : PySem.W.nsIn K mainGlobals "is_number" = some (some (.ref f36))) (l36 : K.lookup f36 = some ⟨oc36, od36, .func (PySem.W.fnOf "is_number" "is_number" (defArgs s_is_number) (defBody s_is_number) (defScope s_is_number) .none kV36 dc36 pm36 an36 cd36 ct36), sl36⟩) (c36 : PySem.W.codeIn K cd36 "is_number" = true) (k36 : PySem.W.keepIn K (.ref f36) = true)
    {f37 : Addr} {od37 an37 : Option Addr} {sl37 : Array (Option Value)} {oc37 kV37 dc37 pm37 cd37 ct37 : Value}
    (a37 : PySem.W.nsIn K mainGlobals "is_name" = some (some (.ref f37))) (l37 : K.lookup f37 = some ⟨oc37, od37, .func (PySem.W.fnOf "is_name" "is_name" (defArgs s_is_name) (defBody s_is_name) (defScope s_is_name) .none kV37 dc37 pm37 an37 cd37 ct37), sl37⟩) (c37 : PySem.W.codeIn K cd37 "is_name" = true) (k37 : PySem.W.keepIn K (.ref f37) = true)
    {f38 : Addr} {od38 an38 : Option Addr} {sl38 : Array (Option Value)} {oc38 kV38 dc38 pm38 cd38 ct38 : Value}
    (a38 : PySem.W.nsIn K mainGlobals "is_rising" = some (some (.ref f38))) (l38 : K.lookup f38 = some ⟨oc38, od38, .func (PySem.W.fnOf "is_rising" "is_rising" (defArgs s_is_rising) (defBody s_is_rising) (defScope s_is_rising) .none kV38 dc38 pm38 an38 cd38 ct38), sl38⟩) (c38 : PySem.W.codeIn K cd38 "is_rising" = true) (k38 : PySem.W.keepIn K (.ref f38) = true)
    {f39 : Addr} {od39 an39 : Option Addr} {sl39 : Array (Option Value)} {oc39 kV39 dc39 pm39 cd39 ct39 : Value}
    (a39 : PySem.W.nsIn K mainGlobals "is_name_set" = some (some (.ref f39))) (l39 : K.lookup f39 = some ⟨oc39, od39, .func (PySem.W.fnOf "is_name_set" "is_name_set" (defArgs s_is_name_set) (defBody s_is_name_set) (defScope s_is_name_set) .none kV39 dc39 pm39 an39 cd39 ct39), sl39⟩) (c39 : PySem.W.codeIn K cd39 "is_name_set" = true) (k39 : PySem.W.keepIn K (.ref f39) = true)
    {f40 : Addr} {od40 an40 : Option Addr} {sl40 : Array (Option Value)} {oc40 kV40 dc40 pm40 cd40 ct40 : Value}
    (a40 : PySem.W.nsIn K mainGlobals "is_step" = some (some (.ref f40))) (l40 : K.lookup f40 = some ⟨oc40, od40, .func (PySem.W.fnOf "is_step" "is_step" (defArgs s_is_step) (defBody s_is_step) (defScope s_is_step) .none kV40 dc40 pm40 an40 cd40 ct40), sl40⟩) (c40 : PySem.W.codeIn K cd40 "is_step" = true) (k40 : PySem.W.keepIn K (.ref f40) = true)
    {f41 : Addr} {od41 an41 : Option Addr} {sl41 : Array (Option Value)} {oc41 kV41 dc41 pm41 cd41 ct41 : Value}
    (a41 : PySem.W.nsIn K mainGlobals "is_part" = some (some (.ref f41))) (l41 : K.lookup f41 = some ⟨oc41, od41, .func (PySem.W.fnOf "is_part" "is_part" (defArgs s_is_part) (defBody s_is_part) (defScope s_is_part) .none kV41 dc41 pm41 an41 cd41 ct41), sl41⟩) (c41 : PySem.W.codeIn K cd41 "is_part" = true) (k41 : PySem.W.keepIn K (.ref f41) = true)
    {f42 : Addr} {od42 an42 : Option Addr} {sl42 : Array (Option Value)} {oc42 kV42 dc42 pm42 cd42 ct42 : Value}
    (a42 : PySem.W.nsIn K mainGlobals "_law_right" = some (some (.ref f42))) (l42 : K.lookup f42 = some ⟨oc42, od42, .func (PySem.W.fnOf "_law_right" "_law_right" (defArgs s__law_right) (defBody s__law_right) (defScope s__law_right) .none kV42 dc42 pm42 an42 cd42 ct42), sl42⟩) (c42 : PySem.W.codeIn K cd42 "_law_right" = true) (k42 : PySem.W.keepIn K (.ref f42) = true)
    {f43 : Addr} {od43 an43 : Option Addr} {sl43 : Array (Option Value)} {oc43 kV43 dc43 pm43 cd43 ct43 : Value}
    (a43 : PySem.W.nsIn K mainGlobals "law" = some (some (.ref f43))) (l43 : K.lookup f43 = some ⟨oc43, od43, .func (PySem.W.fnOf "law" "law" (defArgs s_law) (defBody s_law) (defScope s_law) .none kV43 dc43 pm43 an43 cd43 ct43), sl43⟩) (c43 : PySem.W.codeIn K cd43 "law" = true) (k43 : PySem.W.keepIn K (.ref f43) = true)
    (z_len : PySem.W.nsIn K mainGlobals "len" = some none)
    (z_isi : PySem.W.nsIn K mainGlobals "isinstance" = some none)
    (z_int : PySem.W.nsIn K mainGlobals "int" = some none)
    (z_str : PySem.W.nsIn K mainGlobals "str" = some none)
    (z_bool : PySem.W.nsIn K mainGlobals "bool" = some none)
    (z_list : PySem.W.nsIn K mainGlobals "list" = some none)
    (z_tuple : PySem.W.nsIn K mainGlobals "tuple" = some none)
    (z_all : PySem.W.nsIn K mainGlobals "all" = some none)
    (z_any : PySem.W.nsIn K mainGlobals "any" = some none)
    (z_zip : PySem.W.nsIn K mainGlobals "zip" = some none)
    (z_sorted : PySem.W.nsIn K mainGlobals "sorted" = some none)
    (z_set : PySem.W.nsIn K mainGlobals "set" = some none)
    (z_range : PySem.W.nsIn K mainGlobals "range" = some none)
    (z_enumerate : PySem.W.nsIn K mainGlobals "enumerate" = some none)
    (z_abs : PySem.W.nsIn K mainGlobals "abs" = some none)
    (z_verr : PySem.W.nsIn K mainGlobals "ValueError" = some none)
    {t_LETTERS : Tok} (g_LETTERS : PySem.W.nsIn K mainGlobals "LETTERS" = some (some (.str "abcdefghijklmnopqrstuvwxyz" t_LETTERS)))
    {t_LONGEST : Tok} (g_LONGEST : PySem.W.nsIn K mainGlobals "LONGEST" = some (some (.int 8 t_LONGEST)))
    {t_WITHIN : Tok} (g_WITHIN : PySem.W.nsIn K mainGlobals "WITHIN" = some (some (.str "" t_WITHIN)))
    {t_STEP : Tok} (g_STEP : PySem.W.nsIn K mainGlobals "STEP" = some (some (.int 3 t_STEP)))
    {t_PARTS : Tok} (g_PARTS : PySem.W.nsIn K mainGlobals "PARTS" = some (some (.int 4 t_PARTS)))
    {nm q : Str} {N : Addr} {bs : List Value} {sn : List Str} {sub : List Value} {ab : Bool} {col : Option Bool} {dd : Option Addr} {m0 m1 m2 m3 m5 : Option Value} {oc : Value} {od : Option Addr} {doc pm : Value} {an : Option Addr} {cda cc : Addr} {ct : Value} {osl : Array (Option Value)} {vs : Array Value} {tf : Tok} {ccl cl : Value} {cdd cld : Option Addr} {ccs csl : Array (Option Value)}
    (aN : PySem.W.nsIn K mainGlobals "NotJoinable" = some (some (.ref cN))) (xL : K.lookup cN = some (excClassObj nm q cN N bs [.type "ValueError", .type "Exception", .type "BaseException", .type "object"] true sn sub ab col dd m0 m1 m2 m3 m5 "ValueError.__new__"))
    (sa : PySem.W.findIn K (.ref cN) "__setattr__" = some (some (.builtin "object.__setattr__"))) (ga : PySem.W.findIn K (.ref cN) "__getattribute__" = some (some (.builtin "BaseException.__getattribute__"))) (gg : PySem.W.findIn K (.ref cN) "__getattr__" = some none) (nb : PySem.W.findIn K (.ref cN) "name" = some none)
    (iC : PySem.W.findIn K (.ref cN) "__init__" = some (some (.ref fI))) (tC : PySem.W.typeIn K (.ref fI) = some (.type "function")) (kC : PySem.W.keepIn K (.ref cN) = true) (eC : PySem.W.subIn K (.ref cN) (.type "BaseException") = some true) (vC : PySem.W.subIn K (.ref cN) (.type "ValueError") = some true) (sC : PySem.W.mroIn K cN (.ref cN) = some true)
    (tyC : PySem.W.typeIn K (.ref cN) = some (.type "type")) (hC : PySem.W.hasDictIn K cN = true) (ssC : PySem.W.subIn K (.ref cN) (.ref cN) = some true) (noS : PySem.W.nsIn K mainGlobals "super" = some none) (op : PySem.W.nsIn K cStatics "thirdparty.any" = some none)
    (fL : K.lookup fI = some ⟨oc, od, .func (PySem.W.ksFn "__init__" "NotJoinable.__init__" Nj.aI Nj.bI Nj.sI .none .none doc pm an (.ref cda) ct cc), osl⟩) (cd : PySem.W.codeIn K (.ref cda) "NotJoinable.__init__" = true) (cL : K.lookup cda = some ⟨ccl, cdd, .fields vs, ccs⟩) (v2 : vs[2]? = some (.str file tf)) (cC : K.lookup cc = some ⟨cl, cld, .cell (some (.ref cN)), csl⟩) (hf : ((P.main.file : Str) == file) = true)
    (aF : PySem.W.nsIn K mainGlobals "NoFit" = some (some (.ref cF))) (xF : PySem.W.excIn K cF [.type "ValueError", .type "Exception", .type "BaseException", .type "object"] "ValueError.__new__" = true) (kF : PySem.W.keepIn K (.ref cF) = true) (eF : PySem.W.subIn K (.ref cF) (.type "BaseException") = some true) (vF : PySem.W.subIn K (.ref cF) (.type "ValueError") = some true) (tF : PySem.W.typeIn K (.ref cF) = some (.type "type"))
    (hF : PySem.W.hasDictIn K cF = true) (ssF : PySem.W.subIn K (.ref cF) (.ref cF) = some true) (nFN : PySem.W.subIn K (.ref cF) (.ref cN) = some false)
    : ∃ fd : FuncData, (∀ (s : Shared) (v : Value), BindsTo s fd ⟨[v], []⟩ [("_law_script", v)]) ∧ ∀ base : Heap, K.In base → base.Ns mainGlobals mg → FnOk P w K mg base CX0 13 fa fd ["_law_script"] (spD K preLaw) :=
  all_fn X G hfa hf ht ⟨aN, ⟨nm, q, N, bs, sn, sub, ab, col, dd, m0, m1, m2, m3, m5, xL⟩, sa, ga, gg, nb, iC, tC, kC, eC, vC, sC, tyC, hC, ssC, noS, op, ⟨oc, od, doc, pm, an, cda, cc, ct, osl, vs, tf, ccl, cl, cdd, cld, ccs, csl, fL, cd, cL, v2, cC⟩, aF, xF, kF, eF, vF, tF, hF, ssF, nFN⟩
    ⟨z_len, z_isi, z_int, z_str, z_bool, z_list, z_tuple, z_all, z_any, z_zip, z_sorted, z_set, z_range, z_enumerate, z_abs, z_verr, ⟨_, g_LETTERS⟩, ⟨_, g_LONGEST⟩, ⟨_, g_WITHIN⟩, ⟨_, g_STEP⟩, ⟨_, g_PARTS⟩⟩
    ⟨_, dfn_mk a0 l0 c0 k0⟩ ⟨_, dfn_mk a1 l1 c1 k1⟩ ⟨_, dfn_mk a2 l2 c2 k2⟩ ⟨_, dfn_mk a3 l3 c3 k3⟩ ⟨_, dfn_mk a4 l4 c4 k4⟩ ⟨_, dfn_mk a5 l5 c5 k5⟩ ⟨_, dfn_mk a6 l6 c6 k6⟩ ⟨_, dfn_mk a7 l7 c7 k7⟩ ⟨_, dfn_mk a8 l8 c8 k8⟩ ⟨_, dfn_mk a9 l9 c9 k9⟩ ⟨_, dfn_mk a10 l10 c10 k10⟩ ⟨_, dfn_mk a11 l11 c11 k11⟩ ⟨_, dfn_mk a12 l12 c12 k12⟩ ⟨_, dfn_mk a13 l13 c13 k13⟩ ⟨_, dfn_mk a14 l14 c14 k14⟩ ⟨_, dfn_mk a15 l15 c15 k15⟩ ⟨_, dfn_mk a16 l16 c16 k16⟩ ⟨_, dfn_mk a17 l17 c17 k17⟩ ⟨_, dfn_mk a18 l18 c18 k18⟩ ⟨_, dfn_mk a19 l19 c19 k19⟩ ⟨_, dfn_mk a20 l20 c20 k20⟩ ⟨_, dfn_mk a21 l21 c21 k21⟩ ⟨_, dfn_mk a22 l22 c22 k22⟩ ⟨_, dfn_mk a23 l23 c23 k23⟩ ⟨_, dfn_mk a24 l24 c24 k24⟩ ⟨_, dfn_mk a25 l25 c25 k25⟩ ⟨_, dfn_mk a26 l26 c26 k26⟩ ⟨_, dfn_mk a27 l27 c27 k27⟩ ⟨_, dfn_mk a28 l28 c28 k28⟩ ⟨_, dfn_mk a29 l29 c29 k29⟩ ⟨_, dfn_mk a30 l30 c30 k30⟩ ⟨_, dfn_mk a31 l31 c31 k31⟩ ⟨_, dfn_mk a32 l32 c32 k32⟩ ⟨_, dfn_mk a33 l33 c33 k33⟩ ⟨_, dfn_mk a34 l34 c34 k34⟩ ⟨_, dfn_mk a35 l35 c35 k35⟩ ⟨_, dfn_mk a36 l36 c36 k36⟩ ⟨_, dfn_mk a37 l37 c37 k37⟩ ⟨_, dfn_mk a38 l38 c38 k38⟩ ⟨_, dfn_mk a39 l39 c39 k39⟩ ⟨_, dfn_mk a40 l40 c40 k40⟩ ⟨_, dfn_mk a41 l41 c41 k41⟩ ⟨_, dfn_mk a42 l42 c42 k42⟩ ⟨_, dfn_mk a43 l43 c43 k43⟩
end Fs

open PySem PySem.W PyProof.Rows
set_option maxRecDepth 100000 in
set_option maxHeartbeats 0 in
theorem PySem.Challenge.cw_fitssomewhere_k23_whole_what_is_joined_holds : PySem.Challenge.rw_fitssomewhere_k23_whole_what_is_joined.Holds := by
  w_on; o_law; k_head; (case hw => w_witness2)
  k_fill
  refine Fs.law_walk (l := PySem.Challenge.rw_fitssomewhere_k23_whole_what_is_joined) rfl rfl (fun w h Y => PySem.W.kIn_of Y) ?F
  case F =>
    intro w mg fa h KX G hmg
    refine' Fs.all_W KX G hmg ?ht ?a0 ?l0 ?c0 ?k0 ?a1 ?l1 ?c1 ?k1 ?a2 ?l2 ?c2 ?k2 ?a3 ?l3 ?c3 ?k3 ?a4 ?l4 ?c4 ?k4 ?a5 ?l5 ?c5 ?k5 ?a6 ?l6 ?c6 ?k6 ?a7 ?l7 ?c7 ?k7 ?a8 ?l8 ?c8 ?k8 ?a9 ?l9 ?c9 ?k9 ?a10 ?l10 ?c10 ?k10 ?a11 ?l11 ?c11 ?k11 ?a12 ?l12 ?c12 ?k12 ?a13 ?l13 ?c13 ?k13 ?a14 ?l14 ?c14 ?k14 ?a15 ?l15 ?c15 ?k15 ?a16 ?l16 ?c16 ?k16 ?a17 ?l17 ?c17 ?k17 ?a18 ?l18 ?c18 ?k18 ?a19 ?l19 ?c19 ?k19 ?a20 ?l20 ?c20 ?k20 ?a21 ?l21 ?c21 ?k21 ?a22 ?l22 ?c22 ?k22 ?a23 ?l23 ?c23 ?k23 ?a24 ?l24 ?c24 ?k24 ?a25 ?l25 ?c25 ?k25 ?a26 ?l26 ?c26 ?k26 ?a27 ?l27 ?c27 ?k27 ?a28 ?l28 ?c28 ?k28 ?a29 ?l29 ?c29 ?k29 ?a30 ?l30 ?c30 ?k30 ?a31 ?l31 ?c31 ?k31 ?a32 ?l32 ?c32 ?k32 ?a33 ?l33 ?c33 ?k33 ?a34 ?l34 ?c34 ?k34 ?a35 ?l35 ?c35 ?k35 ?a36 ?l36 ?c36 ?k36 ?a37 ?l37 ?c37 ?k37 ?a38 ?l38 ?c38 ?k38 ?a39 ?l39 ?c39 ?k39 ?a40 ?l40 ?c40 ?k40 ?a41 ?l41 ?c41 ?k41 ?a42 ?l42 ?c42 ?k42 ?a43 ?l43 ?c43 ?k43 ?z_len ?z_isi ?z_int ?z_str ?z_bool ?z_list ?z_tuple ?z_all ?z_any ?z_zip ?z_sorted ?z_set ?z_range ?z_enumerate ?z_abs ?z_verr ?g_LETTERS ?g_LONGEST ?g_WITHIN ?g_STEP ?g_PARTS ?aN ?xL ?sa ?ga ?gg ?nb ?iC ?tC ?kC ?eC ?vC ?sC ?tyC ?hC ?ssC ?noS ?op ?fL ?cd ?cL ?v2 ?cC ?hf ?aF ?xF ?kF ?eF ?vF ?tF ?hF ?ssF ?nFN
    (case ht => rfl)
    (case a0 => k_is)
    (case l0 => k_is)
    (case c0 => k_is)
    (case k0 => k_is)
    (case a1 => k_is)
    (case l1 => k_is)
    (case c1 => k_is)
    (case k1 => k_is)
    (case a2 => k_is)
    (case l2 => k_is)
    (case c2 => k_is)
    (case k2 => k_is)
    (case a3 => k_is)
    (case l3 => k_is)
    (case c3 => k_is)
    (case k3 => k_is)
    (case a4 => k_is)
    (case l4 => k_is)
    (case c4 => k_is)
    (case k4 => k_is)
    (case a5 => k_is)
    (case l5 => k_is)
    (case c5 => k_is)
    (case k5 => k_is)
    (case a6 => k_is)
    (case l6 => k_is)
    (case c6 => k_is)
    (case k6 => k_is)
    (case a7 => k_is)
    (case l7 => k_is)
    (case c7 => k_is)
    (case k7 => k_is)
    (case a8 => k_is)
    (case l8 => k_is)
    (case c8 => k_is)
    (case k8 => k_is)
    (case a9 => k_is)
    (case l9 => k_is)
    (case c9 => k_is)
    (case k9 => k_is)
    (case a10 => k_is)
    (case l10 => k_is)
    (case c10 => k_is)
    (case k10 => k_is)
    (case a11 => k_is)
    (case l11 => k_is)
    (case c11 => k_is)
    (case k11 => k_is)
    (case a12 => k_is)
    (case l12 => k_is)
    (case c12 => k_is)
    (case k12 => k_is)
    (case a13 => k_is)
    (case l13 => k_is)
    (case c13 => k_is)
    (case k13 => k_is)
    (case a14 => k_is)
    (case l14 => k_is)
    (case c14 => k_is)
    (case k14 => k_is)
    (case a15 => k_is)
    (case l15 => k_is)
    (case c15 => k_is)
    (case k15 => k_is)
    (case a16 => k_is)
    (case l16 => k_is)
    (case c16 => k_is)
    (case k16 => k_is)
    (case a17 => k_is)
    (case l17 => k_is)
    (case c17 => k_is)
    (case k17 => k_is)
    (case a18 => k_is)
    (case l18 => k_is)
    (case c18 => k_is)
    (case k18 => k_is)
    (case a19 => k_is)
    (case l19 => k_is)
    (case c19 => k_is)
    (case k19 => k_is)
    (case a20 => k_is)
    (case l20 => k_is)
    (case c20 => k_is)
    (case k20 => k_is)
    (case a21 => k_is)
    (case l21 => k_is)
    (case c21 => k_is)
    (case k21 => k_is)
    (case a22 => k_is)
    (case l22 => k_is)
    (case c22 => k_is)
    (case k22 => k_is)
    (case a23 => k_is)
    (case l23 => k_is)
    (case c23 => k_is)
    (case k23 => k_is)
    (case a24 => k_is)
    (case l24 => k_is)
    (case c24 => k_is)
    (case k24 => k_is)
    (case a25 => k_is)
    (case l25 => k_is)
    (case c25 => k_is)
    (case k25 => k_is)
    (case a26 => k_is)
    (case l26 => k_is)
    (case c26 => k_is)
    (case k26 => k_is)
    (case a27 => k_is)
    (case l27 => k_is)
    (case c27 => k_is)
    (case k27 => k_is)
    (case a28 => k_is)
    (case l28 => k_is)
    (case c28 => k_is)
    (case k28 => k_is)
    (case a29 => k_is)
    (case l29 => k_is)
    (case c29 => k_is)
    (case k29 => k_is)
    (case a30 => k_is)
    (case l30 => k_is)
    (case c30 => k_is)
    (case k30 => k_is)
    (case a31 => k_is)
    (case l31 => k_is)
    (case c31 => k_is)
    (case k31 => k_is)
    (case a32 => k_is)
    (case l32 => k_is)
    (case c32 => k_is)
    (case k32 => k_is)
    (case a33 => k_is)
    (case l33 => k_is)
    (case c33 => k_is)
    (case k33 => k_is)
    (case a34 => k_is)
    (case l34 => k_is)
    (case c34 => k_is)
    (case k34 => k_is)
    (case a35 => k_is)
    (case l35 => k_is)
    (case c35 => k_is)
    (case k35 => k_is)
    (case a36 => k_is)
    (case l36 => k_is)
    (case c36 => k_is)
    (case k36 => k_is)
    (case a37 => k_is)
    (case l37 => k_is)
    (case c37 => k_is)
    (case k37 => k_is)
    (case a38 => k_is)
    (case l38 => k_is)
    (case c38 => k_is)
    (case k38 => k_is)
    (case a39 => k_is)
    (case l39 => k_is)
    (case c39 => k_is)
    (case k39 => k_is)
    (case a40 => k_is)
    (case l40 => k_is)
    (case c40 => k_is)
    (case k40 => k_is)
    (case a41 => k_is)
    (case l41 => k_is)
    (case c41 => k_is)
    (case k41 => k_is)
    (case a42 => k_is)
    (case l42 => k_is)
    (case c42 => k_is)
    (case k42 => k_is)
    (case a43 => k_is)
    (case l43 => k_is)
    (case c43 => k_is)
    (case k43 => k_is)
    (case z_len => k_is)
    (case z_isi => k_is)
    (case z_int => k_is)
    (case z_str => k_is)
    (case z_bool => k_is)
    (case z_list => k_is)
    (case z_tuple => k_is)
    (case z_all => k_is)
    (case z_any => k_is)
    (case z_zip => k_is)
    (case z_sorted => k_is)
    (case z_set => k_is)
    (case z_range => k_is)
    (case z_enumerate => k_is)
    (case z_abs => k_is)
    (case z_verr => k_is)
    (case g_LETTERS => k_is)
    (case g_LONGEST => k_is)
    (case g_WITHIN => k_is)
    (case g_STEP => k_is)
    (case g_PARTS => k_is)
    (case aN => k_is)
    (case xL => k_is)
    (case sa => k_is)
    (case ga => k_is)
    (case gg => k_is)
    (case nb => k_is)
    (case iC => k_is)
    (case tC => k_is)
    (case kC => k_is)
    (case eC => k_is)
    (case vC => k_is)
    (case sC => k_is)
    (case tyC => k_is)
    (case hC => k_is)
    (case ssC => first | rfl | k_is | decide +kernel)
    (case noS => k_is)
    (case op => k_is)
    (case fL => k_is)
    (case cd => k_is)
    (case cL => k_is)
    (case v2 => first | rfl | k_is | decide +kernel)
    (case cC => k_is)
    (case hf => first | rfl | k_is | decide +kernel)
    (case aF => k_is)
    (case xF => first | k_exc | k_is)
    (case kF => k_is)
    (case eF => k_is)
    (case vF => k_is)
    (case tF => k_is)
    (case hF => k_is)
    (case ssF => first | rfl | k_is | decide +kernel)
    (case nFN => first | rfl | k_is | decide +kernel)
