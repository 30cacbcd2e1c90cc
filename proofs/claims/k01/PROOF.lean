import PyProof.Rows.All
import Wide.All
import OpenK.AllK
import Wide.FinOn
import HandS.ForMost
import HandS.IsInst
import HandS.TupAny
import HandS.Deep
import HandS.Wide
import HandS.Zip
import KE.DataCmp
import HandS.Iter
import HandS.More
import KE.DatumOrd
import HandS.OwnEq
import HandS.SlotsOwn
import HandS.Defaults
import HandS.MakeKw
import HandS.Style
import KE.DataMinMax
import PyProof.Rows.RowBridgeK
import HandS.Zip0
import HandS.ListItems
import KE.KDictZip
import KE.KItemsList
import PySem.Challenge.RW_folderkin_k01_vectors
set_option Elab.async false
set_option linter.all false
set_option maxRecDepth 100000
set_option maxHeartbeats 4000000
/-! Dz: programs over plain data. A: data and how heaps bear it. -/
namespace Dz
open PySem L2
abbrev D := PyData
abbrev Frag := PySem.W.Frag

/-- the heap without the addresses that B hides -/
def hide (B : Addr → Bool) (H : Hp) : Hp := fun a => if B a = true then none else H a
def Sub (H H' : Hp) : Prop := ∀ a o, H a = some o → H' a = some o
theorem Sub.refl (H : Hp) : Sub H H := fun _ _ h => h
theorem Sub.trans {H H1 H2 : Hp} (a : Sub H H1) (b : Sub H1 H2) : Sub H H2 := fun x o h => b x o (a x o h)
theorem hide_some {B : Addr → Bool} {H : Hp} {a : Addr} {o : HO} (h : hide B H a = some o) : B a = false ∧ H a = some o := by
  unfold hide at h
  split at h
  · cases h
  · rename_i q
    exact ⟨by simpa using q, h⟩
theorem hide_of {B : Addr → Bool} {H : Hp} {a : Addr} {o : HO} (b : B a = false) (h : H a = some o) : hide B H a = some o := by
  unfold hide
  rw [b]
  exact h
theorem hide_sub (B : Addr → Bool) (H : Hp) : Sub (hide B H) H := fun a o h => (hide_some h).2
theorem Sub.new {H : Hp} {p : Addr} {o : HO} (h : H p = none) : Sub H (upd H p o) := fun a u e => by
  rw [upd_ne (ne_of_none e h)]
  exact e

def kD : Key → D
  | .inl i => .int i
  | .inr x => .str x
mutual
/-- v, in H, is the datum d -/
inductive Rp (K : Frag) (H : Hp) : V → D → Prop
  | non : Rp K H .non .none
  | bl (b : Bool) : Rp K H (.bl b) (.bool b)
  | int (i : Int) : Rp K H (.int i) (.int i)
  | str (x : Str) : Rp K H (.str x) (.str x)
  | lst {a : Addr} {xs : List V} {ds : List D} : SqL K H a xs → RpL K H xs ds → Rp K H (.ref a) (.list ds)
  | tup {a : Addr} {xs : List V} {ds : List D} : SqT K H a xs → RpL K H xs ds → Rp K H (.ref a) (.tuple ds)
  | dct {a : Addr} {kvs : List (Key × V)} {ds : List (D × D)} : Rd H a (.dK kvs) → RpK K H kvs ds → Rp K H (.ref a) (.dict ds)
  | obj {a C dx : Addr} {fs : List (Str × V)} {ds : List (D × D)} : H a = some (.ins C dx fs) → RpF K H fs ds → Rp K H (.ref a) (.dict ((.none, .int (Int.ofNat C)) :: ds))
inductive RpL (K : Frag) (H : Hp) : List V → List D → Prop
  | nil : RpL K H [] []
  | cons {v : V} {vs : List V} {d : D} {ds : List D} : Rp K H v d → RpL K H vs ds → RpL K H (v :: vs) (d :: ds)
inductive RpK (K : Frag) (H : Hp) : List (Key × V) → List (D × D) → Prop
  | nil : RpK K H [] []
  | cons {k : Key} {v : V} {vs : List (Key × V)} {d : D} {ds : List (D × D)} : Rp K H v d → RpK K H vs ds → RpK K H ((k, v) :: vs) ((kD k, d) :: ds)
inductive RpF (K : Frag) (H : Hp) : List (Str × V) → List (D × D) → Prop
  | nil : RpF K H [] []
  | cons {f : Str} {v : V} {vs : List (Str × V)} {d : D} {ds : List (D × D)} : Rp K H v d → RpF K H vs ds → RpF K H ((f, v) :: vs) ((.str f, d) :: ds)
end
theorem sub_rd {H H' : Hp} {a : Addr} {u : HO} (e : Sub H H') (h : Rd H a u) : Rd H' a u := by
  rcases h with h | ⟨o, h⟩
  · exact Or.inl (e a _ h)
  · exact Or.inr ⟨o, e a _ h⟩
theorem sub_l {K : Frag} {H H' : Hp} {a : Addr} {xs : List V} (e : Sub H H') (h : SqL K H a xs) : SqL K H' a xs := by
  rcases h with h | h
  · exact Or.inl (sub_rd e h)
  · exact Or.inr h
theorem sub_t {K : Frag} {H H' : Hp} {a : Addr} {xs : List V} (e : Sub H H') (h : SqT K H a xs) : SqT K H' a xs := by
  rcases h with h | h
  · exact Or.inl (sub_rd e h)
  · exact Or.inr h
mutual
theorem Rp.mono {K : Frag} {H H' : Hp} (e : Sub H H') : ∀ {v : V} {d : D}, Rp K H v d → Rp K H' v d
  | _, _, .non => .non
  | _, _, .bl b => .bl b
  | _, _, .int i => .int i
  | _, _, .str x => .str x
  | _, _, .lst h r => .lst (sub_l e h) (RpL.mono e r)
  | _, _, .tup h r => .tup (sub_t e h) (RpL.mono e r)
  | _, _, .dct h r => .dct (sub_rd e h) (RpK.mono e r)
  | _, _, .obj h r => .obj (e _ _ h) (RpF.mono e r)
theorem RpL.mono {K : Frag} {H H' : Hp} (e : Sub H H') : ∀ {v : List V} {d : List D}, RpL K H v d → RpL K H' v d
  | _, _, .nil => .nil
  | _, _, .cons h r => .cons (Rp.mono e h) (RpL.mono e r)
theorem RpK.mono {K : Frag} {H H' : Hp} (e : Sub H H') : ∀ {v : List (Key × V)} {d : List (D × D)}, RpK K H v d → RpK K H' v d
  | _, _, .nil => .nil
  | _, _, .cons h r => .cons (Rp.mono e h) (RpK.mono e r)
theorem RpF.mono {K : Frag} {H H' : Hp} (e : Sub H H') : ∀ {v : List (Str × V)} {d : List (D × D)}, RpF K H v d → RpF K H' v d
  | _, _, .nil => .nil
  | _, _, .cons h r => .cons (Rp.mono e h) (RpF.mono e r)
end
theorem RpL.length {K : Frag} {H : Hp} : ∀ {vs : List V} {ds : List D}, RpL K H vs ds → vs.length = ds.length
  | _, _, .nil => rfl
  | _, _, .cons _ r => by rw [List.length_cons, List.length_cons, RpL.length r]
theorem RpL.get {K : Frag} {H : Hp} : ∀ {vs : List V} {ds : List D} {i : Nat} {v : V}, RpL K H vs ds → vs[i]? = some v → ∃ d, ds[i]? = some d ∧ Rp K H v d
  | _, _, _, _, .nil, e => by simp at e
  | _, _, 0, _, .cons h r, e => by
    simp at e
    subst e
    exact ⟨_, rfl, h⟩
  | _, _, i + 1, v, .cons h r, e => by
    obtain ⟨d, h1, h2⟩ := RpL.get (i := i) (v := v) r (by simpa using e)
    exact ⟨d, by simpa using h1, h2⟩
theorem RpL.get' {K : Frag} {H : Hp} : ∀ {vs : List V} {ds : List D} {i : Nat} {d : D}, RpL K H vs ds → ds[i]? = some d → ∃ v, vs[i]? = some v ∧ Rp K H v d
  | _, _, _, _, .nil, e => by simp at e
  | _, _, 0, _, .cons h r, e => by
    simp at e
    subst e
    exact ⟨_, rfl, h⟩
  | _, _, i + 1, v, .cons h r, e => by
    obtain ⟨d, h1, h2⟩ := RpL.get' (i := i) (d := v) r (by simpa using e)
    exact ⟨d, by simpa using h1, h2⟩
theorem RpL.append {K : Frag} {H : Hp} : ∀ {vs us : List V} {ds es : List D}, RpL K H vs ds → RpL K H us es → RpL K H (vs ++ us) (ds ++ es)
  | _, _, _, _, .nil, s => s
  | _, _, _, _, .cons h r, s => .cons h (RpL.append r s)
theorem RpL.set {K : Frag} {H : Hp} {v : V} {d : D} (q : Rp K H v d) : ∀ {vs : List V} {ds : List D} (i : Nat), RpL K H vs ds → RpL K H (vs.set i v) (ds.set i d)
  | _, _, _, .nil => .nil
  | _, _, 0, .cons _ r => .cons q r
  | _, _, i + 1, .cons h r => .cons h (RpL.set q i r)
theorem RpL.take {K : Frag} {H : Hp} : ∀ {vs : List V} {ds : List D} (n : Nat), RpL K H vs ds → RpL K H (vs.take n) (ds.take n)
  | _, _, 0, _ => .nil
  | _, _, _ + 1, .nil => .nil
  | _, _, n + 1, .cons h r => .cons h (RpL.take n r)
theorem RpL.drop {K : Frag} {H : Hp} : ∀ {vs : List V} {ds : List D} (n : Nat), RpL K H vs ds → RpL K H (vs.drop n) (ds.drop n)
  | _, _, 0, r => r
  | _, _, _ + 1, .nil => .nil
  | _, _, n + 1, .cons _ r => RpL.drop n r
theorem RpL.rev {K : Frag} {H : Hp} : ∀ {vs : List V} {ds : List D}, RpL K H vs ds → RpL K H vs.reverse ds.reverse
  | _, _, .nil => .nil
  | _, _, .cons h r => by
    rw [List.reverse_cons, List.reverse_cons]
    exact RpL.append (RpL.rev r) (.cons h .nil)
theorem RpL.ints {K : Frag} {H : Hp} : ∀ ns : List Int, RpL K H (ns.map V.int) (ns.map PyData.int)
  | [] => .nil
  | n :: ns => .cons (.int n) (RpL.ints ns)
theorem RpL.of_ints {K : Frag} {H : Hp} : ∀ {ns : List Int} {vs : List V}, RpL K H vs (ns.map PyData.int) → vs = ns.map V.int
  | [], _, h => by cases h; rfl
  | n :: ns, _, h => by
    cases h with
    | cons a b =>
      cases a
      rw [RpL.of_ints b]
      rfl
theorem RpL.of_bools {K : Frag} {H : Hp} : ∀ {ns : List Bool} {vs : List V}, RpL K H vs (ns.map PyData.bool) → vs = ns.map V.bl
  | [], _, h => by cases h; rfl
  | n :: ns, _, h => by
    cases h with
    | cons a b =>
      cases a
      rw [RpL.of_bools b]
      rfl
theorem RpL.of_strs {K : Frag} {H : Hp} : ∀ {ns : List Str} {vs : List V}, RpL K H vs (ns.map PyData.str) → vs = ns.map V.str
  | [], _, h => by cases h; rfl
  | n :: ns, _, h => by
    cases h with
    | cons a b =>
      cases a
      rw [RpL.of_strs b]
      rfl
theorem RpL.strs {K : Frag} {H : Hp} : ∀ ns : List Str, RpL K H (ns.map V.str) (ns.map PyData.str)
  | [] => .nil
  | n :: ns => .cons (.str n) (RpL.strs ns)
/-- a value that may be read: its own node may be hidden, its parts are not -/
inductive Rs (K : Frag) (B : Addr → Bool) (H : Hp) : V → D → Prop
  | vis {v : V} {d : D} : Rp K (hide B H) v d → Rs K B H v d
  | lst {a : Addr} {xs : List V} {ds : List D} : SqL K H a xs → RpL K (hide B H) xs ds → Rs K B H (.ref a) (.list ds)
  | dct {a : Addr} {kvs : List (Key × V)} {ds : List (D × D)} : Rd H a (.dK kvs) → RpK K (hide B H) kvs ds → Rs K B H (.ref a) (.dict ds)
theorem Rs.rp {K : Frag} {B : Addr → Bool} {H : Hp} {v : V} {d : D} (h : Rs K B H v d) : Rp K H v d := by
  cases h with
  | vis h => exact h.mono (hide_sub B H)
  | lst h r => exact .lst h (r.mono (hide_sub B H))
  | dct h r => exact .dct h (r.mono (hide_sub B H))
theorem Rs.list {K : Frag} {B : Addr → Bool} {H : Hp} {v : V} {ds : List D} (h : Rs K B H v (.list ds)) : ∃ a xs, v = .ref a ∧ SqL K H a xs ∧ RpL K (hide B H) xs ds := by
  cases h with
  | vis h =>
    cases h with
    | lst h r => exact ⟨_, _, rfl, sub_l (hide_sub B H) h, r⟩
  | lst h r => exact ⟨_, _, rfl, h, r⟩
theorem Rs.tuple {K : Frag} {B : Addr → Bool} {H : Hp} {v : V} {ds : List D} (h : Rs K B H v (.tuple ds)) : ∃ a xs, v = .ref a ∧ SqT K H a xs ∧ RpL K (hide B H) xs ds := by
  cases h with
  | vis h =>
    cases h with
    | tup h r => exact ⟨_, _, rfl, sub_t (hide_sub B H) h, r⟩
theorem Rs.int {K : Frag} {B : Addr → Bool} {H : Hp} {v : V} {i : Int} (h : Rs K B H v (.int i)) : v = .int i := by
  cases h with
  | vis h => cases h; rfl
theorem Rs.bool {K : Frag} {B : Addr → Bool} {H : Hp} {v : V} {i : Bool} (h : Rs K B H v (.bool i)) : v = .bl i := by
  cases h with
  | vis h => cases h; rfl
theorem Rs.str {K : Frag} {B : Addr → Bool} {H : Hp} {v : V} {i : Str} (h : Rs K B H v (.str i)) : v = .str i := by
  cases h with
  | vis h => cases h; rfl
theorem Rs.none {K : Frag} {B : Addr → Bool} {H : Hp} {v : V} (h : Rs K B H v .none) : v = .non := by
  cases h with
  | vis h => cases h; rfl
theorem Rp.inti {K : Frag} {H : Hp} {v : V} {i : Int} (h : Rp K H v (.int i)) : v = .int i := by cases h; rfl
theorem Rp.booli {K : Frag} {H : Hp} {v : V} {i : Bool} (h : Rp K H v (.bool i)) : v = .bl i := by cases h; rfl
theorem Rp.stri {K : Frag} {H : Hp} {v : V} {i : Str} (h : Rp K H v (.str i)) : v = .str i := by cases h; rfl
theorem Rp.nonei {K : Frag} {H : Hp} {v : V} (h : Rp K H v .none) : v = .non := by cases h; rfl
/- data without dicts and objects -/
mutual
def plain : D → Bool
  | .dict _ => false
  | .list ds => plains ds
  | .tuple ds => plains ds
  | _ => true
def plains : List D → Bool
  | [] => true
  | d :: ds => plain d && plains ds
end
mutual
theorem Rp.dp {K : Frag} {H : Hp} : ∀ {v : V} {d : D}, Rp K H v d → plain d = true → Dp K H v d
  | _, _, .non, _ => .non
  | _, _, .bl b, _ => .bl b
  | _, _, .int i, _ => .int i
  | _, _, .str x, _ => .str x
  | _, _, .lst h r, p => .lst h (RpL.dp r (by simpa [plain] using p))
  | _, _, .tup h r, p => .tup h (RpL.dp r (by simpa [plain] using p))
  | _, _, .dct h r, p => by simp [plain] at p
  | _, _, .obj h r, p => by simp [plain] at p
theorem RpL.dp {K : Frag} {H : Hp} : ∀ {v : List V} {d : List D}, RpL K H v d → plains d = true → DpAll K H v d
  | _, _, .nil, _ => .nil
  | _, _, .cons (d := d) (ds := ds) h r, p => by
    have q : plain d = true ∧ plains ds = true := by simpa [plains] using p
    exact .cons (Rp.dp h q.1) (RpL.dp r q.2)
end
end Dz

/-! Dz. B: slots, states, judgements. -/
namespace Dz
open PySem L2

/-- what a slot holds: a datum; a list or dict of the def's own; one that the caller lent -/
inductive Sl where
  | val (d : D)
  | own (d : D)
  | bor (d : D)
def Sl.d : Sl → D
  | .val d => d
  | .own d => d
  | .bor d => d
def Sl.mu : Sl → Bool
  | .val _ => false
  | _ => true
/-- another content, the same kind -/
def Sl.wi : Sl → D → Sl
  | .val _, d => .val d
  | .own _, d => .own d
  | .bor _, d => .bor d
abbrev En := List (Option Sl)

def OwnAt (K : Frag) (Hh : Hp) (o : Option HO) : D → Prop
  | .list ds => ∃ vs, o = some (.lst vs) ∧ RpL K Hh vs ds
  | .dict ds => ∃ kvs, o = some (.dK kvs) ∧ RpK K Hh kvs ds
  | _ => False
theorem OwnAt.mono {K : Frag} {H H' : Hp} {o : Option HO} {d : D} (e : Sub H H') (h : OwnAt K H o d) : OwnAt K H' o d := by
  cases d with
  | list ds => obtain ⟨vs, a, b⟩ := h; exact ⟨vs, a, b.mono e⟩
  | dict ds => obtain ⟨vs, a, b⟩ := h; exact ⟨vs, a, b.mono e⟩
  | _ => exact h.elim
theorem OwnAt.ne {K : Frag} {H : Hp} {o : Option HO} {d : D} (h : OwnAt K H o d) : ∃ u, o = some u := by
  cases d with
  | list ds => obtain ⟨vs, a, b⟩ := h; exact ⟨_, a⟩
  | dict ds => obtain ⟨vs, a, b⟩ := h; exact ⟨_, a⟩
  | _ => exact h.elim
theorem OwnAt.rp {K : Frag} {H : Hp} {l : Addr} {d : D} (h : OwnAt K H (H l) d) : Rp K H (.ref l) d := by
  cases d with
  | list ds => obtain ⟨vs, a, b⟩ := h; exact .lst (.inl (.inl a)) b
  | dict ds => obtain ⟨vs, a, b⟩ := h; exact .dct (.inl a) b
  | _ => exact h.elim
theorem OwnAt.rs {K : Frag} {B : Addr → Bool} {H : Hp} {l : Addr} {d : D} (h : OwnAt K (hide B H) (H l) d) : Rs K B H (.ref l) d := by
  cases d with
  | list ds => obtain ⟨vs, a, b⟩ := h; exact .lst (.inl (.inl a)) b
  | dict ds => obtain ⟨vs, a, b⟩ := h; exact .dct (.inl a) b
  | _ => exact h.elim

/-- slots, heap and names' values agree; B hides all that may change -/
structure SR (K : Frag) (B : Addr → Bool) (σ : St) (H : Hp) (ρ : En) : Prop where
  len : σ.length = ρ.length
  val : ∀ (i : Nat) d, ρ[i]? = some (some (.val d)) → ∃ v, σ[i]? = some (some v) ∧ Rp K (hide B H) v d
  mu_ : ∀ (i : Nat) s, ρ[i]? = some (some s) → s.mu = true → ∃ l, σ[i]? = some (some (.ref l)) ∧ B l = true ∧ OwnAt K (hide B H) (H l) s.d
  inj : ∀ (i j : Nat) s t l, ρ[i]? = some (some s) → s.mu = true → ρ[j]? = some (some t) → t.mu = true → σ[i]? = some (some (.ref l)) → σ[j]? = some (some (.ref l)) → i = j
  bk : ∀ a, B a = true → ∃ o, H a = some o
def Mine (σ : St) (ρ : En) (a : Addr) : Prop := ∃ (i : Nat) (s : Sl), ρ[i]? = some (some s) ∧ s.mu = true ∧ σ[i]? = some (some (.ref a))
theorem SR.mine {K : Frag} {B : Addr → Bool} {σ : St} {H : Hp} {ρ : En} {a : Addr} (S : SR K B σ H ρ) (h : Mine σ ρ a) : B a = true := by
  obtain ⟨i, s, h1, h2, h3⟩ := h
  obtain ⟨l, g1, g2, _⟩ := S.mu_ i s h1 h2
  rw [g1] at h3
  cases h3
  exact g2

/-- slots of one kind -/
def Ks : Option (Option Sl) → Option (Option Sl) → Prop
  | none, none => True
  | some none, some none => True
  | some (some (.val d)), some (some (.val e)) => d = e
  | some (some (.own _)), some (some (.own _)) => True
  | some (some (.bor _)), some (some (.bor _)) => True
  | _, _ => False
theorem Ks.refl : ∀ o, Ks o o
  | none => trivial
  | some none => trivial
  | some (some (.val _)) => rfl
  | some (some (.own _)) => trivial
  | some (some (.bor _)) => trivial
theorem Ks.trans : ∀ {a b c}, Ks a b → Ks b c → Ks a c
  | none, none, none, _, _ => trivial
  | some none, some none, some none, _, _ => trivial
  | some (some (.val _)), some (some (.val _)), some (some (.val _)), h, k => Eq.trans h k
  | some (some (.own _)), some (some (.own _)), some (some (.own _)), _, _ => trivial
  | some (some (.bor _)), some (some (.bor _)), some (some (.bor _)), _, _ => trivial
theorem Ks.mu {a : Option (Option Sl)} {s : Sl} (h : Ks (some (some s)) a) : ∃ t, a = some (some t) ∧ t.mu = s.mu := by
  match s, a, h with
  | .val _, some (some (.val e)), _ => exact ⟨_, rfl, rfl⟩
  | .own _, some (some (.own e)), _ => exact ⟨_, rfl, rfl⟩
  | .bor _, some (some (.bor e)), _ => exact ⟨_, rfl, rfl⟩
theorem Ks.mu' {a : Option (Option Sl)} {s : Sl} (h : Ks a (some (some s))) : ∃ t, a = some (some t) ∧ t.mu = s.mu := by
  match s, a, h with
  | .val _, some (some (.val e)), _ => exact ⟨_, rfl, rfl⟩
  | .own _, some (some (.own e)), _ => exact ⟨_, rfl, rfl⟩
  | .bor _, some (some (.bor e)), _ => exact ⟨_, rfl, rfl⟩
theorem Ks.bor {a : Option (Option Sl)} {d : D} (h : Ks (some (some (.bor d))) a) : ∃ e, a = some (some (.bor e)) := by
  match a, h with
  | some (some (.bor e)), _ => exact ⟨_, rfl⟩
def Kin (ρ ρ' : En) : Prop := ∀ i : Nat, Ks ρ[i]? ρ'[i]?
theorem Kin.refl (ρ : En) : Kin ρ ρ := fun i => Ks.refl _
theorem Kin.trans {a b c : En} (h : Kin a b) (k : Kin b c) : Kin a c := fun i => (h i).trans (k i)
theorem Kin.mine {ρ ρ' : En} {σ : St} {a : Addr} (h : Kin ρ ρ') : Mine σ ρ' a ↔ Mine σ ρ a := by
  constructor
  · rintro ⟨i, s, h1, h2, h3⟩
    have q := h i
    rw [h1] at q
    obtain ⟨t, e, m⟩ := q.mu'
    exact ⟨i, t, e, m.trans h2, h3⟩
  · rintro ⟨i, s, h1, h2, h3⟩
    have q := h i
    rw [h1] at q
    obtain ⟨t, e, m⟩ := q.mu
    exact ⟨i, t, e, m.trans h2, h3⟩

/-- behind an expression -/
structure Af (K : Frag) (B : Addr → Bool) (σ : St) (H : Hp) (ρ : En) (H' : Hp) (ρ' : En) : Prop where
  sr : SR K B σ H' ρ'
  keep : ∀ b o, H b = some o → ¬ Mine σ ρ b → H' b = some o
  grow : ∀ b o, H b = some o → ∃ o', H' b = some o'
  kin : Kin ρ ρ'
section
variable {K : Frag} {B B' : Addr → Bool} {σ σ' : St} {H H' H1 H2 : Hp} {ρ ρ' ρ1 ρ2 : En}
theorem Af.refl (S : SR K B σ H ρ) : Af K B σ H ρ H ρ := ⟨S, fun _ _ e _ => e, fun _ o e => ⟨o, e⟩, Kin.refl ρ⟩
theorem Af.trans (a : Af K B σ H ρ H1 ρ1) (b : Af K B σ H1 ρ1 H2 ρ2) : Af K B σ H ρ H2 ρ2 :=
  ⟨b.sr, fun c o e n => b.keep c o (a.keep c o e n) (fun m => n (a.kin.mine.mp m)), fun c o e => by
    obtain ⟨o', e'⟩ := a.grow c o e
    exact b.grow c o' e', a.kin.trans b.kin⟩
theorem Af.sub (S : SR K B σ H ρ) (a : Af K B σ H ρ H' ρ') : Sub (hide B H) (hide B H') := fun b o e => by
  obtain ⟨e1, e2⟩ := hide_some e
  refine hide_of e1 (a.keep b o e2 fun m => ?_)
  rw [S.mine m] at e1
  cases e1
/-- the heap only grew -/
theorem SR.grow (S : SR K B σ H ρ) (e : Sub H H') : SR K B σ H' ρ := by
  have hs : Sub (hide B H) (hide B H') := fun b o q => hide_of (hide_some q).1 (e _ _ (hide_some q).2)
  refine ⟨S.len, fun i d h => ?_, fun i s h m => ?_, S.inj, fun a h => ?_⟩
  · obtain ⟨v, g1, g2⟩ := S.val i d h
    exact ⟨v, g1, g2.mono hs⟩
  · obtain ⟨l, g1, g2, g3⟩ := S.mu_ i s h m
    obtain ⟨u, g4⟩ := g3.ne
    refine ⟨l, g1, g2, ?_⟩
    rw [g4] at g3
    rw [e _ _ g4]
    exact g3.mono hs
  · obtain ⟨o, g⟩ := S.bk a h
    exact ⟨o, e _ _ g⟩
theorem Af.of_sub (S : SR K B σ H ρ) (e : Sub H H') : Af K B σ H ρ H' ρ := ⟨S.grow e, fun b o h _ => e b o h, fun b o h => ⟨o, e b o h⟩, Kin.refl ρ⟩
theorem hsub (e : Sub H H') : Sub (hide B H) (hide B H') := fun b o q => hide_of (hide_some q).1 (e _ _ (hide_some q).2)
theorem SR.fresh (S : SR K B σ H ρ) {a : Addr} (h : H a = none) : B a = false := by
  cases q : B a with
  | false => rfl
  | true =>
    obtain ⟨o, e⟩ := S.bk a q
    rw [h] at e
    cases e
end

/-- behind a statement -/
structure Bf (K : Frag) (B : Addr → Bool) (σ : St) (H : Hp) (ρ : En) (B' : Addr → Bool) (σ' : St) (H' : Hp) (ρ' : En) : Prop where
  sr : SR K B' σ' H' ρ'
  keep : ∀ b o, H b = some o → ¬ Mine σ ρ b → H' b = some o
  grow : ∀ b o, H b = some o → ∃ o', H' b = some o'
  hnew : ∀ b, B' b = true → B b = true ∨ H b = none
  hold : ∀ b, B b = true → ¬ Mine σ ρ b → B' b = true
  mine : ∀ b, Mine σ' ρ' b → Mine σ ρ b ∨ H b = none
  bor : ∀ (i : Nat) d, ρ[i]? = some (some (.bor d)) → (∃ e, ρ'[i]? = some (some (.bor e))) ∧ σ'[i]? = σ[i]?
section
variable {K : Frag} {B B' B1 B2 : Addr → Bool} {σ σ' σ1 σ2 : St} {H H' H1 H2 : Hp} {ρ ρ' ρ1 ρ2 : En}
theorem Bf.refl (S : SR K B σ H ρ) : Bf K B σ H ρ B σ H ρ := ⟨S, fun _ _ e _ => e, fun _ o e => ⟨o, e⟩, fun _ h => .inl h, fun _ h _ => h, fun _ h => .inl h, fun _ d h => ⟨⟨d, h⟩, rfl⟩⟩
theorem Af.bf (a : Af K B σ H ρ H' ρ') : Bf K B σ H ρ B σ H' ρ' :=
  ⟨a.sr, a.keep, a.grow, fun _ h => .inl h, fun _ h _ => h, fun _ h => .inl (a.kin.mine.mp h), fun i d h => by
    have q := a.kin i
    rw [h] at q
    exact ⟨q.bor, rfl⟩⟩
theorem Bf.trans (S : SR K B σ H ρ) (a : Bf K B σ H ρ B1 σ1 H1 ρ1) (b : Bf K B1 σ1 H1 ρ1 B2 σ2 H2 ρ2) : Bf K B σ H ρ B2 σ2 H2 ρ2 := by
  have nm : ∀ c, (∃ o, H c = some o) → ¬ Mine σ ρ c → ¬ Mine σ1 ρ1 c := fun c ⟨o, e⟩ n m => by
    rcases a.mine c m with z | z
    · exact n z
    · rw [e] at z; cases z
  refine ⟨b.sr, fun c o e n => b.keep c o (a.keep c o e n) (nm c ⟨o, e⟩ n), fun c o e => ?_, fun c h => ?_, fun c h n => b.hold c (a.hold c h n) (nm c (S.bk c h) n), fun c h => ?_, fun i d h => ?_⟩
  · obtain ⟨o', e'⟩ := a.grow c o e
    exact b.grow c o' e'
  · rcases b.hnew c h with z | z
    · exact a.hnew c z
    · refine .inr ?_
      cases q : H c with
      | none => rfl
      | some o =>
        obtain ⟨o', e'⟩ := a.grow c o q
        rw [z] at e'; cases e'
  · rcases b.mine c h with z | z
    · exact a.mine c z
    · refine .inr ?_
      cases q : H c with
      | none => rfl
      | some o =>
        obtain ⟨o', e'⟩ := a.grow c o q
        rw [z] at e'; cases e'
  · obtain ⟨⟨e, h1⟩, g1⟩ := a.bor i d h
    obtain ⟨h2, g2⟩ := b.bor i e h1
    exact ⟨h2, g2.trans g1⟩
theorem Bf.sub (S : SR K B σ H ρ) (a : Bf K B σ H ρ B' σ' H' ρ') : Sub (hide B H) (hide B' H') := fun b o e => by
  obtain ⟨e1, e2⟩ := hide_some e
  refine hide_of ?_ (a.keep b o e2 fun m => ?_)
  · cases q : B' b with
    | false => rfl
    | true =>
      rcases a.hnew b q with z | z
      · rw [e1] at z; cases z
      · rw [e2] at z; cases z
  · rw [S.mine m] at e1
    cases e1
end

/-! ### the judgements -/
structure C0 where
  P : Program
  w : World
  K : Frag
  mg : Str → Option Value
  base : Heap
  k : Nat
  top : Bool
/-- the contexts of a block of a def: its names, its scope -/
structure In (c : C0) (N : List Str) (sc : Scope) (X : Cx) : Prop where
  P : X.prog = c.P
  w : X.w = c.w
  K : X.K = c.K
  mg : X.mg = c.mg
  base : X.base = c.base
  rm : Room c.k X.A
  N : X.N = N
  sc : X.env.scope = sc
  calm : X.calm = true
  fn : c.top = true → X.fn = fun _ => true
  po : PassesOwn (model X.prog X.w) X.A X.env X.xe
section
variable {c : C0} {N : List Str} {sc : Scope} {X : Cx}
theorem In.gl {x : Str} (I : In c N sc X) (h : sc.names.lookup x = some .globalImplicit) : Gl X x := by
  show X.env.scope.names.lookup x = _
  rw [I.sc]
  exact h
theorem In.vis {x : Str} (I : In c N sc X) (h : Vis sc x) : Vis X.env.scope x := by
  rw [I.sc]
  exact h
end

/-- the reading of an expression computes m: an escaping datum | an operand | a new list or dict -/
def Sd (K : Frag) (t : TE) (m : En → Option (D × En)) : Prop :=
  ∀ σ H ρ B d ρ', SR K B σ H ρ → m ρ = some (d, ρ') → ∀ Q : VK, (∀ v H', Af K B σ H ρ H' ρ' → Rp K (hide B H') v d → Q v H') → t σ H Q
def So (K : Frag) (t : TE) (m : En → Option (D × En)) : Prop :=
  ∀ σ H ρ B d ρ', SR K B σ H ρ → m ρ = some (d, ρ') → ∀ Q : VK, (∀ v H', Af K B σ H ρ H' ρ' → Rs K B H' v d → Q v H') → t σ H Q
def ins (l : Addr) (B : Addr → Bool) : Addr → Bool := fun a => decide (a = l) || B a
def Sf (K : Frag) (t : TE) (m : En → Option (D × En)) : Prop :=
  ∀ σ H ρ B d ρ', SR K B σ H ρ → m ρ = some (d, ρ') → ∀ Q : VK, (∀ l H', Af K B σ H ρ H' ρ' → SR K (ins l B) σ H' ρ' → H l = none → OwnAt K (hide (ins l B) H') (H' l) d → Q (.ref l) H') → t σ H Q
def Stt (K : Frag) (t : TT) (m : En → Option (Bool × En)) : Prop :=
  ∀ σ H ρ B d ρ', SR K B σ H ρ → m ρ = some (d, ρ') → ∀ Q : Bool → Hp → Prop, (∀ H', Af K B σ H ρ H' ρ' → Q d H') → t σ H Q

def JE (c : C0) (N : List Str) (sc : Scope) (e : Expr) (m : En → Option (D × En)) : Prop := ∃ t, (∀ X, In c N sc X → PE X e t) ∧ Sd c.K t m
def JA (c : C0) (N : List Str) (sc : Scope) (e : Expr) (m : En → Option (D × En)) : Prop := ∃ t, (∀ X, In c N sc X → PE X e t) ∧ So c.K t m
def JF (c : C0) (N : List Str) (sc : Scope) (e : Expr) (m : En → Option (D × En)) : Prop := ∃ t, (∀ X, In c N sc X → PE X e t) ∧ Sf c.K t m
def JT (c : C0) (N : List Str) (sc : Scope) (e : Expr) (m : En → Option (Bool × En)) : Prop := ∃ t, (∀ X, In c N sc X → PT X e t) ∧ Stt c.K t m

theorem ins_sub {l : Addr} {B : Addr → Bool} {H : Hp} : Sub (hide (ins l B) H) (hide B H) := fun a o e => by
  obtain ⟨e1, e2⟩ := hide_some e
  refine hide_of ?_ e2
  unfold ins at e1
  simp at e1
  exact e1.2
theorem sub_ins {l : Addr} {B : Addr → Bool} {H H' : Hp} (h : H l = none) (e : Sub (hide B H) (hide B H')) : Sub (hide B H) (hide (ins l B) H') := fun a o q => by
  obtain ⟨e1, e2⟩ := hide_some q
  refine hide_of ?_ (hide_some (e _ _ q)).2
  unfold ins
  simp
  refine ⟨fun z => ?_, e1⟩
  rw [z, h] at e2
  cases e2
theorem SR.ins {K : Frag} {B : Addr → Bool} {σ : St} {H H' : Hp} {ρ : En} {l : Addr} (S : SR K B σ H ρ) (h : H l = none) (e : Sub H H') (h' : ∃ o, H' l = some o) : SR K (ins l B) σ H' ρ := by
  have hs : Sub (hide B H) (hide (Dz.ins l B) H') := sub_ins h (hsub e)
  refine ⟨S.len, fun i d h => ?_, fun i s h m => ?_, S.inj, fun a q => ?_⟩
  · obtain ⟨v, g1, g2⟩ := S.val i d h
    exact ⟨v, g1, g2.mono hs⟩
  · obtain ⟨k, g1, g2, g3⟩ := S.mu_ i s h m
    obtain ⟨u, g4⟩ := g3.ne
    refine ⟨k, g1, by unfold Dz.ins; simp [g2], ?_⟩
    rw [g4] at g3
    rw [e _ _ g4]
    exact g3.mono hs
  · unfold Dz.ins at q
    simp at q
    rcases q with q | q
    · rw [q]; exact h'
    · obtain ⟨o, g⟩ := S.bk a q
      exact ⟨o, e _ _ g⟩
section
variable {c : C0} {N : List Str} {sc : Scope} {e : Expr} {m : En → Option (D × En)} {K : Frag} {t : TE}
theorem Sf.d (h : Sf K t m) : Sd K t m := fun σ H ρ B d ρ' S e Q q => h σ H ρ B d ρ' S e Q fun l H' A _ hl ho => by
  refine q _ _ A ?_
  have bl : B l = false := S.fresh hl
  have h1 : OwnAt K (hide B H') (H' l) d := ho.mono ins_sub
  obtain ⟨u, g⟩ := h1.ne
  refine OwnAt.rp ?_
  rw [hide_of bl g]
  rw [g] at h1
  exact h1
theorem Sd.o (h : Sd K t m) : So K t m := fun σ H ρ B d ρ' S e Q q => h σ H ρ B d ρ' S e Q fun v H' A r => q v H' A (.vis r)
theorem JF.je (h : JF c N sc e m) : JE c N sc e m := let ⟨t, h1, h2⟩ := h; ⟨t, h1, h2.d⟩
theorem JE.ja (h : JE c N sc e m) : JA c N sc e m := let ⟨t, h1, h2⟩ := h; ⟨t, h1, h2.o⟩
theorem JF.ja (h : JF c N sc e m) : JA c N sc e m := h.je.ja
end

/-! ### names and constants -/
def kC (d : D) : En → Option (D × En) := fun ρ => some (d, ρ)
def kV (i : Nat) : En → Option (D × En) := fun ρ => match ρ[i]? with
  | some (some (.val d)) => some (d, ρ)
  | _ => none
/-- a list or dict of the def's own, or lent, read where it stands -/
def kO (i : Nat) : En → Option (D × En) := fun ρ => match ρ[i]? with
  | some (some s) => some (s.d, ρ)
  | _ => none
section
variable {c : C0} {N : List Str} {sc : Scope} {K : Frag}
theorem sd_c {v : V} {d : D} (h : ∀ H, Rp K H v d) : Sd K (tC v) (kC d) := fun σ H ρ B d' ρ' S e Q q => by
  cases e
  exact q v H (Af.refl S) (h _)
theorem ce_int {i j pos} : JE c N sc (.Constant (.int i) j pos) (kC (.int i)) := ⟨_, fun _ _ => pe_int, sd_c fun _ => .int i⟩
theorem ce_bl {i j pos} : JE c N sc (.Constant (.bool i) j pos) (kC (.bool i)) := ⟨_, fun _ _ => pe_bl, sd_c fun _ => .bl i⟩
theorem ce_non {j pos} : JE c N sc (.Constant .none j pos) (kC .none) := ⟨_, fun _ _ => pe_non, sd_c fun _ => .non⟩
theorem ce_str {i j pos} : JE c N sc (.Constant (.str i) j pos) (kC (.str i)) := ⟨_, fun _ _ => pe_str, sd_c fun _ => .str i⟩
theorem ce_var {i : Nat} {x : Str} {pos : Pos} (hN : N[i]? = some x) (hv : Vis sc x) (hd : (x == ("__debug__" : Str)) = false := by decide) (hcd : (x == ("__classdict__" : Str)) = false := by decide) : JE c N sc (.Name x pos) (kV i) := by
  refine ⟨tVar i, fun X I => pe_var (by rw [I.N]; exact hN) (I.vis hv) hd hcd, fun σ H ρ B d ρ' S e Q q => ?_⟩
  unfold kV at e
  split at e
  · rename_i d' h
    cases e
    obtain ⟨v, h1, h2⟩ := S.val i _ h
    exact ⟨v, h1, q v H (Af.refl S) h2⟩
  · cases e
theorem ca_var {i : Nat} {x : Str} {pos : Pos} (hN : N[i]? = some x) (hv : Vis sc x) (hd : (x == ("__debug__" : Str)) = false := by decide) (hcd : (x == ("__classdict__" : Str)) = false := by decide) : JA c N sc (.Name x pos) (kO i) := by
  refine ⟨tVar i, fun X I => pe_var (by rw [I.N]; exact hN) (I.vis hv) hd hcd, fun σ H ρ B d ρ' S e Q q => ?_⟩
  unfold kO at e
  split at e
  · rename_i s h
    cases e
    cases hm : s.mu with
    | false =>
      cases s with
      | val d =>
        obtain ⟨v, h1, h2⟩ := S.val i _ h
        exact ⟨v, h1, q v H (Af.refl S) (.vis h2)⟩
      | own d => cases hm
      | bor d => cases hm
    | true =>
      obtain ⟨l, h1, h2, h3⟩ := S.mu_ i _ h hm
      exact ⟨.ref l, h1, q _ H (Af.refl S) h3.rs⟩
  · cases e
/-- a name of the module: a constant -/
theorem ce_glob {x : Str} {v : V} {u : Value} {d : D} {pos : Pos} (hg : sc.names.lookup x = some .globalImplicit) (hm : c.mg x = some u) (r : RelV v u) (h : ∀ H, Rp c.K H v d) (hd : (x == ("__debug__" : Str)) = false := by decide) : JE c N sc (.Name x pos) (kC d) :=
  ⟨_, fun X I => pe_glob (I.gl hg) (by rw [I.mg]; exact hm) r hd, sd_c h⟩
end

/-! ### operators -/
/-- a two-place operation, by data -/
structure OpD (K : Frag) (XS : Cx → Prop) (f : Value → Value → Sem Value) (g : D → D → Option D) : Prop where
  ex : ∃ r : R2, (∀ X, XS X → OpR X f r) ∧ ∀ (B : Addr → Bool) (H : Hp) (x y : V) (d e z : D), (∀ a, B a = true → ∃ o, H a = some o) → Rs K B H x d → Rs K B H y e → g d e = some z →
    ∀ Q : VK, (∀ v H', Sub H H' → Rp K (hide B H') v z → Q v H') → r x y H Q
/-- .. that gives a new list -/
structure OpF (K : Frag) (XS : Cx → Prop) (f : Value → Value → Sem Value) (g : D → D → Option D) : Prop where
  ex : ∃ r : R2, (∀ X, XS X → OpR X f r) ∧ ∀ (B : Addr → Bool) (H : Hp) (x y : V) (d e z : D), (∀ a, B a = true → ∃ o, H a = some o) → Rs K B H x d → Rs K B H y e → g d e = some z →
    ∀ Q : VK, (∀ l H', Sub H H' → H l = none → OwnAt K (hide (ins l B) H') (H' l) z → Q (.ref l) H') → r x y H Q
def bop (g : D → D → Option D) (ma mb : En → Option (D × En)) : En → Option (D × En) := fun ρ =>
  (ma ρ).bind fun p => (mb p.2).bind fun q => (g p.1 q.1).map fun z => (z, q.2)
/-- the first operand a name of the def's own list: read behind the second -/
def bopO (g : D → D → Option D) (i : Nat) (mb : En → Option (D × En)) : En → Option (D × En) := fun ρ =>
  (kO i ρ).bind fun _ => (mb ρ).bind fun q => (kO i q.2).bind fun p => (g p.1 q.1).map fun z => (z, q.2)
section
variable {K : Frag} {XS : Cx → Prop} {r : R2} {ta tb : TE} {ma mb : En → Option (D × En)} {g : D → D → Option D} {i : Nat}
theorem sd_bop (ha : Sd K ta ma) (hb : So K tb mb) (hr : ∀ (B : Addr → Bool) (H : Hp) (x y : V) (d e z : D), (∀ a, B a = true → ∃ o, H a = some o) → Rs K B H x d → Rs K B H y e → g d e = some z →
    ∀ Q : VK, (∀ v H', Sub H H' → Rp K (hide B H') v z → Q v H') → r x y H Q) : Sd K (tOp r ta tb) (bop g ma mb) := fun σ H ρ B d ρ' S e Q q => by
  unfold bop at e
  cases h1 : ma ρ with
  | none => rw [h1] at e; cases e
  | some p =>
    obtain ⟨d1, ρ1⟩ := p
    rw [h1] at e
    cases h2 : mb ρ1 with
    | none => simp [h2] at e
    | some p2 =>
      obtain ⟨d2, ρ2⟩ := p2
      cases h3 : g d1 d2 with
      | none => simp [h2, h3] at e
      | some z =>
        simp [h2, h3] at e
        obtain ⟨rfl, rfl⟩ := e
        refine ha σ H ρ B _ _ S h1 _ fun x H1 A1 r1 => ?_
        refine hb σ H1 ρ1 B _ _ A1.sr h2 _ fun y H2 A2 r2 => ?_
        refine hr B H2 x y _ _ _ A2.sr.bk (.vis (r1.mono (A2.sub A1.sr))) r2 h3 _ fun v H3 s3 r3 => ?_
        exact q v H3 ((A1.trans A2).trans (Af.of_sub A2.sr s3)) r3
theorem sf_bop (ha : Sd K ta ma) (hb : So K tb mb) (hr : ∀ (B : Addr → Bool) (H : Hp) (x y : V) (d e z : D), (∀ a, B a = true → ∃ o, H a = some o) → Rs K B H x d → Rs K B H y e → g d e = some z →
    ∀ Q : VK, (∀ l H', Sub H H' → H l = none → OwnAt K (hide (ins l B) H') (H' l) z → Q (.ref l) H') → r x y H Q) : Sf K (tOp r ta tb) (bop g ma mb) := fun σ H ρ B d ρ' S e Q q => by
  unfold bop at e
  cases h1 : ma ρ with
  | none => rw [h1] at e; cases e
  | some p =>
    obtain ⟨d1, ρ1⟩ := p
    rw [h1] at e
    cases h2 : mb ρ1 with
    | none => simp [h2] at e
    | some p2 =>
      obtain ⟨d2, ρ2⟩ := p2
      cases h3 : g d1 d2 with
      | none => simp [h2, h3] at e
      | some z =>
        simp [h2, h3] at e
        obtain ⟨rfl, rfl⟩ := e
        refine ha σ H ρ B _ _ S h1 _ fun x H1 A1 r1 => ?_
        refine hb σ H1 ρ1 B _ _ A1.sr h2 _ fun y H2 A2 r2 => ?_
        refine hr B H2 x y _ _ _ A2.sr.bk (.vis (r1.mono (A2.sub A1.sr))) r2 h3 _ fun l H3 s3 hl r3 => ?_
        refine q l H3 ((A1.trans A2).trans (Af.of_sub A2.sr s3)) (A2.sr.ins hl s3 r3.ne) ?_ r3
        cases z0 : H l with
        | none => rfl
        | some o =>
          obtain ⟨o1, z1⟩ := (A1.trans A2).grow l o z0
          rw [hl] at z1
          cases z1
theorem kO_some {i : Nat} {ρ ρ' : En} {d : D} (h : kO i ρ = some (d, ρ')) : ∃ s, ρ[i]? = some (some s) ∧ s.d = d ∧ ρ' = ρ := by
  unfold kO at h
  split at h
  · rename_i s e
    cases h
    exact ⟨s, e, rfl, rfl⟩
  · cases h
theorem SR.read {B : Addr → Bool} {σ : St} {H : Hp} {ρ : En} {s : Sl} (S : SR K B σ H ρ) (h : ρ[i]? = some (some s)) : ∃ v, σ[i]? = some (some v) ∧ Rs K B H v s.d := by
  cases hm : s.mu with
  | false =>
    cases s with
    | val d =>
      obtain ⟨v, h1, h2⟩ := S.val i _ h
      exact ⟨v, h1, .vis h2⟩
    | own d => cases hm
    | bor d => cases hm
  | true =>
    obtain ⟨l, h1, h2, h3⟩ := S.mu_ i _ h hm
    exact ⟨.ref l, h1, h3.rs⟩
/-- a slot that holds something behind held something before -/
theorem Af.slot {B : Addr → Bool} {σ : St} {H H' : Hp} {ρ ρ' : En} {s : Sl} (S : SR K B σ H ρ) (A : Af K B σ H ρ H' ρ') (h : ρ'[i]? = some (some s)) : ∃ v, σ[i]? = some (some v) ∧ Rs K B H' v s.d := A.sr.read h
theorem sd_bopO (hb : So K tb mb) (hr : ∀ (B : Addr → Bool) (H : Hp) (x y : V) (d e z : D), (∀ a, B a = true → ∃ o, H a = some o) → Rs K B H x d → Rs K B H y e → g d e = some z →
    ∀ Q : VK, (∀ v H', Sub H H' → Rp K (hide B H') v z → Q v H') → r x y H Q) : Sd K (tOp r (tVar i) tb) (bopO g i mb) := fun σ H ρ B d ρ' S e Q q => by
  unfold bopO at e
  cases h0 : kO i ρ with
  | none => simp [h0] at e
  | some p0 =>
  cases h2 : mb ρ with
  | none => simp [h0, h2] at e
  | some p2 =>
    obtain ⟨d2, ρ2⟩ := p2
    cases h1 : kO i ρ2 with
    | none => simp [h0, h2, h1] at e
    | some p1 =>
      obtain ⟨d1, ρ1⟩ := p1
      obtain ⟨s, g1, g2, g3⟩ := kO_some h1
      cases h3 : g d1 d2 with
      | none => simp [h0, h2, h1, h3] at e
      | some z =>
        simp [h0, h2, h1, h3] at e
        obtain ⟨rfl, rfl⟩ := e
        obtain ⟨d0, ρ0⟩ := p0
        obtain ⟨s0, u1, u2, u3⟩ := kO_some h0
        obtain ⟨v, e1, _⟩ := S.read u1
        refine ⟨v, e1, ?_⟩
        refine hb σ H ρ B _ _ S h2 _ fun y H2 A2 r2 => ?_
        obtain ⟨v', e2, r1⟩ := A2.sr.read g1
        rw [e1] at e2
        cases e2
        rw [g2] at r1
        refine hr B H2 v y _ _ _ A2.sr.bk r1 r2 h3 _ fun w H3 s3 r3 => ?_
        exact q w H3 (A2.trans (Af.of_sub A2.sr s3)) r3
theorem sf_bopO (hb : So K tb mb) (hr : ∀ (B : Addr → Bool) (H : Hp) (x y : V) (d e z : D), (∀ a, B a = true → ∃ o, H a = some o) → Rs K B H x d → Rs K B H y e → g d e = some z →
    ∀ Q : VK, (∀ l H', Sub H H' → H l = none → OwnAt K (hide (ins l B) H') (H' l) z → Q (.ref l) H') → r x y H Q) : Sf K (tOp r (tVar i) tb) (bopO g i mb) := fun σ H ρ B d ρ' S e Q q => by
  unfold bopO at e
  cases h0 : kO i ρ with
  | none => simp [h0] at e
  | some p0 =>
  cases h2 : mb ρ with
  | none => simp [h0, h2] at e
  | some p2 =>
    obtain ⟨d2, ρ2⟩ := p2
    cases h1 : kO i ρ2 with
    | none => simp [h0, h2, h1] at e
    | some p1 =>
      obtain ⟨d1, ρ1⟩ := p1
      obtain ⟨s, g1, g2, g3⟩ := kO_some h1
      cases h3 : g d1 d2 with
      | none => simp [h0, h2, h1, h3] at e
      | some z =>
        simp [h0, h2, h1, h3] at e
        obtain ⟨rfl, rfl⟩ := e
        obtain ⟨d0, ρ0⟩ := p0
        obtain ⟨s0, u1, u2, u3⟩ := kO_some h0
        obtain ⟨v, e1, _⟩ := S.read u1
        refine ⟨v, e1, ?_⟩
        refine hb σ H ρ B _ _ S h2 _ fun y H2 A2 r2 => ?_
        obtain ⟨v', e2, r1⟩ := A2.sr.read g1
        rw [e1] at e2
        cases e2
        rw [g2] at r1
        refine hr B H2 v y _ _ _ A2.sr.bk r1 r2 h3 _ fun l H3 s3 hl r3 => ?_
        refine q l H3 (A2.trans (Af.of_sub A2.sr s3)) (A2.sr.ins hl s3 r3.ne) ?_ r3
        cases z0 : H l with
        | none => rfl
        | some o =>
          obtain ⟨o1, z1⟩ := A2.grow l o z0
          rw [hl] at z1
          cases z1
end
section
variable {c : C0} {N : List Str} {sc : Scope} {a b : Expr} {ma mb : En → Option (D × En)} {g : D → D → Option D} {i : Nat} {pos p1 : Pos} {x : Str}
theorem ce_op {op : Operator} (ho : OpD c.K (In c N sc) (binaryOp op) g) (ha : JE c N sc a ma) (hb : JA c N sc b mb) : JE c N sc (.BinOp a op b pos) (bop g ma mb) := by
  obtain ⟨r, h1, h2⟩ := ho.ex
  obtain ⟨ta, p1, s1⟩ := ha
  obtain ⟨tb, p2, s2⟩ := hb
  exact ⟨_, fun X I => pe_op (h1 X I) (p1 X I) (p2 X I), sd_bop s1 s2 h2⟩
theorem ce_opO {op : Operator} (ho : OpD c.K (In c N sc) (binaryOp op) g) (hN : N[i]? = some x) (hv : Vis sc x) (hb : JA c N sc b mb) (hd : (x == ("__debug__" : Str)) = false := by decide) (hcd : (x == ("__classdict__" : Str)) = false := by decide) : JE c N sc (.BinOp (.Name x p1) op b pos) (bopO g i mb) := by
  obtain ⟨r, h1, h2⟩ := ho.ex
  obtain ⟨tb, p2, s2⟩ := hb
  exact ⟨_, fun X I => pe_op (h1 X I) (pe_var (by rw [I.N]; exact hN) (I.vis hv) hd hcd) (p2 X I), sd_bopO s2 h2⟩
theorem cf_op {op : Operator} (ho : OpF c.K (In c N sc) (binaryOp op) g) (ha : JE c N sc a ma) (hb : JA c N sc b mb) : JF c N sc (.BinOp a op b pos) (bop g ma mb) := by
  obtain ⟨r, h1, h2⟩ := ho.ex
  obtain ⟨ta, p1, s1⟩ := ha
  obtain ⟨tb, p2, s2⟩ := hb
  exact ⟨_, fun X I => pe_op (h1 X I) (p1 X I) (p2 X I), sf_bop s1 s2 h2⟩
theorem cf_opO {op : Operator} (ho : OpF c.K (In c N sc) (binaryOp op) g) (hN : N[i]? = some x) (hv : Vis sc x) (hb : JA c N sc b mb) (hd : (x == ("__debug__" : Str)) = false := by decide) (hcd : (x == ("__classdict__" : Str)) = false := by decide) : JF c N sc (.BinOp (.Name x p1) op b pos) (bopO g i mb) := by
  obtain ⟨r, h1, h2⟩ := ho.ex
  obtain ⟨tb, p2, s2⟩ := hb
  exact ⟨_, fun X I => pe_op (h1 X I) (pe_var (by rw [I.N]; exact hN) (I.vis hv) hd hcd) (p2 X I), sf_bopO s2 h2⟩
theorem ce_cmp {op : CmpOp} (ho : OpD c.K (In c N sc) (compareOp op) g) (ha : JE c N sc a ma) (hb : JA c N sc b mb) (hm : behindInMarks op b = false := by rfl) : JE c N sc (.Compare a [op] [b] pos) (bop g ma mb) := by
  obtain ⟨r, h1, h2⟩ := ho.ex
  obtain ⟨ta, p1, s1⟩ := ha
  obtain ⟨tb, p2, s2⟩ := hb
  exact ⟨_, fun X I => pe_cmpR (h1 X I) (p1 X I) (p2 X I) hm, sd_bop s1 s2 h2⟩
theorem ce_cmpO {op : CmpOp} (ho : OpD c.K (In c N sc) (compareOp op) g) (hN : N[i]? = some x) (hv : Vis sc x) (hb : JA c N sc b mb) (hm : behindInMarks op b = false := by rfl) (hd : (x == ("__debug__" : Str)) = false := by decide) (hcd : (x == ("__classdict__" : Str)) = false := by decide) : JE c N sc (.Compare (.Name x p1) [op] [b] pos) (bopO g i mb) := by
  obtain ⟨r, h1, h2⟩ := ho.ex
  obtain ⟨tb, p2, s2⟩ := hb
  exact ⟨_, fun X I => pe_cmpR (h1 X I) (pe_var (by rw [I.N]; exact hN) (I.vis hv) hd hcd) (p2 X I) hm, sd_bopO s2 h2⟩
end
end Dz

/-! Dz. C: tests, displays, calls. -/
namespace Dz
open PySem L2

def tstK (m : En → Option (D × En)) : En → Option (Bool × En) := fun ρ => match m ρ with
  | some (.bool b, ρ') => some (b, ρ')
  | _ => none
theorem tstK_some {m : En → Option (D × En)} {ρ ρ' : En} {b : Bool} (h : tstK m ρ = some (b, ρ')) : m ρ = some (.bool b, ρ') := by
  unfold tstK at h
  split at h
  · rename_i e
    cases h
    exact e
  · cases h
def valK (m : En → Option (Bool × En)) : En → Option (D × En) := fun ρ => (m ρ).map fun p => (.bool p.1, p.2)
def andK (ma mb : En → Option (Bool × En)) : En → Option (Bool × En) := fun ρ => (ma ρ).bind fun p => if p.1 = true then mb p.2 else some (false, p.2)
def orK (ma mb : En → Option (Bool × En)) : En → Option (Bool × En) := fun ρ => (ma ρ).bind fun p => if p.1 = true then some (true, p.2) else mb p.2
def notK (ma : En → Option (Bool × En)) : En → Option (Bool × En) := fun ρ => (ma ρ).map fun p => (!p.1, p.2)
/-- and, or as values: all but the last bools -/
def andV (ma : En → Option (Bool × En)) (mb : En → Option (D × En)) : En → Option (D × En) := fun ρ => (ma ρ).bind fun p => if p.1 = true then mb p.2 else some (.bool false, p.2)
def orV (ma : En → Option (Bool × En)) (mb : En → Option (D × En)) : En → Option (D × En) := fun ρ => (ma ρ).bind fun p => if p.1 = true then some (.bool true, p.2) else mb p.2
/-- a < b < c -/
def chainK (g g' : D → D → Option D) (ma mb md : En → Option (D × En)) : En → Option (D × En) := fun ρ =>
  (ma ρ).bind fun p => (mb p.2).bind fun q => (g p.1 q.1).bind fun z => match z with
    | .bool true => (md q.2).bind fun r => (g' q.1 r.1).map fun z => (z, r.2)
    | .bool false => some (.bool false, q.2)
    | _ => none
def ifK (mt : En → Option (Bool × En)) (ma mb : En → Option (D × En)) : En → Option (D × En) := fun ρ => (mt ρ).bind fun p => if p.1 = true then ma p.2 else mb p.2
def JW (c : C0) (N : List Str) (sc : Scope) (e : Expr) (m : En → Option (Bool × En)) : Prop := ∃ t, (∀ X, In c N sc X → PW X e t) ∧ Stt c.K t m
section
variable {c : C0} {N : List Str} {sc : Scope} {e a b d : Expr} {ma mb md : En → Option (D × En)} {ta tb : En → Option (Bool × En)} {g g' : D → D → Option D} {i : Nat} {pos p1 : Pos} {x : Str} {rest : List Expr} {K : Frag}
theorem st_tst {te : TE} (h : Sd K te ma) : Stt K (tB te) (tstK ma) := fun σ H ρ B k ρ' S e Q q => h σ H ρ B _ ρ' S (tstK_some e) _ fun v H' A r => ⟨k, r.booli, q H' A⟩
theorem st_tst2 {te : TE} (h : Sd K te ma) : Stt K (tTest te) (tstK ma) := fun σ H ρ B k ρ' S e Q q => h σ H ρ B _ ρ' S (tstK_some e) _ fun v H' A r => ⟨k, r.booli, q H' A⟩
theorem jt_val (h : JE c N sc e ma) (he : ∀ (env : PySem.Env) (whole : Sem Value), isTrue e env whole = (do let v ← whole; standAt e.pos; holding [v] (truthy v)) := by intros; rfl) : JT c N sc e (tstK ma) := by
  obtain ⟨t, h1, h2⟩ := h
  exact ⟨_, fun X I => pt_val (h1 X I) (fun w => he _ w), st_tst h2⟩
theorem jt_cmp {op : CmpOp} (ho : OpD c.K (In c N sc) (compareOp op) g) (ha : JE c N sc a ma) (hb : JA c N sc b mb) (hm : behindInMarks op b = false := by rfl) : JT c N sc (.Compare a [op] [b] pos) (tstK (bop g ma mb)) := by
  obtain ⟨r, h1, h2⟩ := ho.ex
  obtain ⟨ta, p1, s1⟩ := ha
  obtain ⟨tb, p2, s2⟩ := hb
  exact ⟨_, fun X I => pt_cmpR (h1 X I) (p1 X I) (p2 X I) hm, st_tst2 (sd_bop s1 s2 h2)⟩
theorem jt_cmpO {op : CmpOp} (ho : OpD c.K (In c N sc) (compareOp op) g) (hN : N[i]? = some x) (hv : Vis sc x) (hb : JA c N sc b mb) (hm : behindInMarks op b = false := by rfl) (hd : (x == ("__debug__" : Str)) = false := by decide) (hcd : (x == ("__classdict__" : Str)) = false := by decide) : JT c N sc (.Compare (.Name x p1) [op] [b] pos) (tstK (bopO g i mb)) := by
  obtain ⟨r, h1, h2⟩ := ho.ex
  obtain ⟨tb, p2, s2⟩ := hb
  exact ⟨_, fun X I => pt_cmpR (h1 X I) (pe_var (by rw [I.N]; exact hN) (I.vis hv) hd hcd) (p2 X I) hm, st_tst2 (sd_bopO s2 h2)⟩
theorem st_and {t u : TT} (h1 : Stt K t ta) (h2 : Stt K u tb) : Stt K (tAnd t u) (andK ta tb) := fun σ H ρ B k ρ' S e Q q => by
  unfold andK at e
  cases q1 : ta ρ with
  | none => simp [q1] at e
  | some p =>
    obtain ⟨b, ρ1⟩ := p
    simp only [q1, Option.bind_some] at e
    refine h1 σ H ρ B b ρ1 S q1 _ fun H1 A1 => ?_
    cases b with
    | true => exact h2 σ H1 ρ1 B k ρ' A1.sr (by simpa using e) Q fun H2 A2 => q H2 (A1.trans A2)
    | false =>
      simp at e
      obtain ⟨rfl, rfl⟩ := e
      exact q H1 A1
theorem st_or {t u : TT} (h1 : Stt K t ta) (h2 : Stt K u tb) : Stt K (tOr t u) (orK ta tb) := fun σ H ρ B k ρ' S e Q q => by
  unfold orK at e
  cases q1 : ta ρ with
  | none => simp [q1] at e
  | some p =>
    obtain ⟨b, ρ1⟩ := p
    simp only [q1, Option.bind_some] at e
    refine h1 σ H ρ B b ρ1 S q1 _ fun H1 A1 => ?_
    cases b with
    | false => exact h2 σ H1 ρ1 B k ρ' A1.sr (by simpa using e) Q fun H2 A2 => q H2 (A1.trans A2)
    | true =>
      simp at e
      obtain ⟨rfl, rfl⟩ := e
      exact q H1 A1
theorem st_not {t : TT} (h1 : Stt K t ta) : Stt K (tNot t) (notK ta) := fun σ H ρ B k ρ' S e Q q => by
  unfold notK at e
  cases q1 : ta ρ with
  | none => simp [q1] at e
  | some p =>
    obtain ⟨b, ρ1⟩ := p
    simp only [q1, Option.map_some] at e
    cases e
    exact h1 σ H ρ B b _ S q1 _ fun H1 A1 => q H1 A1
theorem jw_and1 (h : JT c N sc a ta) : JW c N sc (.BoolOp .And [a] pos) ta := by
  obtain ⟨t, h1, h2⟩ := h
  exact ⟨t, fun X I => pw_and1 (h1 X I), h2⟩
theorem jw_or1 (h : JT c N sc a ta) : JW c N sc (.BoolOp .Or [a] pos) ta := by
  obtain ⟨t, h1, h2⟩ := h
  exact ⟨t, fun X I => pw_or1 (h1 X I), h2⟩
theorem jw_and (h : JT c N sc a ta) (k : JW c N sc (.BoolOp .And (b :: rest) pos) tb) : JW c N sc (.BoolOp .And (a :: b :: rest) pos) (andK ta tb) := by
  obtain ⟨t, h1, h2⟩ := h
  obtain ⟨u, k1, k2⟩ := k
  exact ⟨_, fun X I => pw_and (h1 X I) (k1 X I), st_and h2 k2⟩
theorem jw_or (h : JT c N sc a ta) (k : JW c N sc (.BoolOp .Or (b :: rest) pos) tb) : JW c N sc (.BoolOp .Or (a :: b :: rest) pos) (orK ta tb) := by
  obtain ⟨t, h1, h2⟩ := h
  obtain ⟨u, k1, k2⟩ := k
  exact ⟨_, fun X I => pw_or (h1 X I) (k1 X I), st_or h2 k2⟩
theorem jt_w (h : JW c N sc a ta) : JT c N sc a ta := by
  obtain ⟨t, h1, h2⟩ := h
  exact ⟨t, fun X I => (h1 X I).pt, h2⟩
theorem jt_not (h : JT c N sc a ta) : JT c N sc (.UnaryOp .Not a pos) (notK ta) := by
  obtain ⟨t, h1, h2⟩ := h
  exact ⟨_, fun X I => pt_not (h1 X I), st_not h2⟩
theorem sd_chain {r r' : R2} {ta tb tc : TE} (ha : Sd K ta ma) (hb : Sd K tb mb) (hc : Sd K tc md)
    (hr : ∀ (B : Addr → Bool) (H : Hp) (x y : V) (d e z : D), (∀ a, B a = true → ∃ o, H a = some o) → Rs K B H x d → Rs K B H y e → g d e = some z → ∀ Q : VK, (∀ v H', Sub H H' → Rp K (hide B H') v z → Q v H') → r x y H Q)
    (hr' : ∀ (B : Addr → Bool) (H : Hp) (x y : V) (d e z : D), (∀ a, B a = true → ∃ o, H a = some o) → Rs K B H x d → Rs K B H y e → g' d e = some z → ∀ Q : VK, (∀ v H', Sub H H' → Rp K (hide B H') v z → Q v H') → r' x y H Q) :
    Sd K (tChain r r' ta tb tc) (chainK g g' ma mb md) := fun σ H ρ B d ρ' S e Q q => by
  unfold chainK at e
  cases h1 : ma ρ with
  | none => simp [h1] at e
  | some p =>
    obtain ⟨d1, ρ1⟩ := p
    cases h2 : mb ρ1 with
    | none => simp [h1, h2] at e
    | some p2 =>
      obtain ⟨d2, ρ2⟩ := p2
      simp only [h1, h2, Option.bind_some] at e
      cases h3 : g d1 d2 with
      | none => simp [h3] at e
      | some z =>
        simp only [h3, Option.bind_some] at e
        refine ha σ H ρ B _ _ S h1 _ fun x H1 A1 r1 => ?_
        refine hb σ H1 ρ1 B _ _ A1.sr h2 _ fun y H2 A2 r2 => ?_
        refine hr B H2 x y _ _ _ A2.sr.bk (.vis (r1.mono (A2.sub A1.sr))) (.vis r2) h3 _ fun v H3 s3 r3 => ?_
        have A3 := A2.trans (Af.of_sub A2.sr s3)
        match z, h3, r3, e with
        | .bool true, h3, r3, e =>
          refine ⟨true, r3.booli, ?_⟩
          show tc σ H3 _
          cases h4 : md ρ2 with
          | none => simp [h4] at e
          | some p4 =>
            obtain ⟨d4, ρ4⟩ := p4
            cases h5 : g' d2 d4 with
            | none => simp [h4, h5] at e
            | some z' =>
              simp [h4, h5] at e
              obtain ⟨rfl, rfl⟩ := e
              refine hc σ H3 ρ2 B _ _ A3.sr h4 _ fun y4 H4 A4 r4 => ?_
              refine hr' B H4 y y4 _ _ _ A4.sr.bk (.vis ((r2.mono (hsub s3)).mono (A4.sub A3.sr))) (.vis r4) h5 _ fun v5 H5 s5 r5 => ?_
              exact q v5 H5 (((A1.trans A3).trans A4).trans (Af.of_sub A4.sr s5)) r5
        | .bool false, h3, r3, e =>
          simp at e
          obtain ⟨rfl, rfl⟩ := e
          exact ⟨false, r3.booli, q _ H3 (A1.trans A3) (.bl false)⟩
theorem je_chain {op op' : CmpOp} (ho : OpD c.K (In c N sc) (compareOp op) g) (ho' : OpD c.K (In c N sc) (compareOp op') g') (ha : JE c N sc a ma) (hb : JE c N sc b mb) (hc : JE c N sc d md)
    (hm : lastMarks [op, op'] [b, d] = false := by with_unfolding_all rfl) : JE c N sc (.Compare a [op, op'] [b, d] pos) (chainK g g' ma mb md) := by
  obtain ⟨r, h1, h2⟩ := ho.ex
  obtain ⟨r', h1', h2'⟩ := ho'.ex
  obtain ⟨ta, p1, s1⟩ := ha
  obtain ⟨tb, p2, s2⟩ := hb
  obtain ⟨tc, p3, s3⟩ := hc
  exact ⟨_, fun X I => pe_chain (h1 X I) (h1' X I) (p1 X I) (p2 X I) (p3 X I) hm, sd_chain s1 s2 s3 h2 h2'⟩
theorem jt_chain {op op' : CmpOp} (ho : OpD c.K (In c N sc) (compareOp op) g) (ho' : OpD c.K (In c N sc) (compareOp op') g') (ha : JE c N sc a ma) (hb : JE c N sc b mb) (hc : JE c N sc d md)
    (hm : lastMarks [op, op'] [b, d] = false := by with_unfolding_all rfl) : JT c N sc (.Compare a [op, op'] [b, d] pos) (tstK (chainK g g' ma mb md)) := by
  obtain ⟨r, h1, h2⟩ := ho.ex
  obtain ⟨r', h1', h2'⟩ := ho'.ex
  obtain ⟨ta, p1, s1⟩ := ha
  obtain ⟨tb, p2, s2⟩ := hb
  obtain ⟨tc, p3, s3⟩ := hc
  exact ⟨_, fun X I => pt_chain (h1 X I) (h1' X I) (p1 X I) (p2 X I) (p3 X I) hm, st_tst2 (sd_chain s1 s2 s3 h2 h2')⟩
theorem je_one {op} (h : JE c N sc a ma) : JE c N sc (.BoolOp op [a] pos) ma := by
  obtain ⟨t, h1, h2⟩ := h
  exact ⟨t, fun X I => pe_one (h1 X I), h2⟩
theorem je_and (h : JE c N sc a ma) (k : JE c N sc (.BoolOp .And (b :: rest) pos) mb) : JE c N sc (.BoolOp .And (a :: b :: rest) pos) (andV (tstK ma) mb) := by
  obtain ⟨t, h1, h2⟩ := h
  obtain ⟨u, k1, k2⟩ := k
  refine ⟨_, fun X I => pe_and (h1 X I) (k1 X I), fun σ H ρ B z ρ' S e Q q => ?_⟩
  unfold andV at e
  cases q1 : tstK ma ρ with
  | none => simp [q1] at e
  | some p =>
    obtain ⟨k, ρ1⟩ := p
    simp only [q1, Option.bind_some] at e
    refine h2 σ H ρ B _ ρ1 S (tstK_some q1) _ fun v H1 A1 r => ⟨k, r.booli, ?_⟩
    cases k with
    | true => exact k2 σ H1 ρ1 B z ρ' A1.sr (by simpa using e) Q fun v H2 A2 r2 => q v H2 (A1.trans A2) r2
    | false =>
      simp at e
      obtain ⟨rfl, rfl⟩ := e
      exact q _ H1 A1 (.bl false)
theorem je_or (h : JE c N sc a ma) (k : JE c N sc (.BoolOp .Or (b :: rest) pos) mb) : JE c N sc (.BoolOp .Or (a :: b :: rest) pos) (orV (tstK ma) mb) := by
  obtain ⟨t, h1, h2⟩ := h
  obtain ⟨u, k1, k2⟩ := k
  refine ⟨_, fun X I => pe_or (h1 X I) (k1 X I), fun σ H ρ B z ρ' S e Q q => ?_⟩
  unfold orV at e
  cases q1 : tstK ma ρ with
  | none => simp [q1] at e
  | some p =>
    obtain ⟨k, ρ1⟩ := p
    simp only [q1, Option.bind_some] at e
    refine h2 σ H ρ B _ ρ1 S (tstK_some q1) _ fun v H1 A1 r => ⟨k, r.booli, ?_⟩
    cases k with
    | false => exact k2 σ H1 ρ1 B z ρ' A1.sr (by simpa using e) Q fun v H2 A2 r2 => q v H2 (A1.trans A2) r2
    | true =>
      simp at e
      obtain ⟨rfl, rfl⟩ := e
      exact q _ H1 A1 (.bl true)
theorem je_not (h : JE c N sc a ma) : JE c N sc (.UnaryOp .Not a pos) (valK (notK (tstK ma))) := by
  obtain ⟨t, h1, h2⟩ := h
  refine ⟨_, fun X I => pe_not (h1 X I), fun σ H ρ B z ρ' S e Q q => ?_⟩
  unfold valK notK at e
  cases q1 : tstK ma ρ with
  | none => simp [q1] at e
  | some p =>
    obtain ⟨k, ρ1⟩ := p
    simp [q1] at e
    obtain ⟨rfl, rfl⟩ := e
    exact h2 σ H ρ B _ ρ1 S (tstK_some q1) _ fun v H1 A1 r => ⟨k, r.booli, q _ H1 A1 (.bl _)⟩
theorem je_if (ht : JT c N sc d ta) (ha : JE c N sc a ma) (hb : JE c N sc b mb) : JE c N sc (.IfExp d a b pos) (ifK ta ma mb) := by
  obtain ⟨t, h1, h2⟩ := ht
  obtain ⟨u, k1, k2⟩ := ha
  obtain ⟨w, l1, l2⟩ := hb
  refine ⟨_, fun X I => pe_ifExp (h1 X I) (k1 X I) (l1 X I), fun σ H ρ B z ρ' S e Q q => ?_⟩
  unfold ifK at e
  cases q1 : ta ρ with
  | none => simp [q1] at e
  | some p =>
    obtain ⟨k, ρ1⟩ := p
    simp only [q1, Option.bind_some] at e
    refine h2 σ H ρ B k ρ1 S q1 _ fun H1 A1 => ?_
    cases k with
    | true => exact k2 σ H1 ρ1 B z ρ' A1.sr (by simpa using e) Q fun v H2 A2 r2 => q v H2 (A1.trans A2) r2
    | false => exact l2 σ H1 ρ1 B z ρ' A1.sr (by simpa using e) Q fun v H2 A2 r2 => q v H2 (A1.trans A2) r2
end

/-! ### displays, arguments -/
def SA (K : Frag) (t : TA) (m : En → Option (List D × En)) : Prop :=
  ∀ σ H ρ B ds ρ', SR K B σ H ρ → m ρ = some (ds, ρ') → ∀ Q : List V → Hp → Prop, (∀ vs H', Af K B σ H ρ H' ρ' → RpL K (hide B H') vs ds → Q vs H') → t σ H Q
def JL (c : C0) (N : List Str) (sc : Scope) (es : List Expr) (m : En → Option (List D × En)) : Prop := ∃ t, (∀ X, In c N sc X → PA X es t) ∧ SA c.K t m
def nilK : En → Option (List D × En) := fun ρ => some ([], ρ)
def consK (ma : En → Option (D × En)) (mr : En → Option (List D × En)) : En → Option (List D × En) := fun ρ => (ma ρ).bind fun p => (mr p.2).map fun q => (p.1 :: q.1, q.2)
def tupK (m : En → Option (List D × En)) : En → Option (D × En) := fun ρ => (m ρ).bind fun p => if p.1.length ≤ 100000 then some (.tuple p.1, p.2) else none
def lstK (m : En → Option (List D × En)) : En → Option (D × En) := fun ρ => (m ρ).bind fun p => if p.1.length ≤ 100000 then some (.list p.1, p.2) else none
section
variable {c : C0} {N : List Str} {sc : Scope} {e : Expr} {es : List Expr} {ma : En → Option (D × En)} {mr : En → Option (List D × En)} {pos : Pos} {K : Frag}
theorem jl_nil : JL c N sc [] nilK := ⟨_, fun _ _ => pa_nil, fun σ H ρ B ds ρ' S e Q q => by
  cases e
  exact q [] H (Af.refl S) .nil⟩
theorem jl_cons (h : JE c N sc e ma) (k : JL c N sc es mr) (hs : ∀ env, starEach (e :: es) env = (false, eval e env) :: starEach es env := by intros; rfl) : JL c N sc (e :: es) (consK ma mr) := by
  obtain ⟨t, h1, h2⟩ := h
  obtain ⟨u, k1, k2⟩ := k
  refine ⟨_, fun X I => pa_cons (h1 X I) (k1 X I) (hs _), fun σ H ρ B ds ρ' S e Q q => ?_⟩
  unfold consK at e
  cases q1 : ma ρ with
  | none => simp [q1] at e
  | some p =>
    obtain ⟨d, ρ1⟩ := p
    cases q2 : mr ρ1 with
    | none => simp [q1, q2] at e
    | some p2 =>
      obtain ⟨d2, ρ2⟩ := p2
      simp [q1, q2] at e
      obtain ⟨rfl, rfl⟩ := e
      refine h2 σ H ρ B _ _ S q1 _ fun v H1 A1 r1 => ?_
      exact k2 σ H1 ρ1 B _ _ A1.sr q2 _ fun vs H2 A2 r2 => q _ H2 (A1.trans A2) (.cons (r1.mono (A2.sub A1.sr)) r2)
theorem own_new {H : Hp} {B : Addr → Bool} {p : Addr} {vs : List V} {ds : List D} (h : H p = none) (r : RpL K (hide B H) vs ds) : OwnAt K (hide (ins p B) (upd H p (.lst vs))) (upd H p (.lst vs) p) (.list ds) :=
  ⟨vs, upd_same, r.mono (sub_ins h (hsub (Sub.new h)))⟩
theorem sz5 {n : Nat} (h : n ≤ 100000) : n ≤ sizeLine := Nat.le_trans h (by decide)
theorem je_tup {x1} (h : JL c N sc es mr) : JE c N sc (.Tuple es x1 pos) (tupK mr) := by
  obtain ⟨t, h1, h2⟩ := h
  refine ⟨_, fun X I => pe_tup (h1 X I), fun σ H ρ B ds ρ' S e Q q => ?_⟩
  unfold tupK at e
  cases q1 : mr ρ with
  | none => simp [q1] at e
  | some p =>
    obtain ⟨d, ρ1⟩ := p
    simp [q1] at e
    obtain ⟨hl, rfl, rfl⟩ := e
    refine h2 σ H ρ B _ _ S q1 _ fun vs H1 A1 r1 => ⟨by rw [r1.length]; exact sz5 hl, fun p hp => ?_⟩
    have s1 : Sub H1 (upd H1 p (.tup vs)) := Sub.new hp
    refine q _ _ (A1.trans (Af.of_sub A1.sr s1)) (.tup (.inl (.inl (hide_of (A1.sr.fresh hp) upd_same))) (r1.mono (hsub s1)))
theorem back_none {B : Addr → Bool} {σ : St} {H H' : Hp} {ρ ρ' : En} (A : Af K B σ H ρ H' ρ') {l : Addr} (h : H' l = none) : H l = none := by
  cases z0 : H l with
  | none => rfl
  | some o =>
    obtain ⟨o1, z1⟩ := A.grow l o z0
    rw [h] at z1
    cases z1
theorem jf_lst (h : JL c N sc es mr) : JF c N sc (.List es pos) (lstK mr) := by
  obtain ⟨t, h1, h2⟩ := h
  refine ⟨_, fun X I => pe_lst (h1 X I), fun σ H ρ B ds ρ' S e Q q => ?_⟩
  unfold lstK at e
  cases q1 : mr ρ with
  | none => simp [q1] at e
  | some p =>
    obtain ⟨d, ρ1⟩ := p
    simp [q1] at e
    obtain ⟨hl, rfl, rfl⟩ := e
    refine h2 σ H ρ B _ _ S q1 _ fun vs H1 A1 r1 => ⟨by rw [r1.length]; exact sz5 hl, fun p hp => ?_⟩
    exact q _ _ (A1.trans (Af.of_sub A1.sr (Sub.new hp))) (A1.sr.ins hp (Sub.new hp) ⟨_, upd_same⟩) (back_none A1 hp) (own_new hp r1)
end

/-! ### calls of the text's own defs -/
inductive Ar where
  | v (d : D)
  | b (i : Nat)
def ArOk (K : Frag) (B : Addr → Bool) (σ : St) (H : Hp) (ρ : En) (v : V) : Ar → Prop
  | .v d => Rp K (hide B H) v d
  | .b i => σ[i]? = some (some v) ∧ ∃ s, ρ[i]? = some (some s) ∧ s.mu = true
def ArsOk (K : Frag) (B : Addr → Bool) (σ : St) (H : Hp) (ρ : En) : List V → List Ar → Prop
  | [], [] => True
  | v :: vs, a :: as => ArOk K B σ H ρ v a ∧ ArsOk K B σ H ρ vs as
  | _, _ => False
def SG (K : Frag) (t : TA) (m : En → Option (List Ar × En)) : Prop :=
  ∀ σ H ρ B as ρ', SR K B σ H ρ → m ρ = some (as, ρ') → ∀ Q : List V → Hp → Prop, (∀ vs H', Af K B σ H ρ H' ρ' → ArsOk K B σ H' ρ' vs as → Q vs H') → t σ H Q
def JG (c : C0) (N : List Str) (sc : Scope) (es : List Expr) (m : En → Option (List Ar × En)) : Prop := ∃ t, (∀ X, In c N sc X → PA X es t) ∧ SG c.K t m
def gnil : En → Option (List Ar × En) := fun ρ => some ([], ρ)
def gval (ma : En → Option (D × En)) (mr : En → Option (List Ar × En)) : En → Option (List Ar × En) := fun ρ => (ma ρ).bind fun p => (mr p.2).map fun q => (.v p.1 :: q.1, q.2)
def gbor (i : Nat) (mr : En → Option (List Ar × En)) : En → Option (List Ar × En) := fun ρ => match ρ[i]? with
  | some (some s) => if s.mu = true then (mr ρ).map fun q => (.b i :: q.1, q.2) else none
  | _ => none
def toSl (ρ : En) : Ar → Option Sl
  | .v d => some (.val d)
  | .b i => match ρ[i]? with
    | some (some s) => if s.mu = true then some (.bor s.d) else none
    | _ => none
def toSls (ρ : En) : List Ar → Option (List Sl)
  | [] => some []
  | a :: r => (toSl ρ a).bind fun s => (toSls ρ r).map fun q => s :: q
def setd (i : Nat) (d : D) (ρ : En) : En := match ρ[i]? with
  | some (some s) => ρ.set i (some (s.wi d))
  | _ => ρ
def giveBack : List Ar → List Sl → En → En
  | .b i :: r, s :: q, ρ => giveBack r q (setd i s.d ρ)
  | .v _ :: r, _ :: q, ρ => giveBack r q ρ
  | _, _, ρ => ρ
/-- no slot is lent twice -/
def lentOnce : List Ar → Bool
  | [] => true
  | .v _ :: r => lentOnce r
  | .b i :: r => (r.all fun a => match a with
    | .b j => !(i == j)
    | .v _ => true) && lentOnce r
abbrev Fm := List Sl → Option (D × List Sl)
def callK (fm : Fm) (m : En → Option (List Ar × En)) : En → Option (D × En) := fun ρ =>
  (m ρ).bind fun p => if lentOnce p.1 = true then (toSls p.2 p.1).bind fun as => (fm as).map fun q => (q.1, giveBack p.1 q.2 p.2) else none
/-- what a def promises -/
def spD (K : Frag) (fm : Fm) : Sp := fun vs H Q _ => ∃ (B : Addr → Bool) (as : List Sl) (d : D) (as' : List Sl), fm as = some (d, as') ∧ SR K B (vs.map some) H (as.map some) ∧
  ∀ v H', Af K B (vs.map some) H (as.map some) H' (as'.map some) → Rp K (hide B H') v d → Q v H'
section
variable {K : Frag} {B : Addr → Bool} {σ : St} {H H' : Hp} {ρ ρ' : En}
theorem ArOk.mono (A : Af K B σ H ρ H' ρ') (S : SR K B σ H ρ) {v : V} : ∀ {a : Ar}, ArOk K B σ H ρ v a → ArOk K B σ H' ρ' v a
  | .v d, h => Rp.mono (A.sub S) h
  | .b i, ⟨h, s, e, m⟩ => by
    have k := A.kin i
    rw [e] at k
    obtain ⟨t, e', m'⟩ := k.mu
    exact ⟨h, t, e', m'.trans m⟩
theorem ArsOk.mono (A : Af K B σ H ρ H' ρ') (S : SR K B σ H ρ) : ∀ {vs : List V} {as : List Ar}, ArsOk K B σ H ρ vs as → ArsOk K B σ H' ρ' vs as
  | [], [], h => trivial
  | v :: vs, a :: as, ⟨h1, h2⟩ => ⟨ArOk.mono A S h1, ArsOk.mono A S h2⟩
  | [], _ :: _, h => h.elim
  | _ :: _, [], h => h.elim
theorem setd_get {i j : Nat} {d : D} {ρ : En} : (setd i d ρ)[j]? = if i = j then (match ρ[j]? with
    | some (some s) => some (some (s.wi d))
    | o => o) else ρ[j]? := by
  unfold setd
  by_cases e : i = j
  · subst e
    rw [if_pos rfl]
    split
    · rename_i s h
      have hl : i < ρ.length := by
        rcases List.getElem?_eq_some_iff.mp h with ⟨q, _⟩
        exact q
      rw [List.getElem?_set_self hl]
    · rfl
  · rw [if_neg e]
    split
    · rw [List.getElem?_set_ne e]
    · rfl
theorem Sl.wi_mu (s : Sl) (d : D) : (s.wi d).mu = s.mu := by cases s <;> rfl
theorem Sl.wi_d (s : Sl) (d : D) : (s.wi d).d = d := by cases s <;> rfl
/-- what stands in a slot behind the giving back -/
theorem giveBack_get : ∀ (ars : List Ar) (ss : List Sl) (ρ : En) (j : Nat), lentOnce ars = true → ars.length = ss.length →
    (giveBack ars ss ρ)[j]? = ρ[j]? ∧ (∀ k : Nat, ars[k]? ≠ some (.b j)) ∨ ∃ (k : Nat) (s : Sl), ars[k]? = some (.b j) ∧ ss[k]? = some s ∧ (giveBack ars ss ρ)[j]? = (match ρ[j]? with
      | some (some u) => some (some (u.wi s.d))
      | o => o)
  | [], [], ρ, j, _, _ => .inl ⟨rfl, fun k => by simp⟩
  | .v d :: r, s :: q, ρ, j, h, hl => by
    have hr : lentOnce r = true := h
    rcases giveBack_get r q ρ j hr (by simpa using hl) with ⟨e, n⟩ | ⟨k, s', a, b, e⟩
    · refine .inl ⟨e, fun k => ?_⟩
      cases k with
      | zero => simp
      | succ k => simpa using n k
    · exact .inr ⟨k + 1, s', by simpa using a, by simpa using b, e⟩
  | .b i :: r, s :: q, ρ, j, h, hl => by
    have h' : ((r.all fun a => match a with
      | .b j => !(i == j)
      | .v _ => true) && lentOnce r) = true := h
    rw [Bool.and_eq_true] at h'
    obtain ⟨hn, hr⟩ := h'
    have ni : ∀ k : Nat, r[k]? ≠ some (.b i) := fun k e => by
      have q := (List.all_eq_true.mp hn) _ (List.mem_of_getElem? e)
      simp at q
    show (giveBack r q (setd i s.d ρ))[j]? = ρ[j]? ∧ _ ∨ _
    rcases giveBack_get r q (setd i s.d ρ) j hr (by simpa using hl) with ⟨e, n⟩ | ⟨k, s', a, b, e⟩
    · by_cases ij : i = j
      · subst ij
        refine .inr ⟨0, s, rfl, rfl, ?_⟩
        show (giveBack r q (setd i s.d ρ))[i]? = _
        rw [e, setd_get, if_pos rfl]
      · rw [setd_get, if_neg ij] at e
        refine .inl ⟨e, fun k => ?_⟩
        cases k with
        | zero => simpa using ij
        | succ k => simpa using n k
    · have ij : i ≠ j := fun z => ni k (by rw [z]; exact a)
      rw [setd_get, if_neg ij] at e
      exact .inr ⟨k + 1, s', by simpa using a, by simpa using b, e⟩
  | [], _ :: _, _, _, _, hl => by simp at hl
  | _ :: _, [], _, _, _, hl => by simp at hl
theorem toSls_get {ρ : En} : ∀ {ars : List Ar} {ss : List Sl}, toSls ρ ars = some ss → ars.length = ss.length ∧ ∀ (k : Nat) (a : Ar), ars[k]? = some a → ∃ s, ss[k]? = some s ∧ toSl ρ a = some s
  | [], ss, h => by
    cases h
    exact ⟨rfl, fun k a e => by simp at e⟩
  | a :: r, ss, h => by
    have h' : ((toSl ρ a).bind fun s => (toSls ρ r).map fun q => s :: q) = some ss := h
    cases q1 : toSl ρ a with
    | none => simp [q1] at h'
    | some s =>
      cases q2 : toSls ρ r with
      | none => simp [q1, q2] at h'
      | some q =>
        simp [q1, q2] at h'
        subst h'
        obtain ⟨l1, l2⟩ := toSls_get q2
        refine ⟨by simp [l1], fun k a' e => ?_⟩
        cases k with
        | zero =>
          simp at e
          subst e
          exact ⟨s, rfl, q1⟩
        | succ k => simpa using l2 k a' (by simpa using e)
theorem ArsOk.get : ∀ {vs : List V} {as : List Ar}, ArsOk K B σ H ρ vs as → vs.length = as.length ∧ ∀ (k : Nat) (a : Ar), as[k]? = some a → ∃ v, vs[k]? = some v ∧ ArOk K B σ H ρ v a
  | [], [], _ => ⟨rfl, fun k a e => by simp at e⟩
  | v :: vs, a :: as, ⟨h1, h2⟩ => by
    obtain ⟨l1, l2⟩ := ArsOk.get h2
    refine ⟨by simp [l1], fun k a' e => ?_⟩
    cases k with
    | zero =>
      simp at e
      subst e
      exact ⟨v, rfl, h1⟩
    | succ k => simpa using l2 k a' (by simpa using e)
  | [], _ :: _, h => h.elim
  | _ :: _, [], h => h.elim
theorem lent_inj : ∀ {ars : List Ar} {k l : Nat} {j : Nat}, lentOnce ars = true → ars[k]? = some (.b j) → ars[l]? = some (.b j) → k = l
  | [], k, l, j, _, e, _ => by simp at e
  | .v d :: r, k, l, j, h, e, f => by
    cases k with
    | zero => simp at e
    | succ k =>
      cases l with
      | zero => simp at f
      | succ l => exact congrArg (· + 1) (lent_inj (show lentOnce r = true from h) (by simpa using e) (by simpa using f))
  | .b i :: r, k, l, j, h, e, f => by
    have h' : ((r.all fun a => match a with
      | .b j => !(i == j)
      | .v _ => true) && lentOnce r) = true := h
    rw [Bool.and_eq_true] at h'
    obtain ⟨hn, hr⟩ := h'
    have ni : ∀ k : Nat, r[k]? ≠ some (.b i) := fun k e => by
      have q := (List.all_eq_true.mp hn) _ (List.mem_of_getElem? e)
      simp at q
    cases k with
    | zero =>
      cases l with
      | zero => rfl
      | succ l =>
        simp at e f
        subst e
        exact absurd f (ni l)
    | succ k =>
      cases l with
      | zero =>
        simp at e f
        subst f
        exact absurd e (ni k)
      | succ l => exact congrArg (· + 1) (lent_inj hr (by simpa using e) (by simpa using f))
theorem map_some_get {α : Type} {l : List α} {k : Nat} {x : Option α} (h : (l.map some)[k]? = some x) : ∃ y, l[k]? = some y ∧ x = some y := by
  rw [List.getElem?_map] at h
  cases q : l[k]? with
  | none => rw [q] at h; cases h
  | some y => rw [q] at h; exact ⟨y, rfl, (Option.some.inj h).symm⟩
theorem get_map_some {α : Type} {l : List α} {k : Nat} {y : α} (h : l[k]? = some y) : (l.map some)[k]? = some (some y) := by rw [List.getElem?_map, h]; rfl
/-- the callee's slots at its entry -/
theorem call_sr {vs : List V} {ars : List Ar} {ss : List Sl} (S : SR K B σ H ρ) (ha : ArsOk K B σ H ρ vs ars) (h1 : lentOnce ars = true) (h2 : toSls ρ ars = some ss) : SR K B (vs.map some) H (ss.map some) ∧
    ∀ b, Mine (vs.map some) (ss.map some) b → ∃ (k j : Nat), ars[k]? = some (.b j) ∧ vs[k]? = some (.ref b) ∧ σ[j]? = some (some (.ref b)) := by
  obtain ⟨l1, g1⟩ := toSls_get h2
  obtain ⟨l2, g2⟩ := ha.get
  have at_ : ∀ (k : Nat) (s : Sl), ss[k]? = some s → ∃ a v, ars[k]? = some a ∧ vs[k]? = some v ∧ toSl ρ a = some s ∧ ArOk K B σ H ρ v a := fun k s e => by
    have hk : k < ss.length := (List.getElem?_eq_some_iff.mp e).1
    obtain ⟨a, ea⟩ : ∃ a, ars[k]? = some a := ⟨_, List.getElem?_eq_getElem (by omega)⟩
    obtain ⟨s', e1, e2⟩ := g1 k a ea
    rw [e] at e1
    cases e1
    obtain ⟨v, e3, e4⟩ := g2 k a ea
    exact ⟨a, v, ea, e3, e2, e4⟩
  have bor : ∀ (k : Nat) (s : Sl), ss[k]? = some s → s.mu = true → ∃ (j : Nat) (u : Sl) (v : V), ars[k]? = some (.b j) ∧ vs[k]? = some v ∧ σ[j]? = some (some v) ∧ ρ[j]? = some (some u) ∧ u.mu = true ∧ s = .bor u.d := fun k s e m => by
    obtain ⟨a, v, e1, e2, e3, e4⟩ := at_ k s e
    cases a with
    | v d => cases e3; cases m
    | b j =>
      obtain ⟨f1, u, f2, f3⟩ := e4
      simp [toSl, f2, f3] at e3
      exact ⟨j, u, v, e1, e2, f1, f2, f3, e3.symm⟩
  refine ⟨⟨by simp; omega, fun i d e => ?_, fun i s e m => ?_, fun i j s t l e1 m1 e2 m2 e3 e4 => ?_, S.bk⟩, fun b hb => ?_⟩
  · obtain ⟨s, e1, e2⟩ := map_some_get e
    cases e2
    obtain ⟨a, v, f1, f2, f3, f4⟩ := at_ i _ e1
    refine ⟨v, get_map_some f2, ?_⟩
    cases a with
    | v d' => cases f3; exact f4
    | b j =>
      obtain ⟨_, u, f5, f6⟩ := f4
      simp [toSl, f5, f6] at f3
  · obtain ⟨s', e1, e2⟩ := map_some_get e
    cases e2
    obtain ⟨j, u, v, f1, f2, f3, f4, f5, f6⟩ := bor i s e1 m
    obtain ⟨l, p1, p2, p3⟩ := S.mu_ j u f4 f5
    rw [p1] at f3
    cases f3
    subst f6
    exact ⟨l, get_map_some f2, p2, p3⟩
  · obtain ⟨s', a1, a2⟩ := map_some_get e1
    cases a2
    obtain ⟨t', b1, b2⟩ := map_some_get e2
    cases b2
    obtain ⟨j1, u1, v1, f1, f2, f3, f4, f5, f6⟩ := bor i s a1 m1
    obtain ⟨j2, u2, v2, k1, k2, k3, k4, k5, k6⟩ := bor j t b1 m2
    rw [get_map_some f2] at e3
    cases e3
    rw [get_map_some k2] at e4
    cases e4
    have ej : j1 = j2 := S.inj j1 j2 u1 u2 l f4 f5 k4 k5 f3 k3
    subst ej
    exact lent_inj h1 f1 k1
  · obtain ⟨k, s, e1, m, e2⟩ := hb
    obtain ⟨s', a1, a2⟩ := map_some_get e1
    cases a2
    obtain ⟨j, u, v, f1, f2, f3, f4, f5, f6⟩ := bor k s a1 m
    rw [get_map_some f2] at e2
    cases e2
    exact ⟨k, j, f1, f2, f3⟩
/-- the caller's slots behind the call -/
theorem call_back {vs : List V} {ars : List Ar} {ss ss' : List Sl} (S : SR K B σ H ρ) (ha : ArsOk K B σ H ρ vs ars) (h1 : lentOnce ars = true) (h2 : toSls ρ ars = some ss) (A : Af K B (vs.map some) H (ss.map some) H' (ss'.map some)) :
    Af K B σ H ρ H' (giveBack ars ss' ρ) := by
  obtain ⟨S1, M1⟩ := call_sr S ha h1 h2
  obtain ⟨l1, g1⟩ := toSls_get h2
  obtain ⟨l2, g2⟩ := ha.get
  have l3 : ars.length = ss'.length := by
    have q1 := S1.len
    have q2 := A.sr.len
    simp at q1 q2
    omega
  have hs : Sub (hide B H) (hide B H') := A.sub S1
  have gb := fun j => giveBack_get ars ss' ρ j h1 l3
  have kin : Kin ρ (giveBack ars ss' ρ) := fun j => by
    rcases gb j with ⟨e, _⟩ | ⟨k, s, a, b, e⟩
    · rw [e]; exact Ks.refl _
    · obtain ⟨v, _, f1, u, f2, f3⟩ := g2 k _ a
      rw [e, f2]
      cases u with
      | val d => cases f3
      | own d => trivial
      | bor d => trivial
  have mine : ∀ b, Mine (vs.map some) (ss.map some) b → Mine σ ρ b := fun b hb => by
    obtain ⟨k, j, a1, a2, a3⟩ := M1 b hb
    obtain ⟨v, e, f1, u, f2, f3⟩ := g2 k _ a1
    exact ⟨j, u, f2, f3, a3⟩
  refine ⟨⟨?_, fun i d e => ?_, fun i s e m => ?_, fun i j s t l e1 m1 e2 m2 e3 e4 => ?_, fun a h => ?_⟩, fun b o e n => A.keep b o e fun m => n (mine b m), A.grow, kin⟩
  · have : ∀ (as : List Ar) (q : List Sl) (ρ : En), (giveBack as q ρ).length = ρ.length := fun as => by
      induction as with
      | nil => intro q ρ; cases q <;> rfl
      | cons a r ih =>
        intro q ρ
        cases q with
        | nil => cases a <;> rfl
        | cons s q =>
          cases a with
          | v d => exact ih q ρ
          | b i =>
            show (giveBack r q (setd i s.d ρ)).length = _
            rw [ih]
            unfold setd
            split
            · rw [List.length_set]
            · rfl
    rw [this]
    exact S.len
  · have k := kin i
    rw [e] at k
    have e0 : ρ[i]? = some (some (.val d)) := by
      match q : ρ[i]?, k with
      | some (some (.val d')), k =>
        have : d' = d := k
        rw [this]
    obtain ⟨v, p1, p2⟩ := S.val i d e0
    exact ⟨v, p1, p2.mono hs⟩
  · have k := kin i
    rw [e] at k
    obtain ⟨u, e0, m0⟩ := k.mu'
    obtain ⟨l, p1, p2, p3⟩ := S.mu_ i u e0 (m0.trans m)
    refine ⟨l, p1, p2, ?_⟩
    rcases gb i with ⟨f, n⟩ | ⟨k', s', a, b, f⟩
    · rw [f, e0] at e
      have es : u = s := Option.some.inj (Option.some.inj e)
      subst es
      obtain ⟨o, p4⟩ := p3.ne
      have nm : ¬ Mine (vs.map some) (ss.map some) l := fun z => by
        obtain ⟨k', j, a1, a2, a3⟩ := M1 l z
        obtain ⟨v, _, f1, u', f2, f3⟩ := g2 k' _ a1
        have : i = j := S.inj i j u u' l e0 (m0.trans m) f2 f3 p1 a3
        subst this
        exact n k' a1
      rw [A.keep l o p4 nm]
      rw [p4] at p3
      exact p3.mono hs
    · rw [f, e0] at e
      have es : u.wi s'.d = s := Option.some.inj (Option.some.inj e)
      subst es
      rw [Sl.wi_d]
      obtain ⟨v, b2, f1, u', f2, f3⟩ := g2 k' _ a
      rw [e0] at f2
      cases f2
      rw [p1] at f1
      cases f1
      -- the callee's slot
      have kk := A.kin k'
      have b0 : ss[k']? = some (.bor u.d) := by
        obtain ⟨s0, c1, c2⟩ := g1 k' _ a
        simp [toSl, e0, f3] at c2
        rw [c1, ← c2]
      rw [get_map_some b0, get_map_some b] at kk
      have sb : ∃ d', s' = .bor d' := by
        cases s' with
        | bor d' => exact ⟨d', rfl⟩
        | val d' => exact kk.elim
        | own d' => exact kk.elim
      obtain ⟨d', rfl⟩ := sb
      obtain ⟨l', c1, c2, c3⟩ := A.sr.mu_ k' _ (get_map_some b) rfl
      rw [get_map_some b2] at c1
      cases c1
      exact c3
  · have k1 := kin i
    rw [e1] at k1
    obtain ⟨u1, a1, n1⟩ := k1.mu'
    have k2 := kin j
    rw [e2] at k2
    obtain ⟨u2, a2, n2⟩ := k2.mu'
    exact S.inj i j u1 u2 l a1 (n1.trans m1) a2 (n2.trans m2) e3 e4
  · obtain ⟨o, e⟩ := S.bk a h
    exact A.grow a o e
end
section
variable {c : C0} {N : List Str} {sc : Scope} {e : Expr} {es : List Expr} {ma : En → Option (D × En)} {mr : En → Option (List Ar × En)} {pos p : Pos} {K : Frag} {i : Nat} {x : Str}
theorem jg_nil : JG c N sc [] gnil := ⟨_, fun _ _ => pa_nil, fun σ H ρ B ds ρ' S e Q q => by
  cases e
  exact q [] H (Af.refl S) trivial⟩
theorem jg_val (h : JE c N sc e ma) (k : JG c N sc es mr) (hs : ∀ env, starEach (e :: es) env = (false, eval e env) :: starEach es env := by intros; rfl) : JG c N sc (e :: es) (gval ma mr) := by
  obtain ⟨t, h1, h2⟩ := h
  obtain ⟨u, k1, k2⟩ := k
  refine ⟨_, fun X I => pa_cons (h1 X I) (k1 X I) (hs _), fun σ H ρ B ds ρ' S e Q q => ?_⟩
  unfold gval at e
  cases q1 : ma ρ with
  | none => simp [q1] at e
  | some p =>
    obtain ⟨d, ρ1⟩ := p
    cases q2 : mr ρ1 with
    | none => simp [q1, q2] at e
    | some p2 =>
      obtain ⟨d2, ρ2⟩ := p2
      simp [q1, q2] at e
      obtain ⟨rfl, rfl⟩ := e
      refine h2 σ H ρ B _ _ S q1 _ fun v H1 A1 r1 => ?_
      exact k2 σ H1 ρ1 B _ _ A1.sr q2 _ fun vs H2 A2 r2 => q _ H2 (A1.trans A2) ⟨r1.mono (A2.sub A1.sr), r2⟩
theorem jg_bor (hN : N[i]? = some x) (hv : Vis sc x) (k : JG c N sc es mr) (hd : (x == ("__debug__" : Str)) = false := by decide) (hcd : (x == ("__classdict__" : Str)) = false := by decide) : JG c N sc (.Name x p :: es) (gbor i mr) := by
  obtain ⟨u, k1, k2⟩ := k
  refine ⟨_, fun X I => pa_cons (pe_var (by rw [I.N]; exact hN) (I.vis hv) hd hcd) (k1 X I), fun σ H ρ B ds ρ' S e Q q => ?_⟩
  unfold gbor at e
  split at e
  · rename_i s hs
    split at e
    · rename_i hm
      cases q2 : mr ρ with
      | none => simp [q2] at e
      | some p2 =>
        obtain ⟨d2, ρ2⟩ := p2
        simp [q2] at e
        obtain ⟨rfl, rfl⟩ := e
        obtain ⟨l, g1, _⟩ := S.mu_ i s hs hm
        refine ⟨.ref l, g1, ?_⟩
        refine k2 σ H ρ B _ _ S q2 _ fun vs H2 A2 r2 => q _ H2 A2 ⟨⟨g1, ?_⟩, r2⟩
        have kk := A2.kin i
        rw [hs] at kk
        obtain ⟨t, e', m'⟩ := kk.mu
        exact ⟨t, e', m'.trans hm⟩
    · cases e
  · cases e
theorem sd_call {ta : TA} {fm : Fm} {E : XK} (h : SG K ta mr) : Sd K (tCall (spD K fm) [] E ta) (callK fm mr) := fun σ H ρ B d ρ' S e Q q => by
  unfold callK at e
  cases q1 : mr ρ with
  | none => simp [q1] at e
  | some p =>
    obtain ⟨ars, ρ1⟩ := p
    simp only [q1, Option.bind_some] at e
    split at e
    · rename_i hl
      cases q2 : toSls ρ1 ars with
      | none => simp [q2] at e
      | some ss =>
        cases q3 : fm ss with
        | none => simp [q2, q3] at e
        | some r =>
          obtain ⟨z, ss'⟩ := r
          simp [q2, q3] at e
          obtain ⟨rfl, rfl⟩ := e
          refine h σ H ρ B _ _ S q1 _ fun vs H1 A1 ha => ?_
          show spD K fm (vs ++ []) H1 Q E
          rw [List.append_nil]
          refine ⟨B, ss, z, ss', q3, (call_sr A1.sr ha hl q2).1, fun v H2 A2 r2 => ?_⟩
          exact q v H2 (A1.trans (call_back A1.sr ha hl q2 A2)) r2
    · cases e
/-- a def of the text as its data say -/
def FnD (c : C0) (k : Nat) (x : Str) (ps : List Str) (fm : Fm) : Prop :=
  ∃ (f : Addr) (fd : FuncData), FnOk c.P c.w c.K c.mg c.base CX0 k f fd ps (spD c.K fm) ∧ c.mg x = some (.ref f) ∧ PySem.W.keepIn c.K (.ref f) = true ∧ Binds c.K fd ps []
theorem je_call {fm : Fm} {ps : List Str} {k : Nat} (F : FnD c k x ps fm) (hk : k ≤ c.k) (hg : sc.names.lookup x = some .globalImplicit) (ha : JG c N sc (e :: es) mr)
    (hdb : (x == ("__debug__" : Str)) = false := by decide) (he : ∀ env, starEach (e :: es) env = (false, eval e env) :: starEach es env := by intros; rfl) (hpl : ∀ env, (backTo pos (starEach es env)).any (·.1) = false := by intros; rfl) :
    JE c N sc (.Call (.Name x p) (e :: es) [] pos) (callK fm mr) := by
  obtain ⟨f, fd, F, h1, h2, h3⟩ := F
  obtain ⟨t, p1, s1⟩ := ha
  refine ⟨tCall (spD c.K fm) [] E0 t, fun X I => ?_, sd_call s1⟩
  obtain ⟨a1, a2, a3, a4, a5, a6, a7, a8, a9, a10, a11⟩ := id I
  have F' : FnOk X.prog X.w X.K X.mg X.base CX0 k f fd ps (spD c.K fm) := by
    rw [a1, a2, a3, a4, a5]
    exact F
  exact pe_call F' (a6.mono hk) (I.gl hg) (by rw [a4]; exact h1) (by rw [a3]; exact h2) (by rw [a3]; exact h3) .nil pass0 (p1 X I) hdb (he _) (hpl _)
theorem je_call0 {fm : Fm} {ps : List Str} {k : Nat} (F : FnD c k x ps fm) (hk : k ≤ c.k) (hg : sc.names.lookup x = some .globalImplicit)
    (hdb : (x == ("__debug__" : Str)) = false := by decide) : JE c N sc (.Call (.Name x p) [] [] pos) (callK fm gnil) := by
  obtain ⟨f, fd, F, h1, h2, h3⟩ := F
  refine ⟨tCall (spD c.K fm) [] E0 tNil, fun X I => ?_, sd_call (fun σ H ρ B ds ρ' S e Q q => by
    cases e
    exact q [] H (Af.refl S) trivial)⟩
  obtain ⟨a1, a2, a3, a4, a5, a6, a7, a8, a9, a10, a11⟩ := id I
  have F' : FnOk X.prog X.w X.K X.mg X.base CX0 k f fd ps (spD c.K fm) := by
    rw [a1, a2, a3, a4, a5]
    exact F
  exact pe_call0 F' (a6.mono hk) (I.gl hg) (by rw [a4]; exact h1) (by rw [a3]; exact h2) (by rw [a3]; exact h3) .nil pass0 hdb
end
end Dz

/-! Dz. D: statements, defs. -/
namespace Dz
open PySem L2

inductive SO where
  | nx (ρ : En)
  | rt (d : D) (ρ : En)
  | bk (ρ : En)
  | ct (ρ : En)
def Fi (K : Frag) (B : Addr → Bool) (σ : St) (H : Hp) (ρ : En) (Dn : Ends) : SO → Prop
  | .nx ρ' => ∀ B' σ' H', Bf K B σ H ρ B' σ' H' ρ' → Dn.nx σ' H'
  | .rt d ρ' => ∀ v B' σ' H', Bf K B σ H ρ B' σ' H' ρ' → Rp K (hide B' H') v d → Dn.rt v H'
  | .bk ρ' => ∀ B' σ' H', Bf K B σ H ρ B' σ' H' ρ' → Dn.bk σ' H'
  | .ct ρ' => ∀ B' σ' H', Bf K B σ H ρ B' σ' H' ρ' → Dn.ct σ' H'
def SS (K : Frag) (t : TS) (m : En → Option SO) : Prop := ∀ σ H ρ B o, SR K B σ H ρ → m ρ = some o → ∀ Dn : Ends, Fi K B σ H ρ Dn o → t Dn σ H
def JS (c : C0) (N : List Str) (sc : Scope) (s : Stmt) (m : En → Option SO) : Prop := ∃ t, (∀ X, In c N sc X → PS X s t) ∧ SS c.K t m
def JB (c : C0) (N : List Str) (sc : Scope) (s : List Stmt) (m : En → Option SO) : Prop := ∃ t, (∀ X, In c N sc X → PSs X s t) ∧ SS c.K t m
theorem Fi.after {K : Frag} {B B1 : Addr → Bool} {σ σ1 : St} {H H1 : Hp} {ρ ρ1 : En} {Dn : Ends} (S : SR K B σ H ρ) (b : Bf K B σ H ρ B1 σ1 H1 ρ1) : ∀ {o : SO}, Fi K B σ H ρ Dn o → Fi K B1 σ1 H1 ρ1 Dn o
  | .nx ρ', h => fun B' σ' H' a => h B' σ' H' (b.trans S a)
  | .rt d ρ', h => fun v B' σ' H' a => h v B' σ' H' (b.trans S a)
  | .bk ρ', h => fun B' σ' H' a => h B' σ' H' (b.trans S a)
  | .ct ρ', h => fun B' σ' H' a => h B' σ' H' (b.trans S a)

def nextS : En → Option SO := fun ρ => some (.nx ρ)
def seqS (m1 m2 : En → Option SO) : En → Option SO := fun ρ => (m1 ρ).bind fun o => match o with
  | .nx ρ1 => m2 ρ1
  | o => some o
def breakS : En → Option SO := fun ρ => some (.bk ρ)
def contS : En → Option SO := fun ρ => some (.ct ρ)
def neverS : En → Option SO := fun _ => none
def dropS (m : En → Option (D × En)) : En → Option SO := fun ρ => (m ρ).map fun p => .nx p.2
def retS (m : En → Option (D × En)) : En → Option SO := fun ρ => (m ρ).map fun p => .rt p.1 p.2
def retN : En → Option SO := fun ρ => some (.rt .none ρ)
def ifS (mt : En → Option (Bool × En)) (m1 m2 : En → Option SO) : En → Option SO := fun ρ => (mt ρ).bind fun p => if p.1 = true then m1 p.2 else m2 p.2
def setv (i : Nat) (d : D) (ρ : En) : Option En := match ρ[i]? with
  | some (some (.bor _)) => none
  | some _ => some (ρ.set i (some (.val d)))
  | none => none
def seto (i : Nat) (d : D) (ρ : En) : Option En := match ρ[i]? with
  | some (some (.bor _)) => none
  | some _ => some (ρ.set i (some (.own d)))
  | none => none
def asgS (m : En → Option (D × En)) (g : D → En → Option En) : En → Option SO := fun ρ => (m ρ).bind fun p => (g p.1 p.2).map .nx
/-- the def's own list becomes a datum that may be handed on -/
def frz (i : Nat) (ρ : En) : Option En := match ρ[i]? with
  | some (some (.own d)) => some (ρ.set i (some (.val d)))
  | _ => none
def frzS (i : Nat) (m : En → Option SO) : En → Option SO := fun ρ => (frz i ρ).bind m
section
variable {c : C0} {N : List Str} {sc : Scope} {K : Frag} {t u : TS} {m m1 m2 : En → Option SO} {s : Stmt} {rest b1 b2 : List Stmt} {me : En → Option (D × En)} {mt : En → Option (Bool × En)} {e : Expr} {pos p1 : Pos} {i : Nat} {x : Str}
theorem ss_next : SS K tNext nextS := fun σ H ρ B o S e Dn h => by
  cases e
  exact h B σ H (Bf.refl S)
theorem ss_seq (h1 : SS K t m1) (h2 : SS K u m2) : SS K (tSeq t u) (seqS m1 m2) := fun σ H ρ B o S e Dn h => by
  unfold seqS at e
  cases q : m1 ρ with
  | none => simp [q] at e
  | some o1 =>
    simp only [q, Option.bind_some] at e
    refine h1 σ H ρ B o1 S q _ ?_
    cases o1 with
    | nx ρ1 => exact fun B' σ' H' a => h2 σ' H' ρ1 B' o a.sr e Dn (h.after S a)
    | rt d ρ1 => cases e; exact h
    | bk ρ1 => cases e; exact h
    | ct ρ1 => cases e; exact h
theorem jb_nil : JB c N sc [] nextS := ⟨_, fun _ _ => pss_nil, ss_next⟩
theorem jb_cons (h : JS c N sc s m1) (k : JB c N sc rest m2) : JB c N sc (s :: rest) (seqS m1 m2) := by
  obtain ⟨t, h1, h2⟩ := h
  obtain ⟨u, k1, k2⟩ := k
  exact ⟨_, fun X I => pss_cons (h1 X I) (k1 X I), ss_seq h2 k2⟩
theorem jb_one (h : JS c N sc s m1) : JB c N sc [s] m1 := by
  obtain ⟨t, h1, h2⟩ := h
  exact ⟨_, fun X I => pss_one (h1 X I), h2⟩
theorem js_pass : JS c N sc (.Pass pos) nextS := ⟨_, fun _ _ => ps_pass, ss_next⟩
theorem js_doc {z j p} : JS c N sc (.Expr (.Constant (.str z) j p) pos) nextS := ⟨_, fun _ _ => ps_doc, ss_next⟩
theorem js_break : JS c N sc (.Break pos) breakS := ⟨_, fun _ _ => ps_break, fun σ H ρ B o S e Dn h => by
  cases e
  exact h B σ H (Bf.refl S)⟩
theorem js_cont : JS c N sc (.Continue pos) contS := ⟨_, fun _ _ => ps_continue, fun σ H ρ B o S e Dn h => by
  cases e
  exact h B σ H (Bf.refl S)⟩
theorem js_never : JS c N sc s neverS := ⟨_, fun _ _ => ps_never, fun σ H ρ B o S e Dn h => by cases e⟩
theorem js_expr (h : JE c N sc e me) (hs : ∀ env, swapsWith e none pos.line env = pure false := by intros; rfl) : JS c N sc (.Expr e pos) (dropS me) := by
  obtain ⟨t, h1, h2⟩ := h
  refine ⟨_, fun X I => ps_expr (h1 X I) (hs _), fun σ H ρ B o S e Dn h => ?_⟩
  unfold dropS at e
  cases q : me ρ with
  | none => simp [q] at e
  | some p =>
    obtain ⟨d, ρ1⟩ := p
    simp [q] at e
    subst e
    exact h2 σ H ρ B _ _ S q _ fun v H1 A r => h B σ H1 A.bf
theorem js_ret (h : JE c N sc e me) : JS c N sc (.Return (some e) pos) (retS me) := by
  obtain ⟨t, h1, h2⟩ := h
  refine ⟨_, fun X I => ps_ret (h1 X I), fun σ H ρ B o S e Dn h => ?_⟩
  unfold retS at e
  cases q : me ρ with
  | none => simp [q] at e
  | some p =>
    obtain ⟨d, ρ1⟩ := p
    simp [q] at e
    subst e
    exact h2 σ H ρ B _ _ S q _ fun v H1 A r => h v B σ H1 A.bf r
theorem js_retN : JS c N sc (.Return none pos) retN := ⟨_, fun _ _ => ps_retN, fun σ H ρ B o S e Dn h => by
  cases e
  exact h .non B σ H (Bf.refl S) .non⟩
theorem ss_if {tt : TT} (ht : Stt K tt mt) (h1 : SS K t m1) (h2 : SS K u m2) : SS K (tIfS tt t u) (ifS mt m1 m2) := fun σ H ρ B o S e Dn h => by
  unfold ifS at e
  cases q : mt ρ with
  | none => simp [q] at e
  | some p =>
    obtain ⟨b, ρ1⟩ := p
    simp only [q, Option.bind_some] at e
    refine ht σ H ρ B b ρ1 S q _ fun H1 A => ?_
    cases b with
    | true => exact h1 σ H1 ρ1 B o A.sr (by simpa using e) Dn (h.after S A.bf)
    | false => exact h2 σ H1 ρ1 B o A.sr (by simpa using e) Dn (h.after S A.bf)
theorem js_if (ht : JT c N sc e mt) (h1 : JB c N sc b1 m1) (h2 : JB c N sc b2 m2) : JS c N sc (.If e b1 b2 pos) (ifS mt m1 m2) := by
  obtain ⟨t, p1, s1⟩ := ht
  obtain ⟨u, p2, s2⟩ := h1
  obtain ⟨w, p3, s3⟩ := h2
  exact ⟨_, fun X I => ps_if (p1 X I) (p2 X I) (p3 X I), ss_if s1 s2 s3⟩
end

/-! ### stores -/
/-- a target at the slots js -/
def SgT (K : Frag) (js : List Nat) (g : TG) (mg : D → En → Option En) : Prop :=
  ∀ σ H ρ B v d ρ', SR K B σ H ρ → Rp K (hide B H) v d → mg d ρ = some ρ' → ∀ Q : St → Hp → Prop, (∀ σ', Bf K B σ H ρ B σ' H ρ' → (∀ j, j ∉ js → σ'[j]? = σ[j]? ∧ ρ'[j]? = ρ[j]?) → σ'.length = σ.length → Q σ' H) → g v σ H Q
def SgTs (K : Frag) (js : List Nat) (g : TGs) (mg : List D → En → Option En) : Prop :=
  ∀ σ H ρ B vs ds ρ', SR K B σ H ρ → RpL K (hide B H) vs ds → mg ds ρ = some ρ' → ∀ Q : St → Hp → Prop, (∀ σ', Bf K B σ H ρ B σ' H ρ' → (∀ j, j ∉ js → σ'[j]? = σ[j]? ∧ ρ'[j]? = ρ[j]?) → σ'.length = σ.length → Q σ' H) → g vs σ H Q
section
variable {K : Frag} {B : Addr → Bool} {σ : St} {H H' : Hp} {ρ ρ' : En} {i : Nat} {d : D} {v : V}
theorem setv_some (h : setv i d ρ = some ρ') : ρ' = ρ.set i (some (.val d)) ∧ i < ρ.length ∧ ∀ e, ρ[i]? ≠ some (some (.bor e)) := by
  unfold setv at h
  split at h
  · cases h
  · rename_i z hz hn
    cases h
    exact ⟨rfl, (List.getElem?_eq_some_iff.mp hn).1, fun e q => hz e (Option.some.inj (hn.symm.trans q))⟩
  · cases h
theorem seto_some (h : seto i d ρ = some ρ') : ρ' = ρ.set i (some (.own d)) ∧ i < ρ.length ∧ ∀ e, ρ[i]? ≠ some (some (.bor e)) := by
  unfold seto at h
  split at h
  · cases h
  · rename_i z hz hn
    cases h
    exact ⟨rfl, (List.getElem?_eq_some_iff.mp hn).1, fun e q => hz e (Option.some.inj (hn.symm.trans q))⟩
  · cases h
theorem bf_setv (S : SR K B σ H ρ) (h : setv i d ρ = some ρ') (r : Rp K (hide B H) v d) : Bf K B σ H ρ B (σ.set i (some v)) H ρ' := by
  obtain ⟨rfl, hl, hb⟩ := setv_some h
  have hl' : i < σ.length := by rw [S.len]; exact hl
  refine ⟨⟨by simpa using S.len, fun j d' e => ?_, fun j s e m => ?_, fun j k s u l e1 m1 e2 m2 e3 e4 => ?_, S.bk⟩, fun _ _ e _ => e, fun _ o e => ⟨o, e⟩, fun _ h => .inl h, fun _ h _ => h, fun b hb' => ?_, fun j d' e => ?_⟩
  · by_cases q : i = j
    · subst q
      rw [List.getElem?_set_self hl] at e
      cases e
      exact ⟨v, List.getElem?_set_self hl', r⟩
    · rw [List.getElem?_set_ne q] at e
      obtain ⟨w, a, b⟩ := S.val j d' e
      exact ⟨w, by rw [List.getElem?_set_ne q]; exact a, b⟩
  · by_cases q : i = j
    · subst q
      rw [List.getElem?_set_self hl] at e
      cases e
      cases m
    · rw [List.getElem?_set_ne q] at e
      obtain ⟨l, a, b, k⟩ := S.mu_ j s e m
      exact ⟨l, by rw [List.getElem?_set_ne q]; exact a, b, k⟩
  · by_cases q : i = j
    · subst q
      rw [List.getElem?_set_self hl] at e1
      cases e1
      cases m1
    · by_cases q2 : i = k
      · subst q2
        rw [List.getElem?_set_self hl] at e2
        cases e2
        cases m2
      · rw [List.getElem?_set_ne q] at e1 e3
        rw [List.getElem?_set_ne q2] at e2 e4
        exact S.inj j k s u l e1 m1 e2 m2 e3 e4
  · obtain ⟨j, s, e1, m, e2⟩ := hb'
    by_cases q : i = j
    · subst q
      rw [List.getElem?_set_self hl] at e1
      cases e1
      cases m
    · rw [List.getElem?_set_ne q] at e1 e2
      exact .inl ⟨j, s, e1, m, e2⟩
  · by_cases q : i = j
    · subst q
      exact absurd e (hb d')
    · exact ⟨⟨d', by rw [List.getElem?_set_ne q]; exact e⟩, List.getElem?_set_ne q⟩
theorem ins_self {l : Addr} {B : Addr → Bool} : ins l B l = true := by unfold ins; simp
theorem ins_or {l a : Addr} {B : Addr → Bool} (h : ins l B a = true) : a = l ∨ B a = true := by
  unfold ins at h
  simpa using h
theorem ins_of {l a : Addr} {B : Addr → Bool} (h : B a = true) : ins l B a = true := by unfold ins; simp [h]
/-- a new list is stored as the def's own -/
theorem bf_seto {l : Addr} {H0 : Hp} {ρ0 : En} (S0 : SR K B σ H0 ρ0) (A : Af K B σ H0 ρ0 H ρ) (S : SR K (ins l B) σ H ρ) (h : seto i d ρ = some ρ') (hl0 : H0 l = none) (o : OwnAt K (hide (ins l B) H) (H l) d) : Bf K B σ H0 ρ0 (ins l B) (σ.set i (some (.ref l))) H ρ' := by
  obtain ⟨rfl, hl, hb⟩ := seto_some h
  have hl' : i < σ.length := by rw [S.len]; exact hl
  have bl : B l = false := S0.fresh hl0
  have nl : ∀ (j : Nat) s, ρ[j]? = some (some s) → s.mu = true → σ[j]? ≠ some (some (.ref l)) := fun j s e m z => by
    obtain ⟨l', a, b, k⟩ := A.sr.mu_ j s e m
    rw [a] at z
    cases z
    rw [bl] at b
    cases b
  have sr : SR K (ins l B) (σ.set i (some (.ref l))) H (ρ.set i (some (.own d))) := by
    refine ⟨by simpa using S.len, fun j d' e => ?_, fun j s e m => ?_, fun j k s u l' e1 m1 e2 m2 e3 e4 => ?_, S.bk⟩
    · by_cases q : i = j
      · subst q
        rw [List.getElem?_set_self hl] at e
        cases e
      · rw [List.getElem?_set_ne q] at e
        obtain ⟨w, a, b⟩ := S.val j d' e
        exact ⟨w, by rw [List.getElem?_set_ne q]; exact a, b⟩
    · by_cases q : i = j
      · subst q
        rw [List.getElem?_set_self hl] at e
        cases e
        exact ⟨l, List.getElem?_set_self hl', ins_self, o⟩
      · rw [List.getElem?_set_ne q] at e
        obtain ⟨l', a, b, k⟩ := S.mu_ j s e m
        exact ⟨l', by rw [List.getElem?_set_ne q]; exact a, b, k⟩
    · by_cases q : i = j
      · by_cases q2 : i = k
        · rw [← q, ← q2]
        · subst q
          rw [List.getElem?_set_self hl'] at e3
          cases e3
          rw [List.getElem?_set_ne q2] at e2 e4
          exact absurd e4 (nl k u e2 m2)
      · by_cases q2 : i = k
        · subst q2
          rw [List.getElem?_set_self hl'] at e4
          cases e4
          rw [List.getElem?_set_ne q] at e1 e3
          exact absurd e3 (nl j s e1 m1)
        · rw [List.getElem?_set_ne q] at e1 e3
          rw [List.getElem?_set_ne q2] at e2 e4
          exact S.inj j k s u l' e1 m1 e2 m2 e3 e4
  refine ⟨sr, A.keep, A.grow, fun b hb' => ?_, fun b hb' _ => ins_of hb', fun b hb' => ?_, fun j d' e => ?_⟩
  · rcases ins_or hb' with z | z
    · rw [z]; exact .inr hl0
    · exact .inl z
  · obtain ⟨j, s, e1, m, e2⟩ := hb'
    by_cases q : i = j
    · subst q
      rw [List.getElem?_set_self hl'] at e2
      cases e2
      exact .inr hl0
    · rw [List.getElem?_set_ne q] at e1 e2
      exact .inl (A.kin.mine.mp ⟨j, s, e1, m, e2⟩)
  · have k := A.kin j
    rw [e] at k
    obtain ⟨e', h'⟩ := k.bor
    by_cases q : i = j
    · subst q
      exact absurd h' (hb e')
    · exact ⟨⟨e', by rw [List.getElem?_set_ne q]; exact h'⟩, List.getElem?_set_ne q⟩
/-- another content for the def's own list -/
theorem own_write {s : Sl} {l : Addr} {o : HO} {d' : D} (S : SR K B σ H ρ) (h : ρ[i]? = some (some s)) (m : s.mu = true) (hl : σ[i]? = some (some (.ref l))) (ho : OwnAt K (hide B H) (some o) d') : Af K B σ H ρ (upd H l o) (ρ.set i (some (s.wi d'))) := by
  have il : i < ρ.length := (List.getElem?_eq_some_iff.mp h).1
  obtain ⟨l', a1, a2, a3⟩ := S.mu_ i s h m
  rw [hl] at a1
  cases a1
  have hs : Sub (hide B H) (hide B (upd H l o)) := fun b u q => by
    obtain ⟨q1, q2⟩ := hide_some q
    refine hide_of q1 ?_
    rw [upd_ne (fun z => by rw [z, a2] at q1; cases q1)]
    exact q2
  have nj : ∀ (j : Nat) t, ρ[j]? = some (some t) → t.mu = true → σ[j]? = some (some (.ref l)) → j = i := fun j t e m' z => S.inj j i t s l e m' h m z hl
  refine ⟨⟨by simpa using S.len, fun j e q => ?_, fun j t q mt => ?_, fun j k t u l' e1 m1 e2 m2 e3 e4 => ?_, fun a q => ?_⟩, fun b u e n => ?_, fun b u e => ?_, fun j => ?_⟩
  · by_cases z : i = j
    · subst z
      rw [List.getElem?_set_self il] at q
      cases s with
      | val _ => cases m
      | own _ => cases q
      | bor _ => cases q
    · rw [List.getElem?_set_ne z] at q
      obtain ⟨v, g1, g2⟩ := S.val j e q
      exact ⟨v, g1, g2.mono hs⟩
  · by_cases z : i = j
    · subst z
      rw [List.getElem?_set_self il] at q
      have es : s.wi d' = t := Option.some.inj (Option.some.inj q)
      subst es
      refine ⟨l, hl, a2, ?_⟩
      rw [upd_same, Sl.wi_d]
      exact ho.mono hs
    · rw [List.getElem?_set_ne z] at q
      obtain ⟨k, g1, g2, g3⟩ := S.mu_ j t q mt
      refine ⟨k, g1, g2, ?_⟩
      have nk : k ≠ l := fun y => z (nj j t q mt (by rw [← y]; exact g1)).symm
      rw [upd_ne nk]
      exact g3.mono hs
  · have f : ∀ (j : Nat) t, (ρ.set i (some (s.wi d')))[j]? = some (some t) → t.mu = true → ∃ t', ρ[j]? = some (some t') ∧ t'.mu = true := fun j t q mt => by
      by_cases z : i = j
      · subst z
        exact ⟨s, h, m⟩
      · rw [List.getElem?_set_ne z] at q
        exact ⟨t, q, mt⟩
    obtain ⟨t', f1, f2⟩ := f j t e1 m1
    obtain ⟨u', f3, f4⟩ := f k u e2 m2
    exact S.inj j k t' u' l' f1 f2 f3 f4 e3 e4
  · by_cases z : a = l
    · exact ⟨o, by rw [z, upd_same]⟩
    · rw [upd_ne z]
      exact S.bk a q
  · rw [upd_ne (fun z => n (by rw [z]; exact ⟨i, s, h, m, hl⟩))]
    exact e
  · by_cases z : b = l
    · exact ⟨o, by rw [z, upd_same]⟩
    · exact ⟨u, by rw [upd_ne z]; exact e⟩
  · by_cases z : i = j
    · subst z
      rw [h, List.getElem?_set_self il]
      cases s with
      | val _ => cases m
      | own _ => trivial
      | bor _ => trivial
    · rw [List.getElem?_set_ne z]
      exact Ks.refl _
theorem sgt_name : SgT K [i] (gName i) (setv i) := fun σ H ρ B v d ρ' S r e Q q => by
  refine q _ (bf_setv S e r) (fun j hj => ?_) (by simp)
  obtain ⟨rfl, _, _⟩ := setv_some e
  have z : i ≠ j := fun z => hj (by simp [z])
  exact ⟨List.getElem?_set_ne z, List.getElem?_set_ne z⟩
end
def tgNil : List D → En → Option En := fun ds ρ => match ds with
  | [] => some ρ
  | _ => none
def tgCons (mg : D → En → Option En) (mr : List D → En → Option En) : List D → En → Option En := fun ds ρ => match ds with
  | d :: r => (mg d ρ).bind (mr r)
  | [] => none
def tgTup (n : Nat) (mr : List D → En → Option En) : D → En → Option En := fun d ρ => match d with
  | .tuple ds => if ds.length = n then mr ds ρ else none
  | _ => none
def JTg (c : C0) (N : List Str) (sc : Scope) (e : Expr) (js : List Nat) (mg : D → En → Option En) : Prop := ∃ g, (∀ X, In c N sc X → PG X e g) ∧ SgT c.K js g mg
def JTgs (c : C0) (N : List Str) (sc : Scope) (es : List Expr) (js : List Nat) (mg : List D → En → Option En) : Prop := ∃ g, (∀ X, In c N sc X → PGs X es g) ∧ SgTs c.K js g mg
section
variable {K : Frag} {mg : D → En → Option En} {mr : List D → En → Option En} {js ks : List Nat} {n : Nat}
theorem sgts_nil : SgTs K [] gNil tgNil := fun σ H ρ B vs ds ρ' S r e Q q => by
  cases r with
  | nil =>
    cases e
    exact ⟨rfl, q σ (Bf.refl S) (fun _ _ => ⟨rfl, rfl⟩) rfl⟩
  | cons _ _ => cases e
theorem sgts_cons {g : TG} {u : TGs} (h : SgT K js g mg) (k : SgTs K ks u mr) : SgTs K (js ++ ks) (gCons g u) (tgCons mg mr) := fun σ H ρ B vs ds ρ' S r e Q q => by
  cases r with
  | nil => cases e
  | cons r1 r2 =>
    rename_i v vs d ds
    unfold tgCons at e
    cases z : mg d ρ with
    | none => simp [z] at e
    | some ρ1 =>
      simp only [z, Option.bind_some] at e
      refine ⟨v, vs, rfl, h σ H ρ B v d ρ1 S r1 z _ fun σ1 b1 l1 n1 => ?_⟩
      refine k σ1 H ρ1 B vs ds ρ' b1.sr r2 e _ fun σ2 b2 l2 n2 => q σ2 (b1.trans S b2) (fun j hj => ?_) (n2.trans n1)
      rw [List.mem_append, not_or] at hj
      obtain ⟨a1, a2⟩ := l1 j hj.1
      obtain ⟨a3, a4⟩ := l2 j hj.2
      exact ⟨a3.trans a1, a4.trans a2⟩
theorem sgt_tup {u : TGs} (k : SgTs K ks u mr) : SgT K ks (gTup K n u) (tgTup n mr) := fun σ H ρ B v d ρ' S r e Q q => by
  unfold tgTup at e
  split at e
  · rename_i ds
    split at e
    · rename_i hn
      cases r with
      | tup ht rr =>
        refine ⟨_, _, rfl, sub_t (hide_sub B H) ht, ?_, ?_⟩
        · rw [rr.length]; exact hn
        · exact k σ H ρ B _ ds ρ' S rr e Q q
    · cases e
  · cases e
end
section
variable {c : C0} {N : List Str} {sc : Scope} {e value : Expr} {es : List Expr} {js ks : List Nat} {mg : D → En → Option En} {mr : List D → En → Option En} {pos p1 p2 : Pos} {i j n k : Nat} {x : Str} {me mi : En → Option (D × En)} {K : Frag}
/-- a name that may be stored -/
def Sto (c : C0) (sc : Scope) (x : Str) : Prop := sc.names.lookup x = some .local ∨ (c.top = true ∧ sc.names.lookup x = some .cell)
theorem Sto.loc {X : Cx} (h : Sto c sc x) (I : In c N sc X) : Loc X.env.scope x := by
  rw [I.sc]
  rcases h with h | ⟨_, h⟩
  · exact .inl h
  · exact .inr h
theorem Sto.vis (h : Sto c sc x) : Vis sc x := by
  rcases h with h | ⟨_, h⟩
  · exact .inl h
  · exact .inr (.inl h)
theorem Sto.fn {X : Cx} (h : Sto c sc x) (I : In c N sc X) : X.fn x = true ∨ X.env.scope.names.lookup x = some .local := by
  rw [I.sc]
  rcases h with h | ⟨h, _⟩
  · exact .inr h
  · rw [I.fn h]; exact .inl rfl
theorem jtg_name (nd : N.Nodup) (hN : N[i]? = some x) (hs : Sto c sc x) : JTg c N sc (.Name x pos) [i] (setv i) :=
  ⟨_, fun X I => pg_name (by rw [I.N]; exact nd) (by rw [I.N]; exact hN) (hs.loc I) (hs.fn I), sgt_name⟩
theorem jtgs_nil : JTgs c N sc [] [] tgNil := ⟨_, fun _ _ => pgs_nil, sgts_nil⟩
theorem jtgs_cons (h : JTg c N sc e js mg) (k : JTgs c N sc es ks mr) (hs : ∀ env, (assignEach (e :: es) env).map (·.2) = assign e env :: (assignEach es env).map (·.2) := by intros; rfl) : JTgs c N sc (e :: es) (js ++ ks) (tgCons mg mr) := by
  obtain ⟨g, h1, h2⟩ := h
  obtain ⟨u, k1, k2⟩ := k
  exact ⟨_, fun X I => pgs_cons (h1 X I) (k1 X I) (hs _), sgts_cons h2 k2⟩
theorem jtg_tup (h : JTgs c N sc es js mr) (hn : ∀ env, (assignEach es env).length = n := by intros; rfl) (hst : ∀ env, (assignEach es env).findIdx? (·.1) = none := by intros; rfl) : JTg c N sc (.Tuple es k pos) js (tgTup n mr) := by
  obtain ⟨u, k1, k2⟩ := h
  refine ⟨gTup c.K n u, fun X I => ?_, sgt_tup k2⟩
  have q := pg_tup (k := k) (pos := pos) I.calm (k1 X I) (hn _) (hst _)
  rw [I.K] at q
  exact q
theorem ss_asg {te : TE} {g : TG} (h : Sd K te me) (k : SgT K js g mg) : SS K (tAsg te g) (asgS me mg) := fun σ H ρ B o S e Dn h' => by
  unfold asgS at e
  cases q : me ρ with
  | none => simp [q] at e
  | some p =>
    obtain ⟨d, ρ1⟩ := p
    cases q2 : mg d ρ1 with
    | none => simp [q, q2] at e
    | some ρ2 =>
      simp [q, q2] at e
      subst e
      exact h σ H ρ B _ _ S q _ fun v H1 A r => k σ H1 ρ1 B v d ρ2 A.sr r q2 _ fun σ' b _ _ => h' B σ' H1 (A.bf.trans S b)
theorem ss_asgo {te : TE} (h : Sf K te me) : SS K (tAsg te (gName i)) (asgS me (seto i)) := fun σ H ρ B o S e Dn h' => by
  unfold asgS at e
  cases q : me ρ with
  | none => simp [q] at e
  | some p =>
    obtain ⟨d, ρ1⟩ := p
    cases q2 : seto i d ρ1 with
    | none => simp [q, q2] at e
    | some ρ2 =>
      simp [q, q2] at e
      subst e
      exact h σ H ρ B _ _ S q _ fun l H1 A S1 hl ho => h' (ins l B) _ H1 (bf_seto S A S1 q2 hl ho)
theorem js_set (nd : N.Nodup) (hN : N[i]? = some x) (hs : Sto c sc x) (h : JE c N sc e me) (hw : ∀ env, swapsWith e (some (.Name x p1)) pos.line env = pure false := by intros; rfl) : JS c N sc (.Assign [.Name x p1] e pos) (asgS me (setv i)) := by
  obtain ⟨t, h1, h2⟩ := h
  exact ⟨_, fun X I => ps_set (by rw [I.N]; exact nd) (by rw [I.N]; exact hN) (hs.loc I) (h1 X I) (hw _) (hs.fn I), ss_asg h2 sgt_name⟩
/-- x = [..], a list of the def's own -/
theorem js_own (nd : N.Nodup) (hN : N[i]? = some x) (hs : Sto c sc x) (h : JF c N sc e me) (hw : ∀ env, swapsWith e (some (.Name x p1)) pos.line env = pure false := by intros; rfl) : JS c N sc (.Assign [.Name x p1] e pos) (asgS me (seto i)) := by
  obtain ⟨t, h1, h2⟩ := h
  exact ⟨_, fun X I => ps_set (by rw [I.N]; exact nd) (by rw [I.N]; exact hN) (hs.loc I) (h1 X I) (hw _) (hs.fn I), ss_asgo h2⟩
theorem js_asg (h : JE c N sc value me) (g : JTg c N sc e js mg) (hs : ∀ env, swapsWithSole [e] value pos.line env = pure false := by intros; rfl) (hw : ∀ env, swappedStores [e] value env = pure none := by intros; rfl)
    (h1 : ∀ env, (assignEach [e] env).map (·.2) = [assign e env] := by intros; rfl) : JS c N sc (.Assign [e] value pos) (asgS me mg) := by
  obtain ⟨t, a1, a2⟩ := h
  obtain ⟨u, b1, b2⟩ := g
  exact ⟨_, fun X I => ps_asg (a1 X I) (b1 X I) (hs _) (hw _) (h1 _), ss_asg a2 b2⟩
end
end Dz

/-! Dz. E: own lists changed, loops, comprehensions, the body of a def. -/
namespace Dz
open PySem L2

/-- a list of the def's own, in slot i -/
def mutL (i : Nat) (ρ : En) : Option (Sl × List D) := match ρ[i]? with
  | some (some (.own (.list ds))) => some (.own (.list ds), ds)
  | some (some (.bor (.list ds))) => some (.bor (.list ds), ds)
  | _ => none
theorem mutL_some {i : Nat} {ρ : En} {s : Sl} {ds : List D} (h : mutL i ρ = some (s, ds)) : ρ[i]? = some (some s) ∧ s.mu = true ∧ s.d = .list ds := by
  unfold mutL at h
  split at h
  · rename_i e; cases h; exact ⟨e, rfl, rfl⟩
  · rename_i e; cases h; exact ⟨e, rfl, rfl⟩
  · cases h
/-- a method of a list that changes it, by data -/
structure MuD (K : Frag) (XS : Cx → Prop) (id : String) (f : List D → List D → Option (D × List D)) : Prop where
  ex : ∃ r : V → List V → Hp → VK → Prop, (∀ X, XS X → MtR X id r) ∧ ∀ (B : Addr → Bool) (H : Hp) (l : Addr) (vs : List V) (ds : List D) (us : List V) (as : List D) (z : D) (ds' : List D),
    (∀ a, B a = true → ∃ o, H a = some o) → B l = true → H l = some (.lst vs) → RpL K (hide B H) vs ds → RpL K (hide B H) us as → f ds as = some (z, ds') →
    ∀ Q : VK, (∀ y vs', RpL K (hide B H) vs' ds' → Rp K (hide B H) y z → Q y (upd H l (.lst vs'))) → r (.ref l) us H Q
def mutK (i : Nat) (f : List D → List D → Option (D × List D)) (ma : En → Option (List D × En)) : En → Option (D × En) := fun ρ =>
  (mutL i ρ).bind fun _ => (ma ρ).bind fun p => (mutL i p.2).bind fun q => (f q.2 p.1).map fun z => (z.1, p.2.set i (some (q.1.wi (.list z.2))))
/-- x[k] = e, x the def's own list -/
def setiS (i : Nat) (me mi : En → Option (D × En)) : En → Option SO := fun ρ => (mutL i ρ).bind fun _ => (me ρ).bind fun p => (mi p.2).bind fun q => (mutL i q.2).bind fun u => match q.1 with
  | .int k => (ixN u.2.length k).map fun j => .nx (q.2.set i (some (u.1.wi (.list (u.2.set j p.1)))))
  | _ => none
section
variable {c : C0} {N : List Str} {sc : Scope} {e e2 : Expr} {es : List Expr} {pos p1 p2 p3 : Pos} {i : Nat} {x m : Str} {me mi : En → Option (D × En)} {ma : En → Option (List D × En)} {K : Frag} {id : String} {f : List D → List D → Option (D × List D)} {r : V → List V → Hp → VK → Prop}
theorem upd_hide {B : Addr → Bool} {H : Hp} {l : Addr} {o : HO} (b : B l = true) : hide B (upd H l o) = hide B H := by
  funext a
  unfold hide
  by_cases q : a = l
  · rw [q, b]
    rfl
  · rw [upd_ne q]
/-- an own slot stays at its place -/
theorem own_at {B : Addr → Bool} {σ : St} {H H1 : Hp} {ρ ρ1 : En} {s0 s : Sl} {l : Addr} (A : Af K B σ H ρ H1 ρ1) (h0 : ρ[i]? = some (some s0)) (m0 : s0.mu = true) (hl : σ[i]? = some (some (.ref l))) (h1 : ρ1[i]? = some (some s)) : s.mu = true ∧ B l = true ∧ OwnAt K (hide B H1) (H1 l) s.d := by
  have km := A.kin i
  rw [h0, h1] at km
  obtain ⟨t, ht, hmt⟩ := km.mu
  cases ht
  have ms : s.mu = true := hmt.trans m0
  obtain ⟨l', f1, f2, f3⟩ := A.sr.mu_ i s h1 ms
  rw [hl] at f1
  cases f1
  exact ⟨ms, f2, f3⟩
theorem sd_mut {ta : TA} (h : SA K ta ma) (hr : ∀ (B : Addr → Bool) (H : Hp) (l : Addr) (vs : List V) (ds : List D) (us : List V) (as : List D) (z : D) (ds' : List D),
    (∀ a, B a = true → ∃ o, H a = some o) → B l = true → H l = some (.lst vs) → RpL K (hide B H) vs ds → RpL K (hide B H) us as → f ds as = some (z, ds') →
    ∀ Q : VK, (∀ y vs', RpL K (hide B H) vs' ds' → Rp K (hide B H) y z → Q y (upd H l (.lst vs'))) → r (.ref l) us H Q) : Sd K (tBM K "list" r (tVar i) ta) (mutK i f ma) := fun σ H ρ B d ρ' S e Q q => by
  unfold mutK at e
  cases q0 : mutL i ρ with
  | none => simp [q0] at e
  | some u0 =>
    obtain ⟨s0, ds0⟩ := u0
    obtain ⟨a1, a2, a3⟩ := mutL_some q0
    cases q1 : ma ρ with
    | none => simp [q0, q1] at e
    | some p =>
      obtain ⟨as, ρ1⟩ := p
      cases q2 : mutL i ρ1 with
      | none => simp [q0, q1, q2] at e
      | some u1 =>
        obtain ⟨s, ds⟩ := u1
        obtain ⟨b1, b2, b3⟩ := mutL_some q2
        cases q3 : f ds as with
        | none => simp [q0, q1, q2, q3] at e
        | some z =>
          obtain ⟨z, ds'⟩ := z
          simp [q0, q1, q2, q3] at e
          obtain ⟨rfl, rfl⟩ := e
          obtain ⟨l, g1, g2, g3⟩ := S.mu_ i s0 a1 a2
          rw [a3] at g3
          obtain ⟨vs0, g4, g5⟩ := g3
          refine ⟨.ref l, g1, .inl ⟨rfl, vs0, .inl (.inl g4)⟩, ?_⟩
          refine h σ H ρ B _ _ S q1 _ fun us H1 A ra => ?_
          obtain ⟨ms, f2, f3⟩ := own_at A a1 a2 g1 b1
          rw [b3] at f3
          obtain ⟨vs, f4, f5⟩ := f3
          refine hr B H1 l vs ds us as _ _ A.sr.bk f2 f4 f5 ra q3 _ fun y vs' r1 r2 => ?_
          have w := own_write A.sr b1 ms g1 (o := .lst vs') (d' := .list ds') ⟨_, rfl, r1⟩
          refine q y _ (A.trans w) ?_
          rw [upd_hide f2]
          exact r2
theorem je_mut (ho : MuD c.K (In c N sc) id f) (slot : Slot "list" m id) (hty : typeOf (.builtin id) = pure (.type "method_descriptor")) (hN : N[i]? = some x) (hv : Vis sc x) (h : JL c N sc (e :: es) ma) (hd : (x == ("__debug__" : Str)) = false := by decide) (hcd : (x == ("__classdict__" : Str)) = false := by decide)
    (hbase : ∀ env, attributeBase (.Name x p1) m env (eval (.Name x p1) env) = eval (.Name x p1) env := by intros; rfl)
    (hfew : ∀ env, ((backTo p3 (starEach (e :: es) env)).all (fun x => !x.1) && (backToKw p3 (keywordEach [] env)).all (fun x => x.1.isSome) && decide ((e :: es).length + ([] : List Keyword).length + (if ([] : List Keyword).isEmpty then 0 else 1) < 30)) = true := by intros; rfl)
    (hline : (p2.endLine == p3.line) = true := by rfl) (hs : ∀ env, starEach (e :: es) env = (false, eval e env) :: starEach es env := by intros; rfl) (hplain : ∀ env, (backTo p3 (starEach es env)).any (·.1) = false := by intros; rfl) :
    JE c N sc (.Call (.Attribute (.Name x p1) m p2) (e :: es) [] p3) (mutK i f ma) := by
  obtain ⟨t, h1, h2⟩ := h
  obtain ⟨r, hr1, hr2⟩ := ho.ex
  refine ⟨tBM c.K "list" r (tVar i) t, fun X I => ?_, sd_mut h2 hr2⟩
  have q := pe_bm (cpos := p3) (apos := p2) PySem.F.plainAttrs_list slot hty (hr1 X I) (pe_var (X := X) (i := i) (pos := p1) (by rw [I.N]; exact hN) (I.vis hv) hd hcd) (h1 X I) (hbase _) (hfew _) hline (hs _) (hplain _)
  rw [I.K] at q
  exact q
theorem je_mut0 (ho : MuD c.K (In c N sc) id f) (slot : Slot "list" m id) (hty : typeOf (.builtin id) = pure (.type "method_descriptor")) (hN : N[i]? = some x) (hv : Vis sc x) (hd : (x == ("__debug__" : Str)) = false := by decide) (hcd : (x == ("__classdict__" : Str)) = false := by decide)
    (hbase : ∀ env, attributeBase (.Name x p1) m env (eval (.Name x p1) env) = eval (.Name x p1) env := by intros; rfl)
    (hline : (p2.endLine == p3.line) = true := by rfl) :
    JE c N sc (.Call (.Attribute (.Name x p1) m p2) [] [] p3) (mutK i f nilK) := by
  obtain ⟨r, hr1, hr2⟩ := ho.ex
  refine ⟨tBM0 c.K "list" r (tVar i), fun X I => ?_, ?_⟩
  · have q := pe_bm0 (cpos := p3) (apos := p2) PySem.F.plainAttrs_list slot hty (hr1 X I) (pe_var (X := X) (i := i) (pos := p1) (by rw [I.N]; exact hN) (I.vis hv) hd hcd) (hbase _) hline
    rw [I.K] at q
    exact q
  · exact sd_mut (K := c.K) (r := r) (i := i) (ta := tNil) (fun σ H ρ B ds ρ' S e Q q => by
      cases e
      exact q [] H (Af.refl S) .nil) hr2
def muAppend (ds as : List D) : Option (D × List D) := match as with
  | [d] => if ds.length < 100000 then some (.none, ds ++ [d]) else none
  | _ => none
theorem mu_append {XS : Cx → Prop} : MuD K XS "list.append" muAppend := ⟨_, fun X _ => mt_append, fun B H l vs ds us as z ds' bk bl hl r ra e Q q => by
  unfold muAppend at e
  split at e
  · rename_i d
    split at e
    · rename_i hn
      cases e
      cases ra with
      | cons r1 r2 =>
        cases r2
        exact ⟨l, vs, _, rfl, rfl, hl, Nat.lt_of_lt_of_le (by rw [r.length]; exact hn) (by decide), q _ _ (r.append (.cons r1 .nil)) .non⟩
    · cases e
  · cases e⟩
theorem ss_seti {te ti : TE} (h : Sd K te me) (hi : Sd K ti mi) : SS K (tAsg te (gSub (tVar i) ti rSetL)) (setiS i me mi) := fun σ H ρ B o S e Dn h' => by
  unfold setiS at e
  cases q0 : mutL i ρ with
  | none => simp [q0] at e
  | some u0 =>
    obtain ⟨s0, ds0⟩ := u0
    obtain ⟨a1, a2, a3⟩ := mutL_some q0
    cases q : me ρ with
    | none => simp [q0, q] at e
    | some p =>
      obtain ⟨d, ρ1⟩ := p
      cases q2 : mi ρ1 with
      | none => simp [q0, q, q2] at e
      | some p2 =>
        obtain ⟨d2, ρ2⟩ := p2
        cases q3 : mutL i ρ2 with
        | none => simp [q0, q, q2, q3] at e
        | some u1 =>
          obtain ⟨s, ds⟩ := u1
          obtain ⟨b1, b2, b3⟩ := mutL_some q3
          simp only [q0, q, q2, q3, Option.bind_some] at e
          split at e
          · rename_i k
            cases q4 : ixN ds.length k with
            | none => simp [q4] at e
            | some j =>
              simp [q4] at e
              subst e
              obtain ⟨l, g1, g2, g3⟩ := S.mu_ i s0 a1 a2
              refine h σ H ρ B _ _ S q _ fun v H1 A1 r1 => ?_
              refine ⟨.ref l, g1, ?_⟩
              refine hi σ H1 ρ1 B _ _ A1.sr q2 _ fun w H2 A2 r2 => ?_
              obtain ⟨ms, f2, f3⟩ := own_at (A1.trans A2) a1 a2 g1 b1
              rw [b3] at f3
              obtain ⟨vs, f4, f5⟩ := f3
              refine ⟨l, vs, k, j, rfl, r2.inti, f4, by rw [f5.length]; exact q4, ?_⟩
              have wr := own_write A2.sr b1 ms g1 (o := .lst (vs.set j v)) (d' := .list (ds.set j d)) ⟨_, rfl, f5.set (r1.mono (A2.sub A1.sr)) j⟩
              exact h' B σ _ (((A1.trans A2).trans wr).bf)
          · cases e
theorem js_seti (hN : N[i]? = some x) (hv : Vis sc x) (h : JE c N sc e me) (hi : JE c N sc e2 mi) (hd : (x == ("__debug__" : Str)) = false := by decide) (hcd : (x == ("__classdict__" : Str)) = false := by decide)
    (ha : ∀ env v, assign (.Subscript (.Name x p1) e2 p2) env v = (do
      let ov ← holding [v] (eval (.Name x p1) env)
      let iv ← holding [v, ov] (eval e2 env)
      standAt p2
      holding [v, ov, iv] (setItem ov iv v)
      release [v, ov, iv] []) := by intros; rfl)
    (hs : ∀ env, swapsWithSole [.Subscript (.Name x p1) e2 p2] e pos.line env = pure false := by intros; rfl) (hw : ∀ env, swappedStores [.Subscript (.Name x p1) e2 p2] e env = pure none := by intros; rfl)
    (h1 : ∀ env, (assignEach [.Subscript (.Name x p1) e2 p2] env).map (·.2) = [assign (.Subscript (.Name x p1) e2 p2) env] := by intros; rfl) :
    JS c N sc (.Assign [.Subscript (.Name x p1) e2 p2] e pos) (setiS i me mi) := by
  obtain ⟨t, a1, a2⟩ := h
  obtain ⟨u, b1, b2⟩ := hi
  exact ⟨_, fun X I => ps_asg (a1 X I) (pg_sub (pe_var (by rw [I.N]; exact hN) (I.vis hv) hd hcd) (b1 X I) set_list (ha _)) (hs _) (hw _) (h1 _), ss_seti a2 b2⟩
/-- the def's own list is handed on from here -/
theorem ss_frz {t : TS} {m : En → Option SO} (h : SS K t m) : SS K t (frzS i m) := fun σ H ρ B o S e Dn h' => by
  unfold frzS frz at e
  split at e
  · rename_i d hd
    simp at e
    have il : i < ρ.length := (List.getElem?_eq_some_iff.mp hd).1
    obtain ⟨l, g1, g2, g3⟩ := S.mu_ i _ hd rfl
    let B' : Addr → Bool := fun a => if a = l then false else B a
    have sub : Sub (hide B H) (hide B' H) := fun b u z => by
      obtain ⟨z1, z2⟩ := hide_some z
      refine hide_of ?_ z2
      show (if b = l then false else B b) = false
      split
      · rfl
      · exact z1
    have bl' : B' l = false := by show (if l = l then false else B l) = false; rw [if_pos rfl]
    have sr : SR K B' σ H (ρ.set i (some (.val d))) := by
      refine ⟨by simpa using S.len, fun j d' z => ?_, fun j s z m => ?_, fun j k s u l' e1 m1 e2 m2 e3 e4 => ?_, fun a z => ?_⟩
      · by_cases q : i = j
        · subst q
          rw [List.getElem?_set_self il] at z
          cases z
          refine ⟨_, g1, ?_⟩
          have h1 := OwnAt.mono sub g3
          obtain ⟨u, g⟩ := h1.ne
          refine OwnAt.rp ?_
          rw [hide_of bl' g]
          rw [g] at h1
          exact h1
        · rw [List.getElem?_set_ne q] at z
          obtain ⟨w, a, b⟩ := S.val j d' z
          exact ⟨w, a, b.mono sub⟩
      · by_cases q : i = j
        · subst q
          rw [List.getElem?_set_self il] at z
          cases z
          cases m
        · rw [List.getElem?_set_ne q] at z
          obtain ⟨k, a, b, d'⟩ := S.mu_ j s z m
          refine ⟨k, a, ?_, d'.mono sub⟩
          show (if k = l then false else B k) = true
          rw [if_neg (fun y => q (S.inj i j _ s l hd rfl z m g1 (by rw [← y]; exact a)))]
          exact b
      · by_cases q : i = j
        · subst q
          rw [List.getElem?_set_self il] at e1
          cases e1
          cases m1
        · by_cases q2 : i = k
          · subst q2
            rw [List.getElem?_set_self il] at e2
            cases e2
            cases m2
          · rw [List.getElem?_set_ne q] at e1
            rw [List.getElem?_set_ne q2] at e2
            exact S.inj j k s u l' e1 m1 e2 m2 e3 e4
      · refine S.bk a ?_
        have z' : (if a = l then false else B a) = true := z
        split at z'
        · cases z'
        · exact z'
    have bf : Bf K B σ H ρ B' σ H (ρ.set i (some (.val d))) := by
      refine ⟨sr, fun _ _ e _ => e, fun _ o e => ⟨o, e⟩, fun b z => .inl ?_, fun b z n => ?_, fun b z => ?_, fun j d' z => ?_⟩
      · have z' : (if b = l then false else B b) = true := z
        split at z'
        · cases z'
        · exact z'
      · show (if b = l then false else B b) = true
        rw [if_neg (fun y => n (by rw [y]; exact ⟨i, _, hd, rfl, g1⟩))]
        exact z
      · obtain ⟨j, s, e1, m1, e2⟩ := z
        by_cases q : i = j
        · subst q
          rw [List.getElem?_set_self il] at e1
          cases e1
          cases m1
        · rw [List.getElem?_set_ne q] at e1
          exact .inl ⟨j, s, e1, m1, e2⟩
      · by_cases q : i = j
        · subst q
          rw [hd] at z
          cases z
        · exact ⟨⟨d', by rw [List.getElem?_set_ne q]; exact z⟩, rfl⟩
    exact h σ H _ B' o sr e Dn (h'.after S bf)
  · simp at e
theorem jb_frz {s : List Stmt} {m : En → Option SO} (h : JB c N sc s m) : JB c N sc s (frzS i m) := by
  obtain ⟨t, h1, h2⟩ := h
  exact ⟨t, h1, ss_frz h2⟩
end

/-! ### what is walked -/
def ItOk (K : Frag) (J : It) (B : Addr → Bool) (H : Hp) (ds : List D) : Prop := ∀ B' H', Sub (hide B H) (hide B' H') → (∀ a, B' a = true → ∃ o, H' a = some o) →
  (∀ (i : Nat) d, ds[i]? = some d → J.go i H' ∧ ∀ x H'', J.yld i H' x H'' → Sub H' H'' ∧ Rp K (hide B' H'') x d) ∧ J.stop ds.length H'
def SI (K : Frag) (wi : TI) (m : En → Option (List D × En)) : Prop :=
  ∀ σ H ρ B ds ρ', SR K B σ H ρ → m ρ = some (ds, ρ') → ∀ R : It → Hp → Prop, (∀ J H', Af K B σ H ρ H' ρ' → ItOk K J B H' ds → R J H') → wi σ H R
def JI (c : C0) (N : List Str) (sc : Scope) (tg iter : Expr) (m : En → Option (List D × En)) : Prop := ∃ wi, (∀ X, In c N sc X → PI X tg iter wi) ∧ SI c.K wi m
def listK (m : En → Option (D × En)) : En → Option (List D × En) := fun ρ => match m ρ with
  | some (.list ds, ρ') => some (ds, ρ')
  | _ => none
def tupleK (m : En → Option (D × En)) : En → Option (List D × En) := fun ρ => match m ρ with
  | some (.tuple ds, ρ') => some (ds, ρ')
  | _ => none
/-- lo, lo + 1, .., n of them -/
def nums (lo : Int) : Nat → List D
  | 0 => []
  | n + 1 => .int lo :: nums (lo + 1) n
theorem nums_length : ∀ (n : Nat) (lo : Int), (nums lo n).length = n
  | 0, _ => rfl
  | n + 1, lo => by
    show (nums (lo + 1) n).length + 1 = n + 1
    rw [nums_length n]
theorem nums_get : ∀ (n : Nat) (lo : Int) (i : Nat) (d : D), (nums lo n)[i]? = some d → i < n ∧ d = .int (lo + i)
  | 0, _, i, d, h => by simp [nums] at h
  | n + 1, lo, 0, d, h => by
    simp [nums] at h
    exact ⟨by omega, by rw [← h]; simp⟩
  | n + 1, lo, i + 1, d, h => by
    have h' : (nums (lo + 1) n)[i]? = some d := h
    obtain ⟨a, b⟩ := nums_get n (lo + 1) i d h'
    refine ⟨by omega, ?_⟩
    rw [b]
    congr 1
    omega
def rangeK1 (m : En → Option (List D × En)) : En → Option (List D × En) := fun ρ => match m ρ with
  | some ([.int n], ρ') => if -(2 ^ 62) ≤ n ∧ n < 2 ^ 62 then some (nums 0 n.toNat, ρ') else none
  | _ => none
def rangeK2 (m : En → Option (List D × En)) : En → Option (List D × En) := fun ρ => match m ρ with
  | some ([.int a, .int b], ρ') => if -(2 ^ 62) ≤ a ∧ a < 2 ^ 62 ∧ -(2 ^ 62) ≤ b ∧ b < 2 ^ 62 then some (nums a (b - a).toNat, ρ') else none
  | _ => none
section
variable {c : C0} {N : List Str} {sc : Scope} {e a b tg : Expr} {pos p : Pos} {me : En → Option (D × En)} {ma : En → Option (List D × En)} {K : Frag}
theorem si_list {te : TE} (h : So K te me) (hv : ∀ ρ p, me ρ = some p → True) (hd : Sd K te me) : SI K (iList K te) (listK me) := fun σ H ρ B ds ρ' S e R q => by
  unfold listK at e
  split at e
  · rename_i ds' ρ1 he
    cases e
    refine hd σ H ρ B _ _ S he _ fun v H1 A r => ?_
    cases r with
    | lst hs rr =>
      refine ⟨_, rfl, ⟨_, sub_l (hide_sub B H1) hs⟩, q _ H1 A fun B' H' sb bk => ⟨fun i d hi => ?_, ?_⟩⟩
      · obtain ⟨v, g1, g2⟩ := rr.get' hi
        refine ⟨⟨_, v, sub_l ((sb.trans (hide_sub B' H'))) hs, g1⟩, fun x H'' y => ?_⟩
        obtain ⟨rfl, y⟩ := y
        refine ⟨Sub.refl _, ?_⟩
        have := y _ (sub_l (sb.trans (hide_sub B' _)) hs)
        rw [g1] at this
        cases this
        exact g2.mono sb
      · exact ⟨_, sub_l ((sb.trans (hide_sub B' H'))) hs, by rw [rr.length]; exact Nat.le_refl _⟩
  · cases e
theorem si_tup {te : TE} (hd : Sd K te me) : SI K (iTup K te) (tupleK me) := fun σ H ρ B ds ρ' S e R q => by
  unfold tupleK at e
  split at e
  · rename_i ds' ρ1 he
    cases e
    refine hd σ H ρ B _ _ S he _ fun v H1 A r => ?_
    cases r with
    | tup hs rr =>
      refine ⟨_, rfl, ⟨_, sub_t (hide_sub B H1) hs⟩, q _ H1 A fun B' H' sb bk => ⟨fun i d hi => ?_, ?_⟩⟩
      · obtain ⟨v, g1, g2⟩ := rr.get' hi
        refine ⟨⟨_, v, sub_t ((sb.trans (hide_sub B' H'))) hs, g1⟩, fun x H'' y => ?_⟩
        obtain ⟨rfl, y⟩ := y
        refine ⟨Sub.refl _, ?_⟩
        have := y _ (sub_t (sb.trans (hide_sub B' _)) hs)
        rw [g1] at this
        cases this
        exact g2.mono sb
      · exact ⟨_, sub_t ((sb.trans (hide_sub B' H'))) hs, by rw [rr.length]; exact Nat.le_refl _⟩
  · cases e
theorem ji_list (h : JE c N sc e me) : JI c N sc tg e (listK me) := by
  obtain ⟨t, h1, h2⟩ := h
  refine ⟨iList c.K t, fun X I => ?_, si_list h2.o (fun _ _ _ => trivial) h2⟩
  have q := pi_list (tg := tg) (h1 X I)
  rw [I.K] at q
  exact q
theorem ji_tup (h : JE c N sc e me) : JI c N sc tg e (tupleK me) := by
  obtain ⟨t, h1, h2⟩ := h
  refine ⟨iTup c.K t, fun X I => ?_, si_tup h2⟩
  have q := pi_tup (tg := tg) (h1 X I)
  rw [I.K] at q
  exact q
theorem it_range {B : Addr → Bool} {H : Hp} {lo : Int} {n : Nat} : ItOk K (Itr lo n) B H (nums lo n) := fun B' H' sb bk => ⟨fun i d hi => by
  obtain ⟨a, b⟩ := nums_get n lo i d hi
  refine ⟨a, fun x H'' y => ?_⟩
  obtain ⟨rfl, rfl⟩ := y
  refine ⟨Sub.refl _, ?_⟩
  rw [b]
  exact .int _, by rw [nums_length]; exact Nat.le_refl n⟩
theorem ji_range1 (hg : sc.names.lookup ("range" : Str) = some .globalImplicit) (hm : c.mg ("range" : Str) = none) (h : JL c N sc [a] ma) (hs : ∀ env, starEach [a] env = [(false, eval a env)] := by intros; rfl) : JI c N sc tg (.Call (.Name "range" p) [a] [] pos) (rangeK1 ma) := by
  obtain ⟨t, h1, h2⟩ := h
  refine ⟨iRng1 t, fun X I => pi_range1 (I.gl hg) (by rw [I.mg]; exact hm) (h1 X I) (hs _), fun σ H ρ B ds ρ' S e R q => ?_⟩
  unfold rangeK1 at e
  split at e
  · rename_i n ρ1 he
    split at e
    · rename_i hb
      cases e
      refine h2 σ H ρ B _ _ S he _ fun vs H1 A r => ?_
      cases r with
      | cons r1 r2 =>
        cases r2
        cases r1
        exact ⟨n, rfl, hb.1, hb.2, q _ H1 A it_range⟩
    · cases e
  · cases e
theorem ji_range2 (hg : sc.names.lookup ("range" : Str) = some .globalImplicit) (hm : c.mg ("range" : Str) = none) (h : JL c N sc [a, b] ma) (hs : ∀ env, starEach [a, b] env = [(false, eval a env), (false, eval b env)] := by intros; rfl) (hs2 : ∀ env, starEach [b] env = [(false, eval b env)] := by intros; rfl) : JI c N sc tg (.Call (.Name "range" p) [a, b] [] pos) (rangeK2 ma) := by
  obtain ⟨t, h1, h2⟩ := h
  refine ⟨iRng2 t, fun X I => pi_range2 (I.gl hg) (by rw [I.mg]; exact hm) (h1 X I) (hs _) (hs2 _), fun σ H ρ B ds ρ' S e R q => ?_⟩
  unfold rangeK2 at e
  split at e
  · rename_i n m ρ1 he
    split at e
    · rename_i hb
      cases e
      refine h2 σ H ρ B _ _ S he _ fun vs H1 A r => ?_
      cases r with
      | cons r1 r2 =>
        cases r2 with
        | cons r2 r3 =>
          cases r3
          cases r1
          cases r2
          exact ⟨n, m, rfl, hb, q _ H1 A it_range⟩
    · cases e
  · cases e
end

/-! ### loops -/
def forD (mg : D → En → Option En) (mb : En → Option SO) : List D → En → Option SO
  | [], ρ => some (.nx ρ)
  | d :: ds, ρ => (mg d ρ).bind fun ρ1 => (mb ρ1).bind fun o => match o with
    | .nx ρ2 => forD mg mb ds ρ2
    | .ct ρ2 => forD mg mb ds ρ2
    | .bk ρ2 => some (.nx ρ2)
    | .rt d ρ2 => some (.rt d ρ2)
def forS (mi : En → Option (List D × En)) (mg : D → En → Option En) (mb : En → Option SO) : En → Option SO := fun ρ => (mi ρ).bind fun p => forD mg mb p.1 p.2
section
variable {c : C0} {N : List Str} {sc : Scope} {e a b tg iter : Expr} {body : List Stmt} {pos p : Pos} {mi : En → Option (List D × En)} {mg : D → En → Option En} {mb : En → Option SO} {mt : En → Option (Bool × En)} {K : Frag} {js : List Nat} {tb : TS} {wi : TI} {g : TG}
theorem ss_for (hi : SI K wi mi) (hg : SgT K js g mg) (hb : SS K tb mb) : SS K (tFor wi g tb) (forS mi mg mb) := fun σ H ρ B o S e Dn h' => by
  unfold forS at e
  cases q : mi ρ with
  | none => simp [q] at e
  | some p =>
    obtain ⟨ds, ρ1⟩ := p
    simp only [q, Option.bind_some] at e
    refine hi σ H ρ B ds ρ1 S q _ fun J H1 A ok => ?_
    have h1 := h'.after S A.bf
    refine ⟨fun i m σ' H' => ∃ B' ρ', Bf K B σ H1 ρ1 B' σ' H' ρ' ∧ m = ds.length - i ∧ i ≤ ds.length ∧ forD mg mb (ds.drop i) ρ' = some o, ⟨ds.length, B, ρ1, Bf.refl A.sr, by simp, Nat.zero_le _, by simpa using e⟩, ?_⟩
    rintro i m σ' H' ⟨B', ρ', bf, rfl, hle, hf⟩
    obtain ⟨go, stop⟩ := ok B' H' (bf.sub A.sr) bf.sr.bk
    by_cases hlt : i < ds.length
    · obtain ⟨d, hd⟩ : ∃ d, ds[i]? = some d := ⟨_, List.getElem?_eq_getElem hlt⟩
      have dr : ds.drop i = d :: ds.drop (i + 1) := by
        rw [List.drop_eq_getElem_cons hlt]
        rw [List.getElem?_eq_getElem hlt] at hd
        cases hd
        rfl
      rw [dr] at hf
      obtain ⟨g1, g2⟩ := go i d hd
      refine .inr ⟨g1, fun σ2 H2 => ∃ B2 ρ2, Bf K B σ H1 ρ1 B2 σ2 H2 ρ2 ∧ forD mg mb (ds.drop (i + 1)) ρ2 = some o, fun σ2 H2 ⟨B2, ρ2, bf2, hf2⟩ => ⟨ds.length - (i + 1), by omega, B2, ρ2, bf2, rfl, hlt, hf2⟩, fun x H2 y => ?_⟩
      obtain ⟨sb, rx⟩ := g2 x H2 y
      unfold forD at hf
      cases z1 : mg d ρ' with
      | none => simp [z1] at hf
      | some ρ2 =>
        simp only [z1, Option.bind_some] at hf
        have A2 := Af.of_sub bf.sr sb
        refine hg σ' H2 ρ' B' x d ρ2 A2.sr rx z1 _ fun σ3 b3 _ _ => ?_
        have bf3 := bf.trans A.sr (A2.bf.trans bf.sr b3)
        cases z2 : mb ρ2 with
        | none => simp [z2] at hf
        | some o1 =>
          simp only [z2, Option.bind_some] at hf
          refine hb σ3 H2 ρ2 B' o1 b3.sr z2 _ ?_
          cases o1 with
          | nx ρ4 => exact fun B4 σ4 H4 b4 => ⟨B4, ρ4, bf3.trans A.sr b4, hf⟩
          | ct ρ4 => exact fun B4 σ4 H4 b4 => ⟨B4, ρ4, bf3.trans A.sr b4, hf⟩
          | bk ρ4 =>
            cases hf
            exact fun B4 σ4 H4 b4 => h1 B4 σ4 H4 (bf3.trans A.sr b4)
          | rt d4 ρ4 =>
            cases hf
            exact fun v B4 σ4 H4 b4 r4 => h1 v B4 σ4 H4 (bf3.trans A.sr b4) r4
    · have ei : i = ds.length := by omega
      subst ei
      rw [List.drop_length] at hf
      cases hf
      exact .inl ⟨stop, h1 B' σ' H' bf⟩
theorem js_for (hi : JI c N sc tg iter mi) (hg : JTg c N sc tg js mg) (hb : JB c N sc body mb) (hs : ∀ env x, foldedSetIterable iter env x = pure x := by intros; rfl) : JS c N sc (.For tg iter body [] pos) (forS mi mg mb) := by
  obtain ⟨wi, a1, a2⟩ := hi
  obtain ⟨g, b1, b2⟩ := hg
  obtain ⟨t, c1, c2⟩ := hb
  exact ⟨_, fun X I => ps_for I.po I.calm (a1 X I) (b1 X I) (c1 X I) (hs _), ss_for a2 b2 c2⟩
end
end Dz

/-! Dz. F: while, comprehensions, the body of a def. -/
namespace Dz
open PySem L2

/-! ### while -/
def whileF (mt : En → Option (Bool × En)) (mb : En → Option SO) : Nat → En → Option SO
  | 0, _ => none
  | n + 1, ρ => (mt ρ).bind fun p => if p.1 = true then (mb p.2).bind fun o => match o with
    | .nx ρ2 => whileF mt mb n ρ2
    | .ct ρ2 => whileF mt mb n ρ2
    | .bk ρ2 => some (.nx ρ2)
    | .rt d ρ2 => some (.rt d ρ2) else some (.nx p.2)
theorem whileF_more {mt : En → Option (Bool × En)} {mb : En → Option SO} : ∀ (n : Nat) (ρ : En) (o : SO), whileF mt mb n ρ = some o → whileF mt mb (n + 1) ρ = some o
  | 0, ρ, o, h => by cases h
  | n + 1, ρ, o, h => by
    unfold whileF at h ⊢
    cases q : mt ρ with
    | none => simp [q] at h
    | some p =>
      obtain ⟨b, ρ1⟩ := p
      simp only [q, Option.bind_some] at h ⊢
      cases b with
      | false => exact h
      | true =>
        rw [if_pos rfl] at h ⊢
        cases q2 : mb ρ1 with
        | none => simp [q2] at h
        | some o1 =>
          simp only [q2, Option.bind_some] at h ⊢
          cases o1 with
          | nx ρ2 => exact whileF_more n ρ2 o h
          | ct ρ2 => exact whileF_more n ρ2 o h
          | bk ρ2 => exact h
          | rt d ρ2 => exact h
theorem whileF_le {mt : En → Option (Bool × En)} {mb : En → Option SO} {ρ : En} {o : SO} {n : Nat} (h : whileF mt mb n ρ = some o) : ∀ k, whileF mt mb (n + k) ρ = some o
  | 0 => h
  | k + 1 => whileF_more _ _ _ (whileF_le h k)
open Classical in
noncomputable def whileS (mt : En → Option (Bool × En)) (mb : En → Option SO) : En → Option SO := fun ρ => if h : ∃ o n, whileF mt mb n ρ = some o then some h.choose else none
theorem whileS_of {mt : En → Option (Bool × En)} {mb : En → Option SO} {ρ : En} {o : SO} {n : Nat} (h : whileF mt mb n ρ = some o) : whileS mt mb ρ = some o := by
  have hh : ∃ o n, whileF mt mb n ρ = some o := ⟨o, n, h⟩
  unfold whileS
  rw [dif_pos hh]
  obtain ⟨n', h'⟩ := hh.choose_spec
  have a := whileF_le h n'
  have b := whileF_le h' n
  rw [Nat.add_comm] at b
  rw [a] at b
  exact b.symm
section
variable {c : C0} {N : List Str} {sc : Scope} {e : Expr} {body : List Stmt} {pos p : Pos} {mb : En → Option SO} {mt : En → Option (Bool × En)} {K : Frag} {tb : TS} {tt : TT}
theorem ss_while (ht : Stt K tt mt) (hb : SS K tb mb) : SS K (tWhile tt tb) (whileS mt mb) := fun σ H ρ B o S e Dn h' => by
  unfold whileS at e
  split at e
  · rename_i hh
    obtain ⟨n, hn⟩ := hh.choose_spec
    have eo : hh.choose = o := Option.some.inj e
    rw [eo] at hn
    refine ⟨fun m σ' H' => ∃ B' ρ', Bf K B σ H ρ B' σ' H' ρ' ∧ whileF mt mb m ρ' = some o, ⟨n, B, ρ, Bf.refl S, hn⟩, ?_⟩
    rintro m σ' H' ⟨B', ρ', bf, hf⟩
    cases m with
    | zero => cases hf
    | succ m =>
      unfold whileF at hf
      cases q : mt ρ' with
      | none => simp [q] at hf
      | some p =>
        obtain ⟨b, ρ1⟩ := p
        simp only [q, Option.bind_some] at hf
        refine ht σ' H' ρ' B' b ρ1 bf.sr q _ fun H1 A => ?_
        have bf1 := bf.trans S A.bf
        cases b with
        | false =>
          simp at hf
          subst hf
          exact h' B' σ' H1 bf1
        | true =>
          rw [if_pos rfl] at hf
          show ∃ N : L2.St → Hp → Prop, _
          refine ⟨fun σ2 H2 => ∃ B2 ρ2, Bf K B σ H ρ B2 σ2 H2 ρ2 ∧ whileF mt mb m ρ2 = some o, fun σ2 H2 ⟨B2, ρ2, a, b⟩ => ⟨m, Nat.lt_succ_self m, B2, ρ2, a, b⟩, ?_⟩
          cases q2 : mb ρ1 with
          | none => simp [q2] at hf
          | some o1 =>
            simp only [q2, Option.bind_some] at hf
            refine hb σ' H1 ρ1 B' o1 A.sr q2 _ ?_
            cases o1 with
            | nx ρ4 => exact fun B4 σ4 H4 b4 => ⟨B4, ρ4, bf1.trans S b4, hf⟩
            | ct ρ4 => exact fun B4 σ4 H4 b4 => ⟨B4, ρ4, bf1.trans S b4, hf⟩
            | bk ρ4 =>
              cases hf
              exact fun B4 σ4 H4 b4 => h' B4 σ4 H4 (bf1.trans S b4)
            | rt d4 ρ4 =>
              cases hf
              exact fun v B4 σ4 H4 b4 r4 => h' v B4 σ4 H4 (bf1.trans S b4) r4
  · cases e
theorem js_while (ht : JT c N sc e mt) (hb : JB c N sc body mb) : JS c N sc (.While e body [] pos) (whileS mt mb) := by
  obtain ⟨t, a1, a2⟩ := ht
  obtain ⟨u, b1, b2⟩ := hb
  exact ⟨_, fun X I => ps_while I.po (a1 X I) (b1 X I), ss_while a2 b2⟩
end

/-! ### comprehensions -/
def wipeA {α : Type} (l : List (Option α)) : List Nat → List (Option α)
  | [] => l
  | v :: vs => (wipeA l vs).set v none
theorem wipe_eq (σ : L2.St) : ∀ vs, wipe σ vs = wipeA σ vs
  | [] => rfl
  | v :: vs => by
    show (wipe σ vs).set v none = (wipeA σ vs).set v none
    rw [wipe_eq σ vs]
theorem wipeA_length {α : Type} (l : List (Option α)) : ∀ vs, (wipeA l vs).length = l.length
  | [] => rfl
  | v :: vs => by
    show ((wipeA l vs).set v none).length = _
    rw [List.length_set, wipeA_length l vs]
theorem wipeA_out {α : Type} {l : List (Option α)} {j : Nat} : ∀ {vs : List Nat}, j ∉ vs → (wipeA l vs)[j]? = l[j]?
  | [], _ => rfl
  | v :: vs, h => by
    rw [List.mem_cons, not_or] at h
    show ((wipeA l vs).set v none)[j]? = _
    rw [List.getElem?_set_ne (Ne.symm h.1), wipeA_out h.2]
theorem wipeA_in {α : Type} {l : List (Option α)} {j : Nat} : ∀ {vs : List Nat}, j ∈ vs → j < l.length → (wipeA l vs)[j]? = some none
  | v :: vs, h, hl => by
    show ((wipeA l vs).set v none)[j]? = _
    by_cases e : v = j
    · subst e
      rw [List.getElem?_set_self (by rw [wipeA_length]; exact hl)]
    · rw [List.getElem?_set_ne e]
      rcases List.mem_cons.mp h with z | z
      · exact absurd z.symm e
      · exact wipeA_in z hl
theorem wipeA_some {α : Type} {l : List (Option α)} {j : Nat} {x : α} {vs : List Nat} (h : (wipeA l vs)[j]? = some (some x)) : j ∉ vs ∧ l[j]? = some (some x) := by
  by_cases q : j ∈ vs
  · by_cases hl : j < l.length
    · rw [wipeA_in q hl] at h
      cases h
    · rw [List.getElem?_eq_none (by rw [wipeA_length]; omega)] at h
      cases h
  · rw [wipeA_out q] at h
    exact ⟨q, h⟩
def unw (ρ ρ3 : En) : List Nat → En
  | [] => ρ3
  | v :: vs => (unw ρ ρ3 vs).set v (ρ[v]?.getD none)
theorem unw_length (ρ ρ3 : En) : ∀ vs, (unw ρ ρ3 vs).length = ρ3.length
  | [] => rfl
  | v :: vs => by
    show ((unw ρ ρ3 vs).set v _).length = _
    rw [List.length_set, unw_length ρ ρ3 vs]
theorem unw_out {ρ ρ3 : En} {j : Nat} : ∀ {vs : List Nat}, j ∉ vs → (unw ρ ρ3 vs)[j]? = ρ3[j]?
  | [], _ => rfl
  | v :: vs, h => by
    rw [List.mem_cons, not_or] at h
    show ((unw ρ ρ3 vs).set v _)[j]? = _
    rw [List.getElem?_set_ne (Ne.symm h.1), unw_out h.2]
theorem unw_in {ρ ρ3 : En} {j : Nat} (hl : ρ3.length = ρ.length) : ∀ {vs : List Nat}, j ∈ vs → (unw ρ ρ3 vs)[j]? = ρ[j]?
  | v :: vs, h => by
    show ((unw ρ ρ3 vs).set v (ρ[v]?.getD none))[j]? = _
    by_cases e : v = j
    · subst e
      by_cases q : v < ρ.length
      · rw [List.getElem?_set_self (by rw [unw_length, hl]; exact q), List.getElem?_eq_getElem q]
        rfl
      · rw [List.getElem?_eq_none (show ((unw ρ ρ3 vs).set v (ρ[v]?.getD none)).length ≤ v by rw [List.length_set, unw_length]; omega), List.getElem?_eq_none (show ρ.length ≤ v by omega)]
    · rw [List.getElem?_set_ne e]
      rcases List.mem_cons.mp h with z | z
      · exact absurd z.symm e
      · exact unw_in hl z
section
variable {K : Frag} {B : Addr → Bool} {σ σ2 : L2.St} {H H2 H4 : Hp} {ρ ρ2 ρ4 : En} {vs js : List Nat}
theorem mine_wipe {b : Addr} (h : Mine (wipe σ vs) (wipeA ρ vs) b) : Mine σ ρ b ∧ ∃ (j : Nat) (s : Sl), j ∉ vs ∧ ρ[j]? = some (some s) ∧ s.mu = true ∧ σ[j]? = some (some (.ref b)) := by
  obtain ⟨i, s, e1, m, e2⟩ := h
  obtain ⟨a, b'⟩ := wipeA_some e1
  rw [wipe_eq] at e2
  obtain ⟨_, d⟩ := wipeA_some e2
  exact ⟨⟨i, s, b', m, d⟩, i, s, a, b', m, d⟩
theorem SR.wipe (S : SR K B σ H ρ) : SR K B (wipe σ vs) H (wipeA ρ vs) := by
  refine ⟨by rw [wipe_eq, wipeA_length, wipeA_length]; exact S.len, fun i d e => ?_, fun i s e m => ?_, fun i j s t l e1 m1 e2 m2 e3 e4 => ?_, S.bk⟩
  · obtain ⟨a, b⟩ := wipeA_some e
    obtain ⟨v, c, d⟩ := S.val i d b
    exact ⟨v, by rw [wipe_eq, wipeA_out a]; exact c, d⟩
  · obtain ⟨a, b⟩ := wipeA_some e
    obtain ⟨v, c, d⟩ := S.mu_ i s b m
    exact ⟨v, by rw [wipe_eq, wipeA_out a]; exact c, d⟩
  · obtain ⟨_, a⟩ := wipeA_some e1
    obtain ⟨_, b⟩ := wipeA_some e2
    rw [wipe_eq] at e3 e4
    obtain ⟨_, c⟩ := wipeA_some e3
    obtain ⟨_, d⟩ := wipeA_some e4
    exact S.inj i j s t l a m1 b m2 c d
theorem SR.upd_hidden {l : Addr} {o : HO} (S : SR K B σ H ρ) (b : B l = true) (n : ¬ Mine σ ρ l) : SR K B σ (upd H l o) ρ := by
  refine ⟨S.len, fun i d e => ?_, fun i s e m => ?_, S.inj, fun a q => ?_⟩
  · rw [upd_hide b]
    exact S.val i d e
  · obtain ⟨k, g1, g2, g3⟩ := S.mu_ i s e m
    rw [upd_hide b]
    refine ⟨k, g1, g2, ?_⟩
    rw [upd_ne (fun z => n ⟨i, s, e, m, by rw [← z]; exact g1⟩)]
    exact g3
  · by_cases z : a = l
    · exact ⟨o, by rw [z, upd_same]⟩
    · rw [upd_ne z]
      exact S.bk a q
/-- behind a turn's block: the names of the block forgotten -/
theorem back_sr (S : SR K B σ H2 ρ) (b2 : Bf K B (wipe σ vs) H2 (wipeA ρ vs) B σ2 H2 ρ2) (loc : ∀ j, j ∉ js → σ2[j]? = (wipe σ vs)[j]? ∧ ρ2[j]? = (wipeA ρ vs)[j]?) (hj : ∀ j, j ∈ js → j ∈ vs) (hl : σ2.length = (wipe σ vs).length) (A : Af K B σ2 H2 ρ2 H4 ρ4) :
    SR K B σ H4 (unw ρ ρ4 vs) ∧ Kin ρ (unw ρ ρ4 vs) ∧ (∀ b o, H2 b = some o → ¬ Mine σ ρ b → H4 b = some o) ∧ (∀ b o, H2 b = some o → ∃ o', H4 b = some o') := by
  have l4 : ρ4.length = ρ.length := by
    rw [← A.sr.len, hl, wipe_eq, wipeA_length, S.len]
  have out : ∀ j, j ∉ vs → σ2[j]? = σ[j]? ∧ ρ2[j]? = ρ[j]? := fun j h => by
    obtain ⟨a, b⟩ := loc j fun z => h (hj j z)
    rw [wipe_eq, wipeA_out h] at a
    rw [wipeA_out h] at b
    exact ⟨a, b⟩
  have mine : ∀ b, (∃ o, H2 b = some o) → Mine σ2 ρ2 b → Mine σ ρ b ∧ ∃ (j : Nat) (s : Sl), j ∉ vs ∧ ρ[j]? = some (some s) ∧ s.mu = true ∧ σ[j]? = some (some (.ref b)) := fun b ⟨o, e⟩ h => by
    rcases b2.mine b h with z | z
    · exact mine_wipe z
    · rw [e] at z; cases z
  have kin : Kin ρ (unw ρ ρ4 vs) := fun j => by
    by_cases q : j ∈ vs
    · rw [unw_in l4 q]
      exact Ks.refl _
    · rw [unw_out q]
      have k := A.kin j
      rw [(out j q).2] at k
      exact k
  have hs : Sub (hide B H2) (hide B H4) := A.sub b2.sr
  refine ⟨⟨by rw [unw_length, l4]; exact S.len, fun j d e => ?_, fun j s e m => ?_, fun i j s t l e1 m1 e2 m2 e3 e4 => ?_, A.sr.bk⟩, kin, fun b o e n => A.keep b o e fun m => n (mine b ⟨o, e⟩ m).1, A.grow⟩
  · by_cases q : j ∈ vs
    · rw [unw_in l4 q] at e
      obtain ⟨v, a, b⟩ := S.val j d e
      exact ⟨v, a, b.mono hs⟩
    · rw [unw_out q] at e
      obtain ⟨v, a, b⟩ := A.sr.val j d e
      rw [(out j q).1] at a
      exact ⟨v, a, b⟩
  · by_cases q : j ∈ vs
    · rw [unw_in l4 q] at e
      obtain ⟨l, a, b, k⟩ := S.mu_ j s e m
      refine ⟨l, a, b, ?_⟩
      obtain ⟨o, ho⟩ := k.ne
      have nm : ¬ Mine σ2 ρ2 l := fun z => by
        obtain ⟨_, j', s', n', e', m', h'⟩ := mine l ⟨o, ho⟩ z
        exact n' (by rw [← S.inj j j' s s' l e m e' m' a h']; exact q)
      rw [A.keep l o ho nm]
      rw [ho] at k
      exact k.mono hs
    · rw [unw_out q] at e
      obtain ⟨l, a, b, k⟩ := A.sr.mu_ j s e m
      rw [(out j q).1] at a
      exact ⟨l, a, b, k⟩
  · have k1 := kin i
    rw [e1] at k1
    obtain ⟨u1, a1, n1⟩ := k1.mu'
    have k2 := kin j
    rw [e2] at k2
    obtain ⟨u2, a2, n2⟩ := k2.mu'
    exact S.inj i j u1 u2 l a1 (n1.trans m1) a2 (n2.trans m2) e3 e4
theorem SR.unins {l : Addr} {H1 : Hp} {ρ1 : En} (S : SR K (Dz.ins l B) σ H ρ) (S1 : SR K B σ H1 ρ1) (k : Kin ρ1 ρ) (g : ∀ b o, H1 b = some o → ∃ o', H b = some o') : SR K B σ H ρ := by
  refine ⟨S.len, fun i d e => ?_, fun i s e m => ?_, S.inj, fun a h => ?_⟩
  · obtain ⟨v, a, b⟩ := S.val i d e
    exact ⟨v, a, b.mono ins_sub⟩
  · obtain ⟨l', a, b, d⟩ := S.mu_ i s e m
    have kk := k i
    rw [e] at kk
    obtain ⟨t, e1, m1⟩ := kk.mu'
    obtain ⟨l2, a2, b2, _⟩ := S1.mu_ i t e1 (m1.trans m)
    rw [a] at a2
    cases a2
    exact ⟨l', a, b2, d.mono ins_sub⟩
  · obtain ⟨o, e⟩ := S1.bk a h
    exact g a o e
end
def yesK : En → Option (Bool × En) := fun ρ => some (true, ρ)
def lcD (vs : List Nat) (mg : D → En → Option En) (mt : En → Option (Bool × En)) (me : En → Option (D × En)) : List D → List D → En → Option (List D × En)
  | [], acc, ρ => some (acc, ρ)
  | d :: ds, acc, ρ => (mg d (wipeA ρ vs)).bind fun ρ1 => (mt ρ1).bind fun p => if p.1 = true then (me p.2).bind fun q => if acc.length < 100000 then lcD vs mg mt me ds (acc ++ [q.1]) (unw ρ q.2 vs) else none
    else lcD vs mg mt me ds acc (unw ρ p.2 vs)
def lcK (vs : List Nat) (mi : En → Option (List D × En)) (mg : D → En → Option En) (mt : En → Option (Bool × En)) (me : En → Option (D × En)) : En → Option (D × En) := fun ρ =>
  (mi ρ).bind fun p => (lcD vs mg mt me p.1 [] p.2).map fun q => (.list q.1, q.2)
section
variable {K : Frag} {vs js : List Nat} {mi : En → Option (List D × En)} {mg : D → En → Option En} {mt : En → Option (Bool × En)} {me : En → Option (D × En)} {wi : TI} {g : TG} {tt : TT} {te : TE}
theorem sf_lc (hi : SI K wi mi) (hg : SgT K js g mg) (hj : ∀ j, j ∈ js → j ∈ vs) (ht : Stt K tt mt) (he : Sd K te me) : Sf K (tLc wi g tt te vs) (lcK vs mi mg mt me) := fun σ H ρ B d ρ' S e Q q => by
  unfold lcK at e
  cases q1 : mi ρ with
  | none => simp [q1] at e
  | some p =>
    obtain ⟨ds, ρ1⟩ := p
    cases q2 : lcD vs mg mt me ds [] ρ1 with
    | none => simp [q1, q2] at e
    | some r =>
      obtain ⟨accF, ρF⟩ := r
      simp [q1, q2] at e
      obtain ⟨rfl, rfl⟩ := e
      refine hi σ H ρ B ds ρ1 S q1 _ fun J H1 A ok => fun L hL => ?_
      have bL : B L = false := A.sr.fresh hL
      have nL : ¬ Mine σ ρ1 L := fun m => by
        have := A.sr.mine m
        rw [bL] at this
        cases this
      refine ⟨fun i m H' => ∃ ρk acc av, m = ds.length - i ∧ i ≤ ds.length ∧ SR K (ins L B) σ H' ρk ∧ Kin ρ1 ρk ∧ (∀ b o, H1 b = some o → ¬ Mine σ ρ1 b → H' b = some o) ∧ (∀ b o, H1 b = some o → ∃ o', H' b = some o') ∧ H' L = some (.lst av) ∧ RpL K (hide (ins L B) H') av acc ∧ lcD vs mg mt me (ds.drop i) acc ρk = some (accF, ρF),
        ⟨ds.length, ρ1, [], [], by simp, Nat.zero_le _, A.sr.ins hL (Sub.new hL) ⟨_, upd_same⟩, Kin.refl _, fun b o e _ => ?_, fun b o e => ⟨o, ?_⟩, upd_same, .nil, by simpa using q2⟩, ?_⟩
      · rw [upd_ne (ne_of_none e hL)]; exact e
      · rw [upd_ne (ne_of_none e hL)]; exact e
      rintro i m H' ⟨ρk, acc, av, rfl, hle, Sk, kin, keep, grow, hA, rA, hf⟩
      have vis : Sub (hide B H1) (hide (ins L B) H') := fun a o z => by
        obtain ⟨z1, z2⟩ := hide_some z
        refine hide_of ?_ (keep a o z2 fun m => by rw [A.sr.mine m] at z1; cases z1)
        cases q : ins L B a with
        | false => rfl
        | true =>
          rcases ins_or q with y | y
          · rw [y, hL] at z2; cases z2
          · rw [z1] at y; cases y
      obtain ⟨go, stop⟩ := ok (ins L B) H' vis Sk.bk
      by_cases hlt : i < ds.length
      · obtain ⟨d, hd⟩ : ∃ d, ds[i]? = some d := ⟨_, List.getElem?_eq_getElem hlt⟩
        have dr : ds.drop i = d :: ds.drop (i + 1) := by
          rw [List.drop_eq_getElem_cons hlt]
          rw [List.getElem?_eq_getElem hlt] at hd
          cases hd
          rfl
        rw [dr] at hf
        obtain ⟨g1, g2⟩ := go i d hd
        refine .inr ⟨g1, fun H' => ∃ ρk acc av, SR K (ins L B) σ H' ρk ∧ Kin ρ1 ρk ∧ (∀ b o, H1 b = some o → ¬ Mine σ ρ1 b → H' b = some o) ∧ (∀ b o, H1 b = some o → ∃ o', H' b = some o') ∧ H' L = some (.lst av) ∧ RpL K (hide (ins L B) H') av acc ∧ lcD vs mg mt me (ds.drop (i + 1)) acc ρk = some (accF, ρF),
          fun H'' ⟨ρ2, ac, av, h⟩ => ⟨ds.length - (i + 1), by omega, ρ2, ac, av, rfl, hlt, h⟩, fun x H2 y => ?_⟩
        obtain ⟨sb, rx⟩ := g2 x H2 y
        unfold lcD at hf
        cases z1 : mg d (wipeA ρk vs) with
        | none => simp [z1] at hf
        | some ρ2 =>
          simp only [z1, Option.bind_some] at hf
          have S2 : SR K (ins L B) σ H2 ρk := Sk.grow sb
          refine hg (wipe σ vs) H2 (wipeA ρk vs) (ins L B) x d ρ2 S2.wipe rx z1 _ fun σ2 b2 loc hl => ?_
          have wip : wipe σ2 vs = wipe σ vs := by
            rw [wipe_eq, wipe_eq]
            have hl' : σ2.length = σ.length := by rw [hl, wipe_eq, wipeA_length]
            refine List.ext_getElem? fun j => ?_
            by_cases q : j ∈ vs
            · by_cases q' : j < σ.length
              · rw [wipeA_in q (by omega), wipeA_in q q']
              · rw [List.getElem?_eq_none (by rw [wipeA_length]; omega), List.getElem?_eq_none (by rw [wipeA_length]; omega)]
            · rw [wipeA_out q, wipeA_out q, (loc j fun z => q (hj j z)).1, wipe_eq, wipeA_out q]
          refine ⟨wip, ?_⟩
          cases z2 : mt ρ2 with
          | none => simp [z2] at hf
          | some p3 =>
            obtain ⟨b, ρ3⟩ := p3
            simp only [z2, Option.bind_some] at hf
            have hAL : H2 L = some (.lst av) := sb _ _ hA
            have nL2 : ¬ Mine σ2 ρ2 L := fun m => by
              rcases b2.mine L m with z | z
              · exact nL (kin.mine.mp (mine_wipe z).1)
              · rw [hAL] at z; cases z
            refine ht σ2 H2 ρ2 (ins L B) b ρ3 b2.sr z2 _ fun H3 A3 => ?_
            have conv : ∀ {H4 : Hp} {ρ4 : En}, Af K (ins L B) σ2 H2 ρ2 H4 ρ4 → SR K (ins L B) σ H4 (unw ρk ρ4 vs) ∧ Kin ρ1 (unw ρk ρ4 vs) ∧ (∀ b o, H1 b = some o → ¬ Mine σ ρ1 b → H4 b = some o) ∧ (∀ b o, H1 b = some o → ∃ o', H4 b = some o') ∧ H4 L = some (.lst av) ∧ RpL K (hide (ins L B) H4) av acc := fun {H4 ρ4} A4 => by
              obtain ⟨a1, a2, a3, a4⟩ := back_sr S2 b2 loc hj hl A4
              refine ⟨a1, kin.trans a2, fun b o e n => a3 b o (sb _ _ (keep b o e n)) fun m => n (kin.mine.mp m), fun b o e => ?_, A4.keep L _ hAL nL2, (rA.mono (hsub sb)).mono (A4.sub b2.sr)⟩
              obtain ⟨o', e'⟩ := grow b o e
              exact a4 b o' (sb _ _ e')
            cases b with
            | false =>
              simp at hf
              obtain ⟨c1, c2, c3, c4, c5, c6⟩ := conv A3
              exact ⟨_, acc, av, c1, c2, c3, c4, c5, c6, hf⟩
            | true =>
              rw [if_pos rfl] at hf
              show te σ2 H3 _
              cases z3 : me ρ3 with
              | none => simp [z3] at hf
              | some p4 =>
                obtain ⟨z, ρ4⟩ := p4
                simp only [z3, Option.bind_some] at hf
                split at hf
                · rename_i hn
                  refine he σ2 H3 ρ3 (ins L B) z ρ4 A3.sr z3 _ fun v H4 A4 rv => ?_
                  obtain ⟨c1, c2, c3, c4, c5, c6⟩ := conv (A3.trans A4)
                  refine ⟨av, c5, Nat.lt_of_lt_of_le (by rw [rA.length]; exact hn) (by decide), unw ρk ρ4 vs, acc ++ [z], av ++ [v], ?_, c2, fun b o e n => ?_, fun b o e => ?_, upd_same, ?_, hf⟩
                  · exact c1.upd_hidden ins_self fun m => nL (c2.mine.mp m)
                  · rw [upd_ne (ne_of_none e hL)]; exact c3 b o e n
                  · rw [upd_ne (ne_of_none e hL)]; exact c4 b o e
                  · rw [upd_hide ins_self]
                    exact c6.append (.cons rv .nil)
                · cases hf
      · have ei : i = ds.length := by omega
        subst ei
        rw [List.drop_length] at hf
        cases hf
        have A2 : Af K B σ H1 ρ1 H' ρF := ⟨Sk.unins A.sr kin grow, keep, grow, kin⟩
        exact .inl ⟨stop, q L H' (A.trans A2) Sk (back_none A hL) (by rw [hA]; exact ⟨av, rfl, rA⟩)⟩
end
/-- the contexts of a block within -/
abbrev C0.in_ (c : C0) : C0 := { c with top := false }
section
variable {c : C0} {N : List Str} {sc scope : Scope} {elt tg iter : Expr} {ifs : List Expr} {pos p1 spos : Pos} {own : List (Str × Nat)} {js : List Nat} {mi : En → Option (List D × En)} {mg : D → En → Option En} {mt : En → Option (Bool × En)} {me : En → Option (D × En)} {i : Nat} {x : Str}
theorem In.blk {X : Cx} (I : In c N sc X) (s : Shared) (H : Hp) (C : Addr) (cl : List (Str × Addr)) (fp : List Addr) : In c.in_ N (relS scope sc) (X.blk s H scope (compEnvC scope cl C X.env) fp) :=
  ⟨I.P, I.w, I.K, I.mg, I.base, I.rm, I.N, by
    show relS scope X.env.scope = _
    rw [I.sc], I.calm, fun h => (by cases h), PassesOwn.never⟩
def JTs (c : C0) (N : List Str) (sc : Scope) (es : List Expr) (m : En → Option (Bool × En)) : Prop := ∃ t, (∀ X, In c N sc X → PTs X es t) ∧ Stt c.K t m
theorem jts_nil : JTs c N sc [] yesK := ⟨_, fun _ _ => pts_nil, fun σ H ρ B d ρ' S e Q q => by
  cases e
  exact q H (Af.refl S)⟩
theorem jts_one {e : Expr} (h : JT c N sc e mt) : JTs c N sc [e] mt := by
  obtain ⟨t, h1, h2⟩ := h
  exact ⟨t, fun X I => pts_one (h1 X I), h2⟩
theorem jf_lc (nd : N.Nodup) (hi : JI c N sc tg iter mi) (ok : BlkOk N sc scope own) (hg : JTg c.in_ N (relS scope sc) tg js mg) (ht : JTs c.in_ N (relS scope sc) ifs mt) (he : JE c.in_ N (relS scope sc) elt me)
    (hj : (js.all fun j => (own.map (·.2)).contains j) = true := by rfl) (hs : ∀ env x, foldedSetIterable iter env x = pure x := by intros; rfl) : JF c N sc (.ListComp elt [⟨tg, iter, ifs, 0⟩] scope pos) (lcK (own.map (·.2)) mi mg mt me) := by
  obtain ⟨wi, a1, a2⟩ := hi
  obtain ⟨g, b1, b2⟩ := hg
  obtain ⟨tt, c1, c2⟩ := ht
  obtain ⟨te, d1, d2⟩ := he
  refine ⟨_, fun X I => pe_lc I.calm (by rw [I.N]; exact nd) (a1 X I) (by rw [I.N, I.sc]; exact ok) (fun s H C cl fp => b1 _ (I.blk s H C cl fp)) (fun s H C cl fp => c1 _ (I.blk s H C cl fp)) (fun s H C cl fp => d1 _ (I.blk s H C cl fp)) (hs _), sf_lc a2 b2 (fun j h => ?_) c2 d2⟩
  have := (List.all_eq_true.mp hj) j h
  simpa using this
theorem js_lc {mgo : D → En → Option En} (so : ∀ te, Sf c.K te (lcK (own.map (·.2)) mi mg mt me) → SS c.K (tAsg te (gName i)) (asgS (lcK (own.map (·.2)) mi mg mt me) mgo)) (nd : N.Nodup) (hN : N[i]? = some x) (hx : sc.names.lookup x = some .local) (hk : sc.kind = .function) (hl : (p1.line == pos.line) = true) (hn : (scope.names.any fun (n, k) => n == x && (k == .local || k == .cell)) = false)
    (hi : JI c N sc tg iter mi) (ok : BlkOk N sc scope own) (hg : JTg c.in_ N (relS scope sc) tg js mg) (ht : JTs c.in_ N (relS scope sc) ifs mt) (he : JE c.in_ N (relS scope sc) elt me)
    (hj : (js.all fun j => (own.map (·.2)).contains j) = true := by rfl) (hs : ∀ env x, foldedSetIterable iter env x = pure x := by intros; rfl) : JS c N sc (.Assign [.Name x p1] (.ListComp elt [⟨tg, iter, ifs, 0⟩] scope pos) spos) (asgS (lcK (own.map (·.2)) mi mg mt me) mgo) := by
  obtain ⟨wi, a1, a2⟩ := hi
  obtain ⟨g, b1, b2⟩ := hg
  obtain ⟨tt, c1, c2⟩ := ht
  obtain ⟨te, d1, d2⟩ := he
  refine ⟨_, fun X I => ps_setLc I.calm (by rw [I.N]; exact nd) (by rw [I.N]; exact hN) (by rw [I.sc]; exact hx) (sw_true (by rw [I.sc]; exact hk) (by rw [I.sc]; exact hx) hl hn) (a1 X I) (by rw [I.N, I.sc]; exact ok) (fun s H C cl fp => b1 _ (I.blk s H C cl fp)) (fun s H C cl fp => c1 _ (I.blk s H C cl fp)) (fun s H C cl fp => d1 _ (I.blk s H C cl fp)) (hs _), so _ (sf_lc a2 b2 (fun j h => ?_) c2 d2)⟩
  have := (List.all_eq_true.mp hj) j h
  simpa using this
end

/-! ### a def -/
def noOwn : List Sl → Bool
  | [] => true
  | .own _ :: _ => false
  | _ :: r => noOwn r
def finA : List Sl → En → List Sl
  | .bor _ :: r, some (.bor e) :: q => .bor e :: finA r q
  | a :: r, _ :: q => a :: finA r q
  | as, _ => as
def runF (p n : Nat) (m : En → Option SO) : Fm := fun as => if as.length = p ∧ noOwn as = true then (match m (as.map some ++ List.replicate (n - p) none) with
  | some (.rt d ρ) => some (d, finA as ρ)
  | some (.nx ρ) => some (.none, finA as ρ)
  | _ => none) else none
theorem noOwn_get : ∀ {as : List Sl} {i : Nat} {d : D}, noOwn as = true → as[i]? ≠ some (.own d)
  | [], i, d, _ => by simp
  | .val d :: r, 0, _, _ => by simp
  | .bor d :: r, 0, _, _ => by simp
  | .own d :: r, _, _, h => by cases h
  | .val d :: r, i + 1, e, h => by simpa using noOwn_get (as := r) (i := i) (d := e) h
  | .bor d :: r, i + 1, e, h => by simpa using noOwn_get (as := r) (i := i) (d := e) h
theorem finA_get : ∀ (as : List Sl) (ρ : En) (i : Nat), (finA as ρ).length = as.length ∧ ((∃ d e, as[i]? = some (.bor d) ∧ ρ[i]? = some (some (.bor e)) ∧ (finA as ρ)[i]? = some (.bor e)) ∨ ((finA as ρ)[i]? = as[i]? ∧ ∀ d e, as[i]? = some (.bor d) → ρ[i]? ≠ some (some (.bor e))))
  | [], ρ, i => ⟨by cases ρ <;> rfl, .inr ⟨by cases ρ <;> rfl, fun d e h => by simp at h⟩⟩
  | a :: r, [], i => ⟨by cases a <;> rfl, .inr ⟨by cases a <;> rfl, fun d e h => by simp⟩⟩
  | .bor d :: r, some (.bor e) :: q, i => by
    obtain ⟨l, h⟩ := finA_get r q (i - 1)
    refine ⟨congrArg (· + 1) l, ?_⟩
    cases i with
    | zero => exact .inl ⟨d, e, rfl, rfl, rfl⟩
    | succ i => exact h
  | .bor d :: r, none :: q, i => by
    obtain ⟨l, h⟩ := finA_get r q (i - 1)
    refine ⟨congrArg (· + 1) l, ?_⟩
    cases i with
    | zero => exact .inr ⟨rfl, fun _ _ _ => by simp⟩
    | succ i => exact h
  | .bor d :: r, some (.val e) :: q, i => by
    obtain ⟨l, h⟩ := finA_get r q (i - 1)
    refine ⟨congrArg (· + 1) l, ?_⟩
    cases i with
    | zero => exact .inr ⟨rfl, fun _ _ _ => by simp⟩
    | succ i => exact h
  | .bor d :: r, some (.own e) :: q, i => by
    obtain ⟨l, h⟩ := finA_get r q (i - 1)
    refine ⟨congrArg (· + 1) l, ?_⟩
    cases i with
    | zero => exact .inr ⟨rfl, fun _ _ _ => by simp⟩
    | succ i => exact h
  | .val d :: r, o :: q, i => by
    obtain ⟨l, h⟩ := finA_get r q (i - 1)
    refine ⟨congrArg (· + 1) l, ?_⟩
    cases i with
    | zero => exact .inr ⟨rfl, fun _ _ h => by simp at h⟩
    | succ i => exact h
  | .own d :: r, o :: q, i => by
    obtain ⟨l, h⟩ := finA_get r q (i - 1)
    refine ⟨congrArg (· + 1) l, ?_⟩
    cases i with
    | zero => exact .inr ⟨rfl, fun _ _ h => by simp at h⟩
    | succ i => exact h
section
variable {K : Frag} {B B' : Addr → Bool} {σ' : L2.St} {H H' : Hp} {ρ' : En} {vs : List V} {as : List Sl} {n : Nat}
theorem pad_get {α : Type} {l : List α} {n i : Nat} {x : α} : (l.map some ++ List.replicate n none)[i]? = some (some x) ↔ l[i]? = some x := by
  by_cases h : i < l.length
  · rw [List.getElem?_append_left (by simpa using h), List.getElem?_map]
    cases l[i]? <;> simp
  · rw [List.getElem?_append_right (by simpa using h)]
    constructor
    · intro q
      have := List.mem_of_getElem? q
      rw [List.mem_replicate] at this
      cases this.2
    · intro q
      rw [List.getElem?_eq_none (by omega)] at q
      cases q
theorem some_get {α : Type} {l : List α} {i : Nat} {x : α} : (l.map some)[i]? = some (some x) ↔ l[i]? = some x := by
  rw [List.getElem?_map]
  cases l[i]? <;> simp
theorem entry_sr (S : SR K B (vs.map some) H (as.map some)) : SR K B (vs.map some ++ List.replicate n none) H (as.map some ++ List.replicate n none) := by
  have hl := S.len
  refine ⟨by simpa using hl, fun i d e => ?_, fun i s e m => ?_, fun i j s t l e1 m1 e2 m2 e3 e4 => ?_, S.bk⟩
  · obtain ⟨v, a, b⟩ := S.val i d (some_get.mpr (pad_get.mp e))
    exact ⟨v, pad_get.mpr (some_get.mp a), b⟩
  · obtain ⟨v, a, b⟩ := S.mu_ i s (some_get.mpr (pad_get.mp e)) m
    exact ⟨v, pad_get.mpr (some_get.mp a), b⟩
  · exact S.inj i j s t l (some_get.mpr (pad_get.mp e1)) m1 (some_get.mpr (pad_get.mp e2)) m2 (some_get.mpr (pad_get.mp e3)) (some_get.mpr (pad_get.mp e4))
theorem entry_mine {b : Addr} : Mine (vs.map some ++ List.replicate n none) (as.map some ++ List.replicate n none) b ↔ Mine (vs.map some) (as.map some) b := by
  constructor
  · rintro ⟨i, s, a, m, c⟩
    exact ⟨i, s, some_get.mpr (pad_get.mp a), m, some_get.mpr (pad_get.mp c)⟩
  · rintro ⟨i, s, a, m, c⟩
    exact ⟨i, s, pad_get.mpr (some_get.mp a), m, pad_get.mpr (some_get.mp c)⟩
/-- a def's end, as its caller sees it -/
theorem leave_af (S : SR K B (vs.map some) H (as.map some)) (no : noOwn as = true) (b : Bf K B (vs.map some ++ List.replicate n none) H (as.map some ++ List.replicate n none) B' σ' H' ρ') :
    Af K B (vs.map some) H (as.map some) H' ((finA as ρ').map some) ∧ ∀ v d, Rp K (hide B' H') v d → Rp K (hide B H') v d := by
  have hb : ∀ a, B a = true → B' a = true := fun a h => by
    by_cases m : Mine (vs.map some) (as.map some) a
    · obtain ⟨i, s, e, mu, e2⟩ := m
      have e := some_get.mp e
      cases s with
      | val d => cases mu
      | own d => exact absurd e (noOwn_get no)
      | bor d =>
        obtain ⟨⟨d', h1⟩, h2⟩ := b.bor i d (pad_get.mpr e)
        obtain ⟨l, g1, g2, _⟩ := b.sr.mu_ i _ h1 rfl
        rw [h2, pad_get.mpr (some_get.mp e2)] at g1
        cases g1
        exact g2
    · exact b.hold a h fun z => m (entry_mine.mp z)
  have vis : Sub (hide B' H') (hide B H') := fun a o z => by
    obtain ⟨z1, z2⟩ := hide_some z
    refine hide_of ?_ z2
    cases q : B a with
    | false => rfl
    | true => rw [hb a q] at z1; cases z1
  have hs : Sub (hide B H) (hide B H') := fun a o z => by
    obtain ⟨z1, z2⟩ := hide_some z
    refine hide_of z1 (b.keep a o z2 fun m => ?_)
    rw [S.mine (entry_mine.mp m)] at z1
    cases z1
  have kin : Kin (as.map some) ((finA as ρ').map some) := fun i => by
    obtain ⟨l, h⟩ := finA_get as ρ' i
    rw [List.getElem?_map, List.getElem?_map]
    rcases h with ⟨d, e, a1, a2, a3⟩ | ⟨a1, _⟩
    · rw [a1, a3]
      trivial
    · rw [a1]
      exact Ks.refl _
  refine ⟨⟨⟨?_, fun i d e => ?_, fun i s e m => ?_, fun i j s t l e1 m1 e2 m2 e3 e4 => ?_, fun a h => ?_⟩, fun c o e nm => b.keep c o e fun z => nm (entry_mine.mp z), b.grow, kin⟩, fun v d r => r.mono vis⟩
  · have := S.len
    rw [List.length_map, List.length_map] at this
    rw [List.length_map, List.length_map, (finA_get as ρ' 0).1]
    exact this
  · have k := kin i
    rw [e] at k
    have e0 : (as.map some)[i]? = some (some (.val d)) := by
      match q : (as.map some)[i]?, k with
      | some (some (.val d')), k =>
        have : d' = d := k
        rw [this]
    obtain ⟨v, a, r⟩ := S.val i d e0
    exact ⟨v, a, r.mono hs⟩
  · have e := some_get.mp e
    rcases (finA_get as ρ' i).2 with ⟨d, d', a1, a2, a3⟩ | ⟨a1, a2⟩
    · rw [a3] at e
      cases e
      obtain ⟨l, g1, g2, g3⟩ := b.sr.mu_ i _ a2 rfl
      obtain ⟨_, h2⟩ := b.bor i d (pad_get.mpr a1)
      rw [h2] at g1
      obtain ⟨l', f1, f2, _⟩ := S.mu_ i _ (some_get.mpr a1) rfl
      have f1' := pad_get (n := n) |>.mpr (some_get.mp f1)
      rw [f1'] at g1
      cases g1
      exact ⟨_, f1, f2, g3.mono vis⟩
    · rw [a1] at e
      cases s with
      | val d => cases m
      | own d => exact absurd e (noOwn_get no)
      | bor d =>
        obtain ⟨⟨d', h1⟩, _⟩ := b.bor i d (pad_get.mpr e)
        exact absurd h1 (a2 d d' e)
  · have k1 := kin i
    rw [e1] at k1
    obtain ⟨u1, a1, n1⟩ := k1.mu'
    have k2 := kin j
    rw [e2] at k2
    obtain ⟨u2, a2, n2⟩ := k2.mu'
    exact S.inj i j u1 u2 l a1 (n1.trans m1) a2 (n2.trans m2) e3 e4
  · obtain ⟨o, e⟩ := S.bk a h
    exact b.grow a o e
end
/-- THE RULE for a def -/
theorem fn_ok {c : C0} {x qual : Str} {st : Stmt} {f : Addr} {fd : FuncData} {N ps : List Str} {k : Nat} {m : En → Option SO} (F : Fun c.K x qual st f fd) (S : FnScope N ps (defScope st)) (h : JB { c with k := k, top := true } N (defScope st) (defBody st) m) (hn : ps.length ≤ N.length := by decide) :
    FnOk c.P c.w c.K c.mg c.base CX0 (k + 1) f fd ps (spD c.K (runF ps.length N.length m)) := by
  refine F.ok S (fun vs H Q E h => ?_) (fun cdv A outer s H vs Q E hr h' => ?_)
  · obtain ⟨B, as, d, as', h1, h2, _⟩ := h
    have hl := h2.len
    rw [List.length_map, List.length_map] at hl
    unfold runF at h1
    split at h1
    · rename_i q
      rw [hl]; exact q.1
    · cases h1
  · obtain ⟨B, as, d, as', h1, h2, h3⟩ := h'
    obtain ⟨t, t1, t2⟩ := h
    refine ⟨t, t1 _ ⟨rfl, rfl, rfl, rfl, rfl, hr, rfl, rfl, rfl, fun _ => rfl, PassesOwn.never⟩, ?_⟩
    have hl := h2.len
    rw [List.length_map, List.length_map] at hl
    unfold runF at h1
    split at h1
    · rename_i q
      obtain ⟨q1, q2⟩ := q
      have es : L2.start N vs = vs.map some ++ List.replicate (N.length - ps.length) none := by
        unfold L2.start
        rw [hl, q1]
      rw [es]
      have S0 := entry_sr (n := N.length - ps.length) h2
      split at h1
      · rename_i d' ρ' e
        cases h1
        refine t2 _ H _ B _ S0 e _ fun v B' σ' H' b r => ?_
        obtain ⟨a, w⟩ := leave_af h2 q2 b
        exact h3 v H' a (w _ _ r)
      · rename_i ρ' e
        cases h1
        refine t2 _ H _ B _ S0 e _ fun B' σ' H' b => ?_
        obtain ⟨a, w⟩ := leave_af h2 q2 b
        exact h3 .non H' a .non
      · cases h1
    · cases h1
theorem fnD {c : C0} {x qual : Str} {st : Stmt} {f : Addr} {fd : FuncData} {N ps : List Str} {k : Nat} {m : En → Option SO} (F : Fun c.K x qual st f fd) (hm : c.mg x = some (.ref f)) (b : Binds c.K fd ps []) (S : FnScope N ps (defScope st)) (h : JB { c with k := k, top := true } N (defScope st) (defBody st) m) (hn : ps.length ≤ N.length := by decide) :
    FnD c (k + 1) x ps (runF ps.length N.length m) := ⟨f, fd, fn_ok F S h hn, hm, F.kp, b⟩
end Dz

/-! Dz. G: operations by data. -/
namespace Dz
open PySem L2
variable {c : C0} {N : List Str} {sc : Scope}

/-! ### data of bounded depth, no dicts -/
def okD : Nat → D → Bool
  | _, .none => true
  | _, .bool _ => true
  | _, .int _ => true
  | _, .str x => PyData.strOk x
  | k + 1, .list ds => ds.all (okD k)
  | k + 1, .tuple ds => ds.all (okD k)
  | _, _ => false
theorem okD_all {k : Nat} (h : ∀ d, okD k d = true → d.canLay0 = true ∧ d.depth ≤ k ∧ plain d = true) : ∀ ds : List D, ds.all (okD k) = true → PyData.canLayAll0 ds = true ∧ PyData.depthAll ds ≤ k ∧ plains ds = true
  | [], _ => ⟨rfl, Nat.zero_le _, rfl⟩
  | d :: ds, q => by
    have q' : okD k d = true ∧ ds.all (okD k) = true := by simpa using q
    obtain ⟨a1, a2, a3⟩ := h d q'.1
    obtain ⟨b1, b2, b3⟩ := okD_all h ds q'.2
    refine ⟨by simp [PyData.canLayAll0, a1, b1], ?_, by simp [plains, a3, b3]⟩
    show max d.depth (PyData.depthAll ds) ≤ k
    omega
theorem okD_ok : ∀ (k : Nat) (d : D), okD k d = true → d.canLay0 = true ∧ d.depth ≤ k ∧ plain d = true
  | k, .none, _ => ⟨rfl, by cases k <;> exact Nat.zero_le _, rfl⟩
  | k, .bool _, _ => ⟨rfl, by cases k <;> exact Nat.zero_le _, rfl⟩
  | k, .int _, _ => ⟨rfl, by cases k <;> exact Nat.zero_le _, rfl⟩
  | k, .str x, h => ⟨by cases k <;> exact h, by cases k <;> exact Nat.zero_le _, rfl⟩
  | 0, .list ds, h => by cases h
  | 0, .tuple ds, h => by cases h
  | k + 1, .list ds, h => by
    obtain ⟨a, b, c⟩ := okD_all (okD_ok k) ds h
    exact ⟨a, Nat.succ_le_succ b, c⟩
  | k + 1, .tuple ds, h => by
    obtain ⟨a, b, c⟩ := okD_all (okD_ok k) ds h
    exact ⟨a, Nat.succ_le_succ b, c⟩
  | 0, .dict _, h => by cases h
  | k + 1, .dict _, h => by cases h
theorem okD_shaped {k : Nat} {d : D} (h : okD k d = true) (hk : k ≤ 64) : SeqAt.shaped d = true ∧ plain d = true := by
  obtain ⟨a, b, e⟩ := okD_ok k d h
  exact ⟨by unfold SeqAt.shaped; simp [a]; omega, e⟩

/-! ### arithmetic -/
theorem rp_sub {K : Frag} {B : Addr → Bool} {H H' : Hp} {v : V} {d : D} (e : Sub H H') (h : Rp K (hide B H) v d) : Rp K (hide B H') v d := h.mono (hsub e)
theorem lst_new {K : Frag} {B : Addr → Bool} {H : Hp} {p : Addr} {vs : List V} {ds : List D} (bk : ∀ a, B a = true → ∃ o, H a = some o) (h : H p = none) (r : RpL K (hide B H) vs ds) : Sub H (upd H p (.lst vs)) ∧ Rp K (hide B (upd H p (.lst vs))) (.ref p) (.list ds) := by
  have bp : B p = false := by
    cases q : B p with
    | false => rfl
    | true => obtain ⟨o, e⟩ := bk p q; rw [h] at e; cases e
  exact ⟨Sub.new h, .lst (.inl (.inl (hide_of bp upd_same))) (r.mono (hsub (Sub.new h)))⟩
theorem tup_new {K : Frag} {B : Addr → Bool} {H : Hp} {p : Addr} {vs : List V} {ds : List D} (bk : ∀ a, B a = true → ∃ o, H a = some o) (h : H p = none) (r : RpL K (hide B H) vs ds) : Sub H (upd H p (.tup vs)) ∧ Rp K (hide B (upd H p (.tup vs))) (.ref p) (.tuple ds) := by
  have bp : B p = false := by
    cases q : B p with
    | false => rfl
    | true => obtain ⟨o, e⟩ := bk p q; rw [h] at e; cases e
  exact ⟨Sub.new h, .tup (.inl (.inl (hide_of bp upd_same))) (r.mono (hsub (Sub.new h)))⟩

/-- list + list, whatever the lists are -/
def rCatL (K : Frag) : R2 := fun x y H Q => ∃ a b xs ys, x = .ref a ∧ y = .ref b ∧ SqL K H a xs ∧ SqL K H b ys ∧ xs.length + ys.length ≤ sizeLine ∧ ∀ p, H p = none → Q (.ref p) (upd H p (.lst (xs ++ ys)))
theorem op_catL {X : Cx} : OpR X (binaryOp .Add) (rCatL X.K) := by
  intro pins s σ H x y v u Q I rx ry h
  obtain ⟨l, b, xs, zs, rfl, rfl, hH, hB, hz, q⟩ := h
  cases rx
  cases ry
  obtain ⟨its, r, pl, z1⟩ := I.list hH
  obtain ⟨its2, r2, pl2, z2⟩ := I.list hB
  have l1 := r.length
  have l2 := r2.length
  obtain ⟨⟨cls, dd, data, sl⟩, ho, hc, n, hd⟩ := pl.isList
  obtain ⟨⟨cls2, dd2, data2, sl2⟩, ho2, hc2, n2, hd2⟩ := pl2.isList
  simp only at hc hd hc2 hd2
  subst hc hd hc2 hd2
  have e : its.toArray ++ its2.toArray = (its ++ its2).toArray := by simp
  refine concat_meets ⟨_, ho, rfl⟩ ⟨_, ho2, rfl⟩ noFill_list_add seq_list_add PySem.F.slot_list_add PySem.F.entry_list_add (PySem.F.args_list_add_2 _ _) (PyProof.Rows.list_addW l b its.toArray its2.toArray n n2 dd dd2 sl sl2 (by rw [List.size_toArray, List.size_toArray]; omega)) ⟨ho, ho2, ?_⟩
  rw [e]
  exact ⟨.ref _, _, I.lnew (t' := s.toks) (r.append r2) (by rw [List.length_append]; omega), rfl, q _ I.fresh⟩
def dAdd : D → D → Option D
  | .int a, .int b => some (.int (a + b))
  | .str a, .str b => if a.length + b.length ≤ 100000 then some (.str (a ++ b)) else none
  | .list a, .list b => if a.length + b.length ≤ 100000 then some (.list (a ++ b)) else none
  | .tuple a, .tuple b => if a.length + b.length ≤ 100000 then some (.tuple (a ++ b)) else none
  | _, _ => none
theorem o_add : OpD c.K (In c N sc) (binaryOp .Add) dAdd := by
  refine ⟨_, fun X I => by
    have h := OpR.or (X := X) op_add (OpR.or op_add_str (OpR.or op_catL op_catA))
    rw [I.K] at h
    exact h, fun B H x y d e z bk hx hy hz Q q => ?_⟩
  unfold dAdd at hz
  split at hz
  · cases hz
    exact .inl ⟨_, _, hx.int, hy.int, q _ H (Sub.refl H) (.int _)⟩
  · split at hz
    · rename_i hl
      cases hz
      exact .inr (.inl ⟨_, _, hx.str, hy.str, sz5 hl, q _ H (Sub.refl H) (.str _)⟩)
    · cases hz
  · split at hz
    · rename_i hl
      cases hz
      obtain ⟨a, xs, rfl, h1, r1⟩ := hx.list
      obtain ⟨b, ys, rfl, h2, r2⟩ := hy.list
      refine .inr (.inr (.inl ⟨a, b, xs, ys, rfl, rfl, h1, h2, by rw [r1.length, r2.length]; exact sz5 hl, fun p hp => ?_⟩))
      obtain ⟨s1, r3⟩ := lst_new bk hp (r1.append r2)
      exact q _ _ s1 r3
    · cases hz
  · split at hz
    · rename_i a b hl
      cases hz
      obtain ⟨a, xs, rfl, h1, r1⟩ := hx.tuple
      obtain ⟨b, ys, rfl, h2, r2⟩ := hy.tuple
      have sub : ∀ {w : Addr} {us : List V} {ds : List D}, Rs c.K B H (.ref w) (.tuple ds) → Rp c.K (hide B H) (.ref w) (.tuple ds) := fun h => by
        cases h with
        | vis h => exact h
      refine .inr (.inr (.inr ⟨a, b, xs, ys, rfl, rfl, h1, h2, by rw [r1.length, r2.length]; exact sz5 hl, fun e => ?_, fun _ e => ?_, fun _ _ p hp => ?_⟩))
      · subst e
        cases r1
        exact q _ H (Sub.refl H) (sub (us := ys) hy)
      · subst e
        cases r2
        rw [List.append_nil] at q
        exact q _ H (Sub.refl H) (sub (us := xs) hx)
      · obtain ⟨s1, r3⟩ := tup_new bk hp (r1.append r2)
        exact q _ _ s1 r3
    · cases hz
  · cases hz
/-- list + list, a new list of the def's own -/
def dCat : D → D → Option D
  | .list a, .list b => if a.length + b.length ≤ 100000 then some (.list (a ++ b)) else none
  | _, _ => none
theorem of_cat : OpF c.K (In c N sc) (binaryOp .Add) dCat := by
  refine ⟨_, fun X I => by
    have h := op_catL (X := X)
    rw [I.K] at h
    exact h, fun B H x y d e z bk hx hy hz Q q => ?_⟩
  unfold dCat at hz
  split at hz
  · split at hz
    · rename_i hl
      cases hz
      obtain ⟨a, xs, rfl, h1, r1⟩ := hx.list
      obtain ⟨b, ys, rfl, h2, r2⟩ := hy.list
      refine ⟨a, b, xs, ys, rfl, rfl, h1, h2, by rw [r1.length, r2.length]; exact sz5 hl, fun p hp => ?_⟩
      exact q _ _ (Sub.new hp) hp (own_new hp (r1.append r2))
    · cases hz
  · cases hz
def dSub : D → D → Option D
  | .int a, .int b => some (.int (a - b))
  | _, _ => none
theorem o_sub : OpD c.K (In c N sc) (binaryOp .Sub) dSub := by
  refine ⟨_, fun X I => op_sub, fun B H x y d e z bk hx hy hz Q q => ?_⟩
  unfold dSub at hz
  split at hz
  · cases hz
    exact ⟨_, _, hx.int, hy.int, q _ H (Sub.refl H) (.int _)⟩
  · cases hz
/-- one factor below 2^64 -/
def dMul : D → D → Option D
  | .int a, .int b => if (-(2 ^ 64) < a ∧ a < 2 ^ 64) ∨ (-(2 ^ 64) < b ∧ b < 2 ^ 64) then some (.int (a * b)) else none
  | _, _ => none
theorem o_mul : OpD c.K (In c N sc) (binaryOp .Mult) dMul := by
  refine ⟨_, fun X I => op_mul, fun B H x y d e z bk hx hy hz Q q => ?_⟩
  unfold dMul at hz
  split at hz
  · split at hz
    · rename_i hc
      cases hz
      exact ⟨_, _, hx.int, hy.int, hc, q _ H (Sub.refl H) (.int _)⟩
    · cases hz
  · cases hz
def dMod : D → D → Option D
  | .int a, .int b => if 0 < b then some (.int (a % b)) else none
  | _, _ => none
theorem o_mod : OpD c.K (In c N sc) (binaryOp .Mod) dMod := by
  refine ⟨_, fun X I => op_mod, fun B H x y d e z bk hx hy hz Q q => ?_⟩
  unfold dMod at hz
  split at hz
  · split at hz
    · rename_i hc
      cases hz
      exact ⟨_, _, hx.int, hy.int, hc, q _ H (Sub.refl H) (.int _)⟩
    · cases hz
  · cases hz
/-- a divisor below 2^9000 -/
def dDiv : D → D → Option D
  | .int a, .int b => if 0 < b ∧ b < 2 ^ 80 then some (.int (a / b)) else none
  | _, _ => none
theorem o_div : OpD c.K (In c N sc) (binaryOp .FloorDiv) dDiv := by
  refine ⟨_, fun X I => op_fdivW, fun B H x y d e z bk hx hy hz Q q => ?_⟩
  unfold dDiv at hz
  split at hz
  · split at hz
    · rename_i hc
      cases hz
      exact ⟨_, _, hx.int, hy.int, wide_div (b := 80) hc.1 (by omega) (by decide) (by decide), q _ H (Sub.refl H) (.int _)⟩
    · cases hz
  · cases hz
def dPow : D → D → Option D
  | .int a, .int b => if 0 ≤ b ∧ b ≤ 1000000 ∧ a.natAbs < 2 ^ 64 then some (.int (a ^ b.toNat)) else none
  | _, _ => none
theorem o_pow : OpD c.K (In c N sc) (binaryOp .Pow) dPow := by
  refine ⟨_, fun X I => op_pow, fun B H x y d e z bk hx hy hz Q q => ?_⟩
  unfold dPow at hz
  split at hz
  · split at hz
    · rename_i hc
      cases hz
      exact ⟨_, _, hx.int, hy.int, hc, q _ H (Sub.refl H) (.int _)⟩
    · cases hz
  · cases hz
def dShl : D → D → Option D
  | .int a, .int b => if 0 ≤ b ∧ b ≤ 1000000 ∧ a.natAbs < 2 ^ 64 then some (.int (a * 2 ^ b.toNat)) else none
  | _, _ => none
theorem o_shl : OpD c.K (In c N sc) (binaryOp .LShift) dShl := by
  refine ⟨_, fun X I => op_shl, fun B H x y d e z bk hx hy hz Q q => ?_⟩
  unfold dShl at hz
  split at hz
  · split at hz
    · rename_i hc
      cases hz
      exact ⟨_, _, hx.int, hy.int, hc, q _ H (Sub.refl H) (.int _)⟩
    · cases hz
  · cases hz
def dShr : D → D → Option D
  | .int a, .int b => if 0 ≤ b then some (.int (a / 2 ^ b.toNat)) else none
  | _, _ => none
theorem o_shr : OpD c.K (In c N sc) (binaryOp .RShift) dShr := by
  refine ⟨_, fun X I => op_shr, fun B H x y d e z bk hx hy hz Q q => ?_⟩
  unfold dShr at hz
  split at hz
  · split at hz
    · rename_i hc
      cases hz
      exact ⟨_, _, hx.int, hy.int, hc, q _ H (Sub.refl H) (.int _)⟩
    · cases hz
  · cases hz

/-! ### comparisons -/
/-- data that are alike, in order -/
def okC (d e : D) : Bool := okD 60 d && okD 60 e && PySem.W.alike d e && (match d with
  | .none => false
  | _ => true)
theorem okC_all {d e : D} (h : okC d e = true) : okD 60 d = true ∧ okD 60 e = true ∧ PySem.W.alike d e = true ∧ d ≠ .none := by
  unfold okC at h
  simp only [Bool.and_eq_true] at h
  refine ⟨h.1.1.1, h.1.1.2, h.1.2, fun z => ?_⟩
  rw [z] at h
  cases h.2
def rCmpLt (K : Frag) : R2 := fun x y H Q => ∃ d e, Dp K H x d ∧ Dp K H y e ∧ okC d e = true ∧ Q (.bl (PySem.W.dataLt d e)) H
theorem op_cmpLt {X : Cx} (hu : X.A.units + 64 < cLine) : OpR X (compareOp .Lt) (rCmpLt X.K) := by
  intro pins s σ H x y v u Q I rx ry h
  obtain ⟨d, e, hd, he, ok, q⟩ := h
  obtain ⟨k1, k2, k3, k4⟩ := okC_all ok
  obtain ⟨as, r1⟩ := Dp.reads I d x v hd rx
  obtain ⟨bs, r2⟩ := Dp.reads I e y u he ry
  have z := (okD_ok 60 d k1).2.1
  exact PySem.W.lt_data r1 r2 k3 k4 (by omega) ⟨.bl _, H, I, rfl, q⟩
def dLt (d e : D) : Option D := match d, e with
  | .int a, .int b => some (.bool (decide (a < b)))
  | .str a, .str b => some (.bool (decide (a.cps.toList < b.cps.toList)))
  | d, e => if okC d e = true then some (.bool (PySem.W.dataLt d e)) else none
theorem o_lt : OpD c.K (In c N sc) (compareOp .Lt) dLt := by
  refine ⟨_, fun X I => by
    have h := OpR.or (X := X) op_lt (OpR.or op_lt_str (op_cmpLt I.rm.units))
    rw [I.K] at h
    exact h, fun B H x y d e z bk hx hy hz Q q => ?_⟩
  unfold dLt at hz
  split at hz
  · cases hz
    exact .inl ⟨_, _, hx.int, hy.int, q _ H (Sub.refl H) (.bl _)⟩
  · cases hz
    exact .inr (.inl ⟨_, _, hx.str, hy.str, q _ H (Sub.refl H) (.bl _)⟩)
  · split at hz
    · rename_i ok
      cases hz
      obtain ⟨k1, k2, k3, k4⟩ := okC_all ok
      exact .inr (.inr ⟨_, _, hx.rp.dp (okD_ok 60 _ k1).2.2, hy.rp.dp (okD_ok 60 _ k2).2.2, ok, q _ H (Sub.refl H) (.bl _)⟩)
    · cases hz
def rCmpGt (K : Frag) : R2 := fun x y H Q => ∃ d e, Dp K H x d ∧ Dp K H y e ∧ okC d e = true ∧ Q (.bl (PySem.W.dataLt e d)) H
theorem op_cmpGt {X : Cx} (hu : X.A.units + 64 < cLine) : OpR X (compareOp .Gt) (rCmpGt X.K) := by
  intro pins s σ H x y v u Q I rx ry h
  obtain ⟨d, e, hd, he, ok, q⟩ := h
  obtain ⟨k1, k2, k3, k4⟩ := okC_all ok
  obtain ⟨as, r1⟩ := Dp.reads I d x v hd rx
  obtain ⟨bs, r2⟩ := Dp.reads I e y u he ry
  have z := (okD_ok 60 d k1).2.1
  exact PySem.W.gt_data r1 r2 k3 k4 (by omega) ⟨.bl _, H, I, rfl, q⟩
def dGt (d e : D) : Option D := match d, e with
  | .int a, .int b => some (.bool (decide (b < a)))
  | .str a, .str b => some (.bool (decide (b.cps.toList < a.cps.toList)))
  | d, e => if okC d e = true then some (.bool (PySem.W.dataLt e d)) else none
theorem o_gt : OpD c.K (In c N sc) (compareOp .Gt) dGt := by
  refine ⟨_, fun X I => by
    have h := OpR.or (X := X) op_gt (OpR.or op_gt_str (op_cmpGt I.rm.units))
    rw [I.K] at h
    exact h, fun B H x y d e z bk hx hy hz Q q => ?_⟩
  unfold dGt at hz
  split at hz
  · cases hz
    exact .inl ⟨_, _, hx.int, hy.int, q _ H (Sub.refl H) (.bl _)⟩
  · cases hz
    exact .inr (.inl ⟨_, _, hx.str, hy.str, q _ H (Sub.refl H) (.bl _)⟩)
  · split at hz
    · rename_i ok
      cases hz
      obtain ⟨k1, k2, k3, k4⟩ := okC_all ok
      exact .inr (.inr ⟨_, _, hx.rp.dp (okD_ok 60 _ k1).2.2, hy.rp.dp (okD_ok 60 _ k2).2.2, ok, q _ H (Sub.refl H) (.bl _)⟩)
    · cases hz
def rCmpLtE (K : Frag) : R2 := fun x y H Q => ∃ d e, Dp K H x d ∧ Dp K H y e ∧ okC d e = true ∧ Q (.bl (!PySem.W.dataLt e d)) H
theorem op_cmpLtE {X : Cx} (hu : X.A.units + 64 < cLine) : OpR X (compareOp .LtE) (rCmpLtE X.K) := by
  intro pins s σ H x y v u Q I rx ry h
  obtain ⟨d, e, hd, he, ok, q⟩ := h
  obtain ⟨k1, k2, k3, k4⟩ := okC_all ok
  obtain ⟨as, r1⟩ := Dp.reads I d x v hd rx
  obtain ⟨bs, r2⟩ := Dp.reads I e y u he ry
  have z := (okD_ok 60 d k1).2.1
  exact PySem.W.le_data r1 r2 k3 k4 (by omega) ⟨.bl _, H, I, rfl, q⟩
def dLe (d e : D) : Option D := match d, e with
  | .int a, .int b => some (.bool (decide (a ≤ b)))
  | d, e => if okC d e = true then some (.bool (!PySem.W.dataLt e d)) else none
theorem o_le : OpD c.K (In c N sc) (compareOp .LtE) dLe := by
  refine ⟨_, fun X I => by
    have h := OpR.or (X := X) op_le (op_cmpLtE I.rm.units)
    rw [I.K] at h
    exact h, fun B H x y d e z bk hx hy hz Q q => ?_⟩
  unfold dLe at hz
  split at hz
  · cases hz
    exact .inl ⟨_, _, hx.int, hy.int, q _ H (Sub.refl H) (.bl _)⟩
  · split at hz
    · rename_i ok
      cases hz
      obtain ⟨k1, k2, k3, k4⟩ := okC_all ok
      exact .inr (⟨_, _, hx.rp.dp (okD_ok 60 _ k1).2.2, hy.rp.dp (okD_ok 60 _ k2).2.2, ok, q _ H (Sub.refl H) (.bl _)⟩)
    · cases hz
def rCmpGtE (K : Frag) : R2 := fun x y H Q => ∃ d e, Dp K H x d ∧ Dp K H y e ∧ okC d e = true ∧ Q (.bl (!PySem.W.dataLt d e)) H
theorem op_cmpGtE {X : Cx} (hu : X.A.units + 64 < cLine) : OpR X (compareOp .GtE) (rCmpGtE X.K) := by
  intro pins s σ H x y v u Q I rx ry h
  obtain ⟨d, e, hd, he, ok, q⟩ := h
  obtain ⟨k1, k2, k3, k4⟩ := okC_all ok
  obtain ⟨as, r1⟩ := Dp.reads I d x v hd rx
  obtain ⟨bs, r2⟩ := Dp.reads I e y u he ry
  have z := (okD_ok 60 d k1).2.1
  exact PySem.W.ge_data r1 r2 k3 k4 (by omega) ⟨.bl _, H, I, rfl, q⟩
def dGe (d e : D) : Option D := match d, e with
  | .int a, .int b => some (.bool (decide (b ≤ a)))
  | d, e => if okC d e = true then some (.bool (!PySem.W.dataLt d e)) else none
theorem o_ge : OpD c.K (In c N sc) (compareOp .GtE) dGe := by
  refine ⟨_, fun X I => by
    have h := OpR.or (X := X) op_ge (op_cmpGtE I.rm.units)
    rw [I.K] at h
    exact h, fun B H x y d e z bk hx hy hz Q q => ?_⟩
  unfold dGe at hz
  split at hz
  · cases hz
    exact .inl ⟨_, _, hx.int, hy.int, q _ H (Sub.refl H) (.bl _)⟩
  · split at hz
    · rename_i ok
      cases hz
      obtain ⟨k1, k2, k3, k4⟩ := okC_all ok
      exact .inr (⟨_, _, hx.rp.dp (okD_ok 60 _ k1).2.2, hy.rp.dp (okD_ok 60 _ k2).2.2, ok, q _ H (Sub.refl H) (.bl _)⟩)
    · cases hz
def dEqB (d e : D) : Option Bool := match d, e with
  | .str a, .str b => some (a == b)
  | _, _ => if okD 60 d = true ∧ okD 60 e = true then some (PyData.eqv d e) else none
def dEq (d e : D) : Option D := (dEqB d e).map .bool
def dNe (d e : D) : Option D := (dEqB d e).map fun b => .bool (!b)
theorem o_eq : OpD c.K (In c N sc) (compareOp .Eq) dEq := by
  refine ⟨_, fun X I => by
    have h := OpR.or (X := X) op_eq (op_eqD I.rm.units)
    rw [I.K] at h
    exact h, fun B H x y d e z bk hx hy hz Q q => ?_⟩
  unfold dEq dEqB at hz
  split at hz
  · simp at hz
    subst hz
    refine .inl ⟨?_, ?_⟩
    · rw [hx.str, hy.str]; rfl
    · rw [hx.str, hy.str, dec_str]
      exact q _ H (Sub.refl H) (.bl _)
  · split at hz
    · rename_i ho
      simp at hz
      subst hz
      obtain ⟨a1, a2⟩ := okD_shaped ho.1 (by decide)
      obtain ⟨b1, b2⟩ := okD_shaped ho.2 (by decide)
      exact .inr ⟨d, e, hx.rp.dp a2, hy.rp.dp b2, a1, b1, q _ H (Sub.refl H) (.bl _)⟩
    · simp at hz
theorem o_ne : OpD c.K (In c N sc) (compareOp .NotEq) dNe := by
  refine ⟨_, fun X I => by
    have h := OpR.or (X := X) op_ne (op_neD I.rm.units)
    rw [I.K] at h
    exact h, fun B H x y d e z bk hx hy hz Q q => ?_⟩
  unfold dNe dEqB at hz
  split at hz
  · simp at hz
    subst hz
    refine .inl ⟨?_, ?_⟩
    · rw [hx.str, hy.str]; rfl
    · rw [hx.str, hy.str, dec_str]
      exact q _ H (Sub.refl H) (.bl _)
  · split at hz
    · rename_i ho
      simp at hz
      subst hz
      obtain ⟨a1, a2⟩ := okD_shaped ho.1 (by decide)
      obtain ⟨b1, b2⟩ := okD_shaped ho.2 (by decide)
      exact .inr ⟨d, e, hx.rp.dp a2, hy.rp.dp b2, a1, b1, q _ H (Sub.refl H) (.bl _)⟩
    · simp at hz
def isNoneD : D → Bool
  | .none => true
  | _ => false
def dIs : D → D → Option D := fun d e => if isNoneD e then some (.bool (isNoneD d)) else none
def dIsNot : D → D → Option D := fun d e => if isNoneD e then some (.bool (!isNoneD d)) else none
theorem rs_none {K : Frag} {B : Addr → Bool} {H : Hp} {v : V} {d : D} (h : Rs K B H v d) : decide (v = .non) = isNoneD d := by
  have h := h.rp
  cases h <;> rfl
theorem o_is : OpD c.K (In c N sc) (compareOp .Is) dIs := by
  refine ⟨_, fun X I => op_isN, fun B H x y d e z bk hx hy hz Q q => ?_⟩
  unfold dIs at hz
  split at hz
  · rename_i he
    cases hz
    have : e = .none := by
      cases e <;> first | rfl | cases he
    subst this
    refine ⟨hy.none, ?_⟩
    rw [rs_none hx]
    exact q _ H (Sub.refl H) (.bl _)
  · cases hz
theorem o_isNot : OpD c.K (In c N sc) (compareOp .IsNot) dIsNot := by
  refine ⟨_, fun X I => op_notN, fun B H x y d e z bk hx hy hz Q q => ?_⟩
  unfold dIsNot at hz
  split at hz
  · rename_i he
    cases hz
    have : e = .none := by
      cases e <;> first | rfl | cases he
    subst this
    refine ⟨hy.none, ?_⟩
    rw [rs_none hx]
    exact q _ H (Sub.refl H) (.bl _)
  · cases hz
/-- x in a text (one sign) | a list of any data | a tuple of flat data -/
def flatD : D → Bool
  | .none => true
  | .bool _ => true
  | .int _ => true
  | .str _ => true
  | _ => false
theorem flatD_v {K : Frag} {H : Hp} {v : V} {d : D} (h : Rp K H v d) (f : flatD d = true) : flatV v = true := by
  cases h <;> first | rfl | cases f
theorem flatD_all {K : Frag} {H : Hp} : ∀ {vs : List V} {ds : List D}, RpL K H vs ds → ds.all flatD = true → vs.all flatV = true
  | _, _, .nil, _ => rfl
  | _, _, .cons h r, f => by
    simp at f ⊢
    exact ⟨flatD_v h f.1, by simpa using flatD_all r (by simpa using f.2)⟩
theorem eqV_eqv {K : Frag} {H H' : Hp} {v u : V} {d e : D} (h : Rp K H v d) (k : Rp K H' u e) (f : flatD d = true) (g : flatD e = true) : eqV v u = PyData.eqv d e := by
  cases h <;> first | (cases f; done) | (cases k <;> first | (cases g; done) | rfl)
theorem inV_any {K : Frag} {H H' : Hp} {x : V} {d : D} (h : Rp K H' x d) (f : flatD d = true) : ∀ {vs : List V} {ds : List D}, RpL K H vs ds → ds.all flatD = true → inV x vs = ds.any fun z => PyData.eqv z d
  | _, _, .nil, _ => rfl
  | _, _, .cons r rr, g => by
    simp at g
    have ih := inV_any h f rr (by simpa using g.2)
    unfold inV at ih ⊢
    rw [List.any_cons, List.any_cons, ih, eqV_eqv r h g.1 f]
def dInB (d e : D) : Option Bool := match d, e with
  | .str ⟨⟨[c]⟩⟩, .str z => some (decide (c ∈ z.cps.toList))
  | d, .list ds => if okD 60 d = true ∧ okD 60 (.list ds) = true then some (ds.any fun z => PyData.eqv z d) else none
  | d, .tuple ds => if flatD d = true ∧ ds.all flatD = true then some (ds.any fun z => PyData.eqv z d) else none
  | _, _ => none
def dIn (d e : D) : Option D := (dInB d e).map .bool
def dNotIn (d e : D) : Option D := (dInB d e).map fun b => .bool (!b)
theorem o_in : OpD c.K (In c N sc) (compareOp .In) dIn := by
  refine ⟨_, fun X I => by
    have h := OpR.or (X := X) op_in_sign (OpR.or (op_inD (by have := I.rm.un; omega)) op_in_seq)
    rw [I.K] at h
    exact h, fun B H x y d e z bk hx hy hz Q q => ?_⟩
  unfold dIn dInB at hz
  split at hz
  · simp at hz
    subst hz
    exact .inl ⟨_, _, hx.str, hy.str, by simpa using q _ H (Sub.refl H) (.bl _)⟩
  · split at hz
    · rename_i ho
      simp at hz
      subst hz
      obtain ⟨a1, a2⟩ := okD_shaped ho.1 (by decide)
      obtain ⟨b1, b2⟩ := okD_shaped ho.2 (by decide)
      exact .inr (.inl ⟨_, _, hx.rp.dp a2, hy.rp.dp b2, a1, b1, q _ H (Sub.refl H) (.bl _)⟩)
    · simp at hz
  · split at hz
    · rename_i ho
      simp at hz
      subst hz
      obtain ⟨a, xs, rfl, h1, r1⟩ := hy.tuple
      refine .inr (.inr ⟨a, xs, rfl, .inr h1, flatD_v hx.rp ho.1, flatD_all r1 ho.2, ?_⟩)
      rw [if_neg Bool.false_ne_true, inV_any hx.rp ho.1 r1 ho.2]
      exact q _ H (Sub.refl H) (.bl _)
    · simp at hz
  · simp at hz
theorem o_notIn : OpD c.K (In c N sc) (compareOp .NotIn) dNotIn := by
  refine ⟨_, fun X I => by
    have h := OpR.or (X := X) op_notIn_sign (OpR.or (op_notInD (by have := I.rm.un; omega)) op_notIn_seq)
    rw [I.K] at h
    exact h, fun B H x y d e z bk hx hy hz Q q => ?_⟩
  unfold dNotIn dInB at hz
  split at hz
  · simp at hz
    subst hz
    exact .inl ⟨_, _, hx.str, hy.str, by simpa using q _ H (Sub.refl H) (.bl _)⟩
  · split at hz
    · rename_i ho
      simp at hz
      subst hz
      obtain ⟨a1, a2⟩ := okD_shaped ho.1 (by decide)
      obtain ⟨b1, b2⟩ := okD_shaped ho.2 (by decide)
      exact .inr (.inl ⟨_, _, hx.rp.dp a2, hy.rp.dp b2, a1, b1, q _ H (Sub.refl H) (.bl _)⟩)
    · simp at hz
  · split at hz
    · rename_i ho
      simp at hz
      subst hz
      obtain ⟨a, xs, rfl, h1, r1⟩ := hy.tuple
      refine .inr (.inr ⟨a, xs, rfl, .inr h1, flatD_v hx.rp ho.1, flatD_all r1 ho.2, ?_⟩)
      rw [if_pos rfl, inV_any hx.rp ho.1 r1 ho.2]
      exact q _ H (Sub.refl H) (.bl _)
    · simp at hz
  · simp at hz
end Dz

/-! Dz. H: subscripts, slices, built-ins, methods, what is walked. -/
namespace Dz
open PySem L2

/-! ### unary minus -/
def negK (m : En → Option (D × En)) : En → Option (D × En) := fun ρ => match m ρ with
  | some (.int i, ρ') => some (.int (-i), ρ')
  | _ => none
section
variable {c : C0} {N : List Str} {sc : Scope} {a b : Expr} {ma mb : En → Option (D × En)} {g : D → D → Option D} {i : Nat} {pos p1 : Pos} {x : Str}
theorem je_neg (h : JE c N sc a ma) : JE c N sc (.UnaryOp .USub a pos) (negK ma) := by
  obtain ⟨t, h1, h2⟩ := h
  refine ⟨_, fun X I => pe_un un_neg (h1 X I), fun σ H ρ B d ρ' S e Q q => ?_⟩
  unfold negK at e
  split at e
  · rename_i z ρ1 he
    cases e
    refine h2 σ H ρ B _ _ S he _ fun v H1 A r => ?_
    exact ⟨z, r.inti, q _ H1 A (.int _)⟩
  · cases e

/-! ### subscripts -/
structure IxD (K : Frag) (XS : Cx → Prop) (g : D → D → Option D) : Prop where
  ex : ∃ r : R2, (∀ X, XS X → IxR X r) ∧ ∀ (B : Addr → Bool) (H : Hp) (x y : V) (d e z : D), (∀ a, B a = true → ∃ o, H a = some o) → Rs K B H x d → Rs K B H y e → g d e = some z →
    ∀ Q : VK, (∀ v H', Sub H H' → Rp K (hide B H') v z → Q v H') → r x y H Q
def dIx : D → D → Option D
  | .list ds, .int i => (ixN ds.length i).bind fun j => ds[j]?
  | .tuple ds, .int i => (ixN ds.length i).bind fun j => ds[j]?
  | .str z, .int i => if z.length ≤ 100000 then (ixN z.cps.toList.length i).bind fun j => (z.cps.toList[j]?).map fun k => .str ⟨#[k]⟩ else none
  | _, _ => none
theorem o_ix : IxD c.K (In c N sc) dIx := by
  refine ⟨_, fun X I => by
    have h := IxR.or (X := X) ix_list (IxR.or ix_tup ix_str)
    rw [I.K] at h
    exact h, fun B H x y d e z bk hx hy hz Q q => ?_⟩
  unfold dIx at hz
  split at hz
  · rename_i ds k
    obtain ⟨a, xs, rfl, h1, r1⟩ := hx.list
    cases hj : ixN ds.length k with
    | none => simp [hj] at hz
    | some j =>
      simp [hj] at hz
      obtain ⟨v, g1, g2⟩ := r1.get' hz
      refine .inl ⟨a, xs, k, v, rfl, hy.int, h1, ?_, q v H (Sub.refl H) g2⟩
      unfold atI
      rw [r1.length, hj]
      exact g1
  · rename_i ds k
    obtain ⟨a, xs, rfl, h1, r1⟩ := hx.tuple
    cases hj : ixN ds.length k with
    | none => simp [hj] at hz
    | some j =>
      simp [hj] at hz
      obtain ⟨v, g1, g2⟩ := r1.get' hz
      refine .inr (.inl ⟨a, xs, k, v, rfl, hy.int, h1, ?_, q v H (Sub.refl H) g2⟩)
      unfold atI
      rw [r1.length, hj]
      exact g1
  · rename_i s k
    split at hz
    · rename_i hl
      cases hj : ixN s.cps.toList.length k with
      | none => rw [hj] at hz; cases hz
      | some j =>
        rw [hj, Option.bind_some] at hz
        cases hk : s.cps.toList[j]? with
        | none => rw [hk] at hz; cases hz
        | some w =>
          rw [hk] at hz
          cases hz
          refine .inr (.inr ⟨s, k, w, hx.str, hy.int, sz5 hl, ?_, q _ H (Sub.refl H) (.str _)⟩)
          unfold atI
          rw [hj]
          exact hk
    · cases hz
  · cases hz
theorem je_ix (ho : IxD c.K (In c N sc) g) (ha : JE c N sc a ma) (hb : JA c N sc b mb) (hs : PlainIx b := by intro _ _; rfl) : JE c N sc (.Subscript a b pos) (bop g ma mb) := by
  obtain ⟨r, h1, h2⟩ := ho.ex
  obtain ⟨ta, p1, s1⟩ := ha
  obtain ⟨tb, p2, s2⟩ := hb
  exact ⟨_, fun X I => pe_ix (h1 X I) (p1 X I) (p2 X I) hs, sd_bop s1 s2 h2⟩
theorem je_ixO (ho : IxD c.K (In c N sc) g) (hN : N[i]? = some x) (hv : Vis sc x) (hb : JA c N sc b mb) (hs : PlainIx b := by intro _ _; rfl) (hd : (x == ("__debug__" : Str)) = false := by decide) (hcd : (x == ("__classdict__" : Str)) = false := by decide) : JE c N sc (.Subscript (.Name x p1) b pos) (bopO g i mb) := by
  obtain ⟨r, h1, h2⟩ := ho.ex
  obtain ⟨tb, p2, s2⟩ := hb
  exact ⟨_, fun X I => pe_ix (h1 X I) (pe_var (by rw [I.N]; exact hN) (I.vis hv) hd hcd) (p2 X I) hs, sd_bopO s2 h2⟩
end

/-! ### slices -/
def SP_ (K : Frag) (t : TO) (m : En → Option (Option Int × En)) : Prop :=
  ∀ σ H ρ B d ρ', SR K B σ H ρ → m ρ = some (d, ρ') → ∀ Q : Option Int → Hp → Prop, (∀ H', Af K B σ H ρ H' ρ' → Q d H') → t σ H Q
def JP (c : C0) (N : List Str) (sc : Scope) (e : Option Expr) (m : En → Option (Option Int × En)) : Prop := ∃ t, (∀ X, In c N sc X → PO X e t) ∧ SP_ c.K t m
def pnone : En → Option (Option Int × En) := fun ρ => some (none, ρ)
def psome (m : En → Option (D × En)) : En → Option (Option Int × En) := fun ρ => match m ρ with
  | some (.int i, ρ') => some (some i, ρ')
  | _ => none
def cutD (xs : List D) (lo hi : Option Int) : List D := (xs.drop (HT.sIx xs.length 0 lo)).take (HT.sIx xs.length xs.length hi - HT.sIx xs.length 0 lo)
def dCut : D → Option Int → Option Int → Option D
  | .list ds, lo, hi => some (.list (cutD ds lo hi))
  | .tuple ds, lo, hi => some (.tuple (cutD ds lo hi))
  | .str z, lo, hi => if z.length ≤ 100000 then some (.str (cutS z lo hi)) else none
  | _, _, _ => none
def cutK (ma : En → Option (D × En)) (ml mh : En → Option (Option Int × En)) : En → Option (D × En) := fun ρ => (ma ρ).bind fun p => (ml p.2).bind fun q => (mh q.2).bind fun r => (dCut p.1 q.1 r.1).map fun z => (z, r.2)
def dCutL : D → Option Int → Option Int → Option D
  | .list ds, lo, hi => some (.list (cutD ds lo hi))
  | _, _, _ => none
/-- .. of a name that may hold the def's own list: read behind the bounds -/
def cutO (f : D → Option Int → Option Int → Option D) (i : Nat) (ml mh : En → Option (Option Int × En)) : En → Option (D × En) := fun ρ => (kO i ρ).bind fun _ => (ml ρ).bind fun q => (mh q.2).bind fun r => (kO i r.2).bind fun p => (f p.1 q.1 r.1).map fun z => (z, r.2)
theorem RpL.cut {K : Frag} {H : Hp} {vs : List V} {ds : List D} (r : RpL K H vs ds) (lo hi : Option Int) : RpL K H (cutV vs lo hi) (cutD ds lo hi) := by
  unfold cutV cutD
  rw [r.length]
  exact (r.drop _).take _
section
variable {c : C0} {N : List Str} {sc : Scope} {a : Expr} {lo hi : Option Expr} {ma : En → Option (D × En)} {ml mh : En → Option (Option Int × En)} {i : Nat} {pos p1 p2 : Pos} {x : Str} {K : Frag}
theorem jp_none : JP c N sc none pnone := ⟨_, fun _ _ => po_none, fun σ H ρ B d ρ' S e Q q => by
  cases e
  exact q H (Af.refl S)⟩
theorem jp_some (h : JE c N sc a ma) : JP c N sc (some a) (psome ma) := by
  obtain ⟨t, h1, h2⟩ := h
  refine ⟨_, fun X I => po_some (h1 X I), fun σ H ρ B d ρ' S e Q q => ?_⟩
  unfold psome at e
  split at e
  · rename_i z ρ1 he
    cases e
    exact h2 σ H ρ B _ _ S he _ fun v H1 A r => ⟨z, r.inti, q H1 A⟩
  · cases e
def rCutR (K : Frag) : V → Option Int → Option Int → Hp → VK → Prop := fun x lo hi H Q => rSlL K x lo hi H Q ∨ (rSlA K x lo hi H Q ∨ rSlS x lo hi H Q)
theorem cut_read {B : Addr → Bool} {H : Hp} {x : V} {d z : D} {l h : Option Int} (bk : ∀ a, B a = true → ∃ o, H a = some o) (hx : Rs K B H x d) (hz : dCut d l h = some z) : ∀ Q : VK, (∀ v H', Sub H H' → Rp K (hide B H') v z → Q v H') → rCutR K x l h H Q := fun Q q => by
  unfold dCut at hz
  split at hz
  · cases hz
    obtain ⟨a, xs, rfl, h1, r1⟩ := hx.list
    refine .inl ⟨a, xs, rfl, h1, fun p hp => ?_⟩
    obtain ⟨s1, r2⟩ := lst_new bk hp (r1.cut l h)
    exact q _ _ s1 r2
  · rename_i ds
    cases hz
    obtain ⟨a, xs, rfl, h1, r1⟩ := hx.tuple
    refine .inr (.inl ⟨a, xs, rfl, h1, fun w => ?_, fun _ p hp => ?_⟩)
    · have e : cutD ds l h = ds := by
        unfold cutD
        rw [← r1.length, w.1, w.2, List.drop_zero, Nat.sub_zero, r1.length, List.take_length]
      rw [e] at q
      refine q _ H (Sub.refl H) ?_
      cases hx with
      | vis h => exact h
    · obtain ⟨s1, r2⟩ := tup_new bk hp (r1.cut l h)
      exact q _ _ s1 r2
  · split at hz
    · rename_i hl
      cases hz
      exact .inr (.inr ⟨_, hx.str, sz5 hl, q _ H (Sub.refl H) (.str _)⟩)
    · cases hz
  · cases hz
theorem sl_cut {X : Cx} : SlR X (rCutR X.K) := SlR.or sl_list (SlR.or sl_tupA sl_str)
theorem je_cut (ha : JE c N sc a ma) (hl : JP c N sc lo ml) (hh : JP c N sc hi mh) : JE c N sc (.Subscript a (.Slice lo hi none p2) pos) (cutK ma ml mh) := by
  obtain ⟨t, a1, a2⟩ := ha
  obtain ⟨u, b1, b2⟩ := hl
  obtain ⟨w, c1, c2⟩ := hh
  refine ⟨tSl (rCutR c.K) t u w, fun X I => ?_, fun σ H ρ B d ρ' S e Q q => ?_⟩
  · have h := pe_slice (p2 := p2) (pos := pos) (sl_cut (X := X)) (a1 X I) (b1 X I) (c1 X I)
    rw [I.K] at h
    exact h
  · unfold cutK at e
    cases q1 : ma ρ with
    | none => simp [q1] at e
    | some p =>
      obtain ⟨d1, ρ1⟩ := p
      cases q2 : ml ρ1 with
      | none => simp [q1, q2] at e
      | some p =>
        obtain ⟨l, ρ2⟩ := p
        cases q3 : mh ρ2 with
        | none => simp [q1, q2, q3] at e
        | some p =>
          obtain ⟨h, ρ3⟩ := p
          cases q4 : dCut d1 l h with
          | none => simp [q1, q2, q3, q4] at e
          | some z =>
            simp [q1, q2, q3, q4] at e
            obtain ⟨rfl, rfl⟩ := e
            refine a2 σ H ρ B _ _ S q1 _ fun v H1 A1 r1 => ?_
            refine b2 σ H1 ρ1 B _ _ A1.sr q2 _ fun H2 A2 => ?_
            refine c2 σ H2 ρ2 B _ _ A2.sr q3 _ fun H3 A3 => ?_
            refine cut_read A3.sr.bk (.vis ((r1.mono (A2.sub A1.sr)).mono (A3.sub A2.sr))) q4 _ fun y H4 s4 r4 => ?_
            exact q y H4 (((A1.trans A2).trans A3).trans (Af.of_sub A3.sr s4)) r4
theorem so_cut {u w : TO} (b2 : SP_ K u ml) (c2 : SP_ K w mh) : Sd K (tSl (rCutR K) (tVar i) u w) (cutO dCut i ml mh) := fun σ H ρ B d ρ' S e Q q => by
  unfold cutO at e
  cases q0 : kO i ρ with
  | none => simp [q0] at e
  | some p0 =>
  cases q2 : ml ρ with
  | none => simp [q0, q2] at e
  | some p =>
    obtain ⟨l, ρ2⟩ := p
    cases q3 : mh ρ2 with
    | none => simp [q0, q2, q3] at e
    | some p =>
      obtain ⟨h, ρ3⟩ := p
      cases q1 : kO i ρ3 with
      | none => simp [q0, q2, q3, q1] at e
      | some p1 =>
        obtain ⟨d1, ρ4⟩ := p1
        obtain ⟨s, g1, g2, g3⟩ := kO_some q1
        cases q4 : dCut d1 l h with
        | none => simp [q0, q1, q2, q3, q4] at e
        | some z =>
          simp [q0, q1, q2, q3, q4] at e
          obtain ⟨rfl, rfl⟩ := e
          obtain ⟨d0, ρ0⟩ := p0
          obtain ⟨s0, u1, u2, u3⟩ := kO_some q0
          obtain ⟨v, e1, _⟩ := S.read u1
          refine ⟨v, e1, ?_⟩
          refine b2 σ H ρ B _ _ S q2 _ fun H2 A2 => ?_
          refine c2 σ H2 ρ2 B _ _ A2.sr q3 _ fun H3 A3 => ?_
          obtain ⟨v', e2, r1⟩ := A3.sr.read g1
          rw [e1] at e2
          cases e2
          rw [g2] at r1
          refine cut_read A3.sr.bk r1 q4 _ fun y H4 s4 r4 => ?_
          exact q y H4 ((A2.trans A3).trans (Af.of_sub A3.sr s4)) r4
theorem je_cutO (hN : N[i]? = some x) (hv : Vis sc x) (hl : JP c N sc lo ml) (hh : JP c N sc hi mh) (hd : (x == ("__debug__" : Str)) = false := by decide) (hcd : (x == ("__classdict__" : Str)) = false := by decide) : JE c N sc (.Subscript (.Name x p1) (.Slice lo hi none p2) pos) (cutO dCut i ml mh) := by
  obtain ⟨u, b1, b2⟩ := hl
  obtain ⟨w, c1, c2⟩ := hh
  refine ⟨tSl (rCutR c.K) (tVar i) u w, fun X I => ?_, so_cut b2 c2⟩
  have h := pe_slice (p2 := p2) (pos := pos) (sl_cut (X := X)) (pe_var (X := X) (i := i) (pos := p1) (by rw [I.N]; exact hN) (I.vis hv) hd hcd) (b1 X I) (c1 X I)
  rw [I.K] at h
  exact h
end

/-! ### built-ins -/
inductive RsL (K : Frag) (B : Addr → Bool) (H : Hp) : List V → List D → Prop
  | nil : RsL K B H [] []
  | cons {v : V} {vs : List V} {d : D} {ds : List D} : Rs K B H v d → RsL K B H vs ds → RsL K B H (v :: vs) (d :: ds)
theorem RpL.rs {K : Frag} {B : Addr → Bool} {H : Hp} : ∀ {vs : List V} {ds : List D}, RpL K (hide B H) vs ds → RsL K B H vs ds
  | _, _, .nil => .nil
  | _, _, .cons h r => .cons (.vis h) (RpL.rs r)
theorem RsL.one {K : Frag} {B : Addr → Bool} {H : Hp} {vs : List V} {d : D} (h : RsL K B H vs [d]) : ∃ v, vs = [v] ∧ Rs K B H v d := by
  cases h with
  | cons a b => cases b; exact ⟨_, rfl, a⟩
theorem RsL.two {K : Frag} {B : Addr → Bool} {H : Hp} {vs : List V} {d e : D} (h : RsL K B H vs [d, e]) : ∃ v u, vs = [v, u] ∧ Rs K B H v d ∧ Rs K B H u e := by
  cases h with
  | cons a b =>
    obtain ⟨u, rfl, k⟩ := RsL.one b
    exact ⟨_, u, rfl, a, k⟩
structure CaD (K : Frag) (XS : Cx → Prop) (fv : Value) (f : List D → Option D) : Prop where
  ex : ∃ r : List V → Hp → VK → Prop, (∀ X, XS X → CallR X fv r) ∧ ∀ (B : Addr → Bool) (H : Hp) (vs : List V) (ds : List D) (z : D), (∀ a, B a = true → ∃ o, H a = some o) → RsL K B H vs ds → f ds = some z →
    ∀ Q : VK, (∀ v H', Sub H H' → Rp K (hide B H') v z → Q v H') → r vs H Q
structure CaF (K : Frag) (XS : Cx → Prop) (fv : Value) (f : List D → Option D) : Prop where
  ex : ∃ r : List V → Hp → VK → Prop, (∀ X, XS X → CallR X fv r) ∧ ∀ (B : Addr → Bool) (H : Hp) (vs : List V) (ds : List D) (z : D), (∀ a, B a = true → ∃ o, H a = some o) → RsL K B H vs ds → f ds = some z →
    ∀ Q : VK, (∀ l H', Sub H H' → H l = none → OwnAt K (hide (ins l B) H') (H' l) z → Q (.ref l) H') → r vs H Q
def b1K (f : List D → Option D) (m : En → Option (D × En)) : En → Option (D × En) := fun ρ => (m ρ).bind fun p => (f [p.1]).map fun z => (z, p.2)
def bnK (f : List D → Option D) (m : En → Option (List D × En)) : En → Option (D × En) := fun ρ => (m ρ).bind fun p => (f p.1).map fun z => (z, p.2)
section
variable {c : C0} {N : List Str} {sc : Scope} {e : Expr} {es : List Expr} {me : En → Option (D × En)} {ml : En → Option (List D × En)} {f : List D → Option D} {pos p : Pos} {x : Str} {id T : String} {K : Frag} {r : List V → Hp → VK → Prop}
theorem sd_b1 {te : TE} (h : So K te me) (hr : ∀ (B : Addr → Bool) (H : Hp) (vs : List V) (ds : List D) (z : D), (∀ a, B a = true → ∃ o, H a = some o) → RsL K B H vs ds → f ds = some z → ∀ Q : VK, (∀ v H', Sub H H' → Rp K (hide B H') v z → Q v H') → r vs H Q) :
    Sd K (tCB r (tCons te tNil)) (b1K f me) := fun σ H ρ B d ρ' S e Q q => by
  unfold b1K at e
  cases q1 : me ρ with
  | none => simp [q1] at e
  | some p =>
    obtain ⟨d1, ρ1⟩ := p
    cases q2 : f [d1] with
    | none => simp [q1, q2] at e
    | some z =>
      simp [q1, q2] at e
      obtain ⟨rfl, rfl⟩ := e
      refine h σ H ρ B _ _ S q1 _ fun v H1 A1 r1 => ?_
      exact hr B H1 [v] [d1] _ A1.sr.bk (.cons r1 .nil) q2 _ fun w H2 s2 r2 => q w H2 (A1.trans (Af.of_sub A1.sr s2)) r2
theorem sd_bn {ta : TA} (h : SA K ta ml) (hr : ∀ (B : Addr → Bool) (H : Hp) (vs : List V) (ds : List D) (z : D), (∀ a, B a = true → ∃ o, H a = some o) → RsL K B H vs ds → f ds = some z → ∀ Q : VK, (∀ v H', Sub H H' → Rp K (hide B H') v z → Q v H') → r vs H Q) :
    Sd K (tCB r ta) (bnK f ml) := fun σ H ρ B d ρ' S e Q q => by
  unfold bnK at e
  cases q1 : ml ρ with
  | none => simp [q1] at e
  | some p =>
    obtain ⟨ds, ρ1⟩ := p
    cases q2 : f ds with
    | none => simp [q1, q2] at e
    | some z =>
      simp [q1, q2] at e
      obtain ⟨rfl, rfl⟩ := e
      refine h σ H ρ B _ _ S q1 _ fun vs H1 A1 r1 => ?_
      exact hr B H1 vs ds _ A1.sr.bk r1.rs q2 _ fun w H2 s2 r2 => q w H2 (A1.trans (Af.of_sub A1.sr s2)) r2
theorem sf_b1 {te : TE} (h : So K te me) (hr : ∀ (B : Addr → Bool) (H : Hp) (vs : List V) (ds : List D) (z : D), (∀ a, B a = true → ∃ o, H a = some o) → RsL K B H vs ds → f ds = some z → ∀ Q : VK, (∀ l H', Sub H H' → H l = none → OwnAt K (hide (ins l B) H') (H' l) z → Q (.ref l) H') → r vs H Q) :
    Sf K (tCB r (tCons te tNil)) (b1K f me) := fun σ H ρ B d ρ' S e Q q => by
  unfold b1K at e
  cases q1 : me ρ with
  | none => simp [q1] at e
  | some p =>
    obtain ⟨d1, ρ1⟩ := p
    cases q2 : f [d1] with
    | none => simp [q1, q2] at e
    | some z =>
      simp [q1, q2] at e
      obtain ⟨rfl, rfl⟩ := e
      refine h σ H ρ B _ _ S q1 _ fun v H1 A1 r1 => ?_
      exact hr B H1 [v] [d1] _ A1.sr.bk (.cons r1 .nil) q2 _ fun l H2 s2 hl r2 => q l H2 (A1.trans (Af.of_sub A1.sr s2)) (A1.sr.ins hl s2 r2.ne) (back_none A1 hl) r2
theorem je_b1 (ho : CaD c.K (In c N sc) (.builtin id) f) (hg : sc.names.lookup x = some .globalImplicit) (hm : c.mg x = none) (hv : bootBuiltins x = some (.builtin id)) (ha : JA c N sc e me) (hn : x ≠ "__name__" := by decide) (hdb : (x == ("__debug__" : Str)) = false := by decide)
    (he : ∀ env, starEach [e] env = (false, eval e env) :: starEach [] env := by intros; rfl) (hpl : ∀ env, (backTo pos (starEach [] env)).any (·.1) = false := by intros; rfl) : JE c N sc (.Call (.Name x p) [e] [] pos) (b1K f me) := by
  obtain ⟨r, h1, h2⟩ := ho.ex
  obtain ⟨t, a1, a2⟩ := ha
  exact ⟨_, fun X I => pe_callB (h1 X I) (I.gl hg) (by rw [I.mg]; exact hm) hv (pa_cons (a1 X I) pa_nil (he _)) hn hdb (he _) (hpl _), sd_b1 a2 h2⟩
theorem je_bn (ho : CaD c.K (In c N sc) (.builtin id) f) (hg : sc.names.lookup x = some .globalImplicit) (hm : c.mg x = none) (hv : bootBuiltins x = some (.builtin id)) (ha : JL c N sc (e :: es) ml) (hn : x ≠ "__name__" := by decide) (hdb : (x == ("__debug__" : Str)) = false := by decide)
    (he : ∀ env, starEach (e :: es) env = (false, eval e env) :: starEach es env := by intros; rfl) (hpl : ∀ env, (backTo pos (starEach es env)).any (·.1) = false := by intros; rfl) : JE c N sc (.Call (.Name x p) (e :: es) [] pos) (bnK f ml) := by
  obtain ⟨r, h1, h2⟩ := ho.ex
  obtain ⟨t, a1, a2⟩ := ha
  exact ⟨_, fun X I => pe_callB (h1 X I) (I.gl hg) (by rw [I.mg]; exact hm) hv (a1 X I) hn hdb (he _) (hpl _), sd_bn a2 h2⟩
theorem je_t1 (ho : CaD c.K (In c N sc) (.type T) f) (hg : sc.names.lookup x = some .globalImplicit) (hm : c.mg x = none) (hv : bootBuiltins x = some (.type T)) (ha : JA c N sc e me) (hn : x ≠ "__name__" := by decide) (hdb : (x == ("__debug__" : Str)) = false := by decide)
    (he : ∀ env, starEach [e] env = (false, eval e env) :: starEach [] env := by intros; rfl) (hpl : ∀ env, (backTo pos (starEach [] env)).any (·.1) = false := by intros; rfl) : JE c N sc (.Call (.Name x p) [e] [] pos) (b1K f me) := by
  obtain ⟨r, h1, h2⟩ := ho.ex
  obtain ⟨t, a1, a2⟩ := ha
  exact ⟨_, fun X I => pe_callTy (h1 X I) (I.gl hg) (by rw [I.mg]; exact hm) hv (pa_cons (a1 X I) pa_nil (he _)) hn hdb (he _) (hpl _), sd_b1 a2 h2⟩
theorem jf_t1 (ho : CaF c.K (In c N sc) (.type T) f) (hg : sc.names.lookup x = some .globalImplicit) (hm : c.mg x = none) (hv : bootBuiltins x = some (.type T)) (ha : JA c N sc e me) (hn : x ≠ "__name__" := by decide) (hdb : (x == ("__debug__" : Str)) = false := by decide)
    (he : ∀ env, starEach [e] env = (false, eval e env) :: starEach [] env := by intros; rfl) (hpl : ∀ env, (backTo pos (starEach [] env)).any (·.1) = false := by intros; rfl) : JF c N sc (.Call (.Name x p) [e] [] pos) (b1K f me) := by
  obtain ⟨r, h1, h2⟩ := ho.ex
  obtain ⟨t, a1, a2⟩ := ha
  exact ⟨_, fun X I => pe_callTy (h1 X I) (I.gl hg) (by rw [I.mg]; exact hm) hv (pa_cons (a1 X I) pa_nil (he _)) hn hdb (he _) (hpl _), sf_b1 a2 h2⟩
/-- isinstance(e, T), T a built-in class -/
def isiB (T : String) : D → Option Bool
  | .none => kitB "NoneType" T
  | .bool _ => kitB "bool" T
  | .int _ => kitB "int" T
  | .str _ => kitB "str" T
  | .list _ => kitB "list" T
  | .tuple _ => kitB "tuple" T
  | _ => none
def isiK (T : String) (m : En → Option (D × En)) : En → Option (D × En) := fun ρ => (m ρ).bind fun p => (isiB T p.1).map fun b => (.bool b, p.2)
def tagD : D → Option String
  | .none => some "NoneType"
  | .bool _ => some "bool"
  | .int _ => some "int"
  | .str _ => some "str"
  | .list _ => some "list"
  | .tuple _ => some "tuple"
  | _ => none
theorem tag_of {K : Frag} {H : Hp} {v : V} {d : D} {b : Bool} (h : Rp K H v d) (e : isiB T d = some b) : ∃ t, TyX K H v (.type t) ∧ kitB t T = some b := by
  cases h with
  | non => exact ⟨_, .base .non, e⟩
  | bl k => exact ⟨_, .base (.bl k), e⟩
  | int k => exact ⟨_, .base (.int k), e⟩
  | str k => exact ⟨_, .base (.str k), e⟩
  | lst hs _ =>
    refine ⟨"list", ?_, e⟩
    rcases hs with (h | ⟨o, h⟩) | ⟨o, its, n, h1, h2, _⟩
    · exact .base (.lst h)
    · exact .base (.frz h)
    · exact .kList h1 h2
  | tup hs _ =>
    refine ⟨"tuple", ?_, e⟩
    rcases hs with (h | ⟨o, h⟩) | ⟨o, its, n, h1, h2, _⟩
    · exact .base (.tup h)
    · exact .fTuple h
    · exact .kTuple h1 h2
  | dct _ _ => cases e
  | obj _ _ => cases e
theorem je_isi {y : Str} {p2 : Pos} (hg : sc.names.lookup ("isinstance" : Str) = some .globalImplicit) (hm : c.mg ("isinstance" : Str) = none) (hgy : sc.names.lookup y = some .globalImplicit) (hmy : c.mg y = none) (hv : bootBuiltins y = some (.type T)) (ha : JA c N sc e me)
    (hn : y ≠ "__name__" := by decide) (hdb : (y == ("__debug__" : Str)) = false := by decide)
    (he : ∀ env, starEach [e, .Name y p2] env = (false, eval e env) :: starEach [.Name y p2] env := by intros; rfl) (hpl : ∀ env, (backTo pos (starEach [.Name y p2] env)).any (·.1) = false := by intros; rfl) :
    JE c N sc (.Call (.Name "isinstance" p) [e, .Name y p2] [] pos) (isiK T me) := by
  obtain ⟨t, a1, a2⟩ := ha
  refine ⟨tCB (rIsi c.K) (tCons t (tCons (tC (.ty T)) tNil)), fun X I => ?_, fun σ H ρ B d ρ' S e Q q => ?_⟩
  · have h := pe_callB (x := "isinstance") (p := p) (pos := pos) (call_isi (X := X)) (I.gl hg) (by rw [I.mg]; exact hm) (by decide +kernel) (pa_cons (a1 X I) (pa_cons (pe_bltn (pos := p2) (v := .ty T) (I.gl hgy) (by rw [I.mg]; exact hmy) hv rfl hn hdb) pa_nil) (he _)) (by decide) (by decide) (he _) (hpl _)
    rw [I.K] at h
    exact h
  · unfold isiK at e
    cases q1 : me ρ with
    | none => simp [q1] at e
    | some p =>
      obtain ⟨d1, ρ1⟩ := p
      cases q2 : isiB T d1 with
      | none => simp [q1, q2] at e
      | some z =>
        simp [q1, q2] at e
        obtain ⟨rfl, rfl⟩ := e
        refine a2 σ H ρ B _ _ S q1 _ fun v H1 A1 r1 => ?_
        obtain ⟨t, h1, h2⟩ := tag_of r1.rp q2
        exact ⟨v, .ty T, .type t, .type T, z, rfl, .ty T, h1, kit_ty h2, q _ H1 A1 (.bl z)⟩
end
section
variable {c : C0} {N : List Str} {sc : Scope}
def dLen : List D → Option D
  | [.list ds] => some (.int ds.length)
  | [.tuple ds] => some (.int ds.length)
  | [.str z] => if z.length ≤ 100000 then some (.int z.length) else none
  | _ => none
theorem c_len : CaD c.K (In c N sc) (.builtin "len") dLen := by
  refine ⟨_, fun X I => by
    have h := call_len (X := X)
    rw [I.K] at h
    exact h, fun B H vs ds z bk hv hz Q q => ?_⟩
  unfold dLen at hz
  split at hz
  · cases hz
    obtain ⟨v, rfl, h⟩ := hv.one
    obtain ⟨a, xs, rfl, h1, r1⟩ := h.list
    exact ⟨_, _, rfl, .inl ⟨xs, h1, r1.length.symm⟩, q _ H (Sub.refl H) (.int _)⟩
  · cases hz
    obtain ⟨v, rfl, h⟩ := hv.one
    obtain ⟨a, xs, rfl, h1, r1⟩ := h.tuple
    exact ⟨_, _, rfl, .inr ⟨xs, h1, r1.length.symm⟩, q _ H (Sub.refl H) (.int _)⟩
  · split at hz
    · rename_i hl
      cases hz
      obtain ⟨v, rfl, h⟩ := hv.one
      rw [h.str]
      exact ⟨_, _, rfl, ⟨sz5 hl, rfl⟩, q _ H (Sub.refl H) (.int _)⟩
    · cases hz
  · cases hz
def dInt : List D → Option D
  | [.int i] => some (.int i)
  | [.bool b] => some (.int (if b then 1 else 0))
  | _ => none
theorem c_int : CaD c.K (In c N sc) (.type "int") dInt := by
  refine ⟨_, fun X I => call_int1, fun B H vs ds z bk hv hz Q q => ?_⟩
  unfold dInt at hz
  split at hz
  · cases hz
    obtain ⟨v, rfl, h⟩ := hv.one
    exact .inl ⟨_, by rw [h.int], q _ H (Sub.refl H) (.int _)⟩
  · cases hz
    obtain ⟨v, rfl, h⟩ := hv.one
    exact .inr ⟨_, by rw [h.bool], q _ H (Sub.refl H) (.int _)⟩
  · cases hz
def dAbs : List D → Option D
  | [.int i] => some (.int (if i < 0 then -i else i))
  | _ => none
theorem c_abs : CaD c.K (In c N sc) (.builtin "abs") dAbs := by
  refine ⟨_, fun X I => call_abs, fun B H vs ds z bk hv hz Q q => ?_⟩
  unfold dAbs at hz
  split at hz
  · cases hz
    obtain ⟨v, rfl, h⟩ := hv.one
    exact ⟨_, by rw [h.int], q _ H (Sub.refl H) (.int _)⟩
  · cases hz
def dOrd : List D → Option D
  | [.str x] => if x.length = 1 then some (.int ((x.cps.getD 0 0 : Nat) : Int)) else none
  | _ => none
theorem c_ord : CaD c.K (In c N sc) (.builtin "ord") dOrd := by
  refine ⟨_, fun X I => call_ord, fun B H vs ds z bk hv hz Q q => ?_⟩
  unfold dOrd at hz
  split at hz
  · split at hz
    · rename_i hl
      cases hz
      obtain ⟨v, rfl, h⟩ := hv.one
      exact ⟨_, by rw [h.str], hl, q _ H (Sub.refl H) (.int _)⟩
    · cases hz
  · cases hz
def dStr : List D → Option D
  | [.int i] => if i.natAbs < 2 ^ 1000 then some (.str (toString i)) else none
  | _ => none
theorem c_str : CaD c.K (In c N sc) (.type "str") dStr := by
  refine ⟨_, fun X I => call_str_int, fun B H vs ds z bk hv hz Q q => ?_⟩
  unfold dStr at hz
  split at hz
  · split at hz
    · rename_i hl
      cases hz
      obtain ⟨v, rfl, h⟩ := hv.one
      exact ⟨_, by rw [h.int], Nat.lt_of_lt_of_le (PySem.Flt.log2_lt_of (by decide) hl) (by decide), q _ H (Sub.refl H) (.str _)⟩
    · cases hz
  · cases hz
def dMax2 : List D → Option D
  | [.int i, .int j] => some (.int (if j > i then j else i))
  | _ => none
theorem c_max2 : CaD c.K (In c N sc) (.builtin "max") dMax2 := by
  refine ⟨_, fun X I => call_max2 I.calm, fun B H vs ds z bk hv hz Q q => ?_⟩
  unfold dMax2 at hz
  split at hz
  · cases hz
    obtain ⟨v, u, rfl, h, k⟩ := hv.two
    exact ⟨_, _, by rw [h.int, k.int], q _ H (Sub.refl H) (.int _)⟩
  · cases hz
def dMin2 : List D → Option D
  | [.int i, .int j] => some (.int (if j < i then j else i))
  | _ => none
theorem c_min2 : CaD c.K (In c N sc) (.builtin "min") dMin2 := by
  refine ⟨_, fun X I => call_min2 I.calm, fun B H vs ds z bk hv hz Q q => ?_⟩
  unfold dMin2 at hz
  split at hz
  · cases hz
    obtain ⟨v, u, rfl, h, k⟩ := hv.two
    exact ⟨_, _, by rw [h.int, k.int], q _ H (Sub.refl H) (.int _)⟩
  · cases hz
def toInts : List D → Option (List Int)
  | [] => some []
  | .int i :: r => (toInts r).map fun q => i :: q
  | _ => none
theorem toInts_of : ∀ {ds : List D} {ns : List Int}, toInts ds = some ns → ds = ns.map PyData.int
  | [], ns, h => by cases h; rfl
  | .int i :: r, ns, h => by
    cases q : toInts r with
    | none => simp [toInts, q] at h
    | some l =>
      simp [toInts, q] at h
      subst h
      rw [toInts_of q]
      rfl
  | .none :: _, _, h => by cases h
  | .bool _ :: _, _, h => by cases h
  | .str _ :: _, _, h => by cases h
  | .list _ :: _, _, h => by cases h
  | .tuple _ :: _, _, h => by cases h
  | .dict _ :: _, _, h => by cases h
def toBools : List D → Option (List Bool)
  | [] => some []
  | .bool i :: r => (toBools r).map fun q => i :: q
  | _ => none
theorem toBools_of : ∀ {ds : List D} {ns : List Bool}, toBools ds = some ns → ds = ns.map PyData.bool
  | [], ns, h => by cases h; rfl
  | .bool i :: r, ns, h => by
    cases q : toBools r with
    | none => simp [toBools, q] at h
    | some l =>
      simp [toBools, q] at h
      subst h
      rw [toBools_of q]
      rfl
  | .none :: _, _, h => by cases h
  | .int _ :: _, _, h => by cases h
  | .str _ :: _, _, h => by cases h
  | .list _ :: _, _, h => by cases h
  | .tuple _ :: _, _, h => by cases h
  | .dict _ :: _, _, h => by cases h
def toStrs : List D → Option (List Str)
  | [] => some []
  | .str i :: r => (toStrs r).map fun q => i :: q
  | _ => none
theorem toStrs_of : ∀ {ds : List D} {ns : List Str}, toStrs ds = some ns → ds = ns.map PyData.str
  | [], ns, h => by cases h; rfl
  | .str i :: r, ns, h => by
    cases q : toStrs r with
    | none => simp [toStrs, q] at h
    | some l =>
      simp [toStrs, q] at h
      subst h
      rw [toStrs_of q]
      rfl
  | .none :: _, _, h => by cases h
  | .int _ :: _, _, h => by cases h
  | .bool _ :: _, _, h => by cases h
  | .list _ :: _, _, h => by cases h
  | .tuple _ :: _, _, h => by cases h
  | .dict _ :: _, _, h => by cases h
def dSum : List D → Option D
  | [.list ds] => (toInts ds).map fun ns => .int ns.sum
  | _ => none
theorem c_sum : CaD c.K (In c N sc) (.builtin "sum") dSum := by
  refine ⟨_, fun X I => by
    have h := cr_sum (X := X) I.calm
    rw [I.K] at h
    exact h, fun B H vs ds z bk hv hz Q q => ?_⟩
  unfold dSum at hz
  split at hz
  · rename_i ds
    cases q1 : toInts ds with
    | none => simp [q1] at hz
    | some ns =>
      simp [q1] at hz
      subst hz
      obtain ⟨v, rfl, h⟩ := hv.one
      obtain ⟨a, xs, rfl, h1, r1⟩ := h.list
      rw [toInts_of q1] at r1
      rw [r1.of_ints] at h1
      exact ⟨a, ns, rfl, h1, q _ H (Sub.refl H) (.int _)⟩
  · cases hz
def dAll : List D → Option D
  | [.list ds] => (toBools ds).map fun ns => .bool (ns.all id)
  | _ => none
theorem c_all : CaD c.K (In c N sc) (.builtin "all") dAll := by
  refine ⟨_, fun X I => by
    have h := cr_all (X := X) I.calm
    rw [I.K] at h
    exact h, fun B H vs ds z bk hv hz Q q => ?_⟩
  unfold dAll at hz
  split at hz
  · rename_i ds
    cases q1 : toBools ds with
    | none => simp [q1] at hz
    | some ns =>
      simp only [q1, Option.map_some] at hz
      cases hz
      obtain ⟨v, rfl, h⟩ := hv.one
      obtain ⟨a, xs, rfl, h1, r1⟩ := h.list
      rw [toBools_of q1] at r1
      rw [r1.of_bools] at h1
      exact ⟨a, ns, rfl, h1, q _ H (Sub.refl H) (.bl _)⟩
  · cases hz
def dAny : List D → Option D
  | [.list ds] => (toBools ds).map fun ns => .bool (ns.any id)
  | _ => none
theorem c_any : CaD c.K (In c N sc) (.builtin "any") dAny := by
  refine ⟨_, fun X I => by
    have h := cr_any (X := X) I.calm
    rw [I.K] at h
    exact h, fun B H vs ds z bk hv hz Q q => ?_⟩
  unfold dAny at hz
  split at hz
  · rename_i ds
    cases q1 : toBools ds with
    | none => simp [q1] at hz
    | some ns =>
      simp only [q1, Option.map_some] at hz
      cases hz
      obtain ⟨v, rfl, h⟩ := hv.one
      obtain ⟨a, xs, rfl, h1, r1⟩ := h.list
      rw [toBools_of q1] at r1
      rw [r1.of_bools] at h1
      exact ⟨a, ns, rfl, h1, q _ H (Sub.refl H) (.bl _)⟩
  · cases hz
def dList : List D → Option D
  | [.list ds] => some (.list ds)
  | [.tuple ds] => some (.list ds)
  | _ => none
theorem cf_list : CaF c.K (In c N sc) (.type "list") dList := by
  refine ⟨_, fun X I => by
    have h := call_list_of (X := X)
    rw [I.K] at h
    exact h, fun B H vs ds z bk hv hz Q q => ?_⟩
  unfold dList at hz
  split at hz
  · cases hz
    obtain ⟨v, rfl, h⟩ := hv.one
    obtain ⟨a, xs, rfl, h1, r1⟩ := h.list
    exact ⟨a, xs, rfl, .inl h1, fun l hl => q _ _ (Sub.new hl) hl (own_new hl r1)⟩
  · cases hz
    obtain ⟨v, rfl, h⟩ := hv.one
    obtain ⟨a, xs, rfl, h1, r1⟩ := h.tuple
    exact ⟨a, xs, rfl, .inr h1, fun l hl => q _ _ (Sub.new hl) hl (own_new hl r1)⟩
  · cases hz
def dTuple : List D → Option D
  | [.list ds] => some (.tuple ds)
  | [.tuple ds] => some (.tuple ds)
  | _ => none
theorem c_tuple : CaD c.K (In c N sc) (.type "tuple") dTuple := by
  refine ⟨_, fun X I => by
    have h := call_tuple_of (X := X)
    rw [I.K] at h
    exact h, fun B H vs ds z bk hv hz Q q => ?_⟩
  unfold dTuple at hz
  split at hz
  · cases hz
    obtain ⟨v, rfl, h⟩ := hv.one
    obtain ⟨a, xs, rfl, h1, r1⟩ := h.list
    refine ⟨a, xs, rfl, .inl ⟨h1, fun l hl => ?_⟩⟩
    obtain ⟨s1, r2⟩ := tup_new bk hl r1
    exact q _ _ s1 r2
  · cases hz
    obtain ⟨v, rfl, h⟩ := hv.one
    obtain ⟨a, xs, rfl, h1, r1⟩ := h.tuple
    refine ⟨a, xs, rfl, .inr ⟨h1, q _ H (Sub.refl H) ?_⟩⟩
    cases h with
    | vis h => exact h
  · cases hz
end

/-! ### methods of texts -/
structure MeD (K : Frag) (XS : Cx → Prop) (id : String) (f : Str → List D → Option D) : Prop where
  ex : ∃ r : V → List V → Hp → VK → Prop, (∀ X, XS X → MtR X id r) ∧ ∀ (B : Addr → Bool) (H : Hp) (x : Str) (vs : List V) (ds : List D) (z : D), (∀ a, B a = true → ∃ o, H a = some o) → RpL K (hide B H) vs ds → f x ds = some z →
    ∀ Q : VK, (∀ v H', Sub H H' → Rp K (hide B H') v z → Q v H') → r (.str x) vs H Q
def metK (f : Str → List D → Option D) (mo : En → Option (D × En)) (ma : En → Option (List D × En)) : En → Option (D × En) := fun ρ => (mo ρ).bind fun p => (ma p.2).bind fun q => match p.1 with
  | .str x => (f x q.1).map fun z => (z, q.2)
  | _ => none
section
variable {c : C0} {N : List Str} {sc : Scope} {o e : Expr} {es : List Expr} {mo : En → Option (D × En)} {ma : En → Option (List D × En)} {f : Str → List D → Option D} {p2 p3 : Pos} {m : Str} {id : String} {K : Frag}
theorem je_met (ho : MeD c.K (In c N sc) id f) (slot : Slot "str" m id) (hty : typeOf (.builtin id) = pure (.type "method_descriptor")) (h : JE c N sc o mo) (ha : JL c N sc (e :: es) ma)
    (hbase : ∀ env, attributeBase o m env (eval o env) = eval o env := by intros; rfl)
    (hfew : ∀ env, ((backTo p3 (starEach (e :: es) env)).all (fun x => !x.1) && (backToKw p3 (keywordEach [] env)).all (fun x => x.1.isSome) && decide ((e :: es).length + ([] : List Keyword).length + (if ([] : List Keyword).isEmpty then 0 else 1) < 30)) = true := by intros; rfl)
    (hline : (p2.endLine == p3.line) = true := by rfl) (hs : ∀ env, starEach (e :: es) env = (false, eval e env) :: starEach es env := by intros; rfl) (hplain : ∀ env, (backTo p3 (starEach es env)).any (·.1) = false := by intros; rfl) :
    JE c N sc (.Call (.Attribute o m p2) (e :: es) [] p3) (metK f mo ma) := by
  obtain ⟨t, h1, h2⟩ := h
  obtain ⟨u, k1, k2⟩ := ha
  obtain ⟨r, hr1, hr2⟩ := ho.ex
  refine ⟨tBM c.K "str" r t u, fun X I => ?_, fun σ H ρ B d ρ' S e Q q => ?_⟩
  · have q := pe_bm (cpos := p3) (apos := p2) PySem.F.plainAttrs_str slot hty (hr1 X I) (h1 X I) (k1 X I) (hbase _) (hfew _) hline (hs _) (hplain _)
    rw [I.K] at q
    exact q
  · unfold metK at e
    cases q1 : mo ρ with
    | none => simp [q1] at e
    | some p =>
      obtain ⟨d1, ρ1⟩ := p
      cases q2 : ma ρ1 with
      | none => simp [q1, q2] at e
      | some p =>
        obtain ⟨ds, ρ2⟩ := p
        simp only [q1, q2, Option.bind_some] at e
        split at e
        · rename_i x
          cases q3 : f x ds with
          | none => simp [q3] at e
          | some z =>
            simp [q3] at e
            obtain ⟨rfl, rfl⟩ := e
            refine h2 σ H ρ B _ _ S q1 _ fun v H1 A1 r1 => ?_
            rw [r1.stri]
            refine ⟨rfl, ?_⟩
            refine k2 σ H1 ρ1 B _ _ A1.sr q2 _ fun vs H2 A2 r2 => ?_
            exact hr2 B H2 x vs ds _ A2.sr.bk r2 q3 _ fun w H3 s3 r3 => q w H3 ((A1.trans A2).trans (Af.of_sub A2.sr s3)) r3
        · cases e
def dJoin (x : Str) : List D → Option D
  | [.list ds] => (toStrs ds).bind fun ys => if (ys.map (·.length)).sum + ys.length * x.length ≤ 100000 then some (.str (Txt.join x ys)) else none
  | _ => none
theorem m_join : MeD c.K (In c N sc) "str.join" dJoin := by
  refine ⟨_, fun X I => by
    have h := mt_join (X := X)
    rw [I.K] at h
    exact h, fun B H x vs ds z bk hv hz Q q => ?_⟩
  unfold dJoin at hz
  split at hz
  · rename_i ds
    cases q1 : toStrs ds with
    | none => simp [q1] at hz
    | some ys =>
      simp only [q1, Option.bind_some] at hz
      split at hz
      · rename_i hl
        cases hz
        obtain ⟨v, rfl, h⟩ := hv.rs.one
        obtain ⟨a, xs, rfl, h1, r1⟩ := h.list
        rw [toStrs_of q1] at r1
        rw [r1.of_strs] at h1
        exact ⟨x, a, ys, rfl, rfl, .inl h1, by omega, q _ H (Sub.refl H) (.str _)⟩
      · cases hz
  · cases hz
def dSplit (x : Str) : List D → Option D
  | [.str b] => if (b.length == 0) = false ∧ x.length + 2 ≤ 100000 then some (.list ((Txt.split x b).map PyData.str)) else none
  | _ => none
end

/-! ### what is walked -/
def strK (m : En → Option (D × En)) : En → Option (List D × En) := fun ρ => match m ρ with
  | some (.str x, ρ') => some (x.cps.toList.map fun k => .str ⟨#[k]⟩, ρ')
  | _ => none
def zipD (xs ys : List D) : List D := (xs.zip ys).map fun p => .tuple [p.1, p.2]
def zipK (m : En → Option (List D × En)) : En → Option (List D × En) := fun ρ => match m ρ with
  | some ([.list a, .list b], ρ') => some (zipD a b, ρ')
  | some ([.tuple a, .tuple b], ρ') => some (zipD a b, ρ')
  | _ => none
theorem zipD_length (xs ys : List D) : (zipD xs ys).length = min xs.length ys.length := by
  unfold zipD
  rw [List.length_map, List.length_zip]
theorem zipD_get {xs ys : List D} {i : Nat} {d : D} (h : (zipD xs ys)[i]? = some d) : ∃ x y, xs[i]? = some x ∧ ys[i]? = some y ∧ d = .tuple [x, y] := by
  unfold zipD at h
  rw [List.getElem?_map] at h
  cases q : (xs.zip ys)[i]? with
  | none => rw [q] at h; cases h
  | some p =>
    rw [q] at h
    cases h
    rw [List.getElem?_zip_eq_some] at q
    exact ⟨p.1, p.2, q.1, q.2, rfl⟩
def enumD : Nat → List D → List D
  | _, [] => []
  | i, d :: r => .tuple [.int i, d] :: enumD (i + 1) r
def enumK (m : En → Option (List D × En)) : En → Option (List D × En) := fun ρ => match m ρ with
  | some ([.list a], ρ') => some (enumD 0 a, ρ')
  | _ => none
theorem enumD_length : ∀ (xs : List D) (i : Nat), (enumD i xs).length = xs.length
  | [], _ => rfl
  | _ :: r, i => congrArg (· + 1) (enumD_length r (i + 1))
theorem enumD_get : ∀ (xs : List D) (n i : Nat) (d : D), (enumD n xs)[i]? = some d → ∃ x, xs[i]? = some x ∧ d = .tuple [.int ((n + i : Nat) : Int), x]
  | [], n, i, d, h => by simp [enumD] at h
  | x :: r, n, 0, d, h => by
    simp [enumD] at h
    exact ⟨x, rfl, h.symm⟩
  | x :: r, n, i + 1, d, h => by
    have h' : (enumD (n + 1) r)[i]? = some d := h
    obtain ⟨y, a, b⟩ := enumD_get r (n + 1) i d h'
    exact ⟨y, a, by rw [b, show n + 1 + i = n + (i + 1) by omega]⟩
section
variable {c : C0} {N : List Str} {sc : Scope} {e e2 tg : Expr} {elts : List Expr} {kk : Nat} {pos p tpos : Pos} {me : En → Option (D × En)} {ma : En → Option (List D × En)} {K : Frag}
theorem ji_str (h : JE c N sc e me) : JI c N sc tg e (strK me) := by
  obtain ⟨t, h1, h2⟩ := h
  refine ⟨iStr t, fun X I => pi_str (h1 X I), fun σ H ρ B ds ρ' S e R q => ?_⟩
  unfold strK at e
  split at e
  · rename_i x ρ1 he
    cases e
    refine h2 σ H ρ B _ _ S he _ fun v H1 A r => ⟨x, r.stri, q _ H1 A fun B' H' sb bk => ⟨fun i d hi => ?_, ?_⟩⟩
    · rw [List.getElem?_map] at hi
      cases hk : x.cps.toList[i]? with
      | none => rw [hk] at hi; cases hi
      | some w =>
        rw [hk] at hi
        cases hi
        have hk' : x.cps[i]? = some w := by simpa using hk
        refine ⟨(Array.getElem?_eq_some_iff.mp hk').1, fun y H'' z => ?_⟩
        obtain ⟨rfl, w', hw, rfl⟩ := z
        rw [hk'] at hw
        cases hw
        exact ⟨Sub.refl _, .str _⟩
    · show x.cps.size ≤ _
      simp
  · cases e
theorem pair_ok {B : Addr → Bool} {H : Hp} {T : Addr} {x y : V} {d e : D} (bk : ∀ a, B a = true → ∃ o, H a = some o) (hT : H T = none) (h1 : Rp K (hide B H) x d) (h2 : Rp K (hide B H) y e) : Sub H (upd H T (.tup [x, y])) ∧ Rp K (hide B (upd H T (.tup [x, y]))) (.ref T) (.tuple [d, e]) :=
  tup_new bk hT (.cons h1 (.cons h2 .nil))
theorem ji_zip (hg : sc.names.lookup ("zip" : Str) = some .globalImplicit) (hm : c.mg ("zip" : Str) = none) (h : JL c N sc [e, e2] ma)
    (hs : ∀ env, starEach [e, e2] env = (false, eval e env) :: starEach [e2] env := by intros; rfl) (hpl : ∀ env, (backTo pos (starEach [e2] env)).any (·.1) = false := by intros; rfl) : JI c N sc (.Tuple elts kk tpos) (.Call (.Name "zip" p) [e, e2] [] pos) (zipK ma) := by
  obtain ⟨t, h1, h2⟩ := h
  refine ⟨RZ.iZipA c.K t, fun X I => ?_, fun σ H ρ B ds ρ' S e R q => ?_⟩
  · have h := RZ.pi_zipA (elts := elts) (kk := kk) (tpos := tpos) (p := p) (pos := pos) (I.gl hg) (by rw [I.mg]; exact hm) (h1 X I) (hs _) (hpl _)
    rw [I.K] at h
    exact h
  · unfold zipK at e
    split at e
    · rename_i a b ρ1 he
      cases e
      refine h2 σ H ρ B _ _ S he _ fun vs H1 A r => ?_
      cases r with
      | cons r1 r2 =>
        cases r2 with
        | cons r2 r3 =>
          cases r3
          cases r1 with
          | lst s1 r1 =>
            cases r2 with
            | lst s2 r2 =>
              refine ⟨_, _, _, _, rfl, .inl ⟨sub_l (hide_sub B H1) s1, sub_l (hide_sub B H1) s2, q _ H1 A fun B' H' sb bk => ⟨fun i d hi => ?_, ?_⟩⟩⟩
              · obtain ⟨x, y, g1, g2, rfl⟩ := zipD_get hi
                obtain ⟨v, f1, f2⟩ := r1.get' g1
                obtain ⟨u, k1, k2⟩ := r2.get' g2
                have q1 := sub_l (sb.trans (hide_sub B' H')) s1
                have q2 := sub_l (sb.trans (hide_sub B' H')) s2
                refine ⟨⟨_, _, v, u, q1, q2, f1, k1⟩, fun z H'' w => ?_⟩
                obtain ⟨T, x', y', rfl, hT, rfl, m1, m2⟩ := w
                have e1 := m1 _ q1
                have e2 := m2 _ q2
                rw [f1] at e1
                rw [k1] at e2
                cases e1
                cases e2
                exact pair_ok bk hT (f2.mono sb) (k2.mono sb)
              · refine ⟨_, _, sub_l (sb.trans (hide_sub B' H')) s1, sub_l (sb.trans (hide_sub B' H')) s2, ?_⟩
                rw [r1.length, r2.length, zipD_length]
                omega
    · rename_i a b ρ1 he
      cases e
      refine h2 σ H ρ B _ _ S he _ fun vs H1 A r => ?_
      cases r with
      | cons r1 r2 =>
        cases r2 with
        | cons r2 r3 =>
          cases r3
          cases r1 with
          | tup s1 r1 =>
            cases r2 with
            | tup s2 r2 =>
              refine ⟨_, _, _, _, rfl, .inr ⟨sub_t (hide_sub B H1) s1, sub_t (hide_sub B H1) s2, q _ H1 A fun B' H' sb bk => ⟨fun i d hi => ?_, ?_⟩⟩⟩
              · obtain ⟨x, y, g1, g2, rfl⟩ := zipD_get hi
                obtain ⟨v, f1, f2⟩ := r1.get' g1
                obtain ⟨u, k1, k2⟩ := r2.get' g2
                have q1 := sub_t (sb.trans (hide_sub B' H')) s1
                have q2 := sub_t (sb.trans (hide_sub B' H')) s2
                refine ⟨⟨_, _, v, u, q1, q2, f1, k1⟩, fun z H'' w => ?_⟩
                obtain ⟨T, x', y', rfl, hT, rfl, m1, m2⟩ := w
                have e1 := m1 _ q1
                have e2 := m2 _ q2
                rw [f1] at e1
                rw [k1] at e2
                cases e1
                cases e2
                exact pair_ok bk hT (f2.mono sb) (k2.mono sb)
              · refine ⟨_, _, sub_t (sb.trans (hide_sub B' H')) s1, sub_t (sb.trans (hide_sub B' H')) s2, ?_⟩
                rw [r1.length, r2.length, zipD_length]
                omega
    · cases e
end
end Dz

/-! Dz. I: short words for the generator; op=; the end. -/
namespace Dz
open PySem L2
section
variable {c : C0} {N : List Str} {sc : Scope} {e b : Expr} {es : List Expr} {me mb : En → Option (D × En)} {mr : En → Option (List Ar × En)} {ml : En → Option (List D × En)} {mh mk : En → Option (Option Int × En)} {pos p p1 p2 : Pos} {x : Str} {g : D → D → Option D} {K : Frag}
theorem v_ (i : Nat) (hN : N[i]? = some x := by rfl) (hv : Vis sc x := by first | exact Or.inl rfl | exact Or.inr (Or.inl rfl) | exact Or.inr (Or.inr rfl)) (hd : (x == ("__debug__" : Str)) = false := by decide) (hcd : (x == ("__classdict__" : Str)) = false := by decide) : JE c N sc (.Name x pos) (kV i) := ce_var hN hv hd hcd
theorem o_ (i : Nat) (hN : N[i]? = some x := by rfl) (hv : Vis sc x := by first | exact Or.inl rfl | exact Or.inr (Or.inl rfl) | exact Or.inr (Or.inr rfl)) (hd : (x == ("__debug__" : Str)) = false := by decide) (hcd : (x == ("__classdict__" : Str)) = false := by decide) : JA c N sc (.Name x pos) (kO i) := ca_var hN hv hd hcd
theorem g_int {i : Int} (hg : sc.names.lookup x = some .globalImplicit := by rfl) (hm : ∃ t, c.mg x = some (.int i t)) (hd : (x == ("__debug__" : Str)) = false := by decide) : JE c N sc (.Name x pos) (kC (.int i)) := by
  obtain ⟨t, h⟩ := hm
  exact ce_glob (v := .int i) hg h ⟨t, rfl⟩ (fun _ => .int i) hd
theorem g_str {i : Str} (hg : sc.names.lookup x = some .globalImplicit := by rfl) (hm : ∃ t, c.mg x = some (.str i t)) (hd : (x == ("__debug__" : Str)) = false := by decide) : JE c N sc (.Name x pos) (kC (.str i)) := by
  obtain ⟨t, h⟩ := hm
  exact ce_glob (v := .str i) hg h ⟨t, rfl⟩ (fun _ => .str i) hd
theorem bor_ (i : Nat) (k : JG c N sc es mr) (hN : N[i]? = some x := by rfl) (hv : Vis sc x := by first | exact Or.inl rfl | exact Or.inr (Or.inl rfl) | exact Or.inr (Or.inr rfl)) (hd : (x == ("__debug__" : Str)) = false := by decide) (hcd : (x == ("__classdict__" : Str)) = false := by decide) : JG c N sc (.Name x p :: es) (gbor i mr) := jg_bor hN hv k hd hcd
theorem opO_ (i : Nat) {op : Operator} (ho : OpD c.K (In c N sc) (binaryOp op) g) (hb : JA c N sc b mb) (hN : N[i]? = some x := by rfl) (hv : Vis sc x := by first | exact Or.inl rfl | exact Or.inr (Or.inl rfl) | exact Or.inr (Or.inr rfl)) (hd : (x == ("__debug__" : Str)) = false := by decide) (hcd : (x == ("__classdict__" : Str)) = false := by decide) : JE c N sc (.BinOp (.Name x p1) op b pos) (bopO g i mb) := ce_opO ho hN hv hb hd hcd
theorem cmpO_ (i : Nat) {op : CmpOp} (ho : OpD c.K (In c N sc) (compareOp op) g) (hb : JA c N sc b mb) (hm : behindInMarks op b = false := by rfl) (hN : N[i]? = some x := by rfl) (hv : Vis sc x := by first | exact Or.inl rfl | exact Or.inr (Or.inl rfl) | exact Or.inr (Or.inr rfl)) (hd : (x == ("__debug__" : Str)) = false := by decide) (hcd : (x == ("__classdict__" : Str)) = false := by decide) : JE c N sc (.Compare (.Name x p1) [op] [b] pos) (bopO g i mb) := ce_cmpO ho hN hv hb hm hd hcd
theorem tcmpO_ (i : Nat) {op : CmpOp} (ho : OpD c.K (In c N sc) (compareOp op) g) (hb : JA c N sc b mb) (hm : behindInMarks op b = false := by rfl) (hN : N[i]? = some x := by rfl) (hv : Vis sc x := by first | exact Or.inl rfl | exact Or.inr (Or.inl rfl) | exact Or.inr (Or.inr rfl)) (hd : (x == ("__debug__" : Str)) = false := by decide) (hcd : (x == ("__classdict__" : Str)) = false := by decide) : JT c N sc (.Compare (.Name x p1) [op] [b] pos) (tstK (bopO g i mb)) := jt_cmpO ho hN hv hb hm hd hcd
theorem ixO_ (i : Nat) (ho : IxD c.K (In c N sc) g) (hb : JA c N sc b mb) (hs : PlainIx b := by intro _ _; rfl) (hN : N[i]? = some x := by rfl) (hv : Vis sc x := by first | exact Or.inl rfl | exact Or.inr (Or.inl rfl) | exact Or.inr (Or.inr rfl)) (hd : (x == ("__debug__" : Str)) = false := by decide) (hcd : (x == ("__classdict__" : Str)) = false := by decide) : JE c N sc (.Subscript (.Name x p1) b pos) (bopO g i mb) := je_ixO ho hN hv hb hs hd hcd
theorem cutO_ (i : Nat) {lo hi : Option Expr} (hl : JP c N sc lo mh) (hh : JP c N sc hi mk) (hN : N[i]? = some x := by rfl) (hv : Vis sc x := by first | exact Or.inl rfl | exact Or.inr (Or.inl rfl) | exact Or.inr (Or.inr rfl)) (hd : (x == ("__debug__" : Str)) = false := by decide) (hcd : (x == ("__classdict__" : Str)) = false := by decide) : JE c N sc (.Subscript (.Name x p1) (.Slice lo hi none p2) pos) (cutO dCut i mh mk) := je_cutO hN hv hl hh hd hcd

/-- x op= e -/
def augS (g : D → D → Option D) (i : Nat) (me : En → Option (D × En)) : En → Option SO := fun ρ => (kV i ρ).bind fun p => (me ρ).bind fun q => (g p.1 q.1).bind fun z => (setv i z q.2).map .nx
theorem ss_aug {te : TE} {r : R2} {i : Nat} (h : Sd K te me) (hr : ∀ (B : Addr → Bool) (H : Hp) (x y : V) (d e z : D), (∀ a, B a = true → ∃ o, H a = some o) → Rs K B H x d → Rs K B H y e → g d e = some z →
    ∀ Q : VK, (∀ v H', Sub H H' → Rp K (hide B H') v z → Q v H') → r x y H Q) : SS K (tAug i te r) (augS g i me) := fun σ H ρ B o S e Dn h' => by
  unfold augS at e
  cases q0 : kV i ρ with
  | none => simp [q0] at e
  | some p0 =>
    obtain ⟨d0, ρ0⟩ := p0
    unfold kV at q0
    split at q0
    · rename_i d' hd'
      cases q0
      cases q1 : me ρ with
      | none => simp [kV, hd', q1] at e
      | some p1 =>
        obtain ⟨d1, ρ1⟩ := p1
        cases q2 : g d0 d1 with
        | none => simp [kV, hd', q1, q2] at e
        | some z =>
          cases q3 : setv i z ρ1 with
          | none => simp [kV, hd', q1, q2, q3] at e
          | some ρ2 =>
            simp [kV, hd', q1, q2, q3] at e
            subst e
            obtain ⟨v, g1, g2⟩ := S.val i _ hd'
            refine ⟨v, g1, ?_⟩
            refine h σ H ρ B _ _ S q1 _ fun w H1 A1 r1 => ?_
            refine hr B H1 v w _ _ _ A1.sr.bk (.vis (g2.mono (A1.sub S))) (.vis r1) q2 _ fun y H2 s2 r2 => ?_
            have A2 := A1.trans (Af.of_sub A1.sr s2)
            exact h' B _ H2 (A2.bf.trans S (bf_setv A2.sr q3 r2))
    · cases q0
def dIAdd : D → D → Option D
  | .int a, .int b => some (.int (a + b))
  | .str a, .str b => if a.length + b.length ≤ 100000 then some (.str (a ++ b)) else none
  | _, _ => none
theorem o_iadd : OpD c.K (In c N sc) (inplaceOp .Add) dIAdd := by
  refine ⟨_, fun X I => OpR.or (X := X) iop_add iop_add_str, fun B H x y d e z bk hx hy hz Q q => ?_⟩
  unfold dIAdd at hz
  split at hz
  · cases hz
    exact .inl ⟨_, _, hx.int, hy.int, q _ H (Sub.refl H) (.int _)⟩
  · split at hz
    · rename_i hl
      cases hz
      exact .inr ⟨_, _, hx.str, hy.str, sz5 hl, q _ H (Sub.refl H) (.str _)⟩
    · cases hz
  · cases hz
theorem o_isub : OpD c.K (In c N sc) (inplaceOp .Sub) dSub := by
  refine ⟨_, fun X I => iop_sub, fun B H x y d e z bk hx hy hz Q q => ?_⟩
  unfold dSub at hz
  split at hz
  · cases hz
    exact ⟨_, _, hx.int, hy.int, q _ H (Sub.refl H) (.int _)⟩
  · cases hz
theorem js_aug {op : Operator} {i : Nat} (nd : N.Nodup) (ho : OpD c.K (In c N sc) (inplaceOp op) g) (h : JE c N sc e me) (hN : N[i]? = some x := by rfl) (hs : Sto c sc x := by first | exact Or.inl rfl | exact Or.inr ⟨rfl, rfl⟩) : JS c N sc (.AugAssign (.Name x p) op e pos) (augS g i me) := by
  obtain ⟨r, h1, h2⟩ := ho.ex
  obtain ⟨t, a1, a2⟩ := h
  exact ⟨_, fun X I => ps_aug (by rw [I.N]; exact nd) (by rw [I.N]; exact hN) (hs.loc I) (a1 X I) (h1 X I) (hs.fn I), ss_aug a2 h2⟩
theorem set_ (i : Nat) (nd : N.Nodup) (h : JE c N sc e me) (hN : N[i]? = some x := by rfl) (hs : Sto c sc x := by first | exact Or.inl rfl | exact Or.inr ⟨rfl, rfl⟩) (hw : ∀ env, swapsWith e (some (.Name x p1)) pos.line env = pure false := by intros; rfl) : JS c N sc (.Assign [.Name x p1] e pos) (asgS me (setv i)) := js_set nd hN hs h hw
theorem own_ (i : Nat) (nd : N.Nodup) (h : JF c N sc e me) (hN : N[i]? = some x := by rfl) (hs : Sto c sc x := by first | exact Or.inl rfl | exact Or.inr ⟨rfl, rfl⟩) (hw : ∀ env, swapsWith e (some (.Name x p1)) pos.line env = pure false := by intros; rfl) : JS c N sc (.Assign [.Name x p1] e pos) (asgS me (seto i)) := js_own nd hN hs h hw
theorem tg_ (i : Nat) (nd : N.Nodup) (hN : N[i]? = some x := by rfl) (hs : Sto c sc x := by first | exact Or.inl rfl | exact Or.inr ⟨rfl, rfl⟩) : JTg c N sc (.Name x pos) [i] (setv i) := jtg_name nd hN hs
theorem seti_ (i : Nat) (h : JE c N sc e me) (hi : JE c N sc b mb) (hN : N[i]? = some x := by rfl) (hv : Vis sc x := by first | exact Or.inl rfl | exact Or.inr (Or.inl rfl) | exact Or.inr (Or.inr rfl)) (hd : (x == ("__debug__" : Str)) = false := by decide) (hcd : (x == ("__classdict__" : Str)) = false := by decide)
    (ha : ∀ env v, assign (.Subscript (.Name x p1) b p2) env v = (do
      let ov ← holding [v] (eval (.Name x p1) env)
      let iv ← holding [v, ov] (eval b env)
      standAt p2
      holding [v, ov, iv] (setItem ov iv v)
      release [v, ov, iv] []) := by intros; rfl)
    (hs : ∀ env, swapsWithSole [.Subscript (.Name x p1) b p2] e pos.line env = pure false := by intros; rfl) (hw : ∀ env, swappedStores [.Subscript (.Name x p1) b p2] e env = pure none := by intros; rfl)
    (h1 : ∀ env, (assignEach [.Subscript (.Name x p1) b p2] env).map (·.2) = [assign (.Subscript (.Name x p1) b p2) env] := by intros; rfl) : JS c N sc (.Assign [.Subscript (.Name x p1) b p2] e pos) (setiS i me mb) := js_seti hN hv h hi hd hcd ha hs hw h1
/-- y = [..] on one line -/
theorem setLc_ (i : Nat) {elt tg iter : Expr} {ifs : List Expr} {scope : Scope} {spos : Pos} {own : List (Str × Nat)} {js : List Nat} {mi : En → Option (List D × En)} {mg : D → En → Option En} {mt : En → Option (Bool × En)} (nd : N.Nodup)
    (hi : JI c N sc tg iter mi) (ok : BlkOk N sc scope own) (hg : JTg c.in_ N (relS scope sc) tg js mg) (ht : JTs c.in_ N (relS scope sc) ifs mt) (he : JE c.in_ N (relS scope sc) elt me)
    (hN : N[i]? = some x := by rfl) (hx : sc.names.lookup x = some .local := by rfl) (hk : sc.kind = .function := by rfl) (hl : (p1.line == pos.line) = true := by rfl) (hn : (scope.names.any fun (n, k) => n == x && (k == .local || k == .cell)) = false := by decide +kernel)
    (hj : (js.all fun j => (own.map (·.2)).contains j) = true := by rfl) (hs : ∀ env x, foldedSetIterable iter env x = pure x := by intros; rfl) : JS c N sc (.Assign [.Name x p1] (.ListComp elt [⟨tg, iter, ifs, 0⟩] scope pos) spos) (asgS (lcK (own.map (·.2)) mi mg mt me) (setv i)) :=
  js_lc (fun _ h => ss_asg h.d sgt_name) nd hN hx hk hl hn hi ok hg ht he hj hs
theorem ownLc_ (i : Nat) {elt tg iter : Expr} {ifs : List Expr} {scope : Scope} {spos : Pos} {own : List (Str × Nat)} {js : List Nat} {mi : En → Option (List D × En)} {mg : D → En → Option En} {mt : En → Option (Bool × En)} (nd : N.Nodup)
    (hi : JI c N sc tg iter mi) (ok : BlkOk N sc scope own) (hg : JTg c.in_ N (relS scope sc) tg js mg) (ht : JTs c.in_ N (relS scope sc) ifs mt) (he : JE c.in_ N (relS scope sc) elt me)
    (hN : N[i]? = some x := by rfl) (hx : sc.names.lookup x = some .local := by rfl) (hk : sc.kind = .function := by rfl) (hl : (p1.line == pos.line) = true := by rfl) (hn : (scope.names.any fun (n, k) => n == x && (k == .local || k == .cell)) = false := by decide +kernel)
    (hj : (js.all fun j => (own.map (·.2)).contains j) = true := by rfl) (hs : ∀ env x, foldedSetIterable iter env x = pure x := by intros; rfl) : JS c N sc (.Assign [.Name x p1] (.ListComp elt [⟨tg, iter, ifs, 0⟩] scope pos) spos) (asgS (lcK (own.map (·.2)) mi mg mt me) (seto i)) :=
  js_lc (fun _ h => ss_asgo h) nd hN hx hk hl hn hi ok hg ht he hj hs
end
/-- a def as the top has left it -/
def At (c : C0) (x : Str) (st : Stmt) (ps : List Str) : Prop := ∃ f fd, Fun c.K x x st f fd ∧ c.mg x = some (.ref f) ∧ Binds c.K fd ps []
theorem At.fn {c : C0} {x : Str} {st : Stmt} {N ps : List Str} {k : Nat} {m : En → Option SO} (A : At c x st ps) (S : FnScope N ps (defScope st)) (h : JB { c with k := k, top := true } N (defScope st) (defBody st) m) (hn : ps.length ≤ N.length := by decide) : FnD c (k + 1) x ps (runF ps.length N.length m) := by
  obtain ⟨f, fd, F, hm, b⟩ := A
  exact fnD F hm b S h hn
theorem FnD.mono {c : C0} {x : Str} {ps : List Str} {j k : Nat} {m : Fm} (h : FnD c j x ps m) (l : j ≤ k) : FnD c k x ps m := by
  obtain ⟨f, fd, F, r⟩ := h
  exact ⟨f, fd, F.mono l, r⟩
/-! ### the law -/
def scriptD (ns : List Int) : D := .list (ns.map PyData.int)
/-- the law's end: its mirror gives True at every script -/
theorem law_fn {c : C0} {f : Addr} {fd : FuncData} {k : Nat} {m : Fm} {x : Str} (F : FnOk c.P c.w c.K c.mg c.base CX0 k f fd [x] (spD c.K m)) (hm : ∀ ns : List Int, ns.length ≤ 63 → ∃ as, m [.val (scriptD ns)] = some (.bool true, as)) :
    FnOk c.P c.w c.K c.mg c.base CX0 k f fd [x] (fun vs H Q _ => ∃ (a : Addr) (ns : List Int), vs = [.ref a] ∧ SqL c.K H a (ns.map V.int) ∧ ns.length ≤ 63 ∧ ∀ H', Q (.bl true) H') :=
  F.imp fun vs H Q E h => by
    obtain ⟨a, ns, rfl, hS, hl, q⟩ := h
    obtain ⟨as, e⟩ := hm ns hl
    refine ⟨fun _ => false, [.val (scriptD ns)], .bool true, as, e, ?_, fun v H' A r => ?_⟩
    · have hh : hide (fun _ => false) H = H := by
        funext b
        rfl
      refine ⟨rfl, fun i d e => ?_, fun i s e m => ?_, fun i j s t l e1 m1 e2 m2 e3 e4 => ?_, fun a h => by cases h⟩
      · cases i with
        | zero =>
          cases e
          refine ⟨.ref a, rfl, ?_⟩
          rw [hh]
          exact .lst hS (RpL.ints ns)
        | succ i => simp at e
      · cases i with
        | zero => cases e; cases m
        | succ i => simp at e
      · cases i with
        | zero => cases e1; cases m1
        | succ i => simp at e1
    · rw [r.booli]
      exact q H'
theorem walk_law {l : PySem.W.OpenLaw} {q : Program} {loose : List Str} {XP : (Str → Option Value) → Heap → Prop} {YP : World → Heap → Prop} {d : DefRec} {K : Params → PySem.W.Frag} {k : Nat} {x : Str} (hn : l.most = some 63) (hdf : d.params.defaults = [])
    (hr : Room k callerA) (hY : ∀ (w : World) (h : Heap), YP w h → (K w.params).In h)
    (F : ∀ (w : World) (mg : Str → Option Value) (fa : Addr) (h : Heap), (K w.params).In h → h.Ns mainGlobals mg → mg d.name = some (.ref fa) →
      ∃ fd : FuncData, (∀ (s : Shared) (u : Value), BindsTo s fd ⟨[u], []⟩ [(x, u)]) ∧ ∀ base : Heap, (K w.params).In base → base.Ns mainGlobals mg → FnOk l.prog w (K w.params) mg base CX0 k fa fd [x]
        (fun vs H Q _ => ∃ (a : Addr) (ns : List Int), vs = [.ref a] ∧ SqL (K w.params) H a (ns.map V.int) ∧ ns.length ≤ 63 ∧ ∀ H', Q (.bl true) H')) :
    PySem.W.WalkO q loose XP YP l.row.toRowW d [] (fun f vs => PySem.call f vs) :=
  L2.walk_of (n := 63) (k := k) (x := x) (CX := fun _ => CX0) (sp := fun w vs H Q _ => ∃ (a : Addr) (ns : List Int), vs = [.ref a] ∧ SqL (K w.params) H a (ns.map V.int) ∧ ns.length ≤ 63 ∧ ∀ H', Q (.bl true) H') hn (by decide) hdf hr hY F (fun _ _ a ns hl _ hS => ⟨a, ns, rfl, hS, hl, fun _ => rfl⟩) fun _ _ _ _ _ z => z
end Dz

/-! Dz. K: more operations: list * int, insert, extend, range with a step. -/
namespace Dz
open PySem L2
variable {c : C0} {N : List Str} {sc : Scope}
theorem RpL.rep {K : Frag} {H : Hp} {vs : List V} {ds : List D} (r : RpL K H vs ds) : ∀ n : Nat, RpL K H (List.replicate n vs).flatten (List.replicate n ds).flatten
  | 0 => .nil
  | n + 1 => by
    rw [List.replicate_succ, List.replicate_succ, List.flatten_cons, List.flatten_cons]
    exact r.append (RpL.rep r n)
def dRep : D → D → Option D
  | .list a, .int k => if k < 2 ^ 63 ∧ -(2 ^ 63) ≤ k ∧ a.length * k.toNat ≤ 100000 then some (.list (List.replicate k.toNat a).flatten) else none
  | _, _ => none
theorem sf_rep {K : Frag} {ta tb : TE} {ma mb : En → Option (D × En)} (ha : Sf K ta ma) (hb : So K tb mb) : Sf K (tOp rRep ta tb) (bop dRep ma mb) := fun σ H ρ B d ρ' S e Q q => by
  unfold bop at e
  cases h1 : ma ρ with
  | none => rw [h1] at e; cases e
  | some p =>
    obtain ⟨d1, ρ1⟩ := p
    rw [h1] at e
    cases h2 : mb ρ1 with
    | none => simp [h2] at e
    | some p2 =>
      obtain ⟨d2, ρ2⟩ := p2
      cases h3 : dRep d1 d2 with
      | none => simp [h2, h3] at e
      | some z =>
        simp [h2, h3] at e
        obtain ⟨rfl, rfl⟩ := e
        refine ha σ H ρ B _ _ S h1 _ fun l H1 A1 Si hl o1 => ?_
        have nl : ¬ Mine σ ρ l := fun m => by
          have := S.mine m
          rw [S.fresh hl] at this
          cases this
        have nl1 : ¬ Mine σ ρ1 l := fun m => nl (A1.kin.mine.mp m)
        refine hb σ H1 ρ1 B _ _ A1.sr h2 _ fun y H2 A2 r2 => ?_
        unfold dRep at h3
        split at h3
        · rename_i ds k
          split at h3
          · rename_i hk
            cases h3
            obtain ⟨vs, g1, g2⟩ := o1
            have g3 : H2 l = some (.lst vs) := A2.keep l _ g1 nl1
            have g4 : RpL K (hide B H2) vs ds := (g2.mono ins_sub).mono (A2.sub A1.sr)
            refine ⟨l, k, vs, rfl, r2.int, g3, hk.2.1, hk.1, Nat.le_trans (by rw [g4.length]; exact hk.2.2) (by decide), fun p hp => ?_⟩
            have sb : Sub H2 (upd H2 p (.lst (List.replicate k.toNat vs).flatten)) := Sub.new hp
            have hps : H p = none := by
              cases z0 : H p with
              | none => rfl
              | some o =>
                obtain ⟨o1, z1⟩ := (A1.trans A2).grow p o z0
                rw [hp] at z1
                cases z1
            have ow : OwnAt K (hide (ins p B) (upd H2 p (.lst (List.replicate k.toNat vs).flatten))) ((upd H2 p (.lst (List.replicate k.toNat vs).flatten)) p) (.list (List.replicate k.toNat ds).flatten) :=
              ⟨_, upd_same, (g4.rep _).mono (sub_ins hp (hsub sb))⟩
            exact q p _ ((A1.trans A2).trans (Af.of_sub A2.sr sb)) (A2.sr.ins hp sb ⟨_, upd_same⟩) hps ow
          · cases h3
        · cases h3
theorem cf_rep {a b : Expr} {ma mb : En → Option (D × En)} {pos : Pos} (ha : JF c N sc a ma) (hb : JA c N sc b mb) : JF c N sc (.BinOp a .Mult b pos) (bop dRep ma mb) := by
  obtain ⟨ta, p1, s1⟩ := ha
  obtain ⟨tb, p2, s2⟩ := hb
  exact ⟨_, fun X I => pe_op (op_rep (X := X)) (p1 X I) (p2 X I), sf_rep s1 s2⟩
/-! insert, extend -/
def muInsert (ds as : List D) : Option (D × List D) := match as with
  | [.int i, d] => if ds.length < 100000 ∧ 0 ≤ i ∧ i < 2 ^ 63 then some (.none, ds.take i.toNat ++ [d] ++ ds.drop i.toNat) else none
  | _ => none
theorem mu_insert {K : Frag} {XS : Cx → Prop} : MuD K XS "list.insert" muInsert := ⟨_, fun X _ => mt_insert, fun B H l vs ds us as z ds' bk bl hl r ra e Q q => by
  unfold muInsert at e
  split at e
  · rename_i i d
    split at e
    · rename_i hn
      cases e
      cases ra with
      | cons r1 r2 =>
        cases r2 with
        | cons r2 r3 =>
          cases r3
          cases r1
          exact ⟨l, vs, i, _, rfl, rfl, hl, Nat.lt_of_lt_of_le (by rw [r.length]; exact hn.1) (by decide), hn.2.1, hn.2.2, q _ _ (((r.take _).append (.cons r2 .nil)).append (r.drop _)) .non⟩
    · cases e
  · cases e⟩
theorem list_extendW (l : Addr) (items : Array Value) (n : Nat) (b : Addr) (items2 : Array Value) (n2 : Nat) (dd2 : Option Addr) (sl2 : Array (Option Value)) (hc0 : ¬(!items.isEmpty && Builtin.List.listTooLong (items.size + items2.size)) = true) (hc1 : items.size ≤ sizeLine) (hs2 : items.size + items2.size ≤ sizeLine + 1) :
    Meets (Builtin.«list.extend» ⟨[.ref l, .ref b], []⟩) (fun _ R s => s.heap.get? l = some { cls := .type "list", dict := none, data := .seq items n, slots := #[] } ∧ s.heap.get? b = some { cls := .type "list", dict := dd2, data := .seq items2 n2, slots := sl2 } ∧ R (.ok (.ret Value.none)) { s with heap := s.heap.update l (Obj.mapSeq fun x => x ++ items2) }) :=
  .of_wp fun prog w A R s h => by
    obtain ⟨hp, g, d, tk, os⟩ := s; obtain ⟨hl, hb, h⟩ := h; have f1 := AutoSeq1.idx_int; have f2 := AutoSeq1.sub_tuple_tuple; have f3 := AutoSeq1.sub_list_list; have f4 := AutoSeq1.sub_tuple_list; have f5 := AutoSeq1.sub_list_tuple
    have hz' : (items ++ items2).size ≤ sizeLine + 1 := by rw [Array.size_append]; exact hs2
    wp_walk using (wpAny_updateSeq hl rfl (hz := hc1) (_hz' := hz')), AutoSeq1.wpAny_loadPart' hl, AutoSeq1.wpAny_loadPart' hb; exact ⟨_, rfl, h⟩
def rExtW (K : Frag) : V → List V → Hp → VK → Prop := fun x vs H Q => ∃ l b xs zs, x = .ref l ∧ vs = [.ref b] ∧ H l = some (.lst xs) ∧ SqL K H b zs ∧ xs.length + zs.length ≤ sizeLine ∧ Q .non (upd H l (.lst (xs ++ zs)))
theorem mt_extendW {X : Cx} : MtM X "list.extend" (rExtW X.K) := by
  intro pins s σ H x vs v us Q I rx rv h
  obtain ⟨l, b, xs, zs, rfl, rfl, hH, hB, hz, q⟩ := h
  cases rx
  obtain ⟨u, rfl, ru⟩ := rv.one
  cases ru
  obtain ⟨z, its, n, r, hl, e⟩ := I.lstM hH
  obtain ⟨its2, r2, pl2, hz2⟩ := I.list hB
  have l2 := r2.length
  obtain ⟨⟨cls2, dd2, data2, sl2⟩, ho2, hc2, n2, hd2⟩ := pl2.isList
  simp only at hc2 hd2
  subst hc2 hd2
  have hsz : its.toArray.size + its2.toArray.size ≤ sizeLine := by rw [List.size_toArray, List.size_toArray]; omega
  have hlong : ¬ (!its.toArray.isEmpty && Builtin.List.listTooLong (its.toArray.size + its2.toArray.size)) = true := by
    rw [notLongL hsz, Bool.and_false]
    exact Bool.false_ne_true
  refine call_meets PySem.F.slot_list_extend ⟨_, e, rfl⟩ PySem.F.entry_list_extend (PySem.F.args_list_extend_2 _ _)
    (list_extendW l its.toArray n b its2.toArray n2 dd2 sl2 hlong (by rw [List.size_toArray]; omega) (by omega)) ⟨e, ho2, ?_⟩
  refine ⟨.non, _, I.lset (its' := its ++ its2) hH e (by simp) (r.append r2) ?_, rfl, q⟩
  rw [List.length_append]
  omega
def muExtend (ds as : List D) : Option (D × List D) := match as with
  | [.list es] => if ds.length + es.length ≤ 100000 then some (.none, ds ++ es) else none
  | _ => none
theorem mu_extend {XS : Cx → Prop} (hX : ∀ X, XS X → X.K = c.K) : MuD c.K XS "list.extend" muExtend := ⟨rExtW c.K, fun X h => by rw [← hX X h]; exact mt_extendW, fun B H l vs ds us as z ds' bk bl hl r ra e Q q => by
  unfold muExtend at e
  split at e
  · rename_i es
    split at e
    · rename_i hn
      cases e
      cases ra with
      | cons r1 r2 =>
        cases r2
        cases r1 with
        | lst h1 h2 =>
          exact ⟨l, _, vs, _, rfl, rfl, hl, sub_l (hide_sub B H) h1, Nat.le_trans (by rw [r.length, h2.length]; exact hn) (by decide), q _ _ (r.append h2) .non⟩
    · cases e
  · cases e⟩
theorem mu_extendI : MuD c.K (In c N sc) "list.extend" muExtend := mu_extend fun X I => I.K
/-! range with a step -/
def numsC (lo st : Int) : Nat → List D
  | 0 => []
  | n + 1 => .int lo :: numsC (lo + st) st n
theorem numsC_length : ∀ (n : Nat) (lo st : Int), (numsC lo st n).length = n
  | 0, _, _ => rfl
  | n + 1, lo, st => congrArg (· + 1) (numsC_length n (lo + st) st)
theorem numsC_get : ∀ (n : Nat) (lo st : Int) (i : Nat) (d : D), (numsC lo st n)[i]? = some d → i < n ∧ d = .int (lo + (i : Nat) * st)
  | 0, lo, st, i, d, h => by simp [numsC] at h
  | n + 1, lo, st, 0, d, h => by
    simp [numsC] at h
    exact ⟨by omega, by rw [← h]; simp⟩
  | n + 1, lo, st, i + 1, d, h => by
    have h' : (numsC (lo + st) st n)[i]? = some d := h
    obtain ⟨a, b⟩ := numsC_get n (lo + st) st i d h'
    refine ⟨by omega, ?_⟩
    rw [b]
    congr 1
    rw [show ((i + 1 : Nat) : Int) = (i : Int) + 1 from rfl, Int.add_mul, Int.one_mul]
    omega
theorem it_rangeC {B : Addr → Bool} {K : Frag} {H : Hp} {lo st : Int} {n : Nat} : ItOk K (Itc lo st n) B H (numsC lo st n) := fun B' H' sb bk => ⟨fun i d hi => by
  obtain ⟨a, b⟩ := numsC_get n lo st i d hi
  refine ⟨a, fun x H'' y => ?_⟩
  obtain ⟨rfl, rfl⟩ := y
  refine ⟨Sub.refl _, ?_⟩
  rw [b]
  exact .int _, by rw [numsC_length]; exact Nat.le_refl n⟩
def rangeK3 (m : En → Option (List D × En)) : En → Option (List D × En) := fun ρ => match m ρ with
  | some ([.int i, .int j, .int k], ρ') => if k ≠ 0 ∧ k.natAbs < 1073741824 ∧ Builtin.Range.small i j k = true then some (numsC i k (Builtin.Range.rangeSize i j k).toNat, ρ') else none
  | _ => none
theorem ji_range3 {a b e tg : Expr} {p pos : Pos} {ma : En → Option (List D × En)} (hg : sc.names.lookup ("range" : Str) = some .globalImplicit) (hm : c.mg ("range" : Str) = none) (h : JL c N sc [a, b, e] ma) (hs : ∀ env, starEach [a, b, e] env = (false, eval a env) :: starEach [b, e] env := by intros; rfl) (hpl : ∀ env, (backTo pos (starEach [b, e] env)).any (·.1) = false := by intros; rfl) : JI c N sc tg (.Call (.Name "range" p) [a, b, e] [] pos) (rangeK3 ma) := by
  obtain ⟨t, h1, h2⟩ := h
  refine ⟨iRng3 t, fun X I => pi_range3 (I.gl hg) (by rw [I.mg]; exact hm) (h1 X I) (hs _) (hpl _), fun σ H ρ B ds ρ' S e R q => ?_⟩
  unfold rangeK3 at e
  split at e
  · rename_i i j k ρ1 he
    split at e
    · rename_i hb
      cases e
      refine h2 σ H ρ B _ _ S he _ fun vs H1 A r => ?_
      cases r with
      | cons r1 r2 =>
        cases r2 with
        | cons r2 r3 =>
          cases r3 with
          | cons r3 r4 =>
            cases r4
            cases r1
            cases r2
            cases r3
            exact ⟨i, j, k, _, rfl, ⟨hb.1, hb.2.1, hb.2.2, PyProof.Rows.rangeSize_toNat i j k⟩, q _ H1 A it_rangeC⟩
    · cases e
  · cases e
end Dz

/-! Dz. J: what a mirror answers: rules of the plain law. -/
namespace Dz
open PySem L2
def wp {α : Type} (m : En → Option (α × En)) (ρ : En) (Q : α → En → Prop) : Prop := ∃ x ρ', m ρ = some (x, ρ') ∧ Q x ρ'
def wps (m : En → Option SO) (ρ : En) (Q : SO → Prop) : Prop := ∃ o, m ρ = some o ∧ Q o
def oq {α : Type} (o : Option α) (Q : α → Prop) : Prop := ∃ z, o = some z ∧ Q z
def fwp (f : Fm) (as : List Sl) (Q : D → List Sl → Prop) : Prop := ∃ d as', f as = some (d, as') ∧ Q d as'
def it2 (b : Bool) (A B : Prop) : Prop := (b = true → A) ∧ (b = false → B)
def thn (m : En → Option SO) (Q : SO → Prop) : SO → Prop
  | .nx ρ => wps m ρ Q
  | o => Q o
def fin (as : List Sl) (Q : D → List Sl → Prop) : SO → Prop
  | .rt d ρ => Q d (finA as ρ)
  | .nx ρ => Q .none (finA as ρ)
  | _ => False
def fq (I : En → Prop) (S : SO → Prop) : SO → Prop
  | .nx ρ => I ρ
  | .ct ρ => I ρ
  | .bk ρ => S (.nx ρ)
  | .rt d ρ => S (.rt d ρ)
def lenOk (ds : List D) (P : Prop) : Prop := ds.length ≤ 100000 ∧ P
theorem lok {ds : List D} {P : Prop} (e : decide (ds.length ≤ 100000) = true) (h : P) : lenOk ds P := ⟨of_decide_eq_true e, h⟩
def tb (d : D) (R : Bool → Prop) : Prop := ∃ b, d = .bool b ∧ R b
def ti (d : D) (R : Int → Prop) : Prop := ∃ b, d = .int b ∧ R b
def tl (d : D) (R : List D → Prop) : Prop := ∃ b, d = .list b ∧ R b
def tt (d : D) (R : List D → Prop) : Prop := ∃ b, d = .tuple b ∧ R b
def ts (d : D) (R : Str → Prop) : Prop := ∃ b, d = .str b ∧ R b
def cwp (f : Fm) (as : List Ar) (ρ : En) (Q : D → En → Prop) : Prop := lentOnce as = true ∧ oq (toSls ρ as) fun sl => fwp f sl fun d as' => Q d (giveBack as as' ρ)
section
variable {α : Type} {ρ ρ' ρ1 : En} {Q : D → En → Prop} {QL : List D → En → Prop} {QB : Bool → En → Prop} {QO : Option Int → En → Prop} {QA : List Ar → En → Prop} {S : SO → Prop} {d e : D} {i j : Nat} {R : D → Prop} {RB : Bool → Prop} {A B : Prop} {b : Bool} {p : Prop} {ds es : List D}
variable {m m1 m2 : En → Option SO} {ma mb md : En → Option (D × En)} {ml : En → Option (List D × En)} {mt mt2 : En → Option (Bool × En)} {mg : En → Option (List Ar × En)} {g g' : D → D → Option D} {f : List D → Option D} {fm : Fm} {tg : D → En → Option En} {x y z : Int} {s t : Str}
theorem wp.imp {m : En → Option (α × En)} {Q Q' : α → En → Prop} (h : wp m ρ Q) (k : ∀ x ρ', Q x ρ' → Q' x ρ') : wp m ρ Q' := let ⟨x, r, e, q⟩ := h; ⟨x, r, e, k x r q⟩
theorem wps.imp {S' : SO → Prop} (h : wps m ρ S) (k : ∀ o, S o → S' o) : wps m ρ S' := let ⟨x, e, q⟩ := h; ⟨x, e, k x q⟩
theorem fwp.imp {as : List Sl} {Q Q' : D → List Sl → Prop} (h : fwp fm as Q) (k : ∀ x ρ', Q x ρ' → Q' x ρ') : fwp fm as Q' := let ⟨x, r, e, q⟩ := h; ⟨x, r, e, k x r q⟩
theorem oq_some {z : α} {Q : α → Prop} (h : Q z) : oq (some z) Q := ⟨z, rfl, h⟩
theorem oq_of {o : Option α} {z : α} {Q : α → Prop} (e : o = some z) (h : Q z) : oq o Q := ⟨z, e, h⟩
theorem tb_b (h : RB b) : tb (.bool b) RB := ⟨b, rfl, h⟩
theorem ti_b {R : Int → Prop} {b} (h : R b) : ti (.int b) R := ⟨b, rfl, h⟩
theorem tl_b {R : List D → Prop} {b} (h : R b) : tl (.list b) R := ⟨b, rfl, h⟩
theorem tt_b {R : List D → Prop} {b} (h : R b) : tt (.tuple b) R := ⟨b, rfl, h⟩
theorem ts_b {R : Str → Prop} {b} (h : R b) : ts (.str b) R := ⟨b, rfl, h⟩
theorem it2_dec [Decidable p] (h : p → A) (k : ¬ p → B) : it2 (decide p) A B := ⟨fun e => h (of_decide_eq_true e), fun e => k (of_decide_eq_false e)⟩
theorem it2_t (h : A) : it2 true A B := ⟨fun _ => h, fun e => (nomatch e)⟩
theorem it2_f (h : B) : it2 false A B := ⟨fun e => (nomatch e), fun _ => h⟩
theorem it2_not (h : it2 b B A) : it2 (!b) A B := by
  cases b with
  | false => exact it2_t (h.2 rfl)
  | true => exact it2_f (h.1 rfl)
theorem it2_b (h : b = true → A) (k : b = false → B) : it2 b A B := ⟨h, k⟩
theorem thn_nx (h : wps m ρ S) : thn m S (.nx ρ) := h
theorem thn_rt (h : S (.rt d ρ)) : thn m S (.rt d ρ) := h
theorem thn_bk (h : S (.bk ρ)) : thn m S (.bk ρ) := h
theorem thn_ct (h : S (.ct ρ)) : thn m S (.ct ρ) := h
theorem fin_rt {as : List Sl} {Q : D → List Sl → Prop} (h : Q d (finA as ρ)) : fin as Q (.rt d ρ) := h
theorem fin_nx {as : List Sl} {Q : D → List Sl → Prop} (h : Q .none (finA as ρ)) : fin as Q (.nx ρ) := h
theorem wp_of {m : En → Option (α × En)} {x : α} {Q : α → En → Prop} (e : m ρ = some (x, ρ')) (q : Q x ρ') : wp m ρ Q := ⟨x, ρ', e, q⟩
theorem wp_kC (h : Q d ρ) : wp (kC d) ρ Q := ⟨d, ρ, rfl, h⟩
theorem wp_kV (e : ρ[i]? = some (some (.val d))) (h : Q d ρ) : wp (kV i) ρ Q := ⟨d, ρ, by unfold kV; rw [e], h⟩
theorem wp_kO {s : Sl} (e : ρ[i]? = some (some s)) (h : Q s.d ρ) : wp (kO i) ρ Q := ⟨s.d, ρ, by unfold kO; rw [e], h⟩
theorem wp_bop (h : wp ma ρ fun x ρ1 => wp mb ρ1 fun y ρ2 => oq (g x y) fun z => Q z ρ2) : wp (bop g ma mb) ρ Q := by
  obtain ⟨x, r1, e1, y, r2, e2, z, e3, q⟩ := h
  exact ⟨z, r2, by unfold bop; simp [e1, e2, e3], q⟩
theorem wp_bopO {s : Sl} (e : ρ[i]? = some (some s)) (h : wp mb ρ fun y ρ2 => wp (kO i) ρ2 fun x ρ3 => oq (g x y) fun z => Q z ρ2) : wp (bopO g i mb) ρ Q := by
  obtain ⟨y, r2, e2, x, r3, e1, z, e3, q⟩ := h
  refine ⟨z, r2, ?_, q⟩
  unfold bopO
  have : kO i ρ = some (s.d, ρ) := by unfold kO; rw [e]
  simp [this, e1, e2, e3]
theorem wp_tst (h : wp ma ρ fun d ρ1 => tb d fun b => QB b ρ1) : wp (tstK ma) ρ QB := by
  obtain ⟨d, r1, e1, b, rfl, q⟩ := h
  exact ⟨b, r1, by unfold tstK; rw [e1], q⟩
theorem wp_val (h : wp mt ρ fun b ρ1 => Q (.bool b) ρ1) : wp (valK mt) ρ Q := by
  obtain ⟨d, r1, e1, q⟩ := h
  exact ⟨_, r1, by unfold valK; rw [e1]; rfl, q⟩
theorem wp_andK (h : wp mt ρ fun b ρ1 => it2 b (wp mt2 ρ1 QB) (QB false ρ1)) : wp (andK mt mt2) ρ QB := by
  obtain ⟨b, r1, e1, h1, h2⟩ := h
  cases b with
  | true =>
    obtain ⟨b2, r2, e2, q⟩ := h1 rfl
    exact ⟨b2, r2, by unfold andK; simp [e1, e2], q⟩
  | false => exact ⟨false, r1, by unfold andK; simp [e1], h2 rfl⟩
theorem wp_orK (h : wp mt ρ fun b ρ1 => it2 b (QB true ρ1) (wp mt2 ρ1 QB)) : wp (orK mt mt2) ρ QB := by
  obtain ⟨b, r1, e1, h1, h2⟩ := h
  cases b with
  | false =>
    obtain ⟨b2, r2, e2, q⟩ := h2 rfl
    exact ⟨b2, r2, by unfold orK; simp [e1, e2], q⟩
  | true => exact ⟨true, r1, by unfold orK; simp [e1], h1 rfl⟩
theorem wp_notK (h : wp mt ρ fun b ρ1 => QB (!b) ρ1) : wp (notK mt) ρ QB := by
  obtain ⟨d, r1, e1, q⟩ := h
  exact ⟨_, r1, by unfold notK; rw [e1]; rfl, q⟩
theorem wp_andV (h : wp mt ρ fun b ρ1 => it2 b (wp mb ρ1 Q) (Q (.bool false) ρ1)) : wp (andV mt mb) ρ Q := by
  obtain ⟨b, r1, e1, h1, h2⟩ := h
  cases b with
  | true =>
    obtain ⟨b2, r2, e2, q⟩ := h1 rfl
    exact ⟨b2, r2, by unfold andV; simp [e1, e2], q⟩
  | false => exact ⟨_, r1, by unfold andV; simp [e1], h2 rfl⟩
theorem wp_orV (h : wp mt ρ fun b ρ1 => it2 b (Q (.bool true) ρ1) (wp mb ρ1 Q)) : wp (orV mt mb) ρ Q := by
  obtain ⟨b, r1, e1, h1, h2⟩ := h
  cases b with
  | false =>
    obtain ⟨b2, r2, e2, q⟩ := h2 rfl
    exact ⟨b2, r2, by unfold orV; simp [e1, e2], q⟩
  | true => exact ⟨_, r1, by unfold orV; simp [e1], h1 rfl⟩
theorem wp_chain (h : wp ma ρ fun x ρ1 => wp mb ρ1 fun y ρ2 => oq (g x y) fun z => tb z fun b => it2 b (wp md ρ2 fun w ρ3 => oq (g' y w) fun z => Q z ρ3) (Q (.bool false) ρ2)) : wp (chainK g g' ma mb md) ρ Q := by
  obtain ⟨x, r1, e1, y, r2, e2, z, e3, b, rfl, h1, h2⟩ := h
  cases b with
  | true =>
    obtain ⟨w, r3, e4, z, e5, q⟩ := h1 rfl
    exact ⟨z, r3, by unfold chainK; simp [e1, e2, e3, e4, e5], q⟩
  | false => exact ⟨_, r2, by unfold chainK; simp [e1, e2, e3], h2 rfl⟩
theorem wp_ifK (h : wp mt ρ fun b ρ1 => it2 b (wp ma ρ1 Q) (wp mb ρ1 Q)) : wp (ifK mt ma mb) ρ Q := by
  obtain ⟨b, r1, e1, h1, h2⟩ := h
  cases b with
  | true =>
    obtain ⟨b2, r2, e2, q⟩ := h1 rfl
    exact ⟨b2, r2, by unfold ifK; simp [e1, e2], q⟩
  | false =>
    obtain ⟨b2, r2, e2, q⟩ := h2 rfl
    exact ⟨b2, r2, by unfold ifK; simp [e1, e2], q⟩
theorem wp_nil (h : QL [] ρ) : wp nilK ρ QL := ⟨[], ρ, rfl, h⟩
theorem wp_cons (h : wp ma ρ fun d ρ1 => wp ml ρ1 fun ds ρ2 => QL (d :: ds) ρ2) : wp (consK ma ml) ρ QL := by
  obtain ⟨x, r1, e1, y, r2, e2, q⟩ := h
  exact ⟨_, r2, by unfold consK; simp [e1, e2], q⟩
theorem wp_tup (h : wp ml ρ fun ds ρ1 => lenOk ds (Q (.tuple ds) ρ1)) : wp (tupK ml) ρ Q := by
  obtain ⟨x, r1, e1, l, q⟩ := h
  exact ⟨_, r1, by unfold tupK; simp [e1, l], q⟩
theorem wp_lst (h : wp ml ρ fun ds ρ1 => lenOk ds (Q (.list ds) ρ1)) : wp (lstK ml) ρ Q := by
  obtain ⟨x, r1, e1, l, q⟩ := h
  exact ⟨_, r1, by unfold lstK; simp [e1, l], q⟩
theorem wp_gnil (h : QA [] ρ) : wp gnil ρ QA := ⟨[], ρ, rfl, h⟩
theorem wp_gval (h : wp ma ρ fun d ρ1 => wp mg ρ1 fun as ρ2 => QA (.v d :: as) ρ2) : wp (gval ma mg) ρ QA := by
  obtain ⟨x, r1, e1, y, r2, e2, q⟩ := h
  exact ⟨_, r2, by unfold gval; simp [e1, e2], q⟩
theorem wp_gbor {s : Sl} (e : ρ[i]? = some (some s)) (hm : s.mu = true) (h : wp mg ρ fun as ρ2 => QA (.b i :: as) ρ2) : wp (gbor i mg) ρ QA := by
  obtain ⟨y, r2, e2, q⟩ := h
  exact ⟨_, r2, by unfold gbor; rw [e]; simp [hm, e2], q⟩
theorem wp_call (h : wp mg ρ fun as ρ1 => cwp fm as ρ1 Q) : wp (callK fm mg) ρ Q := by
  obtain ⟨as, r1, e1, lo, sl, e2, d, as', e3, q⟩ := h
  exact ⟨d, _, by unfold callK; simp [e1, lo, e2, e3], q⟩
theorem cwp_of {as : List Ar} {sl : List Sl} (lo : lentOnce as = true) (e : toSls ρ as = some sl) (h : fwp fm sl fun d as' => Q d (giveBack as as' ρ)) : cwp fm as ρ Q := ⟨lo, sl, e, h⟩
theorem fwp_run {as : List Sl} {p n : Nat} {Q : D → List Sl → Prop} (hl : as.length = p) (ho : noOwn as = true) (h : wps m (as.map some ++ List.replicate (n - p) none) (fin as Q)) : fwp (runF p n m) as Q := by
  obtain ⟨o, e, q⟩ := h
  unfold fwp runF
  rw [if_pos ⟨hl, ho⟩, e]
  cases o with
  | rt d ρ => exact ⟨_, _, rfl, q⟩
  | nx ρ => exact ⟨_, _, rfl, q⟩
  | bk ρ => exact q.elim
  | ct ρ => exact q.elim
theorem wp_neg (h : wp ma ρ fun d ρ1 => ti d fun i => Q (.int (-i)) ρ1) : wp (negK ma) ρ Q := by
  obtain ⟨x, r1, e1, i, rfl, q⟩ := h
  exact ⟨_, r1, by unfold negK; rw [e1], q⟩
theorem wp_b1 (h : wp ma ρ fun d ρ1 => oq (f [d]) fun z => Q z ρ1) : wp (b1K f ma) ρ Q := by
  obtain ⟨x, r1, e1, z, e2, q⟩ := h
  exact ⟨_, r1, by unfold b1K; simp [e1, e2], q⟩
theorem wp_bn (h : wp ml ρ fun d ρ1 => oq (f d) fun z => Q z ρ1) : wp (bnK f ml) ρ Q := by
  obtain ⟨x, r1, e1, z, e2, q⟩ := h
  exact ⟨_, r1, by unfold bnK; simp [e1, e2], q⟩
theorem wp_isi {T : String} (h : wp ma ρ fun d ρ1 => oq (isiB T d) fun z => Q (.bool z) ρ1) : wp (isiK T ma) ρ Q := by
  obtain ⟨x, r1, e1, z, e2, q⟩ := h
  exact ⟨_, r1, by unfold isiK; simp [e1, e2], q⟩
theorem wp_met {f : Str → List D → Option D} (h : wp ma ρ fun d ρ1 => wp ml ρ1 fun ds ρ2 => ts d fun x => oq (f x ds) fun z => Q z ρ2) : wp (metK f ma ml) ρ Q := by
  obtain ⟨x, r1, e1, ds, r2, e2, x, rfl, z, e3, q⟩ := h
  exact ⟨_, r2, by unfold metK; simp [e1, e2, e3], q⟩
theorem wp_pnone (h : QO none ρ) : wp pnone ρ QO := ⟨none, ρ, rfl, h⟩
theorem wp_psome (h : wp ma ρ fun d ρ1 => ti d fun i => QO (some i) ρ1) : wp (psome ma) ρ QO := by
  obtain ⟨x, r1, e1, i, rfl, q⟩ := h
  exact ⟨_, r1, by unfold psome; rw [e1], q⟩
theorem wp_cut {mlo mhi : En → Option (Option Int × En)} (h : wp ma ρ fun d ρ1 => wp mlo ρ1 fun lo ρ2 => wp mhi ρ2 fun hi ρ3 => oq (dCut d lo hi) fun z => Q z ρ3) : wp (cutK ma mlo mhi) ρ Q := by
  obtain ⟨x, r1, e1, lo, r2, e2, hi, r3, e3, z, e4, q⟩ := h
  exact ⟨_, r3, by unfold cutK; simp [e1, e2, e3, e4], q⟩
theorem wp_cutO {mlo mhi : En → Option (Option Int × En)} {fc : D → Option Int → Option Int → Option D} {s : Sl} (e : ρ[i]? = some (some s)) (h : wp mlo ρ fun lo ρ2 => wp mhi ρ2 fun hi ρ3 => wp (kO i) ρ3 fun d _ => oq (fc d lo hi) fun z => Q z ρ3) : wp (cutO fc i mlo mhi) ρ Q := by
  obtain ⟨lo, r2, e2, hi, r3, e3, x, r1, e1, z, e4, q⟩ := h
  have : kO i ρ = some (s.d, ρ) := by unfold kO; rw [e]
  exact ⟨_, r3, by unfold cutO; simp [this, e1, e2, e3, e4], q⟩
theorem wp_listK (h : wp ma ρ fun d ρ1 => tl d fun ds => QL ds ρ1) : wp (listK ma) ρ QL := by
  obtain ⟨x, r1, e1, i, rfl, q⟩ := h
  exact ⟨_, r1, by unfold listK; rw [e1], q⟩
theorem wp_tupleK (h : wp ma ρ fun d ρ1 => tt d fun ds => QL ds ρ1) : wp (tupleK ma) ρ QL := by
  obtain ⟨x, r1, e1, i, rfl, q⟩ := h
  exact ⟨_, r1, by unfold tupleK; rw [e1], q⟩
theorem wp_strK (h : wp ma ρ fun d ρ1 => ts d fun x => QL (x.cps.toList.map fun k => .str ⟨#[k]⟩) ρ1) : wp (strK ma) ρ QL := by
  obtain ⟨x, r1, e1, i, rfl, q⟩ := h
  exact ⟨_, r1, by unfold strK; rw [e1], q⟩
theorem wp_range1 (h : wp ml ρ fun ds ρ1 => ∃ n, ds = [.int n] ∧ (-(2 ^ 62) ≤ n ∧ n < 2 ^ 62) ∧ QL (nums 0 n.toNat) ρ1) : wp (rangeK1 ml) ρ QL := by
  obtain ⟨x, r1, e1, n, rfl, hn, q⟩ := h
  exact ⟨_, r1, by unfold rangeK1; rw [e1]; simp only []; rw [if_pos hn], q⟩
theorem wp_range2 (h : wp ml ρ fun ds ρ1 => ∃ a b, ds = [.int a, .int b] ∧ (-(2 ^ 62) ≤ a ∧ a < 2 ^ 62 ∧ -(2 ^ 62) ≤ b ∧ b < 2 ^ 62) ∧ QL (nums a (b - a).toNat) ρ1) : wp (rangeK2 ml) ρ QL := by
  obtain ⟨x, r1, e1, a, b, rfl, hn, q⟩ := h
  exact ⟨_, r1, by unfold rangeK2; rw [e1]; simp only []; rw [if_pos hn], q⟩
theorem wp_zipL (h : wp ml ρ fun ds ρ1 => ∃ a b, ds = [.list a, .list b] ∧ QL (zipD a b) ρ1) : wp (zipK ml) ρ QL := by
  obtain ⟨x, r1, e1, a, b, rfl, q⟩ := h
  exact ⟨_, r1, by unfold zipK; rw [e1], q⟩
theorem wp_zipT (h : wp ml ρ fun ds ρ1 => ∃ a b, ds = [.tuple a, .tuple b] ∧ QL (zipD a b) ρ1) : wp (zipK ml) ρ QL := by
  obtain ⟨x, r1, e1, a, b, rfl, q⟩ := h
  exact ⟨_, r1, by unfold zipK; rw [e1], q⟩
theorem wp_yes (h : QB true ρ) : wp yesK ρ QB := ⟨true, ρ, rfl, h⟩
theorem wp_mut {fu : List D → List D → Option (D × List D)} {s : Sl} (e : ρ[i]? = some (some s)) (hs : ∃ u, mutL i ρ = some u) (h : wp ml ρ fun as ρ1 => oq (mutL i ρ1) fun u => oq (fu u.2 as) fun z => Q z.1 (ρ1.set i (some (u.1.wi (.list z.2))))) : wp (mutK i fu ml) ρ Q := by
  obtain ⟨u0, e0⟩ := hs
  obtain ⟨as, r1, e1, u, e2, z, e3, q⟩ := h
  exact ⟨_, _, by unfold mutK; simp [e0, e1, e2, e3], q⟩
/-! statements -/
theorem wps_seq (h : wps m1 ρ (thn m2 S)) : wps (seqS m1 m2) ρ S := by
  obtain ⟨o, e, q⟩ := h
  cases o with
  | nx ρ1 =>
    obtain ⟨o2, e2, q2⟩ := q
    exact ⟨o2, by unfold seqS; simp [e, e2], q2⟩
  | rt d ρ1 => exact ⟨_, by unfold seqS; simp [e], q⟩
  | bk ρ1 => exact ⟨_, by unfold seqS; simp [e], q⟩
  | ct ρ1 => exact ⟨_, by unfold seqS; simp [e], q⟩
theorem wps_next (h : S (.nx ρ)) : wps nextS ρ S := ⟨_, rfl, h⟩
theorem wps_break (h : S (.bk ρ)) : wps breakS ρ S := ⟨_, rfl, h⟩
theorem wps_cont (h : S (.ct ρ)) : wps contS ρ S := ⟨_, rfl, h⟩
theorem wps_drop (h : wp ma ρ fun _ ρ1 => S (.nx ρ1)) : wps (dropS ma) ρ S := by
  obtain ⟨d, r, e, q⟩ := h
  exact ⟨_, by unfold dropS; rw [e]; rfl, q⟩
theorem wps_ret (h : wp ma ρ fun d ρ1 => S (.rt d ρ1)) : wps (retS ma) ρ S := by
  obtain ⟨d, r, e, q⟩ := h
  exact ⟨_, by unfold retS; rw [e]; rfl, q⟩
theorem wps_retN (h : S (.rt .none ρ)) : wps retN ρ S := ⟨_, rfl, h⟩
theorem wps_if (h : wp mt ρ fun b ρ1 => it2 b (wps m1 ρ1 S) (wps m2 ρ1 S)) : wps (ifS mt m1 m2) ρ S := by
  obtain ⟨b, r1, e1, h1, h2⟩ := h
  cases b with
  | true =>
    obtain ⟨b2, e2, q⟩ := h1 rfl
    exact ⟨b2, by unfold ifS; simp [e1, e2], q⟩
  | false =>
    obtain ⟨b2, e2, q⟩ := h2 rfl
    exact ⟨b2, by unfold ifS; simp [e1, e2], q⟩
theorem wps_asg (h : wp ma ρ fun d ρ1 => oq (tg d ρ1) fun ρ2 => S (.nx ρ2)) : wps (asgS ma tg) ρ S := by
  obtain ⟨d, r, e, r2, e2, q⟩ := h
  exact ⟨_, by unfold asgS; simp [e, e2], q⟩
theorem oq_setv {Q : En → Prop} (e : setv i d ρ = some (ρ.set i (some (.val d)))) (h : Q (ρ.set i (some (.val d)))) : oq (setv i d ρ) Q := ⟨_, e, h⟩
theorem oq_seto {Q : En → Prop} (e : seto i d ρ = some (ρ.set i (some (.own d)))) (h : Q (ρ.set i (some (.own d)))) : oq (seto i d ρ) Q := ⟨_, e, h⟩
theorem oq_tgNil {Q : En → Prop} (h : Q ρ) : oq (tgNil [] ρ) Q := ⟨_, rfl, h⟩
theorem oq_tgCons {mh : D → En → Option En} {mr : List D → En → Option En} {Q : En → Prop} (h : oq (mh d ρ) fun ρ1 => oq (mr ds ρ1) Q) : oq (tgCons mh mr (d :: ds) ρ) Q := by
  obtain ⟨r1, e1, r2, e2, q⟩ := h
  exact ⟨r2, by show (mh d ρ).bind (mr ds) = _; simp [e1, e2], q⟩
theorem oq_tgTup {mr : List D → En → Option En} {n : Nat} {Q : En → Prop} (e : ds.length = n) (h : oq (mr ds ρ) Q) : oq (tgTup n mr (.tuple ds) ρ) Q := by
  obtain ⟨r1, e1, q⟩ := h
  exact ⟨r1, by show (if ds.length = n then mr ds ρ else none) = _; rw [if_pos e, e1], q⟩
theorem wps_frz (e : ρ[i]? = some (some (.own d))) (h : wps m (ρ.set i (some (.val d))) S) : wps (frzS i m) ρ S := by
  obtain ⟨o, e2, q⟩ := h
  refine ⟨o, ?_, q⟩
  unfold frzS frz
  rw [e]
  exact e2
theorem wps_seti (hs : ∃ u, mutL i ρ = some u) (h : wp ma ρ fun d ρ1 => wp mb ρ1 fun k ρ2 => oq (mutL i ρ2) fun u => ti k fun k => oq (ixN u.2.length k) fun j => S (.nx (ρ2.set i (some (u.1.wi (.list (u.2.set j d))))))) : wps (setiS i ma mb) ρ S := by
  obtain ⟨u0, e0⟩ := hs
  obtain ⟨d, r1, e1, k, r2, e2, u, e3, k, rfl, j, e4, q⟩ := h
  exact ⟨_, by unfold setiS; simp [e0, e1, e2, e3, e4], q⟩
theorem wps_aug {d0 : D} (e0 : ρ[i]? = some (some (.val d0))) (h : wp ma ρ fun d ρ1 => oq (g d0 d) fun z => oq (setv i z ρ1) fun ρ2 => S (.nx ρ2)) : wps (augS g i ma) ρ S := by
  obtain ⟨d, r1, e1, z, e2, r2, e3, q⟩ := h
  have k : kV i ρ = some (d0, ρ) := by unfold kV; rw [e0]
  exact ⟨_, by unfold augS; simp [k, e1, e2, e3], q⟩
theorem wps_for (h : wp ml ρ fun ds ρ1 => ∃ I : List D → En → Prop, I ds ρ1 ∧ (∀ d ds ρ, I (d :: ds) ρ → oq (tg d ρ) fun ρ2 => wps m ρ2 (fq (I ds) S)) ∧ ∀ ρ, I [] ρ → S (.nx ρ)) : wps (forS ml tg m) ρ S := by
  obtain ⟨ds, r1, e1, I, h0, h1, h2⟩ := h
  have key : ∀ (ds : List D) ρ, I ds ρ → wps (forD tg m ds) ρ S := by
    intro ds
    induction ds with
    | nil => exact fun ρ h => ⟨_, rfl, h2 ρ h⟩
    | cons d ds ih =>
      intro ρ h
      obtain ⟨ρ2, e2, o, e3, q⟩ := h1 d ds ρ h
      cases o with
      | nx ρ3 =>
        obtain ⟨o, e4, q⟩ := ih ρ3 q
        exact ⟨o, by unfold forD; simp [e2, e3, e4], q⟩
      | ct ρ3 =>
        obtain ⟨o, e4, q⟩ := ih ρ3 q
        exact ⟨o, by unfold forD; simp [e2, e3, e4], q⟩
      | bk ρ3 => exact ⟨_, by unfold forD; simp [e2, e3], q⟩
      | rt d ρ3 => exact ⟨_, by unfold forD; simp [e2, e3], q⟩
  obtain ⟨o, e, q⟩ := key ds r1 h0
  exact ⟨o, by unfold forS; simp [e1, e], q⟩
theorem wps_while (I : Nat → En → Prop) (n : Nat) (h0 : I n ρ) (h : ∀ n ρ, I n ρ → wp mt ρ fun b ρ1 => it2 b (∃ k, n = k + 1 ∧ wps m ρ1 (fq (I k) S)) (S (.nx ρ1))) : wps (whileS mt m) ρ S := by
  have key : ∀ (n : Nat) ρ, I n ρ → ∃ o, whileF mt m (n + 1) ρ = some o ∧ S o := by
    intro n
    induction n with
    | zero =>
      intro ρ h'
      obtain ⟨b, ρ1, e1, h1, h2⟩ := h 0 ρ h'
      cases b with
      | true =>
        obtain ⟨k, hk, _⟩ := h1 rfl
        omega
      | false => exact ⟨_, by unfold whileF; simp [e1], h2 rfl⟩
    | succ n ih =>
      intro ρ h'
      obtain ⟨b, ρ1, e1, h1, h2⟩ := h (n + 1) ρ h'
      cases b with
      | true =>
        obtain ⟨k, hk, o, e2, q⟩ := h1 rfl
        obtain rfl : n = k := by omega
        cases o with
        | nx ρ3 =>
          obtain ⟨o, e3, q⟩ := ih ρ3 q
          exact ⟨o, by unfold whileF; simp [e1, e2, e3], q⟩
        | ct ρ3 =>
          obtain ⟨o, e3, q⟩ := ih ρ3 q
          exact ⟨o, by unfold whileF; simp [e1, e2, e3], q⟩
        | bk ρ3 => exact ⟨_, by unfold whileF; simp [e1, e2], q⟩
        | rt d ρ3 => exact ⟨_, by unfold whileF; simp [e1, e2], q⟩
      | false => exact ⟨_, by unfold whileF; simp [e1], h2 rfl⟩
  obtain ⟨o, e, q⟩ := key n ρ h0
  exact ⟨o, whileS_of e, q⟩
theorem wp_lc {vs : List Nat} (h : wp ml ρ fun ds ρ1 => ∃ I : List D → List D → En → Prop, I ds [] ρ1 ∧ (∀ d ds acc ρ, I (d :: ds) acc ρ → oq (tg d (wipeA ρ vs)) fun ρ2 => wp mt ρ2 fun b ρ3 => it2 b (wp mb ρ3 fun x ρ4 => acc.length < 100000 ∧ I ds (acc ++ [x]) (unw ρ ρ4 vs)) (I ds acc (unw ρ ρ3 vs))) ∧ ∀ acc ρ, I [] acc ρ → Q (.list acc) ρ) : wp (lcK vs ml tg mt mb) ρ Q := by
  obtain ⟨ds, r1, e1, I, h0, h1, h2⟩ := h
  have key : ∀ (ds acc : List D) ρ, I ds acc ρ → ∃ xs ρ', lcD vs tg mt mb ds acc ρ = some (xs, ρ') ∧ Q (.list xs) ρ' := by
    intro ds
    induction ds with
    | nil => exact fun acc ρ h => ⟨acc, ρ, rfl, h2 acc ρ h⟩
    | cons d ds ih =>
      intro acc ρ h
      obtain ⟨ρ2, e2, b, ρ3, e3, g1, g2⟩ := h1 d ds acc ρ h
      cases b with
      | true =>
        obtain ⟨x, ρ4, e4, la, g⟩ := g1 rfl
        obtain ⟨xs, ρ', e5, q⟩ := ih _ _ g
        exact ⟨xs, ρ', by unfold lcD; simp [e2, e3, e4, la, e5], q⟩
      | false =>
        obtain ⟨xs, ρ', e5, q⟩ := ih _ _ (g2 rfl)
        exact ⟨xs, ρ', by unfold lcD; simp [e2, e3, e5], q⟩
  obtain ⟨xs, ρ', e, q⟩ := key ds [] r1 h0
  exact ⟨_, ρ', by unfold lcK; simp [e1, e], q⟩
theorem oq_add_i {Q : D → Prop} (h : Q (.int (x + y))) : oq (dAdd (.int x) (.int y)) Q := ⟨_, rfl, h⟩
theorem oq_add_s {Q : D → Prop} (l : s.length + t.length ≤ 100000) (h : Q (.str (s ++ t))) : oq (dAdd (.str s) (.str t)) Q := ⟨_, if_pos l, h⟩
theorem oq_add_l {Q : D → Prop} (l : ds.length + es.length ≤ 100000) (h : Q (.list (ds ++ es))) : oq (dAdd (.list ds) (.list es)) Q := ⟨_, if_pos l, h⟩
theorem oq_add_t {Q : D → Prop} (l : ds.length + es.length ≤ 100000) (h : Q (.tuple (ds ++ es))) : oq (dAdd (.tuple ds) (.tuple es)) Q := ⟨_, if_pos l, h⟩
theorem oq_cat {Q : D → Prop} (l : ds.length + es.length ≤ 100000) (h : Q (.list (ds ++ es))) : oq (dCat (.list ds) (.list es)) Q := ⟨_, if_pos l, h⟩
theorem oq_sub {Q : D → Prop} (h : Q (.int (x - y))) : oq (dSub (.int x) (.int y)) Q := ⟨_, rfl, h⟩
theorem oq_mul {Q : D → Prop} (l : (-(2 ^ 64) < x ∧ x < 2 ^ 64) ∨ (-(2 ^ 64) < y ∧ y < 2 ^ 64)) (h : Q (.int (x * y))) : oq (dMul (.int x) (.int y)) Q := ⟨_, if_pos l, h⟩
theorem oq_mod {Q : D → Prop} (l : 0 < y) (h : Q (.int (x % y))) : oq (dMod (.int x) (.int y)) Q := ⟨_, if_pos l, h⟩
theorem oq_div {Q : D → Prop} (l : 0 < y ∧ y < 2 ^ 80) (h : Q (.int (x / y))) : oq (dDiv (.int x) (.int y)) Q := ⟨_, if_pos l, h⟩
theorem oq_pow {Q : D → Prop} (l : 0 ≤ y ∧ y ≤ 1000000 ∧ x.natAbs < 2 ^ 64) (h : Q (.int (x ^ y.toNat))) : oq (dPow (.int x) (.int y)) Q := ⟨_, if_pos l, h⟩
theorem oq_shl {Q : D → Prop} (l : 0 ≤ y ∧ y ≤ 1000000 ∧ x.natAbs < 2 ^ 64) (h : Q (.int (x * 2 ^ y.toNat))) : oq (dShl (.int x) (.int y)) Q := ⟨_, if_pos l, h⟩
theorem oq_shr {Q : D → Prop} (l : 0 ≤ y) (h : Q (.int (x / 2 ^ y.toNat))) : oq (dShr (.int x) (.int y)) Q := ⟨_, if_pos l, h⟩
theorem oq_lt {Q : D → Prop} (h : Q (.bool (decide (x < y)))) : oq (dLt (.int x) (.int y)) Q := ⟨_, rfl, h⟩
theorem oq_le {Q : D → Prop} (h : Q (.bool (decide (x ≤ y)))) : oq (dLe (.int x) (.int y)) Q := ⟨_, rfl, h⟩
theorem oq_gt {Q : D → Prop} (h : Q (.bool (decide (y < x)))) : oq (dGt (.int x) (.int y)) Q := ⟨_, rfl, h⟩
theorem oq_ge {Q : D → Prop} (h : Q (.bool (decide (y ≤ x)))) : oq (dGe (.int x) (.int y)) Q := ⟨_, rfl, h⟩
theorem oq_eq_i {Q : D → Prop} (h : Q (.bool (decide (x = y)))) : oq (dEq (.int x) (.int y)) Q := ⟨_, rfl, h⟩
theorem oq_ne_i {Q : D → Prop} (h : Q (.bool (!decide (x = y)))) : oq (dNe (.int x) (.int y)) Q := ⟨_, rfl, h⟩
theorem oq_eq_s {Q : D → Prop} (h : Q (.bool (decide (s = t)))) : oq (dEq (.str s) (.str t)) Q := ⟨_, rfl, h⟩
theorem oq_ne_s {Q : D → Prop} (h : Q (.bool (!decide (s = t)))) : oq (dNe (.str s) (.str t)) Q := ⟨_, rfl, h⟩
theorem oq_eq_b {Q : D → Prop} {a b : Bool} (h : Q (.bool (decide (a = b)))) : oq (dEq (.bool a) (.bool b)) Q := ⟨_, by unfold dEq dEqB; cases a <;> cases b <;> rfl, h⟩
theorem oq_ne_b {Q : D → Prop} {a b : Bool} (h : Q (.bool (!decide (a = b)))) : oq (dNe (.bool a) (.bool b)) Q := ⟨_, by unfold dNe dEqB; cases a <;> cases b <;> rfl, h⟩
theorem oq_eq_d {Q : D → Prop} {b : Bool} (e1 : dEqB d e = some b) (h : Q (.bool b)) : oq (dEq d e) Q := ⟨_, by unfold dEq; rw [e1]; rfl, h⟩
theorem oq_ne_d {Q : D → Prop} {b : Bool} (e1 : dEqB d e = some b) (h : Q (.bool (!b))) : oq (dNe d e) Q := ⟨_, by unfold dNe; rw [e1]; rfl, h⟩
theorem oq_is {Q : D → Prop} (h : Q (.bool (isNoneD d))) : oq (dIs d .none) Q := ⟨_, rfl, h⟩
theorem oq_isNot {Q : D → Prop} (h : Q (.bool (!isNoneD d))) : oq (dIsNot d .none) Q := ⟨_, rfl, h⟩
theorem oq_in_s {Q : D → Prop} {k : Nat} (h : Q (.bool (decide (k ∈ t.cps.toList)))) : oq (dIn (.str ⟨#[k]⟩) (.str t)) Q := ⟨_, rfl, h⟩
theorem oq_notIn_s {Q : D → Prop} {k : Nat} (h : Q (.bool (!decide (k ∈ t.cps.toList)))) : oq (dNotIn (.str ⟨#[k]⟩) (.str t)) Q := ⟨_, rfl, h⟩
theorem ixN_in {n : Nat} {i : Int} (h0 : 0 ≤ i) (h1 : i < n) : ixN n i = some i.toNat := by unfold ixN; rw [if_pos h0, if_pos h1]
theorem ixN_back {n : Nat} {i : Int} (h0 : i < 0) (h1 : -(n : Int) ≤ i) : ixN n i = some (i + n).toNat := by unfold ixN; rw [if_neg (by omega), if_pos h1]
theorem oq_ixN {n : Nat} {i : Int} {Q : Nat → Prop} (h0 : 0 ≤ i) (h1 : i < n) (h : Q i.toNat) : oq (ixN n i) Q := ⟨_, ixN_in h0 h1, h⟩
theorem oq_ix_l {Q : D → Prop} {i : Int} (h0 : 0 ≤ i) (h1 : i < ds.length) (h : ∀ z, ds[i.toNat]? = some z → Q z) : oq (dIx (.list ds) (.int i)) Q := by
  have l : i.toNat < ds.length := by omega
  refine ⟨ds[i.toNat], ?_, h _ (List.getElem?_eq_getElem l)⟩
  show (ixN ds.length i).bind _ = _
  rw [ixN_in h0 h1]
  exact List.getElem?_eq_getElem l
theorem oq_ix_t {Q : D → Prop} {i : Int} (h0 : 0 ≤ i) (h1 : i < ds.length) (h : ∀ z, ds[i.toNat]? = some z → Q z) : oq (dIx (.tuple ds) (.int i)) Q := by
  have l : i.toNat < ds.length := by omega
  refine ⟨ds[i.toNat], ?_, h _ (List.getElem?_eq_getElem l)⟩
  show (ixN ds.length i).bind _ = _
  rw [ixN_in h0 h1]
  exact List.getElem?_eq_getElem l
theorem oq_ix_s {Q : D → Prop} {i : Int} (hz : s.length ≤ 100000) (h0 : 0 ≤ i) (h1 : i < s.length) (h : ∀ k, s.cps.toList[i.toNat]? = some k → Q (.str ⟨#[k]⟩)) : oq (dIx (.str s) (.int i)) Q := by
  have l : i.toNat < s.cps.toList.length := by
    have : s.cps.toList.length = s.length := rfl
    omega
  refine ⟨_, ?_, h _ (List.getElem?_eq_getElem l)⟩
  show (if s.length ≤ 100000 then _ else _) = _
  rw [if_pos hz, show ixN s.cps.toList.length i = some i.toNat from ixN_in h0 h1]
  show (s.cps.toList[i.toNat]?).map _ = _
  rw [List.getElem?_eq_getElem l]
  rfl
theorem oq_len_l {Q : D → Prop} (h : Q (.int ds.length)) : oq (dLen [.list ds]) Q := ⟨_, rfl, h⟩
theorem oq_len_t {Q : D → Prop} (h : Q (.int ds.length)) : oq (dLen [.tuple ds]) Q := ⟨_, rfl, h⟩
theorem oq_len_s {Q : D → Prop} (l : s.length ≤ 100000) (h : Q (.int s.length)) : oq (dLen [.str s]) Q := ⟨_, if_pos l, h⟩
theorem oq_int {Q : D → Prop} (h : Q (.int x)) : oq (dInt [.int x]) Q := ⟨_, rfl, h⟩
theorem oq_abs {Q : D → Prop} (h : Q (.int (if x < 0 then -x else x))) : oq (dAbs [.int x]) Q := ⟨_, rfl, h⟩
theorem oq_ord {Q : D → Prop} {k : Nat} (h : Q (.int k)) : oq (dOrd [.str ⟨#[k]⟩]) Q := ⟨_, rfl, h⟩
theorem oq_cut_l {Q : D → Prop} {lo hi : Option Int} (h : Q (.list (cutD ds lo hi))) : oq (dCut (.list ds) lo hi) Q := ⟨_, rfl, h⟩
theorem oq_cut_t {Q : D → Prop} {lo hi : Option Int} (h : Q (.tuple (cutD ds lo hi))) : oq (dCut (.tuple ds) lo hi) Q := ⟨_, rfl, h⟩
theorem oq_cut_s {Q : D → Prop} {lo hi : Option Int} (l : s.length ≤ 100000) (h : Q (.str (cutS s lo hi))) : oq (dCut (.str s) lo hi) Q := ⟨_, if_pos l, h⟩
theorem oq_mutL {s : Sl} {Q : Sl × List D → Prop} (e : mutL i ρ = some (s, ds)) (h : Q (s, ds)) : oq (mutL i ρ) Q := ⟨_, e, h⟩
theorem oq_append {Q : D × List D → Prop} (l : ds.length < 100000) (h : Q (.none, ds ++ [d])) : oq (muAppend ds [d]) Q := ⟨_, if_pos l, h⟩
theorem oq_list_l {Q : D → Prop} (h : Q (.list ds)) : oq (dList [.list ds]) Q := ⟨_, rfl, h⟩
theorem oq_list_t {Q : D → Prop} (h : Q (.list ds)) : oq (dList [.tuple ds]) Q := ⟨_, rfl, h⟩
theorem oq_tuple_l {Q : D → Prop} (h : Q (.tuple ds)) : oq (dTuple [.list ds]) Q := ⟨_, rfl, h⟩
theorem oq_tuple_t {Q : D → Prop} (h : Q (.tuple ds)) : oq (dTuple [.tuple ds]) Q := ⟨_, rfl, h⟩
theorem oq_max2 {Q : D → Prop} (h : Q (.int (if y > x then y else x))) : oq (dMax2 [.int x, .int y]) Q := ⟨_, rfl, h⟩
theorem oq_min2 {Q : D → Prop} (h : Q (.int (if y < x then y else x))) : oq (dMin2 [.int x, .int y]) Q := ⟨_, rfl, h⟩
theorem toBools_map {α : Type} (f : α → Bool) : ∀ xs : List α, toBools (xs.map fun x => PyData.bool (f x)) = some (xs.map f)
  | [] => rfl
  | x :: xs => by
    show (toBools (xs.map fun x => PyData.bool (f x))).map _ = _
    rw [toBools_map f xs]
    rfl
theorem toInts_map {α : Type} (f : α → Int) : ∀ xs : List α, toInts (xs.map fun x => PyData.int (f x)) = some (xs.map f)
  | [] => rfl
  | x :: xs => by
    show (toInts (xs.map fun x => PyData.int (f x))).map _ = _
    rw [toInts_map f xs]
    rfl
theorem toStrs_map {α : Type} (f : α → Str) : ∀ xs : List α, toStrs (xs.map fun x => PyData.str (f x)) = some (xs.map f)
  | [] => rfl
  | x :: xs => by
    show (toStrs (xs.map fun x => PyData.str (f x))).map _ = _
    rw [toStrs_map f xs]
    rfl
theorem oq_all {α : Type} {f : α → Bool} {xs : List α} {Q : D → Prop} (h : Q (.bool (xs.all f))) : oq (dAll [.list (xs.map fun x => .bool (f x))]) Q := by
  refine ⟨_, ?_, h⟩
  show (toBools _).map _ = _
  rw [toBools_map]
  simp
theorem oq_any {α : Type} {f : α → Bool} {xs : List α} {Q : D → Prop} (h : Q (.bool (xs.any f))) : oq (dAny [.list (xs.map fun x => .bool (f x))]) Q := by
  refine ⟨_, ?_, h⟩
  show (toBools _).map _ = _
  rw [toBools_map]
  simp
theorem oq_sum {α : Type} {f : α → Int} {xs : List α} {Q : D → Prop} (h : Q (.int (xs.map f).sum)) : oq (dSum [.list (xs.map fun x => .int (f x))]) Q := by
  refine ⟨_, ?_, h⟩
  show (toInts _).map _ = _
  rw [toInts_map]
  rfl
end
/-- an expression over a walked list that leaves the state: the list of its answers -/
theorem wp_map {ρ : En} {Q : D → En → Prop} {vs : List Nat} {ml : En → Option (List D × En)} {tg : D → En → Option En} {mb : En → Option (D × En)} {α : Type} (xs : List α) (u : α → D) (f : α → D)
    (h : wp ml ρ fun ds ρ1 => ds = xs.map u ∧ xs.length ≤ 100000 ∧ (∀ x, x ∈ xs → oq (tg (u x) (wipeA ρ1 vs)) fun ρ2 => wp mb ρ2 fun d ρ3 => d = f x ∧ unw ρ1 ρ3 vs = ρ1) ∧ Q (.list (xs.map f)) ρ1) : wp (lcK vs ml tg yesK mb) ρ Q := by
  refine wp_lc (wp.imp h ?_)
  rintro ds ρ' ⟨rfl, hl, hb, hq⟩
  refine ⟨fun ds acc r => r = ρ' ∧ ∃ as bs, xs = as ++ bs ∧ acc = as.map f ∧ ds = bs.map u, ⟨rfl, [], xs, rfl, rfl, rfl⟩, ?_, ?_⟩
  · rintro d ds acc r ⟨rfl, as, bs, e, rfl, e2⟩
    cases bs with
    | nil => simp at e2
    | cons b bs =>
      simp at e2
      obtain ⟨rfl, rfl⟩ := e2
      obtain ⟨ρ2, e3, d, ρ3, e4, rfl, e5⟩ := hb b (by rw [e]; simp)
      refine ⟨ρ2, e3, wp_yes (it2_t ⟨_, ρ3, e4, ?_, e5, as ++ [b], bs, by simp [e], by simp, rfl⟩)⟩
      have := congrArg List.length e
      simp at this ⊢
      omega
  · rintro acc r ⟨rfl, as, bs, e, rfl, e2⟩
    cases bs with
    | nil =>
      simp at e
      rw [← e]
      exact hq
    | cons b bs => simp at e2
theorem oq_ix_lk {ds : List D} {i : Int} {z : D} {Q : D → Prop} (e : ((ixN ds.length i).bind fun j => ds[j]?) = some z) (h : Q z) : oq (dIx (.list ds) (.int i)) Q := ⟨z, e, h⟩
theorem oq_ix_tk {ds : List D} {i : Int} {z : D} {Q : D → Prop} (e : ((ixN ds.length i).bind fun j => ds[j]?) = some z) (h : Q z) : oq (dIx (.tuple ds) (.int i)) Q := ⟨z, e, h⟩
theorem oq_ixN_k {n : Nat} {i : Int} {j : Nat} {Q : Nat → Prop} (e : ixN n i = some j) (h : Q j) : oq (ixN n i) Q := ⟨j, e, h⟩
theorem wp_kO_bor {ρ : En} {i : Nat} {d : D} {Q : D → En → Prop} (e : ρ[i]? = some (some (.bor d))) (h : Q d ρ) : wp (kO i) ρ Q := ⟨d, ρ, by unfold kO; rw [e]; rfl, h⟩
theorem wp_kO_own {ρ : En} {i : Nat} {d : D} {Q : D → En → Prop} (e : ρ[i]? = some (some (.own d))) (h : Q d ρ) : wp (kO i) ρ Q := ⟨d, ρ, by unfold kO; rw [e]; rfl, h⟩
theorem wp_kO_val {ρ : En} {i : Nat} {d : D} {Q : D → En → Prop} (e : ρ[i]? = some (some (.val d))) (h : Q d ρ) : wp (kO i) ρ Q := ⟨d, ρ, by unfold kO; rw [e]; rfl, h⟩
theorem oq_mutL_bor {ρ : En} {i : Nat} {ds : List D} {Q : Sl × List D → Prop} (e : ρ[i]? = some (some (.bor (.list ds)))) (h : Q (.bor (.list ds), ds)) : oq (mutL i ρ) Q := ⟨_, by unfold mutL; rw [e], h⟩
theorem oq_mutL_own {ρ : En} {i : Nat} {ds : List D} {Q : Sl × List D → Prop} (e : ρ[i]? = some (some (.own (.list ds)))) (h : Q (.own (.list ds), ds)) : oq (mutL i ρ) Q := ⟨_, by unfold mutL; rw [e], h⟩
theorem oq_len_sc {ns : List Int} {Q : D → Prop} (h : Q (.int ns.length)) : oq (dLen [scriptD ns]) Q := ⟨_, by unfold scriptD dLen; simp, h⟩
theorem oq_ix_sc {ns : List Int} {i : Int} {Q : D → Prop} (h0 : 0 ≤ i) (h1 : i < ns.length) (h : ∀ z, ns[i.toNat]? = some z → Q (.int z)) : oq (dIx (scriptD ns) (.int i)) Q := by
  refine oq_ix_l h0 (by simpa using h1) fun z e => ?_
  have l : i.toNat < ns.length := by omega
  rw [List.getElem?_map, List.getElem?_eq_getElem l] at e
  cases e
  exact h _ (List.getElem?_eq_getElem l)
theorem oq_ix_sb {ns : List Int} {i : Int} {Q : D → Prop} (h0 : i < 0) (h1 : -(ns.length : Int) ≤ i) (h : ∀ z, ns[(i + ns.length).toNat]? = some z → Q (.int z)) : oq (dIx (scriptD ns) (.int i)) Q := by
  have l : (i + ns.length).toNat < ns.length := by omega
  refine ⟨_, ?_, h _ (List.getElem?_eq_getElem l)⟩
  show (ixN (ns.map PyData.int).length i).bind _ = _
  rw [List.length_map, ixN_back h0 h1]
  show (ns.map PyData.int)[(i + ns.length).toNat]? = _
  rw [List.getElem?_map, List.getElem?_eq_getElem l]
  rfl
/-- .. with a test -/
theorem wp_fmap {ρ : En} {Q : D → En → Prop} {vs : List Nat} {ml : En → Option (List D × En)} {tg : D → En → Option En} {mt : En → Option (Bool × En)} {mb : En → Option (D × En)} {α : Type} (xs : List α) (u : α → D) (p : α → Bool) (f : α → D)
    (h : wp ml ρ fun ds ρ1 => ds = xs.map u ∧ xs.length ≤ 100000 ∧ (∀ x, x ∈ xs → oq (tg (u x) (wipeA ρ1 vs)) fun ρ2 => wp mt ρ2 fun b ρ3 => b = p x ∧ (p x = true → wp mb ρ3 fun d ρ4 => d = f x ∧ unw ρ1 ρ4 vs = ρ1) ∧ (p x = false → unw ρ1 ρ3 vs = ρ1)) ∧ Q (.list ((xs.filter p).map f)) ρ1) : wp (lcK vs ml tg mt mb) ρ Q := by
  refine wp_lc (wp.imp h ?_)
  rintro ds ρ' ⟨rfl, hl, hb, hq⟩
  refine ⟨fun ds acc r => r = ρ' ∧ ∃ as bs, xs = as ++ bs ∧ acc = (as.filter p).map f ∧ ds = bs.map u, ⟨rfl, [], xs, rfl, rfl, rfl⟩, ?_, ?_⟩
  · rintro d ds acc r ⟨rfl, as, bs, e, rfl, e2⟩
    cases bs with
    | nil => simp at e2
    | cons b bs =>
      simp at e2
      obtain ⟨rfl, rfl⟩ := e2
      obtain ⟨ρ2, e3, b', ρ3, e4, rfl, g1, g2⟩ := hb b (by rw [e]; simp)
      refine ⟨ρ2, e3, p b, ρ3, e4, fun t => ?_, fun t => ?_⟩
      · obtain ⟨d, ρ4, e5, rfl, e6⟩ := g1 t
        refine ⟨_, ρ4, e5, ?_, e6, as ++ [b], bs, by simp [e], by simp [t], rfl⟩
        have := congrArg List.length e
        have := List.length_filter_le p as
        simp at *
        omega
      · exact ⟨g2 t, as ++ [b], bs, by simp [e], by simp [t], rfl⟩
  · rintro acc r ⟨rfl, as, bs, e, rfl, e2⟩
    cases bs with
    | nil =>
      simp at e
      rw [← e]
      exact hq
    | cons b bs => simp at e2
theorem wps_post {m : En → Option SO} {ρ : En} {S : SO → Prop} (S' : SO → Prop) (h : wps m ρ S') (k : ∀ o, S' o → S o) : wps m ρ S := wps.imp h k
theorem fq_nx {I : En → Prop} {S : SO → Prop} {ρ : En} (h : I ρ) : fq I S (.nx ρ) := h
theorem fq_ct {I : En → Prop} {S : SO → Prop} {ρ : En} (h : I ρ) : fq I S (.ct ρ) := h
theorem fq_bk {I : En → Prop} {S : SO → Prop} {ρ : En} (h : S (.nx ρ)) : fq I S (.bk ρ) := h
theorem fq_rt {I : En → Prop} {S : SO → Prop} {ρ : En} {d : D} (h : S (.rt d ρ)) : fq I S (.rt d ρ) := h
/-! a walk over a list that is known, turn by turn -/
theorem wps_forL {ρ : En} {S : SO → Prop} {ml : En → Option (List D × En)} {tg : D → En → Option En} {m : En → Option SO} (h : wp ml ρ fun ds ρ1 => wps (forD tg m ds) ρ1 S) : wps (forS ml tg m) ρ S := by
  obtain ⟨ds, r1, e1, o, e2, q⟩ := h
  exact ⟨o, by unfold forS; simp [e1, e2], q⟩
theorem wfd_nil {ρ : En} {S : SO → Prop} {tg : D → En → Option En} {m : En → Option SO} (h : S (.nx ρ)) : wps (forD tg m []) ρ S := ⟨_, rfl, h⟩
theorem wfd_cons {ρ : En} {S : SO → Prop} {tg : D → En → Option En} {m : En → Option SO} {d : D} {ds : List D} (h : oq (tg d ρ) fun ρ2 => wps m ρ2 (fq (fun ρ3 => wps (forD tg m ds) ρ3 S) S)) : wps (forD tg m (d :: ds)) ρ S := by
  obtain ⟨ρ2, e2, o, e3, q⟩ := h
  cases o with
  | nx ρ3 =>
    obtain ⟨o, e4, q⟩ := q
    exact ⟨o, by unfold forD; simp [e2, e3, e4], q⟩
  | ct ρ3 =>
    obtain ⟨o, e4, q⟩ := q
    exact ⟨o, by unfold forD; simp [e2, e3, e4], q⟩
  | bk ρ3 => exact ⟨_, by unfold forD; simp [e2, e3], q⟩
  | rt d ρ3 => exact ⟨_, by unfold forD; simp [e2, e3], q⟩
theorem wp_range3 {ρ : En} {QL : List D → En → Prop} {ml : En → Option (List D × En)} (h : wp ml ρ fun ds ρ1 => ∃ i j k, ds = [.int i, .int j, .int k] ∧ (k ≠ 0 ∧ k.natAbs < 1073741824 ∧ Builtin.Range.small i j k = true) ∧ QL (numsC i k (Builtin.Range.rangeSize i j k).toNat) ρ1) : wp (rangeK3 ml) ρ QL := by
  obtain ⟨x, r1, e1, i, j, k, rfl, hn, q⟩ := h
  exact ⟨_, r1, by unfold rangeK3; rw [e1]; simp only []; rw [if_pos hn], q⟩
theorem oq_rep {a : List D} {k : Int} {Q : D → Prop} (l : k < 2 ^ 63 ∧ -(2 ^ 63) ≤ k ∧ a.length * k.toNat ≤ 100000) (h : Q (.list (List.replicate k.toNat a).flatten)) : oq (dRep (.list a) (.int k)) Q := ⟨_, if_pos l, h⟩
theorem oq_insert {ds : List D} {d : D} {i : Int} {Q : D × List D → Prop} (l : ds.length < 100000 ∧ 0 ≤ i ∧ i < 2 ^ 63) (h : Q (.none, ds.take i.toNat ++ [d] ++ ds.drop i.toNat)) : oq (muInsert ds [.int i, d]) Q := ⟨_, if_pos l, h⟩
theorem oq_extend {ds es : List D} {Q : D × List D → Prop} (l : ds.length + es.length ≤ 100000) (h : Q (.none, ds ++ es)) : oq (muExtend ds [.list es]) Q := ⟨_, if_pos l, h⟩
/-! lists of ints -/
theorem okD_ints (k : Nat) : ∀ xs : List Int, (xs.map PyData.int).all (okD k) = true
  | [] => rfl
  | x :: xs => by
    rw [List.map_cons, List.all_cons, okD_ints k xs]
    cases k <;> rfl
theorem eqv_ints : ∀ xs ys : List Int, PyData.eqvAll (xs.map PyData.int) (ys.map PyData.int) = decide (xs = ys)
  | [], [] => by simp [PyData.eqvAll]
  | [], y :: ys => by simp [PyData.eqvAll]
  | x :: xs, [] => by simp [PyData.eqvAll]
  | x :: xs, y :: ys => by
    simp only [List.map_cons, PyData.eqvAll, PyData.eqv]
    rw [eqv_ints xs ys]
    by_cases h : x = y <;> simp [h]
theorem dEqB_il (xs ys : List Int) : dEqB (.list (xs.map .int)) (.list (ys.map .int)) = some (decide (xs = ys)) := by
  show (if okD 60 (.list (xs.map .int)) = true ∧ okD 60 (.list (ys.map .int)) = true then _ else _) = _
  rw [if_pos ⟨okD_ints 59 xs, okD_ints 59 ys⟩]
  simp only [PyData.eqv]
  rw [eqv_ints]
theorem dEqB_it (xs ys : List Int) : dEqB (.tuple (xs.map .int)) (.tuple (ys.map .int)) = some (decide (xs = ys)) := by
  show (if okD 60 (.tuple (xs.map .int)) = true ∧ okD 60 (.tuple (ys.map .int)) = true then _ else _) = _
  rw [if_pos ⟨okD_ints 59 xs, okD_ints 59 ys⟩]
  simp only [PyData.eqv]
  rw [eqv_ints]
section
variable {xs ys : List Int} {Q : D → Prop}
theorem oq_eq_il (h : Q (.bool (decide (xs = ys)))) : oq (dEq (.list (xs.map .int)) (.list (ys.map .int))) Q := oq_eq_d (dEqB_il xs ys) h
theorem oq_ne_il (h : Q (.bool (!decide (xs = ys)))) : oq (dNe (.list (xs.map .int)) (.list (ys.map .int))) Q := oq_ne_d (dEqB_il xs ys) h
theorem oq_eq_it (h : Q (.bool (decide (xs = ys)))) : oq (dEq (.tuple (xs.map .int)) (.tuple (ys.map .int))) Q := oq_eq_d (dEqB_it xs ys) h
theorem oq_ne_it (h : Q (.bool (!decide (xs = ys)))) : oq (dNe (.tuple (xs.map .int)) (.tuple (ys.map .int))) Q := oq_ne_d (dEqB_it xs ys) h
def lexI : List Int → List Int → Bool
  | [], [] => false
  | [], _ :: _ => true
  | _ :: _, [] => false
  | x :: xs, y :: ys => if x = y then lexI xs ys else decide (x < y)
theorem lexI_eq : ∀ xs ys : List Int, PySem.W.listLt xs ys = lexI xs ys
  | [], [] => rfl
  | [], _ :: _ => rfl
  | _ :: _, [] => rfl
  | x :: xs, y :: ys => by
    show (if x = y then PySem.W.listLt xs ys else _) = (if x = y then lexI xs ys else _)
    rw [lexI_eq xs ys]
    rfl
theorem alike_ints : ∀ xs ys : List Int, PySem.W.alikeAll (xs.map PyData.int) (ys.map PyData.int) = true := fun xs ys => PySem.W.alikeAll_map xs ys
theorem okC_il (xs ys : List Int) : okC (.list (xs.map .int)) (.list (ys.map .int)) = true := by
  unfold okC
  rw [show okD 60 (.list (xs.map .int)) = true from okD_ints 59 xs, show okD 60 (.list (ys.map .int)) = true from okD_ints 59 ys]
  simp only [PySem.W.alike]
  rw [alike_ints]
  rfl
theorem okC_it (xs ys : List Int) : okC (.tuple (xs.map .int)) (.tuple (ys.map .int)) = true := by
  unfold okC
  rw [show okD 60 (.tuple (xs.map .int)) = true from okD_ints 59 xs, show okD 60 (.tuple (ys.map .int)) = true from okD_ints 59 ys]
  simp only [PySem.W.alike]
  rw [alike_ints]
  rfl
theorem lt_il (xs ys : List Int) : PySem.W.dataLt (.list (xs.map .int)) (.list (ys.map .int)) = lexI xs ys := (PySem.W.DatumOrd.lt_eq xs ys).trans (lexI_eq xs ys)
theorem lt_it (xs ys : List Int) : PySem.W.dataLt (.tuple (xs.map .int)) (.tuple (ys.map .int)) = lexI xs ys := (PySem.W.DatumOrd.lt_eq (PySem.W.Tup.mk xs) (PySem.W.Tup.mk ys)).trans (lexI_eq xs ys)
theorem oq_lt_il (h : Q (.bool (lexI xs ys))) : oq (dLt (.list (xs.map .int)) (.list (ys.map .int))) Q := by
  refine ⟨_, ?_, h⟩
  show (if okC _ _ = true then some (PyData.bool (PySem.W.dataLt _ _)) else none) = _
  rw [if_pos (okC_il xs ys), lt_il]
theorem oq_lt_it (h : Q (.bool (lexI xs ys))) : oq (dLt (.tuple (xs.map .int)) (.tuple (ys.map .int))) Q := by
  refine ⟨_, ?_, h⟩
  show (if okC _ _ = true then some (PyData.bool (PySem.W.dataLt _ _)) else none) = _
  rw [if_pos (okC_it xs ys), lt_it]
end
theorem oq_setv_nb {ρ : En} {i : Nat} {d : D} {x : Option Sl} (e : ρ[i]? = some x) (hx : x = none ∨ ∃ d, x = some (.val d)) {Q : En → Prop} (h : Q (ρ.set i (some (.val d)))) : oq (setv i d ρ) Q := by
  refine oq_setv ?_ h
  rcases hx with rfl | ⟨d, rfl⟩ <;> (unfold setv; rw [e])
theorem nums_map : ∀ (n : Nat) (lo : Int), nums lo n = (List.range n).map fun k => .int (lo + (k : Nat))
  | 0, _ => rfl
  | n + 1, lo => by
    rw [List.range_succ_eq_map, List.map_cons, List.map_map]
    show PyData.int lo :: nums (lo + 1) n = _
    rw [nums_map n (lo + 1)]
    congr 1
    · simp
    · refine List.map_congr_left fun k _ => ?_
      show PyData.int _ = PyData.int _
      congr 1
      show lo + 1 + (k : Int) = lo + ((k : Int) + 1)
      omega
theorem oq_seto_nb {ρ : En} {i : Nat} {d : D} {x : Option Sl} (e : ρ[i]? = some x) (hx : x = none ∨ ∃ d, x = some (.val d)) {Q : En → Prop} (h : Q (ρ.set i (some (.own d)))) : oq (seto i d ρ) Q := by
  refine oq_seto ?_ h
  rcases hx with rfl | ⟨d, rfl⟩ <;> (unfold seto; rw [e])
end Dz

/-! Dz. O: instances of the text's own classes: made, read. -/
namespace Dz
open PySem L2
variable {c : C0} {N : List Str} {sc : Scope}
/-- an instance of the class at C, as a datum -/
def oD (C : Nat) (fs : List (D × D)) : D := .dict ((.none, .int (Int.ofNat C)) :: fs)
def lookF (f : Str) : List (D × D) → Option D
  | [] => none
  | (.str g, d) :: r => if f = g then some d else lookF f r
  | _ => none
theorem RpF.look {K : Frag} {H : Hp} {f : Str} {d : D} : ∀ {gs : List (Str × V)} {ds : List (D × D)}, RpF K H gs ds → lookF f ds = some d → ∃ v, gs.lookup f = some v ∧ Rp K H v d
  | _, _, .nil, e => by cases e
  | _, _, .cons (f := g) (v := v) (vs := vs) (d := d') (ds := ds) h r, e => by
    by_cases q : f = g
    · subst q
      have e' : some d' = some d := by
        have : lookF f ((PyData.str f, d') :: ds) = some d' := if_pos rfl
        rw [this] at e
        exact e
      cases e'
      exact ⟨v, by simp [List.lookup], h⟩
    · have e' : lookF f ds = some d := by
        have : lookF f ((PyData.str g, d') :: ds) = lookF f ds := if_neg q
        rw [this] at e
        exact e
      obtain ⟨w, h1, h2⟩ := RpF.look r e'
      refine ⟨w, ?_, h2⟩
      have : (f == g) = false := by simpa using q
      simp [List.lookup, this, h1]
theorem RpF.lookN {K : Frag} {H : Hp} {f : Str} : ∀ {gs : List (Str × V)} {ds : List (D × D)}, RpF K H gs ds → lookF f ds = none → gs.lookup f = none
  | _, _, .nil, e => rfl
  | _, _, .cons (f := g) (v := v) (vs := vs) (d := d') (ds := ds) h r, e => by
    by_cases q : f = g
    · subst q
      have : lookF f ((PyData.str f, d') :: ds) = some d' := if_pos rfl
      rw [this] at e
      cases e
    · have e' : lookF f ds = none := by
        have : lookF f ((PyData.str g, d') :: ds) = lookF f ds := if_neg q
        rw [this] at e
        exact e
      have : (f == g) = false := by simpa using q
      simp [List.lookup, this, RpF.lookN r e']
theorem RpF.length {K : Frag} {H : Hp} : ∀ {gs : List (Str × V)} {ds : List (D × D)}, RpF K H gs ds → gs.length = ds.length
  | _, _, .nil => rfl
  | _, _, .cons h r => by rw [List.length_cons, List.length_cons, RpF.length r]
theorem RpF.app {K : Frag} {H : Hp} {f : Str} {v : V} {d : D} (h : Rp K H v d) : ∀ {gs : List (Str × V)} {ds : List (D × D)}, RpF K H gs ds → RpF K H (gs ++ [(f, v)]) (ds ++ [(.str f, d)])
  | _, _, .nil => .cons h .nil
  | _, _, .cons a r => .cons a (RpF.app h r)
theorem putF_new {f : Str} {v : V} : ∀ {gs : List (Str × V)}, gs.lookup f = none → putF f v gs = gs ++ [(f, v)]
  | [], _ => rfl
  | (g, x) :: r, h => by
    have q : ¬ g = f := fun e => by
      subst e
      simp [List.lookup] at h
    have q' : (f == g) = false := by
      cases z : (f == g) with
      | false => rfl
      | true => exact absurd (eq_of_beq z).symm q
    have h' : r.lookup f = none := by simpa [List.lookup, q'] using h
    show (if g = f then _ else _) = _
    rw [if_neg q, putF_new h']
    rfl
theorem RpK.noNone {K : Frag} {H : Hp} : ∀ {kvs : List (Key × V)} {es : List (D × D)}, RpK K H kvs es → ∀ x ds, es = (PyData.none, x) :: ds → False
  | _, _, .nil, x, ds, e => by cases e
  | _, _, .cons (k := k) h r, x, ds, e => by
    have e1 := (List.cons.inj e).1
    have e2 : kD k = .none := congrArg Prod.fst e1
    cases k <;> cases e2
theorem Rp.oD {K : Frag} {H : Hp} {v : V} {C : Nat} {ds : List (D × D)} (h : Rp K H v (oD C ds)) : ∃ a dx gs, v = .ref a ∧ H a = some (.ins C dx gs) ∧ RpF K H gs ds := by
  generalize e : Dz.oD C ds = z at h
  cases h with
  | dct h r => exact (r.noNone _ _ (PyData.dict.inj e).symm).elim
  | obj h r =>
    have e1 := List.cons.inj (PyData.dict.inj e)
    have e2 : PyData.int (Int.ofNat C) = PyData.int (Int.ofNat _) := congrArg Prod.snd e1.1
    have e3 := Int.ofNat.inj (PyData.int.inj e2)
    subst e3
    rw [e1.2]
    exact ⟨_, _, _, rfl, h, r⟩
  | _ => cases e
/-! ### e.f -/
def fldK (C : Nat) (f : Str) (m : En → Option (D × En)) : En → Option (D × En) := fun ρ => match m ρ with
  | some (.dict ((.none, .int k) :: fs), ρ') => if k = Int.ofNat C then (lookF f fs).map fun d => (d, ρ') else none
  | _ => none
theorem sd_fld {K : Frag} {t : TE} {m : En → Option (D × En)} {C : Nat} {f : Str} (h : Sd K t m) (cl : Cls K C) (na : NoAttr K C f) : Sd K (tFld K t f) (fldK C f m) := fun σ H ρ B d ρ' S e Q q => by
  unfold fldK at e
  split at e
  · rename_i k fs ρ1 he
    split at e
    · rename_i hk
      subst hk
      cases hl : lookF f fs with
      | none => simp [hl] at e
      | some z =>
        simp [hl] at e
        obtain ⟨rfl, rfl⟩ := e
        refine h σ H ρ B _ _ S he _ fun v H1 A r => ?_
        obtain ⟨a, dx, gs, rfl, h1, h2⟩ := Rp.oD (C := C) (ds := fs) r
        obtain ⟨w, l, rw_⟩ := h2.look hl
        exact ⟨a, C, dx, gs, w, rfl, (hide_some h1).2, cl, na, l, q w H1 A rw_⟩
    · cases e
  · cases e
theorem je_fld {C : Nat} {f : Str} {e : Expr} {pos : Pos} {m : En → Option (D × En)} (h : JE c N sc e m) (cl : Cls c.K C) (na : NoAttr c.K C f) (hb : ∀ env, attributeBase e f env (eval e env) = eval e env := by intros; rfl) : JE c N sc (.Attribute e f pos) (fldK C f m) := by
  obtain ⟨t, h1, h2⟩ := h
  refine ⟨tFld c.K t f, fun X I => ?_, sd_fld h2 cl na⟩
  have q := pe_fld (f := f) (pos := pos) (h1 X I) (hb _)
  rw [I.K] at q
  exact q
/-! ### __init__: fields stored one by one -/
abbrev Im := List (D × D) → En → Option (List (D × D) × En)
def iniNil : Im := fun acc ρ => some (acc, ρ)
def iniCons (f : Str) (me : En → Option (D × En)) (mr : Im) : Im := fun acc ρ => (me ρ).bind fun p => if lookF f acc = none ∧ acc.length < 900 then mr (acc ++ [(.str f, p.1)]) p.2 else none
def SIn (K : Frag) (C : Nat) (t : TS) (m : Im) : Prop := ∀ σ H ρ B x dx gs ds0 ds ρ', SR K B σ H ρ → (∀ a, ¬ Mine σ ρ a) → σ[0]? = some (some (.ref x)) → B x = true → H x = some (.ins C dx gs) → RpF K (hide B H) gs ds0 → m ds0 ρ = some (ds, ρ') →
  ∀ Dn : Ends, (∀ H' gs', SR K B σ H' ρ' → H' x = some (.ins C dx gs') → RpF K (hide B H') gs' ds → (∀ b o, b ≠ x → H b = some o → H' b = some o) → Dn.nx σ H') → t Dn σ H
def JIn (c : C0) (N : List Str) (sc : Scope) (C : Nat) (ss : List Stmt) (m : Im) : Prop := ∃ t, (∀ X, In c N sc X → PSs X ss t) ∧ SIn c.K C t m
theorem jin_nil {C : Nat} : JIn c N sc C [] iniNil := ⟨tNext, fun _ _ => pss_nil, fun σ H ρ B x dx gs ds0 ds ρ' S nm hs bx hx hf e Dn q => by
  cases e
  exact q H gs S hx hf fun _ _ _ h => h⟩
theorem si_fld {K : Frag} {C : Nat} {f : Str} {te : TE} {me : En → Option (D × En)} {t : TS} {mr : Im} (cl : Cls K C) (na : NoAttr K C f) (h : Sd K te me) (hr : SIn K C t mr) : SIn K C (tSeq (sFld K (tVar 0) te f) t) (iniCons f me mr) := fun σ H ρ B x dx gs ds0 ds ρ' S nm hs bx hx hf e Dn q => by
  unfold iniCons at e
  cases q1 : me ρ with
  | none => simp [q1] at e
  | some p =>
    obtain ⟨d, ρ1⟩ := p
    simp only [q1, Option.bind_some] at e
    split at e
    · rename_i hl
      refine h σ H ρ B _ _ S q1 _ fun v H1 A r => ?_
      have hx1 : H1 x = some (.ins C dx gs) := A.keep x _ hx (nm x)
      refine ⟨.ref x, hs, x, C, dx, gs, rfl, hx1, cl, na, ?_, ?_⟩
      · rw [hf.length]
        omega
      · have nm1 : ∀ a, ¬ Mine σ ρ1 a := fun a m => nm a (A.kin.mine.mp m)
        have hh : hide B (upd H1 x (.ins C dx (putF f v gs))) = hide B H1 := upd_hide bx
        have sr : SR K B σ (upd H1 x (.ins C dx (putF f v gs))) ρ1 := by
          refine ⟨A.sr.len, fun i d' z => ?_, fun i s z m => ?_, A.sr.inj, fun a z => ?_⟩
          · rw [hh]
            exact A.sr.val i d' z
          · exact absurd ⟨i, s, z, m, (A.sr.mu_ i s z m).choose_spec.1⟩ (nm1 _)
          · by_cases y : a = x
            · subst y
              exact ⟨_, upd_same⟩
            · obtain ⟨o, w⟩ := A.sr.bk a z
              exact ⟨o, by rw [upd_ne y]; exact w⟩
        have hf1 : RpF K (hide B H1) gs ds0 := hf.mono (A.sub S)
        refine hr σ _ ρ1 B x dx (putF f v gs) (ds0 ++ [(.str f, d)]) _ _ sr nm1 hs bx upd_same ?_ e Dn fun H' gs' s' hx' hf' kp => ?_
        · rw [hh, putF_new (hf1.lookN hl.1)]
          exact hf1.app r
        · exact q H' gs' s' hx' hf' fun b o nb z => kp b o nb (by rw [upd_ne nb]; exact A.keep b o z (nm b))
    · cases e
theorem jin_cons {C : Nat} {f x : Str} {e : Expr} {p1 p2 pos : Pos} {me : En → Option (D × En)} {rest : List Stmt} {mr : Im} (cl : Cls c.K C) (na : NoAttr c.K C f) (h : JE c N sc e me) (hr : JIn c N sc C rest mr) (hN : N[0]? = some x := by rfl) (hv : Vis sc x := by first | exact Or.inl rfl | exact Or.inr (Or.inl rfl) | exact Or.inr (Or.inr rfl))
    (hd : (x == ("__debug__" : Str)) = false := by decide) (hcd : (x == ("__classdict__" : Str)) = false := by decide)
    (hs : ∀ env, swapsWith e (some (.Attribute (.Name x p1) f p2)) pos.line env = pure false := by intros; rfl) : JIn c N sc C (.Assign [.Attribute (.Name x p1) f p2] e pos :: rest) (iniCons f me mr) := by
  obtain ⟨t, h1, h2⟩ := h
  obtain ⟨u, r1, r2⟩ := hr
  refine ⟨tSeq (sFld c.K (tVar 0) t f) u, fun X I => ?_, si_fld cl na h2 r2⟩
  have q := ps_fld (f := f) (pos := pos) (pos' := p2) (pe_var (pos := p1) (by rw [I.N]; exact hN) (I.vis hv) hd hcd) (h1 X I) (hs _)
  rw [I.K] at q
  exact pss_cons q (r1 X I)
/-- what __init__ promises: n slots, the instance's class at C -/
def spI (K : Frag) (C n : Nat) (m : Im) : Sp := fun vs H Q _ => ∃ x dx us ds fs ρ' B, vs = .ref x :: us ∧ H x = some (.ins C dx []) ∧ B x = true ∧ (∀ a, B a = true → ∃ o, H a = some o) ∧ RpL K (hide B H) us ds ∧ us.length + 1 ≤ n ∧
  m [] (none :: (ds.map (fun d => some (Sl.val d)) ++ List.replicate (n - 1 - ds.length) none)) = some (fs, ρ') ∧ ∀ H' gs, H' x = some (.ins C dx gs) → RpF K (hide B H') gs fs → (∀ b o, b ≠ x → H b = some o → H' b = some o) → Q .non H'
theorem init_sr {K : Frag} {B : Addr → Bool} {H : Hp} {x : Addr} {us : List V} {ds : List D} {n : Nat} (r : RpL K (hide B H) us ds) (bk : ∀ a, B a = true → ∃ o, H a = some o) (hn : us.length + 1 ≤ n) :
    SR K B ((.ref x :: us).map some ++ List.replicate (n - (us.length + 1)) none) H (none :: (ds.map (fun d => some (Sl.val d)) ++ List.replicate (n - 1 - ds.length) none)) ∧ ∀ a, ¬ Mine ((.ref x :: us).map some ++ List.replicate (n - (us.length + 1)) none) (none :: (ds.map (fun d => some (Sl.val d)) ++ List.replicate (n - 1 - ds.length) none)) a := by
  have hl := r.length
  have key : ∀ (i : Nat) (s : Sl), (none :: (ds.map (fun d => some (Sl.val d)) ++ List.replicate (n - 1 - ds.length) none) : En)[i]? = some (some s) → ∃ d v, s = .val d ∧ ((.ref x :: us).map some ++ List.replicate (n - (us.length + 1)) none : L2.St)[i]? = some (some v) ∧ Rp K (hide B H) v d := by
    intro i s e
    cases i with
    | zero => simp at e
    | succ i =>
      rw [List.getElem?_cons_succ] at e
      rcases Nat.lt_or_ge i ds.length with hi | hi
      · rw [List.getElem?_append_left (by simpa using hi), List.getElem?_map, List.getElem?_eq_getElem hi] at e
        simp at e
        obtain ⟨v, h1, h2⟩ := r.get' (List.getElem?_eq_getElem hi)
        refine ⟨_, v, e.symm, ?_, h2⟩
        rw [List.map_cons, List.cons_append, List.getElem?_cons_succ, List.getElem?_append_left (by simp; omega), List.getElem?_map, h1]
        rfl
      · rw [List.getElem?_append_right (by simpa using hi)] at e
        rw [List.getElem?_replicate] at e
        split at e <;> simp at e
  refine ⟨⟨by simp; omega, fun i d e => ?_, fun i s e m => ?_, fun i j s t l e1 m1 _ _ _ _ => ?_, bk⟩, fun a => ?_⟩
  · obtain ⟨d', v, e1, e2, e3⟩ := key i _ e
    cases e1
    exact ⟨v, e2, e3⟩
  · obtain ⟨d', v, e1, _⟩ := key i _ e
    subst e1
    cases m
  · obtain ⟨d', v, e3, _⟩ := key i _ e1
    subst e3
    cases m1
  · rintro ⟨i, s, e, m, _⟩
    obtain ⟨d', v, e3, _⟩ := key i _ e
    subst e3
    cases m
theorem init_ok {x qual : Str} {st : Stmt} {f : Addr} {fd : FuncData} {N ps : List Str} {k C : Nat} {m : Im} (F : Fun c.K x qual st f fd) (S : FnScope N ps (defScope st)) (h : JIn { c with k := k, top := true } N (defScope st) C (defBody st) m) (hp : ∀ us : List V, us.length + 1 ≤ N.length → us.length + 1 = ps.length ∨ us.length + 1 ≠ ps.length := by intros; omega) :
    FnOk c.P c.w c.K c.mg c.base CX0 (k + 1) f fd ps (fun vs H Q E => vs.length = ps.length ∧ spI c.K C N.length m vs H Q E) := by
  refine F.ok S (fun vs H Q E h => h.1) (fun cdv A outer s H vs Q E hr h' => ?_)
  obtain ⟨hl, x, dx, us, ds, fs, ρ', B, rfl, h1, h2, h3, h4, h5, h6, h7⟩ := h'
  obtain ⟨t, t1, t2⟩ := h
  refine ⟨t, t1 _ ⟨rfl, rfl, rfl, rfl, rfl, hr, rfl, rfl, rfl, fun _ => rfl, PassesOwn.never⟩, ?_⟩
  obtain ⟨s1, s2⟩ := init_sr (x := x) h4 h3 h5
  have es : L2.start N (.ref x :: us) = (V.ref x :: us).map some ++ List.replicate (N.length - (us.length + 1)) none := by
    unfold L2.start
    rfl
  rw [es]
  exact t2 _ H _ B x dx [] [] _ _ s1 s2 rfl h2 h1 .nil h6 _ fun H' gs' _ hx hf kp => h7 H' gs' hx hf kp
/-- a class of the text whose instances are made by such an __init__; ds: what the defaults give -/
def MkD (c : C0) (k : Nat) (x : Str) (C n p : Nat) (ds : List D) (m : Im) : Prop :=
  ∃ (f : Addr) (fd : FuncData) (ps : List Str) (dV : List Value) (dvs : List V), Mk c.K C f ∧ FnOk c.P c.w c.K c.mg c.base CX0 k f fd ps (fun vs H Q E => vs.length = ps.length ∧ spI c.K C n m vs H Q E) ∧ c.mg x = some (.ref C) ∧ Binds c.K fd ps dV ∧ Vals dvs dV ∧ (∀ H, RpL c.K H dvs ds) ∧ ps.length = p + 1 + ds.length ∧ ps.length ≤ n
def mkK (C n p : Nat) (ds : List D) (m : Im) (ma : En → Option (List D × En)) : En → Option (D × En) := fun ρ => (ma ρ).bind fun q => if q.1.length = p then (m [] (none :: ((q.1 ++ ds).map (fun d => some (Sl.val d)) ++ List.replicate (n - 1 - (q.1 ++ ds).length) none))).map fun z => (oD C z.1, q.2) else none
theorem sd_mk {K : Frag} {C n p np : Nat} {ds : List D} {dvs : List V} {m : Im} {t : TA} {ma : En → Option (List D × En)} {E : XK} (h : SA K t ma) (hd : ∀ H, RpL K H dvs ds) (hp : np = p + 1 + ds.length) (hn : np ≤ n) :
    Sd K (tMake C (fun vs H Q E => vs.length = np ∧ spI K C n m vs H Q E) dvs E t) (mkK C n p ds m ma) := fun σ H ρ B d ρ' S e Q q => by
  unfold mkK at e
  cases q1 : ma ρ with
  | none => simp [q1] at e
  | some z =>
    obtain ⟨es, ρ1⟩ := z
    simp only [q1, Option.bind_some] at e
    split at e
    · rename_i hl
      cases q2 : m [] (none :: ((es ++ ds).map (fun d => some (Sl.val d)) ++ List.replicate (n - 1 - (es ++ ds).length) none)) with
      | none =>
        rw [q2] at e
        cases e
      | some w =>
        obtain ⟨fs, ρ2⟩ := w
        rw [q2] at e
        simp only [Option.map_some, Option.some.injEq, Prod.mk.injEq] at e
        obtain ⟨rfl, rfl⟩ := e
        refine h σ H ρ B _ _ S q1 _ fun vs H1 A ra => ?_
        intro x dx nx ndx ne
        have rl := ra.length
        have dl := (hd H1).length
        have fx : B x = false := A.sr.fresh nx
        let B' : Addr → Bool := fun a => decide (a = x) || decide (a = dx) || B a
        let H2 : Hp := upd (upd H1 dx (.own x)) x (.ins C dx [])
        have up : ∀ b o, H1 b = some o → H2 b = some o := fun b o e => by
          have n1 : b ≠ x := ne_of_none e nx
          have n2 : b ≠ dx := ne_of_none e ndx
          show upd (upd H1 dx (.own x)) x (.ins C dx []) b = some o
          rw [upd_ne n1, upd_ne n2]
          exact e
        have hs : Sub (hide B H1) (hide B' H2) := fun b o e => by
          obtain ⟨e1, e2⟩ := hide_some e
          refine hide_of ?_ (up b o e2)
          have n1 : b ≠ x := ne_of_none e2 nx
          have n2 : b ≠ dx := ne_of_none e2 ndx
          show (decide (b = x) || decide (b = dx) || B b) = false
          simp [n1, n2, e1]
        refine ⟨by simp; omega, x, dx, vs ++ dvs, es ++ ds, fs, ρ2, B', rfl, upd_same, ?_, fun a z => ?_, (ra.mono hs).append (hd _), ?_, q2, fun H3 gs h1 h2 h3 => ⟨rfl, ?_⟩⟩
        · show (decide (x = x) || decide (x = dx) || B x) = true
          simp
        · by_cases y : a = x
          · subst y
            exact ⟨_, upd_same⟩
          · by_cases y2 : a = dx
            · subst y2
              exact ⟨_, by show upd (upd H1 a (.own x)) x (.ins C a []) a = _; rw [upd_ne y]; exact upd_same⟩
            · have z' : B a = true := by
                have : (decide (a = x) || decide (a = dx) || B a) = true := z
                simpa [y, y2] using this
              obtain ⟨o, w⟩ := A.sr.bk a z'
              exact ⟨o, up a o w⟩
        · rw [List.length_append]
          omega
        · have sb : Sub H1 H3 := fun b o e => h3 b o (ne_of_none e nx) (up b o e)
          refine q (.ref x) H3 (A.trans (Af.of_sub A.sr sb)) ?_
          have hh : Sub (hide B' H3) (hide B H3) := fun b o e => by
            obtain ⟨e1, e2⟩ := hide_some e
            refine hide_of ?_ e2
            have : (decide (b = x) || decide (b = dx) || B b) = false := e1
            simp at this
            exact this.2
          exact .obj (hide_of fx h1) (h2.mono hh)
    · cases e
theorem je_mk {C n p j : Nat} {ds : List D} {m : Im} {x : Str} {e : Expr} {es : List Expr} {q pos : Pos} {ma : En → Option (List D × En)} (M : MkD c j x C n p ds m) (hk : j + 1 ≤ c.k) (hg : sc.names.lookup x = some .globalImplicit) (ha : JL c N sc (e :: es) ma)
    (hdb : (x == ("__debug__" : Str)) = false := by decide) (he : ∀ env, starEach (e :: es) env = (false, eval e env) :: starEach es env := by intros; rfl) (hpl : ∀ env, (backTo pos (starEach es env)).any (·.1) = false := by intros; rfl) :
    JE c N sc (.Call (.Name x q) (e :: es) [] pos) (mkK C n p ds m ma) := by
  obtain ⟨f, fd, ps, dV, dvs, M, F, hm, hb, hd, hr, hp, hn⟩ := M
  obtain ⟨t, p1, s1⟩ := ha
  refine ⟨tMake C (fun vs H Q E => vs.length = ps.length ∧ spI c.K C n m vs H Q E) dvs E0 t, fun X I => ?_, sd_mk s1 hr hp hn⟩
  obtain ⟨a1, a2, a3, a4, a5, a6, a7, a8, a9, a10, a11⟩ := id I
  have F' : FnOk X.prog X.w X.K X.mg X.base CX0 j f fd ps (fun vs H Q E => vs.length = ps.length ∧ spI c.K C n m vs H Q E) := by
    rw [a1, a2, a3, a4, a5]
    exact F
  exact pe_make (by rw [a3]; exact M) F' (a6.mono hk) (I.gl hg) (by rw [a4]; exact hm) (by rw [a3]; exact hb) hd pass0 (p1 X I) hdb (he _) (hpl _)
/-- an own class, by its facts -/
structure ClsD (c : C0) (x : Str) (C : Nat) : Prop where
  mg : c.mg x = some (.ref C)
  cl : Cls c.K C
  ha : PySem.W.findIn c.K (.ref C) "__class__" = some (some (.builtin "object.__class__"))
  hn : PySem.W.specialIn c.K (.builtin "object.__class__") "__get__" = some (some (.builtin "getset_descriptor.__get__"))
  htk : PySem.W.takesIn c.K (.builtin "object.__class__") = some true
  hm : PySem.W.mroIn c.K C (.type "object") = some true
  self : PySem.W.kitOne c.K (.ref C) (.ref C) = some true
  kNone : PySem.W.kitOne c.K (.type "NoneType") (.ref C) = some false
  kBool : PySem.W.kitOne c.K (.type "bool") (.ref C) = some false
  kInt : PySem.W.kitOne c.K (.type "int") (.ref C) = some false
  kStr : PySem.W.kitOne c.K (.type "str") (.ref C) = some false
  kList : PySem.W.kitOne c.K (.type "list") (.ref C) = some false
  kTuple : PySem.W.kitOne c.K (.type "tuple") (.ref C) = some false
  fList : PySem.W.notFirst c.K C (.type "list") = true
  fTuple : PySem.W.notFirst c.K C (.type "tuple") = true
def isOb (C : Nat) : D → Bool
  | .dict ((.none, .int k) :: _) => decide (k = Int.ofNat C)
  | _ => false
theorem isOb_oD {C : Nat} {d : D} (h : isOb C d = true) : ∃ fs, d = oD C fs := by
  unfold isOb at h
  split at h
  · rename_i k fs
    exact ⟨fs, by unfold oD; rw [of_decide_eq_true h]⟩
  · cases h
def isiCB (C : Nat) : D → Option Bool
  | .none => some false
  | .bool _ => some false
  | .int _ => some false
  | .str _ => some false
  | .list _ => some false
  | .tuple _ => some false
  | d => if isOb C d = true then some true else none
theorem isiC_of {C : Nat} {x : Str} (T : ClsD c x C) {H : Hp} {v : V} {d : D} {b : Bool} (h : Rp c.K H v d) (e : isiCB C d = some b) : ∃ t, TyX c.K H v t ∧ PySem.W.kitOne c.K t (.ref C) = some b := by
  by_cases ho : isOb C d = true
  · obtain ⟨fs, rfl⟩ := isOb_oD ho
    obtain ⟨a, dx, gs, rfl, h1, h2⟩ := h.oD
    have eb : b = true := by
      have : isiCB C (oD C fs) = some true := by
        unfold isiCB oD at *
        simp only []
        rw [if_pos ho]
      rw [this] at e
      cases e
      rfl
    subst eb
    exact ⟨.ref C, .base (.ins h1 T.cl T.ha T.hn T.htk T.hm), T.self⟩
  · cases h with
    | non => cases e; exact ⟨_, .base .non, T.kNone⟩
    | bl k => cases e; exact ⟨_, .base (.bl k), T.kBool⟩
    | int k => cases e; exact ⟨_, .base (.int k), T.kInt⟩
    | str k => cases e; exact ⟨_, .base (.str k), T.kStr⟩
    | lst hs _ =>
      cases e
      refine ⟨.type "list", ?_, T.kList⟩
      rcases hs with (h | ⟨o, h⟩) | ⟨o, its, n, h1, h2, _⟩
      · exact .base (.lst h)
      · exact .base (.frz h)
      · exact .kList h1 h2
    | tup hs _ =>
      cases e
      refine ⟨.type "tuple", ?_, T.kTuple⟩
      rcases hs with (h | ⟨o, h⟩) | ⟨o, its, n, h1, h2, _⟩
      · exact .base (.tup h)
      · exact .fTuple h
      · exact .kTuple h1 h2
    | dct _ _ =>
      simp only [isiCB, if_neg ho] at e
      cases e
    | obj _ _ =>
      simp only [isiCB, if_neg ho] at e
      cases e
def isiCK (C : Nat) (m : En → Option (D × En)) : En → Option (D × En) := fun ρ => (m ρ).bind fun p => (isiCB C p.1).map fun b => (.bool b, p.2)
theorem je_isiC {C : Nat} {y : Str} {p p2 pos : Pos} {e : Expr} {me : En → Option (D × En)} (T : ClsD c y C) (hg : sc.names.lookup ("isinstance" : Str) = some .globalImplicit) (hm : c.mg ("isinstance" : Str) = none) (hgy : sc.names.lookup y = some .globalImplicit) (ha : JA c N sc e me)
    (hdb : (y == ("__debug__" : Str)) = false := by decide)
    (he : ∀ env, starEach [e, .Name y p2] env = (false, eval e env) :: starEach [.Name y p2] env := by intros; rfl) (hpl : ∀ env, (backTo pos (starEach [.Name y p2] env)).any (·.1) = false := by intros; rfl) :
    JE c N sc (.Call (.Name "isinstance" p) [e, .Name y p2] [] pos) (isiCK C me) := by
  obtain ⟨t, a1, a2⟩ := ha
  refine ⟨tCB (rIsi c.K) (tCons t (tCons (tC (.ref C)) tNil)), fun X I => ?_, fun σ H ρ B d ρ' S e Q q => ?_⟩
  · have h := pe_callB (x := "isinstance") (p := p) (pos := pos) (call_isi (X := X)) (I.gl hg) (by rw [I.mg]; exact hm) (by decide +kernel) (pa_cons (a1 X I) (pa_cons (pe_glob (pos := p2) (v := .ref C) (I.gl hgy) (by rw [I.mg]; exact T.mg) rfl hdb) pa_nil) (he _)) (by decide) (by decide) (he _) (hpl _)
    rw [I.K] at h
    exact h
  · unfold isiCK at e
    cases q1 : me ρ with
    | none => simp [q1] at e
    | some p =>
      obtain ⟨d1, ρ1⟩ := p
      cases q2 : isiCB C d1 with
      | none => simp [q1, q2] at e
      | some z =>
        simp [q1, q2] at e
        obtain ⟨rfl, rfl⟩ := e
        refine a2 σ H ρ B _ _ S q1 _ fun v H1 A1 r1 => ?_
        obtain ⟨t, h1, h2⟩ := isiC_of T r1.rp q2
        exact ⟨v, .ref C, t, .ref C, z, rfl, .own C, h1, h2, q _ H1 A1 (.bl z)⟩
/-! ### == by the class's own __eq__ -/
def OthOk (K : Frag) (C : Addr) (H : Hp) (y : V) : Prop := (∃ b dy gs, y = .ref b ∧ H b = some (.ins C dy gs)) ∨ (∃ b ys, y = .ref b ∧ SqT K H b ys) ∨ ∃ b ys, y = .ref b ∧ SqL K H b ys
def rOwnI (K : Frag) (C : Addr) (sp : Sp) : R2 := fun x y H Q => ∃ a dx fs, x = .ref a ∧ H a = some (.ins C dx fs) ∧ OthOk K C H y ∧ sp [x, y] H Q E0
theorem op_ownI {X : Cx} {C f : Addr} {fd : FuncData} {ps : List Str} {n : Nat} {sp : Sp} (F : FnOk X.prog X.w X.K X.mg X.base CX0 n f fd ps sp) (hs : PySem.W.findIn X.K (.ref C) "__eq__" = some (some (.ref f))) (hf : PySem.W.isFn X.K (.ref f) = true) (hb : Binds X.K fd ps []) (hr : Room n X.A)
    (fl : PySem.W.notFirst X.K C (.type "list") = true) (ft : PySem.W.notFirst X.K C (.type "tuple") = true) : OpR X (compareOp .Eq) (rOwnI X.K C sp) := by
  intro pins s σ H x y v u Q I rx ry h
  obtain ⟨a, dx, fs, rfl, ha, ho, q⟩ := h
  cases (show v = Value.ref a from rx)
  obtain ⟨mA, J, _⟩ := ins_get I.hok ha
  obtain ⟨od, J, _⟩ := J.look
  obtain ⟨m, hF⟩ := I.fr
  show wpAny (model X.prog X.w) X.A (richCompare .Eq (.ref a) u) (EP X pins σ Q) X.xe s
  have back : wpAny (model X.prog X.w) X.A (call (.ref f) [.ref a, u]) (PySem.W.CmpBack (EP X pins σ Q)) X.xe s := by
    refine wpAny_mono (run_fn (us := [.ref a, u]) (vs := [.ref a, y]) (ds := []) (dvs := []) F hr hb .nil pass0 I (.cons rfl (.cons ry .nil)) q) (fun w s' z => ?_) fun _ _ x => x
    obtain ⟨z', H', I', rz, qz⟩ := z
    exact SlX.cmpback rz ⟨z', H', I', rz, qz⟩
  rcases ho with ⟨b, dy, gs, rfl, hb'⟩ | ⟨b, ys, rfl, hb'⟩ | ⟨b, ys, rfl, hb'⟩
  · cases (show u = Value.ref b from ry)
    obtain ⟨mB, J', _⟩ := ins_get I.hok hb'
    obtain ⟨od', J', _⟩ := J'.look
    exact PySem.W.cmp_K (op := .Eq) (tb := .ref C) hr.units0 hF I.ok.mod.kin J J'.type (by simp [PySem.W.notFirst]) hs hf back
  · cases (show u = Value.ref b from ry)
    obtain ⟨its, r, pl, z1⟩ := I.tuple hb'
    obtain ⟨o, h1, h2, _⟩ := pl
    exact PySem.W.cmp_K (op := .Eq) (tb := .type "tuple") hr.units0 hF I.ok.mod.kin J (h2 ▸ (PySem.W.Looks.ld h1).andThen .now) ft hs hf back
  · cases (show u = Value.ref b from ry)
    obtain ⟨its, r, pl, z1⟩ := I.list hb'
    obtain ⟨o, h1, h2, _⟩ := pl.isList
    exact PySem.W.cmp_K (op := .Eq) (tb := .type "list") hr.units0 hF I.ok.mod.kin J (h2 ▸ (PySem.W.Looks.ld h1).andThen .now) fl hs hf back
/-- the class's __eq__ as its data say -/
def EqD (c : C0) (k C : Nat) (fm : Fm) : Prop :=
  ∃ (f : Addr) (fd : FuncData) (ps : List Str), FnOk c.P c.w c.K c.mg c.base CX0 k f fd ps (spD c.K fm) ∧ PySem.W.findIn c.K (.ref C) "__eq__" = some (some (.ref f)) ∧ PySem.W.isFn c.K (.ref f) = true ∧ Binds c.K fd ps []
def isSq : D → Bool
  | .list _ => true
  | .tuple _ => true
  | _ => false
def dEqI (C : Nat) (fm : Fm) (d e : D) : Option D := if isOb C d = true ∧ (isOb C e = true ∨ isSq e = true) then (fm [.val d, .val e]).bind fun r => match r.1 with
  | .bool b => some (.bool b)
  | _ => none else none
theorem o_eqI {C j : Nat} {x : Str} {fm : Fm} (T : ClsD c x C) (F : EqD c j C fm) (hk : j ≤ c.k) : OpD c.K (In c N sc) (compareOp .Eq) (dEqI C fm) := by
  obtain ⟨f, fd, ps, F, h1, h2, h3⟩ := F
  refine ⟨rOwnI c.K C (spD c.K fm), fun X I => ?_, fun B H x y d e z bk hx hy hz Q q => ?_⟩
  · obtain ⟨a1, a2, a3, a4, a5, a6, a7, a8, a9, a10, a11⟩ := id I
    have F' : FnOk X.prog X.w X.K X.mg X.base CX0 j f fd ps (spD c.K fm) := by
      rw [a1, a2, a3, a4, a5]
      exact F
    have h := op_ownI F' (by rw [a3]; exact h1) (by rw [a3]; exact h2) (by rw [a3]; exact h3) (a6.mono hk) (by rw [a3]; exact T.fList) (by rw [a3]; exact T.fTuple)
    rw [a3] at h
    exact h
  · unfold dEqI at hz
    split at hz
    · rename_i hc
      cases q1 : fm [.val d, .val e] with
      | none => simp [q1] at hz
      | some r =>
        obtain ⟨rr, r2⟩ := r
        simp only [q1, Option.bind_some] at hz
        cases rr with
        | bool b =>
          cases hz
          obtain ⟨fs, rfl⟩ := isOb_oD hc.1
          have hx' : Rp c.K (hide B H) x (oD C fs) := by
            cases hx with
            | vis h => exact h
            | dct h r => exact (r.noNone _ _ rfl).elim
          obtain ⟨a, dx, gs, rfl, g1, g2⟩ := hx'.oD
          have oth : OthOk c.K C H y := by
            rcases hc.2 with h | h
            · obtain ⟨fs', rfl⟩ := isOb_oD h
              obtain ⟨b', dy, gs', rfl, k1, k2⟩ := hy.rp.oD
              exact .inl ⟨b', dy, gs', rfl, k1⟩
            · cases e with
              | list es =>
                obtain ⟨b', ys, rfl, k1, k2⟩ := hy.list
                exact .inr (.inr ⟨b', ys, rfl, k1⟩)
              | tuple es =>
                obtain ⟨b', ys, rfl, k1, k2⟩ := hy.tuple
                exact .inr (.inl ⟨b', ys, rfl, k1⟩)
              | _ => cases h
          refine ⟨a, dx, gs, rfl, (hide_some g1).2, oth, ?_⟩
          have fin : ∀ B' : Addr → Bool, (∀ a, B' a = true → ∃ o, H a = some o) → Rp c.K (hide B' H) (.ref a) (oD C fs) → Rp c.K (hide B' H) y e → spD c.K fm [.ref a, y] H Q E0 := fun B' bk' hx' hy' => by
            refine ⟨B', [.val (oD C fs), .val e], .bool b, r2, q1, ⟨rfl, fun i d h => ?_, fun i s h m => ?_, fun i j s t l e1 m1 e2 m2 e3 e4 => ?_, bk'⟩, fun v H' A r => ?_⟩
            · rcases i with _ | _ | i
              · cases h; exact ⟨_, rfl, hx'⟩
              · cases h; exact ⟨_, rfl, hy'⟩
              · simp at h
            · rcases i with _ | _ | i
              · cases h; cases m
              · cases h; cases m
              · simp at h
            · rcases i with _ | _ | i
              · cases e1; cases m1
              · cases e1; cases m1
              · simp at e1
            · cases r.booli
              refine q _ H' (fun a o h => A.keep a o h fun m => ?_) (.bl b)
              obtain ⟨i, s, e1, m1, _⟩ := m
              rcases i with _ | _ | i
              · cases e1; cases m1
              · cases e1; cases m1
              · simp at e1
          cases hy with
          | vis h => exact fin B bk hx' h
          | @lst l xs ds h r =>
            have sb : Sub (hide B H) (hide (fun a => B a && !decide (a = l)) H) := fun b o e => by
              obtain ⟨e1, e2⟩ := hide_some e
              exact hide_of (by simp [e1]) e2
            refine fin (fun a => B a && !decide (a = l)) (fun a h => bk a (by simp at h; exact h.1)) (hx'.mono sb) ?_
            refine .lst ?_ (r.mono sb)
            rcases h with (h | ⟨o, h⟩) | h
            · exact .inl (.inl (hide_of (by simp) h))
            · exact .inl (.inr ⟨o, hide_of (by simp) h⟩)
            · exact .inr h
          | @dct l kvs ds h r =>
            rcases hc.2 with z | z
            · obtain ⟨fs', e'⟩ := isOb_oD z
              exact (r.noNone _ _ (PyData.dict.inj e')).elim
            · cases z
        | _ => cases hz
    · cases hz
/-! ### methods -/
def MeS (c : C0) (k C : Nat) (m : Str) (fm : Fm) : Prop :=
  ∃ (f : Addr) (fd : FuncData) (ps : List Str), FnOk c.P c.w c.K c.mg c.base CX0 k f fd ps (spD c.K fm) ∧ Meth c.K C m f ∧ Binds c.K fd ps []
def noF (C : Nat) (m : Str) : D → Bool
  | .dict ((.none, .int k) :: fs) => decide (k = Int.ofNat C) && (lookF m fs).isNone
  | _ => false
def methK (C : Nat) (m : Str) (fm : Fm) (me : En → Option (D × En)) (mr : En → Option (List Ar × En)) : En → Option (D × En) := fun ρ => (me ρ).bind fun p => if noF C m p.1 = true then callK fm (gval (kC p.1) mr) p.2 else none
theorem noF_of {C : Nat} {m : Str} {d : D} (h : noF C m d = true) : ∃ fs, d = oD C fs ∧ lookF m fs = none := by
  unfold noF at h
  split at h
  · rename_i k fs
    rw [Bool.and_eq_true] at h
    refine ⟨fs, ?_, Option.isNone_iff_eq_none.mp h.2⟩
    unfold oD
    rw [of_decide_eq_true h.1]
  · cases h
theorem sd_meth {K : Frag} {C : Nat} {m : Str} {fm : Fm} {me : En → Option (D × En)} {mr : En → Option (List Ar × En)} {ta : TE} {t : TA} {E : XK} (h : Sd K ta me) (hr : SG K t mr) : Sd K (tMeth C m (spD K fm) [] E ta t) (methK C m fm me mr) := fun σ H ρ B d ρ' S e Q q => by
  unfold methK at e
  cases q1 : me ρ with
  | none => simp [q1] at e
  | some p =>
    obtain ⟨d1, ρ1⟩ := p
    simp only [q1, Option.bind_some] at e
    split at e
    · rename_i ho
      refine h σ H ρ B _ _ S q1 _ fun v H1 A1 r1 => ?_
      obtain ⟨fs, hd, hl⟩ := noF_of ho
      have r1' := r1
      rw [hd] at r1'
      obtain ⟨a, dx, gs, rfl, g1, g2⟩ := Rp.oD r1'
      refine ⟨a, dx, gs, rfl, (hide_some g1).2, g2.lookN hl, ?_⟩
      clear r1' ho hd
      unfold callK at e
      cases q2 : mr ρ1 with
      | none => simp [gval, kC, q2] at e
      | some p2 =>
        obtain ⟨ars, ρ2⟩ := p2
        have eg : gval (kC d1) mr ρ1 = some (.v d1 :: ars, ρ2) := by
          unfold gval kC
          simp [q2]
        rw [eg] at e
        simp only [Option.bind_some] at e
        split at e
        · rename_i hl1
          cases q3 : toSls ρ2 (.v d1 :: ars) with
          | none => simp [q3] at e
          | some ss =>
            cases q4 : fm ss with
            | none => simp [q3, q4] at e
            | some r =>
              obtain ⟨z, ss'⟩ := r
              simp [q3, q4] at e
              obtain ⟨rfl, rfl⟩ := e
              refine hr σ H1 ρ1 B _ _ A1.sr q2 _ fun vs H2 A2 hav => ?_
              show spD K fm (.ref a :: (vs ++ [])) H2 Q E
              rw [List.append_nil]
              have hav' : ArsOk K B σ H2 ρ2 (.ref a :: vs) (.v d1 :: ars) := ⟨Rp.mono (A2.sub A1.sr) r1, hav⟩
              refine ⟨B, ss, z, ss', q4, (call_sr A2.sr hav' hl1 q3).1, fun v H3 A3 r3 => ?_⟩
              exact q v H3 ((A1.trans A2).trans (call_back A2.sr hav' hl1 q3 A3)) r3
        · cases e
    · cases e
theorem je_meth0 {C j : Nat} {m : Str} {fm : Fm} {x : Str} {o : Expr} {apos pos : Pos} {me : En → Option (D × En)} {pl : Env → Sem Bool} (T : ClsD c x C) (M : MeS c j C m fm) (hk : j ≤ c.k) (h : JE c N sc o me)
    (ht : ∀ env, eval (.Call (.Attribute o m apos) [] [] pos) env = (do
      let ov ← eval o env
      standAt apos.atName
      let (f, first) ← holding [ov] (getMethod ov m (pl env))
      callWith pos f first (backTo pos (starEach [] env)) (backToKw pos (keywordEach [] env))) := by intros; rfl) : JE c N sc (.Call (.Attribute o m apos) [] [] pos) (methK C m fm me gnil) := by
  obtain ⟨f, fd, ps, F, h1, h2⟩ := M
  obtain ⟨t, p1, s1⟩ := h
  refine ⟨tMeth C m (spD c.K fm) [] E0 t tNil, fun X I => ?_, sd_meth s1 (fun σ H ρ B ds ρ' S e Q q => by
    cases e
    exact q [] H (Af.refl S) trivial)⟩
  obtain ⟨a1, a2, a3, a4, a5, a6, a7, a8, a9, a10, a11⟩ := id I
  have F' : FnOk X.prog X.w X.K X.mg X.base CX0 j f fd ps (spD c.K fm) := by
    rw [a1, a2, a3, a4, a5]
    exact F
  exact pe_meth0 (p1 X I) (by rw [a3]; exact T.cl) (by rw [a3]; exact h1) F' (a6.mono hk) (by rw [a3]; exact h2) .nil pass0 (ht _)
end Dz

/-! Dz. P: constructors with defaults and keywords; a new list lent to a def. -/
namespace Dz
open PySem L2
variable {c : C0} {N : List Str} {sc : Scope}
theorem init_okD {x qual : Str} {st : Stmt} {dvs : List V} {kws : List (Str × V)} {f : Addr} {fd : FuncData} {ps : List Str} {k C : Nat} {m : Im} (F : FunD c.K x qual (defArgs st) (defBody st) (defScope st) dvs kws f fd) (S : FnScope N ps (defScope st)) (h : JIn { c with k := k, top := true } N (defScope st) C (defBody st) m) :
    FnOk c.P c.w c.K c.mg c.base CX0 (k + 1) f fd ps (fun vs H Q E => vs.length = ps.length ∧ spI c.K C N.length m vs H Q E) := by
  refine F.ok S (fun vs H Q E h => h.1) (fun cdv A outer s H vs Q E hr h' => ?_)
  obtain ⟨hl, x, dx, us, ds, fs, ρ', B, rfl, h1, h2, h3, h4, h5, h6, h7⟩ := h'
  obtain ⟨t, t1, t2⟩ := h
  have q : PSs (cxOf CX0 c.P c.w c.K c.mg c.base N qual (defScope st) f cdv A outer s H E).nox (defBody st) t := t1 _ ⟨rfl, rfl, rfl, rfl, rfl, hr, rfl, rfl, rfl, fun _ => rfl, PassesOwn.never⟩
  refine ⟨t, q.nox, ?_⟩
  obtain ⟨s1, s2⟩ := init_sr (x := x) h4 h3 h5
  have es : L2.start N (.ref x :: us) = (V.ref x :: us).map some ++ List.replicate (N.length - (us.length + 1)) none := by
    unfold L2.start
    rfl
  rw [es]
  exact t2 _ H _ B x dx [] [] _ _ s1 s2 rfl h2 h1 .nil h6 _ fun H' gs' _ hx hf kp => h7 H' gs' hx hf kp
/-- all parameters are given, the last ones by keyword, in the parameters' order -/
theorem kb_full {K : Frag} {x qual : Str} {params : Arguments} {body : List Stmt} {scope : Scope} {dvs : List V} {kws : List (Str × V)} {f : Addr} {fd : FuncData} {ps : List Str} (F : FunD K x qual params body scope dvs kws f fd) (n : Nat) (ks : List Str) (hd : dvs ≠ [])
    (h : ∀ (T : Addr) (kV doc pm : Value) (an : Option Addr) (cdv ct : Value) (us its ws : List Value), us.length = n → its.length = dvs.length → ws.length = ks.length →
      ∃ k, bindArgs (PySem.W.fnOf x qual params body scope (.ref T) kV doc pm an cdv ct) ⟨us, ks.zip ws⟩ = seqItems? (.ref T) >>= k ∧ k (some its.toArray) = pure (ps.zip (us ++ ws))) : KBn K fd ps n ks (fun us ws => us ++ ws) (fun vs zs => vs ++ zs) := by
  obtain ⟨oc, od, dV, kV, doc, pm, an, cdv, ct, osl, rfl, lk, hcd, hD, hK⟩ := F.ex
  rcases hD with ⟨e, _⟩ | ⟨_, T, o, its, m, rfl, lT, oT, rT⟩
  · exact absurd e hd
  · refine ⟨fun s us ws X l1 l2 => ?_, fun r1 r2 => r1.append r2⟩
    obtain ⟨k, e1, e2⟩ := h T kV doc pm an cdv ct us its ws l1 rT.length.symm l2
    refine BindsTo.of_looks fun M => ?_
    rw [e1]
    exact looks_items X lT oT (.of_pure e2)
/-- values given by keyword -/
def JKw (c : C0) (N : List Str) (sc : Scope) (es : List Keyword) (m : En → Option (List D × En)) : Prop := ∃ t, (∀ X, In c N sc X → PK X es t) ∧ SA c.K t m
theorem jkw_nil : JKw c N sc [] nilK := ⟨_, fun _ _ => pk_nil, fun σ H ρ B ds ρ' S e Q q => by
  cases e
  exact q [] H (Af.refl S) .nil⟩
theorem sa_cons {K : Frag} {te : TE} {t : TA} {ma : En → Option (D × En)} {mr : En → Option (List D × En)} (h : Sd K te ma) (hr : SA K t mr) : SA K (tCons te t) (consK ma mr) := fun σ H ρ B ds ρ' S e Q q => by
  unfold consK at e
  cases q1 : ma ρ with
  | none => simp [q1] at e
  | some p =>
    obtain ⟨d, ρ1⟩ := p
    cases q2 : mr ρ1 with
    | none => simp [q1, q2] at e
    | some p2 =>
      obtain ⟨ds2, ρ2⟩ := p2
      simp [q1, q2] at e
      obtain ⟨rfl, rfl⟩ := e
      refine h σ H ρ B _ _ S q1 _ fun v H1 A1 r1 => ?_
      refine hr σ H1 ρ1 B _ _ A1.sr q2 _ fun vs H2 A2 r2 => ?_
      exact q (v :: vs) H2 (A1.trans A2) (.cons (r1.mono (A2.sub A1.sr)) r2)
theorem jkw_cons {nm : Option Str} {e : Expr} {kpos : Pos} {kws : List Keyword} {ma : En → Option (D × En)} {mr : En → Option (List D × En)} (h : JE c N sc e ma) (k : JKw c N sc kws mr) : JKw c N sc (⟨nm, e, kpos⟩ :: kws) (consK ma mr) := by
  obtain ⟨t, h1, h2⟩ := h
  obtain ⟨u, k1, k2⟩ := k
  exact ⟨tCons t u, fun X I => pk_cons (h1 X I) (k1 X I), sa_cons h2 k2⟩
/-- two rows of values, one behind the other -/
def catK (ma mb : En → Option (List D × En)) : En → Option (List D × En) := fun ρ => (ma ρ).bind fun p => (mb p.2).map fun q => (p.1 ++ q.1, q.2)
def tCat (p kl : Nat) (t u : TA) : TA := fun σ H Q => t σ H fun vs H1 => u σ H1 fun ws H2 => vs.length = p ∧ ws.length = kl ∧ Q (vs ++ ws) H2
theorem sa_cat {K : Frag} {p kl : Nat} {t u : TA} {ma mb : En → Option (List D × En)} (h : SA K t ma) (k : SA K u mb) (lp : ∀ ρ z, ma ρ = some z → z.1.length = p) (lk : ∀ ρ z, mb ρ = some z → z.1.length = kl) : SA K (tCat p kl t u) (catK ma mb) := fun σ H ρ B ds ρ' S e Q q => by
  unfold catK at e
  cases q1 : ma ρ with
  | none => simp [q1] at e
  | some p =>
    obtain ⟨d, ρ1⟩ := p
    cases q2 : mb ρ1 with
    | none => simp [q1, q2] at e
    | some p2 =>
      obtain ⟨ds2, ρ2⟩ := p2
      simp [q1, q2] at e
      obtain ⟨rfl, rfl⟩ := e
      refine h σ H ρ B _ _ S q1 _ fun v H1 A1 r1 => ?_
      refine k σ H1 ρ1 B _ _ A1.sr q2 _ fun vs H2 A2 r2 => ?_
      exact ⟨by rw [r1.length]; exact lp _ _ q1, by rw [r2.length]; exact lk _ _ q2, q (v ++ vs) H2 (A1.trans A2) ((RpL.mono (A2.sub A1.sr) r1).append r2)⟩
/-- C(e, .., k = v, ..): n values, then the keywords ks -/
def MkN (c : C0) (k : Nat) (x : Str) (C n p : Nat) (ks : List Str) (m : Im) : Prop :=
  ∃ (f : Addr) (fd : FuncData) (ps : List Str), Mk c.K C f ∧ FnOk c.P c.w c.K c.mg c.base CX0 k f fd ps (fun vs H Q E => vs.length = ps.length ∧ spI c.K C n m vs H Q E) ∧ c.mg x = some (.ref C) ∧ KBn c.K fd ps (p + 1) ks (fun us ws => us ++ ws) (fun vs zs => vs ++ zs) ∧ ps.length = p + ks.length + 1 ∧ ps.length ≤ n
theorem sd_mkN {K : Frag} {C n p kl np : Nat} {m : Im} {t tk : TA} {ma mk : En → Option (List D × En)} {E : XK} (h : SA K t ma) (hk : SA K tk mk) (lp : ∀ ρ z, ma ρ = some z → z.1.length = p) (lk : ∀ ρ z, mk ρ = some z → z.1.length = kl) (hp : np = p + kl + 1) (hn : np ≤ n) :
    Sd K (tMakeN C p kl (fun vs H Q E => vs.length = np ∧ spI K C n m vs H Q E) (fun vs zs => vs ++ zs) E t tk) (mkK C n (p + kl) [] m (catK ma mk)) := fun σ H ρ B d ρ' S e Q q => by
  have h0 := sd_mk (np := np) (n := n) (p := p + kl) (ds := []) (dvs := []) (C := C) (m := m) (E := E) (sa_cat h hk lp lk) (fun _ => .nil) (by simp; omega) hn σ H ρ B d ρ' S e Q q
  unfold tMake tCat at h0
  simp only [List.append_nil] at h0
  exact h0
theorem len_nil : ∀ (ρ : En) z, nilK ρ = some z → z.1.length = 0 := fun ρ z e => by
  cases e
  rfl
theorem len_cons {p : Nat} {ma : En → Option (D × En)} {mr : En → Option (List D × En)} (h : ∀ (ρ : En) z, mr ρ = some z → z.1.length = p) : ∀ (ρ : En) z, consK ma mr ρ = some z → z.1.length = p + 1 := fun ρ z e => by
  unfold consK at e
  cases q1 : ma ρ with
  | none => simp [q1] at e
  | some w =>
    cases q2 : mr w.2 with
    | none => simp [q1, q2] at e
    | some u =>
      simp [q1, q2] at e
      rw [← e]
      simp [h _ _ q2]
theorem je_mkN {C n p j : Nat} {m : Im} {x : Str} {ks : List Str} {e : Expr} {es : List Expr} {kws : List Keyword} {q pos : Pos} {ma mk : En → Option (List D × En)} (M : MkN c j x C n p ks m) (hk : j + 1 ≤ c.k) (hg : sc.names.lookup x = some .globalImplicit) (ha : JL c N sc (e :: es) ma) (hw : JKw c N sc kws mk)
    (lp : ∀ (ρ : En) z, ma ρ = some z → z.1.length = p) (lk : ∀ (ρ : En) z, mk ρ = some z → z.1.length = ks.length)
    (hall : ∀ env, (backToKw pos (keywordEach kws env)).all (·.1.isSome) = true := by intros; rfl) (hks : ∀ env, (backToKw pos (keywordEach kws env)).filterMap (·.1) = ks := by intros; rfl)
    (hdb : (x == ("__debug__" : Str)) = false := by decide) (he : ∀ env, starEach (e :: es) env = (false, eval e env) :: starEach es env := by intros; rfl)
    (hpl : ∀ env, ((backTo pos (starEach (e :: es) env)).any (·.1) || (backToKw pos (keywordEach kws env)).any (·.1.isNone)) = false := by intros; rfl) :
    JE c N sc (.Call (.Name x q) (e :: es) kws pos) (mkK C n (p + ks.length) [] m (catK ma mk)) := by
  obtain ⟨f, fd, ps, M, F, hm, hb, hp, hn⟩ := M
  obtain ⟨t, p1, s1⟩ := ha
  obtain ⟨u, p2, s2⟩ := hw
  refine ⟨tMakeN C p ks.length (fun vs H Q E => vs.length = ps.length ∧ spI c.K C n m vs H Q E) (fun vs zs => vs ++ zs) E0 t u, fun X I => ?_, sd_mkN s1 s2 lp lk hp hn⟩
  obtain ⟨a1, a2, a3, a4, a5, a6, a7, a8, a9, a10, a11⟩ := id I
  have F' : FnOk X.prog X.w X.K X.mg X.base CX0 j f fd ps (fun vs H Q E => vs.length = ps.length ∧ spI c.K C n m vs H Q E) := by
    rw [a1, a2, a3, a4, a5]
    exact F
  exact pe_makeN (by rw [a3]; exact M) F' (a6.mono hk) (I.gl hg) (by rw [a4]; exact hm) (by rw [a3]; exact hb) pass0 (p1 X I) (p2 X I) (hall _) (hks _) hdb (he _) (hpl _)
/-! ### f(e, .., a new list): the new list is lent -/
def SLF (K : Frag) (t : TA) (m : En → Option ((List D × D) × En)) : Prop :=
  ∀ σ H ρ B ds df ρ', SR K B σ H ρ → m ρ = some ((ds, df), ρ') → ∀ Q : List V → Hp → Prop, (∀ vs l H', Af K B σ H ρ H' ρ' → SR K (ins l B) σ H' ρ' → H l = none → RpL K (hide (ins l B) H') vs ds → OwnAt K (hide (ins l B) H') (H' l) df → Q (vs ++ [.ref l]) H') → t σ H Q
def JLF (c : C0) (N : List Str) (sc : Scope) (es : List Expr) (m : En → Option ((List D × D) × En)) : Prop := ∃ t, (∀ X, In c N sc X → PA X es t) ∧ SLF c.K t m
def oneF (m : En → Option (D × En)) : En → Option ((List D × D) × En) := fun ρ => (m ρ).map fun p => (([], p.1), p.2)
def consF (me : En → Option (D × En)) (mr : En → Option ((List D × D) × En)) : En → Option ((List D × D) × En) := fun ρ => (me ρ).bind fun p => (mr p.2).map fun q => ((p.1 :: q.1.1, q.1.2), q.2)
theorem jlf_one {e : Expr} {m : En → Option (D × En)} (h : JF c N sc e m) (hs : ∀ env, starEach [e] env = (false, eval e env) :: starEach [] env := by intros; rfl) : JLF c N sc [e] (oneF m) := by
  obtain ⟨t, h1, h2⟩ := h
  refine ⟨tCons t tNil, fun X I => pa_cons (h1 X I) pa_nil (hs _), fun σ H ρ B ds df ρ' S e Q q => ?_⟩
  unfold oneF at e
  cases q1 : m ρ with
  | none => simp [q1] at e
  | some p =>
    obtain ⟨d, ρ1⟩ := p
    simp [q1] at e
    obtain ⟨⟨rfl, rfl⟩, rfl⟩ := e
    exact h2 σ H ρ B _ _ S q1 _ fun l H1 A s1 hl ho => q [] l H1 A s1 hl .nil ho
theorem jlf_cons {e : Expr} {es : List Expr} {me : En → Option (D × En)} {mr : En → Option ((List D × D) × En)} (h : JE c N sc e me) (k : JLF c N sc es mr) (hs : ∀ env, starEach (e :: es) env = (false, eval e env) :: starEach es env := by intros; rfl) : JLF c N sc (e :: es) (consF me mr) := by
  obtain ⟨t, h1, h2⟩ := h
  obtain ⟨u, k1, k2⟩ := k
  refine ⟨tCons t u, fun X I => pa_cons (h1 X I) (k1 X I) (hs _), fun σ H ρ B ds df ρ' S e Q q => ?_⟩
  unfold consF at e
  cases q1 : me ρ with
  | none => simp [q1] at e
  | some p =>
    obtain ⟨d, ρ1⟩ := p
    cases q2 : mr ρ1 with
    | none => simp [q1, q2] at e
    | some p2 =>
      obtain ⟨⟨ds2, df2⟩, ρ2⟩ := p2
      simp [q1, q2] at e
      obtain ⟨⟨rfl, rfl⟩, rfl⟩ := e
      refine h2 σ H ρ B _ _ S q1 _ fun v H1 A1 r1 => ?_
      refine k2 σ H1 ρ1 B _ _ _ A1.sr q2 _ fun vs l H2 A2 s2 hl r2 ho => ?_
      have hl0 : H l = none := by
        cases z0 : H l with
        | none => rfl
        | some o =>
          obtain ⟨o1, z1⟩ := A1.grow l o z0
          rw [hl] at z1
          cases z1
      exact q (v :: vs) l H2 (A1.trans A2) s2 hl0 (.cons (r1.mono (sub_ins hl (A2.sub A1.sr))) r2) ho
def callFK (fm : Fm) (m : En → Option ((List D × D) × En)) : En → Option (D × En) := fun ρ => (m ρ).bind fun p => (fm (p.1.1.map Sl.val ++ [.bor p.1.2])).map fun r => (r.1, p.2)
theorem sd_callF {K : Frag} {fm : Fm} {t : TA} {m : En → Option ((List D × D) × En)} {E : XK} (h : SLF K t m) : Sd K (tCall (spD K fm) [] E t) (callFK fm m) := fun σ H ρ B d ρ' S e Q q => by
  unfold callFK at e
  cases q1 : m ρ with
  | none => simp [q1] at e
  | some p =>
    obtain ⟨⟨ds, df⟩, ρ1⟩ := p
    simp only [q1, Option.bind_some] at e
    cases q2 : fm (ds.map Sl.val ++ [.bor df]) with
    | none => simp [q2] at e
    | some r =>
      obtain ⟨z, as'⟩ := r
      simp [q2] at e
      obtain ⟨rfl, rfl⟩ := e
      refine h σ H ρ B _ _ _ S q1 _ fun vs l H1 A s1 hl r1 ho => ?_
      show spD K fm ((vs ++ [.ref l]) ++ []) H1 Q E
      rw [List.append_nil]
      have rl := r1.length
      have key : ∀ (i : Nat) (s : Sl), ((ds.map Sl.val ++ [Sl.bor df]).map some)[i]? = some (some s) → (i < ds.length ∧ ∃ d v, s = .val d ∧ ((vs ++ [V.ref l]).map some)[i]? = some (some v) ∧ Rp K (hide (ins l B) H1) v d) ∨ (i = ds.length ∧ s = .bor df ∧ ((vs ++ [V.ref l]).map some)[i]? = some (some (.ref l))) := by
        intro i s e
        rw [List.getElem?_map] at e
        rcases Nat.lt_trichotomy i ds.length with hi | hi | hi
        · rw [List.getElem?_append_left (by simpa using hi), List.getElem?_map, List.getElem?_eq_getElem hi] at e
          simp at e
          obtain ⟨v, h1, h2⟩ := r1.get' (List.getElem?_eq_getElem hi)
          refine .inl ⟨hi, _, v, e.symm, ?_, h2⟩
          rw [List.getElem?_map, List.getElem?_append_left (by rw [rl]; exact hi), h1]
          rfl
        · subst hi
          rw [List.getElem?_append_right (by simp)] at e
          simp at e
          refine .inr ⟨rfl, e.symm, ?_⟩
          rw [List.getElem?_map, List.getElem?_append_right (by omega)]
          simp [rl]
        · rw [List.getElem?_append_right (by simp; omega)] at e
          have : (List.map Sl.val ds).length < i := by simpa using hi
          rw [List.getElem?_eq_none (by simp; omega)] at e
          cases e
      refine ⟨ins l B, ds.map Sl.val ++ [.bor df], z, as', q2, ⟨by simp [rl], fun i d e => ?_, fun i s e mu => ?_, fun i j s t l' e1 m1 e2 m2 e3 e4 => ?_, s1.bk⟩, fun v H2 A2 r2 => ?_⟩
      · rcases key i _ e with ⟨_, d', v, e1, e2, e3⟩ | ⟨_, e1, _⟩
        · cases e1
          exact ⟨v, e2, e3⟩
        · cases e1
      · rcases key i _ e with ⟨_, d', v, e1, e2, e3⟩ | ⟨_, e1, e2⟩
        · subst e1
          cases mu
        · subst e1
          exact ⟨l, e2, by unfold Dz.ins; simp, ho⟩
      · rcases key i _ e1 with ⟨_, d', v, k1, _⟩ | ⟨k1, _, _⟩
        · subst k1
          cases m1
        · rcases key j _ e2 with ⟨_, d', v, k2, _⟩ | ⟨k2, _, _⟩
          · subst k2
            cases m2
          · rw [k1, k2]
      · have nl : ∀ b o, H b = some o → b ≠ l := fun b o e => ne_of_none e hl
        have nm : ∀ b, Mine ((vs ++ [V.ref l]).map some) ((ds.map Sl.val ++ [Sl.bor df]).map some) b → b = l := fun b ⟨i, s, e1, m1, e2⟩ => by
          rcases key i _ e1 with ⟨_, d', v, k1, _⟩ | ⟨_, _, k2⟩
          · subst k1
            cases m1
          · rw [k2] at e2
            cases e2
            rfl
        have sub2 : ∀ b o, H1 b = some o → b ≠ l → H2 b = some o := fun b o e n => A2.keep b o e fun m => n (nm b m)
        have ml : ∀ b, Mine σ ρ1 b → b ≠ l := fun b m e => by
          subst e
          have := S.mine (A.kin.mine.mp m)
          rw [S.fresh hl] at this
          cases this
        have hh : Sub (hide B H1) (hide B H2) ∨ True := .inr trivial
        have sb : Sub (hide (ins l B) H1) (hide B H2) := fun b o e => by
          obtain ⟨e1, e2⟩ := hide_some e
          unfold Dz.ins at e1
          simp at e1
          exact hide_of e1.2 (sub2 b o e2 e1.1)
        have sr2 : SR K B σ H2 ρ1 := by
          refine ⟨s1.len, fun i d e => ?_, fun i s e mu => ?_, s1.inj, fun a e => ?_⟩
          · obtain ⟨v, g1, g2⟩ := s1.val i d e
            exact ⟨v, g1, g2.mono sb⟩
          · obtain ⟨l', g1, g2, g3⟩ := A.sr.mu_ i s e mu
            obtain ⟨l'', k1, k2, k3⟩ := s1.mu_ i s e mu
            rw [g1] at k1
            cases k1
            refine ⟨l', g1, g2, ?_⟩
            obtain ⟨u, w⟩ := k3.ne
            have n' : l' ≠ l := ml l' ⟨i, s, e, mu, g1⟩
            rw [sub2 l' u w n']
            rw [w] at k3
            exact k3.mono sb
          · obtain ⟨o, w⟩ := A.sr.bk a e
            by_cases y : a = l
            · subst y
              rw [S.fresh hl] at e
              cases e
            · exact ⟨o, sub2 a o w y⟩
        refine q v H2 ⟨sr2, fun b o e n => sub2 b o (A.keep b o e n) (nl b o e), fun b o e => ?_, A.kin⟩ (r2.mono ins_sub)
        obtain ⟨o1, w1⟩ := A.grow b o e
        exact A2.grow b o1 w1
theorem je_callF {fm : Fm} {x : Str} {ps : List Str} {k : Nat} {e : Expr} {es : List Expr} {p pos : Pos} {m : En → Option ((List D × D) × En)} (F : FnD c k x ps fm) (hk : k ≤ c.k) (hg : sc.names.lookup x = some .globalImplicit) (ha : JLF c N sc (e :: es) m)
    (hdb : (x == ("__debug__" : Str)) = false := by decide) (he : ∀ env, starEach (e :: es) env = (false, eval e env) :: starEach es env := by intros; rfl) (hpl : ∀ env, (backTo pos (starEach es env)).any (·.1) = false := by intros; rfl) :
    JE c N sc (.Call (.Name x p) (e :: es) [] pos) (callFK fm m) := by
  obtain ⟨f, fd, F, h1, h2, h3⟩ := F
  obtain ⟨t, p1, s1⟩ := ha
  refine ⟨tCall (spD c.K fm) [] E0 t, fun X I => ?_, sd_callF s1⟩
  obtain ⟨a1, a2, a3, a4, a5, a6, a7, a8, a9, a10, a11⟩ := id I
  have F' : FnOk X.prog X.w X.K X.mg X.base CX0 k f fd ps (spD c.K fm) := by
    rw [a1, a2, a3, a4, a5]
    exact F
  exact pe_call F' (a6.mono hk) (I.gl hg) (by rw [a4]; exact h1) (by rw [a3]; exact h2) (by rw [a3]; exact h3) .nil pass0 (p1 X I) hdb (he _) (hpl _)
end Dz

/-! Dz. Q: classes of the text as they stand behind the top. -/
namespace Dz
open PySem L2
theorem ClsD.to {c c' : C0} {x : Str} {C : Nat} (T : ClsD c x C) (h1 : c'.K = c.K := by rfl) (h2 : c'.mg = c.mg := by rfl) : ClsD c' x C := by
  obtain ⟨a1, a2, a3, a4, a5, a6, a7, a8, a9, a10, a11, a12, a13, a14, a15⟩ := T
  exact ⟨by rw [h2]; exact a1, by rw [h1]; exact a2, by rw [h1]; exact a3, by rw [h1]; exact a4, by rw [h1]; exact a5, by rw [h1]; exact a6, by rw [h1]; exact a7, by rw [h1]; exact a8, by rw [h1]; exact a9, by rw [h1]; exact a10, by rw [h1]; exact a11, by rw [h1]; exact a12, by rw [h1]; exact a13, by rw [h1]; exact a14, by rw [h1]; exact a15⟩
/-- __init__ without defaults -/
def MkAt (c : C0) (q x : Str) (C : Nat) (st : Stmt) (ps : List Str) : Prop := ∃ f fd, Fun c.K "__init__" q st f fd ∧ Mk c.K C f ∧ Binds c.K fd ps []
theorem MkAt.mk {c : C0} {q x : Str} {C k p : Nat} {st : Stmt} {N ps : List Str} {m : Im} (A : MkAt c q x C st ps) (T : ClsD c x C) (S : FnScope N ps (defScope st)) (h : JIn { c with k := k, top := true } N (defScope st) C (defBody st) m) (hp : ps.length = p + 1 := by rfl) (hn : ps.length ≤ N.length := by decide) : MkD c (k + 1) x C N.length p [] m := by
  obtain ⟨f, fd, F, M, b⟩ := A
  exact ⟨f, fd, ps, [], [], M, init_ok F S h, T.mg, b, .nil, fun _ => .nil, by simpa using hp, hn⟩
/-- .. with defaults: dvs; the last parameters also by keyword ks -/
def MkAtD (c : C0) (q x : Str) (C : Nat) (st : Stmt) (ps : List Str) (dvs : List V) (ks : List Str) (n : Nat) : Prop := ∃ f fd kws, FunD c.K "__init__" q (defArgs st) (defBody st) (defScope st) dvs kws f fd ∧ Mk c.K C f ∧ Binds c.K fd ps [] ∧ (∃ ds, Vals dvs ds ∧ Binds c.K fd ps ds) ∧ KBn c.K fd ps n ks (fun us ws => us ++ ws) (fun vs zs => vs ++ zs)
section
variable {c : C0} {q x : Str} {C k p n : Nat} {st : Stmt} {N ps ks : List Str} {m : Im} {dvs : List V} {ds : List D}
theorem MkAtD.mk (A : MkAtD c q x C st ps dvs ks n) (T : ClsD c x C) (S : FnScope N ps (defScope st)) (h : JIn { c with k := k, top := true } N (defScope st) C (defBody st) m) (hp : ps.length = p + 1 := by rfl) (hn : ps.length ≤ N.length := by decide) : MkD c (k + 1) x C N.length p [] m := by
  obtain ⟨f, fd, kws, F, M, b, _, _⟩ := A
  exact ⟨f, fd, ps, [], [], M, init_okD F S h, T.mg, b, .nil, fun _ => .nil, by simpa using hp, hn⟩
theorem MkAtD.mkd (A : MkAtD c q x C st ps dvs ks n) (T : ClsD c x C) (S : FnScope N ps (defScope st)) (h : JIn { c with k := k, top := true } N (defScope st) C (defBody st) m) (hd : ∀ H, RpL c.K H dvs ds) (hp : ps.length = p + 1 + ds.length := by rfl) (hn : ps.length ≤ N.length := by decide) : MkD c (k + 1) x C N.length p ds m := by
  obtain ⟨f, fd, kws, F, M, _, ⟨dV, r, b⟩, _⟩ := A
  exact ⟨f, fd, ps, dV, dvs, M, init_okD F S h, T.mg, b, r, hd, hp, hn⟩
theorem MkAtD.mkn (A : MkAtD c q x C st ps dvs ks (p + 1)) (T : ClsD c x C) (S : FnScope N ps (defScope st)) (h : JIn { c with k := k, top := true } N (defScope st) C (defBody st) m) (hp : ps.length = p + ks.length + 1 := by rfl) (hn : ps.length ≤ N.length := by decide) : MkN c (k + 1) x C N.length p ks m := by
  obtain ⟨f, fd, kws, F, M, _, _, b⟩ := A
  exact ⟨f, fd, ps, M, init_okD F S h, T.mg, b, hp, hn⟩
end
/-- the class's own == -/
def EqAt (c : C0) (q : Str) (C : Nat) (st : Stmt) (ps : List Str) : Prop := ∃ f fd, Fun c.K "__eq__" q st f fd ∧ PySem.W.findIn c.K (.ref C) "__eq__" = some (some (.ref f)) ∧ PySem.W.isFn c.K (.ref f) = true ∧ Binds c.K fd ps []
theorem EqAt.eq {c : C0} {q : Str} {C k : Nat} {st : Stmt} {N ps : List Str} {m : En → Option SO} (A : EqAt c q C st ps) (S : FnScope N ps (defScope st)) (h : JB { c with k := k, top := true } N (defScope st) (defBody st) m) (hn : ps.length ≤ N.length := by decide) : EqD c (k + 1) C (runF ps.length N.length m) := by
  obtain ⟨f, fd, F, h1, h2, b⟩ := A
  exact ⟨f, fd, ps, fn_ok F S h hn, h1, h2, b⟩
/-- a method -/
def MeAt (c : C0) (m q : Str) (C : Nat) (st : Stmt) (ps : List Str) : Prop := ∃ f fd, Fun c.K m q st f fd ∧ Meth c.K C m f ∧ Binds c.K fd ps []
theorem MeAt.me {c : C0} {nm q : Str} {C k : Nat} {st : Stmt} {N ps : List Str} {m : En → Option SO} (A : MeAt c nm q C st ps) (S : FnScope N ps (defScope st)) (h : JB { c with k := k, top := true } N (defScope st) (defBody st) m) (hn : ps.length ≤ N.length := by decide) : MeS c (k + 1) C nm (runF ps.length N.length m) := by
  obtain ⟨f, fd, F, h1, b⟩ := A
  exact ⟨f, fd, ps, fn_ok F S h hn, h1, b⟩
/-! xs[::-1] -/
def revK (m : En → Option (D × En)) : En → Option (D × En) := fun ρ => match m ρ with
  | some (.list ds, ρ') => some (.list ds.reverse, ρ')
  | _ => none
theorem je_revL {c : C0} {N : List Str} {sc : Scope} {e : Expr} {k : Nat} {p1 p2 p3 pos : Pos} {m : En → Option (D × En)} (h : JE c N sc e m) : JE c N sc (.Subscript e (.Slice none none (some (.UnaryOp .USub (.Constant (.int 1) k p1) p2)) p3) pos) (revK m) := by
  obtain ⟨t, h1, h2⟩ := h
  refine ⟨tRevL c.K t, fun X I => ?_, fun σ H ρ B d ρ' S e Q q => ?_⟩
  · have z := pe_revL (k := k) (p1 := p1) (p2 := p2) (p3 := p3) (pos := pos) (h1 X I)
    rw [I.K] at z
    exact z
  · unfold revK at e
    split at e
    · rename_i ds ρ1 he
      cases e
      refine h2 σ H ρ B _ _ S he _ fun v H1 A r => ?_
      cases r with
      | lst hs rr =>
        refine ⟨_, _, rfl, sub_l (hide_sub B H1) hs, fun p hp => ?_⟩
        obtain ⟨s1, r2⟩ := lst_new A.sr.bk hp rr.rev
        exact q _ _ (A.trans (Af.of_sub A.sr s1)) r2
    · cases e
theorem kit_self {K : Frag} {C : Addr} : PySem.W.kitOne K (.ref C) (.ref C) = some true := if_pos (beq_self_eq_true _)
theorem kit_other {K : Frag} {C : Addr} {T : String} (h1 : PySem.W.isClsIn K C = true) (h2 : PySem.W.typeIn K (.ref C) = some (.type "type")) (h3 : PySem.W.notFirst K C (.type T) = true) : PySem.W.kitOne K (.type T) (.ref C) = some false := by
  have ne : (Value.type T == Value.ref C) = false := by
    cases z : (Value.type T == Value.ref C) with
    | false => rfl
    | true => exact nomatch (eq_of_beq z)
  unfold PySem.W.notFirst at h3
  rw [ne, Bool.false_or] at h3
  unfold PySem.W.kitOne
  rw [if_neg (by rw [ne]; exact Bool.false_ne_true)]
  show (if ((PySem.W.clsIn K C).isSome && PySem.W.typeIn K (.ref C) == some (.type "type")) = true then PySem.W.subIn K (.type T) (.ref C) else none) = some false
  rw [if_pos]
  · exact eq_of_beq h3
  · rw [h2, show (PySem.W.clsIn K C).isSome = true from h1]
    rfl
end Dz

/-! Dz. R: rules of the plain law over instances. -/
namespace Dz
open PySem L2
section
variable {ρ ρ' : En} {Q : D → En → Prop} {QL : List D → En → Prop} {ma mb : En → Option (D × En)} {ml mk : En → Option (List D × En)} {C : Nat} {f : Str} {d : D} {fs : List (D × D)} {fm : Fm} {m : Im}
theorem wp_fld (h : wp ma ρ fun d ρ1 => ∃ fs z, d = oD C fs ∧ lookF f fs = some z ∧ Q z ρ1) : wp (fldK C f ma) ρ Q := by
  obtain ⟨d, r1, e1, fs, z, rfl, e2, q⟩ := h
  refine ⟨z, r1, ?_, q⟩
  unfold fldK
  rw [e1]
  show (if Int.ofNat C = Int.ofNat C then (lookF f fs).map fun d => (d, r1) else none) = _
  rw [if_pos rfl, e2]
  rfl
theorem wp_rev (h : wp ma ρ fun d ρ1 => tl d fun ds => Q (.list ds.reverse) ρ1) : wp (revK ma) ρ Q := by
  obtain ⟨d, r1, e1, ds, rfl, q⟩ := h
  exact ⟨_, r1, by unfold revK; rw [e1], q⟩
def inw (m : Im) (acc : List (D × D)) (ρ : En) (R : List (D × D) → Prop) : Prop := ∃ fs ρ', m acc ρ = some (fs, ρ') ∧ R fs
theorem inw_nil {acc : List (D × D)} {R : List (D × D) → Prop} (h : R acc) : inw iniNil acc ρ R := ⟨acc, ρ, rfl, h⟩
theorem inw_cons {acc : List (D × D)} {mr : Im} {R : List (D × D) → Prop} (hl : lookF f acc = none ∧ acc.length < 900) (h : wp ma ρ fun d ρ1 => inw mr (acc ++ [(.str f, d)]) ρ1 R) : inw (iniCons f ma mr) acc ρ R := by
  obtain ⟨d, r1, e1, fs, r2, e2, q⟩ := h
  refine ⟨fs, r2, ?_, q⟩
  unfold iniCons
  simp only [e1, Option.bind_some]
  rw [if_pos hl, e2]
theorem wp_mk {n p : Nat} {ds : List D} (h : wp ml ρ fun es ρ1 => es.length = p ∧ inw m [] (none :: ((es ++ ds).map (fun d => some (Sl.val d)) ++ List.replicate (n - 1 - (es ++ ds).length) none)) fun fs => Q (oD C fs) ρ1) : wp (mkK C n p ds m ml) ρ Q := by
  obtain ⟨es, r1, e1, l, fs, r2, e2, q⟩ := h
  refine ⟨_, r1, ?_, q⟩
  unfold mkK
  simp only [e1, Option.bind_some]
  rw [if_pos l, e2]
  rfl
theorem wp_cat (h : wp ml ρ fun ds ρ1 => wp mk ρ1 fun es ρ2 => QL (ds ++ es) ρ2) : wp (catK ml mk) ρ QL := by
  obtain ⟨ds, r1, e1, es, r2, e2, q⟩ := h
  exact ⟨_, r2, by unfold catK; simp [e1, e2], q⟩
theorem isOb_self {C : Nat} {fs : List (D × D)} : isOb C (oD C fs) = true := by
  unfold isOb oD
  simp
theorem isiCB_ob {C : Nat} {fs : List (D × D)} : isiCB C (oD C fs) = some true := by
  have h := isOb_self (C := C) (fs := fs)
  unfold oD at *
  simp only [isiCB]
  rw [if_pos h]
theorem wp_isiC (h : wp ma ρ fun d ρ1 => oq (isiCB C d) fun z => Q (.bool z) ρ1) : wp (isiCK C ma) ρ Q := by
  obtain ⟨x, r1, e1, z, e2, q⟩ := h
  exact ⟨_, r1, by unfold isiCK; simp [e1, e2], q⟩
theorem oq_isiC_ob {Q : Bool → Prop} (h : Q true) : oq (isiCB C (oD C fs)) Q := ⟨true, isiCB_ob, h⟩
theorem oq_isiC_t {ds : List D} {Q : Bool → Prop} (h : Q false) : oq (isiCB C (.tuple ds)) Q := ⟨false, rfl, h⟩
theorem oq_isiC_l {ds : List D} {Q : Bool → Prop} (h : Q false) : oq (isiCB C (.list ds)) Q := ⟨false, rfl, h⟩
theorem oq_eqI {gs : List (D × D)} {Q : D → Prop} (h : fwp fm [.val (oD C fs), .val (oD C gs)] fun d _ => tb d fun b => Q (.bool b)) : oq (dEqI C fm (oD C fs) (oD C gs)) Q := by
  obtain ⟨d, as, e, b, rfl, q⟩ := h
  refine ⟨_, ?_, q⟩
  unfold dEqI
  rw [if_pos ⟨isOb_self, .inl isOb_self⟩, e]
  rfl
theorem oq_eqI_t {es : List D} {Q : D → Prop} (h : fwp fm [.val (oD C fs), .val (.tuple es)] fun d _ => tb d fun b => Q (.bool b)) : oq (dEqI C fm (oD C fs) (.tuple es)) Q := by
  obtain ⟨d, as, e, b, rfl, q⟩ := h
  refine ⟨_, ?_, q⟩
  unfold dEqI
  rw [if_pos ⟨isOb_self, .inr rfl⟩, e]
  rfl
theorem oq_eqI_l {es : List D} {Q : D → Prop} (h : fwp fm [.val (oD C fs), .val (.list es)] fun d _ => tb d fun b => Q (.bool b)) : oq (dEqI C fm (oD C fs) (.list es)) Q := by
  obtain ⟨d, as, e, b, rfl, q⟩ := h
  refine ⟨_, ?_, q⟩
  unfold dEqI
  rw [if_pos ⟨isOb_self, .inr rfl⟩, e]
  rfl
theorem wp_oneF {QF : List D × D → En → Prop} (h : wp ma ρ fun d ρ1 => QF ([], d) ρ1) : wp (oneF ma) ρ QF := by
  obtain ⟨d, r1, e1, q⟩ := h
  exact ⟨_, r1, by unfold oneF; rw [e1]; rfl, q⟩
theorem wp_consF {mr : En → Option ((List D × D) × En)} {QF : List D × D → En → Prop} (h : wp ma ρ fun d ρ1 => wp mr ρ1 fun p ρ2 => QF (d :: p.1, p.2) ρ2) : wp (consF ma mr) ρ QF := by
  obtain ⟨d, r1, e1, p, r2, e2, q⟩ := h
  exact ⟨_, r2, by unfold consF; simp [e1, e2], q⟩
theorem wp_callF {mr : En → Option ((List D × D) × En)} (h : wp mr ρ fun p ρ1 => fwp fm (p.1.map Sl.val ++ [.bor p.2]) fun d _ => Q d ρ1) : wp (callFK fm mr) ρ Q := by
  obtain ⟨p, r1, e1, d, as, e2, q⟩ := h
  exact ⟨d, r1, by unfold callFK; simp [e1, e2], q⟩
theorem noF_self {m : Str} (h : lookF m fs = none) : noF C m (oD C fs) = true := by
  unfold noF oD
  simp [h]
theorem wp_meth {mr : En → Option (List Ar × En)} {m : Str} (h : wp ma ρ fun d ρ1 => noF C m d = true ∧ wp (callK fm (gval (kC d) mr)) ρ1 Q) : wp (methK C m fm ma mr) ρ Q := by
  obtain ⟨d, r1, e1, n, z, r2, e2, q⟩ := h
  refine ⟨z, r2, ?_, q⟩
  unfold methK
  simp only [e1, Option.bind_some]
  rw [if_pos n, e2]
end
end Dz

/-! Dz. S: instances made with a def's own lists lent to __init__. -/
namespace Dz
open PySem L2
variable {c : C0} {N : List Str} {sc : Scope}
def SIn2 (K : Frag) (C : Nat) (t : TS) (m : Im) : Prop := ∀ σ H ρ B x dx gs ds0 ds ρ', SR K B σ H ρ → ¬ Mine σ ρ x → σ[0]? = some (some (.ref x)) → B x = true → H x = some (.ins C dx gs) → RpF K (hide B H) gs ds0 → m ds0 ρ = some (ds, ρ') →
  ∀ Dn : Ends, (∀ H' gs', SR K B σ H' ρ' → H' x = some (.ins C dx gs') → RpF K (hide B H') gs' ds → (∀ b o, b ≠ x → ¬ Mine σ ρ b → H b = some o → H' b = some o) → (∀ b o, H b = some o → ∃ o', H' b = some o') → Dn.nx σ H') → t Dn σ H
def JIn2 (c : C0) (N : List Str) (sc : Scope) (C : Nat) (ss : List Stmt) (m : Im) : Prop := ∃ t, (∀ X, In c N sc X → PSs X ss t) ∧ SIn2 c.K C t m
theorem jin2_nil {C : Nat} : JIn2 c N sc C [] iniNil := ⟨tNext, fun _ _ => pss_nil, fun σ H ρ B x dx gs ds0 ds ρ' S nm hs bx hx hf e Dn q => by
  cases e
  exact q H gs S hx hf (fun _ _ _ _ h => h) fun _ o h => ⟨o, h⟩⟩
theorem si2_fld {K : Frag} {C : Nat} {f : Str} {te : TE} {me : En → Option (D × En)} {t : TS} {mr : Im} (cl : Cls K C) (na : NoAttr K C f) (h : Sd K te me) (hr : SIn2 K C t mr) : SIn2 K C (tSeq (sFld K (tVar 0) te f) t) (iniCons f me mr) := fun σ H ρ B x dx gs ds0 ds ρ' S nm hs bx hx hf e Dn q => by
  unfold iniCons at e
  cases q1 : me ρ with
  | none => simp [q1] at e
  | some p =>
    obtain ⟨d, ρ1⟩ := p
    simp only [q1, Option.bind_some] at e
    split at e
    · rename_i hl
      refine h σ H ρ B _ _ S q1 _ fun v H1 A r => ?_
      have hx1 : H1 x = some (.ins C dx gs) := A.keep x _ hx nm
      refine ⟨.ref x, hs, x, C, dx, gs, rfl, hx1, cl, na, ?_, ?_⟩
      · rw [hf.length]
        omega
      · have nm1 : ¬ Mine σ ρ1 x := fun m => nm (A.kin.mine.mp m)
        have hh : hide B (upd H1 x (.ins C dx (putF f v gs))) = hide B H1 := upd_hide bx
        have hf1 : RpF K (hide B H1) gs ds0 := hf.mono (A.sub S)
        refine hr σ _ ρ1 B x dx (putF f v gs) (ds0 ++ [(.str f, d)]) _ _ (A.sr.upd_hidden bx nm1) nm1 hs bx upd_same ?_ e Dn fun H' gs' s' hx' hf' kp gr => ?_
        · rw [hh, putF_new (hf1.lookN hl.1)]
          exact hf1.app r
        · refine q H' gs' s' hx' hf' (fun b o nb n z => kp b o nb (fun m => n (A.kin.mine.mp m)) (by rw [upd_ne nb]; exact A.keep b o z n)) fun b o z => ?_
          by_cases y : b = x
          · rw [y]
            exact ⟨_, hx'⟩
          · obtain ⟨o1, z1⟩ := A.grow b o z
            exact gr b o1 (by rw [upd_ne y]; exact z1)
    · cases e
theorem jin2_cons {C : Nat} {f x : Str} {e : Expr} {p1 p2 pos : Pos} {me : En → Option (D × En)} {rest : List Stmt} {mr : Im} (cl : Cls c.K C) (na : NoAttr c.K C f) (h : JE c N sc e me) (hr : JIn2 c N sc C rest mr) (hN : N[0]? = some x := by rfl) (hv : Vis sc x := by first | exact Or.inl rfl | exact Or.inr (Or.inl rfl) | exact Or.inr (Or.inr rfl))
    (hd : (x == ("__debug__" : Str)) = false := by decide) (hcd : (x == ("__classdict__" : Str)) = false := by decide)
    (hs : ∀ env, swapsWith e (some (.Attribute (.Name x p1) f p2)) pos.line env = pure false := by intros; rfl) : JIn2 c N sc C (.Assign [.Attribute (.Name x p1) f p2] e pos :: rest) (iniCons f me mr) := by
  obtain ⟨t, h1, h2⟩ := h
  obtain ⟨u, r1, r2⟩ := hr
  refine ⟨tSeq (sFld c.K (tVar 0) t f) u, fun X I => ?_, si2_fld cl na h2 r2⟩
  have q := ps_fld (f := f) (pos := pos) (pos' := p2) (pe_var (pos := p1) (by rw [I.N]; exact hN) (I.vis hv) hd hcd) (h1 X I) (hs _)
  rw [I.K] at q
  exact pss_cons q (r1 X I)
def en0 (n : Nat) (as : List Sl) : En := none :: (as.map some ++ List.replicate (n - 1 - as.length) none)
/-- what __init__ promises where lists are lent to it and stay as they were -/
def spG (K : Frag) (C n : Nat) (m : Im) : Sp := fun vs H Q _ => ∃ x dx us as fs B, vs = .ref x :: us ∧ H x = some (.ins C dx []) ∧ B x = true ∧ SR K B (us.map some) H (as.map some) ∧ ¬ Mine (us.map some) (as.map some) x ∧ us.length + 1 ≤ n ∧
  m [] (en0 n as) = some (fs, en0 n as) ∧ ∀ H' gs, H' x = some (.ins C dx gs) → RpF K (hide B H') gs fs → SR K B (us.map some) H' (as.map some) → (∀ b o, b ≠ x → ¬ Mine (us.map some) (as.map some) b → H b = some o → H' b = some o) → (∀ b o, H b = some o → ∃ o', H' b = some o') → Q .non H'
theorem shift_sr {K : Frag} {B : Addr → Bool} {H : Hp} {v : V} {σ : St} {ρ : En} : SR K B (some v :: σ) H (none :: ρ) ↔ SR K B σ H ρ := by
  constructor
  · intro S
    refine ⟨by have := S.len; simpa using this, fun i d e => ?_, fun i s e m => ?_, fun i j s t l e1 m1 e2 m2 e3 e4 => ?_, S.bk⟩
    · exact S.val (i + 1) d (by simpa using e)
    · exact S.mu_ (i + 1) s (by simpa using e) m
    · have := S.inj (i + 1) (j + 1) s t l (by simpa using e1) m1 (by simpa using e2) m2 (by simpa using e3) (by simpa using e4)
      omega
  · intro S
    refine ⟨by have := S.len; simpa using this, fun i d e => ?_, fun i s e m => ?_, fun i j s t l e1 m1 e2 m2 e3 e4 => ?_, S.bk⟩
    · cases i with
      | zero => simp at e
      | succ i => exact S.val i d (by simpa using e)
    · cases i with
      | zero => simp at e
      | succ i => exact S.mu_ i s (by simpa using e) m
    · cases i with
      | zero => simp at e1
      | succ i =>
        cases j with
        | zero => simp at e2
        | succ j =>
          have := S.inj i j s t l (by simpa using e1) m1 (by simpa using e2) m2 (by simpa using e3) (by simpa using e4)
          omega
theorem shift_mine {v : V} {σ : St} {ρ : En} {b : Addr} : Mine (some v :: σ) (none :: ρ) b ↔ Mine σ ρ b := by
  constructor
  · rintro ⟨i, s, e, m, e2⟩
    cases i with
    | zero => simp at e
    | succ i => exact ⟨i, s, by simpa using e, m, by simpa using e2⟩
  · rintro ⟨i, s, e, m, e2⟩
    exact ⟨i + 1, s, by simpa using e, m, by simpa using e2⟩
theorem leave_sr {K : Frag} {B : Addr → Bool} {H : Hp} {us : List V} {as : List Sl} {n : Nat} (hl : us.length = as.length) (S : SR K B (us.map some ++ List.replicate n none) H (as.map some ++ List.replicate n none)) : SR K B (us.map some) H (as.map some) := by
  refine ⟨by simpa using hl, fun i d e => ?_, fun i s e m => ?_, fun i j s t l e1 m1 e2 m2 e3 e4 => ?_, S.bk⟩
  · obtain ⟨v, a, b⟩ := S.val i d (pad_get.mpr (some_get.mp e))
    exact ⟨v, some_get.mpr (pad_get.mp a), b⟩
  · obtain ⟨v, a, b⟩ := S.mu_ i s (pad_get.mpr (some_get.mp e)) m
    exact ⟨v, some_get.mpr (pad_get.mp a), b⟩
  · exact S.inj i j s t l (pad_get.mpr (some_get.mp e1)) m1 (pad_get.mpr (some_get.mp e2)) m2 (pad_get.mpr (some_get.mp e3)) (pad_get.mpr (some_get.mp e4))
theorem initG_run {k C : Nat} {m : Im} {ss : List Stmt} (h : JIn2 { c with k := k, top := true } N sc C ss m) : ∃ t, (∀ X, In { c with k := k, top := true } N sc X → PSs X ss t) ∧ ∀ vs H Q E, spG c.K C N.length m vs H Q E → ∀ Dn : Ends, (∀ H' : Hp, Q .non H' → ∀ σ, Dn.nx σ H') → t Dn (L2.start N vs) H := by
  obtain ⟨t, t1, t2⟩ := h
  refine ⟨t, t1, fun vs H Q E h' Dn hd => ?_⟩
  obtain ⟨x, dx, us, as, fs, B, rfl, h1, h2, h3, h4, h5, h6, h7⟩ := h'
  have ll : us.length = as.length := by have := h3.len; simpa using this
  have es : L2.start N (.ref x :: us) = some (V.ref x) :: (us.map some ++ List.replicate (N.length - 1 - as.length) none) := by
    unfold L2.start
    show (V.ref x :: us).map some ++ List.replicate (N.length - (us.length + 1)) none = _
    rw [show N.length - (us.length + 1) = N.length - 1 - as.length by omega]
    rfl
  have em : ∀ b, Mine (L2.start N (.ref x :: us)) (en0 N.length as) b ↔ Mine (us.map some) (as.map some) b := fun b => by
    rw [es]
    exact shift_mine.trans entry_mine
  have S0 : SR c.K B (L2.start N (.ref x :: us)) H (en0 N.length as) := by
    rw [es]
    exact shift_sr.mpr (entry_sr h3)
  refine t2 _ H _ B x dx [] [] fs _ S0 (fun m => h4 ((em x).mp m)) (by rw [es]; rfl) h2 h1 .nil h6 Dn fun H' gs s' hx hf kp gr => ?_
  refine hd H' (h7 H' gs hx hf ?_ (fun b o nb nm z => kp b o nb (fun m => nm ((em b).mp m)) z) gr) _
  rw [es] at s'
  exact leave_sr ll (shift_sr.mp s')
theorem initG_ok {x qual : Str} {st : Stmt} {f : Addr} {fd : FuncData} {N ps : List Str} {k C : Nat} {m : Im} (F : Fun c.K x qual st f fd) (S : FnScope N ps (defScope st)) (h : JIn2 { c with k := k, top := true } N (defScope st) C (defBody st) m) :
    FnOk c.P c.w c.K c.mg c.base CX0 (k + 1) f fd ps (fun vs H Q E => vs.length = ps.length ∧ spG c.K C N.length m vs H Q E) := by
  obtain ⟨t, t1, t2⟩ := initG_run h
  refine F.ok S (fun vs H Q E h => h.1) (fun cdv A outer s H vs Q E hr h' => ?_)
  refine ⟨t, t1 _ ⟨rfl, rfl, rfl, rfl, rfl, hr, rfl, rfl, rfl, fun _ => rfl, PassesOwn.never⟩, ?_⟩
  exact t2 vs H Q E h'.2 _ fun H' q σ => q
theorem initG_okD {x qual : Str} {st : Stmt} {dvs : List V} {kws : List (Str × V)} {f : Addr} {fd : FuncData} {N ps : List Str} {k C : Nat} {m : Im} (F : FunD c.K x qual (defArgs st) (defBody st) (defScope st) dvs kws f fd) (S : FnScope N ps (defScope st)) (h : JIn2 { c with k := k, top := true } N (defScope st) C (defBody st) m) :
    FnOk c.P c.w c.K c.mg c.base CX0 (k + 1) f fd ps (fun vs H Q E => vs.length = ps.length ∧ spG c.K C N.length m vs H Q E) := by
  obtain ⟨t, t1, t2⟩ := initG_run h
  refine F.ok S (fun vs H Q E h => h.1) (fun cdv A outer s H vs Q E hr h' => ?_)
  have q : PSs (cxOf CX0 c.P c.w c.K c.mg c.base N qual (defScope st) f cdv A outer s H E).nox (defBody st) t := t1 _ ⟨rfl, rfl, rfl, rfl, rfl, hr, rfl, rfl, rfl, fun _ => rfl, PassesOwn.never⟩
  refine ⟨t, q.nox, ?_⟩
  exact t2 vs H Q E h'.2 _ fun H' q σ => q
/-- a class whose __init__ takes all p values by place, lists lent -/
def MkG (c : C0) (k : Nat) (x : Str) (C n p : Nat) (m : Im) : Prop :=
  ∃ (f : Addr) (fd : FuncData) (ps : List Str), Mk c.K C f ∧ FnOk c.P c.w c.K c.mg c.base CX0 k f fd ps (fun vs H Q E => vs.length = ps.length ∧ spG c.K C n m vs H Q E) ∧ c.mg x = some (.ref C) ∧ Binds c.K fd ps [] ∧ ps.length = p + 1 ∧ ps.length ≤ n
open Classical in
noncomputable def mkG (C n p : Nat) (m : Im) (mg : En → Option (List Ar × En)) : En → Option (D × En) := fun ρ => (mg ρ).bind fun q => if lentOnce q.1 = true then (toSls q.2 q.1).bind fun as => if as.length = p then (m [] (en0 n as)).bind fun z => if z.2 = en0 n as then some (oD C z.1, giveBack q.1 as q.2) else none else none else none
theorem sd_mkG {K : Frag} {C n p np : Nat} {m : Im} {t : TA} {mg : En → Option (List Ar × En)} {E : XK} (h : SG K t mg) (hp : np = p + 1) (hn : np ≤ n) :
    Sd K (tMake C (fun vs H Q E => vs.length = np ∧ spG K C n m vs H Q E) [] E t) (mkG C n p m mg) := fun σ H ρ B d ρ' S e Q q => by
  unfold mkG at e
  cases q1 : mg ρ with
  | none => simp [q1] at e
  | some z =>
    obtain ⟨ars, ρ1⟩ := z
    simp only [q1, Option.bind_some] at e
    split at e
    · rename_i hl
      cases q2 : toSls ρ1 ars with
      | none => simp [q2] at e
      | some ss =>
        simp only [q2, Option.bind_some] at e
        split at e
        · rename_i hs
          cases q3 : m [] (en0 n ss) with
          | none => simp [q3] at e
          | some w =>
            obtain ⟨fs, ρ2⟩ := w
            simp only [q3, Option.bind_some] at e
            split at e
            · rename_i he
              simp only [Option.some.injEq, Prod.mk.injEq] at e
              obtain ⟨rfl, rfl⟩ := e
              have he : ρ2 = en0 n ss := he
              subst he
              refine h σ H ρ B _ _ S q1 _ fun vs H1 A ha => ?_
              intro x dx nx ndx ne
              obtain ⟨S1, M1⟩ := call_sr A.sr ha hl q2
              have ll : vs.length = ss.length := by have := S1.len; simpa using this
              have fx : B x = false := A.sr.fresh nx
              have sdx : Sub H1 (upd H1 dx (.own x)) := Sub.new ndx
              have nx1 : upd H1 dx (.own x) x = none := by rw [upd_ne fun z => ne z.symm]; exact nx
              have sx : Sub (upd H1 dx (.own x)) (upd (upd H1 dx (.own x)) x (.ins C dx [])) := Sub.new nx1
              have S2 : SR K (ins dx B) (vs.map some) (upd H1 dx (.own x)) (ss.map some) := S1.ins ndx sdx ⟨_, upd_same⟩
              have S3 : SR K (ins x (ins dx B)) (vs.map some) (upd (upd H1 dx (.own x)) x (.ins C dx [])) (ss.map some) := S2.ins nx1 sx ⟨_, upd_same⟩
              have nm : ¬ Mine (vs.map some) (ss.map some) x := fun z => by
                have := S1.mine z
                rw [fx] at this
                cases this
              rw [List.append_nil]
              refine ⟨by simp; omega, x, dx, vs, ss, fs, ins x (ins dx B), rfl, upd_same, by unfold ins; simp, S3, nm, by omega, q3, fun H3 gs h1 h2 h3 h4 h5 => ⟨rfl, ?_⟩⟩
              have g3 : ∀ b o, H1 b = some o → ∃ o', H3 b = some o' := fun b o e => h5 b o (sx _ _ (sdx _ _ e))
              have g2 : ∀ b o, upd H1 dx (.own x) b = some o → ∃ o', H3 b = some o' := fun b o e => h5 b o (sx _ _ e)
              have S4 : SR K B (vs.map some) H3 (ss.map some) := by
                refine SR.unins (l := dx) ?_ S1 (Kin.refl _) g3
                refine SR.unins (l := x) h3 S2 (Kin.refl _) g2
              have A2 : Af K B (vs.map some) H1 (ss.map some) H3 (ss.map some) := ⟨S4, fun b o e n => h4 b o (ne_of_none e nx) n (sx _ _ (sdx _ _ e)), g3, Kin.refl _⟩
              refine q (.ref x) H3 (A.trans (call_back A.sr ha hl q2 A2)) ?_
              have hh : Sub (hide (ins x (ins dx B)) H3) (hide B H3) := fun b o e => ins_sub _ _ (ins_sub _ _ e)
              exact .obj (hide_of fx h1) (h2.mono hh)
            · cases e
        · cases e
    · cases e
theorem je_mkG {C n p j : Nat} {m : Im} {x : Str} {e : Expr} {es : List Expr} {q pos : Pos} {mg : En → Option (List Ar × En)} (M : MkG c j x C n p m) (hk : j + 1 ≤ c.k) (hg : sc.names.lookup x = some .globalImplicit) (ha : JG c N sc (e :: es) mg)
    (hdb : (x == ("__debug__" : Str)) = false := by decide) (he : ∀ env, starEach (e :: es) env = (false, eval e env) :: starEach es env := by intros; rfl) (hpl : ∀ env, (backTo pos (starEach es env)).any (·.1) = false := by intros; rfl) :
    JE c N sc (.Call (.Name x q) (e :: es) [] pos) (mkG C n p m mg) := by
  obtain ⟨f, fd, ps, M, F, hm, hb, hp, hn⟩ := M
  obtain ⟨t, p1, s1⟩ := ha
  refine ⟨tMake C (fun vs H Q E => vs.length = ps.length ∧ spG c.K C n m vs H Q E) [] E0 t, fun X I => ?_, sd_mkG s1 hp hn⟩
  obtain ⟨a1, a2, a3, a4, a5, a6, a7, a8, a9, a10, a11⟩ := id I
  have F' : FnOk X.prog X.w X.K X.mg X.base CX0 j f fd ps (fun vs H Q E => vs.length = ps.length ∧ spG c.K C n m vs H Q E) := by
    rw [a1, a2, a3, a4, a5]
    exact F
  exact pe_make (by rw [a3]; exact M) F' (a6.mono hk) (I.gl hg) (by rw [a4]; exact hm) (by rw [a3]; exact hb) .nil pass0 (p1 X I) hdb (he _) (hpl _)
section
variable {q x : Str} {C k p n : Nat} {st : Stmt} {ps ks : List Str} {m : Im} {dvs : List V}
theorem MkAt.mkG (A : MkAt c q x C st ps) (T : ClsD c x C) (S : FnScope N ps (defScope st)) (h : JIn2 { c with k := k, top := true } N (defScope st) C (defBody st) m) (hp : ps.length = p + 1 := by rfl) (hn : ps.length ≤ N.length := by decide) : MkG c (k + 1) x C N.length p m := by
  obtain ⟨f, fd, F, M, b⟩ := A
  exact ⟨f, fd, ps, M, initG_ok F S h, T.mg, b, hp, hn⟩
theorem MkAtD.mkG (A : MkAtD c q x C st ps dvs ks n) (T : ClsD c x C) (S : FnScope N ps (defScope st)) (h : JIn2 { c with k := k, top := true } N (defScope st) C (defBody st) m) (hp : ps.length = p + 1 := by rfl) (hn : ps.length ≤ N.length := by decide) : MkG c (k + 1) x C N.length p m := by
  obtain ⟨f, fd, kws, F, M, b, _, _⟩ := A
  exact ⟨f, fd, ps, M, initG_okD F S h, T.mg, b, hp, hn⟩
end
end Dz

/-! Dz. U: rules for instances made with lent lists. -/
namespace Dz
open PySem L2
section
variable {ρ ρ' : En} {Q : D → En → Prop} {ma : En → Option (D × En)} {C : Nat} {f : Str} {m : Im}
def inx (m : Im) (acc : List (D × D)) (ρ : En) (R : List (D × D) → En → Prop) : Prop := ∃ fs ρ', m acc ρ = some (fs, ρ') ∧ R fs ρ'
theorem inx_nil {acc : List (D × D)} {R : List (D × D) → En → Prop} (h : R acc ρ) : inx iniNil acc ρ R := ⟨acc, ρ, rfl, h⟩
theorem inx_cons {acc : List (D × D)} {mr : Im} {R : List (D × D) → En → Prop} (hl : lookF f acc = none ∧ acc.length < 900) (h : wp ma ρ fun d ρ1 => inx mr (acc ++ [(.str f, d)]) ρ1 R) : inx (iniCons f ma mr) acc ρ R := by
  obtain ⟨d, r1, e1, fs, r2, e2, q⟩ := h
  refine ⟨fs, r2, ?_, q⟩
  unfold iniCons
  simp only [e1, Option.bind_some]
  rw [if_pos hl, e2]
theorem wp_mkG {n p : Nat} {mg : En → Option (List Ar × En)} (h : wp mg ρ fun ars ρ1 => lentOnce ars = true ∧ oq (toSls ρ1 ars) fun as => as.length = p ∧ inx m [] (en0 n as) fun fs r => r = en0 n as ∧ Q (oD C fs) (giveBack ars as ρ1)) : wp (mkG C n p m mg) ρ Q := by
  obtain ⟨ars, r1, e1, l, as, e2, l2, fs, r, e3, rfl, q⟩ := h
  refine ⟨_, _, ?_, q⟩
  unfold mkG
  simp only [e1, Option.bind_some]
  rw [if_pos l, e2]
  simp only [Option.bind_some]
  rw [if_pos l2, e3]
  simp
end
end Dz

/-! Dz. V: != of lists of instances that are equal by their own ==. -/
namespace GQN
open PySem PySem.SeqAt
open AutoSeq1 (wpAny_loadPart')
open MeetsSeq MeetsSeq2 MeetsSeq3 SeqRoads2
/-- a list object of these items -/
def LsOb (h : Heap) (a : Addr) (xs : Array Value) : Prop := ∃ (k : Nat) (dd : Option Addr) (sl : Array (Option Value)), h.get? a = some ⟨.type "list", dd, .seq xs k, sl⟩
section
variable {prog : Program} {w : World} {A : Around} {R : Result → Shared → Prop} {p q : Addr} {n : Nat} {J : Nat → Shared → Prop}
/-- turn i: both lists have n items, and the two i-th ones are found equal on the way to turn i + 1 -/
def Tn (prog : Program) (w : World) (A : Around) (E : Value → Shared → Prop) (p q : Addr) (n : Nat) (J : Nat → Shared → Prop) : Prop :=
  ∀ i t, J i t → ∃ xs ys : Array Value, (LsOb t.heap p xs ∧ xs.size = n) ∧ (LsOb t.heap q ys ∧ ys.size = n) ∧ ∀ (l : i < xs.size) (m : i < ys.size), wpAny (model prog w) A.in1 (eqBool xs[i] ys[i]) (fun z t' => z = true ∧ J (i + 1) t') E t
/-- the rest of the turns from i on: no difference is found -/
theorem turns (T : Tn prog w A (fun e t => R (.error e) t) p q n J) (last : ∀ t, J n t → R (.ok (.ret (.bool false))) t) :
    ∀ (m i : Nat) (t : Shared), i + m = n → J i t → wpAny (model prog w) A.in1 (Builtin.«list.__eq__.loop» ⟨[.ref p, .ref q, rawInt i, rawInt 3], []⟩) (GQ.FinOf prog w A R) (fun e t' => R (.error e) t') t
  | 0, i, t, hm, ht => by
    obtain ⟨xs, ys, ⟨⟨k1, dd1, sl1, o1⟩, z1⟩, ⟨⟨k2, dd2, sl2, o2⟩, z2⟩, _⟩ := T i t ht
    have en : n = i := by omega
    have fin0 := last t (en ▸ ht)
    cases t with
    | mk hp g d tk os =>
      have no1 : xs[((i : Nat) : Int).toNat]? = none := by rw [Int.toNat_natCast]; exact Array.getElem?_eq_none (by omega)
      have no2 : ys[((i : Nat) : Int).toNat]? = none := by rw [Int.toNat_natCast]; exact Array.getElem?_eq_none (by omega)
      wp_walk using wpAny_loadPart' o1, wpAny_loadPart' o2
      rw [no1, no2]
      wp_walk using wpAny_loadPart' o1, wpAny_loadPart' o2
      have same : (xs.size != ys.size) = false := by rw [z1, z2]; exact bne_self_eq_false n
      show R (.ok (.ret (.bool (xs.size != ys.size)))) ⟨hp, g, d, tk, os⟩
      exact same ▸ fin0
  | m + 1, i, t, hm, ht => by
    obtain ⟨xs, ys, ⟨⟨k1, dd1, sl1, o1⟩, z1⟩, ⟨⟨k2, dd2, sl2, o2⟩, z2⟩, step⟩ := T i t ht
    have b1 : i < xs.size := by omega
    have b2 : i < ys.size := by omega
    have go := step b1 b2
    cases t with
    | mk hp g d tk os =>
      have at1 : xs[((i : Nat) : Int).toNat]? = some xs[i] := by rw [Int.toNat_natCast]; exact Array.getElem?_eq_getElem b1
      have at2 : ys[((i : Nat) : Int).toNat]? = some ys[i] := by rw [Int.toNat_natCast]; exact Array.getElem?_eq_getElem b2
      wp_walk using wpAny_loadPart' o1, wpAny_loadPart' o2
      rw [at1, at2]
      refine wpAny_bind (wpAny_mono go (fun z t2 k => ?_) (fun _ _ k => k))
      cases k.1
      have more := turns T last m (i + 1) t2 (by omega) k.2
      cases t2 with
      | mk hp2 g2 d2 tk2 os2 =>
        wp_walk
        refine ⟨plainId_quiet plain_eq_loop _, codeAny_builtin entry_eq_loop ?_⟩
        rw [Around.under_plainId plain_eq_loop _]
        exact more
end
/-- != of two lists whose items are found equal: False -/
theorem rc_ne {prog : Program} {w : World} {A : Around} {E : Value → Shared → Prop} {t : Shared} {p q : Addr} {n : Nat} {Q : Value → Shared → Prop} {J : Nat → Shared → Prop} (room : A.units < cLine) (T : Tn prog w A E p q n J)
    (last : ∀ t, J n t → Q (.bool false) t) (h0 : J 0 t) : wpAny (model prog w) A (richCompare .NotEq (.ref p) (.ref q)) Q E t := by
  obtain ⟨xs, ys, ⟨⟨k1, dd1, sl1, o1⟩, z1⟩, ⟨⟨k2, dd2, sl2, o2⟩, z2⟩, _⟩ := T 0 t h0
  have all := turns (R := wants (fun v t' => v ≠ .notImplemented ∧ Q v t') E) T (fun t' k => ⟨(fun e => nomatch e), last t' k⟩) n 0 t (by omega) h0
  refine wpAny_richCompare_same_room (op := .NotEq) ⟨_, o1, rfl⟩ ⟨_, o2, rfl⟩ F.slot_list_ne ?_ room
  refine GQ.call_here F.slot_list_ne ⟨_, o1, rfl⟩ F.entry_list_ne (F.args_list_ne_2 _ _) ?_
  cases t with
  | mk hp g d tk os =>
    have isl := AutoSeq1.sub_list_list
    have differ : ¬ (xs.size != ys.size) = true := by rw [z1, z2, bne_self_eq_false]; exact Bool.false_ne_true
    wp_walk using wpAny_loadPart' o1, wpAny_loadPart' o2
    refine ⟨plainId_quiet plain_eq_loop _, codeAny_builtin entry_eq_loop ?_⟩
    rw [Around.under_plainId plain_eq_loop _]
    exact all
end GQN
namespace Dz
open PySem L2
variable {c : C0} {N : List Str} {sc : Scope}
def DListQ (K : Frag) (D : Eqv) : Eqv := fun x y H => ∃ a b xs ys, x = .ref a ∧ y = .ref b ∧ SqL K H a xs ∧ SqL K H b ys ∧ Prs D xs ys H
def rNeG (D : Eqv) : R2 := fun x y H Q => D x y H ∧ ∀ H', Ext H H' → Q (.bl false) H'
theorem op_neLG {X : Cx} {n : Nat} {D : Eqv} (hD : Mon D) (h : EqG X n D) (hr : Room (n + 1) X.A) : OpR X (compareOp .NotEq) (rNeG (DListQ X.K D)) := by
  intro pins s σ H x y v u Q I rx ry hq
  obtain ⟨⟨a, b, xs, ys, rfl, rfl, ha, hb, p⟩, q⟩ := hq
  cases rx
  cases ry
  show wpAny (model X.prog X.w) X.A (richCompare .NotEq (.ref a) (.ref b)) (EP X pins σ Q) X.xe s
  have sb : L2.Sub X (n + 1) X.A := ⟨hr, rfl⟩
  refine GQN.rc_ne (n := xs.length) (J := fun _ t => LoopI X pins σ H t) sb.room.units0 (fun i t k => ?_) (fun t ⟨H', I', e⟩ => ⟨.bl false, H', I', rfl, q H' e⟩) ⟨H, I, Ext.rfl'⟩
  obtain ⟨H1, I1, e1⟩ := id k
  obtain ⟨us, r1, pl1, _⟩ := I1.list (SqL.ext ha e1)
  obtain ⟨ws, r2, pl2, _⟩ := I1.list (SqL.ext hb e1)
  have ob : ∀ {a : Addr} {l : List Value}, PlainL t.heap a l.toArray → GQN.LsOb t.heap a l.toArray := fun pl => by
    obtain ⟨o, f1, f2, m, f3⟩ := pl.isList
    cases o with
    | mk cls dd data sl =>
      cases f2
      cases f3
      exact ⟨m, dd, sl, f1⟩
  exact ⟨us.toArray, ws.toArray, ⟨ob pl1, by rw [List.size_toArray, r1.length]⟩, ⟨ob pl2, by rw [List.size_toArray, ← r2.length, ← p.1]⟩, fun l m => turnG hD h sb p r1 r2 i l m t k⟩
def okEq (C : Nat) (fm : Fm) (d e : D) : Bool := isOb C d && isOb C e && (match fm [.val d, .val e] with
  | some (.bool true, _) => true
  | _ => false)
def okEqs (C : Nat) (fm : Fm) : List D → List D → Bool
  | [], [] => true
  | d :: ds, e :: es => okEq C fm d e && okEqs C fm ds es
  | _, _ => false
def dNeLI (C : Nat) (fm : Fm) : D → D → Option D
  | .list ds, .list es => if okEqs C fm ds es = true then some (.bool false) else none
  | _, _ => none
/-- two values seen to be equal by the class's own == -/
def Qv (K : Frag) (C : Nat) (fm : Fm) : Eqv := fun x y H => ∃ (B : Addr → Bool) (d e : D), (∀ a, B a = true → ∃ o, H a = some o) ∧ okEq C fm d e = true ∧ Rp K (hide B H) x d ∧ Rp K (hide B H) y e
theorem mon_qv {K : Frag} {C : Nat} {fm : Fm} : Mon (Qv K C fm) := fun x y H H' e ⟨B, d, e', bk, ok, h1, h2⟩ => ⟨B, d, e', fun a z => by
  obtain ⟨o, w⟩ := bk a z
  exact ⟨o, e _ _ w⟩, ok, h1.mono (hsub e), h2.mono (hsub e)⟩
theorem qv_ins {K : Frag} {C : Nat} {fm : Fm} {x y : V} {H : Hp} (h : Qv K C fm x y H) : DIns C (fun a b H => Qv K C fm (.ref a) (.ref b) H) x y H := by
  obtain ⟨B, d, e, bk, ok, h1, h2⟩ := id h
  unfold okEq at ok
  simp only [Bool.and_eq_true] at ok
  obtain ⟨fs, rfl⟩ := isOb_oD ok.1.1
  obtain ⟨gs, rfl⟩ := isOb_oD ok.1.2
  obtain ⟨a, dx, us, rfl, g1, _⟩ := h1.oD
  obtain ⟨b, dy, ws, rfl, g2, _⟩ := h2.oD
  exact ⟨a, b, dx, dy, us, ws, rfl, rfl, (hide_some g1).2, (hide_some g2).2, h⟩
theorem spEq_qv {K : Frag} {C : Nat} {fm : Fm} (vs : List V) (H : Hp) (Q : VK) (E : XK) (h : spEq (fun a b H => Qv K C fm (.ref a) (.ref b) H) vs H Q E) : spD K fm vs H Q E := by
  obtain ⟨a, b, rfl, ⟨B, d, e, bk, ok, h1, h2⟩, q⟩ := h
  unfold okEq at ok
  simp only [Bool.and_eq_true] at ok
  cases q1 : fm [.val d, .val e] with
  | none => simp [q1] at ok
  | some r =>
    obtain ⟨z, as'⟩ := r
    have hz : z = .bool true := by
      rw [q1] at ok
      match z, ok.2 with
      | .bool true, _ => rfl
    subst hz
    have key : ∀ (i : Nat) (s : Sl), ([Sl.val d, .val e].map some)[i]? = some (some s) → ∃ d' v, s = .val d' ∧ ([V.ref a, .ref b].map some)[i]? = some (some v) ∧ Rp K (hide B H) v d' := by
      intro i s hs
      match i, hs with
      | 0, hs => exact ⟨d, .ref a, by cases hs; rfl, rfl, h1⟩
      | 1, hs => exact ⟨e, .ref b, by cases hs; rfl, rfl, h2⟩
      | i + 2, hs => simp at hs
    refine ⟨B, [.val d, .val e], .bool true, as', q1, ⟨rfl, fun i d' hs => ?_, fun i s hs m => ?_, fun i j s t l e1 m1 e2 m2 e3 e4 => ?_, bk⟩, fun v H' A r => ?_⟩
    · obtain ⟨d2, v, k1, k2, k3⟩ := key i _ hs
      cases k1
      exact ⟨v, k2, k3⟩
    · obtain ⟨d2, v, k1, k2, k3⟩ := key i _ hs
      subst k1
      cases m
    · obtain ⟨d2, v, k1, k2, k3⟩ := key i _ e1
      subst k1
      cases m1
    · rw [r.booli]
      refine q H' fun x o z => A.keep x o z fun m => ?_
      obtain ⟨i, s, hs, mu, _⟩ := m
      obtain ⟨d2, v, k1, _⟩ := key i _ hs
      subst k1
      cases mu
theorem prs_qv {K : Frag} {C : Nat} {fm : Fm} {B : Addr → Bool} {H : Hp} (bk : ∀ a, B a = true → ∃ o, H a = some o) : ∀ {ds es : List D} {xs ys : List V}, okEqs C fm ds es = true → RpL K (hide B H) xs ds → RpL K (hide B H) ys es → Prs (Qv K C fm) xs ys H
  | [], [], _, _, _, .nil, .nil => Prs.nil
  | d :: ds, e :: es, _, _, ok, .cons h1 r1, .cons h2 r2 => by
    unfold okEqs at ok
    simp only [Bool.and_eq_true] at ok
    exact Prs.cons ⟨B, d, e, bk, ok.1, h1, h2⟩ (prs_qv bk ok.2 r1 r2)
  | [], e :: es, _, _, ok, _, _ => by cases ok
  | d :: ds, [], _, _, ok, _, _ => by cases ok
theorem o_neLI {C j : Nat} {x : Str} {fm : Fm} (T : ClsD c x C) (F : EqD c j C fm) (hk : j + 1 ≤ c.k) : OpD c.K (In c N sc) (compareOp .NotEq) (dNeLI C fm) := by
  obtain ⟨f, fd, ps, F, h1, h2, h3⟩ := F
  refine ⟨rNeG (DListQ c.K (Qv c.K C fm)), fun X I => ?_, fun B H x y d e z bk hx hy hz Q q => ?_⟩
  · obtain ⟨a1, a2, a3, a4, a5, a6, a7, a8, a9, a10, a11⟩ := id I
    have F' : FnOk X.prog X.w X.K X.mg X.base CX0 j f fd ps (spD c.K fm) := by
      rw [a1, a2, a3, a4, a5]
      exact F
    have h := eqG_ins (X := X) (C := C) (E := E0) (F'.imp (spEq_qv (C := C))) (by rw [a3]; exact h1) (by rw [a3]; exact h2) (by rw [a3]; exact h3) pass0
    have h' := op_neLG (mon_qv (K := c.K) (C := C) (fm := fm)) (EqG.imp h fun x y H z => qv_ins z) (a6.mono hk)
    rw [a3] at h'
    exact h'
  · unfold dNeLI at hz
    split at hz
    · rename_i ds es
      split at hz
      · rename_i ok
        cases hz
        obtain ⟨a, xs, rfl, s1, r1⟩ := hx.list
        obtain ⟨b, ys, rfl, s2, r2⟩ := hy.list
        exact ⟨⟨a, b, xs, ys, rfl, rfl, s1, s2, prs_qv bk ok r1 r2⟩, fun H' e => q _ H' e (.bl false)⟩
      · cases hz
    · cases hz
end Dz

/-! Dz. W: names that a comprehension reads (cells) given a comprehension; split. -/
namespace Dz
open PySem L2
variable {c : C0} {N : List Str} {sc : Scope}
theorem sw_cell {elt : Expr} {gs : List Comprehension} {scope : Scope} {pos py : Pos} {y : Str} {l : Nat} {env : Env} (hy : env.scope.names.lookup y = some .cell) : swapsWith (.ListComp elt gs scope pos) (some (.Name y py)) l env = pure false := by
  have ky : env.kindOf y = some .cell := hy
  have e : (env.kindOf y == some NameKind.local) = false := by rw [ky]; rfl
  unfold swapsWith
  simp only [e, Bool.and_false, Bool.false_and]
theorem setC_ (i : Nat) {x : Str} {p1 pos lp : Pos} {elt : Expr} {gs : List Comprehension} {scope : Scope} {me : En → Option (D × En)} (nd : N.Nodup) (h : JE c N sc (.ListComp elt gs scope lp) me) (hN : N[i]? = some x := by rfl) (hx : sc.names.lookup x = some .cell := by rfl) (ht : c.top = true := by rfl) : JS c N sc (.Assign [.Name x p1] (.ListComp elt gs scope lp) pos) (asgS me (setv i)) := by
  have hs : Sto c sc x := .inr ⟨ht, hx⟩
  obtain ⟨t, h1, h2⟩ := h
  exact ⟨_, fun X I => ps_set (by rw [I.N]; exact nd) (by rw [I.N]; exact hN) (hs.loc I) (h1 X I) (sw_cell (by rw [I.sc]; exact hx)) (hs.fn I), ss_asg h2 sgt_name⟩
theorem ownC_ (i : Nat) {x : Str} {p1 pos lp : Pos} {elt : Expr} {gs : List Comprehension} {scope : Scope} {me : En → Option (D × En)} (nd : N.Nodup) (h : JF c N sc (.ListComp elt gs scope lp) me) (hN : N[i]? = some x := by rfl) (hx : sc.names.lookup x = some .cell := by rfl) (ht : c.top = true := by rfl) : JS c N sc (.Assign [.Name x p1] (.ListComp elt gs scope lp) pos) (asgS me (seto i)) := by
  have hs : Sto c sc x := .inr ⟨ht, hx⟩
  obtain ⟨t, h1, h2⟩ := h
  exact ⟨_, fun X I => ps_set (by rw [I.N]; exact nd) (by rw [I.N]; exact hN) (hs.loc I) (h1 X I) (sw_cell (by rw [I.sc]; exact hx)) (hs.fn I), ss_asgo h2⟩
theorem RpL.strs_map {K : Frag} {H : Hp} (ys : List Str) : RpL K H (ys.map V.str) (ys.map PyData.str) := RpL.strs ys
theorem m_split : MeD c.K (In c N sc) "str.split" dSplit := by
  refine ⟨_, fun X I => by
    have h := mt_split (X := X)
    exact h, fun B H x vs ds z bk hv hz Q q => ?_⟩
  unfold dSplit at hz
  split at hz
  · rename_i b
    split at hz
    · rename_i hl
      cases hz
      obtain ⟨v, rfl, h⟩ := hv.rs.one
      rw [h.str]
      refine ⟨x, b, rfl, rfl, hl.1, Nat.le_trans hl.2 (by decide), fun p hp => ?_⟩
      obtain ⟨s1, r2⟩ := lst_new bk hp (RpL.strs (K := c.K) (H := hide B H) (Txt.split x b))
      exact q _ _ s1 r2
    · cases hz
  · cases hz
end Dz

/-! Dz. T: defs that return a new list of their own. -/
namespace Dz
open PySem L2
/-- a slot that the def made itself -/
def Own1 (σ : St) (ρ : En) (l : Addr) : Prop := ∃ (i : Nat) (d : D), ρ[i]? = some (some (.own d)) ∧ σ[i]? = some (some (.ref l))
/-- as Fi, what is returned is the def's own -/
def FiO (K : Frag) (B : Addr → Bool) (σ : St) (H : Hp) (ρ : En) (Dn : Ends) : SO → Prop
  | .rt d ρ' => ∀ l B' σ' H', Bf K B σ H ρ B' σ' H' ρ' → B' l = true → (H l = none ∨ Own1 σ ρ l) → OwnAt K (hide B' H') (H' l) d → Dn.rt (.ref l) H'
  | _ => True
def SSo (K : Frag) (t : TS) (m : En → Option SO) : Prop := ∀ σ H ρ B d ρ', SR K B σ H ρ → m ρ = some (.rt d ρ') → ∀ Dn : Ends, FiO K B σ H ρ Dn (.rt d ρ') → t Dn σ H
def JBo (c : C0) (N : List Str) (sc : Scope) (s : List Stmt) (m : En → Option SO) : Prop := ∃ t, (∀ X, In c N sc X → PSs X s t) ∧ SSo c.K t m
section
variable {K : Frag} {B B1 : Addr → Bool} {σ σ1 : St} {H H1 : Hp} {ρ ρ1 : En} {Dn : Ends}
theorem Own1.back {l : Addr} (S : SR K B σ H ρ) (b : Bf K B σ H ρ B1 σ1 H1 ρ1) (h : H1 l = none ∨ Own1 σ1 ρ1 l) : H l = none ∨ Own1 σ ρ l := by
  rcases h with h | ⟨i, d, h1, h2⟩
  · refine .inl ?_
    cases q : H l with
    | none => rfl
    | some o =>
      obtain ⟨o', e'⟩ := b.grow l o q
      rw [h] at e'
      cases e'
  · rcases b.mine l ⟨i, _, h1, rfl, h2⟩ with ⟨j, s, g1, g2, g3⟩ | z
    · cases s with
      | val e => cases g2
      | own e => exact .inr ⟨j, e, g1, g3⟩
      | bor e =>
        obtain ⟨⟨e', f1⟩, f2⟩ := b.bor j e g1
        have := b.sr.inj i j _ _ l h1 rfl f1 rfl h2 (by rw [f2]; exact g3)
        subst this
        rw [h1] at f1
        cases f1
    · exact .inl z
theorem FiO.after (S : SR K B σ H ρ) (b : Bf K B σ H ρ B1 σ1 H1 ρ1) : ∀ {o : SO}, FiO K B σ H ρ Dn o → FiO K B1 σ1 H1 ρ1 Dn o
  | .rt d ρ', h => fun l B' σ' H' a bl fr ow => h l B' σ' H' (b.trans S a) bl (Own1.back S b fr) ow
  | .nx _, _ => trivial
  | .bk _, _ => trivial
  | .ct _, _ => trivial
end
/-- only the last statement returns -/
def seqO (m1 m2 : En → Option SO) : En → Option SO := fun ρ => (m1 ρ).bind fun o => match o with
  | .nx ρ1 => m2 ρ1
  | _ => none
def retO (i : Nat) : En → Option SO := fun ρ => match ρ[i]? with
  | some (some (.own d)) => some (.rt d ρ)
  | _ => none
section
variable {c : C0} {N : List Str} {sc : Scope} {s : Stmt} {rest : List Stmt} {m1 m2 : En → Option SO} {e : Expr} {me : En → Option (D × En)} {pos p1 p : Pos} {x : Str} {i : Nat}
theorem jbo_cons (h : JS c N sc s m1) (k : JBo c N sc rest m2) : JBo c N sc (s :: rest) (seqO m1 m2) := by
  obtain ⟨t, h1, h2⟩ := h
  obtain ⟨u, k1, k2⟩ := k
  refine ⟨_, fun X I => pss_cons (h1 X I) (k1 X I), fun σ H ρ B d ρ' S ee Dn hh => ?_⟩
  unfold seqO at ee
  cases q : m1 ρ with
  | none => simp [q] at ee
  | some o1 =>
    simp only [q, Option.bind_some] at ee
    refine h2 σ H ρ B o1 S q _ ?_
    cases o1 with
    | nx ρ1 => exact fun B' σ' H' a => k2 σ' H' ρ1 B' d ρ' a.sr ee Dn (FiO.after S a hh)
    | rt d ρ1 => cases ee
    | bk ρ1 => cases ee
    | ct ρ1 => cases ee
theorem jbo_ret (h : JF c N sc e me) : JBo c N sc [.Return (some e) pos] (retS me) := by
  obtain ⟨t, h1, h2⟩ := h
  refine ⟨_, fun X I => pss_one (ps_ret (h1 X I)), fun σ H ρ B d ρ' S ee Dn hh => ?_⟩
  unfold retS at ee
  cases q : me ρ with
  | none => simp [q] at ee
  | some p =>
    obtain ⟨d1, ρ1⟩ := p
    simp [q] at ee
    obtain ⟨rfl, rfl⟩ := ee
    refine h2 σ H ρ B _ _ S q _ fun l H1 A SR1 n ow => ?_
    refine hh l (ins l B) σ H1 ⟨SR1, A.keep, A.grow, fun b z => ?_, fun b z _ => ?_, fun b z => .inl (A.kin.mine.mp z), fun j d' z => ?_⟩ (by simp [ins]) (.inl n) ow
    · unfold ins at z
      simp at z
      rcases z with z | z
      · exact .inr (by rw [z]; exact n)
      · exact .inl z
    · simp [ins, z]
    · have k := A.kin j
      rw [z] at k
      exact ⟨k.bor, rfl⟩
theorem jbo_own (hN : N[i]? = some x) (hv : Vis sc x) (hd : (x == ("__debug__" : Str)) = false := by decide) (hcd : (x == ("__classdict__" : Str)) = false := by decide) : JBo c N sc [.Return (some (.Name x p1)) pos] (retO i) := by
  refine ⟨_, fun X I => pss_one (ps_ret (pe_var (i := i) (by rw [I.N]; exact hN) (I.vis hv) hd hcd)), fun σ H ρ B d ρ' S ee Dn hh => ?_⟩
  unfold retO at ee
  split at ee
  · rename_i d1 h1
    cases ee
    obtain ⟨l, g1, g2, g3⟩ := S.mu_ i _ h1 rfl
    exact ⟨.ref l, g1, hh l B σ H (Bf.refl S) g2 (.inr ⟨i, _, h1, g1⟩) g3⟩
  · cases ee
end
/-- what a def promises whose result is new -/
def spO (K : Frag) (fm : Fm) : Sp := fun vs H Q _ => ∃ (B : Addr → Bool) (as : List Sl) (d : D) (as' : List Sl), fm as = some (d, as') ∧ SR K B (vs.map some) H (as.map some) ∧
  ∀ l H', Af K B (vs.map some) H (as.map some) H' (as'.map some) → SR K (ins l B) (vs.map some) H' (as'.map some) → H l = none → OwnAt K (hide (ins l B) H') (H' l) d → Q (.ref l) H'
def runO (p n : Nat) (m : En → Option SO) : Fm := fun as => if as.length = p ∧ noOwn as = true then (match m (as.map some ++ List.replicate (n - p) none) with
  | some (.rt d ρ) => some (d, finA as ρ)
  | _ => none) else none
section
variable {K : Frag} {B B' : Addr → Bool} {σ' : L2.St} {H H' : Hp} {ρ' : En} {vs : List V} {as : List Sl} {n : Nat}
/-- with one more place hidden -/
theorem hide_put {l : Addr} {o : HO} (h : H l = none) : hide (ins l B) (upd H l o) = hide B H := by
  funext a
  unfold hide ins
  by_cases q : a = l
  · subst q
    simp [h]
  · rw [upd_ne q]
    simp [q]
theorem af_put {σ : St} {ρ : En} {l : Addr} {o : HO} (A : Af K B σ H ρ H' ρ') (S : SR K (ins l B) σ H' ρ') (n : H l = none) (o' : H' l = some o) : Af K (ins l B) σ (upd H l o) ρ H' ρ' := by
  refine ⟨S, fun b u e nm => ?_, fun b u e => ?_, A.kin⟩
  · by_cases q : b = l
    · subst q
      rw [upd_same] at e
      cases e
      exact o'
    · rw [upd_ne q] at e
      exact A.keep b u e nm
  · by_cases q : b = l
    · subst q
      exact ⟨_, o'⟩
    · rw [upd_ne q] at e
      exact A.grow b u e
theorem sr_put {σ : St} {ρ : En} {l : Addr} {o : HO} (S : SR K B σ H ρ) (n : H l = none) : SR K (ins l B) σ (upd H l o) ρ := by
  refine ⟨S.len, fun i d h => ?_, fun i s h m => ?_, S.inj, fun a h => ?_⟩
  · obtain ⟨v, g1, g2⟩ := S.val i d h
    exact ⟨v, g1, by rw [hide_put n]; exact g2⟩
  · obtain ⟨k, g1, g2, g3⟩ := S.mu_ i s h m
    obtain ⟨u, g4⟩ := g3.ne
    have ne : k ≠ l := fun e => by rw [e, n] at g4; cases g4
    refine ⟨k, g1, by simp [ins, g2], ?_⟩
    rw [hide_put n, upd_ne ne]
    exact g3
  · unfold ins at h
    simp at h
    by_cases q : a = l
    · subst q
      exact ⟨_, upd_same⟩
    · rw [upd_ne q]
      exact S.bk a (h.resolve_left q)
theorem arOk_put {σ : St} {ρ : En} {l : Addr} {o : HO} (n : H l = none) {v : V} : ∀ {a : Ar}, ArOk K B σ H ρ v a → ArOk K (ins l B) σ (upd H l o) ρ v a
  | .v d, h => by
    show Rp K (hide (ins l B) (upd H l o)) v d
    rw [hide_put n]
    exact h
  | .b i, h => h
theorem arsOk_put {σ : St} {ρ : En} {l : Addr} {o : HO} (n : H l = none) : ∀ {vs : List V} {as : List Ar}, ArsOk K B σ H ρ vs as → ArsOk K (ins l B) σ (upd H l o) ρ vs as
  | [], [], h => h
  | [], _ :: _, h => h
  | _ :: _, [], h => h
  | v :: vs, a :: as, ⟨h1, h2⟩ => ⟨arOk_put n h1, arsOk_put n h2⟩
end
section
variable {K : Frag} {B B' : Addr → Bool} {σ' : L2.St} {H H' : Hp} {ρ' : En} {vs : List V} {as : List Sl} {n : Nat} {l : Addr}
theorem leave_vis (S : SR K B (vs.map some) H (as.map some)) (no : noOwn as = true) (b : Bf K B (vs.map some ++ List.replicate n none) H (as.map some ++ List.replicate n none) B' σ' H' ρ') (bl : B' l = true) : Sub (hide B' H') (hide (ins l B) H') := fun a o z => by
  obtain ⟨z1, z2⟩ := hide_some z
  refine hide_of ?_ z2
  have ne : a ≠ l := fun e => by rw [e, bl] at z1; cases z1
  have : B a = false := by
    cases q : B a with
    | false => rfl
    | true =>
      exfalso
      by_cases m : Mine (vs.map some) (as.map some) a
      · obtain ⟨i, s, e, mu, e2⟩ := m
        have e := some_get.mp e
        cases s with
        | val d => cases mu
        | own d => exact absurd e (noOwn_get no)
        | bor d =>
          obtain ⟨⟨d', h1⟩, h2⟩ := b.bor i d (pad_get.mpr e)
          obtain ⟨k, g1, g2, _⟩ := b.sr.mu_ i _ h1 rfl
          rw [h2, pad_get.mpr (some_get.mp e2)] at g1
          cases g1
          rw [g2] at z1
          cases z1
      · have := b.hold a q fun z => m (entry_mine.mp z)
        rw [this] at z1
        cases z1
  simp [ins, ne, this]
theorem leave_ins (S : SR K B (vs.map some) H (as.map some)) (no : noOwn as = true) (b : Bf K B (vs.map some ++ List.replicate n none) H (as.map some ++ List.replicate n none) B' σ' H' ρ') (bl : B' l = true) (nl : H l = none) : SR K (ins l B) (vs.map some) H' ((finA as ρ').map some) := by
  obtain ⟨a, _⟩ := leave_af S no b
  have vis := leave_vis S no b bl
  have hs : Sub (hide B H) (hide (ins l B) H') := fun k o z => by
    obtain ⟨z1, z2⟩ := hide_some z
    have ne : k ≠ l := fun e => by rw [e, nl] at z2; cases z2
    refine hide_of (by simp [ins, ne, z1]) (a.keep k o z2 fun m => ?_)
    rw [S.mine m] at z1
    cases z1
  refine ⟨a.sr.len, fun i d e => ?_, fun i s e m => ?_, a.sr.inj, fun k h => ?_⟩
  · have k := a.kin i
    rw [e] at k
    have e0 : (as.map some)[i]? = some (some (.val d)) := by
      match q : (as.map some)[i]?, k with
      | some (some (.val d')), k =>
        have : d' = d := k
        rw [this]
    obtain ⟨v, f1, f2⟩ := S.val i d e0
    exact ⟨v, f1, f2.mono hs⟩
  · obtain ⟨k, g1, g2, _⟩ := a.sr.mu_ i s e m
    refine ⟨k, g1, by simp [ins, g2], ?_⟩
    have e := some_get.mp e
    rcases (finA_get as ρ' i).2 with ⟨d, d', a1, a2, a3⟩ | ⟨a1, a2⟩
    · rw [a3] at e
      cases e
      obtain ⟨k', f1, f2, f3⟩ := b.sr.mu_ i _ a2 rfl
      obtain ⟨_, h2⟩ := b.bor i d (pad_get.mpr a1)
      rw [h2, pad_get.mpr (some_get.mp g1)] at f1
      cases f1
      exact f3.mono vis
    · rw [a1] at e
      cases s with
      | val d => cases m
      | own d => exact absurd e (noOwn_get no)
      | bor d =>
        obtain ⟨⟨d', h1⟩, _⟩ := b.bor i d (pad_get.mpr e)
        exact absurd h1 (a2 d d' e)
  · by_cases q : k = l
    · subst q
      cases z : H' k with
      | some o => exact ⟨o, rfl⟩
      | none =>
        exfalso
        obtain ⟨o, e⟩ := b.sr.bk k bl
        rw [z] at e
        cases e
    · exact a.sr.bk k (by simpa [ins, q] using h)
end
section
variable {c : C0} {N : List Str} {sc : Scope} {e : Expr} {es : List Expr} {mr : En → Option (List Ar × En)} {pos p : Pos} {K : Frag} {x : Str}
theorem sf_call {ta : TA} {fm : Fm} {E : XK} (h : SG K ta mr) : Sf K (tCall (spO K fm) [] E ta) (callK fm mr) := fun σ H ρ B d ρ' S e Q q => by
  unfold callK at e
  cases q1 : mr ρ with
  | none => simp [q1] at e
  | some p =>
    obtain ⟨ars, ρ1⟩ := p
    simp only [q1, Option.bind_some] at e
    split at e
    · rename_i hl
      cases q2 : toSls ρ1 ars with
      | none => simp [q2] at e
      | some ss =>
        cases q3 : fm ss with
        | none => simp [q2, q3] at e
        | some r =>
          obtain ⟨z, ss'⟩ := r
          simp [q2, q3] at e
          obtain ⟨rfl, rfl⟩ := e
          refine h σ H ρ B _ _ S q1 _ fun vs H1 A1 ha => ?_
          show spO K fm (vs ++ []) H1 Q E
          rw [List.append_nil]
          refine ⟨B, ss, z, ss', q3, (call_sr A1.sr ha hl q2).1, fun l H2 A2 S2 n ow => ?_⟩
          obtain ⟨o, e2⟩ := ow.ne
          have n0 : H l = none := by
            cases q : H l with
            | none => rfl
            | some u =>
              obtain ⟨u', e'⟩ := A1.grow l u q
              rw [n] at e'
              cases e'
          exact q l H2 (A1.trans (call_back A1.sr ha hl q2 A2)) (call_back (sr_put (o := o) A1.sr n) (arsOk_put n ha) hl q2 (af_put A2 S2 n e2)).sr n0 ow
    · cases e
def FnO (c : C0) (k : Nat) (x : Str) (ps : List Str) (fm : Fm) : Prop :=
  ∃ (f : Addr) (fd : FuncData), FnOk c.P c.w c.K c.mg c.base CX0 k f fd ps (spO c.K fm) ∧ c.mg x = some (.ref f) ∧ PySem.W.keepIn c.K (.ref f) = true ∧ Binds c.K fd ps []
theorem jf_call {fm : Fm} {ps : List Str} {k : Nat} (F : FnO c k x ps fm) (hk : k ≤ c.k) (hg : sc.names.lookup x = some .globalImplicit) (ha : JG c N sc (e :: es) mr)
    (hdb : (x == ("__debug__" : Str)) = false := by decide) (he : ∀ env, starEach (e :: es) env = (false, eval e env) :: starEach es env := by intros; rfl) (hpl : ∀ env, (backTo pos (starEach es env)).any (·.1) = false := by intros; rfl) :
    JF c N sc (.Call (.Name x p) (e :: es) [] pos) (callK fm mr) := by
  obtain ⟨f, fd, F, h1, h2, h3⟩ := F
  obtain ⟨t, p1, s1⟩ := ha
  refine ⟨tCall (spO c.K fm) [] E0 t, fun X I => ?_, sf_call s1⟩
  obtain ⟨a1, a2, a3, a4, a5, a6, a7, a8, a9, a10, a11⟩ := id I
  have F' : FnOk X.prog X.w X.K X.mg X.base CX0 k f fd ps (spO c.K fm) := by
    rw [a1, a2, a3, a4, a5]
    exact F
  exact pe_call F' (a6.mono hk) (I.gl hg) (by rw [a4]; exact h1) (by rw [a3]; exact h2) (by rw [a3]; exact h3) .nil pass0 (p1 X I) hdb (he _) (hpl _)
end
/-- THE RULE for a def whose result is new -/
theorem fn_okO {c : C0} {x qual : Str} {st : Stmt} {f : Addr} {fd : FuncData} {N ps : List Str} {k : Nat} {m : En → Option SO} (F : Fun c.K x qual st f fd) (S : FnScope N ps (defScope st)) (h : JBo { c with k := k, top := true } N (defScope st) (defBody st) m) (hn : ps.length ≤ N.length := by decide) :
    FnOk c.P c.w c.K c.mg c.base CX0 (k + 1) f fd ps (spO c.K (runO ps.length N.length m)) := by
  refine F.ok S (fun vs H Q E h => ?_) (fun cdv A outer s H vs Q E hr h' => ?_)
  · obtain ⟨B, as, d, as', h1, h2, _⟩ := h
    have hl := h2.len
    rw [List.length_map, List.length_map] at hl
    unfold runO at h1
    split at h1
    · rename_i q
      rw [hl]; exact q.1
    · cases h1
  · obtain ⟨B, as, d, as', h1, h2, h3⟩ := h'
    obtain ⟨t, t1, t2⟩ := h
    refine ⟨t, t1 _ ⟨rfl, rfl, rfl, rfl, rfl, hr, rfl, rfl, rfl, fun _ => rfl, PassesOwn.never⟩, ?_⟩
    have hl := h2.len
    rw [List.length_map, List.length_map] at hl
    unfold runO at h1
    split at h1
    · rename_i q
      obtain ⟨q1, q2⟩ := q
      have es : L2.start N vs = vs.map some ++ List.replicate (N.length - ps.length) none := by
        unfold L2.start
        rw [hl, q1]
      rw [es]
      have S0 := entry_sr (n := N.length - ps.length) h2
      split at h1
      · rename_i d' ρ' e
        cases h1
        refine t2 _ H _ B _ _ S0 e _ fun l B' σ' H' b bl fr ow => ?_
        have n : H l = none := by
          rcases fr with z | ⟨i, d0, z1, z2⟩
          · exact z
          · exact absurd (pad_get.mp z1) (noOwn_get q2)
        obtain ⟨a, w⟩ := leave_af h2 q2 b
        exact h3 l H' a (leave_ins h2 q2 b bl n) n (ow.mono (leave_vis h2 q2 b bl))
      · cases h1
    · cases h1
theorem fnO {c : C0} {x qual : Str} {st : Stmt} {f : Addr} {fd : FuncData} {N ps : List Str} {k : Nat} {m : En → Option SO} (F : Fun c.K x qual st f fd) (hm : c.mg x = some (.ref f)) (b : Binds c.K fd ps []) (S : FnScope N ps (defScope st)) (h : JBo { c with k := k, top := true } N (defScope st) (defBody st) m) (hn : ps.length ≤ N.length := by decide) :
    FnO c (k + 1) x ps (runO ps.length N.length m) := ⟨f, fd, fn_okO F S h hn, hm, F.kp, b⟩
theorem At.fno {c : C0} {x : Str} {st : Stmt} {N ps : List Str} {k : Nat} {m : En → Option SO} (A : At c x st ps) (S : FnScope N ps (defScope st)) (h : JBo { c with k := k, top := true } N (defScope st) (defBody st) m) (hn : ps.length ≤ N.length := by decide) : FnO c (k + 1) x ps (runO ps.length N.length m) := by
  obtain ⟨f, fd, F, hm, b⟩ := A
  exact fnO F hm b S h hn
theorem retO_ {c : C0} {N : List Str} {sc : Scope} {x : Str} {p1 pos : Pos} (i : Nat) (hN : N[i]? = some x := by rfl) (hv : Vis sc x := by first | exact Or.inl rfl | exact Or.inr (Or.inl rfl) | exact Or.inr (Or.inr rfl)) (hd : (x == ("__debug__" : Str)) = false := by decide) (hcd : (x == ("__classdict__" : Str)) = false := by decide) : JBo c N sc [.Return (some (.Name x p1)) pos] (retO i) := jbo_own hN hv hd hcd
end Dz

/-! Dz. Y: max and min of a list of data, the place of a datum in a list, is of truth values. -/
namespace Dz
open PySem L2
variable {c : C0} {N : List Str} {sc : Scope}
theorem dpAll_at {K : Frag} {H : Hp} : ∀ {vs : List V} {ds : List D} {i : Nat} {v : V}, DpAll K H vs ds → vs[i]? = some v → ∃ d, ds[i]? = some d ∧ Dp K H v d
  | _, _, _, _, .nil, e => nomatch e
  | _, _, 0, _, .cons h _, e => by
    cases e
    exact ⟨_, rfl, h⟩
  | _, _, i + 1, _, .cons _ r, e => dpAll_at (i := i) r e
def okMx (ds : List D) : Bool := ds.all (okD 58) && (ds.all (fun x => ds.all fun y => PySem.W.alike x y) && ds.all fun x => !isNoneD x)
theorem okMx_all {ds : List D} (h : okMx ds = true) : PyData.depthAll ds ≤ 58 ∧ plains ds = true ∧ PySem.W.AlikeAll ds := by
  unfold okMx at h
  simp only [Bool.and_eq_true] at h
  obtain ⟨h1, h2, h3⟩ := h
  obtain ⟨_, k2, k3⟩ := okD_all (k := 58) (fun d hd => okD_ok 58 d hd) ds h1
  refine ⟨k2, k3, fun x hx y hy => List.all_eq_true.mp (List.all_eq_true.mp h2 x hx) y hy, fun x hx z => ?_⟩
  have := List.all_eq_true.mp h3 x hx
  rw [z] at this
  cases this
/-- one of a list's items is picked by the data -/
def rPick (K : Frag) (f : D → List D → D) : List V → Hp → VK → Prop := fun vs H Q => ∃ (a : Addr) (xs : List V) (d : D) (ds : List D), vs = [.ref a] ∧ SqL K H a xs ∧ DpAll K H xs (d :: ds) ∧ okMx (d :: ds) = true ∧ ∀ (i : Nat) v, xs[i]? = some v → (d :: ds)[i]? = some (f d ds) → Q v H
section
variable {X : Cx}
theorem cr_pick {id : String} {f : D → List D → D} (hc : X.calm = true) (hu : X.A.units + 64 < cLine)
    (rule : ∀ {s : Shared} {l : Addr} {vs : Array Value} {d : D} {ds : List D} {as : List Addr} {Q : Value → Shared → Prop}, X.A.handled = none → s.heap.IsList l vs → ReadsAll s.heap vs.toList (d :: ds) as → PySem.W.AlikeAll (d :: ds) → X.A.units + 1 + PyData.depthAll (d :: ds) < cLine →
      (∀ (i : Nat) v h' tk bs, vs[i]? = some v → Reads h' v (f d ds) bs → (∀ b o, s.heap.get? b = some o → h'.get? b = some o) → Q v { s with heap := h', toks := tk }) → wpAny (model X.prog X.w) X.A (call (.builtin id) [.ref l]) Q X.xe s) : CallR X (.builtin id) (rPick X.K f) := by
  intro pins s σ H vs us Q I r h
  obtain ⟨a, xs, d, ds, rfl, hs, hd, ok, q⟩ := h
  obtain ⟨dep, _, al⟩ := okMx_all ok
  obtain ⟨its, rv, pl, _⟩ := I.list hs
  rw [Vals.ref1 r]
  obtain ⟨as, rd⟩ := Dp.readsAll I (d :: ds) xs its hd rv
  refine rule (I.ok.hd hc) pl.isList rd al (by omega) fun i v h' tk bs hi hr hk => ?_
  have hi' : its[i]? = some v := by simpa using hi
  have li : i < xs.length := by
    have := (List.getElem?_eq_some_iff.mp hi').1
    have := rv.length
    omega
  obtain ⟨u, hu', ru⟩ := rv.get (List.getElem?_eq_getElem li)
  rw [hi'] at hu'
  cases hu'
  obtain ⟨e, he, de⟩ := dpAll_at hd (List.getElem?_eq_getElem li)
  obtain ⟨cs, re⟩ := Dp.reads I e _ v de ru
  have same := (PyProof.Rows.reads_det (fun b o x _ => hk b o x) re hr).1
  exact ⟨_, H, I.kept hk, ru, q i _ (List.getElem?_eq_getElem li) (by rw [same]; exact he)⟩
end
def dMaxL : List D → Option D
  | [.list (d :: ds)] => if okMx (d :: ds) = true then some (PySem.W.maxD d ds) else none
  | _ => none
def dMinL : List D → Option D
  | [.list (d :: ds)] => if okMx (d :: ds) = true then some (PySem.W.minD d ds) else none
  | _ => none
theorem c_maxL : CaD c.K (In c N sc) (.builtin "max") dMaxL := by
  refine ⟨rPick c.K PySem.W.maxD, fun X I => ?_, fun B H vs ds z bk hv hz Q q => ?_⟩
  · have h := cr_pick (X := X) (id := "max") (f := PySem.W.maxD) I.calm I.rm.units fun hh hl hr ha hu h => PySem.W.max_list_data hh hl hr ha hu h
    rw [I.K] at h
    exact h
  · unfold dMaxL at hz
    split at hz
    · rename_i d ds
      split at hz
      · rename_i ok
        cases hz
        obtain ⟨v, rfl, h⟩ := hv.one
        obtain ⟨a, xs, rfl, h1, r1⟩ := h.list
        exact ⟨a, xs, d, ds, rfl, h1, (r1.mono (hide_sub B H)).dp (okMx_all ok).2.1, ok, fun i v e1 e2 => by
          obtain ⟨e, k1, k2⟩ := r1.get e1
          rw [e2] at k1
          cases k1
          exact q v H (Sub.refl H) k2⟩
      · cases hz
    · cases hz
theorem c_minL : CaD c.K (In c N sc) (.builtin "min") dMinL := by
  refine ⟨rPick c.K PySem.W.minD, fun X I => ?_, fun B H vs ds z bk hv hz Q q => ?_⟩
  · have h := cr_pick (X := X) (id := "min") (f := PySem.W.minD) I.calm I.rm.units fun hh hl hr ha hu h => PySem.W.min_list_data hh hl hr ha hu h
    rw [I.K] at h
    exact h
  · unfold dMinL at hz
    split at hz
    · rename_i d ds
      split at hz
      · rename_i ok
        cases hz
        obtain ⟨v, rfl, h⟩ := hv.one
        obtain ⟨a, xs, rfl, h1, r1⟩ := h.list
        exact ⟨a, xs, d, ds, rfl, h1, (r1.mono (hide_sub B H)).dp (okMx_all ok).2.1, ok, fun i v e1 e2 => by
          obtain ⟨e, k1, k2⟩ := r1.get e1
          rw [e2] at k1
          cases k1
          exact q v H (Sub.refl H) k2⟩
      · cases hz
    · cases hz
/-! is of truth values -/
def dIsT : D → D → Option D
  | .bool a, .bool b => some (.bool (decide (a = b)))
  | _, _ => none
def dIsNotT : D → D → Option D
  | .bool a, .bool b => some (.bool (!decide (a = b)))
  | _, _ => none
theorem o_isT : OpD c.K (In c N sc) (compareOp .Is) dIsT := by
  refine ⟨_, fun X I => op_isBl, fun B H x y d e z bk hx hy hz Q q => ?_⟩
  unfold dIsT at hz
  split at hz
  · cases hz
    exact ⟨_, _, hx.bool, hy.bool, q _ H (Sub.refl H) (.bl _)⟩
  · cases hz
theorem o_isNotT : OpD c.K (In c N sc) (compareOp .IsNot) dIsNotT := by
  refine ⟨_, fun X I => op_notBl, fun B H x y d e z bk hx hy hz Q q => ?_⟩
  unfold dIsNotT at hz
  split at hz
  · cases hz
    exact ⟨_, _, hx.bool, hy.bool, q _ H (Sub.refl H) (.bl _)⟩
  · cases hz
/-! xs.index(v) -/
def dIndex (ds : List D) (d : D) : Option D := if okD 60 (.list ds) = true ∧ okD 60 d = true then (ds.findIdx? fun z => PyData.eqv z d).map fun j => .int (j : Nat) else none
def indexK (ma mb : En → Option (D × En)) : En → Option (D × En) := fun ρ => match ma ρ with
  | some (.list ds, ρ1) => (mb ρ1).bind fun q => (dIndex ds q.1).map fun z => (z, q.2)
  | _ => none
theorem je_index {o e : Expr} {p2 p3 : Pos} {mo ma : En → Option (D × En)} (h : JE c N sc o mo) (ha : JE c N sc e ma)
    (hbase : ∀ env, attributeBase o "index" env (eval o env) = eval o env := by intros; rfl)
    (hfew : ∀ env, ((backTo p3 (starEach [e] env)).all (fun x => !x.1) && (backToKw p3 (keywordEach [] env)).all (fun x => x.1.isSome) && decide (([e] : List Expr).length + ([] : List Keyword).length + (if ([] : List Keyword).isEmpty then 0 else 1) < 30)) = true := by intros; rfl)
    (hline : (p2.endLine == p3.line) = true := by rfl) (hs : ∀ env, starEach [e] env = (false, eval e env) :: starEach [] env := by intros; rfl) (hplain : ∀ env, (backTo p3 (starEach [] env)).any (·.1) = false := by intros; rfl) :
    JE c N sc (.Call (.Attribute o "index" p2) [e] [] p3) (indexK mo ma) := by
  obtain ⟨t, h1, h2⟩ := h
  obtain ⟨u, k1, k2⟩ := ha
  refine ⟨tBM c.K "list" (rIndexD c.K) t (tCons u tNil), fun X I => ?_, fun σ H ρ B d ρ' S ee Q q => ?_⟩
  · have z := pe_bm (apos := p2) (cpos := p3) PySem.F.plainAttrs_list PySem.F.slot_list_index PySem.F.type_list_index (mt_indexD (X := X) (by have := I.rm.un; omega)) (h1 X I) (pa_cons (k1 X I) pa_nil (hs _)) (hbase _) (hfew _) hline (hs _) (hplain _)
    rw [I.K] at z
    exact z
  · unfold indexK at ee
    split at ee
    · rename_i ds ρ1 e1
      cases e2 : ma ρ1 with
      | none => simp [e2] at ee
      | some p =>
        obtain ⟨y, ρ2⟩ := p
        cases e3 : dIndex ds y with
        | none => simp [e2, e3] at ee
        | some z =>
          simp [e2, e3] at ee
          obtain ⟨rfl, rfl⟩ := ee
          refine h2 σ H ρ B _ _ S e1 _ fun v H1 A1 r1 => ?_
          cases r1 with
          | lst hs1 rr1 =>
            refine ⟨.inl ⟨rfl, _, sub_l (hide_sub B H1) hs1⟩, ?_⟩
            refine k2 σ H1 ρ1 B _ _ A1.sr e2 _ fun w H2 A2 r2 => ?_
            unfold dIndex at e3
            split at e3
            · rename_i ok
              obtain ⟨o1, o2⟩ := ok
              cases e4 : ds.findIdx? (fun z => PyData.eqv z y) with
              | none => simp [e4] at e3
              | some j =>
                simp [e4] at e3
                subst e3
                obtain ⟨lj, ej, nj⟩ := List.findIdx?_eq_some_iff_getElem.mp e4
                have sh1 := okD_shaped o1 (by decide)
                have sh2 := okD_shaped o2 (by decide)
                have rl : Rp c.K (hide B H2) (.ref _) (.list ds) := (Rp.lst hs1 rr1).mono (A2.sub A1.sr)
                refine ⟨_, w, y, ds, j, ds[j], rfl, rfl, (rl.mono (hide_sub B H2)).dp sh1.2, (r2.mono (hide_sub B H2)).dp sh2.2, sh1.1, sh2.1, List.getElem?_eq_getElem lj, ej, fun m z' hm hz' => ?_, q _ H2 (A1.trans A2) (.int _)⟩
                have lm : m < ds.length := by omega
                rw [List.getElem?_eq_getElem lm] at hz'
                cases hz'
                have := nj m hm
                simpa using this
            · cases e3
    · cases ee
end Dz

/-! Dz. Z: list(zip(t, u)) of two tuples. -/
namespace Dz
open PySem L2
open PySem.Sem (wp)
section
variable {prog : Program} {w : World} {A : Around} {E : Value → Shared → Prop} {s : Shared} {z TI TO i1 i2 l1 l2 : Addr} {xs ys : Array Value}
/-- what a zip's next leaves alone -/
def Rest (z TO i1 i2 : Addr) (h h' : Heap) : Prop := ∀ c o, c ≠ z → c ≠ TO → c ≠ i1 → c ≠ i2 → h.get? c = some o → h'.get? c = some o
theorem zh_code {T : Addr} {f : Bool} {oT : Obj} {k : Nat} {Q : Value → Shared → Prop} (hh : A.handled = none) (D : ZipApart z TI TO i1 i2 l1 l2)
    (hz : IsZipHeld s.heap z TI TO T f) (hT : s.heap.get? T = some oT) (hTI : IsPair s.heap TI (.ref i1) (.ref i2))
    (h1 : s.heap.IsTupleIter i1 l1 k) (h2 : s.heap.IsTupleIter i2 l2 k) (hl1 : s.heap.IsTuple l1 xs) (hl2 : s.heap.IsTuple l2 ys)
    (hQ : ∀ x y h', xs[k]? = some x → ys[k]? = some y → IsZipHeld h' z TI TO T true → h'.IsTupleIter i1 l1 (k + 1) → h'.IsTupleIter i2 l2 (k + 1) → IsPair h' s.heap.objs.size x y → h'.objs.size = s.heap.objs.size + 1 →
      Rest z TO i1 i2 s.heap h' → Q (.ref s.heap.objs.size) { s with heap := h' })
    (hE : ∀ h' e, (xs[k]? = none ∨ ys[k]? = none) → Rest z TO i1 i2 s.heap h' → (∃ o, h'.get? e = some o ∧ o.cls = .type "StopIteration") → E (.ref e) { s with heap := h' }) :
    wpAny (model prog w) A (Builtin.«zip.__next__» ⟨[.ref z], []⟩) (fun fin s' => ∃ v, fin = .done (.ret v) ∧ Q v s') E s := by
  show wpAny _ _ (field (.ref z) 2 >>= _) _ _ _
  refine wpAny_bind (wpAny_field hz rfl (x := .bool false) rfl ?_)
  show wpAny _ _ (field (.ref z) 3 >>= _) _ _ _
  refine wpAny_bind (wpAny_field hz rfl (x := .ref TI) rfl ?_)
  refine wpAny_bind (wpAny_seqItems hTI rfl ?_)
  show wpAny _ _ (Builtin.SmallTypes.ownedTupleIsFree (.ref z) >>= _) _ _ _
  refine wpAny_bind (wpAny_tupleHeld_zip hz hT fun ha hza sa => ?_)
  simp only [Bool.false_eq_true, if_false]
  have ta : ha.IsTuple l1 xs := hl1.extBut sa.extBut D.l1z
  have ua : ha.IsTuple l2 ys := hl2.extBut sa.extBut D.l2z
  refine wpAny_bind ?_
  rw [← Array.forIn_toList]
  simp only [List.forIn_cons, List.forIn_nil]
  refine wpAny_bind (wpAny_bind (wpAny_holding ?_))
  show wpAny _ _ (Builtin.SmallTypes.nextOf (.ref i1) >>= _) _ _ _
  cases ex : xs[k]? with
  | none =>
    refine wpAny_bind (RZ.nextOf_tuple_end (s := { s with heap := ha }) hh (h1.extBut sa.extBut D.i1z) ta ex fun hb e sb he => ?_)
    exact hE hb e (.inl ex) (fun c o c1 _ c3 _ q => sb _ _ c3 (sa.extBut _ _ c1 q)) he
  | some x =>
    refine wpAny_bind (RZ.nextOf_tuple_item (s := { s with heap := ha }) (h1.extBut sa.extBut D.i1z) ta ex fun hb i1b sb => wpAny_pure ?_)
    refine wpAny_pure ?_
    refine wpAny_bind (wpAny_bind (wpAny_holding ?_))
    show wpAny _ _ (Builtin.SmallTypes.nextOf (.ref i2) >>= _) _ _ _
    have j2 : hb.IsTupleIter i2 l2 k := (h2.extBut sa.extBut D.i2z).extBut sb.extBut D.i12.symm
    have ub : hb.IsTuple l2 ys := ua.extBut sb.extBut D.l2i1
    cases ey : ys[k]? with
    | none =>
      refine wpAny_bind (RZ.nextOf_tuple_end (s := { s with heap := hb }) hh j2 ub ey fun hc e sc he => ?_)
      exact hE hc e (.inr ey) (fun c o c1 _ c3 c4 q => sc _ _ c4 (sb.extBut _ _ c3 (sa.extBut _ _ c1 q))) he
    | some y =>
      refine wpAny_bind (RZ.nextOf_tuple_item (s := { s with heap := hb }) j2 ub ey fun hc i2c sc => wpAny_pure ?_)
      refine wpAny_pure (wpAny_pure ?_)
      show wpAny _ _ (newTuple [x, y] >>= _) _ _ _
      refine wpAny_bind (wpAny_newTuple (wpAny_pure ⟨_, rfl, ?_⟩))
      have size : hc.objs.size = s.heap.objs.size := by rw [sc.1, sb.1, sa.1]
      have up : ∀ c o, hc.get? c = some o → (hc.push { cls := .type "tuple", data := .seq #[x, y] }).get? c = some o := fun c o q => Heap.get?_push_of_some _ q
      have at0 : IsPair (hc.push { cls := .type "tuple", data := .seq #[x, y] }) hc.objs.size x y := Heap.get?_push_size _ rfl
      have sz0 : (hc.push { cls := .type "tuple", data := .seq #[x, y] }).objs.size = hc.objs.size + 1 := Heap.size_push ..
      show Q (.ref hc.objs.size) _
      rw [size] at at0 sz0 ⊢
      refine hQ x y _ ex ey (up _ _ (sc.extBut _ _ D.i2z.symm (sb.extBut _ _ D.i1z.symm hza))) ?_ ?_ at0 sz0 fun c o c1 _ c3 c4 q => up _ _ (sc.extBut _ _ c4 (sb.extBut _ _ c3 (sa.extBut _ _ c1 q)))
      · exact (i1b.extBut sc.extBut D.i12).at fun o q => up _ _ q
      · exact i2c.at fun o q => up _ _ q
theorem zh_next {T : Addr} {f : Bool} {oT : Obj} {k : Nat} {Q : Option Value → Shared → Prop} (hh : A.handled = none) (D : ZipApart z TI TO i1 i2 l1 l2)
    (hz : IsZipHeld s.heap z TI TO T f) (hT : s.heap.get? T = some oT) (hTI : IsPair s.heap TI (.ref i1) (.ref i2))
    (h1 : s.heap.IsTupleIter i1 l1 k) (h2 : s.heap.IsTupleIter i2 l2 k) (hl1 : s.heap.IsTuple l1 xs) (hl2 : s.heap.IsTuple l2 ys)
    (hQ : ∀ x y h', xs[k]? = some x → ys[k]? = some y → IsZipHeld h' z TI TO T true → h'.IsTupleIter i1 l1 (k + 1) → h'.IsTupleIter i2 l2 (k + 1) → IsPair h' s.heap.objs.size x y → h'.objs.size = s.heap.objs.size + 1 →
      Rest z TO i1 i2 s.heap h' → Q (some (.ref s.heap.objs.size)) { s with heap := h' })
    (hE : ∀ h', (xs[k]? = none ∨ ys[k]? = none) → Rest z TO i1 i2 s.heap h' → Q none { s with heap := h' }) : wpAny (model prog w) A (pyNext (.ref z)) Q E s := by
  have ty : s.TypeIs (.ref z) "zip" := ⟨_, hz, rfl⟩
  unfold pyNext
  refine wpAny_bind (wpAny_attempt (wpAny_callSpecial?_slot (name := Str.ofString "__next__") ty F.slot_zip_next (wpAny_call_entry F.slot_zip_next ty F.entry_zip_next
    (zh_code hh D hz hT hTI h1 h2 hl1 hl2 (fun x y h' a1 a2 a3 a4 a5 a6 a7 a8 => wpAny_pure (hQ x y h' a1 a2 a3 a4 a5 a6 a7 a8)) fun h' e a1 a2 a3 => ?_) (F.args_zip_next_1 _))))
  obtain ⟨o, ho, hc⟩ := a3
  exact wpAny_bind (wpAny_isInstance (T := "StopIteration") (b := true) ⟨o, ho, hc⟩ isSubtype_stop (wpAny_pure (hE h' a1 a2)))
/-- the zip behind i turns, its tuples above S -/
structure ZSt (z TI TO i1 i2 l1 l2 S : Addr) (xs ys : Array Value) (i : Nat) (h : Heap) : Prop where
  ti : IsPair h TI (.ref i1) (.ref i2)
  a1 : h.IsTupleIter i1 l1 i
  a2 : h.IsTupleIter i2 l2 i
  t1 : h.IsTuple l1 xs
  t2 : h.IsTuple l2 ys
  st : (IsZip h z TI TO .none ∧ ∃ a b, IsPair h TO a b) ∨ ∃ T f o, IsZipHeld h z TI TO T f ∧ h.get? T = some o ∧ S < T
structure Below (z TI TO i1 i2 l1 l2 S : Addr) : Prop where
  z : z < S
  ti : TI < S
  to : TO < S
  a1 : i1 < S
  a2 : i2 < S
  t1 : l1 < S
  t2 : l2 < S
variable {S : Addr}
theorem ZSt.keep {i : Nat} {h h' : Heap} (B : Below z TI TO i1 i2 l1 l2 S) (x : ZSt z TI TO i1 i2 l1 l2 S xs ys i h) (k : ∀ b o, b ≠ S → h.get? b = some o → h'.get? b = some o) : ZSt z TI TO i1 i2 l1 l2 S xs ys i h' where
  ti := k _ _ (Nat.ne_of_lt B.ti) x.ti
  a1 := x.a1.at fun o q => k _ o (Nat.ne_of_lt B.a1) q
  a2 := x.a2.at fun o q => k _ o (Nat.ne_of_lt B.a2) q
  t1 := x.t1.at fun o q => k _ o (Nat.ne_of_lt B.t1) q
  t2 := x.t2.at fun o q => k _ o (Nat.ne_of_lt B.t2) q
  st := by
    rcases x.st with ⟨e, a, b, r⟩ | ⟨T, f, o, e, r, l⟩
    · exact .inl ⟨k _ _ (Nat.ne_of_lt B.z) e, a, b, k _ _ (Nat.ne_of_lt B.to) r⟩
    · exact .inr ⟨T, f, o, k _ _ (Nat.ne_of_lt B.z) e, k _ _ (Nat.ne_of_gt l) r, l⟩
theorem zs_next {i : Nat} {Q : Option Value → Shared → Prop} (hh : A.handled = none) (D : ZipApart z TI TO i1 i2 l1 l2) (B : Below z TI TO i1 i2 l1 l2 S) (x : ZSt z TI TO i1 i2 l1 l2 S xs ys i s.heap) (hS : S < s.heap.objs.size)
    (hQ : ∀ x y h', xs[i]? = some x → ys[i]? = some y → ZSt z TI TO i1 i2 l1 l2 S xs ys (i + 1) h' → IsPair h' s.heap.objs.size x y → h'.objs.size = s.heap.objs.size + 1 → Rest z TO i1 i2 s.heap h' → Q (some (.ref s.heap.objs.size)) { s with heap := h' })
    (hE : ∀ h', (xs[i]? = none ∨ ys[i]? = none) → Rest z TO i1 i2 s.heap h' → Q none { s with heap := h' }) : wpAny (model prog w) A (pyNext (.ref z)) Q E s := by
  have kt : ∀ {h'}, Rest z TO i1 i2 s.heap h' → h'.IsTuple l1 xs ∧ h'.IsTuple l2 ys ∧ IsPair h' TI (.ref i1) (.ref i2) := fun r =>
    ⟨x.t1.at fun o q => r _ o D.l1z D.l1TO D.l1i1 D.l1i2 q, x.t2.at fun o q => r _ o D.l2z D.l2TO D.l2i1 D.l2i2 q, r _ _ D.TIz D.TITO D.TIi1 D.TIi2 x.ti⟩
  rcases x.st with ⟨e, a, b, r⟩ | ⟨T, f, o, e, r, l⟩
  · cases ex : xs[i]? with
    | none => exact RZ.pyNext_zipT_end hh D e x.ti r x.a1 x.a2 x.t1 x.t2 (.inl ex) fun h' k => hE h' (.inl ex) k
    | some u =>
      cases ey : ys[i]? with
      | none => exact RZ.pyNext_zipT_end hh D e x.ti r x.a1 x.a2 x.t1 x.t2 (.inr ey) fun h' k => hE h' (.inr ey) k
      | some v =>
        refine RZ.pyNext_zipT_item D e x.ti r x.a1 x.a2 x.t1 x.t2 ex ey fun h' e1 e2 e3 e4 e5 e6 k => ?_
        obtain ⟨k1, k2, k3⟩ := kt k
        exact hQ u v h' ex ey ⟨k3, e3, e4, k1, k2, .inr ⟨_, false, _, e1, e5, hS⟩⟩ e5 e6 k
  · refine zh_next hh D e r x.ti x.a1 x.a2 x.t1 x.t2 (fun u v h' ex ey e1 e3 e4 e5 e6 k => ?_) hE
    obtain ⟨k1, k2, k3⟩ := kt k
    have ne : ∀ c, c < S → T ≠ c := fun c q => Nat.ne_of_gt (Nat.lt_trans q l)
    exact hQ u v h' ex ey ⟨k3, e3, e4, k1, k2, .inr ⟨T, true, o, e1, k _ _ (ne _ B.z) (ne _ B.to) (ne _ B.a1) (ne _ B.a2) r, l⟩⟩ e5 e6 k
/-- the pairs that were made -/
structure ZG (S : Addr) (xs ys : Array Value) (h : Heap) (as : List Addr) : Prop where
  rise : as.Pairwise (· < ·)
  above : ∀ a ∈ as, S < a
  pairs : ∀ (j : Nat) (a : Addr), as[j]? = some a → ∃ x y, xs[j]? = some x ∧ ys[j]? = some y ∧ IsPair h a x y
theorem ZG.keep {h h' : Heap} {as : List Addr} (g : ZG S xs ys h as) (k : ∀ a o, S < a → h.get? a = some o → h'.get? a = some o) : ZG S xs ys h' as :=
  ⟨g.rise, g.above, fun j a e => let ⟨x, y, e1, e2, e3⟩ := g.pairs j a e; ⟨x, y, e1, e2, k a _ (g.above a (List.mem_of_getElem? e)) e3⟩⟩
theorem ZG.snoc {h : Heap} {as : List Addr} {a : Addr} {x y : Value} (g : ZG S xs ys h as) (hx : xs[as.length]? = some x) (hy : ys[as.length]? = some y) (ha : IsPair h a x y) (hS : S < a) (hl : ∀ b ∈ as, b < a) : ZG S xs ys h (as ++ [a]) where
  rise := List.pairwise_append.mpr ⟨g.rise, List.pairwise_singleton _ _, fun b hb c hc => by rw [List.mem_singleton.mp hc]; exact hl b hb⟩
  above := fun b hb => by
    rcases List.mem_append.mp hb with q | q
    · exact g.above b q
    · rw [List.mem_singleton.mp q]; exact hS
  pairs := fun j b e => by
    rw [List.getElem?_append] at e
    split at e
    · exact g.pairs j b e
    · have : j = as.length := by
        have := (List.getElem?_eq_some_iff.mp e).1
        simp at this
        omega
      subst this
      simp at e
      subst e
      exact ⟨x, y, hx, hy, ha⟩
abbrev lstO (acc : Array Value) (c : Nat) : Obj := { cls := .type "list", dict := none, data := .seq acc c, slots := #[] }
theorem zl_loop {R : Result → Shared → Prop} (hh : A.handled = none) (D : ZipApart z TI TO i1 i2 l1 l2) (B : Below z TI TO i1 i2 l1 l2 S) (hn : xs.size ≤ sizeLine) (res : Value) {h0 : Heap}
    (hR : ∀ h' tk acc c as, (∀ b o, b ≠ S → b ≠ z → b ≠ TO → b ≠ i1 → b ≠ i2 → h0.get? b = some o → h'.get? b = some o) → h'.get? S = some (lstO acc c) → as.length = min xs.size ys.size → ZG S xs ys h' as → acc.toList = as.map Value.ref →
      R (.ok (.ret res)) { s with heap := h', toks := tk }) :
    ∀ (k i : Nat) (h : Heap) (tk c : Nat) (acc : Array Value) (as : List Addr), xs.size - i = k → i ≤ xs.size → i ≤ ys.size → ZSt z TI TO i1 i2 l1 l2 S xs ys i h →
      (∀ b o, b ≠ S → b ≠ z → b ≠ TO → b ≠ i1 → b ≠ i2 → h0.get? b = some o → h.get? b = some o) → h.get? S = some (lstO acc c) → acc.toList = as.map Value.ref → as.length = i → ZG S xs ys h as →
      codeAny (model prog w) A (.builtin "list.extend.loop" ⟨[.ref S, .ref z, res], []⟩) R { s with heap := h, toks := tk } := by
  intro k
  induction k with
  | zero =>
    intro i h tk c acc as hk hi hj x keep hS hacc hal g
    refine codeAny_builtin PySem.F.entry_extend_loop ?_
    rw [Around.under_plainId PySem.F.plain_extend_loop _]
    show wpAny _ A.in1 (pyNext (.ref z) >>= _) _ _ _
    refine wpAny_bind (zs_next (s := { s with heap := h, toks := tk }) (A := A.in1) hh D B x (Heap.lt_size hS) (fun u v h' ex _ _ _ _ _ => ?_) fun h' _ r => ?_)
    · have := (Array.getElem?_eq_some_iff.mp ex).1
      omega
    · refine wpAny_pure (hR h' tk acc c as (fun b o b1 b2 b3 b4 b5 q => r b o b2 b3 b4 b5 (keep b o b1 b2 b3 b4 b5 q)) (r S _ (Nat.ne_of_gt B.z) (Nat.ne_of_gt B.to) (Nat.ne_of_gt B.a1) (Nat.ne_of_gt B.a2) hS) (by omega) (g.keep fun a o l q => ?_) hacc)
      exact r a o (Nat.ne_of_gt (Nat.lt_trans B.z l)) (Nat.ne_of_gt (Nat.lt_trans B.to l)) (Nat.ne_of_gt (Nat.lt_trans B.a1 l)) (Nat.ne_of_gt (Nat.lt_trans B.a2 l)) q
  | succ k ih =>
    intro i h tk c acc as hk hi hj x keep hS hacc hal g
    have far : ∀ {h'}, Rest z TO i1 i2 h h' → ∀ a o, S < a → h.get? a = some o → h'.get? a = some o := fun r a o l q =>
      r a o (Nat.ne_of_gt (Nat.lt_trans B.z l)) (Nat.ne_of_gt (Nat.lt_trans B.to l)) (Nat.ne_of_gt (Nat.lt_trans B.a1 l)) (Nat.ne_of_gt (Nat.lt_trans B.a2 l)) q
    refine codeAny_builtin PySem.F.entry_extend_loop ?_
    rw [Around.under_plainId PySem.F.plain_extend_loop _]
    show wpAny _ A.in1 (pyNext (.ref z) >>= _) _ _ _
    refine wpAny_bind (zs_next (s := { s with heap := h, toks := tk }) (A := A.in1) hh D B x (Heap.lt_size hS) (fun u v h' ex ey x' ht hz r => ?_) fun h' en r => ?_)
    · dsimp only at ht hz r ⊢
      have lx := (Array.getElem?_eq_some_iff.mp ex).1
      have ly := (Array.getElem?_eq_some_iff.mp ey).1
      have hsz : acc.size = i := by rw [← Array.length_toList, hacc, List.length_map, hal]
      have lS : S < h.objs.size := Heap.lt_size hS
      have hS' := r S _ (Nat.ne_of_gt B.z) (Nat.ne_of_gt B.to) (Nat.ne_of_gt B.a1) (Nat.ne_of_gt B.a2) hS
      have up : ∀ b o, b ≠ S → h'.get? b = some o → (h'.update S (Obj.mapSeq (·.push (Value.ref h.objs.size)))).get? b = some o := fun b o hb e => (Heap.get?_update_other _ _ (Ne.symm hb)).trans e
      show wpAny _ A.in1 (updateSeq S (·.push (Value.ref h.objs.size)) >>= _) _ _ _
      refine wpAny_bind (wpAny_updateSeq hS' rfl (wpAny_pure ⟨plainId_quiet PySem.F.plain_extend_loop _, ih (i + 1) _ tk _ (acc.push (Value.ref h.objs.size)) (as ++ [h.objs.size]) (by omega) lx ly (x'.keep B up)
        (fun b o b1 b2 b3 b4 b5 q => up b o b1 (r b o b2 b3 b4 b5 (keep b o b1 b2 b3 b4 b5 q))) (Heap.get?_update_self _ hS' rfl) (by rw [Array.toList_push, hacc, List.map_append]; rfl) (by rw [List.length_append, hal]; rfl) ?_⟩) (by rw [hsz]; omega) (by show (acc.push (Value.ref h.objs.size)).size ≤ sizeLine + 1; rw [Array.size_push, hsz]; omega))
      refine ZG.snoc (x := u) (y := v) ((g.keep (far r)).keep fun a o l q => up a o (Nat.ne_of_gt l) q) (by rw [hal]; exact ex) (by rw [hal]; exact ey) (up _ _ (Nat.ne_of_gt lS) ht) lS fun b hb => ?_
      obtain ⟨j, hj⟩ := List.mem_iff_getElem?.mp hb
      obtain ⟨_, _, _, _, e⟩ := g.pairs j b hj
      exact Heap.lt_size e
    · refine wpAny_pure (hR h' tk acc c as (fun b o b1 b2 b3 b4 b5 q => r b o b2 b3 b4 b5 (keep b o b1 b2 b3 b4 b5 q)) (r S _ (Nat.ne_of_gt B.z) (Nat.ne_of_gt B.to) (Nat.ne_of_gt B.a1) (Nat.ne_of_gt B.a2) hS) ?_ (g.keep (far r)) hacc)
      rcases en with e | e
      · have := Array.getElem?_eq_none_iff.mp e
        omega
      · have := Array.getElem?_eq_none_iff.mp e
        omega
theorem zip_no_len : typeLookup (.type "zip") "__len__" = pure none := am_miss_of_fast (by decide +kernel)
theorem zip_no_hint : typeLookup (.type "zip") "__length_hint__" = pure none := am_miss_of_fast (by decide +kernel)
theorem zip_hint {Q : Bool → Shared → Prop} (ty : s.TypeIs (.ref z) "zip") (h : Q true s) : wpAny (model prog w) A (Builtin.List.listLengthHint (.ref z)) Q E s := by
  unfold Builtin.List.listLengthHint
  refine wpAny_bind (wpAny_specialOf ty zip_no_len ?_)
  wp_delta
  refine wpAny_ite_split (fun hab => absurd hab (by decide)) (fun _ => ?_)
  refine wpAny_ite_split (fun hab => absurd hab (by decide)) (fun _ => ?_)
  exact wpAny_bind (wpAny_specialOf ty zip_no_hint (wpAny_pure h))
theorem zl_extend {R : Result → Shared → Prop} (hh : A.handled = none) (D : ZipApart z TI TO i1 i2 l1 l2) (B : Below z TI TO i1 i2 l1 l2 S) (hn : xs.size ≤ sizeLine) (res : Value) (c0 : Nat) (x : ZSt z TI TO i1 i2 l1 l2 S xs ys 0 s.heap) (hz : IsZip s.heap z TI TO .none) (hS : s.heap.get? S = some (lstO #[] c0))
    (hR : ∀ h' tk acc c as, (∀ b o, b ≠ S → b ≠ z → b ≠ TO → b ≠ i1 → b ≠ i2 → s.heap.get? b = some o → h'.get? b = some o) → h'.get? S = some (lstO acc c) → as.length = min xs.size ys.size → ZG S xs ys h' as → acc.toList = as.map Value.ref →
      R (.ok (.ret res)) { s with heap := h', toks := tk }) :
    wpAny (model prog w) A.in1 (Builtin.List.listExtendWith (.ref S) (.ref z) res)
      (fun fin s' => match fin with | .done f => R (.ok f) s' | .again c' => c'.quiet = true ∧ codeAny (model prog w) A c' R s') (fun e s' => R (.error e) s') s := by
  have go : ∀ (h : Heap) (c tk : Nat), (∀ b o, b ≠ S → s.heap.get? b = some o → h.get? b = some o) → h.get? S = some (lstO #[] c) → codeAny (model prog w) A (.builtin "list.extend.loop" ⟨[.ref S, .ref z, res], []⟩) R { s with heap := h, toks := tk } := fun h c tk k hS1 =>
    zl_loop (s := s) (h0 := s.heap) hh D B hn res hR xs.size 0 h tk c #[] [] (Nat.sub_zero _) (Nat.zero_le _) (Nat.zero_le _) (x.keep B k) (fun b o b1 _ _ _ _ q => k b o b1 q) hS1 rfl rfl ⟨List.Pairwise.nil, fun _ q => (nomatch q), fun j a q => by simp at q⟩
  have ne : S ≠ z := Nat.ne_of_gt B.z
  have ty : s.TypeIs (.ref z) "zip" := ⟨_, hz, rfl⟩
  unfold Builtin.List.listExtendWith
  refine wpAny_bind (wpAny_typeOf (T := "zip") ty ?_)
  have f1 : Builtin.List.listSameRef (.ref S) (.ref z) = false := by simp [Builtin.List.listSameRef, ne]
  have f2 : (Value.type "zip" == Value.type "list") = false := by decide
  have f3 : (Value.type "zip" == Value.type "tuple") = false := by decide
  simp only [f1, f2, f3, Bool.or_false, Bool.false_eq_true, if_false]
  refine wpAny_bind (wpAny_pyIter_zip hz ?_)
  refine wpAny_bind (wpAny_holding (zip_hint ty ?_))
  refine wpAny_ite_split (fun _ => ?_) (fun q => absurd rfl q)
  refine wpAny_bind (wpAny_rule (wpAny_bind ?_))
  show wpAny _ _ (updateSeq S (·.push .none) >>= fun _ => updateSeq S (·.pop)) _ _ _
  refine wpAny_bind (wpAny_updateSeq hS rfl ?_)
  have s1 := Heap.get?_update_self (Obj.mapSeq (·.push Value.none)) hS rfl
  refine wpAny_updateSeq (hz := by seq_fits) s1 rfl ?_
  have s2 := Heap.get?_update_self (Obj.mapSeq (·.pop)) s1 rfl
  exact wpAny_pure ⟨plainId_quiet PySem.F.plain_extend_loop _, go _ _ _ (fun b o hb q => (Heap.get?_update_other _ _ (Ne.symm hb)).trans ((Heap.get?_update_other _ _ (Ne.symm hb)).trans q)) s2⟩
/-- list(z) of a new zip of two tuples -/
theorem zl_call {Q : Value → Shared → Prop} (hh : A.handled = none) (D : ZipApart z TI TO i1 i2 l1 l2) (B : Below z TI TO i1 i2 l1 l2 s.heap.objs.size) (hn : xs.size ≤ sizeLine) (x : ZSt z TI TO i1 i2 l1 l2 s.heap.objs.size xs ys 0 s.heap) (hz : IsZip s.heap z TI TO .none)
    (hQ : ∀ h' tk acc c as, (∀ b o, b ≠ z → b ≠ TO → b ≠ i1 → b ≠ i2 → s.heap.get? b = some o → h'.get? b = some o) → h'.get? s.heap.objs.size = some (lstO acc c) → as.length = min xs.size ys.size → ZG s.heap.objs.size xs ys h' as → acc.toList = as.map Value.ref →
      Q (.ref s.heap.objs.size) { s with heap := h', toks := tk }) : wpAny (model prog w) A (call (.type "list") [.ref z]) Q E s := by
  have up : ∀ b o, s.heap.get? b = some o → (s.heap.push (lstO #[] 0)).get? b = some o := fun b o q => Heap.get?_push_of_some _ q
  refine callType_codes (Q₁ := fun obj s₁ => obj = .ref s.heap.objs.size ∧ s₁ = { s with heap := s.heap.push { cls := .type "list", data := .seq #[] } }) PySem.F.called_list (PySem.F.typeCall_list_1 _) PySem.F.entry_list_init (code_list_new _ ⟨rfl, rfl⟩) ?_
  rintro obj s₁ ⟨rfl, rfl⟩
  have hS : (s.heap.push { cls := .type "list", data := .seq #[] }).get? s.heap.objs.size = some (lstO #[] 0) := Heap.get?_push_size _ rfl
  refine ⟨⟨_, hS, rfl⟩, PySem.F.args_list_init_2 _ _, ?_⟩
  show wpAny _ _ (do let old ← Builtin.List.listItems (.ref s.heap.objs.size); Builtin.List.listUpdate (.ref s.heap.objs.size) (fun _ => #[]); letGo old.toList.reverse; Builtin.List.listExtendWith (.ref s.heap.objs.size) (.ref z) .none) _ _ _
  refine wpAny_bind ?_
  unfold Builtin.List.listItems
  refine wpAny_bind (wpAny_seqItems hS rfl (wpAny_pure ?_))
  show wpAny _ _ (updateSeq s.heap.objs.size (fun _ => #[]) >>= fun _ => letGo (#[] : Array Value).toList.reverse >>= fun _ => Builtin.List.listExtendWith (.ref s.heap.objs.size) (.ref z) .none) _ _ _
  refine wpAny_bind (wpAny_updateSeq hS rfl ?_)
  have s2 := Heap.get?_update_self (Obj.mapSeq (fun _ => (#[] : Array Value))) hS rfl
  have oth : ∀ b o, b ≠ s.heap.objs.size → s.heap.get? b = some o → ((s.heap.push { cls := .type "list", data := .seq #[] }).update s.heap.objs.size (Obj.mapSeq (fun _ => (#[] : Array Value)))).get? b = some o :=
    fun b o hb q => (Heap.get?_update_other _ _ (Ne.symm hb)).trans (up b o q)
  refine wpAny_bind (wpAny_letGo ?_)
  refine zl_extend (A := A.in1) hh D B hn .none _ (x.keep B oth) (oth _ _ (Nat.ne_of_lt B.z) hz) s2 fun h' tk acc c as k e1 e2 e3 e4 => ?_
  exact ⟨rfl, hQ h' tk acc c as (fun b o b2 b3 b4 b5 q => k b o (Nat.ne_of_lt (Heap.lt_size q)) b2 b3 b4 b5 (oth b o (Nat.ne_of_lt (Heap.lt_size q)) q)) e1 e2 e3 e4⟩
end
/-! the pairs tracked -/
def atP (as : List Addr) (ps : List (V × V)) (b : Addr) : Option (V × V) := ((as.zip ps).find? fun q => decide (q.1 = b)).map (·.2)
theorem atP_off {b : Addr} : ∀ {as : List Addr} {ps : List (V × V)}, b ∉ as → atP as ps b = none
  | [], _, _ => rfl
  | _ :: _, [], _ => rfl
  | a :: as, p :: ps, h => by
    have : ¬ a = b := fun e => h (by rw [e]; exact List.mem_cons_self)
    show ((((a, p) :: as.zip ps).find? fun q => decide (q.1 = b)).map (·.2)) = none
    rw [List.find?_cons_of_neg (by simpa using this)]
    exact atP_off (as := as) (ps := ps) fun e => h (List.mem_cons_of_mem _ e)
theorem atP_on : ∀ {as : List Addr} {ps : List (V × V)} {j : Nat} {a : Addr} {p : V × V}, as.Nodup → as[j]? = some a → ps[j]? = some p → atP as ps a = some p
  | [], _, j, _, _, _, e, _ => by simp at e
  | _ :: _, [], j, _, _, _, _, e => by simp at e
  | a :: as, p :: ps, 0, _, _, _, e1, e2 => by
    simp at e1 e2
    subst e1 e2
    simp [atP]
  | a :: as, p :: ps, j + 1, b, q, hn, e1, e2 => by
    simp at e1 e2
    have hn' := List.nodup_cons.mp hn
    have : ¬ a = b := fun e => hn'.1 (by rw [e]; exact List.mem_of_getElem? e1)
    show ((((a, p) :: as.zip ps).find? fun q => decide (q.1 = b)).map (·.2)) = _
    rw [List.find?_cons_of_neg (by simpa using this)]
    exact atP_on (as := as) (ps := ps) hn'.2 e1 e2
def layH (H : Hp) (S : Addr) (as : List Addr) (ps : List (V × V)) : Hp := fun b => if b = S then some (.lst (as.map V.ref)) else match atP as ps b with
  | some p => some (.tup [p.1, p.2])
  | none => H b
section
variable {X : Cx} {pins : List (Addr × Obj)} {σ : L2.St} {H : Hp} {s : Shared}
theorem lay_pairs {h' : Heap} {tk : Nat} {acc : Array Value} {c : Nat} {as : List Addr} {ps : List (V × V)} {S : Addr} (I : Inv X pins σ H s) (hk : ∀ b o, s.heap.get? b = some o → h'.get? b = some o) (hS : s.heap.objs.size ≤ S) (hl : as.length = ps.length) (hz : ps.length ≤ sizeLine)
    (nd : as.Nodup) (above : ∀ a ∈ as, S < a) (at' : h'.get? S = some (lstO acc c)) (hacc : acc.toList = as.map Value.ref)
    (objs : ∀ (j : Nat) a p, as[j]? = some a → ps[j]? = some p → ∃ u v, RelV p.1 u ∧ RelV p.2 v ∧ IsPair h' a u v) : Inv X pins σ (layH H S as ps) { s with heap := h', toks := tk } := by
  have low : ∀ b o, s.heap.get? b = some o → b ∉ as ∧ b ≠ S := fun b o e => ⟨fun q => absurd (Heap.lt_size e) (Nat.not_lt.mpr (Nat.le_of_lt (Nat.lt_of_le_of_lt hS (above b q)))), fun q => absurd (Heap.lt_size e) (by rw [q]; exact Nat.not_lt.mpr hS)⟩
  have off : ∀ b, b ∉ as → b ≠ S → layH H S as ps b = H b := fun b b1 b2 => by
    unfold layH
    rw [if_neg b2, atP_off b1]
  have kp : ∀ b u, H b = some u → layH H S as ps b = some u := fun b u e => by
    have lt := (I.hok b u e).lt
    rw [off b (fun q => absurd lt (Nat.not_lt.mpr (Nat.le_of_lt (Nat.lt_of_le_of_lt hS (above b q))))) fun q => absurd lt (by rw [q]; exact Nat.not_lt.mpr hS)]
    exact e
  refine I.call' (ch := []) rfl ⟨fun b o q _ _ _ => hk b o q, fun b o q _ _ _ => ⟨o.slots, hk b o q⟩, fun b o q n _ => ?_, fun b o q _ => ⟨o, hk b o q⟩, fun b xs q => kp b _ q, fun b o u q => kp b _ q, fun b ps q => ⟨#[], by rw [kp b _ q]; simp⟩⟩ (fun b u q => ?_) I.bare fun b q => (nomatch q)
  · obtain ⟨b1, b2⟩ := low b o q
    rw [off b b1 b2]
    exact n
  · by_cases e : b = S
    · subst e
      unfold layH at q
      rw [if_pos rfl] at q
      cases q
      refine ⟨by rw [List.length_map]; omega, as.map Value.ref, c, LiI.vals_refs as, ?_⟩
      rw [← hacc, Array.toArray_toList]
      exact at'
    · by_cases m : b ∈ as
      · obtain ⟨j, e1⟩ := List.mem_iff_getElem?.mp m
        obtain ⟨lj, _⟩ := List.getElem?_eq_some_iff.mp e1
        have e2 : ps[j]? = some (ps[j]'(by omega)) := List.getElem?_eq_getElem (by omega)
        unfold layH at q
        rw [if_neg e, atP_on nd e1 e2] at q
        cases q
        obtain ⟨u, v, r1, r2, o⟩ := objs j b _ e1 e2
        exact ⟨by show 2 ≤ sizeLine; decide, [u, v], .cons r1 (.cons r2 .nil), ⟨_, o, rfl, _, rfl⟩⟩
      · rw [off b m e] at q
        exact (I.hok b u q).stay (fun d v _ y => hk d v y) (fun d y => kp d _ y) fun d xs y => kp d _ y
/-- list(zip(e, e2)) -/
def tLZip (K : Frag) (ta : TA) : TE := fun σ H Q => ta σ H fun vs H1 => ∃ a b xs ys, vs = [.ref a, .ref b] ∧ SqT K H1 a xs ∧ SqT K H1 b ys ∧
  ∀ S as, (∀ b u, H1 b = some u → layH H1 S as (xs.zip ys) b = some u) → H1 S = none → (∀ a ∈ as, H1 a = none) → S ∉ as → as.Nodup → as.length = (xs.zip ys).length → Q (.ref S) (layH H1 S as (xs.zip ys))
open PySem.Spec PyProof.Rows in
theorem pe_lzip {e e2 : Expr} {ta : TA} {p pz posz pos : Pos} (hc : X.calm = true) (hg : Gl X "list") (hm : X.mg "list" = none) (hv : bootBuiltins "list" = some (.type "list")) (hgz : Gl X "zip") (hmz : X.mg "zip" = none) (ha : PA X [e, e2] ta)
    (hs : starEach [.Call (.Name "zip" pz) [e, e2] [] posz] X.env = (false, eval (.Call (.Name "zip" pz) [e, e2] [] posz) X.env) :: starEach [] X.env := by rfl)
    (hsz : starEach [e, e2] X.env = (false, eval e X.env) :: starEach [e2] X.env := by rfl) (hpl : (backTo posz (starEach [e2] X.env)).any (·.1) = false := by rfl) :
    PE X (.Call (.Name "list" p) [.Call (.Name "zip" pz) [e, e2] [] posz] [] pos) (tLZip X.K ta) := by
  refine ⟨fun pins s σ H Q I hq => ?_⟩
  refine wpAny_Call_Name_kw (ld_blt I hg hm hv ?_)
  refine PyProof.Rows.callWith_type1 ?_ hs rfl
  rw [hs]
  show wpAny _ _ (spliced ((false, eval (.Call (.Name "zip" pz) [e, e2] [] posz) X.env) :: backTo pos (starEach [] X.env))) _ _ s
  refine Calls.spliced_cons ?_
  refine Call_ (ld_blt I hgz hmz PyProof.Rows.boot_zip (PyProof.Rows.callWith_type1 (L2.thn (ha.run posz pins s σ H _ I hq) fun us s1 ⟨vs, H1, I1, r1, q1⟩ => ?_) hsz hpl))
  obtain ⟨a, b, xs, ys, ex, hx, hy, q⟩ := q1
  subst ex
  cases r1 with
  | cons r rr =>
    cases rr with
    | cons r' rr =>
      cases rr
      cases r
      cases r'
      obtain ⟨its, rv, p1, z1⟩ := I1.tuple hx
      obtain ⟨its2, rv2, p2, _⟩ := I1.tuple hy
      have n1 := rv.length
      have n2 := rv2.length
      obtain ⟨o1, ho1, _⟩ := id p1
      obtain ⟨o2, ho2, _⟩ := id p2
      have la := Heap.lt_size ho1
      have lb := Heap.lt_size ho2
      refine RZ.call_zipT (show s1.heap.IsTuple a its.toArray from p1) (show s1.heap.IsTuple b its2.toArray from p2) fun h' hz hTI hTO h1 h2 hsz hk => Calls.spliced_nil ?_
      have I2 : Inv X pins σ H1 { s1 with heap := h' } := I1.kept (t' := s1.toks) hk
      refine zl_call (s := { s1 with heap := h' }) (xs := its.toArray) (ys := its2.toArray) (I1.ok.hd hc) (PySem.W.ktu_apart s1.heap.objs.size a b la lb) ?_ (by simp; omega) ?_ hz fun h2' tk acc c as k e1 e2 g e4 => ?_
      · show Below _ _ _ _ _ _ _ h'.objs.size
        rw [hsz]
        exact ⟨Nat.add_lt_add_left (by decide) _, Nat.add_lt_add_left (by decide) _, Nat.add_lt_add_left (by decide) _, Nat.lt_add_of_pos_right (by decide), Nat.add_lt_add_left (by decide) _, Nat.lt_of_lt_of_le la (Nat.le_add_right _ _), Nat.lt_of_lt_of_le lb (Nat.le_add_right _ _)⟩
      · exact ⟨hTI, h1, h2, Heap.IsTuple.at p1 fun o e => hk _ o e, Heap.IsTuple.at p2 fun o e => hk _ o e, .inl ⟨hz, _, _, hTO⟩⟩
      · have nd : as.Nodup := List.Pairwise.imp (fun {a b} (h : a < b) => Nat.ne_of_lt h) g.rise
        have hlen : as.length = (xs.zip ys).length := by rw [e2, List.length_zip]; simp; omega
        have hS : s1.heap.objs.size ≤ h'.objs.size := by omega
        have lo : ∀ c, c ∈ as → s1.heap.objs.size ≤ c := fun c hc' => Nat.le_of_lt (Nat.lt_of_le_of_lt hS (g.above c hc'))
        have L := lay_pairs (h' := h2') (tk := tk) (ps := xs.zip ys) I1 (fun b o e => k b o (Nat.ne_of_lt (Nat.lt_of_lt_of_le (Heap.lt_size e) (Nat.le_add_right _ _))) (Nat.ne_of_lt (Nat.lt_of_lt_of_le (Heap.lt_size e) (Nat.le_add_right _ _))) (Nat.ne_of_lt (Heap.lt_size e)) (Nat.ne_of_lt (Nat.lt_of_lt_of_le (Heap.lt_size e) (Nat.le_add_right _ _))) (hk b o e)) hS hlen (by rw [List.length_zip]; omega) nd g.above e1 e4 fun j a' p ea ep => ?_
        · refine ⟨.ref h'.objs.size, _, L, rfl, q _ _ (fun b u e => ?_) (I1.hok.fresh hS) (fun a' ha' => I1.hok.fresh (lo a' ha')) (fun m => Nat.lt_irrefl _ (g.above _ m)) nd hlen⟩
          have lt := (I1.hok b u e).lt
          unfold layH
          rw [if_neg (Nat.ne_of_lt (Nat.lt_of_lt_of_le lt hS)), atP_off (fun m => Nat.lt_irrefl _ (Nat.lt_of_lt_of_le lt (lo b m)))]
          exact e
        · obtain ⟨x, y, f1, f2, f3⟩ := g.pairs j a' ea
          obtain ⟨px, py⟩ := p
          rw [List.getElem?_zip_eq_some] at ep
          obtain ⟨u, hu, ru⟩ := rv.get ep.1
          obtain ⟨v, hv', rv'⟩ := rv2.get ep.2
          have : x = u := by
            have : its[j]? = some x := by simpa using f1
            rw [hu] at this
            exact (Option.some.inj this).symm
          have : y = v := by
            have : its2[j]? = some y := by simpa using f2
            rw [hv'] at this
            exact (Option.some.inj this).symm
          subst x y
          exact ⟨_, _, ru, rv', f3⟩
end
def lzipK (m : En → Option (List D × En)) : En → Option (D × En) := fun ρ => match m ρ with
  | some ([.tuple a, .tuple b], ρ') => some (.list (zipD a b), ρ')
  | _ => none
variable {c : C0} {N : List Str} {sc : Scope}
theorem rpl_pairs {K : Frag} {H0 H : Hp} : ∀ {as : List Addr} {xs ys : List V} {ds es : List D}, RpL K H xs ds → RpL K H ys es → as.length = (xs.zip ys).length → (∀ (j : Nat) a (p : V × V), as[j]? = some a → (xs.zip ys)[j]? = some p → SqT K H a [p.1, p.2]) → RpL K H (as.map V.ref) (zipD ds es)
  | as, [], ys, _, es, .nil, _, hl, _ => by
    cases as with
    | nil => exact .nil
    | cons => simp at hl
  | as, _ :: _, [], _, _, .cons _ _, .nil, hl, _ => by
    cases as with
    | nil => exact .nil
    | cons => simp at hl
  | [], _ :: _, _ :: _, _, _, .cons _ _, .cons _ _, hl, _ => by simp at hl
  | a :: as, x :: xs, y :: ys, _, _, .cons r1 r2, .cons r3 r4, hl, h => by
    refine .cons (.tup (h 0 a (x, y) rfl rfl) (.cons r1 (.cons r3 .nil))) ?_
    exact rpl_pairs (H0 := H0) r2 r4 (by simpa using hl) fun j a' p e1 e2 => h (j + 1) a' p (by simpa using e1) (by simpa using e2)
theorem je_lzip {e e2 : Expr} {ma : En → Option (List D × En)} {p pz posz pos : Pos} (hg : sc.names.lookup ("list" : Str) = some .globalImplicit) (hm : c.mg ("list" : Str) = none) (hgz : sc.names.lookup ("zip" : Str) = some .globalImplicit) (hmz : c.mg ("zip" : Str) = none) (h : JL c N sc [e, e2] ma)
    (hs : ∀ env, starEach [.Call (.Name "zip" pz) [e, e2] [] posz] env = (false, eval (.Call (.Name "zip" pz) [e, e2] [] posz) env) :: starEach [] env := by intros; rfl)
    (hsz : ∀ env, starEach [e, e2] env = (false, eval e env) :: starEach [e2] env := by intros; rfl) (hpl : ∀ env, (backTo posz (starEach [e2] env)).any (·.1) = false := by intros; rfl) :
    JE c N sc (.Call (.Name "list" p) [.Call (.Name "zip" pz) [e, e2] [] posz] [] pos) (lzipK ma) := by
  obtain ⟨t, h1, h2⟩ := h
  refine ⟨tLZip c.K t, fun X I => ?_, fun σ H ρ B d ρ' S ee Q q => ?_⟩
  · have z := pe_lzip (X := X) (p := p) (pz := pz) (posz := posz) (pos := pos) I.calm (I.gl hg) (by rw [I.mg]; exact hm) (by decide +kernel) (I.gl hgz) (by rw [I.mg]; exact hmz) (h1 X I) (hs _) (hsz _) (hpl _)
    rw [I.K] at z
    exact z
  · unfold lzipK at ee
    split at ee
    · rename_i a b ρ1 he
      cases ee
      refine h2 σ H ρ B _ _ S he _ fun vs H1 A r => ?_
      cases r with
      | cons r1 r2 =>
        cases r2 with
        | cons r2 r3 =>
          cases r3
          cases r1 with
          | @tup a1 xs1 _ s1 r1 =>
            cases r2 with
            | @tup a2 xs2 _ s2 r2 =>
              refine ⟨_, _, _, _, rfl, sub_t (hide_sub B H1) s1, sub_t (hide_sub B H1) s2, fun S0 as kp n1 n2 nS nd hl => ?_⟩
              have sb : Sub H1 (layH H1 S0 as (xs1.zip xs2)) := kp
              have bk := A.sr.bk
              have vis : ∀ b o, H1 b = none → layH H1 S0 as (xs1.zip xs2) b = some o → hide B (layH H1 S0 as (xs1.zip xs2)) b = some o := fun b o hb e => by
                refine hide_of (H := layH H1 S0 as (xs1.zip xs2)) ?_ e
                cases qb : B b with
                | false => rfl
                | true => obtain ⟨o', e'⟩ := bk b qb; rw [hb] at e'; cases e'
              refine q _ _ (A.trans (Af.of_sub A.sr sb)) (.lst (.inl (.inl (vis _ _ n1 (by unfold layH; rw [if_pos rfl])))) ?_)
              refine rpl_pairs (H0 := H1) (r1.mono (hsub sb)) (r2.mono (hsub sb)) hl fun j a' p ea ep => ?_
              have m := List.mem_of_getElem? ea
              refine .inl (.inl (vis _ _ (n2 _ m) ?_))
              unfold layH
              rw [if_neg (fun e => nS (by rw [← e]; exact m)), atP_on nd ea ep]
    · cases ee
end Dz

/-! Dz. N: rules of the plain law for T, Y, Z. -/
namespace Dz
open PySem L2
theorem wps_seqO {m1 m2 : En → Option SO} {ρ : En} {S : SO → Prop} (h : wps m1 ρ fun o => ∃ ρ1, o = .nx ρ1 ∧ wps m2 ρ1 S) : wps (seqO m1 m2) ρ S := by
  obtain ⟨o, e, ρ1, rfl, o2, e2, q⟩ := h
  exact ⟨o2, by unfold seqO; rw [e]; exact e2, q⟩
theorem wps_retO {ρ : En} {i : Nat} {d : D} {S : SO → Prop} (e : ρ[i]? = some (some (.own d))) (h : S (.rt d ρ)) : wps (retO i) ρ S := ⟨_, by unfold retO; rw [e], h⟩
def finO (as : List Sl) (Q : D → List Sl → Prop) : SO → Prop
  | .rt d ρ => Q d (finA as ρ)
  | _ => False
theorem fwp_runO {m : En → Option SO} {as : List Sl} {p n : Nat} {Q : D → List Sl → Prop} (hl : as.length = p) (ho : noOwn as = true) (h : wps m (as.map some ++ List.replicate (n - p) none) (finO as Q)) : fwp (runO p n m) as Q := by
  obtain ⟨o, e, q⟩ := h
  cases o with
  | rt d ρ => exact ⟨d, finA as ρ, by unfold runO; rw [if_pos ⟨hl, ho⟩, e], q⟩
  | nx ρ => exact q.elim
  | bk ρ => exact q.elim
  | ct ρ => exact q.elim
theorem wp_lzip {ml : En → Option (List D × En)} {ρ : En} {Q : D → En → Prop} (h : wp ml ρ fun ds ρ1 => ∃ a b, ds = [.tuple a, .tuple b] ∧ Q (.list (zipD a b)) ρ1) : wp (lzipK ml) ρ Q := by
  obtain ⟨ds, ρ1, e, a, b, rfl, q⟩ := h
  exact ⟨_, ρ1, by unfold lzipK; rw [e], q⟩
/-- a slot that is no lent one -/
def Nb (x : Option Sl) : Prop := ∀ d, x ≠ some (.bor d)
theorem oq_seto_n {ρ : En} {i : Nat} {d : D} {x : Option Sl} (e : ρ[i]? = some x) (hx : Nb x) {Q : En → Prop} (h : Q (ρ.set i (some (.own d)))) : oq (seto i d ρ) Q := by
  refine ⟨_, ?_, h⟩
  unfold seto
  rw [e]
  cases x with
  | none => rfl
  | some s => cases s with
    | val d => rfl
    | own d => rfl
    | bor d => exact absurd rfl (hx d)
theorem oq_setv_n {ρ : En} {i : Nat} {d : D} {x : Option Sl} (e : ρ[i]? = some x) (hx : Nb x) {Q : En → Prop} (h : Q (ρ.set i (some (.val d)))) : oq (setv i d ρ) Q := by
  refine ⟨_, ?_, h⟩
  unfold setv
  rw [e]
  cases x with
  | none => rfl
  | some s => cases s with
    | val d => rfl
    | own d => rfl
    | bor d => exact absurd rfl (hx d)
theorem nb_none : Nb none := fun _ h => nomatch h
theorem nb_val {d : D} : Nb (some (.val d)) := fun _ h => nomatch h
theorem nb_own {d : D} : Nb (some (.own d)) := fun _ h => nomatch h
theorem dEqB_self {d : D} (h : okD 60 d = true) (e : dEqB d d = if okD 60 d = true ∧ okD 60 d = true then some (PyData.eqv d d) else none) : dEqB d d = some true := by
  rw [e, if_pos ⟨h, h⟩, PySem.SeqAt.eqv_refl _ (okD_ok 60 _ h).1]
/-- whole numbers against none at all -/
theorem oq_eq_nil {l : List Int} {Q : D → Prop} (q : Q (.bool (decide (l = [])))) : oq (dEq (.list (l.map PyData.int)) (.list [])) Q := by
  have ok : okD 60 (.list (l.map PyData.int)) = true := okD_ints 59 l
  have e : dEqB (.list (l.map PyData.int)) (.list []) = some (PyData.eqv (.list (l.map PyData.int)) (.list [])) := by
    show (if okD 60 (.list (l.map PyData.int)) = true ∧ okD 60 (.list []) = true then some (PyData.eqv (.list (l.map PyData.int)) (.list [])) else none) = _
    rw [if_pos ⟨ok, rfl⟩]
  refine oq_eq_d e ?_
  rw [show PyData.eqv (.list (l.map PyData.int)) (.list []) = decide (l = []) by cases l <;> simp [PyData.eqv, PyData.eqvAll]]
  exact q
end Dz

namespace K01
open PySem L2 Dz
noncomputable def m_count_of : En → Option SO := seqS (forS (tupleK (kV 0)) (tgTup 2 (tgCons (setv 2) (tgCons (setv 3) (tgNil)))) (ifS (tstK (bop dEq (kV 2) (kV 1))) (retS (kV 3)) (nextS)))
  (retS (kC (.int 0)))
noncomputable def f_count_of : Fm := runF 2 4 (m_count_of)
noncomputable def m_counts_of : En → Option SO := retS (b1K dTuple (lcK [1] (rangeK2 (consK (kC (.int 1)) (consK (bop dAdd (kC (.int 9)) (kC (.int 1))) (nilK)))) (setv 1) (yesK) (callK f_count_of (gval (kV 0) (gval (kV 1) (gnil))))))
noncomputable def f_counts_of : Fm := runF 1 2 (m_counts_of)
noncomputable def m_vector_of : En → Option SO := retS (b1K dTuple (lcK [1] (rangeK1 (consK (kC (.int 9)) (nilK))) (setv 1) (tstK (bop dGt (bop dIx (kV 0) (kV 1)) (kC (.int 0)))) (tupK (consK (bop dAdd (kV 1) (kC (.int 1))) (consK (bop dIx (kV 0) (kV 1)) (nilK))))))
noncomputable def f_vector_of : Fm := runF 1 2 (m_vector_of)
noncomputable def m_compare : En → Option SO := seqS (asgS (lzipK (consK (callK f_counts_of (gval (kV 0) (gnil))) (consK (callK f_counts_of (gval (kV 1) (gnil))) (nilK)))) (setv 2))
  (seqS (asgS (b1K dAny (lcK [5, 6] (listK (kV 2)) (tgTup 2 (tgCons (setv 5) (tgCons (setv 6) (tgNil)))) (yesK) (bop dLt (kV 5) (kV 6)))) (setv 3))
  (seqS (asgS (b1K dAny (lcK [5, 6] (listK (kV 2)) (tgTup 2 (tgCons (setv 5) (tgCons (setv 6) (tgNil)))) (yesK) (bop dGt (kV 5) (kV 6)))) (setv 4))
  (seqS (ifS (andK (tstK (kV 3)) (tstK (kV 4))) (retS (kC (.str "apart"))) (nextS))
  (seqS (ifS (tstK (kV 3)) (retS (kC (.str "less"))) (nextS))
  (retS (ifK (tstK (kV 4)) (kC (.str "greater")) (kC (.str "equal"))))))))
noncomputable def f_compare : Fm := runF 2 7 (m_compare)
noncomputable def m_join : En → Option SO := retS (callK f_vector_of (gval (lcK [2, 3] (zipK (consK (callK f_counts_of (gval (kV 0) (gnil))) (consK (callK f_counts_of (gval (kV 1) (gnil))) (nilK)))) (tgTup 2 (tgCons (setv 2) (tgCons (setv 3) (tgNil)))) (yesK) (bnK dMax2 (consK (kV 2) (consK (kV 3) (nilK))))) (gnil)))
noncomputable def f_join : Fm := runF 2 4 (m_join)
noncomputable def m_raised : En → Option SO := seqS (asgS (b1K dList (callK f_counts_of (gval (kV 0) (gnil)))) (seto 3))
  (seqS (setiS 3 (kV 2) (bop dSub (kV 1) (kC (.int 1))))
  (frzS 3 (retS (callK f_vector_of (gval (kV 3) (gnil))))))
noncomputable def f_raised : Fm := runF 3 4 (m_raised)
noncomputable def m_law_cell : En → Option SO := seqS (ifS (tstK (bop dLt (kV 1) (b1K dLen (kV 0)))) (retS (b1K dInt (bop dIx (kV 0) (kV 1)))) (nextS))
  (retS (kC (.int 0)))
noncomputable def f_law_cell : Fm := runF 2 2 (m_law_cell)
noncomputable def m_law_vector : En → Option SO := seqS (asgS (lstK (nilK)) (seto 2))
  (seqS (forS (rangeK2 (consK (kC (.int 1)) (consK (kC (.int 10)) (nilK)))) (setv 3) (ifS (tstK (bop dEq (bop dMod (bop dDiv (kV 0) (bop dShl (kC (.int 1)) (kV 3))) (kC (.int 3))) (kC (.int 1)))) (dropS (mutK 2 muAppend (consK (tupK (consK (kV 3) (consK (bop dAdd (kC (.int 1)) (bop dMod (bop dDiv (kV 0) (bop dMul (kC (.int 7)) (kV 3))) (kV 1))) (nilK)))) (nilK)))) (nextS)))
  (frzS 2 (retS (b1K dTuple (kV 2)))))
noncomputable def f_law_vector : Fm := runF 2 4 (m_law_vector)
noncomputable def m_law_counts : En → Option SO := seqO (asgS (lcK [2] (rangeK1 (consK (kC (.int 9)) (nilK))) (setv 2) (yesK) (kC (.int 0))) (seto 1)) (seqO (forS (tupleK (kV 0)) (tgTup 2 (tgCons (setv 2) (tgCons (setv 3) (tgNil)))) (setiS 1 (kV 3) (bop dSub (kV 2) (kC (.int 1))))) (retO 1))
noncomputable def f_law_counts : Fm := runO 1 4 (m_law_counts)
noncomputable def m_law_due : En → Option SO := seqS (asgS (lcK [4] (rangeK1 (consK (kC (.int 9)) (nilK))) (setv 4) (tstK (bop dLt (bopO dIx 0 (kV 4)) (bopO dIx 1 (kV 4)))) (kV 4)) (setv 2))
  (seqS (asgS (lcK [4] (rangeK1 (consK (kC (.int 9)) (nilK))) (setv 4) (tstK (bop dGt (bopO dIx 0 (kV 4)) (bopO dIx 1 (kV 4)))) (kV 4)) (setv 3))
  (seqS (ifS (andK (tstK (bop dEq (kV 2) (lstK (nilK)))) (tstK (bop dEq (kV 3) (lstK (nilK))))) (retS (kC (.str "equal"))) (nextS))
  (seqS (ifS (tstK (bop dEq (kV 3) (lstK (nilK)))) (retS (kC (.str "less"))) (nextS))
  (seqS (ifS (tstK (bop dEq (kV 2) (lstK (nilK)))) (retS (kC (.str "greater"))) (nextS))
  (retS (kC (.str "apart")))))))
noncomputable def f_law_due : Fm := runF 2 5 (m_law_due)
noncomputable def m_law_made : En → Option SO := retS (b1K dTuple (lcK [1] (rangeK1 (consK (kC (.int 9)) (nilK))) (setv 1) (tstK (bop dGt (bopO dIx 0 (kV 1)) (kC (.int 0)))) (tupK (consK (bop dAdd (kV 1) (kC (.int 1))) (consK (bopO dIx 0 (kV 1)) (nilK))))))
noncomputable def f_law_made : Fm := runF 1 2 (m_law_made)
noncomputable def m_law : En → Option SO := seqS (forS (rangeK1 (consK (kC (.int 8)) (nilK))) (setv 1) (seqS (asgS (callK f_law_vector (gval (callK f_law_cell (gval (kV 0) (gval (bop dMul (kC (.int 2)) (kV 1)) (gnil)))) (gval (kC (.int 4)) (gnil)))) (setv 2))
  (seqS (asgS (callK f_law_vector (gval (callK f_law_cell (gval (kV 0) (gval (bop dAdd (bop dMul (kC (.int 2)) (kV 1)) (kC (.int 1))) (gnil)))) (gval (kC (.int 4)) (gnil)))) (setv 3))
  (seqS (asgS (callK f_law_cell (gval (kV 0) (gval (bop dAdd (kC (.int 16)) (kV 1)) (gnil)))) (setv 4))
  (seqS (ifS (tstK (bop dEq (bop dMod (kV 4) (kC (.int 3))) (kC (.int 1)))) (asgS (bop dAdd (kV 2) (tupK (nilK))) (setv 3)) (nextS))
  (seqS (asgS (callK f_law_counts (gval (kV 2) (gnil))) (seto 5))
  (seqS (asgS (callK f_law_counts (gval (kV 3) (gnil))) (seto 6))
  (seqS (asgS (bop dAdd (kC (.int 1)) (bop dMod (bop dDiv (kV 4) (kC (.int 3))) (kC (.int 9)))) (setv 7))
  (seqS (asgS (bop dAdd (bop dAdd (bopO dIx 5 (bop dSub (kV 7) (kC (.int 1)))) (kC (.int 1))) (bop dMod (bop dDiv (kV 4) (kC (.int 27))) (kC (.int 5)))) (setv 8))
  (seqS (ifS (orK (tstK (bop dNe (callK f_counts_of (gval (kV 2) (gnil))) (b1K dTuple (kO 5)))) (tstK (bop dNe (lcK [9] (rangeK1 (consK (kC (.int 9)) (nilK))) (setv 9) (yesK) (callK f_count_of (gval (kV 2) (gval (bop dAdd (kV 9) (kC (.int 1))) (gnil))))) (kO 5)))) (retS (kC (.bool false))) (nextS))
  (seqS (ifS (orK (tstK (bop dNe (callK f_compare (gval (kV 2) (gval (kV 3) (gnil)))) (callK f_law_due (gbor 5 (gbor 6 (gnil)))))) (tstK (bop dNe (callK f_compare (gval (kV 3) (gval (kV 2) (gnil)))) (callK f_law_due (gbor 6 (gbor 5 (gnil))))))) (retS (kC (.bool false))) (nextS))
  (frzS 6 (seqS (ifS (tstK (bop dNe (callK f_join (gval (kV 2) (gval (kV 3) (gnil)))) (callFK f_law_made (oneF (lcK [9] (rangeK1 (consK (kC (.int 9)) (nilK))) (setv 9) (yesK) (bnK dMax2 (consK (bopO dIx 5 (kV 9)) (consK (bop dIx (kV 6) (kV 9)) (nilK))))))))) (retS (kC (.bool false))) (nextS))
  (seqS (setiS 5 (kV 8) (bop dSub (kV 7) (kC (.int 1))))
  (ifS (orK (tstK (bop dNe (callK f_raised (gval (kV 2) (gval (kV 7) (gval (kV 8) (gnil))))) (callK f_law_made (gbor 5 (gnil))))) (tstK (bop dNe (callK f_compare (gval (kV 2) (gval (callK f_raised (gval (kV 2) (gval (kV 7) (gval (kV 8) (gnil))))) (gnil)))) (kC (.str "less"))))) (retS (kC (.bool false))) (nextS))))))))))))))))
  (retS (kC (.bool true)))
noncomputable def f_law : Fm := runF 1 10 (m_law)
end K01

namespace K01
open PySem L2 Dz
def top (i : Nat) : Stmt := PySem.Challenge.pw_folderkin_k01_vectors.main.body.getD i (.Pass ⟨0, 0, 0, 0⟩)
abbrev s_count_of : Stmt := top 2
abbrev s_counts_of : Stmt := top 3
abbrev s_vector_of : Stmt := top 4
abbrev s_compare : Stmt := top 5
abbrev s_join : Stmt := top 6
abbrev s_raised : Stmt := top 7
abbrev s_law_cell : Stmt := top 9
abbrev s_law_vector : Stmt := top 10
abbrev s_law_counts : Stmt := top 11
abbrev s_law_due : Stmt := top 12
abbrev s_law_made : Stmt := top 13
abbrev s_law : Stmt := top 14
theorem sc_count_of : FnScope ["vector", "device", "other", "count"] ["vector", "device"] (defScope s_count_of) := ⟨rfl, rfl, rfl, by decide +kernel, rfl, by decide +kernel, by decide +kernel⟩
theorem sc_counts_of : FnScope ["vector", "device"] ["vector"] (defScope s_counts_of) := ⟨rfl, rfl, rfl, by decide +kernel, rfl, by decide +kernel, by decide +kernel⟩
theorem sc_vector_of : FnScope ["counts", "k"] ["counts"] (defScope s_vector_of) := ⟨rfl, rfl, rfl, by decide +kernel, rfl, by decide +kernel, by decide +kernel⟩
theorem sc_compare : FnScope ["first", "second", "pairs", "less", "greater", "a", "b"] ["first", "second"] (defScope s_compare) := ⟨rfl, rfl, rfl, by decide +kernel, rfl, by decide +kernel, by decide +kernel⟩
theorem sc_join : FnScope ["first", "second", "a", "b"] ["first", "second"] (defScope s_join) := ⟨rfl, rfl, rfl, by decide +kernel, rfl, by decide +kernel, by decide +kernel⟩
theorem sc_raised : FnScope ["vector", "device", "number", "counts"] ["vector", "device", "number"] (defScope s_raised) := ⟨rfl, rfl, rfl, by decide +kernel, rfl, by decide +kernel, by decide +kernel⟩
theorem sc_law_cell : FnScope ["_law_script", "_law_k"] ["_law_script", "_law_k"] (defScope s_law_cell) := ⟨rfl, rfl, rfl, by decide +kernel, rfl, by decide +kernel, by decide +kernel⟩
theorem sc_law_vector : FnScope ["_law_cell_here", "_law_most", "_law_pairs", "_law_device"] ["_law_cell_here", "_law_most"] (defScope s_law_vector) := ⟨rfl, rfl, rfl, by decide +kernel, rfl, by decide +kernel, by decide +kernel⟩
theorem sc_law_counts : FnScope ["_law_vector_here", "_law_counts_here", "_law_device", "_law_count"] ["_law_vector_here"] (defScope s_law_counts) := ⟨rfl, rfl, rfl, by decide +kernel, rfl, by decide +kernel, by decide +kernel⟩
theorem sc_law_due : FnScope ["_law_first", "_law_second", "_law_less", "_law_more", "_law_k"] ["_law_first", "_law_second"] (defScope s_law_due) := ⟨rfl, rfl, rfl, by decide +kernel, rfl, by decide +kernel, by decide +kernel⟩
theorem sc_law_made : FnScope ["_law_counts_here", "_law_k"] ["_law_counts_here"] (defScope s_law_made) := ⟨rfl, rfl, rfl, by decide +kernel, rfl, by decide +kernel, by decide +kernel⟩
theorem sc_law : FnScope ["_law_script", "_law_turn", "_law_first", "_law_second", "_law_cell_here", "_law_a", "_law_b", "_law_device", "_law_number", "_law_k"] ["_law_script"] (defScope s_law) := ⟨rfl, rfl, rfl, by decide +kernel, rfl, by decide +kernel, by decide +kernel⟩
structure Facts (c : C0) : Prop where
  b_any : c.mg "any" = none
  b_int : c.mg "int" = none
  b_len : c.mg "len" = none
  b_list : c.mg "list" = none
  b_max : c.mg "max" = none
  b_range : c.mg "range" = none
  b_tuple : c.mg "tuple" = none
  b_zip : c.mg "zip" = none
  k_DEVICES : ∃ t, c.mg "DEVICES" = some (.int 9 t)
  a_count_of : At c "count_of" s_count_of ["vector", "device"]
  a_counts_of : At c "counts_of" s_counts_of ["vector"]
  a_vector_of : At c "vector_of" s_vector_of ["counts"]
  a_compare : At c "compare" s_compare ["first", "second"]
  a_join : At c "join" s_join ["first", "second"]
  a_raised : At c "raised" s_raised ["vector", "device", "number"]
  a_law_cell : At c "_law_cell" s_law_cell ["_law_script", "_law_k"]
  a_law_vector : At c "_law_vector" s_law_vector ["_law_cell_here", "_law_most"]
  a_law_counts : At c "_law_counts" s_law_counts ["_law_vector_here"]
  a_law_due : At c "_law_due" s_law_due ["_law_first", "_law_second"]
  a_law_made : At c "_law_made" s_law_made ["_law_counts_here"]
  a_law : At c "law" s_law ["_law_script"]
section
variable {c : C0}
theorem jb_count_of (T : Facts c) : JB { c with k := 0, top := true } ["vector", "device", "other", "count"] (defScope s_count_of) (defBody s_count_of) (m_count_of) :=
  jb_cons (js_for (ji_tup (v_ 0)) (jtg_tup (jtgs_cons (tg_ 2 sc_count_of.nd) (jtgs_cons (tg_ 3 sc_count_of.nd) (jtgs_nil)))) (jb_one (js_if (jt_cmp o_eq (v_ 2) (JE.ja (v_ 1))) (jb_one (js_ret (v_ 3))) (jb_nil))))
    (jb_one (js_ret (ce_int)))
theorem F_count_of (T : Facts c) : FnD c 1 "count_of" ["vector", "device"] f_count_of := T.a_count_of.fn sc_count_of (jb_count_of T)
theorem jb_counts_of (T : Facts c) (F_count_of : FnD c 1 "count_of" ["vector", "device"] f_count_of) : JB { c with k := 1, top := true } ["vector", "device"] (defScope s_counts_of) (defBody s_counts_of) (m_counts_of) :=
  jb_one (js_ret (je_t1 c_tuple rfl T.b_tuple (by decide +kernel) (JE.ja (JF.je (jf_lc (own := [("device", 1)]) sc_counts_of.nd (ji_range2 rfl T.b_range (jl_cons (ce_int) (jl_cons (ce_op o_add (g_int (hm := T.k_DEVICES)) (JE.ja (ce_int))) (jl_nil)))) (blkOk_by (by decide +kernel)) (tg_ 1 sc_counts_of.nd) (jts_nil) (je_call F_count_of (Nat.le_of_ble_eq_true rfl) rfl (jg_val (v_ 0) (jg_val (v_ 1) (jg_nil)))))))))
theorem F_counts_of (T : Facts c) : FnD c 2 "counts_of" ["vector"] f_counts_of := T.a_counts_of.fn sc_counts_of (jb_counts_of T (F_count_of T))
theorem jb_vector_of (T : Facts c) : JB { c with k := 0, top := true } ["counts", "k"] (defScope s_vector_of) (defBody s_vector_of) (m_vector_of) :=
  jb_one (js_ret (je_t1 c_tuple rfl T.b_tuple (by decide +kernel) (JE.ja (JF.je (jf_lc (own := [("k", 1)]) sc_vector_of.nd (ji_range1 rfl T.b_range (jl_cons (g_int (hm := T.k_DEVICES)) (jl_nil))) (blkOk_by (by decide +kernel)) (tg_ 1 sc_vector_of.nd) (jts_one (jt_cmp o_gt (je_ix o_ix (v_ 0) (JE.ja (v_ 1))) (JE.ja (ce_int)))) (je_tup (jl_cons (ce_op o_add (v_ 1) (JE.ja (ce_int))) (jl_cons (je_ix o_ix (v_ 0) (JE.ja (v_ 1))) (jl_nil)))))))))
theorem F_vector_of (T : Facts c) : FnD c 1 "vector_of" ["counts"] f_vector_of := T.a_vector_of.fn sc_vector_of (jb_vector_of T)
theorem jb_compare (T : Facts c) (F_counts_of : FnD c 2 "counts_of" ["vector"] f_counts_of) : JB { c with k := 2, top := true } ["first", "second", "pairs", "less", "greater", "a", "b"] (defScope s_compare) (defBody s_compare) (m_compare) :=
  jb_cons (set_ 2 sc_compare.nd (je_lzip rfl T.b_list rfl T.b_zip (jl_cons (je_call F_counts_of (Nat.le_of_ble_eq_true rfl) rfl (jg_val (v_ 0) (jg_nil))) (jl_cons (je_call F_counts_of (Nat.le_of_ble_eq_true rfl) rfl (jg_val (v_ 1) (jg_nil))) (jl_nil)))))
    (jb_cons (set_ 3 sc_compare.nd (je_b1 c_any rfl T.b_any (by decide +kernel) (JE.ja (JF.je (jf_lc (own := [("a", 5), ("b", 6)]) sc_compare.nd (ji_list (v_ 2)) (blkOk_by (by decide +kernel)) (jtg_tup (jtgs_cons (tg_ 5 sc_compare.nd) (jtgs_cons (tg_ 6 sc_compare.nd) (jtgs_nil)))) (jts_nil) (ce_cmp o_lt (v_ 5) (JE.ja (v_ 6))))))))
    (jb_cons (set_ 4 sc_compare.nd (je_b1 c_any rfl T.b_any (by decide +kernel) (JE.ja (JF.je (jf_lc (own := [("a", 5), ("b", 6)]) sc_compare.nd (ji_list (v_ 2)) (blkOk_by (by decide +kernel)) (jtg_tup (jtgs_cons (tg_ 5 sc_compare.nd) (jtgs_cons (tg_ 6 sc_compare.nd) (jtgs_nil)))) (jts_nil) (ce_cmp o_gt (v_ 5) (JE.ja (v_ 6))))))))
    (jb_cons (js_if (jt_w (jw_and (jt_val (v_ 3)) (jw_and1 (jt_val (v_ 4))))) (jb_one (js_ret (ce_str))) (jb_nil))
    (jb_cons (js_if (jt_val (v_ 3)) (jb_one (js_ret (ce_str))) (jb_nil))
    (jb_one (js_ret (je_if (jt_val (v_ 4)) (ce_str) (ce_str))))))))
theorem F_compare (T : Facts c) : FnD c 3 "compare" ["first", "second"] f_compare := T.a_compare.fn sc_compare (jb_compare T (F_counts_of T))
theorem jb_join (T : Facts c) (F_counts_of : FnD c 2 "counts_of" ["vector"] f_counts_of) (F_vector_of : FnD c 1 "vector_of" ["counts"] f_vector_of) : JB { c with k := 2, top := true } ["first", "second", "a", "b"] (defScope s_join) (defBody s_join) (m_join) :=
  jb_one (js_ret (je_call F_vector_of (Nat.le_of_ble_eq_true rfl) rfl (jg_val (JF.je (jf_lc (own := [("a", 2), ("b", 3)]) sc_join.nd (ji_zip rfl T.b_zip (jl_cons (je_call F_counts_of (Nat.le_of_ble_eq_true rfl) rfl (jg_val (v_ 0) (jg_nil))) (jl_cons (je_call F_counts_of (Nat.le_of_ble_eq_true rfl) rfl (jg_val (v_ 1) (jg_nil))) (jl_nil)))) (blkOk_by (by decide +kernel)) (jtg_tup (jtgs_cons (tg_ 2 sc_join.nd) (jtgs_cons (tg_ 3 sc_join.nd) (jtgs_nil)))) (jts_nil) (je_bn c_max2 rfl T.b_max (by decide +kernel) (jl_cons (v_ 2) (jl_cons (v_ 3) (jl_nil)))))) (jg_nil))))
theorem F_join (T : Facts c) : FnD c 3 "join" ["first", "second"] f_join := T.a_join.fn sc_join (jb_join T (F_counts_of T) (F_vector_of T))
theorem jb_raised (T : Facts c) (F_counts_of : FnD c 2 "counts_of" ["vector"] f_counts_of) (F_vector_of : FnD c 1 "vector_of" ["counts"] f_vector_of) : JB { c with k := 2, top := true } ["vector", "device", "number", "counts"] (defScope s_raised) (defBody s_raised) (m_raised) :=
  jb_cons (own_ 3 sc_raised.nd (jf_t1 cf_list rfl T.b_list (by decide +kernel) (JE.ja (je_call F_counts_of (Nat.le_of_ble_eq_true rfl) rfl (jg_val (v_ 0) (jg_nil))))))
    (jb_cons (seti_ 3 (v_ 2) (ce_op o_sub (v_ 1) (JE.ja (ce_int))))
    (jb_frz (i := 3) (jb_one (js_ret (je_call F_vector_of (Nat.le_of_ble_eq_true rfl) rfl (jg_val (v_ 3) (jg_nil)))))))
theorem F_raised (T : Facts c) : FnD c 3 "raised" ["vector", "device", "number"] f_raised := T.a_raised.fn sc_raised (jb_raised T (F_counts_of T) (F_vector_of T))
theorem jb_law_cell (T : Facts c) : JB { c with k := 0, top := true } ["_law_script", "_law_k"] (defScope s_law_cell) (defBody s_law_cell) (m_law_cell) :=
  jb_cons (js_if (jt_cmp o_lt (v_ 1) (JE.ja (je_b1 c_len rfl T.b_len (by decide +kernel) (JE.ja (v_ 0))))) (jb_one (js_ret (je_t1 c_int rfl T.b_int (by decide +kernel) (JE.ja (je_ix o_ix (v_ 0) (JE.ja (v_ 1))))))) (jb_nil))
    (jb_one (js_ret (ce_int)))
theorem F_law_cell (T : Facts c) : FnD c 1 "_law_cell" ["_law_script", "_law_k"] f_law_cell := T.a_law_cell.fn sc_law_cell (jb_law_cell T)
theorem jb_law_vector (T : Facts c) : JB { c with k := 0, top := true } ["_law_cell_here", "_law_most", "_law_pairs", "_law_device"] (defScope s_law_vector) (defBody s_law_vector) (m_law_vector) :=
  jb_cons (own_ 2 sc_law_vector.nd (jf_lst (jl_nil)))
    (jb_cons (js_for (ji_range2 rfl T.b_range (jl_cons (ce_int) (jl_cons (ce_int) (jl_nil)))) (tg_ 3 sc_law_vector.nd) (jb_one (js_if (jt_cmp o_eq (ce_op o_mod (ce_op o_div (v_ 0) (JE.ja (ce_op o_shl (ce_int) (JE.ja (v_ 3))))) (JE.ja (ce_int))) (JE.ja (ce_int))) (jb_one (js_expr (je_mut (i := 2) mu_append PySem.F.slot_list_append PySem.F.type_list_append rfl (Or.inl rfl) (jl_cons (je_tup (jl_cons (v_ 3) (jl_cons (ce_op o_add (ce_int) (JE.ja (ce_op o_mod (ce_op o_div (v_ 0) (JE.ja (ce_op o_mul (ce_int) (JE.ja (v_ 3))))) (JE.ja (v_ 1))))) (jl_nil)))) (jl_nil))))) (jb_nil))))
    (jb_frz (i := 2) (jb_one (js_ret (je_t1 c_tuple rfl T.b_tuple (by decide +kernel) (JE.ja (v_ 2)))))))
theorem F_law_vector (T : Facts c) : FnD c 1 "_law_vector" ["_law_cell_here", "_law_most"] f_law_vector := T.a_law_vector.fn sc_law_vector (jb_law_vector T)
theorem jb_law_counts (T : Facts c) : JBo { c with k := 0, top := true } ["_law_vector_here", "_law_counts_here", "_law_device", "_law_count"] (defScope s_law_counts) (defBody s_law_counts) (m_law_counts) :=
  jbo_cons (ownLc_ 1 (own := [("_law_device", 2)]) sc_law_counts.nd (ji_range1 rfl T.b_range (jl_cons (ce_int) (jl_nil))) (blkOk_by (by decide +kernel)) (tg_ 2 sc_law_counts.nd) (jts_nil) (ce_int))
    (jbo_cons (js_for (ji_tup (v_ 0)) (jtg_tup (jtgs_cons (tg_ 2 sc_law_counts.nd) (jtgs_cons (tg_ 3 sc_law_counts.nd) (jtgs_nil)))) (jb_one (seti_ 1 (v_ 3) (ce_op o_sub (v_ 2) (JE.ja (ce_int))))))
    (retO_ 1))
theorem F_law_counts (T : Facts c) : FnO c 1 "_law_counts" ["_law_vector_here"] f_law_counts := T.a_law_counts.fno sc_law_counts (jb_law_counts T)
theorem jb_law_due (T : Facts c) : JB { c with k := 0, top := true } ["_law_first", "_law_second", "_law_less", "_law_more", "_law_k"] (defScope s_law_due) (defBody s_law_due) (m_law_due) :=
  jb_cons (setLc_ 2 (own := [("_law_k", 4)]) sc_law_due.nd (ji_range1 rfl T.b_range (jl_cons (ce_int) (jl_nil))) (blkOk_by (by decide +kernel)) (tg_ 4 sc_law_due.nd) (jts_one (jt_cmp o_lt (ixO_ 0 o_ix (JE.ja (v_ 4))) (JE.ja (ixO_ 1 o_ix (JE.ja (v_ 4)))))) (v_ 4))
    (jb_cons (setLc_ 3 (own := [("_law_k", 4)]) sc_law_due.nd (ji_range1 rfl T.b_range (jl_cons (ce_int) (jl_nil))) (blkOk_by (by decide +kernel)) (tg_ 4 sc_law_due.nd) (jts_one (jt_cmp o_gt (ixO_ 0 o_ix (JE.ja (v_ 4))) (JE.ja (ixO_ 1 o_ix (JE.ja (v_ 4)))))) (v_ 4))
    (jb_cons (js_if (jt_w (jw_and (jt_cmp o_eq (v_ 2) (JE.ja (JF.je (jf_lst (jl_nil))))) (jw_and1 (jt_cmp o_eq (v_ 3) (JE.ja (JF.je (jf_lst (jl_nil)))))))) (jb_one (js_ret (ce_str))) (jb_nil))
    (jb_cons (js_if (jt_cmp o_eq (v_ 3) (JE.ja (JF.je (jf_lst (jl_nil))))) (jb_one (js_ret (ce_str))) (jb_nil))
    (jb_cons (js_if (jt_cmp o_eq (v_ 2) (JE.ja (JF.je (jf_lst (jl_nil))))) (jb_one (js_ret (ce_str))) (jb_nil))
    (jb_one (js_ret (ce_str)))))))
theorem F_law_due (T : Facts c) : FnD c 1 "_law_due" ["_law_first", "_law_second"] f_law_due := T.a_law_due.fn sc_law_due (jb_law_due T)
theorem jb_law_made (T : Facts c) : JB { c with k := 0, top := true } ["_law_counts_here", "_law_k"] (defScope s_law_made) (defBody s_law_made) (m_law_made) :=
  jb_one (js_ret (je_t1 c_tuple rfl T.b_tuple (by decide +kernel) (JE.ja (JF.je (jf_lc (own := [("_law_k", 1)]) sc_law_made.nd (ji_range1 rfl T.b_range (jl_cons (ce_int) (jl_nil))) (blkOk_by (by decide +kernel)) (tg_ 1 sc_law_made.nd) (jts_one (jt_cmp o_gt (ixO_ 0 o_ix (JE.ja (v_ 1))) (JE.ja (ce_int)))) (je_tup (jl_cons (ce_op o_add (v_ 1) (JE.ja (ce_int))) (jl_cons (ixO_ 0 o_ix (JE.ja (v_ 1))) (jl_nil)))))))))
theorem F_law_made (T : Facts c) : FnD c 1 "_law_made" ["_law_counts_here"] f_law_made := T.a_law_made.fn sc_law_made (jb_law_made T)
theorem jb_law (T : Facts c) (F_law_cell : FnD c 1 "_law_cell" ["_law_script", "_law_k"] f_law_cell) (F_law_counts : FnO c 1 "_law_counts" ["_law_vector_here"] f_law_counts) (F_law_due : FnD c 1 "_law_due" ["_law_first", "_law_second"] f_law_due) (F_law_made : FnD c 1 "_law_made" ["_law_counts_here"] f_law_made) (F_law_vector : FnD c 1 "_law_vector" ["_law_cell_here", "_law_most"] f_law_vector) (F_compare : FnD c 3 "compare" ["first", "second"] f_compare) (F_count_of : FnD c 1 "count_of" ["vector", "device"] f_count_of) (F_counts_of : FnD c 2 "counts_of" ["vector"] f_counts_of) (F_join : FnD c 3 "join" ["first", "second"] f_join) (F_raised : FnD c 3 "raised" ["vector", "device", "number"] f_raised) : JB { c with k := 3, top := true } ["_law_script", "_law_turn", "_law_first", "_law_second", "_law_cell_here", "_law_a", "_law_b", "_law_device", "_law_number", "_law_k"] (defScope s_law) (defBody s_law) (m_law) :=
  jb_cons (js_for (ji_range1 rfl T.b_range (jl_cons (ce_int) (jl_nil))) (tg_ 1 sc_law.nd) (jb_cons (set_ 2 sc_law.nd (je_call F_law_vector (Nat.le_of_ble_eq_true rfl) rfl (jg_val (je_call F_law_cell (Nat.le_of_ble_eq_true rfl) rfl (jg_val (v_ 0) (jg_val (ce_op o_mul (ce_int) (JE.ja (v_ 1))) (jg_nil)))) (jg_val (ce_int) (jg_nil)))))
    (jb_cons (set_ 3 sc_law.nd (je_call F_law_vector (Nat.le_of_ble_eq_true rfl) rfl (jg_val (je_call F_law_cell (Nat.le_of_ble_eq_true rfl) rfl (jg_val (v_ 0) (jg_val (ce_op o_add (ce_op o_mul (ce_int) (JE.ja (v_ 1))) (JE.ja (ce_int))) (jg_nil)))) (jg_val (ce_int) (jg_nil)))))
    (jb_cons (set_ 4 sc_law.nd (je_call F_law_cell (Nat.le_of_ble_eq_true rfl) rfl (jg_val (v_ 0) (jg_val (ce_op o_add (ce_int) (JE.ja (v_ 1))) (jg_nil)))))
    (jb_cons (js_if (jt_cmp o_eq (ce_op o_mod (v_ 4) (JE.ja (ce_int))) (JE.ja (ce_int))) (jb_one (set_ 3 sc_law.nd (ce_op o_add (v_ 2) (JE.ja (je_tup (jl_nil)))))) (jb_nil))
    (jb_cons (own_ 5 sc_law.nd (jf_call F_law_counts (Nat.le_of_ble_eq_true rfl) rfl (jg_val (v_ 2) (jg_nil))))
    (jb_cons (own_ 6 sc_law.nd (jf_call F_law_counts (Nat.le_of_ble_eq_true rfl) rfl (jg_val (v_ 3) (jg_nil))))
    (jb_cons (set_ 7 sc_law.nd (ce_op o_add (ce_int) (JE.ja (ce_op o_mod (ce_op o_div (v_ 4) (JE.ja (ce_int))) (JE.ja (ce_int))))))
    (jb_cons (set_ 8 sc_law.nd (ce_op o_add (ce_op o_add (ixO_ 5 o_ix (JE.ja (ce_op o_sub (v_ 7) (JE.ja (ce_int))))) (JE.ja (ce_int))) (JE.ja (ce_op o_mod (ce_op o_div (v_ 4) (JE.ja (ce_int))) (JE.ja (ce_int))))))
    (jb_cons (js_if (jt_w (jw_or (jt_cmp o_ne (je_call F_counts_of (Nat.le_of_ble_eq_true rfl) rfl (jg_val (v_ 2) (jg_nil))) (JE.ja (je_t1 c_tuple rfl T.b_tuple (by decide +kernel) (o_ 5)))) (jw_or1 (jt_cmp o_ne (JF.je (jf_lc (own := [("_law_k", 9)]) sc_law.nd (ji_range1 rfl T.b_range (jl_cons (ce_int) (jl_nil))) (blkOk_by (by decide +kernel)) (tg_ 9 sc_law.nd) (jts_nil) (je_call F_count_of (Nat.le_of_ble_eq_true rfl) rfl (jg_val (v_ 2) (jg_val (ce_op o_add (v_ 9) (JE.ja (ce_int))) (jg_nil)))))) (o_ 5))))) (jb_one (js_ret (ce_bl))) (jb_nil))
    (jb_cons (js_if (jt_w (jw_or (jt_cmp o_ne (je_call F_compare (Nat.le_of_ble_eq_true rfl) rfl (jg_val (v_ 2) (jg_val (v_ 3) (jg_nil)))) (JE.ja (je_call F_law_due (Nat.le_of_ble_eq_true rfl) rfl (bor_ 5 (bor_ 6 (jg_nil)))))) (jw_or1 (jt_cmp o_ne (je_call F_compare (Nat.le_of_ble_eq_true rfl) rfl (jg_val (v_ 3) (jg_val (v_ 2) (jg_nil)))) (JE.ja (je_call F_law_due (Nat.le_of_ble_eq_true rfl) rfl (bor_ 6 (bor_ 5 (jg_nil))))))))) (jb_one (js_ret (ce_bl))) (jb_nil))
    (jb_frz (i := 6) (jb_cons (js_if (jt_cmp o_ne (je_call F_join (Nat.le_of_ble_eq_true rfl) rfl (jg_val (v_ 2) (jg_val (v_ 3) (jg_nil)))) (JE.ja (je_callF F_law_made (Nat.le_of_ble_eq_true rfl) rfl (jlf_one (jf_lc (own := [("_law_k", 9)]) sc_law.nd (ji_range1 rfl T.b_range (jl_cons (ce_int) (jl_nil))) (blkOk_by (by decide +kernel)) (tg_ 9 sc_law.nd) (jts_nil) (je_bn c_max2 rfl T.b_max (by decide +kernel) (jl_cons (ixO_ 5 o_ix (JE.ja (v_ 9))) (jl_cons (je_ix o_ix (v_ 6) (JE.ja (v_ 9))) (jl_nil))))))))) (jb_one (js_ret (ce_bl))) (jb_nil))
    (jb_cons (seti_ 5 (v_ 8) (ce_op o_sub (v_ 7) (JE.ja (ce_int))))
    (jb_one (js_if (jt_w (jw_or (jt_cmp o_ne (je_call F_raised (Nat.le_of_ble_eq_true rfl) rfl (jg_val (v_ 2) (jg_val (v_ 7) (jg_val (v_ 8) (jg_nil))))) (JE.ja (je_call F_law_made (Nat.le_of_ble_eq_true rfl) rfl (bor_ 5 (jg_nil))))) (jw_or1 (jt_cmp o_ne (je_call F_compare (Nat.le_of_ble_eq_true rfl) rfl (jg_val (v_ 2) (jg_val (je_call F_raised (Nat.le_of_ble_eq_true rfl) rfl (jg_val (v_ 2) (jg_val (v_ 7) (jg_val (v_ 8) (jg_nil))))) (jg_nil)))) (JE.ja (ce_str)))))) (jb_one (js_ret (ce_bl))) (jb_nil)))))))))))))))))
    (jb_one (js_ret (ce_bl)))
theorem F_law (T : Facts c) : FnD c 4 "law" ["_law_script"] f_law := T.a_law.fn sc_law (jb_law T (F_law_cell T) (F_law_counts T) (F_law_due T) (F_law_made T) (F_law_vector T) (F_compare T) (F_count_of T) (F_counts_of T) (F_join T) (F_raised T))
end
theorem all_mk {l : PySem.W.OpenLaw} {w : World} {K : PySem.W.Frag} {h : Heap} {mg : Str → Option Value} {fa f0 f1 f2 f3 f4 f5 f6 f7 f8 f9 f10 f11 : Addr} (X : K.In h) (G : h.Ns mainGlobals mg) (hfa : mg "law" = some (.ref fa))
    {od0 an0 od1 an1 od2 an2 od3 an3 od4 an4 od5 an5 od6 an6 od7 an7 od8 an8 od9 an9 od10 an10 od11 an11 : Option Addr} {sl0 sl1 sl2 sl3 sl4 sl5 sl6 sl7 sl8 sl9 sl10 sl11 : Array (Option Value)} {oc0 kV0 dc0 pm0 cd0 ct0 oc1 kV1 dc1 pm1 cd1 ct1 oc2 kV2 dc2 pm2 cd2 ct2 oc3 kV3 dc3 pm3 cd3 ct3 oc4 kV4 dc4 pm4 cd4 ct4 oc5 kV5 dc5 pm5 cd5 ct5 oc6 kV6 dc6 pm6 cd6 ct6 oc7 kV7 dc7 pm7 cd7 ct7 oc8 kV8 dc8 pm8 cd8 ct8 oc9 kV9 dc9 pm9 cd9 ct9 oc10 kV10 dc10 pm10 cd10 ct10 oc11 kV11 dc11 pm11 cd11 ct11 : Value} {t_DEVICES : Tok}
    (a0 : PySem.W.nsIn K mainGlobals "count_of" = some (some (.ref f0)))
    (l0 : K.lookup f0 = some ⟨oc0, od0, .func (PySem.W.fnOf "count_of" "count_of" (defArgs s_count_of) (defBody s_count_of) (defScope s_count_of) .none kV0 dc0 pm0 an0 cd0 ct0), sl0⟩) (c0 : PySem.W.codeIn K cd0 "count_of" = true) (k0 : PySem.W.keepIn K (.ref f0) = true)
    (a1 : PySem.W.nsIn K mainGlobals "counts_of" = some (some (.ref f1)))
    (l1 : K.lookup f1 = some ⟨oc1, od1, .func (PySem.W.fnOf "counts_of" "counts_of" (defArgs s_counts_of) (defBody s_counts_of) (defScope s_counts_of) .none kV1 dc1 pm1 an1 cd1 ct1), sl1⟩) (c1 : PySem.W.codeIn K cd1 "counts_of" = true) (k1 : PySem.W.keepIn K (.ref f1) = true)
    (a2 : PySem.W.nsIn K mainGlobals "vector_of" = some (some (.ref f2)))
    (l2 : K.lookup f2 = some ⟨oc2, od2, .func (PySem.W.fnOf "vector_of" "vector_of" (defArgs s_vector_of) (defBody s_vector_of) (defScope s_vector_of) .none kV2 dc2 pm2 an2 cd2 ct2), sl2⟩) (c2 : PySem.W.codeIn K cd2 "vector_of" = true) (k2 : PySem.W.keepIn K (.ref f2) = true)
    (a3 : PySem.W.nsIn K mainGlobals "compare" = some (some (.ref f3)))
    (l3 : K.lookup f3 = some ⟨oc3, od3, .func (PySem.W.fnOf "compare" "compare" (defArgs s_compare) (defBody s_compare) (defScope s_compare) .none kV3 dc3 pm3 an3 cd3 ct3), sl3⟩) (c3 : PySem.W.codeIn K cd3 "compare" = true) (k3 : PySem.W.keepIn K (.ref f3) = true)
    (a4 : PySem.W.nsIn K mainGlobals "join" = some (some (.ref f4)))
    (l4 : K.lookup f4 = some ⟨oc4, od4, .func (PySem.W.fnOf "join" "join" (defArgs s_join) (defBody s_join) (defScope s_join) .none kV4 dc4 pm4 an4 cd4 ct4), sl4⟩) (c4 : PySem.W.codeIn K cd4 "join" = true) (k4 : PySem.W.keepIn K (.ref f4) = true)
    (a5 : PySem.W.nsIn K mainGlobals "raised" = some (some (.ref f5)))
    (l5 : K.lookup f5 = some ⟨oc5, od5, .func (PySem.W.fnOf "raised" "raised" (defArgs s_raised) (defBody s_raised) (defScope s_raised) .none kV5 dc5 pm5 an5 cd5 ct5), sl5⟩) (c5 : PySem.W.codeIn K cd5 "raised" = true) (k5 : PySem.W.keepIn K (.ref f5) = true)
    (a6 : PySem.W.nsIn K mainGlobals "_law_cell" = some (some (.ref f6)))
    (l6 : K.lookup f6 = some ⟨oc6, od6, .func (PySem.W.fnOf "_law_cell" "_law_cell" (defArgs s_law_cell) (defBody s_law_cell) (defScope s_law_cell) .none kV6 dc6 pm6 an6 cd6 ct6), sl6⟩) (c6 : PySem.W.codeIn K cd6 "_law_cell" = true) (k6 : PySem.W.keepIn K (.ref f6) = true)
    (a7 : PySem.W.nsIn K mainGlobals "_law_vector" = some (some (.ref f7)))
    (l7 : K.lookup f7 = some ⟨oc7, od7, .func (PySem.W.fnOf "_law_vector" "_law_vector" (defArgs s_law_vector) (defBody s_law_vector) (defScope s_law_vector) .none kV7 dc7 pm7 an7 cd7 ct7), sl7⟩) (c7 : PySem.W.codeIn K cd7 "_law_vector" = true) (k7 : PySem.W.keepIn K (.ref f7) = true)
    (a8 : PySem.W.nsIn K mainGlobals "_law_counts" = some (some (.ref f8)))
    (l8 : K.lookup f8 = some ⟨oc8, od8, .func (PySem.W.fnOf "_law_counts" "_law_counts" (defArgs s_law_counts) (defBody s_law_counts) (defScope s_law_counts) .none kV8 dc8 pm8 an8 cd8 ct8), sl8⟩) (c8 : PySem.W.codeIn K cd8 "_law_counts" = true) (k8 : PySem.W.keepIn K (.ref f8) = true)
    (a9 : PySem.W.nsIn K mainGlobals "_law_due" = some (some (.ref f9)))
    (l9 : K.lookup f9 = some ⟨oc9, od9, .func (PySem.W.fnOf "_law_due" "_law_due" (defArgs s_law_due) (defBody s_law_due) (defScope s_law_due) .none kV9 dc9 pm9 an9 cd9 ct9), sl9⟩) (c9 : PySem.W.codeIn K cd9 "_law_due" = true) (k9 : PySem.W.keepIn K (.ref f9) = true)
    (a10 : PySem.W.nsIn K mainGlobals "_law_made" = some (some (.ref f10)))
    (l10 : K.lookup f10 = some ⟨oc10, od10, .func (PySem.W.fnOf "_law_made" "_law_made" (defArgs s_law_made) (defBody s_law_made) (defScope s_law_made) .none kV10 dc10 pm10 an10 cd10 ct10), sl10⟩) (c10 : PySem.W.codeIn K cd10 "_law_made" = true) (k10 : PySem.W.keepIn K (.ref f10) = true)
    (a11 : PySem.W.nsIn K mainGlobals "law" = some (some (.ref f11)))
    (l11 : K.lookup f11 = some ⟨oc11, od11, .func (PySem.W.fnOf "law" "law" (defArgs s_law) (defBody s_law) (defScope s_law) .none kV11 dc11 pm11 an11 cd11 ct11), sl11⟩) (c11 : PySem.W.codeIn K cd11 "law" = true) (k11 : PySem.W.keepIn K (.ref f11) = true)
    (z_any : PySem.W.nsIn K mainGlobals "any" = some none)
    (z_int : PySem.W.nsIn K mainGlobals "int" = some none)
    (z_len : PySem.W.nsIn K mainGlobals "len" = some none)
    (z_list : PySem.W.nsIn K mainGlobals "list" = some none)
    (z_max : PySem.W.nsIn K mainGlobals "max" = some none)
    (z_range : PySem.W.nsIn K mainGlobals "range" = some none)
    (z_tuple : PySem.W.nsIn K mainGlobals "tuple" = some none)
    (z_zip : PySem.W.nsIn K mainGlobals "zip" = some none)
    (y_DEVICES : PySem.W.nsIn K mainGlobals "DEVICES" = some (some (.int 9 t_DEVICES)))
    (hm : ∀ ns : List Int, ns.length ≤ 63 → ∃ as, f_law [.val (scriptD ns)] = some (.bool true, as)) :
    ∃ fd : FuncData, (∀ (s : Shared) (v : Value), BindsTo s fd ⟨[v], []⟩ [("_law_script", v)]) ∧ ∀ base : Heap, K.In base → base.Ns mainGlobals mg → FnOk l.prog w K mg base CX0 4 fa fd ["_law_script"] (fun vs H Q _ => ∃ (a : Addr) (ns : List Int), vs = [.ref a] ∧ SqL K H a (ns.map V.int) ∧ ns.length ≤ 63 ∧ ∀ H', Q (.bl true) H') := by
  have e := hfa.symm.trans (PySem.W.mg_of X G a11)
  cases e
  have F0 := fun_mk (st := s_count_of) l0 c0 k0
  have b0 := F0.binds (ps := ["vector", "device"]) fun _ _ _ _ _ _ us hl => match us, hl with | [_, _], _ => rfl
  have F1 := fun_mk (st := s_counts_of) l1 c1 k1
  have b1 := F1.binds (ps := ["vector"]) fun _ _ _ _ _ _ us hl => match us, hl with | [_], _ => rfl
  have F2 := fun_mk (st := s_vector_of) l2 c2 k2
  have b2 := F2.binds (ps := ["counts"]) fun _ _ _ _ _ _ us hl => match us, hl with | [_], _ => rfl
  have F3 := fun_mk (st := s_compare) l3 c3 k3
  have b3 := F3.binds (ps := ["first", "second"]) fun _ _ _ _ _ _ us hl => match us, hl with | [_, _], _ => rfl
  have F4 := fun_mk (st := s_join) l4 c4 k4
  have b4 := F4.binds (ps := ["first", "second"]) fun _ _ _ _ _ _ us hl => match us, hl with | [_, _], _ => rfl
  have F5 := fun_mk (st := s_raised) l5 c5 k5
  have b5 := F5.binds (ps := ["vector", "device", "number"]) fun _ _ _ _ _ _ us hl => match us, hl with | [_, _, _], _ => rfl
  have F6 := fun_mk (st := s_law_cell) l6 c6 k6
  have b6 := F6.binds (ps := ["_law_script", "_law_k"]) fun _ _ _ _ _ _ us hl => match us, hl with | [_, _], _ => rfl
  have F7 := fun_mk (st := s_law_vector) l7 c7 k7
  have b7 := F7.binds (ps := ["_law_cell_here", "_law_most"]) fun _ _ _ _ _ _ us hl => match us, hl with | [_, _], _ => rfl
  have F8 := fun_mk (st := s_law_counts) l8 c8 k8
  have b8 := F8.binds (ps := ["_law_vector_here"]) fun _ _ _ _ _ _ us hl => match us, hl with | [_], _ => rfl
  have F9 := fun_mk (st := s_law_due) l9 c9 k9
  have b9 := F9.binds (ps := ["_law_first", "_law_second"]) fun _ _ _ _ _ _ us hl => match us, hl with | [_, _], _ => rfl
  have F10 := fun_mk (st := s_law_made) l10 c10 k10
  have b10 := F10.binds (ps := ["_law_counts_here"]) fun _ _ _ _ _ _ us hl => match us, hl with | [_], _ => rfl
  have F11 := fun_mk (st := s_law) l11 c11 k11
  have b11 := F11.binds (ps := ["_law_script"]) fun _ _ _ _ _ _ us hl => match us, hl with | [_], _ => rfl
  have T : ∀ base : Heap, Facts ⟨l.prog, w, K, mg, base, 0, true⟩ := fun base => ⟨PySem.W.mg_none_of X G z_any, PySem.W.mg_none_of X G z_int, PySem.W.mg_none_of X G z_len, PySem.W.mg_none_of X G z_list, PySem.W.mg_none_of X G z_max, PySem.W.mg_none_of X G z_range, PySem.W.mg_none_of X G z_tuple, PySem.W.mg_none_of X G z_zip, ⟨_, PySem.W.mg_of X G y_DEVICES⟩, ⟨_, _, F0, PySem.W.mg_of X G a0, b0⟩, ⟨_, _, F1, PySem.W.mg_of X G a1, b1⟩, ⟨_, _, F2, PySem.W.mg_of X G a2, b2⟩, ⟨_, _, F3, PySem.W.mg_of X G a3, b3⟩, ⟨_, _, F4, PySem.W.mg_of X G a4, b4⟩, ⟨_, _, F5, PySem.W.mg_of X G a5, b5⟩, ⟨_, _, F6, PySem.W.mg_of X G a6, b6⟩, ⟨_, _, F7, PySem.W.mg_of X G a7, b7⟩, ⟨_, _, F8, PySem.W.mg_of X G a8, b8⟩, ⟨_, _, F9, PySem.W.mg_of X G a9, b9⟩, ⟨_, _, F10, PySem.W.mg_of X G a10, b10⟩, ⟨_, _, F11, PySem.W.mg_of X G a11, b11⟩⟩
  refine ⟨PySem.W.fnOf "law" "law" (defArgs s_law) (defBody s_law) (defScope s_law) .none kV11 dc11 pm11 an11 cd11 ct11, fun s v => .of_eq rfl, fun base _ _ => ?_⟩
  exact law_fn (c := ⟨l.prog, w, K, mg, base, 0, true⟩) (fn_ok (c := ⟨l.prog, w, K, mg, base, 0, true⟩) F11 sc_law (jb_law (T base) (F_law_cell (T base)) (F_law_counts (T base)) (F_law_due (T base)) (F_law_made (T base)) (F_law_vector (T base)) (F_compare (T base)) (F_count_of (T base)) (F_counts_of (T base)) (F_join (T base)) (F_raised (T base)))) hm
end K01

namespace K01
open PySem L2 Dz
--R1 wps_seqO
local macro_rules | `(tactic| array_mem_dec) => `(tactic| (repeat' (first | (with_reducible first | refine wp_kC ?_ | refine wp_bop ?_ | refine wp_tst ?_ | refine wp_val ?_ | refine wp_andK ?_ | refine wp_orK ?_ | refine wp_notK ?_ | refine wp_andV ?_ | refine wp_orV ?_ | refine wp_chain ?_ | refine wp_ifK ?_ | refine wp_nil ?_ | refine wp_cons ?_ | refine wp_gnil ?_ | refine wp_gval ?_ | refine wp_call ?_ | refine wp_neg ?_ | refine wp_b1 ?_ | refine wp_bn ?_ | refine wp_isi ?_ | refine wp_met ?_ | refine wp_pnone ?_ | refine wp_psome ?_ | refine wp_cut ?_ | refine wp_listK ?_ | refine wp_tupleK ?_ | refine wp_strK ?_ | refine wp_yes ?_ | refine wp_tup ?_ | refine wp_lst ?_ | refine tb_b ?_ | refine ti_b ?_ | refine tl_b ?_ | refine tt_b ?_ | refine ts_b ?_ | refine thn_nx ?_ | refine thn_rt ?_ | refine thn_bk ?_ | refine thn_ct ?_ | refine fin_rt ?_ | refine fin_nx ?_ | refine wps_seq ?_ | refine wps_next ?_ | refine wps_break ?_ | refine wps_cont ?_ | refine wps_drop ?_ | refine wps_ret ?_ | refine wps_retN ?_ | refine wps_if ?_ | refine wps_asg ?_ | refine oq_tgNil ?_ | refine oq_tgCons ?_ | refine it2_t ?_ | refine it2_f ?_ | refine it2_not ?_ | refine oq_add_i ?_ | refine oq_sub ?_ | refine oq_lt ?_ | refine oq_le ?_ | refine oq_gt ?_ | refine oq_ge ?_ | refine oq_eq_i ?_ | refine oq_ne_i ?_ | refine oq_eq_s ?_ | refine oq_ne_s ?_ | refine oq_eq_b ?_ | refine oq_ne_b ?_ | refine oq_is ?_ | refine oq_isNot ?_ | refine oq_in_s ?_ | refine oq_notIn_s ?_ | refine oq_len_l ?_ | refine oq_len_t ?_ | refine oq_int ?_ | refine oq_abs ?_ | refine oq_ord ?_ | refine oq_cut_l ?_ | refine oq_cut_t ?_ | refine oq_list_l ?_ | refine oq_list_t ?_ | refine oq_tuple_l ?_ | refine oq_tuple_t ?_ | refine oq_max2 ?_ | refine oq_min2 ?_ | refine oq_some ?_ | refine oq_len_sc ?_ | refine fq_nx ?_ | refine fq_ct ?_ | refine fq_bk ?_ | refine fq_rt ?_ | refine wfd_nil ?_ | refine wfd_cons ?_ | refine oq_eq_il ?_ | refine oq_ne_il ?_ | refine oq_eq_it ?_ | refine oq_ne_it ?_ | refine oq_lt_il ?_ | refine oq_lt_it ?_ | refine wp_isiC ?_ | refine wp_rev ?_ | refine wp_callF ?_ | refine wp_consF ?_ | refine wp_oneF ?_ | refine wp_cat ?_ | refine oq_isiC_ob ?_ | refine oq_isiC_t ?_ | refine oq_isiC_l ?_ | refine oq_eqI ?_ | refine oq_eqI_t ?_ | refine inw_nil ?_ | refine wps_seqO ?_) | ((with_reducible apply wp_kV); exact rfl) | ((with_reducible apply wp_kO_bor); exact rfl) | ((with_reducible apply wp_kO_own); exact rfl) | ((with_reducible apply wp_kO_val); exact rfl) | ((with_reducible apply wp_bopO); exact rfl) | ((with_reducible apply wp_cutO); exact rfl) | ((with_reducible apply wps_frz); exact rfl) | ((with_reducible apply wps_aug); exact rfl) | ((with_reducible apply oq_mutL_bor); exact rfl) | ((with_reducible apply oq_mutL_own); exact rfl) | ((with_reducible apply oq_tgTup); exact rfl) | ((with_reducible apply oq_ix_lk); exact rfl) | ((with_reducible apply oq_ix_tk); exact rfl) | ((with_reducible apply oq_setv); exact rfl; simp only [List.set]) | ((with_reducible apply oq_seto); exact rfl; simp only [List.set]) | ((with_reducible apply wp_gbor); exact rfl; exact rfl) | ((with_reducible apply wp_mut); exact rfl; exact ⟨_, rfl⟩) | ((with_reducible apply wps_seti); exact ⟨_, rfl⟩) | ((with_reducible apply cwp_of); exact rfl; exact rfl; try simp only [giveBack, setd, Sl.d]) | ((with_reducible apply oq_ixN_k); exact rfl; simp only [Sl.d, Sl.wi, List.set]) | ((with_reducible apply oq_mod); (first | omega | decide)) | ((with_reducible apply oq_div); (first | omega | decide)) | ((with_reducible apply oq_mul); (first | omega | decide)) | ((with_reducible apply oq_pow); (first | omega | decide)) | ((with_reducible apply oq_shl); (first | omega | decide)) | ((with_reducible apply oq_shr); (first | omega | decide)) | ((with_reducible apply oq_add_s); (first | omega | decide)) | ((with_reducible apply oq_len_s); (first | omega | decide)) | ((with_reducible apply oq_cut_s); (first | omega | decide)) | ((with_reducible apply oq_append); (first | omega | decide)) | ((with_reducible apply oq_insert); (first | omega | decide)) | ((with_reducible apply oq_extend); (first | omega | decide)) | ((with_reducible apply oq_rep); (first | omega | decide)) | ((with_reducible apply oq_cat); (first | omega | decide)) | ((with_reducible apply lok); exact rfl) | ((with_reducible refine it2_dec ?_ ?_) <;> intro))))
local macro_rules | `(tactic| array_get_dec) => `(tactic| (repeat' (first | (with_reducible first | refine wp_kC ?_ | refine wp_bop ?_ | refine wp_tst ?_ | refine wp_val ?_ | refine wp_andK ?_ | refine wp_orK ?_ | refine wp_notK ?_ | refine wp_andV ?_ | refine wp_orV ?_ | refine wp_chain ?_ | refine wp_ifK ?_ | refine wp_nil ?_ | refine wp_cons ?_ | refine wp_gnil ?_ | refine wp_gval ?_ | refine wp_call ?_ | refine wp_neg ?_ | refine wp_b1 ?_ | refine wp_bn ?_ | refine wp_isi ?_ | refine wp_met ?_ | refine wp_pnone ?_ | refine wp_psome ?_ | refine wp_cut ?_ | refine wp_listK ?_ | refine wp_tupleK ?_ | refine wp_strK ?_ | refine wp_yes ?_ | refine wp_tup ?_ | refine wp_lst ?_ | refine tb_b ?_ | refine ti_b ?_ | refine tl_b ?_ | refine tt_b ?_ | refine ts_b ?_ | refine thn_rt ?_ | refine thn_bk ?_ | refine thn_ct ?_ | refine fin_rt ?_ | refine fin_nx ?_ | refine wps_seq ?_ | refine wps_next ?_ | refine wps_break ?_ | refine wps_cont ?_ | refine wps_drop ?_ | refine wps_ret ?_ | refine wps_retN ?_ | refine wps_if ?_ | refine wps_asg ?_ | refine oq_tgNil ?_ | refine oq_tgCons ?_ | refine it2_t ?_ | refine it2_f ?_ | refine it2_not ?_ | refine oq_add_i ?_ | refine oq_sub ?_ | refine oq_lt ?_ | refine oq_le ?_ | refine oq_gt ?_ | refine oq_ge ?_ | refine oq_eq_i ?_ | refine oq_ne_i ?_ | refine oq_eq_s ?_ | refine oq_ne_s ?_ | refine oq_eq_b ?_ | refine oq_ne_b ?_ | refine oq_is ?_ | refine oq_isNot ?_ | refine oq_in_s ?_ | refine oq_notIn_s ?_ | refine oq_len_l ?_ | refine oq_len_t ?_ | refine oq_int ?_ | refine oq_abs ?_ | refine oq_ord ?_ | refine oq_cut_l ?_ | refine oq_cut_t ?_ | refine oq_list_l ?_ | refine oq_list_t ?_ | refine oq_tuple_l ?_ | refine oq_tuple_t ?_ | refine oq_max2 ?_ | refine oq_min2 ?_ | refine oq_some ?_ | refine oq_len_sc ?_ | refine fq_nx ?_ | refine fq_ct ?_ | refine fq_bk ?_ | refine fq_rt ?_ | refine wfd_nil ?_ | refine wfd_cons ?_ | refine oq_eq_il ?_ | refine oq_ne_il ?_ | refine oq_eq_it ?_ | refine oq_ne_it ?_ | refine oq_lt_il ?_ | refine oq_lt_it ?_ | refine wp_isiC ?_ | refine wp_rev ?_ | refine wp_callF ?_ | refine wp_consF ?_ | refine wp_oneF ?_ | refine wp_cat ?_ | refine oq_isiC_ob ?_ | refine oq_isiC_t ?_ | refine oq_isiC_l ?_ | refine oq_eqI ?_ | refine oq_eqI_t ?_ | refine inw_nil ?_ | refine wps_seqO ?_) | ((with_reducible apply wp_kV); exact rfl) | ((with_reducible apply wp_kO_bor); exact rfl) | ((with_reducible apply wp_kO_own); exact rfl) | ((with_reducible apply wp_kO_val); exact rfl) | ((with_reducible apply wp_bopO); exact rfl) | ((with_reducible apply wp_cutO); exact rfl) | ((with_reducible apply wps_frz); exact rfl) | ((with_reducible apply wps_aug); exact rfl) | ((with_reducible apply oq_mutL_bor); exact rfl) | ((with_reducible apply oq_mutL_own); exact rfl) | ((with_reducible apply oq_tgTup); exact rfl) | ((with_reducible apply oq_ix_lk); exact rfl) | ((with_reducible apply oq_ix_tk); exact rfl) | ((with_reducible apply oq_setv); exact rfl; simp only [List.set]) | ((with_reducible apply oq_seto); exact rfl; simp only [List.set]) | ((with_reducible apply wp_gbor); exact rfl; exact rfl) | ((with_reducible apply wp_mut); exact rfl; exact ⟨_, rfl⟩) | ((with_reducible apply wps_seti); exact ⟨_, rfl⟩) | ((with_reducible apply cwp_of); exact rfl; exact rfl; try simp only [giveBack, setd, Sl.d]) | ((with_reducible apply oq_ixN_k); exact rfl; simp only [Sl.d, Sl.wi, List.set]) | ((with_reducible apply oq_mod); (first | omega | decide)) | ((with_reducible apply oq_div); (first | omega | decide)) | ((with_reducible apply oq_mul); (first | omega | decide)) | ((with_reducible apply oq_pow); (first | omega | decide)) | ((with_reducible apply oq_shl); (first | omega | decide)) | ((with_reducible apply oq_shr); (first | omega | decide)) | ((with_reducible apply oq_add_s); (first | omega | decide)) | ((with_reducible apply oq_len_s); (first | omega | decide)) | ((with_reducible apply oq_cut_s); (first | omega | decide)) | ((with_reducible apply oq_append); (first | omega | decide)) | ((with_reducible apply oq_insert); (first | omega | decide)) | ((with_reducible apply oq_extend); (first | omega | decide)) | ((with_reducible apply oq_rep); (first | omega | decide)) | ((with_reducible apply oq_cat); (first | omega | decide)) | ((with_reducible apply lok); exact rfl) | ((with_reducible refine it2_dec ?_ ?_) <;> intro))))
local macro_rules | `(tactic| sizeOf_list_dec) => `(tactic| (try simp only [List.set, Sl.wi, Sl.d, List.map_cons, List.map_nil, Nat.reduceSub, List.reduceReplicate, List.cons_append, List.nil_append, finA, giveBack, setd, wipeA, unw, List.getElem?_cons_zero, List.getElem?_cons_succ, Option.getD_some, Option.getD_none]))
def Vn (x : Option Sl) : Prop := x = none ∨ ∃ d : D, x = some (.val d)
abbrev Vec := List (Int × Int)
def VL (v : Vec) : List D := v.map fun p => .tuple [.int p.1, .int p.2]
def VD (v : Vec) : D := .tuple (VL v)
theorem okD_VD (k : Nat) (v : Vec) : okD (k + 2) (VD v) = true := by
  show (VL v).all (okD (k + 1)) = true
  rw [List.all_eq_true]
  intro d hd
  obtain ⟨p, _, rfl⟩ := List.mem_map.mp hd
  show [PyData.int p.1, PyData.int p.2].all (okD k) = true
  cases k <;> rfl
def cnt : Vec → Int → Int
  | [], _ => 0
  | p :: v, d => if p.1 = d then p.2 else cnt v d
theorem count_ok {v : Vec} {d : Int} {Q : D → List Sl → Prop} (q : Q (.int (cnt v d)) [.val (VD v), .val (.int d)]) : fwp f_count_of [.val (VD v), .val (.int d)] Q := by
  unfold f_count_of m_count_of VD at *
  refine fwp_run rfl rfl ?_
  sizeOf_list_dec
  array_mem_dec
  refine wps_for (wp_tupleK ?_)
  array_mem_dec
  refine ⟨fun ds ρ => ∃ (as bs : Vec) (x y : Option Sl), v = as ++ bs ∧ cnt v d = cnt bs d ∧ ds = VL bs ∧ Vn x ∧ Vn y ∧ ρ = [some (.val (.tuple (VL v))), some (.val (.int d)), x, y], ⟨[], v, none, none, rfl, rfl, rfl, .inl rfl, .inl rfl, rfl⟩, ?_, ?_⟩
  · rintro z ds ρ ⟨as, bs, x, y, e1, e2, e3, hx, hy, rfl⟩
    cases bs with
    | nil => cases e3
    | cons p bs =>
      simp only [VL, List.map_cons, List.cons.injEq] at e3
      obtain ⟨rfl, rfl⟩ := e3
      array_mem_dec
      refine oq_setv_nb rfl hx ?_
      simp only [List.set]
      array_mem_dec
      refine oq_setv_nb rfl hy ?_
      simp only [List.set]
      array_mem_dec
      · rename_i h
        sizeOf_list_dec
        rw [e2] at q
        unfold cnt at q
        rw [if_pos h] at q
        exact q
      · rename_i h
        refine ⟨as ++ [p], bs, _, _, by simp [e1], ?_, rfl, .inr ⟨_, rfl⟩, .inr ⟨_, rfl⟩, rfl⟩
        rw [e2]
        show (if _ then _ else _) = _
        rw [if_neg h]
  · rintro ρ ⟨as, bs, x, y, e1, e2, e3, hx, hy, rfl⟩
    cases bs with
    | cons p bs => cases e3
    | nil =>
      array_mem_dec
      sizeOf_list_dec
      rw [e2] at q
      exact q
def LF (f : Nat → Int) : List D := (List.range 9).map fun i => .int (f i)
theorem LF_len {f : Nat → Int} : (LF f).length = 9 := by unfold LF; simp
theorem LF_ints {f : Nat → Int} : LF f = ((List.range 9).map f).map PyData.int := by
  unfold LF
  rw [List.map_map]
  rfl
def cs (v : Vec) : Nat → Int := fun i => cnt v ((i : Nat) + 1)
theorem counts_ok {v : Vec} {Q : D → List Sl → Prop} (q : Q (.tuple (LF (cs v))) [.val (VD v)]) : fwp f_counts_of [.val (VD v)] Q := by
  unfold f_counts_of m_counts_of
  refine fwp_run rfl rfl ?_
  sizeOf_list_dec
  array_mem_dec
  refine wp_map (List.range 9) (fun i => .int (1 + (i : Nat))) (fun i => .int (cs v i)) (wp_range2 ?_)
  array_mem_dec
  refine ⟨1, 10, rfl, by decide, nums_map _ _, by simp, fun i hi => ?_, ?_⟩
  · sizeOf_list_dec
    array_mem_dec
    refine count_ok ?_
    sizeOf_list_dec
    rw [show (1 : Int) + (i : Nat) = (i : Nat) + 1 by omega]
    exact ⟨rfl, trivial⟩
  · array_mem_dec
    sizeOf_list_dec
    exact q
theorem LF_ix {f : Nat → Int} {k : Int} (h0 : 0 ≤ k) (h1 : k < 9) {Q : D → Prop} (q : Q (.int (f k.toNat))) : oq (dIx (.list (LF f)) (.int k)) Q := by
  refine oq_ix_l h0 (by rw [LF_len]; omega) fun z hz => ?_
  unfold LF at hz
  rw [List.getElem?_map, List.getElem?_range (by omega)] at hz
  cases hz
  exact q
def setF (f : Nat → Int) (k : Nat) (v : Int) : Nat → Int := fun i => if i = k then v else f i
theorem LF_set {f : Nat → Int} {k : Nat} {v : Int} (h : k < 9) : (LF f).set k (.int v) = LF (setF f k v) := by
  unfold LF setF
  refine List.ext_getElem? fun i => ?_
  rw [List.getElem?_set, List.getElem?_map, List.getElem?_map, List.length_map, List.length_range]
  by_cases e : k = i
  · subst e
    rw [if_pos rfl, if_pos h, List.getElem?_range h]
    simp
  · rw [if_neg e]
    by_cases l : i < 9
    · rw [List.getElem?_range l]
      simp [show ¬ i = k from fun z => e z.symm]
    · rw [List.getElem?_eq_none (by simp; omega)]
      rfl
def vo (f : Nat → Int) : Vec := ((List.range 9).filter fun i => decide (0 < f i)).map fun i => (((i : Nat) : Int) + 1, f i)
theorem vector_of_ok {f : Nat → Int} {Q : D → List Sl → Prop} (q : Q (VD (vo f)) [.val (.list (LF f))]) : fwp f_vector_of [.val (.list (LF f))] Q := by
  unfold f_vector_of m_vector_of
  refine fwp_run rfl rfl ?_
  sizeOf_list_dec
  array_mem_dec
  refine wp_fmap (List.range 9) (fun i => .int (0 + (i : Nat))) (fun i => decide (0 < f i)) (fun i => .tuple [.int (((i : Nat) : Int) + 1), .int (f i)]) (wp_range1 ?_)
  array_mem_dec
  refine ⟨9, rfl, by decide, nums_map _ _, by simp, fun i hi => ?_, ?_⟩
  · have hi := List.mem_range.mp hi
    rw [Int.zero_add]
    sizeOf_list_dec
    array_mem_dec
    refine LF_ix (by omega) (by omega) ?_
    array_mem_dec
    refine ⟨rfl, fun _ => ?_, fun _ => rfl⟩
    array_mem_dec
    refine LF_ix (by omega) (by omega) ?_
    array_mem_dec
    exact ⟨rfl, rfl⟩
  · array_mem_dec
    sizeOf_list_dec
    unfold VD VL vo at q
    rw [List.map_map] at q
    exact q
theorem zip_LF {f g : Nat → Int} : zipD (LF f) (LF g) = (List.range 9).map fun i => .tuple [.int (f i), .int (g i)] := by
  unfold zipD LF
  rw [List.zip_map', List.map_map]
  rfl
def mx (f g : Nat → Int) : Nat → Int := fun i => if g i > f i then g i else f i
theorem join_ok {v w : Vec} {Q : D → List Sl → Prop} (q : Q (VD (vo (mx (cs v) (cs w)))) [.val (VD v), .val (VD w)]) : fwp f_join [.val (VD v), .val (VD w)] Q := by
  unfold f_join m_join
  refine fwp_run rfl rfl ?_
  sizeOf_list_dec
  array_mem_dec
  refine wp_map (List.range 9) (fun i => .tuple [.int (cs v i), .int (cs w i)]) (fun i => .int (mx (cs v) (cs w) i)) (wp_zipT ?_)
  array_mem_dec
  refine counts_ok ?_
  sizeOf_list_dec
  array_mem_dec
  refine counts_ok ?_
  sizeOf_list_dec
  array_mem_dec
  refine ⟨_, _, rfl, zip_LF, by simp, fun i hi => ?_, ?_⟩
  · sizeOf_list_dec
    array_mem_dec
    exact ⟨rfl, by first | rfl | trivial⟩
  · array_mem_dec
    refine vector_of_ok (f := mx (cs v) (cs w)) ?_
    sizeOf_list_dec
    array_mem_dec
    sizeOf_list_dec
    exact q
theorem raised_ok {v : Vec} {d m : Int} (h : 1 ≤ d ∧ d ≤ 9) {Q : D → List Sl → Prop} (q : Q (VD (vo (setF (cs v) (d - 1).toNat m))) [.val (VD v), .val (.int d), .val (.int m)]) : fwp f_raised [.val (VD v), .val (.int d), .val (.int m)] Q := by
  unfold f_raised m_raised
  refine fwp_run rfl rfl ?_
  sizeOf_list_dec
  array_mem_dec
  refine counts_ok ?_
  sizeOf_list_dec
  array_mem_dec
  refine oq_ixN (by omega) (by rw [LF_len]; omega) ?_
  sizeOf_list_dec
  array_mem_dec
  rw [LF_set (by omega)]
  sizeOf_list_dec
  array_mem_dec
  refine vector_of_ok ?_
  sizeOf_list_dec
  array_mem_dec
  sizeOf_list_dec
  exact q
def VOk (v : Vec) : Prop := (v.map (·.1)).Nodup ∧ ∀ p, p ∈ v → 1 ≤ p.1 ∧ p.1 ≤ 9 ∧ 1 ≤ p.2
def addV (f : Nat → Int) (v : Vec) : Nat → Int := v.foldl (fun g p => setF g (p.1 - 1).toNat p.2) f
theorem addV_snoc {f : Nat → Int} {as : Vec} {p : Int × Int} : addV f (as ++ [p]) = setF (addV f as) (p.1 - 1).toNat p.2 := by
  unfold addV
  rw [List.foldl_append]
  rfl
theorem addV_eq : ∀ (v : Vec) (f : Nat → Int), VOk v → ∀ i, i < 9 → addV f v i = if ((i : Nat) : Int) + 1 ∈ v.map (·.1) then cs v i else f i
  | [], f, _, i, hi => by simp [addV]
  | p :: v, f, h, i, hi => by
    obtain ⟨h1, h2⟩ := h
    have h1' := List.nodup_cons.mp h1
    have hp := h2 p (by simp)
    have ih := addV_eq v (setF f (p.1 - 1).toNat p.2) ⟨h1'.2, fun q hq => h2 q (List.mem_cons_of_mem _ hq)⟩ i hi
    show addV (setF f (p.1 - 1).toNat p.2) v i = _
    rw [ih]
    have hc : cs (p :: v) i = if p.1 = ((i : Nat) : Int) + 1 then p.2 else cs v i := rfl
    rw [hc]
    by_cases e : p.1 = ((i : Nat) : Int) + 1
    · rw [if_pos e]
      have n1 : ¬ ((i : Nat) : Int) + 1 ∈ v.map (·.1) := by
        rw [← e]
        exact h1'.1
      rw [if_neg n1, if_pos (by simp [e])]
      unfold setF
      rw [if_pos (by omega)]
    · rw [if_neg e]
      by_cases m : ((i : Nat) : Int) + 1 ∈ v.map (·.1)
      · rw [if_pos m, if_pos (by simp at m ⊢; exact .inr m)]
      · rw [if_neg m, if_neg (by simp at m ⊢; exact ⟨fun z => e z.symm, m⟩)]
        unfold setF
        rw [if_neg (by omega)]
theorem cs_out {v : Vec} {i : Nat} (h : ¬ ((i : Nat) : Int) + 1 ∈ v.map (·.1)) : cs v i = 0 := by
  unfold cs
  induction v with
  | nil => rfl
  | cons p v ih =>
    simp at h
    show (if p.1 = _ then _ else _) = _
    rw [if_neg fun z => h.1 z.symm]
    exact ih (by simp; exact h.2)
theorem addV_zero {v : Vec} (h : VOk v) {i : Nat} (hi : i < 9) : addV (fun _ => 0) v i = cs v i := by
  rw [addV_eq v _ h i hi]
  by_cases m : ((i : Nat) : Int) + 1 ∈ v.map (·.1)
  · rw [if_pos m]
  · rw [if_neg m, cs_out m]
theorem LF_congr {f g : Nat → Int} (h : ∀ i, i < 9 → f i = g i) : LF f = LF g := by
  unfold LF
  refine List.map_congr_left fun i hi => ?_
  rw [h i (List.mem_range.mp hi)]
theorem LF_zero : (List.range 9).map (fun _ => PyData.int 0) = LF fun _ => 0 := rfl
theorem cs_vo {f : Nat → Int} (h : ∀ i, i < 9 → 0 ≤ f i) {i : Nat} (hi : i < 9) : cs (vo f) i = f i := by
  have key : ∀ (l : List Nat), l.Nodup → (∀ j, j ∈ l → 0 ≤ f j) → cnt ((l.filter fun i => decide (0 < f i)).map fun i => (((i : Nat) : Int) + 1, f i)) ((i : Nat) + 1) = if i ∈ l then f i else 0 := by
    intro l
    induction l with
    | nil => intro _ _; rfl
    | cons j l ih =>
      intro nd hp
      obtain ⟨n1, n2⟩ := List.nodup_cons.mp nd
      have ih := ih n2 fun k hk => hp k (List.mem_cons_of_mem _ hk)
      by_cases e : j = i
      · subst e
        by_cases p : 0 < f j
        · rw [List.filter_cons_of_pos (by simpa using p), List.map_cons, if_pos (by simp)]
          show (if _ then _ else _) = _
          rw [if_pos rfl]
        · rw [List.filter_cons_of_neg (by simpa using p), ih, if_neg n1, if_pos (by simp)]
          have := hp j (by simp)
          omega
      · have er : (if i ∈ j :: l then f i else 0) = if i ∈ l then f i else 0 := by
          by_cases m : i ∈ l
          · rw [if_pos m, if_pos (List.mem_cons_of_mem _ m)]
          · rw [if_neg m, if_neg (by simp [m]; exact fun z => e z.symm)]
        rw [er, ← ih]
        by_cases p : 0 < f j
        · rw [List.filter_cons_of_pos (by simpa using p), List.map_cons]
          show (if _ then _ else _) = _
          rw [if_neg (by omega)]
        · rw [List.filter_cons_of_neg (by simpa using p)]
  unfold cs vo
  rw [key _ List.nodup_range fun j hj => h j (List.mem_range.mp hj), if_pos (List.mem_range.mpr hi)]
theorem cs_nn {v : Vec} (h : VOk v) (i : Nat) : 0 ≤ cs v i := by
  unfold cs
  have key : ∀ v : Vec, (∀ p, p ∈ v → 1 ≤ p.2) → 0 ≤ cnt v ((i : Nat) + 1) := by
    intro v
    induction v with
    | nil => intro _; exact Int.le_refl 0
    | cons p v ih =>
      intro hv
      show 0 ≤ (if p.1 = ((i : Nat) : Int) + 1 then p.2 else cnt v ((i : Nat) + 1))
      split
      · have := hv p (by simp)
        omega
      · exact ih fun q hq => hv q (List.mem_cons_of_mem _ hq)
  exact key v fun p hp => (h.2 p hp).2.2
theorem vo_congr {f g : Nat → Int} (h : ∀ i, i < 9 → f i = g i) : vo f = vo g := by
  unfold vo
  have e1 : ((List.range 9).filter fun i => decide (0 < f i)) = (List.range 9).filter fun i => decide (0 < g i) := List.filter_congr fun i hi => by rw [h i (List.mem_range.mp hi)]
  rw [e1]
  refine List.map_congr_left fun i hi => ?_
  rw [h i (List.mem_range.mp (List.mem_filter.mp hi).1)]

/-! ### how two vectors stand -/
def ls (f g : Nat → Int) : Bool := (List.range 9).any fun i => decide (f i < g i)
def cmpS (l g : Bool) : Str := if (l && g) = true then "apart" else if l = true then "less" else if g = true then "greater" else "equal"
theorem compare_ok {v w : Vec} {Q : D → List Sl → Prop} (q : Q (.str (cmpS (ls (cs v) (cs w)) (ls (cs w) (cs v)))) [.val (VD v), .val (VD w)]) : fwp f_compare [.val (VD v), .val (VD w)] Q := by
  unfold f_compare m_compare
  refine fwp_run rfl rfl ?_
  sizeOf_list_dec
  array_mem_dec
  refine wp_lzip ?_
  array_mem_dec
  refine counts_ok ?_
  sizeOf_list_dec
  array_mem_dec
  refine counts_ok ?_
  sizeOf_list_dec
  array_mem_dec
  refine ⟨_, _, rfl, ?_⟩
  rw [zip_LF]
  array_mem_dec
  refine wp_map (List.range 9) (fun i => .tuple [.int (cs v i), .int (cs w i)]) (fun i => .bool (decide (cs v i < cs w i))) (wp_listK ?_)
  array_mem_dec
  refine ⟨rfl, by simp, fun i hi => ?_, ?_⟩
  · sizeOf_list_dec
    array_mem_dec
    exact ⟨rfl, by first | rfl | trivial⟩
  refine oq_any ?_
  array_mem_dec
  refine wp_map (List.range 9) (fun i => .tuple [.int (cs v i), .int (cs w i)]) (fun i => .bool (decide (cs w i < cs v i))) (wp_listK ?_)
  array_mem_dec
  refine ⟨rfl, by simp, fun i hi => ?_, ?_⟩
  · sizeOf_list_dec
    array_mem_dec
    exact ⟨rfl, by first | rfl | trivial⟩
  refine oq_any ?_
  array_mem_dec
  change Q (.str (cmpS ((List.range 9).any fun i => decide (cs v i < cs w i)) ((List.range 9).any fun i => decide (cs w i < cs v i)))) _ at q
  generalize ((List.range 9).any fun i => decide (cs v i < cs w i)) = l at q
  generalize ((List.range 9).any fun i => decide (cs w i < cs v i)) = g at q
  cases l <;> cases g
  all_goals array_mem_dec
  all_goals sizeOf_list_dec
  all_goals array_mem_dec
  all_goals sizeOf_list_dec
  all_goals exact q
def up (f g : Nat → Int) : List Int := ((List.range 9).filter fun i => decide (f i < g i)).map fun i => ((i : Nat) : Int)
theorem up_ls (f g : Nat → Int) : decide (up f g = []) = !ls f g := by
  unfold up ls
  generalize List.range 9 = l
  induction l with
  | nil => rfl
  | cons i l ih =>
    by_cases h : f i < g i
    · rw [List.filter_cons_of_pos (by simpa using h), List.any_cons, decide_eq_true h]
      simp
    · rw [List.filter_cons_of_neg (by simpa using h), List.any_cons, decide_eq_false h, Bool.false_or]
      exact ih
theorem up_D (f g : Nat → Int) : PyData.list (((List.range 9).filter fun i => decide (f i < g i)).map fun i => .int ((i : Nat) : Int)) = .list ((up f g).map PyData.int) := by
  unfold up
  rw [List.map_map]
  rfl
theorem due_ok {f g : Nat → Int} {Q : D → List Sl → Prop} (q : Q (.str (cmpS (ls f g) (ls g f))) [.bor (.list (LF f)), .bor (.list (LF g))]) : fwp f_law_due [.bor (.list (LF f)), .bor (.list (LF g))] Q := by
  unfold f_law_due m_law_due
  refine fwp_run rfl rfl ?_
  sizeOf_list_dec
  array_mem_dec
  refine wp_fmap (List.range 9) (fun i => .int (0 + (i : Nat))) (fun i => decide (f i < g i)) (fun i => .int ((i : Nat) : Int)) (wp_range1 ?_)
  array_mem_dec
  refine ⟨9, rfl, by decide, nums_map _ _, by simp, fun i hi => ?_, ?_⟩
  · have hi := List.mem_range.mp hi
    rw [Int.zero_add]
    sizeOf_list_dec
    array_mem_dec
    refine LF_ix (by omega) (by omega) ?_
    array_mem_dec
    refine LF_ix (by omega) (by omega) ?_
    array_mem_dec
    refine ⟨rfl, fun _ => ?_, fun _ => rfl⟩
    array_mem_dec
    exact ⟨rfl, rfl⟩
  rw [up_D]
  array_mem_dec
  refine wp_fmap (List.range 9) (fun i => .int (0 + (i : Nat))) (fun i => decide (g i < f i)) (fun i => .int ((i : Nat) : Int)) (wp_range1 ?_)
  array_mem_dec
  refine ⟨9, rfl, by decide, nums_map _ _, by simp, fun i hi => ?_, ?_⟩
  · have hi := List.mem_range.mp hi
    rw [Int.zero_add]
    sizeOf_list_dec
    array_mem_dec
    refine LF_ix (by omega) (by omega) ?_
    array_mem_dec
    refine LF_ix (by omega) (by omega) ?_
    array_mem_dec
    refine ⟨rfl, fun _ => ?_, fun _ => rfl⟩
    array_mem_dec
    exact ⟨rfl, rfl⟩
  rw [up_D]
  have e1 := up_ls f g
  have e2 := up_ls g f
  generalize up f g = a at e1
  generalize up g f = b at e2
  generalize ls f g = x at q e1
  generalize ls g f = y at q e2
  array_mem_dec
  refine oq_eq_nil ?_
  rw [e1]
  cases x <;> cases y
  all_goals array_mem_dec
  all_goals sizeOf_list_dec
  all_goals (try refine oq_eq_nil ?_)
  all_goals (try first | rw [e2] | rw [e1])
  all_goals array_mem_dec
  all_goals sizeOf_list_dec
  all_goals (try refine oq_eq_nil ?_)
  all_goals (try first | rw [e2] | rw [e1])
  all_goals array_mem_dec
  all_goals sizeOf_list_dec
  all_goals (try refine oq_eq_nil ?_)
  all_goals (try first | rw [e2] | rw [e1])
  all_goals array_mem_dec
  all_goals sizeOf_list_dec
  all_goals exact q
theorem made_ok {f : Nat → Int} {Q : D → List Sl → Prop} (q : Q (VD (vo f)) [.bor (.list (LF f))]) : fwp f_law_made [.bor (.list (LF f))] Q := by
  unfold f_law_made m_law_made
  refine fwp_run rfl rfl ?_
  sizeOf_list_dec
  array_mem_dec
  refine wp_fmap (List.range 9) (fun i => .int (0 + (i : Nat))) (fun i => decide (0 < f i)) (fun i => .tuple [.int (((i : Nat) : Int) + 1), .int (f i)]) (wp_range1 ?_)
  array_mem_dec
  refine ⟨9, rfl, by decide, nums_map _ _, by simp, fun i hi => ?_, ?_⟩
  · have hi := List.mem_range.mp hi
    rw [Int.zero_add]
    sizeOf_list_dec
    array_mem_dec
    refine LF_ix (by omega) (by omega) ?_
    array_mem_dec
    refine ⟨rfl, fun _ => ?_, fun _ => rfl⟩
    array_mem_dec
    refine LF_ix (by omega) (by omega) ?_
    array_mem_dec
    exact ⟨rfl, rfl⟩
  · array_mem_dec
    sizeOf_list_dec
    unfold VD VL vo at q
    rw [List.map_map] at q
    exact q
theorem lcounts_ok {v : Vec} (hv : VOk v) {Q : D → List Sl → Prop} (q : Q (.list (LF (cs v))) [.val (VD v)]) : fwp f_law_counts [.val (VD v)] Q := by
  unfold f_law_counts m_law_counts
  refine fwp_runO rfl rfl ?_
  sizeOf_list_dec
  array_mem_dec
  refine wp_map (List.range 9) (fun i => .int (0 + (i : Nat))) (fun _ => .int 0) (wp_range1 ?_)
  array_mem_dec
  refine ⟨9, rfl, by decide, nums_map _ _, by simp, fun i hi => ?_, ?_⟩
  · sizeOf_list_dec
    array_mem_dec
    exact ⟨rfl, by first | rfl | trivial⟩
  rw [LF_zero]
  array_mem_dec
  refine ⟨_, rfl, ?_⟩
  array_mem_dec
  refine wps_for (wp_tupleK ?_)
  array_mem_dec
  unfold VD
  refine tt_b ?_
  refine ⟨fun ds ρ => ∃ (as bs : Vec) (x y : Option Sl), v = as ++ bs ∧ ds = VL bs ∧ Vn x ∧ Vn y ∧ ρ = [some (.val (VD v)), some (.own (.list (LF (addV (fun _ => 0) as)))), x, y], ⟨[], v, none, none, rfl, rfl, .inl rfl, .inl rfl, rfl⟩, ?_, ?_⟩
  · rintro z ds ρ ⟨as, bs, x, y, e1, e3, hx, hy, rfl⟩
    cases bs with
    | nil => cases e3
    | cons p bs =>
      simp only [VL, List.map_cons, List.cons.injEq] at e3
      obtain ⟨rfl, rfl⟩ := e3
      have hp := hv.2 p (by rw [e1]; simp)
      array_mem_dec
      refine oq_setv_nb rfl hx ?_
      simp only [List.set]
      array_mem_dec
      refine oq_setv_nb rfl hy ?_
      simp only [List.set]
      array_mem_dec
      refine oq_ixN (by omega) (by rw [LF_len]; omega) ?_
      sizeOf_list_dec
      rw [LF_set (by omega)]
      rw [← addV_snoc]
      exact ⟨as ++ [p], bs, _, _, by simp [e1], rfl, .inr ⟨_, rfl⟩, .inr ⟨_, rfl⟩, rfl⟩
  · rintro ρ ⟨as, bs, x, y, e1, e3, hx, hy, rfl⟩
    cases bs with
    | cons p bs => cases e3
    | nil =>
      rw [List.append_nil] at e1
      subst e1
      rw [LF_congr fun i hi => addV_zero hv hi]
      refine ⟨_, rfl, ?_⟩
      refine wps_retO rfl ?_
      exact q
end K01

namespace K01
open PySem L2 Dz
--R1 wps_seqO
local macro_rules | `(tactic| array_mem_dec) => `(tactic| (repeat' (first | (with_reducible first | refine wp_kC ?_ | refine wp_bop ?_ | refine wp_tst ?_ | refine wp_val ?_ | refine wp_andK ?_ | refine wp_orK ?_ | refine wp_notK ?_ | refine wp_andV ?_ | refine wp_orV ?_ | refine wp_chain ?_ | refine wp_ifK ?_ | refine wp_nil ?_ | refine wp_cons ?_ | refine wp_gnil ?_ | refine wp_gval ?_ | refine wp_call ?_ | refine wp_neg ?_ | refine wp_b1 ?_ | refine wp_bn ?_ | refine wp_isi ?_ | refine wp_met ?_ | refine wp_pnone ?_ | refine wp_psome ?_ | refine wp_cut ?_ | refine wp_listK ?_ | refine wp_tupleK ?_ | refine wp_strK ?_ | refine wp_yes ?_ | refine wp_tup ?_ | refine wp_lst ?_ | refine tb_b ?_ | refine ti_b ?_ | refine tl_b ?_ | refine tt_b ?_ | refine ts_b ?_ | refine thn_nx ?_ | refine thn_rt ?_ | refine thn_bk ?_ | refine thn_ct ?_ | refine fin_rt ?_ | refine fin_nx ?_ | refine wps_seq ?_ | refine wps_next ?_ | refine wps_break ?_ | refine wps_cont ?_ | refine wps_drop ?_ | refine wps_ret ?_ | refine wps_retN ?_ | refine wps_if ?_ | refine wps_asg ?_ | refine oq_tgNil ?_ | refine oq_tgCons ?_ | refine it2_t ?_ | refine it2_f ?_ | refine it2_not ?_ | refine oq_add_i ?_ | refine oq_sub ?_ | refine oq_lt ?_ | refine oq_le ?_ | refine oq_gt ?_ | refine oq_ge ?_ | refine oq_eq_i ?_ | refine oq_ne_i ?_ | refine oq_eq_s ?_ | refine oq_ne_s ?_ | refine oq_eq_b ?_ | refine oq_ne_b ?_ | refine oq_is ?_ | refine oq_isNot ?_ | refine oq_in_s ?_ | refine oq_notIn_s ?_ | refine oq_len_l ?_ | refine oq_len_t ?_ | refine oq_int ?_ | refine oq_abs ?_ | refine oq_ord ?_ | refine oq_cut_l ?_ | refine oq_cut_t ?_ | refine oq_list_l ?_ | refine oq_list_t ?_ | refine oq_tuple_l ?_ | refine oq_tuple_t ?_ | refine oq_max2 ?_ | refine oq_min2 ?_ | refine oq_some ?_ | refine oq_len_sc ?_ | refine fq_nx ?_ | refine fq_ct ?_ | refine fq_bk ?_ | refine fq_rt ?_ | refine wfd_nil ?_ | refine wfd_cons ?_ | refine oq_eq_il ?_ | refine oq_ne_il ?_ | refine oq_eq_it ?_ | refine oq_ne_it ?_ | refine oq_lt_il ?_ | refine oq_lt_it ?_ | refine wp_isiC ?_ | refine wp_rev ?_ | refine wp_callF ?_ | refine wp_consF ?_ | refine wp_oneF ?_ | refine wp_cat ?_ | refine oq_isiC_ob ?_ | refine oq_isiC_t ?_ | refine oq_isiC_l ?_ | refine oq_eqI ?_ | refine oq_eqI_t ?_ | refine inw_nil ?_ | refine wps_seqO ?_) | ((with_reducible apply wp_kV); exact rfl) | ((with_reducible apply wp_kO_bor); exact rfl) | ((with_reducible apply wp_kO_own); exact rfl) | ((with_reducible apply wp_kO_val); exact rfl) | ((with_reducible apply wp_bopO); exact rfl) | ((with_reducible apply wp_cutO); exact rfl) | ((with_reducible apply wps_frz); exact rfl) | ((with_reducible apply wps_aug); exact rfl) | ((with_reducible apply oq_mutL_bor); exact rfl) | ((with_reducible apply oq_mutL_own); exact rfl) | ((with_reducible apply oq_tgTup); exact rfl) | ((with_reducible apply oq_ix_lk); exact rfl) | ((with_reducible apply oq_ix_tk); exact rfl) | ((with_reducible apply oq_setv); exact rfl; simp only [List.set]) | ((with_reducible apply oq_seto); exact rfl; simp only [List.set]) | ((with_reducible apply wp_gbor); exact rfl; exact rfl) | ((with_reducible apply wp_mut); exact rfl; exact ⟨_, rfl⟩) | ((with_reducible apply wps_seti); exact ⟨_, rfl⟩) | ((with_reducible apply cwp_of); exact rfl; exact rfl; try simp only [giveBack, setd, Sl.d]) | ((with_reducible apply oq_ixN_k); exact rfl; simp only [Sl.d, Sl.wi, List.set]) | ((with_reducible apply oq_mod); (first | omega | decide)) | ((with_reducible apply oq_div); (first | omega | decide)) | ((with_reducible apply oq_mul); (first | omega | decide)) | ((with_reducible apply oq_pow); (first | omega | decide)) | ((with_reducible apply oq_shl); (first | omega | decide)) | ((with_reducible apply oq_shr); (first | omega | decide)) | ((with_reducible apply oq_add_s); (first | omega | decide)) | ((with_reducible apply oq_len_s); (first | omega | decide)) | ((with_reducible apply oq_cut_s); (first | omega | decide)) | ((with_reducible apply oq_append); (first | omega | decide)) | ((with_reducible apply oq_insert); (first | omega | decide)) | ((with_reducible apply oq_extend); (first | omega | decide)) | ((with_reducible apply oq_rep); (first | omega | decide)) | ((with_reducible apply oq_cat); (first | omega | decide)) | ((with_reducible apply lok); exact rfl) | ((with_reducible refine it2_dec ?_ ?_) <;> intro))))
local macro_rules | `(tactic| array_get_dec) => `(tactic| (repeat' (first | (with_reducible first | refine wp_kC ?_ | refine wp_bop ?_ | refine wp_tst ?_ | refine wp_val ?_ | refine wp_andK ?_ | refine wp_orK ?_ | refine wp_notK ?_ | refine wp_andV ?_ | refine wp_orV ?_ | refine wp_chain ?_ | refine wp_ifK ?_ | refine wp_nil ?_ | refine wp_cons ?_ | refine wp_gnil ?_ | refine wp_gval ?_ | refine wp_call ?_ | refine wp_neg ?_ | refine wp_b1 ?_ | refine wp_bn ?_ | refine wp_isi ?_ | refine wp_met ?_ | refine wp_pnone ?_ | refine wp_psome ?_ | refine wp_cut ?_ | refine wp_listK ?_ | refine wp_tupleK ?_ | refine wp_strK ?_ | refine wp_yes ?_ | refine wp_tup ?_ | refine wp_lst ?_ | refine tb_b ?_ | refine ti_b ?_ | refine tl_b ?_ | refine tt_b ?_ | refine ts_b ?_ | refine thn_rt ?_ | refine thn_bk ?_ | refine thn_ct ?_ | refine fin_rt ?_ | refine fin_nx ?_ | refine wps_seq ?_ | refine wps_next ?_ | refine wps_break ?_ | refine wps_cont ?_ | refine wps_drop ?_ | refine wps_ret ?_ | refine wps_retN ?_ | refine wps_if ?_ | refine wps_asg ?_ | refine oq_tgNil ?_ | refine oq_tgCons ?_ | refine it2_t ?_ | refine it2_f ?_ | refine it2_not ?_ | refine oq_add_i ?_ | refine oq_sub ?_ | refine oq_lt ?_ | refine oq_le ?_ | refine oq_gt ?_ | refine oq_ge ?_ | refine oq_eq_i ?_ | refine oq_ne_i ?_ | refine oq_eq_s ?_ | refine oq_ne_s ?_ | refine oq_eq_b ?_ | refine oq_ne_b ?_ | refine oq_is ?_ | refine oq_isNot ?_ | refine oq_in_s ?_ | refine oq_notIn_s ?_ | refine oq_len_l ?_ | refine oq_len_t ?_ | refine oq_int ?_ | refine oq_abs ?_ | refine oq_ord ?_ | refine oq_cut_l ?_ | refine oq_cut_t ?_ | refine oq_list_l ?_ | refine oq_list_t ?_ | refine oq_tuple_l ?_ | refine oq_tuple_t ?_ | refine oq_max2 ?_ | refine oq_min2 ?_ | refine oq_some ?_ | refine oq_len_sc ?_ | refine fq_nx ?_ | refine fq_ct ?_ | refine fq_bk ?_ | refine fq_rt ?_ | refine wfd_nil ?_ | refine wfd_cons ?_ | refine oq_eq_il ?_ | refine oq_ne_il ?_ | refine oq_eq_it ?_ | refine oq_ne_it ?_ | refine oq_lt_il ?_ | refine oq_lt_it ?_ | refine wp_isiC ?_ | refine wp_rev ?_ | refine wp_callF ?_ | refine wp_consF ?_ | refine wp_oneF ?_ | refine wp_cat ?_ | refine oq_isiC_ob ?_ | refine oq_isiC_t ?_ | refine oq_isiC_l ?_ | refine oq_eqI ?_ | refine oq_eqI_t ?_ | refine inw_nil ?_ | refine wps_seqO ?_) | ((with_reducible apply wp_kV); exact rfl) | ((with_reducible apply wp_kO_bor); exact rfl) | ((with_reducible apply wp_kO_own); exact rfl) | ((with_reducible apply wp_kO_val); exact rfl) | ((with_reducible apply wp_bopO); exact rfl) | ((with_reducible apply wp_cutO); exact rfl) | ((with_reducible apply wps_frz); exact rfl) | ((with_reducible apply wps_aug); exact rfl) | ((with_reducible apply oq_mutL_bor); exact rfl) | ((with_reducible apply oq_mutL_own); exact rfl) | ((with_reducible apply oq_tgTup); exact rfl) | ((with_reducible apply oq_ix_lk); exact rfl) | ((with_reducible apply oq_ix_tk); exact rfl) | ((with_reducible apply oq_setv); exact rfl; simp only [List.set]) | ((with_reducible apply oq_seto); exact rfl; simp only [List.set]) | ((with_reducible apply wp_gbor); exact rfl; exact rfl) | ((with_reducible apply wp_mut); exact rfl; exact ⟨_, rfl⟩) | ((with_reducible apply wps_seti); exact ⟨_, rfl⟩) | ((with_reducible apply cwp_of); exact rfl; exact rfl; try simp only [giveBack, setd, Sl.d]) | ((with_reducible apply oq_ixN_k); exact rfl; simp only [Sl.d, Sl.wi, List.set]) | ((with_reducible apply oq_mod); (first | omega | decide)) | ((with_reducible apply oq_div); (first | omega | decide)) | ((with_reducible apply oq_mul); (first | omega | decide)) | ((with_reducible apply oq_pow); (first | omega | decide)) | ((with_reducible apply oq_shl); (first | omega | decide)) | ((with_reducible apply oq_shr); (first | omega | decide)) | ((with_reducible apply oq_add_s); (first | omega | decide)) | ((with_reducible apply oq_len_s); (first | omega | decide)) | ((with_reducible apply oq_cut_s); (first | omega | decide)) | ((with_reducible apply oq_append); (first | omega | decide)) | ((with_reducible apply oq_insert); (first | omega | decide)) | ((with_reducible apply oq_extend); (first | omega | decide)) | ((with_reducible apply oq_rep); (first | omega | decide)) | ((with_reducible apply oq_cat); (first | omega | decide)) | ((with_reducible apply lok); exact rfl) | ((with_reducible refine it2_dec ?_ ?_) <;> intro))))
local macro_rules | `(tactic| sizeOf_list_dec) => `(tactic| (try simp only [List.set, Sl.wi, Sl.d, List.map_cons, List.map_nil, Nat.reduceSub, List.reduceReplicate, List.cons_append, List.nil_append, finA, giveBack, setd, wipeA, unw, List.getElem?_cons_zero, List.getElem?_cons_succ, Option.getD_some, Option.getD_none]))
def cell (ns : List Int) (k : Int) : Int := if k < ns.length then ns.getD k.toNat 0 else 0
theorem cell_ok {ns : List Int} {k : Int} (h : 0 ≤ k) {Q : D → List Sl → Prop} (q : Q (.int (cell ns k)) [.val (scriptD ns), .val (.int k)]) : fwp f_law_cell [.val (scriptD ns), .val (.int k)] Q := by
  unfold f_law_cell m_law_cell
  unfold cell at q
  refine fwp_run rfl rfl ?_
  sizeOf_list_dec
  array_mem_dec
  · rename_i hk
    refine oq_ix_sc h hk fun z hz => ?_
    array_mem_dec
    sizeOf_list_dec
    rw [if_pos hk, List.getD_eq_getElem?_getD, hz] at q
    exact q
  · rename_i hk
    sizeOf_list_dec
    rw [if_neg hk] at q
    exact q
theorem pow_small : ∀ n : Nat, n ≤ 9 → 0 < (1 : Int) * 2 ^ n ∧ (1 : Int) * 2 ^ n < 2 ^ 80 := by decide
theorem vector_ok {c : Int} {Q : D → List Sl → Prop} (q : ∀ v, VOk v → Q (VD v) [.val (.int c), .val (.int 4)]) : fwp f_law_vector [.val (.int c), .val (.int 4)] Q := by
  unfold f_law_vector m_law_vector
  refine fwp_run rfl rfl ?_
  sizeOf_list_dec
  array_mem_dec
  refine wps_for (wp_range2 ?_)
  array_mem_dec
  refine ⟨1, 10, rfl, by decide, fun ds ρ => ∃ (k : Nat) (v : Vec) (x : Option Sl), ds = nums (1 + (k : Nat)) (9 - k) ∧ k ≤ 9 ∧ (v.map (·.1)).Nodup ∧ (∀ p, p ∈ v → 1 ≤ p.1 ∧ p.1 ≤ k ∧ 1 ≤ p.2) ∧ Vn x ∧ ρ = [some (.val (.int c)), some (.val (.int 4)), some (.own (.list (VL v))), x], ⟨0, [], none, rfl, Nat.zero_le _, List.nodup_nil, (fun _ h => nomatch h), .inl rfl, rfl⟩, ?_, ?_⟩
  · rintro d ds ρ ⟨k, v, x, e, hk, nd, hv, hx, rfl⟩
    rcases Nat.lt_or_ge k 9 with hk | hk
    · rw [show 9 - k = (9 - (k + 1)) + 1 by omega] at e
      simp only [nums, List.cons.injEq] at e
      obtain ⟨rfl, rfl⟩ := e
      have e1 : (1 : Int) + (k : Nat) + 1 = 1 + ((k + 1 : Nat) : Int) := by omega
      have lv : v.length ≤ 100 := by
        have h1 : (v.map (·.1)).length ≤ ((List.range 100).map fun (i : Nat) => (i : Int)).length := by
          refine List.Nodup.length_le_of_subset nd fun z hz => ?_
          obtain ⟨p, hp, rfl⟩ := List.mem_map.mp hz
          have := hv p hp
          exact List.mem_map.mpr ⟨p.1.toNat, List.mem_range.mpr (by omega), by omega⟩
        simpa using h1
      have lV : (VL v).length = v.length := by unfold VL; simp
      have pw := pow_small ((1 + (k : Nat) : Int)).toNat (by omega)
      (refine oq_setv_nb rfl hx ?_; simp only [List.set])
      array_mem_dec
      · have m0 : 0 ≤ c / (7 * (1 + (k : Nat))) % 4 := Int.emod_nonneg _ (by decide)
        refine oq_append (by rw [lV]; omega) ?_
        sizeOf_list_dec
        array_mem_dec
        rw [e1]
        refine ⟨k + 1, v ++ [((1 + (k : Nat) : Int), 1 + c / (7 * (1 + (k : Nat))) % 4)], _, rfl, hk, ?_, fun p hp => ?_, .inr ⟨_, rfl⟩, by unfold VL; rw [List.map_append]; rfl⟩
        · rw [List.map_append, List.nodup_append]
          refine ⟨nd, by simp, fun a ha b hb => ?_⟩
          obtain ⟨p, hp, rfl⟩ := List.mem_map.mp ha
          have := hv p hp
          simp at hb
          omega
        · rcases List.mem_append.mp hp with hp | hp
          · have := hv p hp
            omega
          · rw [List.mem_singleton.mp hp]
            refine ⟨by omega, by show (1 : Int) + (k : Nat) ≤ _; omega, by show 1 ≤ 1 + c / (7 * (1 + (k : Nat))) % 4; omega⟩
      · rw [e1]
        exact ⟨k + 1, v, _, rfl, hk, nd, fun p hp => by have := hv p hp; omega, .inr ⟨_, rfl⟩, rfl⟩
    · rw [show 9 - k = 0 by omega] at e
      cases e
  · rintro ρ ⟨k, v, x, e, hk, nd, hv, hx, rfl⟩
    array_mem_dec
    sizeOf_list_dec
    array_mem_dec
    sizeOf_list_dec
    exact q v ⟨nd, fun p hp => by have := hv p hp; omega⟩
theorem okLF {f : Nat → Int} : okD 60 (.list (LF f)) = true ∧ okD 60 (.tuple (LF f)) = true := by
  rw [LF_ints]
  exact ⟨okD_ints 59 _, okD_ints 59 _⟩
theorem ne_LFt {f : Nat → Int} {Q : D → Prop} (q : Q (.bool false)) : oq (dNe (.tuple (LF f)) (.tuple (LF f))) Q := oq_ne_d (dEqB_self okLF.2 rfl) q
theorem ne_LFl {f : Nat → Int} {Q : D → Prop} (q : Q (.bool false)) : oq (dNe (.list (LF f)) (.list (LF f))) Q := oq_ne_d (dEqB_self okLF.1 rfl) q
theorem ne_VD {v : Vec} {Q : D → Prop} (q : Q (.bool false)) : oq (dNe (VD v) (VD v)) Q := oq_ne_d (dEqB_self (okD_VD 58 v) rfl) q
theorem ne_S {s : Str} {Q : D → Prop} (q : Q (.bool false)) : oq (dNe (.str s) (.str s)) Q := oq_ne_s (by rw [decide_eq_true rfl]; exact q)
theorem LF_counts (v : Vec) : ((List.range 9).map fun i => PyData.int (cnt v (((i : Nat) : Int) + 1))) = LF (cs v) := rfl
/-- one count made greater -/
theorem less_up {v : Vec} {j : Nat} {m : Int} (hv : VOk v) (hj : j < 9) (hm : cs v j < m) : cmpS (ls (cs v) (cs (vo (setF (cs v) j m)))) (ls (cs (vo (setF (cs v) j m))) (cs v)) = Str.ofString "less" := by
  have nn := cs_nn hv
  have e : ∀ i, i < 9 → cs (vo (setF (cs v) j m)) i = setF (cs v) j m i := fun i hi => cs_vo (fun k hk => by
    unfold setF
    split
    · have := nn j; omega
    · exact nn k) hi
  have h1 : ls (cs v) (cs (vo (setF (cs v) j m))) = true := List.any_eq_true.mpr ⟨j, List.mem_range.mpr hj, by
    rw [e j hj]
    unfold setF
    rw [if_pos rfl]
    exact decide_eq_true hm⟩
  have h2 : ls (cs (vo (setF (cs v) j m))) (cs v) = false := by
    unfold ls
    rw [List.any_eq_false]
    intro i hi
    have hi := List.mem_range.mp hi
    rw [e i hi]
    unfold setF
    split
    · rename_i q
      subst q
      simp; omega
    · simp
  rw [h1, h2]
  rfl
def St (ns : List Int) (x1 x2 x3 x4 x5 x6 x7 x8 : Option Sl) : En := [some (.val (scriptD ns)), x1, x2, x3, x4, x5, x6, x7, x8, none]
theorem law_true : ∀ ns : List Int, ns.length ≤ 63 → ∃ as, f_law [.val (scriptD ns)] = some (.bool true, as) := by
  intro ns hns
  have key : fwp f_law [.val (scriptD ns)] fun d _ => d = .bool true := by
    unfold f_law m_law
    refine fwp_run rfl rfl ?_
    sizeOf_list_dec
    array_mem_dec
    refine wps_for (wp_range1 ?_)
    array_mem_dec
    refine ⟨8, rfl, by decide, fun ds ρ => ∃ (k : Nat) (x1 x2 x3 x4 x5 x6 x7 x8 : Option Sl), ds = nums (k : Nat) (8 - k) ∧ k ≤ 8 ∧ Vn x1 ∧ Vn x2 ∧ Vn x3 ∧ Vn x4 ∧ Nb x5 ∧ Vn x6 ∧ Vn x7 ∧ Vn x8 ∧ ρ = St ns x1 x2 x3 x4 x5 x6 x7 x8, ⟨0, none, none, none, none, none, none, none, none, rfl, Nat.zero_le _, .inl rfl, .inl rfl, .inl rfl, .inl rfl, nb_none, .inl rfl, .inl rfl, .inl rfl, rfl⟩, ?_, ?_⟩
    · rintro d ds ρ ⟨k, x1, x2, x3, x4, x5, x6, x7, x8, e, hk, h1, h2, h3, h4, h5, h6, h7, h8, rfl⟩
      rcases Nat.lt_or_ge k 8 with hk | hk
      · rw [show 8 - k = (8 - (k + 1)) + 1 by omega] at e
        simp only [nums, List.cons.injEq] at e
        obtain ⟨rfl, rfl⟩ := e
        have e1 : ((k : Nat) : Int) + 1 = ((k + 1 : Nat) : Int) := by omega
        rw [e1]
        unfold St
        refine oq_setv_nb rfl h1 ?_
        simp only [List.set]
        array_mem_dec
        refine cell_ok (by omega) ?_
        sizeOf_list_dec
        array_mem_dec
        refine vector_ok fun v hv => ?_
        sizeOf_list_dec
        array_mem_dec
        refine oq_setv_nb rfl h2 ?_
        simp only [List.set]
        array_mem_dec
        refine cell_ok (by omega) ?_
        sizeOf_list_dec
        array_mem_dec
        refine vector_ok fun w hw => ?_
        sizeOf_list_dec
        array_mem_dec
        refine oq_setv_nb rfl h3 ?_
        simp only [List.set]
        array_mem_dec
        refine cell_ok (by omega) ?_
        sizeOf_list_dec
        array_mem_dec
        refine oq_setv_nb rfl h4 ?_
        simp only [List.set]
        generalize cell ns (16 + (k : Nat)) = cc
        array_get_dec
        refine thn_nx (wps_seq (wps_post (fun o => ∃ w, VOk w ∧ o = .nx [some (.val (scriptD ns)), some (.val (.int (k : Nat))), some (.val (VD v)), some (.val (VD w)), some (.val (.int cc)), x5, x6, x7, x8, none]) ?_ ?_))
        · array_mem_dec
          · have lv : (VL v).length ≤ 1000 := by
              have h1 : (v.map (·.1)).length ≤ ((List.range 100).map fun (i : Nat) => (i : Int)).length := by
                refine List.Nodup.length_le_of_subset hv.1 fun z hz => ?_
                obtain ⟨p, hp, rfl⟩ := List.mem_map.mp hz
                have := hv.2 p hp
                exact List.mem_map.mpr ⟨p.1.toNat, List.mem_range.mpr (by omega), by omega⟩
              unfold VL
              simp at h1 ⊢
              omega
            unfold VD
            refine oq_add_t (by simp; omega) ?_
            array_mem_dec
            refine ⟨v, hv, ?_⟩
            rw [List.append_nil]
          · exact ⟨w, hw, rfl⟩
        clear hw w
        rintro o ⟨w, hw, rfl⟩
        have d0 : 0 ≤ cc / 3 % 9 := Int.emod_nonneg _ (by decide)
        have d1 : cc / 3 % 9 < 9 := Int.emod_lt_of_pos _ (by decide)
        have r0 : 0 ≤ cc / 27 % 5 := Int.emod_nonneg _ (by decide)
        array_mem_dec
        refine lcounts_ok hv ?_
        sizeOf_list_dec
        array_mem_dec
        refine oq_seto_n rfl h5 ?_
        simp only [List.set]
        array_mem_dec
        refine lcounts_ok hw ?_
        sizeOf_list_dec
        array_mem_dec
        refine oq_seto_nb rfl h6 ?_
        simp only [List.set]
        array_mem_dec
        refine oq_setv_nb rfl h7 ?_
        simp only [List.set]
        array_mem_dec
        refine LF_ix (by omega) (by omega) ?_
        array_mem_dec
        refine oq_setv_nb rfl h8 ?_
        simp only [List.set]
        generalize cc / 3 % 9 = dd at d0 d1
        generalize cc / 27 % 5 = rr at r0
        have ej : (1 + dd - 1).toNat = dd.toNat := by omega
        rw [ej]
        have lt9 : dd.toNat < 9 := by omega
        generalize hm : cs v dd.toNat + 1 + rr = m
        have hm : cs v dd.toNat < m := by omega
        array_mem_dec
        refine counts_ok ?_
        sizeOf_list_dec
        array_mem_dec
        refine ne_LFt ?_
        array_mem_dec
        refine wp_map (List.range 9) (fun i => .int (0 + (i : Nat))) (fun i => .int (cnt v (((i : Nat) : Int) + 1))) (wp_range1 ?_)
        array_mem_dec
        refine ⟨9, rfl, by decide, nums_map _ _, by simp, fun i hi => ?_, ?_⟩
        · rw [Int.zero_add]
          sizeOf_list_dec
          array_mem_dec
          refine count_ok ?_
          sizeOf_list_dec
          array_mem_dec
          refine ⟨?_, ?_⟩ <;> first | rfl | trivial
        rw [LF_counts]
        array_mem_dec
        refine ne_LFl ?_
        array_mem_dec
        refine compare_ok ?_
        sizeOf_list_dec
        array_mem_dec
        refine due_ok ?_
        sizeOf_list_dec
        array_mem_dec
        rotate_left
        · rename_i h
          exact absurd rfl h
        refine compare_ok ?_
        sizeOf_list_dec
        array_mem_dec
        refine due_ok ?_
        sizeOf_list_dec
        array_mem_dec
        rotate_left
        · rename_i h
          exact absurd rfl h
        refine join_ok ?_
        sizeOf_list_dec
        array_mem_dec
        refine wp_map (List.range 9) (fun i => .int (0 + (i : Nat))) (fun i => .int (mx (cs v) (cs w) i)) (wp_range1 ?_)
        array_mem_dec
        refine ⟨9, rfl, by decide, nums_map _ _, by simp, fun i hi => ?_, ?_⟩
        · have hi := List.mem_range.mp hi
          rw [Int.zero_add]
          sizeOf_list_dec
          array_mem_dec
          refine LF_ix (by omega) (by omega) ?_
          array_mem_dec
          refine LF_ix (by omega) (by omega) ?_
          array_mem_dec
          exact ⟨rfl, by first | rfl | trivial⟩
        array_mem_dec
        refine made_ok (f := mx (cs v) (cs w)) ?_
        sizeOf_list_dec
        array_mem_dec
        refine ne_VD ?_
        array_mem_dec
        refine oq_ixN (by omega) (by rw [LF_len]; omega) ?_
        sizeOf_list_dec
        rw [ej, LF_set lt9]
        array_mem_dec
        refine raised_ok (by omega) ?_
        rw [ej]
        sizeOf_list_dec
        array_mem_dec
        refine made_ok ?_
        sizeOf_list_dec
        array_mem_dec
        refine ne_VD ?_
        array_mem_dec
        refine raised_ok (by omega) ?_
        rw [ej]
        sizeOf_list_dec
        array_mem_dec
        refine compare_ok ?_
        rw [less_up hv lt9 hm]
        sizeOf_list_dec
        array_mem_dec
        rotate_left
        · rename_i h
          exact absurd rfl h
        exact ⟨k + 1, _, _, _, _, _, _, _, _, rfl, hk, .inr ⟨_, rfl⟩, .inr ⟨_, rfl⟩, .inr ⟨_, rfl⟩, .inr ⟨_, rfl⟩, nb_own, .inr ⟨_, rfl⟩, .inr ⟨_, rfl⟩, .inr ⟨_, rfl⟩, rfl⟩
      · rw [show 8 - k = 0 by omega] at e
        cases e
    · rintro ρ ⟨k, x1, x2, x3, x4, x5, x6, x7, x8, e, hk, h1, h2, h3, h4, h5, h6, h7, h8, rfl⟩
      unfold St
      array_mem_dec
      rfl
  obtain ⟨d, as, e, rfl⟩ := key
  exact ⟨as, e⟩
end K01

open PySem PySem.W PyProof.Rows in
set_option maxRecDepth 100000 in
set_option maxHeartbeats 0 in
theorem PySem.Challenge.cw_folderkin_k01_vectors_holds : PySem.Challenge.rw_folderkin_k01_vectors.Holds := by
  w_on; o_law; k_head; (case hw => w_witness2)
  k_fill
  refine Dz.walk_law (l := PySem.Challenge.rw_folderkin_k01_vectors) (k := 4) (x := "_law_script") rfl rfl ⟨rfl, by decide, by decide⟩ (fun w h Y => PySem.W.kIn_of Y) ?F
  case F =>
    intro w mg fa h KX G hmg
    refine' K01.all_mk KX G hmg ?a0 ?l0 ?c0 ?k0 ?a1 ?l1 ?c1 ?k1 ?a2 ?l2 ?c2 ?k2 ?a3 ?l3 ?c3 ?k3 ?a4 ?l4 ?c4 ?k4 ?a5 ?l5 ?c5 ?k5 ?a6 ?l6 ?c6 ?k6 ?a7 ?l7 ?c7 ?k7 ?a8 ?l8 ?c8 ?k8 ?a9 ?l9 ?c9 ?k9 ?a10 ?l10 ?c10 ?k10 ?a11 ?l11 ?c11 ?k11 ?z_any ?z_int ?z_len ?z_list ?z_max ?z_range ?z_tuple ?z_zip ?y_DEVICES K01.law_true
    (case a0 => k_is)
    (case l0 => k_is)
    (case c0 => k_is)
    (case k0 => k_is)
    (case a1 => k_is)
    (case l1 => k_is)
    (case c1 => k_is)
    (case k1 => k_is)
    (case a2 => k_is)
    (case l2 => k_is)
    (case c2 => k_is)
    (case k2 => k_is)
    (case a3 => k_is)
    (case l3 => k_is)
    (case c3 => k_is)
    (case k3 => k_is)
    (case a4 => k_is)
    (case l4 => k_is)
    (case c4 => k_is)
    (case k4 => k_is)
    (case a5 => k_is)
    (case l5 => k_is)
    (case c5 => k_is)
    (case k5 => k_is)
    (case a6 => k_is)
    (case l6 => k_is)
    (case c6 => k_is)
    (case k6 => k_is)
    (case a7 => k_is)
    (case l7 => k_is)
    (case c7 => k_is)
    (case k7 => k_is)
    (case a8 => k_is)
    (case l8 => k_is)
    (case c8 => k_is)
    (case k8 => k_is)
    (case a9 => k_is)
    (case l9 => k_is)
    (case c9 => k_is)
    (case k9 => k_is)
    (case a10 => k_is)
    (case l10 => k_is)
    (case c10 => k_is)
    (case k10 => k_is)
    (case a11 => k_is)
    (case l11 => k_is)
    (case c11 => k_is)
    (case k11 => k_is)
    (case z_any => k_is)
    (case z_int => k_is)
    (case z_len => k_is)
    (case z_list => k_is)
    (case z_max => k_is)
    (case z_range => k_is)
    (case z_tuple => k_is)
    (case z_zip => k_is)
    (case y_DEVICES => k_is)

